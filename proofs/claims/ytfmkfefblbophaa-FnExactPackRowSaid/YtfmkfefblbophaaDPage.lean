/-
  What the functions that look for a page's fault come to.
-/
import Derived.Test.YtfmkfefblbophaaDByt
set_option linter.unusedVariables false
set_option maxRecDepth 100000
set_option linter.unusedSimpArgs false
namespace Vm
open Go

def plc (l : List UInt8) (i : Nat) : Int := bt l ((2 + 2 * i : Nat) : Int)
def siz (l : List UInt8) (i : Nat) : Int := bt l ((3 + 2 * i : Nat) : Int)
def slotB (l : List UInt8) (i : Nat) : Prop := if plc l i = 0 ∨ siz l i = 0 then plc l i = siz l i else bt l 1 ≤ plc l i ∧ plc l i + siz l i ≤ 64
def apartB (l : List UInt8) (i k : Nat) : Prop := siz l i = 0 ∨ siz l k = 0 ∨ plc l i + siz l i ≤ plc l k ∨ plc l k + siz l k ≤ plc l i
def cnt (l : List UInt8) : Nat := (bt l 0).toNat
theorem cnt_eq (l : List UInt8) : ((cnt l : Nat) : Int) = bt l 0 := by unfold cnt; have := bt_nn l 0; omega
def headB (l : List UInt8) : Prop := bt l 0 ≤ 16 ∧ 2 + 2 * bt l 0 ≤ bt l 1 ∧ bt l 1 ≤ 64
/-- the fault that a page has -/
def PageIs (l : List UInt8) (c : Int) : Prop :=
  (l.length ≠ 64 ∧ c = 1) ∨ (l.length = 64 ∧ ¬ headB l ∧ c = 3) ∨ (l.length = 64 ∧ headB l ∧ (∃ i, i < cnt l ∧ ¬ slotB l i) ∧ c = 3) ∨
  (l.length = 64 ∧ headB l ∧ (∀ i, i < cnt l → slotB l i) ∧ (∃ i k, i < cnt l ∧ k < i ∧ ¬ apartB l i k) ∧ c = 8) ∨
  (l.length = 64 ∧ headB l ∧ (∀ i, i < cnt l → slotB l i) ∧ (∀ i k, i < cnt l → k < i → apartB l i k) ∧ (0 < cnt l ∧ siz l (cnt l - 1) = 0) ∧ c = 8) ∨
  (l.length = 64 ∧ headB l ∧ (∀ i, i < cnt l → slotB l i) ∧ (∀ i k, i < cnt l → k < i → apartB l i k) ∧ ¬ (0 < cnt l ∧ siz l (cnt l - 1) = 0) ∧ c = 0)
theorem PageIs.uniq {l : List UInt8} {c c' : Int} (h : PageIs l c) (h' : PageIs l c') : c = c' := by
  unfold PageIs at h h'
  by_cases h1 : l.length = 64 <;> simp only [h1, ne_eq, not_true_eq_false, not_false_eq_true, true_and, false_and, false_or, or_false] at h h'
  case neg => omega
  by_cases h2 : headB l <;> simp only [h2, not_true_eq_false, not_false_eq_true, true_and, false_and, false_or, or_false] at h h'
  case neg => omega
  by_cases h3 : ∀ i, i < cnt l → slotB l i
  case neg =>
    have h3' : ∃ i, i < cnt l ∧ ¬ slotB l i := by
      apply Classical.byContradiction; intro hh
      exact h3 fun i hi => Classical.byContradiction fun hs => hh ⟨i, hi, hs⟩
    simp only [h3, h3', not_true_eq_false, not_false_eq_true, true_and, false_and, false_or, or_false] at h h'
    omega
  have h3' : ¬ ∃ i, i < cnt l ∧ ¬ slotB l i := fun ⟨i, hi, hs⟩ => hs (h3 i hi)
  simp only [h3', false_and, false_or] at h h'
  by_cases h4 : ∀ i k, i < cnt l → k < i → apartB l i k
  case neg =>
    rcases h with ⟨_, _, h⟩ | ⟨_, h, _⟩ | ⟨_, h, _⟩
    · rcases h' with ⟨_, _, h'⟩ | ⟨_, h', _⟩ | ⟨_, h', _⟩
      · omega
      · exact absurd h' h4
      · exact absurd h' h4
    · exact absurd h h4
    · exact absurd h h4
  have h4' : ¬ ∃ i k, i < cnt l ∧ k < i ∧ ¬ apartB l i k := fun ⟨i, k, hi, hk, hs⟩ => hs (h4 i k hi hk)
  simp only [h4', false_and, and_false, false_or] at h h'
  by_cases h5 : 0 < cnt l ∧ siz l (cnt l - 1) = 0
  · rcases h with ⟨_, _, _, h⟩ | ⟨_, _, h, _⟩
    · rcases h' with ⟨_, _, _, h'⟩ | ⟨_, _, h', _⟩
      · omega
      · exact absurd h5 h'
    · exact absurd h5 h
  · rcases h with ⟨_, _, h, _⟩ | ⟨_, _, _, h⟩
    · exact absurd h h5
    · rcases h' with ⟨_, _, h', _⟩ | ⟨_, _, _, h'⟩
      · exact absurd h' h5
      · omega

theorem pl_bd (l : List UInt8) (i : Nat) : 0 ≤ plc l i ∧ plc l i < 256 ∧ 0 ≤ siz l i ∧ siz l i < 256 := ⟨bt_nn _ _, bt_lt _ _, bt_nn _ _, bt_lt _ _⟩
theorem cvI_u8 {n : Int} (h0 : 0 ≤ n) (h1 : n < 256) : cvI .i64 (.s (.int .u8 n)) = some (iv .i64 n) := by
  simp only [cvI]; rw [w64 (by omega) (by omega)]
section
variable {h : H} {v : V} {l : List UInt8} (hv : Bys h v l)
include hv
theorem c_l2Count (hl : 0 < l.length) : call Ev Fn.spec_l2Count [v] h = some (iv .i64 (bt l 0), h) := by
  rw [eq_spec_l2Count, hv.get (by omega) (by omega), cvI_u8 (bt_nn _ _) (bt_lt _ _), Option.bind_some]
theorem c_slots (hl : 0 < l.length) : call Ev Fn.impl_slots [v] h = some (iv .i64 (bt l 0), h) := by
  rw [eq_impl_slots, hv.get (by omega) (by omega), cvI_u8 (bt_nn _ _) (bt_lt _ _), Option.bind_some]
theorem c_l2Low (hl : 1 < l.length) : call Ev Fn.spec_l2Low [v] h = some (iv .i64 (bt l 1), h) := by
  rw [eq_spec_l2Low, hv.get (by omega) (by omega), cvI_u8 (bt_nn _ _) (bt_lt _ _), Option.bind_some]
theorem c_l2Place {i : Nat} (hl : 2 + 2 * i < l.length) (hi : i < 1000) : call Ev Fn.spec_l2Place [v, iv .i64 i] h = some (iv .i64 (plc l i), h) := by
  rw [eq_spec_l2Place, w64 (n := 2 * (i : Int)) (by omega) (by omega), w64 (by omega) (by omega), hv.get (by omega) (by omega), cvI_u8 (bt_nn _ _) (bt_lt _ _), Option.bind_some]
  rfl
theorem c_l2Size {i : Nat} (hl : 3 + 2 * i < l.length) (hi : i < 1000) : call Ev Fn.spec_l2Size [v, iv .i64 i] h = some (iv .i64 (siz l i), h) := by
  rw [eq_spec_l2Size, w64 (n := 2 * (i : Int)) (by omega) (by omega), w64 (by omega) (by omega), hv.get (by omega) (by omega), cvI_u8 (bt_nn _ _) (bt_lt _ _), Option.bind_some]
  rfl
theorem c_spot {i : Nat} (hl : 3 + 2 * i < l.length) (hi : i < 1000) : call Ev Fn.impl_spot [v, iv .i64 i] h = some (.tup [.s (.int .i64 (plc l i)), .s (.int .i64 (siz l i))], h) := by
  rw [eq_impl_spot, w64 (n := 2 * (i : Int)) (by omega) (by omega), w64 (by omega) (by omega), hv.get (by omega) (by omega), cvI_u8 (bt_nn _ _) (bt_lt _ _), Option.bind_some, w64 (by omega) (by omega), hv.get (by omega) (by omega), cvI_u8 (bt_nn _ _) (bt_lt _ _), Option.bind_some]
  rfl
theorem c_l2Slot {i : Nat} (hl : 3 + 2 * i < l.length) (hi : i < 1000) : ∃ b, call Ev Fn.spec_l2Slot [v, iv .i64 i] h = some (bv b, h) ∧ (b = true ↔ slotB l i) := by
  have e1 := c_l2Place hv (i := i) (by omega) hi
  have e2 := c_l2Size hv (i := i) (by omega) hi
  have e3 := c_l2Low hv (by omega)
  have b1 := bt_lt l ((2 + 2 * i : Nat) : Int)
  have b2 := bt_lt l ((3 + 2 * i : Nat) : Int)
  have b3 := bt_nn l ((2 + 2 * i : Nat) : Int)
  have b4 := bt_nn l ((3 + 2 * i : Nat) : Int)
  rw [eq_spec_l2Slot]
  simp only [e1, e2, e3, Option.bind_some, bin_eql, bin_geq, bin_add, bin_leq, gcase_v]
  unfold slotB
  have q1 : plc l i + siz l i < 512 := by unfold plc siz; omega
  have q2 : 0 ≤ plc l i ∧ 0 ≤ siz l i := ⟨b3, b4⟩
  rw [w64 (n := plc l i + siz l i) (by omega) (by omega)]
  by_cases hp : plc l i = 0
  · rw [vcase_pos hp, if_pos (.inl hp)]; exact ⟨_, rfl, by simp⟩
  rw [vcase_neg hp]
  by_cases hs : siz l i = 0
  · rw [vcase_pos hs, if_pos (.inr hs)]; exact ⟨_, rfl, by simp⟩
  rw [vcase_neg hs, if_neg (by omega)]
  by_cases hb : bt l 1 ≤ plc l i
  · rw [vcase_pos hb]; exact ⟨_, rfl, by simp [hb]⟩
  · rw [vcase_neg hb]; exact ⟨_, rfl, by simp [hb]⟩
theorem c_l2Apart {i k : Nat} (hl : 3 + 2 * i < l.length) (hi : i < 1000) (hl' : 3 + 2 * k < l.length) (hk : k < 1000) : ∃ b, call Ev Fn.spec_l2Apart [v, iv .i64 i, iv .i64 k] h = some (bv b, h) ∧ (b = true ↔ apartB l i k) := by
  have e1 := c_l2Place hv (i := i) (by omega) hi
  have e2 := c_l2Size hv (i := i) (by omega) hi
  have e3 := c_l2Place hv (i := k) (by omega) hk
  have e4 := c_l2Size hv (i := k) (by omega) hk
  have q1 := pl_bd l i
  have q2 := pl_bd l k
  rw [eq_spec_l2Apart]
  simp only [e1, e2, e3, e4, Option.bind_some, bin_eql, bin_add, bin_leq, gcase_v]
  rw [w64 (n := plc l i + siz l i) (by omega) (by omega), w64 (n := plc l k + siz l k) (by omega) (by omega)]
  unfold apartB
  by_cases h1 : siz l i = 0
  · rw [vcase_pos h1]; exact ⟨_, rfl, by simp [h1]⟩
  rw [vcase_neg h1]
  by_cases h2 : siz l k = 0
  · rw [vcase_pos h2]; exact ⟨_, rfl, by simp [h2]⟩
  rw [vcase_neg h2]
  by_cases h3 : plc l i + siz l i ≤ plc l k
  · rw [vcase_pos h3]; exact ⟨_, rfl, by simp [h3]⟩
  rw [vcase_neg h3]; exact ⟨_, rfl, by simp [h1, h2, h3]⟩
theorem lp_l2Fault0 {n : Nat} (hn : 2 + 2 * n ≤ l.length) (hn' : n < 1000) : ∀ k i : Nat, i + k = n →
    ((∀ j, i ≤ j → j < n → slotB l j) ∧ Lp.spec_l2Fault 0 [v, iv .i64 n, iv .i64 i] h = some (.done [v, iv .i64 n] h)) ∨
    ((∃ j, j < n ∧ ¬ slotB l j) ∧ Lp.spec_l2Fault 0 [v, iv .i64 n, iv .i64 i] h = some (.ret (iv .i64 3) h)) := by
  intro k
  induction k with
  | zero =>
    intro i hi
    exact .inl ⟨fun j h1 h2 => by omega, by rw [eq_spec_l2Fault_l0, vcase_neg (by omega)]⟩
  | succ k ih =>
    intro i hi
    obtain ⟨b, e, hb⟩ := c_l2Slot hv (i := i) (by omega) (by omega)
    rw [eq_spec_l2Fault_l0, vcase_pos (by omega), e, Option.bind_some, not_bv, Option.bind_some, vcase_bv]
    cases b with
    | false => exact .inr ⟨⟨i, by omega, fun hh => by simpa using hb.2 hh⟩, rfl⟩
    | true =>
      rw [if_neg (by simp), w64 (by omega) (by omega), show (i : Int) + 1 = ((i + 1 : Nat) : Int) from by omega]
      rcases ih (i + 1) (by omega) with ⟨h1, h2⟩ | h1
      · refine .inl ⟨fun j hj1 hj2 => ?_, h2⟩
        by_cases hj : j = i
        · subst hj; exact hb.1 rfl
        · exact h1 j (by omega) hj2
      · exact .inr h1
theorem lp_l2Fault4 {n i : Nat} (hn : 2 + 2 * n ≤ l.length) (hn' : n < 1000) (hi : i < n) : ∀ q k : Nat, k + q = i →
    ((∀ j, k ≤ j → j < i → apartB l i j) ∧ Lp.spec_l2Fault 4 [v, iv .i64 n, iv .i64 i, iv .i64 k] h = some (.done [v, iv .i64 n, iv .i64 i] h)) ∨
    ((∃ j, j < i ∧ ¬ apartB l i j) ∧ Lp.spec_l2Fault 4 [v, iv .i64 n, iv .i64 i, iv .i64 k] h = some (.ret (iv .i64 8) h)) := by
  intro q
  induction q with
  | zero =>
    intro k hk
    exact .inl ⟨fun j h1 h2 => by omega, by rw [eq_spec_l2Fault_l4, vcase_neg (by omega)]⟩
  | succ q ih =>
    intro k hk
    obtain ⟨b, e, hb⟩ := c_l2Apart hv (i := i) (k := k) (by omega) (by omega) (by omega) (by omega)
    rw [eq_spec_l2Fault_l4, vcase_pos (by omega), e, Option.bind_some, not_bv, Option.bind_some, vcase_bv]
    cases b with
    | false => exact .inr ⟨⟨k, by omega, fun hh => by simpa using hb.2 hh⟩, rfl⟩
    | true =>
      rw [if_neg (by simp), w64 (by omega) (by omega), show (k : Int) + 1 = ((k + 1 : Nat) : Int) from by omega]
      rcases ih (k + 1) (by omega) with ⟨h1, h2⟩ | h1
      · refine .inl ⟨fun j hj1 hj2 => ?_, h2⟩
        by_cases hj : j = k
        · subst hj; exact hb.1 rfl
        · exact h1 j (by omega) hj2
      · exact .inr h1
theorem lp_l2Fault2 {n : Nat} (hn : 2 + 2 * n ≤ l.length) (hn' : n < 1000) : ∀ q i : Nat, i + q = n →
    ((∀ j k, i ≤ j → j < n → k < j → apartB l j k) ∧ Lp.spec_l2Fault 2 [v, iv .i64 n, iv .i64 i] h = some (.done [v, iv .i64 n] h)) ∨
    ((∃ j k, j < n ∧ k < j ∧ ¬ apartB l j k) ∧ Lp.spec_l2Fault 2 [v, iv .i64 n, iv .i64 i] h = some (.ret (iv .i64 8) h)) := by
  intro q
  induction q with
  | zero =>
    intro i hi
    exact .inl ⟨fun j k h1 h2 => by omega, by rw [eq_spec_l2Fault_l2, vcase_neg (by omega)]⟩
  | succ q ih =>
    intro i hi
    rw [eq_spec_l2Fault_l2, vcase_pos (by omega), show iv .i64 0 = iv .i64 ((0 : Nat) : Int) from rfl]
    rcases lp_l2Fault4 hv hn hn' (i := i) (by omega) i 0 (by omega) with ⟨h1, h2⟩ | ⟨⟨j, h1, h1'⟩, h2⟩
    · rw [h2, Option.bind_some]
      simp only [lcase, List.getElem?_cons_zero, List.getElem?_cons_succ, Option.bind_some, bin_add]
      rw [w64 (by omega) (by omega), show (i : Int) + 1 = ((i + 1 : Nat) : Int) from by omega]
      rcases ih (i + 1) (by omega) with ⟨g1, g2⟩ | g1
      · refine .inl ⟨fun j k hj1 hj2 hk => ?_, g2⟩
        by_cases hj : j = i
        · subst hj; exact h1 k (by omega) hk
        · exact g1 j k (by omega) hj2 hk
      · exact .inr g1
    · rw [h2, Option.bind_some]
      exact .inr ⟨⟨i, j, by omega, h1, h1'⟩, rfl⟩
theorem c_l2Fault (hl : l.length < 2 ^ 62) : ∃ c, call Ev Fn.spec_l2Fault [v] h = some (iv .i64 c, h) ∧ PageIs l c := by
  rw [eq_spec_l2Fault, hv.len, Option.bind_some, bin_neq, Option.bind_some]
  by_cases h64 : l.length = 64
  case neg => rw [vcase_pos (by omega)]; exact ⟨_, rfl, .inl ⟨h64, rfl⟩⟩
  have b1 := bt_lt l 0
  have b2 := bt_nn l 0
  have hc := cnt_eq l
  rw [vcase_neg (by omega), c_l2Count hv (by omega), Option.bind_some, bin_gtr, Option.bind_some]
  by_cases g1 : bt l 0 ≤ 16
  case neg => rw [gcase_pos (by omega)]; exact ⟨_, rfl, .inr (.inl ⟨h64, fun hh => g1 hh.1, rfl⟩)⟩
  rw [gcase_neg (by omega), c_l2Low hv (by omega), Option.bind_some, bin_mul, Option.bind_some, w64 (n := 2 * bt l 0) (by omega) (by omega), bin_add, Option.bind_some, w64 (n := 2 + 2 * bt l 0) (by omega) (by omega), bin_lss, Option.bind_some]
  by_cases g2 : 2 + 2 * bt l 0 ≤ bt l 1
  case neg => rw [gcase_pos (by omega)]; exact ⟨_, rfl, .inr (.inl ⟨h64, fun hh => g2 hh.2.1, rfl⟩)⟩
  rw [gcase_neg (by omega), c_l2Low hv (by omega), Option.bind_some, bin_gtr, Option.bind_some]
  by_cases g3 : bt l 1 ≤ 64
  case neg => rw [vcase_pos (by omega)]; exact ⟨_, rfl, .inr (.inl ⟨h64, fun hh => g3 hh.2.2, rfl⟩)⟩
  have hd : headB l := ⟨g1, g2, g3⟩
  rw [vcase_neg (by omega), ← hc, show iv .i64 0 = iv .i64 ((0 : Nat) : Int) from rfl]
  rcases lp_l2Fault0 hv (n := cnt l) (by omega) (by omega) (cnt l) 0 (by omega) with ⟨s1, s2⟩ | ⟨⟨j, s1, s1'⟩, s2⟩
  case inr => rw [s2, Option.bind_some]; exact ⟨_, rfl, .inr (.inr (.inl ⟨h64, hd, ⟨j, s1, s1'⟩, rfl⟩))⟩
  have s1' : ∀ i, i < cnt l → slotB l i := fun i hi => s1 i (Nat.zero_le _) hi
  rw [s2, Option.bind_some]
  simp only [lcase, List.getElem?_cons_zero, List.getElem?_cons_succ, Option.bind_some]
  rcases lp_l2Fault2 hv (n := cnt l) (by omega) (by omega) (cnt l) 0 (by omega) with ⟨t1, t2⟩ | ⟨⟨j, k, t1, t3, t1'⟩, t2⟩
  case inr => rw [t2, Option.bind_some]; exact ⟨_, rfl, .inr (.inr (.inr (.inl ⟨h64, hd, s1', ⟨j, k, t1, t3, t1'⟩, rfl⟩)))⟩
  have t1' : ∀ i k, i < cnt l → k < i → apartB l i k := fun i k hi hk => t1 i k (Nat.zero_le _) hi hk
  rw [t2, Option.bind_some]
  simp only [lcase, List.getElem?_cons_zero, List.getElem?_cons_succ, Option.bind_some, bin_gtr, bin_sub, gcase_v]
  by_cases u : (0 : Int) < (cnt l : Int)
  case neg => rw [vcase_neg (by omega)]; exact ⟨_, rfl, .inr (.inr (.inr (.inr (.inr ⟨h64, hd, s1', t1', fun hh => by omega, rfl⟩))))⟩
  rw [vcase_pos (by omega), w64 (by omega) (by omega), show (cnt l : Int) - 1 = ((cnt l - 1 : Nat) : Int) from by omega, c_l2Size hv (by omega) (by omega), Option.bind_some, bin_eql, Option.bind_some]
  by_cases u2 : siz l (cnt l - 1) = 0
  · rw [vcase_pos (by simpa using u2)]; exact ⟨_, rfl, .inr (.inr (.inr (.inr (.inl ⟨h64, hd, s1', t1', ⟨by omega, u2⟩, rfl⟩))))⟩
  · rw [vcase_neg (by simpa using u2)]; exact ⟨_, rfl, .inr (.inr (.inr (.inr (.inr ⟨h64, hd, s1', t1', fun hh => u2 hh.2, rfl⟩))))⟩

/-! the program's own way -/
theorem lp_PF0 {n : Nat} (hn : 2 + 2 * n ≤ l.length) (hn' : n < 1000) : ∀ k i : Nat, i + k = n →
    ((∀ j, i ≤ j → j < n → slotB l j) ∧ Lp.impl_PageFault 0 [v, iv .i64 n, iv .i64 (bt l 1), iv .i64 n, iv .i64 i] h = some (.done [v, iv .i64 n] h)) ∨
    ((∃ j, j < n ∧ ¬ slotB l j) ∧ Lp.impl_PageFault 0 [v, iv .i64 n, iv .i64 (bt l 1), iv .i64 n, iv .i64 i] h = some (.ret (iv .i64 3) h)) := by
  intro k
  induction k with
  | zero =>
    intro i hi
    exact .inl ⟨fun j h1 h2 => by omega, by rw [eq_impl_PageFault_l0, vcase_neg (by omega)]⟩
  | succ k ih =>
    intro i hi
    have q1 := pl_bd l i
    rw [eq_impl_PageFault_l0, vcase_pos (by omega), c_spot hv (by omega) (by omega), Option.bind_some]
    simp only [extr, List.getElem?_cons_zero, List.getElem?_cons_succ, Option.map_some, A.v, Option.bind_some, bin_eql, bin_neq, bin_lss, bin_gtr, bin_add, gcase_v]
    rw [w64 (n := plc l i + siz l i) (by omega) (by omega), w64 (n := (i : Int) + 1) (by omega) (by omega), show (i : Int) + 1 = ((i + 1 : Nat) : Int) from by omega, bin_eqb (by rfl) rfl, Option.bind_some, gcase_v]
    have more : slotB l i → ((∀ j, i ≤ j → j < n → slotB l j) ∧ Lp.impl_PageFault 0 [v, iv .i64 n, iv .i64 (bt l 1), iv .i64 n, iv .i64 ((i + 1 : Nat) : Int)] h = some (.done [v, iv .i64 n] h)) ∨
        ((∃ j, j < n ∧ ¬ slotB l j) ∧ Lp.impl_PageFault 0 [v, iv .i64 n, iv .i64 (bt l 1), iv .i64 n, iv .i64 ((i + 1 : Nat) : Int)] h = some (.ret (iv .i64 3) h)) := by
      intro hs
      rcases ih (i + 1) (by omega) with ⟨h1, h2⟩ | h1
      · refine .inl ⟨fun j hj1 hj2 => ?_, h2⟩
        by_cases hj : j = i
        · subst hj; exact hs
        · exact h1 j (by omega) hj2
      · exact .inr h1
    have bad : ¬ slotB l i → ∃ j, j < n ∧ ¬ slotB l j := fun hs => ⟨i, by omega, hs⟩
    unfold slotB at more bad
    by_cases hp : plc l i = 0
    · by_cases hs : siz l i = 0
      · rw [vcase_bv, if_neg (by simp [hp, hs]), vcase_neg (by omega), vcase_neg (by omega)]
        exact more (by rw [if_pos (.inl hp)]; omega)
      · rw [vcase_bv, if_pos (by simp [hp, hs])]
        exact .inr ⟨bad (by rw [if_pos (.inl hp)]; omega), rfl⟩
    · by_cases hs : siz l i = 0
      · rw [vcase_bv, if_pos (by simp [hp, hs])]
        exact .inr ⟨bad (by rw [if_pos (.inr hs)]; omega), rfl⟩
      · rw [vcase_bv, if_neg (by simp [hp, hs]), vcase_pos (by omega)]
        by_cases hb : bt l 1 ≤ plc l i
        · rw [vcase_neg (by omega)]
          by_cases hz : plc l i + siz l i ≤ 64
          · rw [vcase_neg (by omega)]
            exact more (by rw [if_neg (by omega)]; omega)
          · rw [vcase_pos (by omega)]
            exact .inr ⟨bad (by rw [if_neg (by omega)]; omega), rfl⟩
        · rw [vcase_pos (by omega)]
          exact .inr ⟨bad (by rw [if_neg (by omega)]; omega), rfl⟩
end
def usedC (f : Nat → Bool) : List S := (List.range 64).map fun y => .bool (f y)
theorem usedC0 : usedC (fun _ => false) = [.bool false, .bool false, .bool false, .bool false, .bool false, .bool false, .bool false, .bool false, .bool false, .bool false, .bool false, .bool false, .bool false, .bool false, .bool false, .bool false, .bool false, .bool false, .bool false, .bool false, .bool false, .bool false, .bool false, .bool false, .bool false, .bool false, .bool false, .bool false, .bool false, .bool false, .bool false, .bool false, .bool false, .bool false, .bool false, .bool false, .bool false, .bool false, .bool false, .bool false, .bool false, .bool false, .bool false, .bool false, .bool false, .bool false, .bool false, .bool false, .bool false, .bool false, .bool false, .bool false, .bool false, .bool false, .bool false, .bool false, .bool false, .bool false, .bool false, .bool false, .bool false, .bool false, .bool false, .bool false] := by rfl
theorem usedC_get {f : Nat → Bool} {y : Nat} (h : y < 64) : (usedC f)[y]? = some (.bool (f y)) := by simp [usedC, h]
theorem usedC_set {f : Nat → Bool} {x : Nat} : (usedC f).set x (.bool true) = usedC fun y => if y = x then true else f y := by
  refine List.ext_getElem? fun y => ?_
  by_cases hy : y < 64
  · by_cases hx : y = x
    · subst hx
      rw [List.getElem?_set_self (by simp [usedC]; exact hy), usedC_get hy]; simp
    · rw [List.getElem?_set_ne (by omega), usedC_get hy, usedC_get hy]; simp [hx]
  · rw [List.getElem?_eq_none (by simp [usedC]; omega), List.getElem?_eq_none (by simp [usedC]; omega)]
theorem usedC_ext {f g : Nat → Bool} (h : ∀ y, y < 64 → f y = g y) : usedC f = usedC g := by
  unfold usedC
  exact List.map_congr_left fun y hy => by rw [h y (List.mem_range.1 hy)]
theorem idxA_of {len b : Nat} {k : IntKind} {x : Nat} (hx : x < len) : idxA len 1 (pv b 0) (iv k x) = some (pv b x) := by
  simp only [idxA]; rw [if_pos ⟨by omega, by omega⟩]; simp
section
variable {h : H} {v : V} {l : List UInt8} (hv : Bys h v l)
theorem lp_PF4 {n i P Q : Nat} (hn : n < 1000) (hi : i < 1000) (hP : P + Q ≤ 64) : ∀ (q x : Nat) (f : Nat → Bool) (k : Nat), x + q = P + Q →
    ((∀ y, x ≤ y → y < P + Q → f y = false) ∧ ∃ k', Lp.impl_PageFault 4 [v, iv .i64 n, pv h.n 0, iv .i64 P, iv .i64 Q, iv .i64 x, iv .i64 n, iv .i64 i] (h.nw 0 (usedC f) k) =
      some (.done [v, iv .i64 n, pv h.n 0, iv .i64 n, iv .i64 i] (h.nw 0 (usedC fun y => f y || (decide (x ≤ y) && decide (y < P + Q))) k'))) ∨
    ((∃ y, x ≤ y ∧ y < P + Q ∧ f y = true) ∧ ∃ k' f', Lp.impl_PageFault 4 [v, iv .i64 n, pv h.n 0, iv .i64 P, iv .i64 Q, iv .i64 x, iv .i64 n, iv .i64 i] (h.nw 0 (usedC f) k) = some (.ret (iv .i64 8) (h.nw 0 (usedC f') k'))) := by
  intro q
  induction q with
  | zero =>
    intro x f k hx
    refine .inl ⟨fun y h1 h2 => by omega, k, ?_⟩
    rw [eq_impl_PageFault_l4, w64 (n := (P : Int) + Q) (by omega) (by omega), vcase_neg (by omega)]
    congr 3
    exact usedC_ext fun y hy => by
      have : (decide (x ≤ y) && decide (y < P + Q)) = false := by simp; omega
      rw [this]; simp
  | succ q ih =>
    intro x f k hx
    rw [eq_impl_PageFault_l4, w64 (n := (P : Int) + Q) (by omega) (by omega), vcase_pos (by omega), idxA_of (by omega), Option.bind_some, load1_nw rfl, usedC_get (by omega), Option.bind_some, vcase_bv]
    by_cases hf : f x = true
    · rw [if_pos hf]
      exact .inr ⟨⟨x, Nat.le_refl _, by omega, hf⟩, k, f, rfl⟩
    · rw [if_neg hf, Option.bind_some, st1_nw rfl rfl (by simp [usedC]; omega), Option.bind_some, usedC_set, w64 (by omega) (by omega), show (x : Int) + 1 = ((x + 1 : Nat) : Int) from by omega]
      rcases ih (x + 1) (fun y => if y = x then true else f y) (k + 1) (by omega) with ⟨h1, k', h2⟩ | ⟨⟨y, h1, h2, h3⟩, k', f', h4⟩
      · refine .inl ⟨fun y hy1 hy2 => ?_, k', ?_⟩
        · by_cases hy : y = x
          · subst hy; simpa using hf
          · have := h1 y (by omega) hy2; simpa [hy] using this
        · rw [h2]
          congr 3
          exact usedC_ext fun y hy => by
            by_cases hyx : y = x
            · subst hyx; simp; omega
            · simp only [if_neg hyx]
              congr 2
              simp; omega
      · refine .inr ⟨⟨y, by omega, h2, ?_⟩, k', f', h4⟩
        have hy : y ≠ x := by omega
        simpa [hy] using h3
/-- a cell covers a byte -/
def cov (l : List UInt8) (j y : Nat) : Prop := plc l j ≤ y ∧ (y : Int) < plc l j + siz l j
include hv
theorem lp_PF2 {n : Nat} (hn : 2 + 2 * n ≤ l.length) (hn' : n < 1000) (hs : ∀ j, j < n → slotB l j) : ∀ (q i : Nat) (f : Nat → Bool) (k : Nat), i + q = n → (∀ y, y < 64 → (f y = true ↔ ∃ j, j < i ∧ cov l j y)) →
    ((∀ j k, i ≤ j → j < n → k < j → apartB l j k) ∧ ∃ f' k', Lp.impl_PageFault 2 [v, iv .i64 n, pv h.n 0, iv .i64 n, iv .i64 i] (h.nw 0 (usedC f) k) = some (.done [v, iv .i64 n] (h.nw 0 (usedC f') k'))) ∨
    ((∃ j k, j < n ∧ k < j ∧ ¬ apartB l j k) ∧ ∃ f' k', Lp.impl_PageFault 2 [v, iv .i64 n, pv h.n 0, iv .i64 n, iv .i64 i] (h.nw 0 (usedC f) k) = some (.ret (iv .i64 8) (h.nw 0 (usedC f') k'))) := by
  intro q
  induction q with
  | zero =>
    intro i f k hi hf
    exact .inl ⟨fun j k h1 h2 => by omega, f, k, by rw [eq_impl_PageFault_l2, vcase_neg (by omega)]⟩
  | succ q ih =>
    intro i f k hi hf
    have q1 := pl_bd l i
    have hsl := hs i (by omega)
    have hPQ : plc l i + siz l i ≤ 64 := by
      unfold slotB at hsl
      split at hsl <;> omega
    obtain ⟨P, hP⟩ : ∃ P : Nat, plc l i = P := ⟨(plc l i).toNat, by omega⟩
    obtain ⟨Q, hQ⟩ : ∃ Q : Nat, siz l i = Q := ⟨(siz l i).toNat, by omega⟩
    rw [eq_impl_PageFault_l2, vcase_pos (by omega), c_spot (hv.mono (HExt.nw h 0 _ k)) (by omega) (by omega), Option.bind_some]
    simp only [extr, List.getElem?_cons_zero, List.getElem?_cons_succ, Option.map_some, A.v, Option.bind_some, hP, hQ]
    rcases lp_PF4 (h := h) (v := v) (n := n) (i := i) (P := P) (Q := Q) hn' (by omega) (by omega) Q P f k rfl with ⟨h1, k', h2⟩ | ⟨⟨y, h1, h2, h3⟩, k', f', h4⟩
    · rw [h2, Option.bind_some]
      simp only [lcase, List.getElem?_cons_zero, List.getElem?_cons_succ, Option.bind_some, bin_add]
      rw [w64 (by omega) (by omega), show (i : Int) + 1 = ((i + 1 : Nat) : Int) from by omega]
      have ap : ∀ j, j < i → apartB l i j := by
        intro j hj
        apply Classical.byContradiction
        intro hna
        unfold apartB at hna
        simp only [not_or] at hna
        have q2 := pl_bd l j
        have hj' := hs j (by omega)
        have hPQ' : plc l j + siz l j ≤ 64 := by
          unfold slotB at hj'
          split at hj' <;> omega
        obtain ⟨P', hP'⟩ : ∃ P : Nat, plc l j = P := ⟨(plc l j).toNat, by omega⟩
        have hy := h1 (max P P') (by omega) (by omega)
        have := (hf (max P P') (by omega)).2 ⟨j, hj, by unfold cov; omega⟩
        rw [hy] at this; cases this
      have ch : ∀ y, y < 64 → ((f y || (decide (P ≤ y) && decide (y < P + Q))) = true ↔ ∃ j, j < i + 1 ∧ cov l j y) := by
        intro y hy
        simp only [Bool.or_eq_true, Bool.and_eq_true, decide_eq_true_eq]
        constructor
        · rintro (hh | hh)
          · obtain ⟨j, hj, hc⟩ := (hf y hy).1 hh; exact ⟨j, by omega, hc⟩
          · exact ⟨i, by omega, by unfold cov; omega⟩
        · rintro ⟨j, hj, hc⟩
          by_cases hji : j = i
          · subst hji; right; unfold cov at hc; omega
          · left; exact (hf y hy).2 ⟨j, by omega, hc⟩
      rcases ih (i + 1) (fun y => f y || (decide (P ≤ y) && decide (y < P + Q))) k' (by omega) ch with ⟨g1, f'', k'', g2⟩ | ⟨g1, f'', k'', g2⟩
      · refine .inl ⟨fun j k hj1 hj2 hk => ?_, f'', k'', g2⟩
        by_cases hj : j = i
        · subst hj; exact ap k hk
        · exact g1 j k (by omega) hj2 hk
      · exact .inr ⟨g1, f'', k'', g2⟩
    · rw [h4, Option.bind_some]
      obtain ⟨j, hj, hc⟩ := (hf y (by omega)).1 h3
      refine .inr ⟨⟨i, j, by omega, hj, ?_⟩, f', k', rfl⟩
      unfold cov at hc; unfold apartB
      omega
theorem c_impl_PageFault : ∃ c h', call Ev Fn.impl_PageFault [v] h = some (iv .i64 c, h') ∧ PageIs l c ∧ HExt h h' := by
  rw [eq_impl_PageFault, hv.len, Option.bind_some, bin_neq, Option.bind_some]
  by_cases h64 : l.length = 64
  case neg =>
    by_cases hl : (l.length : Int) = 64
    · omega
    · rw [vcase_pos hl]; exact ⟨_, _, rfl, .inl ⟨h64, rfl⟩, HExt.refl h⟩
  have b1 := bt_lt l 0
  have b2 := bt_nn l 0
  have b3 := bt_lt l 1
  have b4 := bt_nn l 1
  have hc := cnt_eq l
  rw [vcase_neg (by omega), hv.get (by omega) (by omega), cvI_u8 b4 b3, Option.bind_some, c_slots hv (by omega), Option.bind_some, hchk_of (HExt.refl h), bin_gtr, Option.bind_some]
  by_cases g1 : bt l 0 ≤ 16
  case neg => rw [gcase_pos (by omega)]; exact ⟨_, _, rfl, .inr (.inl ⟨h64, fun hh => g1 hh.1, rfl⟩), HExt.refl h⟩
  rw [gcase_neg (by omega), bin_mul, Option.bind_some, w64 (n := 2 * bt l 0) (by omega) (by omega), bin_add, Option.bind_some, w64 (n := 2 + 2 * bt l 0) (by omega) (by omega), bin_lss, Option.bind_some]
  by_cases g2 : 2 + 2 * bt l 0 ≤ bt l 1
  case neg => rw [gcase_pos (by omega)]; exact ⟨_, _, rfl, .inr (.inl ⟨h64, fun hh => g2 hh.2.1, rfl⟩), HExt.refl h⟩
  rw [gcase_neg (by omega), bin_gtr, Option.bind_some]
  by_cases g3 : bt l 1 ≤ 64
  case neg => rw [vcase_pos (by omega)]; exact ⟨_, _, rfl, .inr (.inl ⟨h64, fun hh => g3 hh.2.2, rfl⟩), HExt.refl h⟩
  have hd : headB l := ⟨g1, g2, g3⟩
  rw [vcase_neg (by omega), ← hc, show iv .i64 0 = iv .i64 ((0 : Nat) : Int) from rfl]
  rcases lp_PF0 hv (n := cnt l) (by omega) (by omega) (cnt l) 0 (by omega) with ⟨s1, s2⟩ | ⟨⟨j, s1, s1'⟩, s2⟩
  case inr => rw [s2, Option.bind_some]; exact ⟨_, _, rfl, .inr (.inr (.inl ⟨h64, hd, ⟨j, s1, s1'⟩, rfl⟩)), HExt.refl h⟩
  have s1' : ∀ i, i < cnt l → slotB l i := fun i hi => s1 i (Nat.zero_le _) hi
  rw [s2, Option.bind_some]
  simp only [lcase, List.getElem?_cons_zero, List.getElem?_cons_succ, Option.bind_some]
  have hx : ∀ f k, HExt h (h.nw 0 (usedC f) k) := fun f k => HExt.nw _ _ _ _
  rw [nw_zero, ← usedC0]
  rcases lp_PF2 hv (n := cnt l) (by omega) (by omega) s1' (cnt l) 0 (fun _ => false) 0 (by omega) (fun y hy => by simp) with ⟨t1, f', k', t2⟩ | ⟨⟨j, k, t1, t3, t1'⟩, f', k', t2⟩
  case inr => rw [t2, Option.bind_some]; exact ⟨_, _, rfl, .inr (.inr (.inr (.inl ⟨h64, hd, s1', ⟨j, k, t1, t3, t1'⟩, rfl⟩))), hx f' k'⟩
  have t1' : ∀ i k, i < cnt l → k < i → apartB l i k := fun i k hi hk => t1 i k (Nat.zero_le _) hi hk
  rw [t2, Option.bind_some]
  simp only [List.getElem?_cons_zero, List.getElem?_cons_succ, Option.bind_some, bin_gtr, bin_mul, gcase_v]
  by_cases u : (0 : Int) < (cnt l : Int)
  case neg => rw [vcase_neg (by omega)]; exact ⟨_, _, rfl, .inr (.inr (.inr (.inr (.inr ⟨h64, hd, s1', t1', fun hh => by omega, rfl⟩)))), hx f' k'⟩
  rw [vcase_pos (by omega), w64 (n := 2 * (cnt l : Int)) (by omega) (by omega), bin_add, Option.bind_some, w64 (by omega) (by omega), (hv.mono (hx f' k')).get (by omega) (by omega), bin_eql, Option.bind_some]
  have hz : bt l (2 * (cnt l : Int) + 1) = siz l (cnt l - 1) := by unfold siz; congr 1; omega
  rw [hz]
  by_cases u2 : siz l (cnt l - 1) = 0
  · rw [vcase_pos (by simpa using u2)]; exact ⟨_, _, rfl, .inr (.inr (.inr (.inr (.inl ⟨h64, hd, s1', t1', ⟨by omega, u2⟩, rfl⟩)))), hx f' k'⟩
  · rw [vcase_neg (by simpa using u2)]; exact ⟨_, _, rfl, .inr (.inr (.inr (.inr (.inr ⟨h64, hd, s1', t1', fun hh => u2 hh.2, rfl⟩)))), hx f' k'⟩
end
end Vm
