/-
  The room that is free in a page; a cell written into a copy of it.
-/
import Derived.Test.YtnidgolbfmbocaaDSum
import Derived.Test.YtnidgolbfmbocaaDComp
set_option linter.unusedVariables false
set_option maxRecDepth 100000
set_option linter.unusedSimpArgs false
set_option linter.unusedSectionVars false
namespace Vm
open Go
/-- what is free -/
def freS (l : List UInt8) : Int := 62 - 2 * bt l 0 - sumS l (cnt l)
section
variable {l : List UInt8} (hp : pagF l = 0)
include hp
theorem freS_bd : 0 ≤ freS l ∧ freS l ≤ 62 := by
  have := sumS_bd hp (i := cnt l) (Nat.le_refl _)
  obtain ⟨h64, ⟨g1, g2, g3⟩, _⟩ := pagF_ok hp
  have := bt_nn l 0
  unfold freS; omega
theorem sumS_step {i : Nat} (hi : i < cnt l) : (sumS l (i + 1) : Int) = sumS l i + siz l i := by
  have := (pl_bd l i).2.2.1
  simp only [sumS]; omega
theorem p_l2Free : pureV (call Ev) Fn.spec_l2Free [lv (bys l)] = some (iv .i64 (freS l)) := by
  obtain ⟨h64, ⟨g1, g2, g3⟩, _⟩ := pagF_ok hp
  have b2 := bt_nn l 0
  have hc := cnt_eq l
  have loop : ∀ (k i : Nat), i + k = cnt l → Lp.spec_l2Free 0 [lv (bys l), iv .i64 (62 - 2 * bt l 0 - sumS l i), iv .i64 i] (D 0) = some (.done [iv .i64 (freS l)] (D 0)) := by
    intro k
    induction k with
    | zero =>
      intro i hi
      obtain rfl : i = cnt l := by omega
      rw [eq_spec_l2Free_l0, pc (p_l2Count (by omega)) rfl]
      simp only [gV1_s, gI_i, vcase_b]
      rw [if_neg (by simp; omega), tidy_self]; rfl
    | succ k ih =>
      intro i hi
      have h1 := sumS_step hp (i := i) (by omega)
      have h2 := sumS_bd hp (i := i + 1) (by omega)
      have h3 := (pl_bd l i).2.2
      have h4 := bt_nn l 1
      rw [eq_spec_l2Free_l0, pc (p_l2Count (by omega)) rfl]
      simp only [gV1_s, gI_i, vcase_b]
      rw [if_pos (by simp; omega), pc (p_l2Size (by omega) (by omega)) rfl]
      simp only [gV1_s, gI_i]
      rw [w64 (by omega) (by omega), w64 (by omega) (by omega), tidy_self, show (i : Int) + 1 = ((i + 1 : Nat) : Int) from by omega, show 62 - 2 * bt l 0 - (sumS l i : Int) - siz l i = 62 - 2 * bt l 0 - (sumS l (i + 1) : Int) from by omega]
      exact ih (i + 1) (by omega)
  have := loop (cnt l) 0 (by omega)
  simp only [sumS, Int.sub_zero, Int.ofNat_zero, Int.natCast_zero] at this
  rw [pu_spec_l2Free, pc (p_l2Count (by omega)) rfl]
  simp only [gV1_s, gI_i]
  rw [w64 (n := 2 * bt l 0) (by omega) (by omega), w64 (by omega) (by omega), this]
  simp
theorem p_freeIn : pureV (call Ev) Fn.impl_freeIn [lv (bys l)] = some (iv .i64 (freS l)) := by
  obtain ⟨h64, ⟨g1, g2, g3⟩, _⟩ := pagF_ok hp
  have b2 := bt_nn l 0
  have hc := cnt_eq l
  have loop : ∀ (k i : Nat), i + k = cnt l → Lp.impl_freeIn 0 [lv (bys l), iv .i64 (62 - 2 * bt l 0 - sumS l i), iv .i64 (bt l 0), iv .i64 i] (D 0) = some (.done [iv .i64 (freS l)] (D 0)) := by
    intro k
    induction k with
    | zero =>
      intro i hi
      obtain rfl : i = cnt l := by omega
      rw [eq_impl_freeIn_l0, vcase_b, if_neg (by simp; omega), tidy_self]; rfl
    | succ k ih =>
      intro i hi
      have h1 := sumS_step hp (i := i) (by omega)
      have h2 := sumS_bd hp (i := i + 1) (by omega)
      have h3 := (pl_bd l i).2.2
      have h4 := bt_nn l 1
      rw [eq_impl_freeIn_l0, vcase_b, if_pos (by simp; omega), pc (p_spot (by omega) (by omega)) rfl]
      simp only [gVT_t, gx0, gx1, ob, gA1_s, gI_i, ln0, ln1, Nat.zero_add, Nat.reduceAdd, if_true]
      rw [w64 (by omega) (by omega), w64 (by omega) (by omega), tidy_self, show (i : Int) + 1 = ((i + 1 : Nat) : Int) from by omega, show 62 - 2 * bt l 0 - (sumS l i : Int) - siz l i = 62 - 2 * bt l 0 - (sumS l (i + 1) : Int) from by omega]
      exact ih (i + 1) (by omega)
  have := loop (cnt l) 0 (by omega)
  simp only [sumS, Int.sub_zero, Int.ofNat_zero, Int.natCast_zero] at this
  rw [pu_impl_freeIn, pc (p_slots (by omega)) rfl]
  simp only [gV1_s, gI_i]
  rw [pc (p_slots (by omega)) rfl]
  simp only [gV1_s, gI_i]
  rw [w64 (n := 2 * bt l 0) (by omega) (by omega), w64 (by omega) (by omega), this]
  simp
end
end Vm
