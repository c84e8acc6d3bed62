/-
  Cells that lie apart take no more room than there is.
-/
import Derived.Test.YtnidgolbfmbocaaDSlot
set_option linter.unusedVariables false
set_option maxRecDepth 100000
set_option linter.unusedSimpArgs false
namespace Vm
open Go

/-- how many places below n are taken -/
def ctN (f : Nat → Bool) : Nat → Nat
  | 0 => 0
  | n + 1 => ctN f n + if f n then 1 else 0
theorem ctN_low {f : Nat → Bool} {low : Nat} (h : ∀ y, y < low → f y = false) : ∀ n, ctN f n ≤ n - low
  | 0 => by simp [ctN]
  | n + 1 => by
    have ih := ctN_low h n
    unfold ctN
    by_cases hn : n < low
    · rw [h n hn]; simp; omega
    · split <;> omega
theorem ctN_ext {f g : Nat → Bool} : ∀ n, (∀ y, y < n → f y = g y) → ctN f n = ctN g n
  | 0, _ => rfl
  | n + 1, h => by unfold ctN; rw [ctN_ext n fun y hy => h y (by omega), h n (by omega)]
theorem ctN_add {f : Nat → Bool} {x : Nat} (hx : f x = false) : ∀ n, ctN (fun y => f y || y == x) n = ctN f n + if x < n then 1 else 0
  | 0 => by simp [ctN]
  | n + 1 => by
    have ih := ctN_add (f := f) hx n
    unfold ctN
    rw [ih]
    by_cases hn : n = x
    · subst hn; simp [hx]
    · have : (n == x) = false := by simpa using hn
      rw [this]
      have e : (if x < n + 1 then 1 else 0) = (if x < n then 1 else 0 : Nat) := by
        by_cases hlt : x < n
        · rw [if_pos hlt, if_pos (by omega)]
        · rw [if_neg hlt, if_neg (by omega)]
      rw [e, Bool.or_false]; omega
/-- a run of places that are free -/
theorem ctN_run {f : Nat → Bool} {P N : Nat} : ∀ Q, P + Q ≤ N → (∀ y, P ≤ y → y < P + Q → f y = false) → ctN (fun y => f y || (decide (P ≤ y) && decide (y < P + Q))) N = ctN f N + Q
  | 0, _, _ => by
    rw [Nat.add_zero, Nat.add_zero]
    exact ctN_ext N fun y _ => by
      have : (decide (P ≤ y) && decide (y < P)) = false := by simp
      rw [this, Bool.or_false]
  | Q + 1, h1, h2 => by
    have ih := ctN_run (f := f) (P := P) (N := N) Q (by omega) fun y a b => h2 y a (by omega)
    have hx : (fun y => f y || (decide (P ≤ y) && decide (y < P + Q))) (P + Q) = false := by
      simp [h2 (P + Q) (by omega) (by omega)]
    have := ctN_add (f := fun y => f y || (decide (P ≤ y) && decide (y < P + Q))) (x := P + Q) hx N
    rw [if_pos (by omega), ih] at this
    refine Eq.trans ?_ (this.trans (Nat.add_assoc _ _ _))
    exact ctN_ext N fun y _ => by
      by_cases hy : y = P + Q
      · subst hy; simp
      · have e1 : (y == P + Q) = false := by simpa using hy
        have e2 : decide (y < P + (Q + 1)) = decide (y < P + Q) := by rw [Bool.eq_iff_iff]; simp; omega
        rw [e1, e2]; simp
/-- the sum of the sizes of the first cells -/
def sumS (l : List UInt8) : Nat → Nat
  | 0 => 0
  | i + 1 => sumS l i + (siz l i).toNat
theorem sumS_le {l : List UInt8} (hp : pagF l = 0) : ∀ i, i ≤ cnt l → ∃ f : Nat → Bool, (∀ y, f y = true ↔ ∃ j, j < i ∧ cov l j y) ∧ ctN f 64 = sumS l i := by
  obtain ⟨h64, ⟨g1, g2, g3⟩, h3, h4, _⟩ := pagF_ok hp
  intro i
  induction i with
  | zero =>
    intro _
    refine ⟨fun _ => false, fun y => by simp, ?_⟩
    have := ctN_low (f := fun _ => false) (low := 64) (fun _ _ => rfl) 64
    simp only [sumS]; omega
  | succ i ih =>
    intro hi
    obtain ⟨f, f1, f2⟩ := ih (by omega)
    have q := pl_bd l i
    obtain ⟨s1, s2, s3, _, _⟩ := slot_bd hp (k := i) (by omega)
    obtain ⟨P, hP⟩ : ∃ P : Nat, plc l i = P := ⟨(plc l i).toNat, by omega⟩
    obtain ⟨Q, hQ⟩ : ∃ Q : Nat, siz l i = Q := ⟨(siz l i).toNat, by omega⟩
    refine ⟨fun y => f y || (decide (P ≤ y) && decide (y < P + Q)), fun y => ?_, ?_⟩
    · simp only [Bool.or_eq_true, Bool.and_eq_true, decide_eq_true_eq]
      constructor
      · rintro (hh | hh)
        · obtain ⟨j, hj, hc⟩ := (f1 y).1 hh; exact ⟨j, by omega, hc⟩
        · exact ⟨i, by omega, by unfold cov; omega⟩
      · rintro ⟨j, hj, hc⟩
        by_cases hji : j = i
        · subst hji; right; unfold cov at hc; omega
        · left; exact (f1 y).2 ⟨j, by omega, hc⟩
    · rw [ctN_run Q (by omega) fun y a b => ?_, f2]
      · simp [sumS, hQ]
      · cases hf : f y with
        | false => rfl
        | true =>
          exfalso
          obtain ⟨j, hj, hc⟩ := (f1 y).1 hf
          have ha := h4 i j (by omega) hj
          unfold apartB at ha
          unfold cov at hc
          have qj := pl_bd l j
          omega
theorem sumS_bd {l : List UInt8} (hp : pagF l = 0) {i : Nat} (hi : i ≤ cnt l) : (sumS l i : Int) ≤ 64 - bt l 1 := by
  obtain ⟨h64, ⟨g1, g2, g3⟩, h3, h4, _⟩ := pagF_ok hp
  have b1 := bt_nn l 1
  obtain ⟨f, f1, f2⟩ := sumS_le hp i hi
  have hlow : ∀ y, y < (bt l 1).toNat → f y = false := fun y hy => by
    cases hf : f y with
    | false => rfl
    | true =>
      exfalso
      obtain ⟨j, hj, hc⟩ := (f1 y).1 hf
      have hs := h3 j (by omega)
      unfold slotB at hs
      unfold cov at hc
      have qj := pl_bd l j
      split at hs <;> omega
  have := ctN_low hlow 64
  omega
end Vm
