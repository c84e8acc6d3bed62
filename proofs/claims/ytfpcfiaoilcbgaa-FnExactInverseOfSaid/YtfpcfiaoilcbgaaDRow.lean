/-
  What the functions on rows come to.
-/
import Derived.Test.YtfpcfiaoilcbgaaDIn
set_option linter.unusedVariables false
set_option maxRecDepth 100000
set_option linter.unusedSimpArgs false
namespace Vm
open Go

structure RowD where
  tab : Int
  key : Int
  val : Int
  text : ByteArray
abbrev RowD.cs (r : RowD) : List S := [.int .i64 r.tab, .int .i64 r.key, .int .i64 r.val, .str r.text]
structure RowD.ok (r : RowD) : Prop where
  t1 : -9223372036854775808 ≤ r.tab
  t2 : r.tab < 9223372036854775808
  k1 : -9223372036854775808 ≤ r.key
  k2 : r.key < 9223372036854775808
  v1 : -9223372036854775808 ≤ r.val
  v2 : r.val < 9223372036854775808
  s : r.text.size ≤ maxLen
/-! the faults of a row -/
def low (c : UInt8) : Bool := decide (97 ≤ (c.toNat : Int)) && decide ((c.toNat : Int) ≤ 122)
def allLow (s : ByteArray) (i : Nat) : Bool := (s.data.toList.drop i).all low
def rowF (r : RowD) : Int := if inB r.tab 0 3 && inB r.key 1 99 && inB r.val 0 999 then (if decide (r.text.size ≤ 8) && allLow r.text 0 then 0 else 5) else 3
theorem allLow_step {s : ByteArray} {i : Nat} (h : i < s.size) : allLow s i = (low (s.get! i) && allLow s (i + 1)) := by
  unfold allLow; rw [str_drop h]; rfl
theorem allLow_end {s : ByteArray} {i : Nat} (h : s.size ≤ i) : allLow s i = true := by
  unfold allLow; rw [str_drop_all h]; rfl
theorem lp_l1Text (s : ByteArray) (hs : s.size ≤ maxLen) (h : H) : ∀ k i : Nat, i + k = s.size → Lp.spec_l1Text 0 [.s (.str s), iv .i64 i] h = some (if allLow s i then .done [.s (.str s)] h else .ret (bv false) h) := by
  unfold maxLen at hs
  intro k
  induction k with
  | zero =>
    intro i hi
    rw [eq_spec_l1Text_l0, vcase_b, if_neg (by simp; omega), allLow_end (by omega)]; simp
  | succ k ih =>
    intro i hi
    rw [eq_spec_l1Text_l0, vcase_b, if_pos (by simp; omega), idxStr_of (by omega) (by omega), allLow_step (by omega), w64 (by omega) (by omega), show (i : Int) + 1 = ((i + 1 : Nat) : Int) from by omega, tidy_self, ih (i + 1) (by omega)]
    have e : sby s i = ((s.get! i).toNat : Int) := by simp [sby]
    simp only [Option.bind_some, gV1_s, gI_i, vcase_b, e, decide_eq_true_eq, low, Bool.and_eq_true]
    split
    · rw [if_neg (by omega)]
    · split
      · rw [if_neg (by omega)]
      · simp only [show (97 ≤ ((s.get! i).toNat : Int)) from by omega, show ((s.get! i).toNat : Int) ≤ 122 from by omega, true_and]
theorem p_l1Text (s : ByteArray) (hs : s.size ≤ maxLen) : pureV (call Ev) Fn.spec_l1Text [.s (.str s)] = some (bv (decide (s.size ≤ 8) && allLow s 0)) := by
  rw [pu_spec_l1Text, show iv .i64 0 = iv .i64 ((0 : Nat) : Int) from rfl, lp_l1Text s hs _ s.size 0 (by omega)]
  cases allLow s 0 <;> simp <;> omega
theorem p_l1Fault (r : RowD) (hs : r.text.size ≤ maxLen) : pureV (call Ev) Fn.spec_l1Fault [fv r.cs 0] = some (iv .i64 (rowF r)) := by
  rw [pu_spec_l1Fault]
  simp only [pcallS, p_l1In, p_l1Text _ hs, Option.bind_some, sca_v, sca_b, cond_true, gV1_s, gB_b, vcase_b]
  unfold rowF
  cases inB r.tab 0 3 <;> cases inB r.key 1 99 <;> cases inB r.val 0 999 <;> cases (decide (r.text.size ≤ 8) && allLow r.text 0) <;> simp
theorem lp_RowFault (r : RowD) (hs : r.text.size ≤ maxLen) (h : H) (p : Nat) (hp : h.cells p = r.cs) : ∀ k i : Nat, i + k = r.text.size → Lp.impl_RowFault 0 [pv p 0, iv .i64 (r.text.size : Int), iv .i64 i] h = some (if allLow r.text i then .done [] h else .ret (iv .i64 5) h) := by
  unfold maxLen at hs
  intro k
  have ld : ∀ (q : V → Option LOut), ldK (.one (.s)) ⟨1, 16, [.str ⟨#[]⟩], false, .str, false⟩ h (pv p (0 + 3)) q = q (.s (.str r.text)) := by
    intro q; simp [ldK, ldT, load1, hp]
  have pa : padd 3 (pv p 0) = some (pv p (0 + 3)) := rfl
  induction k with
  | zero =>
    intro i hi
    rw [eq_impl_RowFault_l0, vcase_b, if_neg (by simp; omega), allLow_end (by omega)]; simp
  | succ k ih =>
    intro i hi
    rw [eq_impl_RowFault_l0, vcase_b, if_pos (by simp; omega), allLow_step (by omega), w64 (by omega) (by omega), show (i : Int) + 1 = ((i + 1 : Nat) : Int) from by omega, tidy_self, ih (i + 1) (by omega)]
    have e : sby r.text i = ((r.text.get! i).toNat : Int) := by simp [sby]
    simp only [pa, Option.bind_some, ld, gV1_s, gS_s]
    rw [idxStr_of (by omega) (by omega)]
    simp only [Option.bind_some, gV1_s, gI_i, vcase_b, e, decide_eq_true_eq, low, Bool.and_eq_true]
    split
    · rw [if_neg (by omega)]
    · split
      · rw [if_neg (by omega)]
      · simp only [show (97 ≤ ((r.text.get! i).toNat : Int)) from by omega, show ((r.text.get! i).toNat : Int) ≤ 122 from by omega, true_and]
theorem p_RowFault (r : RowD) (hs : r.text.size ≤ maxLen) : pureV (call Ev) Fn.impl_RowFault [.agg r.cs] = some (iv .i64 (rowF r)) := by
  have hl := lp_RowFault r hs ((D 0).new 0 r.cs) 0 (by simp [H.cells, H.new, D, Blk.cells]) r.text.size 0 (by omega)
  rw [pu_impl_RowFault]
  simp only [pcallS, p_in, Option.bind_some, sca_v, sca_b, cond_true, gV1_s, gB_b, vcase_b]
  rw [show iv .i64 0 = iv .i64 ((0 : Nat) : Int) from rfl, hl]
  unfold rowF
  cases inB r.tab 0 3 <;> cases inB r.key 1 99 <;> cases inB r.val 0 999 <;> simp
  by_cases h8 : r.text.size ≤ 8
  · rw [if_neg (by omega)]
    cases allLow r.text 0 <;> simp [h8]
  · rw [if_pos (by omega)]; simp [h8]
def befB (a b : RowD) : Bool := decide (a.tab < b.tab) || (decide (a.tab = b.tab) && decide (a.key < b.key))
end Vm
