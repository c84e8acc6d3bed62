/-
  What the laws' helpers on bytes come to: a copy, a comparison, marks written and found again.
-/
import Derived.Test.YtainemlfiibooaaDoorEqs
import Derived.Test.YtainemlfiibooaaDoorDb
set_option linter.unusedVariables false
set_option maxRecDepth 100000
set_option linter.unusedSimpArgs false
namespace Vm
open Go

theorem p_eqByteS {l m : List UInt8} (hl : l.length ≤ maxLen) : pureV (call Ev) Fn.laws_eqByteS [lv (bys l), lv (bys m)] = some (bv (decide (l = m))) := by
  unfold maxLen at hl
  rw [pu_laws_eqByteS, vcase_b, bys_len, bys_len]
  by_cases hlm : l.length = m.length
  case neg =>
    rw [if_pos (by simp; omega)]
    rw [show decide (l = m) = false from by simp; intro e; exact hlm (by rw [e])]
  rw [if_neg (by simp [hlm])]
  have loop : ∀ (k i : Nat), i + k = l.length → (∀ j : Nat, j < i → bt l j = bt m j) → Lp.laws_eqByteS 0 [lv (bys l), lv (bys m), iv .i64 i] (D 0) = some (if l = m then .done [] (D 0) else .ret (bv false) (D 0)) := by
    intro k
    induction k with
    | zero =>
      intro i hi hj
      rw [eq_laws_eqByteS_l0, vcase_b, if_neg (by simp; omega), if_pos (bt_ext hlm fun j hjl => hj j (by omega)), tidy_self]
    | succ k ih =>
      intro i hi hj
      rw [eq_laws_eqByteS_l0, vcase_b, if_pos (by simp; omega), idxF_by (by omega) (by omega)]
      simp only [List.getElem?_cons_zero, Option.bind_some, gI_i]
      rw [idxF_by (by omega) (by omega)]
      simp only [List.getElem?_cons_zero, Option.bind_some, gI_i]
      rw [vcase_b]
      by_cases hb : bt l i = bt m i
      · rw [if_neg (by simpa using hb), w64 (by omega) (by omega), show (i : Int) + 1 = ((i + 1 : Nat) : Int) from by omega, tidy_self]
        refine ih (i + 1) (by omega) fun j hji => ?_
        by_cases hje : j = i
        · subst hje; exact hb
        · exact hj j (by omega)
      · rw [if_pos (by simpa using hb), if_neg (fun e => hb (by rw [e]))]
  rw [show iv .i64 0 = iv .i64 ((0 : Nat) : Int) from rfl, loop l.length 0 (by omega) (fun j hj => by omega)]
  by_cases he : l = m <;> simp [he]

def marks (k : Nat) (n : Nat) : List UInt8 := (List.range n).map fun i => UInt8.ofNat ((k + i) % 256)
theorem marks_len (k n : Nat) : (marks k n).length = n := by simp [marks]
theorem marks_get {k n i : Nat} (h : i < n) : (marks k n)[i]? = some (UInt8.ofNat ((k + i) % 256)) := by simp [marks, h]
theorem wrap8 (k : Nat) : IntKind.u8.wrap (k : Int) = ((UInt8.ofNat (k % 256)).toNat : Int) := by
  simp [IntKind.wrap, IntKind.signed, IntKind.bits]
theorem marks_bt {k n i : Nat} (h : i < n) : bt (marks k n) i = IntKind.u8.wrap ((k + i : Nat) : Int) := by
  rw [wrap8]
  simp only [bt, Int.toNat_natCast, List.getD, marks_get h, Option.getD_some]
end Vm
