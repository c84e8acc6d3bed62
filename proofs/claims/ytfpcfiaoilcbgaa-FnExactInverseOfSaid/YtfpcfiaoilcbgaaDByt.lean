/-
  What the laws' helpers on bytes come to: a copy, a comparison, marks written and found again.
-/
import Derived.Test.YtfpcfiaoilcbgaaEqs
import Derived.Test.YtfpcfiaoilcbgaaDb
set_option linter.unusedVariables false
set_option maxRecDepth 100000
set_option linter.unusedSimpArgs false
namespace Vm
open Go

theorem p_eqByteS {l m : List UInt8} (hl : l.length ≤ maxLen) : pureV (call Ev) Fn.laws_eqByteS [lv (bys l), lv (bys m)] = some (bv (decide (l = m))) := by
  unfold maxLen at hl
  rw [pu_laws_eqByteS, vcase_b, bys_len, bys_len]
  by_cases hlm : l.length = m.length
  case neg =>
    rw [if_pos (by simp; omega)]
    rw [show decide (l = m) = false from by simp; intro e; exact hlm (by rw [e])]
  rw [if_neg (by simp [hlm])]
  have loop : ∀ (k i : Nat), i + k = l.length → (∀ j : Nat, j < i → bt l j = bt m j) → Lp.laws_eqByteS 0 [lv (bys l), lv (bys m), iv .i64 i] (D 0) = some (if l = m then .done [] (D 0) else .ret (bv false) (D 0)) := by
    intro k
    induction k with
    | zero =>
      intro i hi hj
      rw [eq_laws_eqByteS_l0, vcase_b, if_neg (by simp; omega), if_pos (bt_ext hlm fun j hjl => hj j (by omega)), tidy_self]
    | succ k ih =>
      intro i hi hj
      rw [eq_laws_eqByteS_l0, vcase_b, if_pos (by simp; omega), idxF_by (by omega) (by omega)]
      simp only [List.getElem?_cons_zero, Option.bind_some, gI_i]
      rw [idxF_by (by omega) (by omega)]
      simp only [List.getElem?_cons_zero, Option.bind_some, gI_i]
      rw [vcase_b]
      by_cases hb : bt l i = bt m i
      · rw [if_neg (by simpa using hb), w64 (by omega) (by omega), show (i : Int) + 1 = ((i + 1 : Nat) : Int) from by omega, tidy_self]
        refine ih (i + 1) (by omega) fun j hji => ?_
        by_cases hje : j = i
        · subst hje; exact hb
        · exact hj j (by omega)
      · rw [if_pos (by simpa using hb), if_neg (fun e => hb (by rw [e]))]
  rw [show iv .i64 0 = iv .i64 ((0 : Nat) : Int) from rfl, loop l.length 0 (by omega) (fun j hj => by omega)]
  by_cases he : l = m <;> simp [he]

def marks (k : Nat) (n : Nat) : List UInt8 := (List.range n).map fun i => UInt8.ofNat ((k + i) % 256)
theorem marks_len (k n : Nat) : (marks k n).length = n := by simp [marks]
theorem marks_get {k n i : Nat} (h : i < n) : (marks k n)[i]? = some (UInt8.ofNat ((k + i) % 256)) := by simp [marks, h]
theorem wrap8 (k : Nat) : IntKind.u8.wrap (k : Int) = ((UInt8.ofNat (k % 256)).toNat : Int) := by
  simp [IntKind.wrap, IntKind.signed, IntKind.bits]
theorem marks_bt {k n i : Nat} (h : i < n) : bt (marks k n) i = IntKind.u8.wrap ((k + i : Nat) : Int) := by
  rw [wrap8]
  simp only [bt, Int.toNat_natCast, List.getD, marks_get h, Option.getD_some]
theorem r_mark {h : H} {v : V} {l : List UInt8} {ob : Option Nat} {k : Nat} (hv : Own h v l ob) (hl : k + l.length < 2 ^ 62) :
    ∃ h', call Ev Fn.laws_markByteS [v, iv .i64 k] h = some (iv .i64 ((k + l.length : Nat) : Int), h') ∧ Own h' v (marks k l.length) ob ∧ h'.n = h.n ∧ ∀ c, ob ≠ some c → h'.g c = h.g c ∧ h'.v c = h.v c := by
  cases ob with
  | none =>
    obtain ⟨rfl, rfl⟩ := hv
    refine ⟨h, ?_, ⟨rfl, rfl⟩, rfl, fun _ _ => ⟨rfl, rfl⟩⟩
    rw [eq_laws_markByteS, eq_laws_markByteS_l0]
    simp only [lenV, Option.bind_some, gV1_s, gI_i, vcase_b]
    simp
  | some b =>
    obtain ⟨rfl, hb, hg⟩ := hv
    obtain ⟨h', e1, e2, e3, e4⟩ := fill_rows (z := 1) (n := l.length) (b := b) (rows := bys (marks k l.length)) (L := fun i h => Lp.laws_markByteS 0 [sv b 0 l.length, iv .i64 (k + i), iv .i64 i] h) (fin := [iv .i64 ((k + l.length : Nat) : Int)]) (by simp [marks_len]) bys_row
      (fun i h r hr hi hb => by
        rw [bys_get (by rw [marks_len]; exact hi), marks_bt hi] at hr; cases hr
        refine ⟨iv .u8 (IntKind.u8.wrap ((k + i : Nat) : Int)), [sv b 0 l.length, iv .i64 ((k : Int) + ((i + 1 : Nat) : Int)), iv .i64 ((i + 1 : Nat) : Int)], .inl ⟨_, rfl, rfl, rfl⟩, ?_⟩
        show Lp.laws_markByteS 0 _ h = _
        rw [eq_laws_markByteS_l0]
        simp only [lenV, Option.bind_some, gV1_s, gI_i, vcase_b]
        rw [if_pos (by simp; omega), idxK_sv hi, w64 (by omega) (by omega), w64 (by omega) (by omega), show (i : Int) + 1 = ((i + 1 : Nat) : Int) from by omega, show (k : Int) + (i : Int) + 1 = (k : Int) + ((i + 1 : Nat) : Int) from by omega]
        rfl)
      (fun h => by
        show Lp.laws_markByteS 0 _ h = _
        rw [eq_laws_markByteS_l0]
        simp only [lenV, Option.bind_some, gV1_s, gI_i, vcase_b]
        rw [if_neg (by simp), tidy_self]
        rfl) h _ hb hg (by simp)
    rw [eq_laws_markByteS]
    rw [Int.add_zero] at e1
    rw [e1]
    exact ⟨h', rfl, ⟨by rw [marks_len], by rw [e2]; exact hb, by rw [e3, bys_flat]⟩, e2, fun c hc => e4 c (by intro e; subst e; exact hc rfl)⟩
theorem p_held {k n : Nat} (hl : k + n < 2 ^ 62) : pureV (call Ev) Fn.laws_heldByteS [lv (bys (marks k n)), iv .i64 k] = some (iv .i64 ((k + n : Nat) : Int)) := by
  have hlen := marks_len k n
  have loop : ∀ (q i : Nat), i + q = n → Lp.laws_heldByteS 0 [lv (bys (marks k n)), iv .i64 ((k + i : Nat) : Int), iv .i64 i] (D 0) = some (.done [iv .i64 ((k + n : Nat) : Int)] (D 0)) := by
    intro q
    induction q with
    | zero =>
      intro i hi
      rw [eq_laws_heldByteS_l0, vcase_b, bys_len, hlen, if_neg (by simp; omega), tidy_self, show k + i = k + n from by omega]
    | succ q ih =>
      intro i hi
      rw [eq_laws_heldByteS_l0, vcase_b, bys_len, hlen, if_pos (by simp; omega), idxF_by (by omega) (by omega), marks_bt (by omega)]
      simp only [List.getElem?_cons_zero, Option.bind_some, gI_i]
      rw [vcase_b, if_neg (by simp), w64 (by omega) (by omega), w64 (by omega) (by omega), tidy_self,
          show ((k + i : Nat) : Int) + 1 = ((k + (i + 1) : Nat) : Int) from by omega, show (i : Int) + 1 = ((i + 1 : Nat) : Int) from by omega]
      exact ih (i + 1) (by omega)
  rw [pu_laws_heldByteS, show iv .i64 0 = iv .i64 ((0 : Nat) : Int) from rfl, show iv .i64 (k : Int) = iv .i64 ((k + 0 : Nat) : Int) from rfl, loop n 0 (by omega)]
  simp
end Vm
