/-
  A cell's bytes, read: what both readers come to.
-/
import Derived.Test.YtfmkfefblbophaaDRow
import Derived.Test.YtfmkfefblbophaaDByt
set_option linter.unusedVariables false
set_option maxRecDepth 100000
set_option linter.unusedSimpArgs false
namespace Vm
open Go

@[simp] theorem w64bt {l : List UInt8} {i : Int} : IntKind.i64.wrap (bt l i) = bt l i := by
  have := bt_nn l i; have := bt_lt l i
  exact w64 (by omega) (by omega)
theorem w64b6 {l : List UInt8} {i : Int} : IntKind.i64.wrap (6 + bt l i) = 6 + bt l i := by
  have := bt_nn l i; have := bt_lt l i
  exact w64 (by omega) (by omega)
theorem w64b2 {l : List UInt8} {i j : Int} : IntKind.i64.wrap (IntKind.i64.wrap (bt l i * 256) + bt l j) = bt l i * 256 + bt l j := by
  have := bt_nn l i; have := bt_lt l i; have := bt_nn l j; have := bt_lt l j
  rw [w64 (n := bt l i * 256) (by omega) (by omega), w64 (by omega) (by omega)]
theorem shl8 {E : Env} {t : Nat} {l : List UInt8} {i : Int} : bin E .shl t (iv .i64 (bt l i)) (iv .u64 8) = some (iv .i64 (bt l i * 256)) := by
  have := bt_nn l i; have := bt_lt l i
  simp only [bin]
  rw [if_neg (by omega), show min (8 : Int).toNat IntKind.i64.bits = 8 from by decide, show (2 : Int) ^ 8 = 256 from by decide, w64 (by omega) (by omega)]
theorem or8 {E : Env} {t : Nat} {l : List UInt8} {i j : Int} : bin E .or t (iv .i64 (bt l i * 256)) (iv .i64 (bt l j)) = some (iv .i64 (bt l i * 256 + bt l j)) := by
  have h1 := bt_lt l i; have h2 := bt_lt l j
  unfold bt at h1 h2 ⊢
  generalize (l.getD i.toNat 0).toNat = a at *
  generalize (l.getD j.toNat 0).toNat = b at *
  have ha : a < 256 := by omega
  have hb : b < 256 := by omega
  have e : (BitVec.ofInt IntKind.i64.bits ((a : Int) * 256) ||| BitVec.ofInt IntKind.i64.bits (b : Int)).toNat = a * 256 + b := by
    rw [BitVec.toNat_or, BitVec.toNat_ofInt, BitVec.toNat_ofInt]
    have e1 : (((a : Int) * 256) % ((2 ^ IntKind.i64.bits : Nat) : Int)).toNat = a * 256 := by
      simp only [IntKind.bits]; omega
    have e2 : ((b : Int) % ((2 ^ IntKind.i64.bits : Nat) : Int)).toNat = b := by
      simp only [IntKind.bits]; omega
    rw [e1, e2]
    have := Nat.shiftLeft_add_eq_or_of_lt (i := 8) (b := b) (by omega) a
    rw [Nat.shiftLeft_eq] at this
    exact this.symm
  simp only [bin, if_true, binI, bitsI, e, Option.bind_some]
  rw [w64 (by omega) (by omega)]
  rfl

structure CellD where
  code : Int
  flag : Int
  page : Int
  slot : Int
  row : RowD
abbrev CellD.cs (c : CellD) : List S := [.int .i64 c.code, .int .i64 c.flag, .int .i64 c.page, .int .i64 c.slot, .int .i64 c.row.tab, .int .i64 c.row.key, .int .i64 c.row.val, .str c.row.text]
def noR : RowD := ⟨0, 0, 0, ⟨#[]⟩⟩
def cellRow (l : List UInt8) : RowD := ⟨bt l 1, bt l 2, bt l 3 * 256 + bt l 4, ⟨(l.drop 6).toArray⟩⟩
def isStub (l : List UInt8) : Bool := decide (l.length = 3) && bt l 0 == 1
def isCell (l : List UInt8) : Bool := decide (6 ≤ l.length) && (bt l 0 == 0 || bt l 0 == 2) && decide ((l.length : Int) = 6 + bt l 5)
/-- what stands in a cell -/
def unpC (l : List UInt8) : CellD :=
  if isStub l && (decide (bt l 1 ≤ 11) && decide (bt l 2 ≤ 15)) then ⟨0, 1, bt l 1, bt l 2, noR⟩
  else if isCell l && rowF (cellRow l) == 0 then ⟨0, bt l 0, 0, 0, cellRow l⟩ else ⟨5, 0, 0, 0, noR⟩
theorem cellRow_size {l : List UInt8} (hl : l.length ≤ lim) : (cellRow l).text.size ≤ maxLen := by
  have : (cellRow l).text.size = l.length - 6 := by simp [cellRow, ByteArray.size]
  unfold lim at hl; unfold maxLen; omega
theorem pl1F {l : List UInt8} (hl : l.length ≤ lim) : pureV (call Ev) Fn.spec_l1Fault [fv [.int .i64 (bt l 1), .int .i64 (bt l 2), .int .i64 (bt l 3 * 256 + bt l 4), .str ⟨(l.drop 6).toArray⟩] 0] = some (iv .i64 (rowF (cellRow l))) := p_l1Fault (cellRow l) (cellRow_size hl)
theorem pRF {l : List UInt8} (hl : l.length ≤ lim) : pureV (call Ev) Fn.impl_RowFault [.agg [.int .i64 (bt l 1), .int .i64 (bt l 2), .int .i64 (bt l 3 * 256 + bt l 4), .str ⟨(l.drop 6).toArray⟩]] = some (iv .i64 (rowF (cellRow l))) := p_RowFault (cellRow l) (cellRow_size hl)
theorem p_l1Place (a b : Int) : pureV (call Ev) Fn.spec_l1Place [iv .i64 a, iv .i64 b] = some (bv (inB a 0 11 && inB b 0 15)) := by
  rw [pu_spec_l1Place]
  simp only [pcallS, p_l1In, Option.bind_some, sca_v, sca_b, cond_true, gV1_s, gB_b, vcase_b]
  cases inB a 0 11 <;> cases inB b 0 15 <;> rfl
theorem p_l1Read {l : List UInt8} (hl : l.length ≤ lim) : ∃ c : CellD, ∃ b : Bool, pureV (call Ev) Fn.spec_l1Read [lv (bys l)] = some (.tup [.agg c.cs, .s (.bool b)]) ∧ unpC l = if b then c else ⟨5, 0, 0, 0, noR⟩ := by
  have hrs := cellRow_size hl
  have j0 : ∀ q, Jn.spec_l1Read_0 q (bys l) = if q = true then some (.tup [.agg (CellD.cs ⟨0, 0, 0, 0, noR⟩), .s (.bool false)]) else if 6 ≤ l.length then some (.tup [.agg (CellD.cs ⟨0, bt l 0, 0, 0, cellRow l⟩), .s (.bool (rowF (cellRow l) == 0))]) else none := by
    intro q
    unfold Jn.spec_l1Read_0
    rw [vcase_b]
    cases q
    case true => rfl
    simp only [Bool.false_eq_true, if_false]
    by_cases h6 : 6 ≤ l.length
    · simp (disch := first | omega | fail) only [idxF_by, List.getElem?_cons_zero, Option.bind_some, gI_i, w64bt, w64b2]
      rw [show iv .i64 6 = iv .i64 ((6 : Nat) : Int) from rfl, slF_lo h6, fsStr_by (by rw [List.length_drop]; omega)]
      simp only [Option.bind_some, gV1_s, gS_s, hchk_self]
      rw [hchk_of (HExt.refl _).new, pc (pl1F hl) rfl, if_pos h6]
      rfl
    · rw [if_neg h6]
      by_cases h1 : 1 < l.length
      · by_cases h2 : 2 < l.length
        · by_cases h3 : 3 < l.length
          · by_cases h4 : 4 < l.length
            · simp (disch := first | omega | fail) only [idxF_by, List.getElem?_cons_zero, Option.bind_some, gI_i]
              unfold slF
              simp only [bys_len, Option.bind_some, bnd]
              rw [if_neg (by omega)]; rfl
            · simp (disch := first | omega | (simp; omega) | fail) only [idxF_by, idxF_out, List.getElem?_cons_zero, Option.bind_some, gI_i]
          · simp (disch := first | omega | (simp; omega) | fail) only [idxF_by, idxF_out, List.getElem?_cons_zero, Option.bind_some, gI_i]
        · simp (disch := first | omega | (simp; omega) | fail) only [idxF_by, idxF_out, List.getElem?_cons_zero, Option.bind_some, gI_i]
      · simp (disch := first | omega | (simp; omega) | fail) only [idxF_by, idxF_out, List.getElem?_cons_zero, Option.bind_some, gI_i]
  have j1 : ∀ q, (q = true → l.length = 3) → ∃ c : CellD, ∃ b : Bool, Jn.spec_l1Read_1 q (bys l) = some (.tup [.agg c.cs, .s (.bool b)]) ∧ (if b = true then c else ⟨5, 0, 0, 0, noR⟩) = (if q && (decide (bt l 1 ≤ 11) && decide (bt l 2 ≤ 15)) then ⟨0, 1, bt l 1, bt l 2, noR⟩
      else if (!q) && (isCell l && rowF (cellRow l) == 0) then ⟨0, bt l 0, 0, 0, cellRow l⟩ else ⟨5, 0, 0, 0, noR⟩) := by
    intro q hq
    unfold Jn.spec_l1Read_1
    rw [vcase_b]
    have n0 := bt_nn l 0; have n1 := bt_nn l 1; have n2 := bt_nn l 2
    cases q
    case true =>
      have h3 := hq rfl
      simp (disch := first | omega | fail) only [idxF_by, List.getElem?_cons_zero, Option.bind_some, gI_i, w64bt, hchk_self, if_true]
      rw [hchk_of (HExt.refl _).new, pc (p_l1Place _ _) rfl]
      refine ⟨⟨0, 1, bt l 1, bt l 2, noR⟩, _, rfl, ?_⟩
      simp [inB, n1, n2]
    case false =>
      simp only [Bool.false_eq_true, if_false, bys_len, vcase_b]
      by_cases h6 : l.length < 6
      · rw [if_pos (by simp; omega)]
        exact ⟨⟨0, 0, 0, 0, noR⟩, _, rfl, by simp [isCell, show ¬ 6 ≤ l.length by omega]⟩
      rw [if_neg (by simp; omega)]
      simp (disch := first | omega | fail) only [idxF_by, List.getElem?_cons_zero, Option.bind_some, gI_i, w64bt, w64b6]
      by_cases h01 : bt l 0 = 1
      · rw [if_pos (by simp [h01])]
        exact ⟨⟨0, 0, 0, 0, noR⟩, _, rfl, by simp [isCell, h01]⟩
      rw [if_neg (by simpa using h01), j0, j0]
      by_cases h02 : 2 < bt l 0
      · rw [if_pos (by simpa using h02)]
        exact ⟨⟨0, 0, 0, 0, noR⟩, _, rfl, by simp [isCell, show bt l 0 ≠ 0 by omega, show bt l 0 ≠ 2 by omega]⟩
      rw [if_neg (by simpa using h02)]
      have h0 : (bt l 0 == 0 || bt l 0 == 2) = true := by simp; omega
      by_cases h5 : (l.length : Int) = 6 + bt l 5
      · rw [if_neg (by simp [← h5]), if_pos (by omega)]
        exact ⟨⟨0, bt l 0, 0, 0, cellRow l⟩, _, rfl, by simp [isCell, h0, ← h5, show 6 ≤ l.length by omega]⟩
      · rw [if_pos (by simpa using h5)]
        exact ⟨⟨0, 0, 0, 0, noR⟩, _, rfl, by simp [isCell, h5]⟩
  rw [pu_spec_l1Read, vcase_b, bys_len]
  unfold unpC isStub
  by_cases h3 : l.length = 3
  · rw [if_pos (by simp [h3]), idxF_by (by omega) (by omega)]
    simp only [List.getElem?_cons_zero, Option.bind_some, gI_i]
    obtain ⟨c, b, e1, e2⟩ := j1 (bt l 0 == 1) (fun _ => h3)
    refine ⟨c, b, e1, ?_⟩
    rw [e2]
    cases hq : bt l 0 == 1 <;> simp [h3, isCell]
  · rw [if_neg (by simp; omega)]
    obtain ⟨c, b, e1, e2⟩ := j1 false (fun h => by cases h)
    refine ⟨c, b, e1, ?_⟩
    rw [e2]
    simp [h3]
theorem p_spec_UnpackCell {l : List UInt8} (hl : l.length ≤ lim) : pureV (call Ev) Fn.spec_UnpackCell [lv (bys l)] = some (.agg (unpC l).cs) := by
  obtain ⟨c, b, e1, e2⟩ := p_l1Read hl
  rw [pu_spec_UnpackCell, pc e1 (by simp), e2]
  cases b <;> simp [noR]
theorem p_UnpackCell {l : List UInt8} (hl : l.length ≤ lim) : pureV (call Ev) Fn.impl_UnpackCell [lv (bys l)] = some (.agg (unpC l).cs) := by
  have hrs := cellRow_size hl
  have n0 := bt_nn l 0; have n1 := bt_nn l 1; have n2 := bt_nn l 2
  have j0 : ∀ q, 6 ≤ l.length → Jn.impl_UnpackCell_0 q (bys l) = some (.agg (CellD.cs (if !q && rowF (cellRow l) == 0 then ⟨0, bt l 0, 0, 0, cellRow l⟩ else ⟨5, 0, 0, 0, noR⟩))) := by
    intro q h6
    unfold Jn.impl_UnpackCell_0
    rw [vcase_b]
    cases q
    case true => rfl
    simp (disch := first | omega | fail) only [idxF_by, List.getElem?_cons_zero, Option.bind_some, gI_i, w64bt, shl8, or8, gV1_s, Bool.false_eq_true, if_false]
    rw [show iv .i64 6 = iv .i64 ((6 : Nat) : Int) from rfl, slF_lo h6, fsStr_by (by rw [List.length_drop]; omega)]
    simp only [Option.bind_some, gV1_s, gS_s]
    rw [hchk_of (HExt.refl _).new, pc (pRF hl) rfl]
    simp only [gV1_s, gI_i, vcase_b]
    cases hf : rowF (cellRow l) == 0
    · rw [if_pos (by simpa using hf)]; rfl
    · rw [if_neg (by simpa using hf)]; rfl
  have j1t : Jn.impl_UnpackCell_1 true (bys l) = some (.agg (CellD.cs ⟨5, 0, 0, 0, noR⟩)) := by
    unfold Jn.impl_UnpackCell_1 Jn.impl_UnpackCell_0; rfl
  have j1f : 6 ≤ l.length → (bt l 0 == 0 || bt l 0 == 2) = true → Jn.impl_UnpackCell_1 false (bys l) = some (.agg (CellD.cs (if isCell l && rowF (cellRow l) == 0 then ⟨0, bt l 0, 0, 0, cellRow l⟩ else ⟨5, 0, 0, 0, noR⟩))) := by
    intro h6 h0
    unfold Jn.impl_UnpackCell_1
    rw [vcase_b, if_neg (by simp), idxF_by (by omega) (by omega)]
    simp only [List.getElem?_cons_zero, Option.bind_some, gI_i, w64bt, w64b6, bys_len]
    rw [j0 _ h6]
    by_cases h5 : (l.length : Int) = 6 + bt l 5
    · simp [isCell, h0, h5, h6]
    · simp [isCell, h0, h5, h6]
  have tail : ∀ (h3 : isStub l = false ∨ ¬ (bt l 1 ≤ 11 ∧ bt l 2 ≤ 15)), (vcase (bv (decide (((bys l).length : Int) < 6)))
      (Jn.impl_UnpackCell_1 true (bys l))
      (idxF 1 (bys l) 0 fun r401 =>
      (r401[0]?).bind fun x402 =>
      gI .u8 x402 fun i403 =>
      vcase (bv (i403 != 0))
      (idxF 1 (bys l) 0 fun r405 =>
      (r405[0]?).bind fun x406 =>
      gI .u8 x406 fun i407 =>
      Jn.impl_UnpackCell_1 (i407 != 2) (bys l))
      (Jn.impl_UnpackCell_1 false (bys l)))) = some (.agg (unpC l).cs) := by
    intro h3
    have hu : unpC l = if isCell l && rowF (cellRow l) == 0 then ⟨0, bt l 0, 0, 0, cellRow l⟩ else ⟨5, 0, 0, 0, noR⟩ := by
      unfold unpC
      rw [if_neg]
      rcases h3 with h3 | h3
      · simp [h3]
      · simp; intro _ a; have := fun b => h3 ⟨a, b⟩; omega
    rw [vcase_b, bys_len, hu]
    by_cases h6 : l.length < 6
    · rw [if_pos (by simp; omega), j1t]
      simp [isCell, show ¬ 6 ≤ l.length by omega]
    rw [if_neg (by simp; omega), idxF_by (by omega) (by omega)]
    simp only [List.getElem?_cons_zero, Option.bind_some, gI_i, vcase_b]
    by_cases h00 : bt l 0 = 0
    · rw [if_neg (by simp [h00]), j1f (by omega) (by simp [h00])]
    rw [if_pos (by simpa using h00), idxF_by (by omega) (by omega)]
    simp only [List.getElem?_cons_zero, Option.bind_some, gI_i, vcase_b]
    by_cases h02 : bt l 0 = 2
    · rw [show (bt l 0 != 2) = false from by simp [h02], j1f (by omega) (by simp [h02])]
    · rw [show (bt l 0 != 2) = true from by simp [h02], j1t]
      simp [isCell, h00, h02]
  have j2 : ∀ q, (q = (isStub l && decide (bt l 1 < 12))) → Jn.impl_UnpackCell_2 q (bys l) = some (.agg (unpC l).cs) := by
    intro q hq
    unfold Jn.impl_UnpackCell_2
    rw [vcase_b]
    cases q
    case false =>
      rw [if_neg (by simp)]
      refine tail ?_
      cases hs : isStub l
      · exact .inl rfl
      · rw [hs] at hq
        simp only [Bool.true_and] at hq
        have := of_decide_eq_false hq.symm
        exact .inr (by omega)
    case true =>
      rw [if_pos rfl]
      have hq' := hq.symm
      simp only [Bool.and_eq_true, decide_eq_true_eq] at hq'
      have hs := hq'.1
      unfold isStub at hs
      simp only [Bool.and_eq_true, decide_eq_true_eq] at hs
      rw [idxF_by (by omega) (by omega)]
      simp only [List.getElem?_cons_zero, Option.bind_some, gI_i]
      by_cases h2 : bt l 2 < 16
      · rw [vcase_b, if_pos (by simpa using h2)]
        simp (disch := first | omega | fail) only [idxF_by, List.getElem?_cons_zero, Option.bind_some, gI_i, w64bt]
        unfold unpC
        rw [if_pos (by rw [hq'.1]; simp; omega)]
        rfl
      · rw [vcase_b, if_neg (by simpa using h2)]
        exact tail (.inr (by omega))
  rw [pu_impl_UnpackCell, vcase_b]
  by_cases h3 : l.length = 3
  · rw [if_pos (by simp [h3]), idxF_by (by omega) (by omega)]
    simp only [List.getElem?_cons_zero, Option.bind_some, gI_i, vcase_b]
    by_cases h1 : bt l 0 = 1
    · rw [if_pos (by simp [h1]), idxF_by (by omega) (by omega)]
      simp only [List.getElem?_cons_zero, Option.bind_some, gI_i]
      exact j2 _ (by simp [isStub, h3, h1])
    · rw [if_neg (by simpa using h1)]
      exact j2 _ (by simp [isStub, h1])
  · rw [if_neg (by simp; omega)]
    exact tail (.inl (by simp [isStub, h3]))
theorem p_eqRow (a b : RowD) : pureV (call Ev) Fn.laws_eqRow [.agg a.cs, .agg b.cs] = some (bv (a.tab == b.tab && (a.key == b.key && (a.val == b.val && a.text.toList == b.text.toList)))) := by
  rw [pu_laws_eqRow]
  simp only [vcase_b]
  by_cases h1 : a.tab = b.tab <;> by_cases h2 : a.key = b.key <;> by_cases h3 : a.val = b.val <;> cases h4 : (a.text.toList == b.text.toList) <;> simp [h1, h2, h3, h4]
theorem p_eqCellResult (a : CellD) : pureV (call Ev) Fn.laws_eqCellResult [.agg a.cs, .agg a.cs] = some (bv true) := by
  rw [pu_laws_eqCellResult]
  simp only [vcase_b, bne_self_eq_false, Bool.false_eq_true, if_false]
  rw [pc (p_eqRow a.row a.row) rfl]
  simp
end Vm
