/-
  What stands in a slot.
-/
import Derived.Test.YtnidgolbfmbocaaDPag
import Derived.Test.YtnidgolbfmbocaaDRes
import Derived.Test.YtnidgolbfmbocaaDRow
set_option linter.unusedVariables false
set_option maxRecDepth 100000
set_option linter.unusedSimpArgs false
namespace Vm
open Go

/-- is there something in this slot? -/
def hasB (l : List UInt8) (i : Int) : Bool := decide (0 ≤ i) && (decide (i < bt l 0) && siz l i.toNat != 0)
theorem hasB_nat {l : List UInt8} {i : Int} (h : hasB l i = true) : ∃ k : Nat, i = k ∧ k < cnt l ∧ siz l k ≠ 0 := by
  simp only [hasB, Bool.and_eq_true, decide_eq_true_eq, bne_iff_ne, ne_eq] at h
  have := cnt_eq l
  exact ⟨i.toNat, by omega, by omega, h.2.2⟩
section
variable {l : List UInt8} (hp : pagF l = 0)
include hp
theorem p_l2Has {i : Int} (h1 : -9223372036854775808 ≤ i) (h2 : i < 9223372036854775808) : pureV (call Ev) Fn.spec_l2Has [lv (bys l), iv .i64 i] = some (bv (hasB l i)) := by
  obtain ⟨h64, ⟨g1, g2, g3⟩, _⟩ := pagF_ok hp
  have b2 := bt_nn l 0
  rw [pu_spec_l2Has, pc (p_l2Count (by omega)) rfl]
  simp only [gV1_s, gI_i]
  rw [w64 (by omega) (by omega), pc (p_l1In _ _ _) rfl]
  simp only [gV1_s, gB_b, vcase_b]
  unfold hasB
  by_cases hi : inB i 0 (bt l 0 - 1) = true
  · have hi' := inB_iff.1 hi
    obtain ⟨k, rfl⟩ : ∃ k : Nat, i = k := ⟨i.toNat, by omega⟩
    rw [if_pos hi, pc (p_l2Size (by omega) (by omega)) rfl]
    have := (pl_bd l k).2.2.1
    simp only [gV1_s, gI_i]
    congr 2
    rw [show decide ((0 : Int) ≤ (k : Int)) = true from by simp, show decide ((k : Int) < bt l 0) = true from by simp; omega]
    simp only [Bool.true_and, Int.toNat_natCast]
    rw [show decide (siz l k > 0) = (siz l k != 0) from by rw [Bool.eq_iff_iff]; simp; omega]
  · rw [if_neg hi]
    have : ¬ (0 ≤ i ∧ i ≤ bt l 0 - 1) := fun hh => hi (inB_iff.2 hh)
    congr 2
    by_cases h0 : 0 ≤ i
    · rw [show decide (i < bt l 0) = false from by simp; omega]; simp
    · rw [show decide (0 ≤ i) = false from by simp; omega]; simp
theorem p_hasSlot {i : Int} : pureV (call Ev) Fn.impl_hasSlot [lv (bys l), iv .i64 i] = some (bv (hasB l i)) := by
  obtain ⟨h64, ⟨g1, g2, g3⟩, _⟩ := pagF_ok hp
  have b2 := bt_nn l 0
  rw [pu_impl_hasSlot, vcase_b]
  unfold hasB
  by_cases h0 : 0 ≤ i
  case neg => rw [if_neg (by simpa using h0)]; simp [h0]
  rw [if_pos (by simpa using h0), pc (p_slots (by omega)) rfl]
  simp only [gV1_s, gI_i, vcase_b]
  by_cases h1 : i < bt l 0
  case neg => rw [if_neg (by simpa using h1)]; simp [h0, h1]
  rw [if_pos (by simpa using h1)]
  obtain ⟨k, rfl⟩ : ∃ k : Nat, i = k := ⟨i.toNat, by omega⟩
  rw [w64 (n := 2 * (k : Int)) (by omega) (by omega), w64 (by omega) (by omega), idxF_by (by omega) (by omega)]
  simp only [gx0, ob, gI_i]
  have : bt l (3 + 2 * (k : Int)) = siz l k := by unfold siz; congr 1
  rw [this]
  simp [h1]
/-- the bytes of a cell -/
def cellB (l : List UInt8) (k : Nat) : List UInt8 := (l.take (plc l k + siz l k).toNat).drop (plc l k).toNat
theorem slot_bd {k : Nat} (hk : k < cnt l) : 0 ≤ plc l k ∧ 0 ≤ siz l k ∧ plc l k + siz l k ≤ 64 ∧ 3 + 2 * k < l.length ∧ k < 1000 := by
  obtain ⟨h64, ⟨g1, g2, g3⟩, h3, _⟩ := pagF_ok hp
  have hc := cnt_eq l
  have q := pl_bd l k
  have hs := h3 k hk
  unfold slotB at hs
  refine ⟨q.1, q.2.2.1, ?_, by omega, by omega⟩
  split at hs <;> omega
theorem p_cellAt {k : Nat} (hk : k < cnt l) : pureV (call Ev) Fn.impl_cellAt [lv (bys l), iv .i64 k] = some (lv (bys (cellB l k))) := by
  obtain ⟨s1, s2, s3, s4, s5⟩ := slot_bd hp hk
  obtain ⟨h64, _⟩ := pagF_ok hp
  rw [pu_impl_cellAt, pc (p_spot s4 s5) rfl]
  simp only [gVT_t, gx0, gx1, ob, gA1_s, gI_i, ln0, ln1, Nat.zero_add, Nat.reduceAdd, if_true]
  rw [w64 (by omega) (by omega), show plc l k = ((plc l k).toNat : Int) from by omega, show (((plc l k).toNat : Int) + siz l k) = ((((plc l k).toNat : Int) + siz l k).toNat : Int) from by omega, slF_lh (by omega) (by omega)]
  unfold cellB
  rw [show ((plc l k).toNat : Int) = plc l k from by omega]
theorem p_l2Cell {k : Nat} (hk : k < cnt l) : pureV (call Ev) Fn.spec_l2Cell [lv (bys l), iv .i64 k] = some (lv (bys (cellB l k))) := by
  obtain ⟨s1, s2, s3, s4, s5⟩ := slot_bd hp hk
  obtain ⟨h64, _⟩ := pagF_ok hp
  rw [pu_spec_l2Cell, pc (p_l2Place (by omega) s5) rfl]
  simp only [gV1_s, gI_i]
  rw [pc (p_l2Size s4 s5) rfl]
  simp only [gV1_s, gI_i]
  rw [w64 (by omega) (by omega), show plc l k = ((plc l k).toNat : Int) from by omega, show (((plc l k).toNat : Int) + siz l k) = ((((plc l k).toNat : Int) + siz l k).toNat : Int) from by omega, slF_lh (by omega) (by omega)]
  have hlen : ((l.take (((plc l k).toNat : Int) + siz l k).toNat).drop (plc l k).toNat).length ≤ lim := by
    rw [List.length_drop, List.length_take]; unfold lim; omega
  have := app_nil (h := D 0) hlen
  rw [D_n] at this
  rw [this, ob]
  have w : BysW ((((D 0).new 1 []).put 0 .dead).new 1 (((l.take (((plc l k).toNat : Int) + siz l k).toNat).drop (plc l k).toNat).map cell8)) (sv (0 + 1) 0 ((l.take (((plc l k).toNat : Int) + siz l k).toNat).drop (plc l k).toNat).length) _ 1 := ⟨rfl, by simp, new_g (((D 0).new 1 []).put 0 .dead) _ _⟩
  rw [frz1 (ob := some 1) w]
  unfold cellB
  rw [show ((plc l k).toNat : Int) = plc l k from by omega]
end
noncomputable def slC (l : List UInt8) (i : Int) : Int := if pagF l = 0 then (if hasB l i then 0 else 4) else pagF l
noncomputable def slL (l : List UInt8) (i : Int) : List UInt8 := if pagF l = 0 ∧ hasB l i = true then cellB l i.toNat else []
theorem cellB_len (l : List UInt8) (k : Nat) : (cellB l k).length ≤ l.length := by
  unfold cellB; rw [List.length_drop, List.length_take]; omega
theorem slL_len (l : List UInt8) (i : Int) : (slL l i).length ≤ l.length := by
  unfold slL; split
  · exact cellB_len _ _
  · simp
theorem p_spec_SlotIn {l : List UInt8} {i : Int} (h1 : -9223372036854775808 ≤ i) (h2 : i < 9223372036854775808) : pureV (call Ev) Fn.spec_SlotIn [lv (bys l), iv .i64 i] = some (.agg [.int .i64 (slC l i), .fs (bys (slL l i))]) := by
  rw [pu_spec_SlotIn, pc p_l2Fault rfl]
  simp only [gV1_s, gI_i, vcase_b]
  unfold slC slL
  by_cases hp : pagF l = 0
  case neg => rw [if_pos (by simpa using hp), if_neg hp, if_neg (fun hh => hp hh.1)]; rfl
  rw [if_neg (by simp [hp]), pc (p_l2Has hp h1 h2) rfl]
  simp only [gV1_s, gB_b, vcase_b]
  cases hb : hasB l i
  · simp [hp, bys]
  obtain ⟨k, rfl, hk, _⟩ := hasB_nat hb
  rw [if_neg (by simp), p_l2Cell hp hk]
  simp [hp]
theorem f_SlotIn {l : List UInt8} {i : Int} (hl : l.length ≤ lim) (n : Nat) : ∃ y h' ob, call Ev Fn.impl_SlotIn [lv (bys l), iv .i64 i] (D n) = some (.agg [.int .i64 (slC l i), y], h') ∧ NewB n h' (.s y) (slL l i) ob := by
  rw [eq_impl_SlotIn, pc p_PageFault rfl]
  simp only [gV1_s, gI_i, vcase_b]
  unfold slC slL
  have bad : ∀ c : Int, ∃ h', (stK 2 ((D n).new 0 [.int .i64 0, .sl none 0]) (pv ((D n).n) 0) (.agg [.int .i64 c, .sl none 0]) fun h105 =>
      (loadN 2 h105 (pv ((D n).n) 0)).bind fun c106 => some (V.agg c106, h105)) = some (.agg [.int .i64 c, .sl none 0], h') ∧ NewB n h' (.s (.sl none 0)) [] none := by
    intro c
    rw [st2_new, loadN_2 (by simp) (by exact g_st), Vm.ob]
    refine ⟨_, rfl, ⟨rfl, rfl⟩, by simp, by simp, fun b h1 h2 s hs => ?_⟩
    have h3 : b = n := by simp at h2; omega
    subst h3
    have e : (((D b).new 0 [.int .i64 0, .sl none 0]).put (D b).n (.rw 0 [.int .i64 c, .sl none 0])).g b = .rw 0 [.int .i64 c, .sl none 0] := g_st
    rw [e] at hs
    simp only [Blk.cells, List.mem_cons, List.not_mem_nil, or_false] at hs
    rcases hs with rfl | rfl <;> rfl
  by_cases hp : pagF l = 0
  case neg =>
    obtain ⟨h', e1, e2⟩ := bad (pagF l)
    rw [if_pos (by simpa using hp), if_neg hp, if_neg (fun hh => hp hh.1), e1]
    exact ⟨_, h', none, rfl, e2⟩
  rw [if_neg (by simp [hp]), pc (p_hasSlot hp) rfl]
  simp only [gV1_s, gB_b, vcase_b]
  cases hb : hasB l i
  · obtain ⟨h', e1, e2⟩ := bad 4
    rw [if_pos (by simp), e1]
    exact ⟨.sl none 0, h', none, by simp [hp], by simpa [hp] using e2⟩
  obtain ⟨k, rfl, hk, _⟩ := hasB_nat hb
  rw [if_neg (by simp), p_cellAt hp hk]
  simp only [Vm.ob, gV1_s, gF_f]
  obtain ⟨v, h1, e1, w1, n1⟩ := f_copied (m := cellB l k) (Nat.le_trans (cellB_len l k) hl) (n + 1)
  have hn : ((D n).new 0 [.int .i64 0, .sl none 0]).n = n + 1 := by simp
  rw [pF (h := (D n).new 0 [.int .i64 0, .sl none 0]) (h1 := h1) (v := v) (by rw [hn]; exact e1) (by rw [hn]; exact ⟨by rw [(show BysW h1 v (cellB l k) (n + 2) from w1.own).v]; rfl, w1.z⟩)]
  have hv := (show BysW h1 v (cellB l k) (n + 2) from w1.own).v
  subst hv
  have hle : ((D n).new 0 [.int .i64 0, .sl none 0]).n ≤ h1.n := by rw [hn]; omega
  generalize hG : ((D n).new 0 [.int .i64 0, .sl none 0]).over h1 = G
  have gn : G.n = n + 3 := by rw [← hG, over_n hle]; omega
  have g0 : G.g n = .rw 0 [.int .i64 0, .sl none 0] := by rw [← hG, (over_lt (by simp)).1]; exact new_g (D n) _ _
  have gw : BysW G (sv (n + 2) 0 (cellB l k).length) (cellB l k) (n + 2) := ⟨rfl, by omega, by rw [← hG, over_ge (by rw [hn]; omega)]; exact w1.own.g⟩
  simp only [cellsK, isNo, cond_false, ln0, ln1, Nat.zero_add, Nat.reduceAdd, Nat.le_refl, and_self, if_true]
  rw [show setAt [.int .i64 0, .sl none 0] 1 [S.sl (some (n + 2, 0)) (cellB l k).length] = [.int .i64 0, .sl (some (n + 2, 0)) (cellB l k).length] from rfl]
  simp only [gx0, gx1, Vm.ob, gI_i, ln0, ln1, Nat.zero_add, Nat.reduceAdd, if_true]
  rw [D_n, stK_rw (z := 2) (e := 0) (o := 0) (b := n) (cs := [.int .i64 0, .sl none 0]) (r := [.int .i64 0, .sl (some (n + 2, 0)) (cellB l k).length]) (by omega) g0 (.inr rfl) rfl (by simp)]
  rw [show setAt [.int .i64 0, .sl none 0] 0 [.int .i64 0, .sl (some (n + 2, 0)) (cellB l k).length] = [.int .i64 0, S.sl (some (n + 2, 0)) (cellB l k).length] from rfl]
  rw [loadN_2 (b := n) (e := 0) (by rw [put_n]; omega) (put_g _ _ _), Vm.ob]
  refine ⟨.sl (some (n + 2, 0)) (cellB l k).length, G.put n (.rw 0 [.int .i64 0, .sl (some (n + 2, 0)) (cellB l k).length]), some (n + 2), by simp [hp], ?_⟩
  rw [if_pos ⟨hp, by simp⟩, Int.toNat_natCast]
  refine ⟨⟨rfl, by rw [put_n]; omega, by rw [put_g' (by omega)]; exact gw.g⟩, by rw [put_n]; omega, fun b hb => by cases hb; omega, fun b h2 h3 s hs => ?_⟩
  by_cases hbn : b = n
  · subst hbn
    rw [put_g] at hs
    simp only [Blk.cells, List.mem_cons, List.not_mem_nil, or_false] at hs
    rcases hs with rfl | rfl <;> rfl
  · rw [put_g' hbn, ← hG, over_ge (by rw [hn]; omega)] at hs
    exact w1.z b (by omega) (by rw [put_n] at h3; omega) s hs
theorem NewB.p {f : Nat} {xs : List V} {h : H} {c : Int} {y : S} {l : List UInt8} {o : Option Nat} (hc : call Ev f xs (D 0) = some (.agg [.int .i64 c, y], h)) (w : NewB 0 h (.s y) l o) : pureV (call Ev) f xs = some (.agg [.int .i64 c, .fs (bys l)]) := by
  unfold pureV
  rw [hc, Vm.ob, frz2 w.own]
end Vm
