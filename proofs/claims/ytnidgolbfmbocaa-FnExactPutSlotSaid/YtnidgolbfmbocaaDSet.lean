/-
  A cell set in a slot that holds one.
-/
import Derived.Test.YtnidgolbfmbocaaDWri
set_option linter.unusedVariables false
set_option maxRecDepth 100000
set_option linter.unusedSimpArgs false
set_option linter.unusedSectionVars false
namespace Vm
open Go
theorem wrC_set1 {l m : List UInt8} {k a : Nat} {c : UInt8} (ha : 2 ≤ a) (hl : a ≤ l.length) : wrC (l.set 1 c) k a m = (wrC l k a m).set 1 c := by
  have e : lay (l.set 1 c) a m = (lay l a m).set 1 c := by
    unfold lay
    rw [List.drop_set_of_lt (by omega), List.take_set, List.append_assoc, List.append_assoc, List.set_append_left _ _ (by rw [List.length_take]; omega)]
  unfold wrC
  rw [e, List.set_comm c (UInt8.ofNat a) (show 1 ≠ 2 + 2 * k by omega), List.set_comm c (UInt8.ofNat m.length) (show 1 ≠ 3 + 2 * k by omega)]
noncomputable def setR (l : List UInt8) (i : Int) (m : List UInt8) : Int × Int × List UInt8 :=
  if pagF l ≠ 0 then (pagF l, 0, []) else if inB m.length 1 20 = false then (1, 0, []) else if hasB l i = false then (4, 0, []) else
  if (m.length : Int) ≤ siz l i.toNat then (0, i, wrC l i.toNat (plc l i.toNat + siz l i.toNat - m.length).toNat m) else
  if freS l + siz l i.toNat < m.length then (9, 0, []) else if bt l 1 - m.length < 2 + 2 * bt l 0 then (8, 0, []) else
  (0, i, (wrC l i.toNat (bt l 1 - m.length).toNat m).set 1 (UInt8.ofNat (bt l 1 - m.length).toNat))
theorem bad3 {c : Int} : ((pureV (call Ev) Fn.spec_l2Bad [iv .i64 c]).bind fun v105 =>
    gVA v105 fun c106 =>
    (c106[0]?).bind fun x107 =>
    gI .i64 x107 fun i108 =>
    (c106[1]?).bind fun x109 =>
    gI .i64 x109 fun i110 =>
    (c106[2]?).bind fun x111 =>
    gF x111 fun z112 =>
    if c106.length = 3 then
    some (V.agg [.int .i64 i108, .int .i64 i110, .fs z112])
    else none) = some (.agg [.int .i64 c, .int .i64 0, .fs (bys [])]) := by
  rw [pu_spec_l2Bad, ob]
  simp only [gVA_a, gx0, gx1, ob, gI_i, gF_f, ln0, ln1, Nat.zero_add, Nat.reduceAdd, if_true]
  rfl
theorem p_l2CellSize {m : List UInt8} : pureV (call Ev) Fn.spec_l2CellSize [lv (bys m)] = some (bv (inB m.length 1 20)) := by
  rw [pu_spec_l2CellSize, bys_len, pc (p_l1In _ _ _) rfl]; simp
theorem p_cellFault {l m : List UInt8} : pureV (call Ev) Fn.impl_cellFault [lv (bys l), lv (bys m)] = some (iv .i64 (if pagF l ≠ 0 then pagF l else if inB m.length 1 20 = false then 1 else 0)) := by
  rw [pu_impl_cellFault, pc p_PageFault rfl]
  simp only [gV1_s, gI_i, vcase_b, bys_len]
  by_cases hp : pagF l = 0
  case neg => rw [if_pos (by simpa using hp), if_pos hp]
  rw [hp]
  simp only [bne_self_eq_false, Bool.false_eq_true, if_false, ne_eq, not_true_eq_false, decide_eq_true_eq]
  unfold inB
  by_cases h1 : (m.length : Int) < 1
  · rw [if_pos h1, show decide ((1 : Int) ≤ m.length) = false from by simp; omega]; rfl
  rw [if_neg h1]
  by_cases h2 : (m.length : Int) > 20
  · rw [if_pos h2, show decide ((m.length : Int) ≤ 20) = false from by simp; omega]; simp
  · rw [if_neg h2, show decide ((m.length : Int) ≤ 20) = true from by simp; omega, show decide ((1 : Int) ≤ m.length) = true from by simp; omega]; rfl
theorem frz_pg {h : H} {b : Nat} {m : List UInt8} {c : Int} (w : BysW h (sv b 0 64) m b) : frzV h (.tup [.s (.sl (some (b, 0)) 64), .s (.int .i64 c)]) = some (.tup [.s (.fs (bys m)), .s (.int .i64 c)]) := by
  have hN := w.len
  obtain ⟨_, h2⟩ := w.frz (d := 7)
  rw [← hN] at h2
  simp [frzAs, frzA, h2]
theorem p_l2Set {l m : List UInt8} {k : Nat} (hp : pagF l = 0) (hk : k < cnt l) (hs : inB m.length 1 20 = true) (hb : hasB l (k : Int) = true) :
    pureV (call Ev) Fn.spec_l2Set [lv (bys l), iv .i64 k, lv (bys m)] = some (.tup [.s (.fs (bys (setR l k m).2.2)), .s (.int .i64 (setR l k m).1)]) := by
  obtain ⟨h64, ⟨g1, g2, g3⟩, _⟩ := pagF_ok hp
  obtain ⟨s1, s2, s3, s4, s5⟩ := slot_bd hp hk
  have hc := cnt_eq l
  have hm := inB_iff.1 hs
  have hf := freS_bd hp
  obtain ⟨v, h1, e1, w1, n1⟩ := f_l2Copy (m := l) (by unfold lim; omega) 0
  rw [pu_spec_l2Set, pc (p_l2Size s4 s5) rfl]
  simp only [gV1_s, gI_i]
  rw [pF (h := D 0) (h1 := h1) (v := v) e1 ⟨by rw [(show BysW h1 v l 1 from w1.own).v]; rfl, w1.z⟩]
  have hv := (show BysW h1 v l 1 from w1.own).v
  subst hv
  have hle : (D 0).n ≤ h1.n := w1.le
  generalize hG : (D 0).over h1 = G
  have gn : G.n = h1.n := by rw [← hG, over_n hle]
  have w : BysW G (sv 1 0 64) l 1 := ⟨by rw [h64], by omega, by rw [← hG, over_ge (by simp)]; exact (show BysW h1 _ l 1 from w1.own).g⟩
  unfold setR
  rw [if_neg (by simp [hp]), if_neg (by simp [hs]), if_neg (by simp [hb]), Int.toNat_natCast]
  simp only [vcase_b, bys_len, h64]
  by_cases c1 : (m.length : Int) ≤ siz l k
  · rw [if_pos (by simpa using c1), if_pos c1, pc (p_l2Place (by omega) s5) rfl]
    simp only [gV1_s, gI_i]
    rw [w64 (n := plc l k + siz l k) (by omega) (by omega), w64 (by omega) (by omega), show plc l k + siz l k - (m.length : Int) = ((plc l k + siz l k - (m.length : Int)).toNat : Int) from by omega]
    obtain ⟨K, e2, w3, o3⟩ := r_l2Stand (i := k) (a := (plc l k + siz l k - (m.length : Int)).toNat) (m := m) w h64 (by omega) (by omega)
    rw [e2, ob]
    dsimp only
    rw [o3.tidy w.n]
    simp only [V.toA, ob]
    rw [frz_pg w3]
    rfl
  rw [if_neg (by simpa using c1), if_neg c1, pc (p_l2Free hp) rfl]
  simp only [gV1_s, gI_i, vcase_b]
  rw [w64 (n := freS l + siz l k) (by omega) (by omega)]
  by_cases c2 : freS l + siz l k < m.length
  · rw [if_pos (by simpa using c2), if_pos c2]; rfl
  rw [if_neg (by simpa using c2), if_neg c2, pc (p_l2Low (by omega)) rfl]
  simp only [gV1_s, gI_i]
  have b2 := bt_nn l 0
  rw [pc (p_l2Count (by omega)) rfl]
  simp only [gV1_s, gI_i, vcase_b]
  rw [w64 (n := 2 * bt l 0) (by omega) (by omega), w64 (n := 2 + 2 * bt l 0) (by omega) (by omega), w64 (n := bt l 1 - (m.length : Int)) (by omega) (by omega)]
  by_cases c3 : bt l 1 - m.length < 2 + 2 * bt l 0
  · rw [if_pos (by simpa using c3), if_pos c3]; rfl
  rw [if_neg (by simpa using c3), if_neg c3]
  rw [show bt l 1 - (m.length : Int) = ((bt l 1 - (m.length : Int)).toNat : Int) from by omega, show iv .i64 1 = iv .i64 ((1 : Nat) : Int) from rfl, idxK_sv (by omega), w.set (c := UInt8.ofNat (bt l 1 - (m.length : Int)).toNat) (by omega) (by rw [w8 (by omega) (by omega)]; simp; omega)]
  have w2 := w.set_w (i := 1) (c := UInt8.ofNat (bt l 1 - (m.length : Int)).toNat)
  generalize G.put 1 (.rw 1 ((l.set 1 (UInt8.ofNat (bt l 1 - (m.length : Int)).toNat)).map cell8)) = F at w2 ⊢
  obtain ⟨K, e2, w3, o3⟩ := r_l2Stand (i := k) (a := (bt l 1 - (m.length : Int)).toNat) (m := m) w2 (by simp [h64]) (by omega) (by omega)
  rw [e2, ob]
  dsimp only
  rw [o3.tidy w2.n]
  simp only [V.toA, ob]
  have e3 : ((lay (l.set 1 (UInt8.ofNat (bt l 1 - (m.length : Int)).toNat)) (bt l 1 - (m.length : Int)).toNat m).set (2 + 2 * k) (UInt8.ofNat (bt l 1 - (m.length : Int)).toNat)).set (3 + 2 * k) (UInt8.ofNat m.length) = (wrC l k (bt l 1 - (m.length : Int)).toNat m).set 1 (UInt8.ofNat (bt l 1 - (m.length : Int)).toNat) := wrC_set1 (by omega) (by omega)
  rw [e3] at w3
  rw [frz_pg w3]
  simp
end Vm
