/-
  A cell put into a page.
-/
import Derived.Test.YtnidgolbfmbocaaDSetS
set_option linter.unusedVariables false
set_option maxRecDepth 100000
set_option linter.unusedSimpArgs false
set_option linter.unusedSectionVars false
namespace Vm
open Go
/-- the first slot that is empty, from one on -/
noncomputable def empG (l : List UInt8) : Nat → Nat → Nat
  | 0, i => i
  | q + 1, i => if siz l i = 0 then i else empG l q (i + 1)
theorem empG_le (l : List UInt8) : ∀ (q i : Nat), i ≤ empG l q i ∧ empG l q i ≤ i + q
  | 0, i => ⟨Nat.le_refl _, Nat.le_refl _⟩
  | q + 1, i => by
    have := empG_le l q (i + 1)
    simp only [empG]
    split <;> omega
noncomputable def empS (l : List UInt8) : Nat := empG l (cnt l) 0
theorem empS_le (l : List UInt8) : empS l ≤ cnt l := by have := (empG_le l (cnt l) 0).2; unfold empS; omega
/-- the number of slots behind a put, and the bytes its entry takes -/
noncomputable def puN (l : List UInt8) : Nat := if empS l = cnt l then cnt l + 1 else cnt l
noncomputable def puM (l : List UInt8) : Int := if empS l = cnt l then 2 else 0
noncomputable def puA (l m : List UInt8) : Nat := (bt l 1 - m.length).toNat
noncomputable def puL (l m : List UInt8) : List UInt8 := ((wrC l (empS l) (puA l m) m).set 0 (UInt8.ofNat (puN l))).set 1 (UInt8.ofNat (puA l m))
/-- of a right page: code, slot, page -/
noncomputable def pu0 (l m : List UInt8) : Int × Int × List UInt8 :=
  if empS l = cnt l ∧ 16 ≤ cnt l then (2, 0, []) else if freS l < m.length + puM l then (9, 0, []) else if bt l 1 - m.length < 2 + 2 * puN l then (8, 0, []) else (0, empS l, puL l m)
noncomputable def puR (l m : List UInt8) : Int × Int × List UInt8 :=
  if pagF l ≠ 0 then (pagF l, 0, []) else if inB m.length 1 20 = false then (1, 0, []) else pu0 l m
section
variable {l : List UInt8} (hp : pagF l = 0)
include hp
theorem p_l2Empty : pureV (call Ev) Fn.spec_l2Empty [lv (bys l)] = some (iv .i64 (empS l)) := by
  obtain ⟨h64, ⟨g1, g2, g3⟩, _⟩ := pagF_ok hp
  have hc := cnt_eq l
  have b2 := bt_nn l 0
  have loop : ∀ (q i : Nat), i + q = cnt l →
      (Lp.spec_l2Empty 0 [lv (bys l), iv .i64 i] (D 0)).bind (fun o101 => lcase o101 (fun l102 h103 =>
        (l102[0]?).bind fun w106 =>
        gV1 w106 fun x107 =>
        gF x107 fun z108 =>
        pcallS (call Ev) Fn.spec_l2Count [lv z108] fun v109 =>
        gV1 v109 fun x110 =>
        gI .i64 x110 fun i111 =>
        some (iv .i64 i111)) (fun v104 h105 =>
        frzV h105 v104)) = some (iv .i64 (empG l q i)) := by
    intro q
    induction q with
    | zero =>
      intro i hi
      rw [eq_spec_l2Empty_l0, pc (p_l2Count (by omega)) rfl]
      simp only [gV1_s, gI_i, vcase_b]
      rw [if_neg (by simp; omega), tidy_self]
      simp only [ob, lcase_done, gx0, gV1_s, gF_f]
      rw [pc (p_l2Count (by omega)) rfl]
      simp only [gV1_s, gI_i, empG]
      rw [show bt l 0 = (i : Int) from by omega]
    | succ q ih =>
      intro i hi
      rw [eq_spec_l2Empty_l0, pc (p_l2Count (by omega)) rfl]
      simp only [gV1_s, gI_i, vcase_b]
      rw [if_pos (by simp; omega), pc (p_l2Size (by omega) (by omega)) rfl]
      simp only [gV1_s, gI_i, vcase_b, empG]
      by_cases h0 : siz l i = 0
      · rw [if_pos (by simpa using h0), if_pos h0]; simp
      · rw [if_neg (by simpa using h0), if_neg h0, w64 (by omega) (by omega), tidy_self, show (i : Int) + 1 = ((i + 1 : Nat) : Int) from by omega]
        exact ih (i + 1) (by omega)
  rw [pu_spec_l2Empty]
  exact loop (cnt l) 0 (by omega)
theorem f_emp {w : V} {h : H} {m : List (List S)} : Lp.impl_PutSlot 0 [lv (bys l), lv m, w, iv .i64 (bt l 0), iv .i64 0] h = some (.done [lv (bys l), lv m, w, iv .i64 (bt l 0), iv .i64 (empS l)] h) := by
  obtain ⟨h64, ⟨g1, g2, g3⟩, _⟩ := pagF_ok hp
  have hc := cnt_eq l
  have b2 := bt_nn l 0
  have loop : ∀ (q i : Nat), i + q = cnt l → Lp.impl_PutSlot 0 [lv (bys l), lv m, w, iv .i64 (bt l 0), iv .i64 i] h = some (.done [lv (bys l), lv m, w, iv .i64 (bt l 0), iv .i64 (empG l q i)] h) := by
    intro q
    induction q with
    | zero =>
      intro i hi
      rw [eq_impl_PutSlot_l0, vcase_b, if_neg (by simp; omega), tidy_self]
      rfl
    | succ q ih =>
      intro i hi
      rw [eq_impl_PutSlot_l0, vcase_b, if_pos (by simp; omega), w64 (n := 2 * (i : Int)) (by omega) (by omega), w64 (n := 3 + 2 * (i : Int)) (by omega) (by omega), show 3 + 2 * (i : Int) = ((3 + 2 * i : Nat) : Int) from by omega, idxF_by (by omega) (by omega), show bt l ((3 + 2 * i : Nat) : Int) = siz l i from rfl]
      simp only [gx0, ob, gI_i, vcase_b, empG]
      by_cases h0 : siz l i = 0
      · rw [if_neg (by simpa using h0), if_pos h0, tidy_self]
      · rw [if_pos (by simpa using h0), if_neg h0, w64 (by omega) (by omega), tidy_self, show (i : Int) + 1 = ((i + 1 : Nat) : Int) from by omega]
        exact ih (i + 1) (by omega)
  exact loop (cnt l) 0 (by omega)
end
theorem wrC_set0 {l m : List UInt8} {k a : Nat} {c c' : UInt8} (ha : 2 ≤ a) (hl : a ≤ l.length) : wrC ((l.set 0 c).set 1 c') k a m = ((wrC l k a m).set 0 c).set 1 c' := by
  rw [wrC_set1 ha (by simpa using hl)]
  congr 1
  have e : lay (l.set 0 c) a m = (lay l a m).set 0 c := by
    unfold lay
    rw [List.drop_set_of_lt (by omega), List.take_set, List.append_assoc, List.append_assoc, List.set_append_left _ _ (by rw [List.length_take]; omega)]
  unfold wrC
  rw [e, List.set_comm c (UInt8.ofNat a) (show 0 ≠ 2 + 2 * k by omega), List.set_comm c (UInt8.ofNat m.length) (show 0 ≠ 3 + 2 * k by omega)]
theorem puN_bd {l : List UInt8} (h : cnt l ≤ 16) (hn : ¬ (empS l = cnt l ∧ 16 ≤ cnt l)) : puN l ≤ 16 ∧ empS l < puN l ∧ empS l < 16 ∧ cnt l ≤ puN l := by
  have := empS_le l
  unfold puN
  split <;> omega
theorem p_l2Put {l m : List UInt8} (hp : pagF l = 0) (hs : inB m.length 1 20 = true) :
    pureV (call Ev) Fn.spec_l2Put [lv (bys l), lv (bys m)] = some (.tup [.s (.fs (bys (pu0 l m).2.2)), .s (.int .i64 (pu0 l m).2.1), .s (.int .i64 (pu0 l m).1)]) := by
  obtain ⟨h64, ⟨g1, g2, g3⟩, _⟩ := pagF_ok hp
  have hc := cnt_eq l
  have hm := inB_iff.1 hs
  have b2 := bt_nn l 0
  have hf := freS_bd hp
  have he := empS_le l
  have J : ∀ (k : Nat) (q : Int), k = puN l → q = puM l → ¬ (empS l = cnt l ∧ 16 ≤ cnt l) → Jn.spec_l2Put_0 k q (bys l) (bys m) (empS l) = some (.tup [.s (.fs (bys (pu0 l m).2.2)), .s (.int .i64 (pu0 l m).2.1), .s (.int .i64 (pu0 l m).1)]) := by
    intro k q hk hq hn
    subst hk; subst hq
    obtain ⟨n1, n2, n3, n4⟩ := puN_bd (by omega) hn
    have hM : puM l = 0 ∨ puM l = 2 := by unfold puM; split <;> simp
    unfold Jn.spec_l2Put_0 pu0
    rw [if_neg hn, pc (p_l2Free hp) rfl]
    simp only [gV1_s, gI_i, vcase_b, bys_len]
    rw [w64 (n := (m.length : Int) + puM l) (by omega) (by omega)]
    by_cases c2 : freS l < m.length + puM l
    · rw [if_pos (by simpa using c2), if_pos c2]; rfl
    rw [if_neg (by simpa using c2), if_neg c2, pc (p_l2Low (by omega)) rfl]
    simp only [gV1_s, gI_i, vcase_b]
    rw [w64 (n := bt l 1 - (m.length : Int)) (by omega) (by omega), w64 (n := 2 * (puN l : Int)) (by omega) (by omega), w64 (n := 2 + 2 * (puN l : Int)) (by omega) (by omega)]
    by_cases c3 : bt l 1 - m.length < 2 + 2 * puN l
    · rw [if_pos (by simpa using c3), if_pos c3]; rfl
    rw [if_neg (by simpa using c3), if_neg c3]
    obtain ⟨v, h1, e1, w1, nn⟩ := f_l2Copy (m := l) (by unfold lim; omega) 0
    rw [pF (h := D 0) (h1 := h1) (v := v) e1 ⟨by rw [(show BysW h1 v l 1 from w1.own).v]; rfl, w1.z⟩]
    have hv := (show BysW h1 v l 1 from w1.own).v
    subst hv
    have hle : (D 0).n ≤ h1.n := w1.le
    generalize hG : (D 0).over h1 = G
    have gn : G.n = h1.n := by rw [← hG, over_n hle]
    have w : BysW G (sv 1 0 64) l 1 := ⟨by rw [h64], by omega, by rw [← hG, over_ge (by simp)]; exact (show BysW h1 _ l 1 from w1.own).g⟩
    rw [h64, show bt l 1 - (m.length : Int) = ((bt l 1 - (m.length : Int)).toNat : Int) from by omega]
    rw [show (bt l 1 - (m.length : Int)).toNat = puA l m from rfl]
    have hA : (puA l m : Int) = bt l 1 - m.length := by unfold puA; omega
    rw [show iv .i64 0 = iv .i64 ((0 : Nat) : Int) from rfl, idxK_sv (by omega), w.set (c := UInt8.ofNat (puN l)) (by omega) (by rw [w8 (by omega) (by omega)]; simp; omega)]
    have w2 := w.set_w (i := 0) (c := UInt8.ofNat (puN l))
    generalize G.put 1 (.rw 1 ((l.set 0 (UInt8.ofNat (puN l))).map cell8)) = F at w2 ⊢
    rw [show iv .i64 1 = iv .i64 ((1 : Nat) : Int) from rfl, idxK_sv (by omega), w2.set (c := UInt8.ofNat (puA l m)) (by simp; omega) (by rw [w8 (by omega) (by omega)]; simp; omega)]
    have w3 := w2.set_w (i := 1) (c := UInt8.ofNat (puA l m))
    generalize F.put 1 (.rw 1 (((l.set 0 (UInt8.ofNat (puN l))).set 1 (UInt8.ofNat (puA l m))).map cell8)) = F2 at w3 ⊢
    obtain ⟨K, e2, w4, o3⟩ := r_l2Stand (i := empS l) (a := puA l m) (m := m) w3 (by simp [h64]) (by omega) (by omega)
    rw [e2, ob]
    dsimp only
    rw [o3.tidy w3.n]
    simp only [V.toA, ob]
    have w5 : BysW K (sv 1 0 64) (puL l m) 1 := by
      have e3 : wrC ((l.set 0 (UInt8.ofNat (puN l))).set 1 (UInt8.ofNat (puA l m))) (empS l) (puA l m) m = puL l m := wrC_set0 (by omega) (by omega)
      rw [← e3]; exact w4
    obtain ⟨_, h2⟩ := w5.frz (d := 7)
    rw [show (puL l m).length = 64 from by unfold puL; simp only [List.length_set]; rw [wrC_len (by omega)]; exact h64] at h2
    simp [frzAs, frzA, h2]
  rw [pu_spec_l2Put, pc (p_l2Empty hp) rfl]
  simp only [gV1_s, gI_i]
  rw [pc (p_l2Count (by omega)) rfl]
  simp only [gV1_s, gI_i, vcase_b]
  by_cases h1 : empS l = cnt l
  · rw [if_pos (by simp; omega)]
    by_cases h2 : 16 ≤ cnt l
    · rw [if_pos (by simp; omega)]
      unfold pu0
      rw [if_pos ⟨h1, h2⟩]; rfl
    · rw [if_neg (by simp; omega), w64 (by omega) (by omega), show bt l 0 + 1 = ((cnt l + 1 : Nat) : Int) from by omega]
      exact J _ _ (by unfold puN; rw [if_pos h1]) (by unfold puM; rw [if_pos h1]) (by omega)
  · rw [if_neg (by simp; omega), ← hc]
    exact J _ _ (by unfold puN; rw [if_neg h1]) (by unfold puM; rw [if_neg h1]) (by omega)
theorem p_spec_PutSlot {l m : List UInt8} : pureV (call Ev) Fn.spec_PutSlot [lv (bys l), lv (bys m)] = some (.agg [.int .i64 (puR l m).1, .int .i64 (puR l m).2.1, .fs (bys (puR l m).2.2)]) := by
  rw [pu_spec_PutSlot, pc p_l2Fault rfl]
  simp only [gV1_s, gI_i, vcase_b]
  by_cases hp : pagF l = 0
  case neg =>
    rw [if_pos (by simpa using hp), bad3]
    unfold puR
    rw [if_pos hp]
  rw [if_neg (by simp [hp]), pc p_l2CellSize rfl]
  simp only [gV1_s, gB_b, vcase_b]
  cases hs : inB m.length 1 20
  · rw [if_pos (by simp), bad3]
    unfold puR
    rw [if_neg (by simp [hp]), if_pos hs]
  rw [if_neg (by simp), p_l2Put hp hs]
  simp only [ob, gVT_t, gx0, gx1, gA1_s, gF_f, gI_i, ln0, ln1, Nat.zero_add, Nat.reduceAdd, if_true, vcase_b]
  unfold puR
  rw [if_neg (by simp [hp]), if_neg (by simp [hs])]
theorem puR_len {l m : List UInt8} : (puR l m).2.2.length ≤ 64 := by
  unfold puR
  by_cases hp : pagF l = 0
  case neg => rw [if_pos hp]; simp
  rw [if_neg (by simp [hp])]
  cases hs : inB m.length 1 20
  · simp
  rw [if_neg (by simp)]
  obtain ⟨h64, ⟨g1, g2, g3⟩, _⟩ := pagF_ok hp
  have hm := inB_iff.1 hs
  unfold pu0
  split
  · simp
  split
  · simp
  split
  · simp
  · show (puL l m).length ≤ 64
    unfold puL
    simp only [List.length_set]
    rw [wrC_len (by unfold puA; omega)]; omega
end Vm
