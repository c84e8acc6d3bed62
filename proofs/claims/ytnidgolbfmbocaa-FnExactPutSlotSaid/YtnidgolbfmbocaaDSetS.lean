/-
  A slot set: what both ways come to.
-/
import Derived.Test.YtnidgolbfmbocaaDSet
import Derived.Test.YtnidgolbfmbocaaDSep
set_option linter.unusedVariables false
set_option maxRecDepth 100000
set_option linter.unusedSimpArgs false
set_option linter.unusedSectionVars false
namespace Vm
open Go
theorem setR_len {l : List UInt8} {i : Int} {m : List UInt8} : (setR l i m).2.2.length ≤ 64 := by
  unfold setR
  by_cases hp : pagF l = 0
  case neg => rw [if_pos hp]; simp
  rw [if_neg (by simp [hp])]
  cases hs : inB m.length 1 20
  · simp
  rw [if_neg (by simp)]
  cases hb : hasB l i
  · simp
  rw [if_neg (by simp)]
  obtain ⟨k, rfl, hk, _⟩ := hasB_nat hb
  obtain ⟨h64, ⟨g1, g2, g3⟩, _⟩ := pagF_ok hp
  obtain ⟨s1, s2, s3, s4, s5⟩ := slot_bd hp hk
  have hc := cnt_eq l
  have hm := inB_iff.1 hs
  have b2 := bt_nn l 0
  rw [Int.toNat_natCast]
  split
  · show (wrC l k _ m).length ≤ 64
    rw [wrC_len (by omega)]; omega
  split
  · simp
  split
  · simp
  · show ((wrC l k _ m).set 1 _).length ≤ 64
    rw [List.length_set, wrC_len (by omega)]; omega
theorem p_spec_SetSlot {l m : List UInt8} {i : Int} (h1 : -9223372036854775808 ≤ i) (h2 : i < 9223372036854775808) : pureV (call Ev) Fn.spec_SetSlot [lv (bys l), iv .i64 i, lv (bys m)] = some (.agg [.int .i64 (setR l i m).1, .int .i64 (setR l i m).2.1, .fs (bys (setR l i m).2.2)]) := by
  rw [pu_spec_SetSlot, pc p_l2Fault rfl]
  simp only [gV1_s, gI_i, vcase_b]
  by_cases hp : pagF l = 0
  case neg =>
    rw [if_pos (by simpa using hp), bad3]
    unfold setR
    rw [if_pos hp]
  rw [if_neg (by simp [hp]), pc p_l2CellSize rfl]
  simp only [gV1_s, gB_b, vcase_b]
  cases hs : inB m.length 1 20
  · rw [if_pos (by simp), bad3]
    unfold setR
    rw [if_neg (by simp [hp]), if_pos hs]
  rw [if_neg (by simp), pc (p_l2Has hp h1 h2) rfl]
  simp only [gV1_s, gB_b, vcase_b]
  cases hb : hasB l i
  · rw [if_pos (by simp), bad3]
    unfold setR
    rw [if_neg (by simp [hp]), if_neg (by simp [hs]), if_pos hb]
  obtain ⟨k, rfl, hk, _⟩ := hasB_nat hb
  rw [if_neg (by simp), p_l2Set hp hk hs hb]
  simp only [ob, gVT_t, gx0, gx1, gA1_s, gF_f, gI_i, ln0, ln1, Nat.zero_add, Nat.reduceAdd, if_true, vcase_b]
  by_cases hc : (setR l k m).1 = 0
  · rw [if_neg (by simp [hc]), hc]
    have : (setR l k m).2.1 = k := by
      revert hc
      unfold setR
      rw [if_neg (by simp [hp]), if_neg (by simp [hs]), if_neg (by simp [hb])]
      split
      · simp
      split
      · simp
      split <;> simp
    rw [this]
  · rw [if_pos (by simpa using hc), bad3]
    revert hc
    unfold setR
    rw [if_neg (by simp [hp]), if_neg (by simp [hs]), if_neg (by simp [hb])]
    split
    · simp
    split
    · simp
    split <;> simp
/-- a result, and a page of one's own behind it -/
theorem resH {n : Nat} {h1 : H} {v : V} {m : List UInt8} {f : Nat} {xs : List V} (e1 : call Ev f xs (D (n + 1)) = some (v, h1)) (w1 : NewB (n + 1) h1 v m (some (n + 2))) (n1 : h1.n = n + 3) {l : List UInt8} (hl : m.length = l.length) (h64 : l.length = 64 := by assumption) :
    (((D n).new 0 [.int .i64 0, .int .i64 0, .sl none 0]).over h1).g n = .rw 0 [.int .i64 0, .int .i64 0, .sl none 0] ∧ BysW (((D n).new 0 [.int .i64 0, .int .i64 0, .sl none 0]).over h1) (sv (n + 2) 0 64) m (n + 2) ∧ (((D n).new 0 [.int .i64 0, .int .i64 0, .sl none 0]).over h1).n = n + 3 ∧
    ∀ c, n < c → c < (((D n).new 0 [.int .i64 0, .int .i64 0, .sl none 0]).over h1).n → c ≠ n + 2 → ∀ s ∈ ((((D n).new 0 [.int .i64 0, .int .i64 0, .sl none 0]).over h1).g c).cells, scaS s = true := by
  have hn : ((D n).new 0 [.int .i64 0, .int .i64 0, .sl none 0]).n = n + 1 := by simp
  have gn : (((D n).new 0 [.int .i64 0, .int .i64 0, .sl none 0]).over h1).n = n + 3 := by rw [over_n (by rw [hn, n1]; omega), n1]
  refine ⟨?_, ⟨by rw [hl, h64], by omega, ?_⟩, gn, fun c h2 h3 h4 s hs => ?_⟩
  · rw [(over_lt (by rw [hn]; omega)).1]; exact new_g (D n) _ _
  · rw [over_ge (by rw [hn]; omega)]; exact (show BysW h1 v m (n + 2) from w1.own).g
  · rw [over_ge (by rw [hn]; omega)] at hs
    exact w1.z c (by omega) (by omega) s hs
theorem f_SetSlot {l m : List UInt8} {i : Int} (n : Nat) : ∃ y h' ob, call Ev Fn.impl_SetSlot [lv (bys l), iv .i64 i, lv (bys m)] (D n) = some (.agg [.int .i64 (setR l i m).1, .int .i64 (setR l i m).2.1, y], h') ∧ NewB n h' (.s y) (setR l i m).2.2 ob := by
  rw [eq_impl_SetSlot, pc p_cellFault rfl]
  simp only [gV1_s, gI_i, vcase_b]
  unfold setR
  by_cases hp : pagF l = 0
  case neg =>
    obtain ⟨h', e1, e2⟩ := badP n (pagF l)
    rw [if_pos hp, if_pos (by simpa using hp), if_pos hp, e1]
    exact ⟨_, h', none, rfl, e2⟩
  rw [if_neg (show ¬ pagF l ≠ 0 from by simp [hp]), if_neg (show ¬ pagF l ≠ 0 from by simp [hp])]
  cases hs : inB m.length 1 20
  · obtain ⟨h', e1, e2⟩ := badP n 1
    rw [if_pos (by simp [hs]), if_pos rfl, e1]
    exact ⟨_, h', none, rfl, e2⟩
  rw [if_neg (by simp [hs]), if_neg (by simp), pc (p_hasSlot hp) rfl]
  simp only [gV1_s, gB_b, vcase_b]
  cases hb : hasB l i
  · obtain ⟨h', e1, e2⟩ := badP n 4
    rw [if_pos (by simp), e1]
    exact ⟨_, h', none, rfl, e2⟩
  simp only [Bool.true_eq_false, if_false]
  obtain ⟨k, rfl, hk, _⟩ := hasB_nat hb
  obtain ⟨h64, ⟨g1, g2, g3⟩, _⟩ := pagF_ok hp
  obtain ⟨s1, s2, s3, s4, s5⟩ := slot_bd hp hk
  have hc := cnt_eq l
  have hm := inB_iff.1 hs
  have hf := freS_bd hp
  have b2 := bt_nn l 0
  have hn : ((D n).new 0 [.int .i64 0, .int .i64 0, .sl none 0]).n = n + 1 := by simp
  rw [if_neg (by simp), pc (p_spot (by omega) (by omega)) rfl]
  simp only [gVT_t, gx0, gx1, ob, gA1_s, gI_i, vcase_b, bys_len, Int.toNat_natCast]
  rw [if_pos (show ([_, _] : List A).length = 2 from rfl)]
  by_cases c1 : (m.length : Int) ≤ siz l k
  · rw [if_pos (by simpa using c1), if_pos c1]
    rw [w64 (n := plc l k + siz l k) (by omega) (by omega), w64 (by omega) (by omega), show plc l k + siz l k - (m.length : Int) = ((plc l k + siz l k - (m.length : Int)).toNat : Int) from by omega]
    obtain ⟨v, h1, e1, w1, n1⟩ := f_write (l := l) (m := m) (i := k) (a := (plc l k + siz l k - (m.length : Int)).toNat) h64 (by omega) (by omega) (n + 1)
    rw [pF (h := (D n).new 0 [.int .i64 0, .int .i64 0, .sl none 0]) (h1 := h1) (v := v) (by rw [hn]; exact e1) (by rw [hn]; exact ⟨by rw [(show BysW h1 v _ (n + 2) from w1.own).v]; rfl, w1.z⟩)]
    obtain ⟨g0, gw, gn, gz⟩ := resH e1 w1 n1 (wrC_len (by omega))
    generalize ((D n).new 0 [.int .i64 0, .int .i64 0, .sl none 0]).over h1 = G at g0 gw gn gz ⊢
    have hv := (show BysW h1 v _ (n + 2) from w1.own).v
    rw [wrC_len (by omega), h64] at hv
    subst hv
    obtain ⟨h', e2, w2⟩ := finP (q := (k : Int)) (K := G) (by omega) g0 gw (by omega) gz
    rw [e2]
    exact ⟨_, h', _, rfl, w2⟩
  rw [if_neg (by simpa using c1), if_neg c1, pc (p_freeIn hp) rfl]
  simp only [gV1_s, gI_i, vcase_b]
  rw [w64 (n := freS l + siz l k) (by omega) (by omega)]
  by_cases c2 : freS l + siz l k < m.length
  · obtain ⟨h', e1, e2⟩ := badP n 9
    rw [if_pos (by simpa using c2), if_pos c2, e1]
    exact ⟨_, h', none, rfl, e2⟩
  rw [if_neg (by simpa using c2), if_neg c2, idxF_by (by omega) (by omega)]
  simp only [gx0, ob, gI_i]
  rw [pc (p_slots (by omega)) rfl]
  simp only [gV1_s, gI_i, vcase_b]
  rw [w64 (n := bt l 1) (by omega) (by omega), w64 (n := 2 * bt l 0) (by omega) (by omega), w64 (n := 2 + 2 * bt l 0) (by omega) (by omega), w64 (n := bt l 1 - (2 + 2 * bt l 0)) (by omega) (by omega), w64 (n := bt l 1 - (m.length : Int)) (by omega) (by omega)]
  by_cases c3 : bt l 1 - m.length < 2 + 2 * bt l 0
  · obtain ⟨h', e1, e2⟩ := badP n 8
    rw [if_pos (by simp; omega), if_pos c3, e1]
    exact ⟨_, h', none, rfl, e2⟩
  rw [if_neg (by simp; omega), if_neg c3]
  rw [show bt l 1 - (m.length : Int) = ((bt l 1 - (m.length : Int)).toNat : Int) from by omega]
  generalize ha : (bt l 1 - (m.length : Int)).toNat = a
  obtain ⟨v, h1, e1, w1, n1⟩ := f_write (l := l) (m := m) (i := k) (a := a) h64 (by omega) (by omega) (n + 1)
  rw [pF (h := (D n).new 0 [.int .i64 0, .int .i64 0, .sl none 0]) (h1 := h1) (v := v) (by rw [hn]; exact e1) (by rw [hn]; exact ⟨by rw [(show BysW h1 v _ (n + 2) from w1.own).v]; rfl, w1.z⟩)]
  obtain ⟨g0, gw, gn, gz⟩ := resH e1 w1 n1 (wrC_len (by omega))
  generalize ((D n).new 0 [.int .i64 0, .int .i64 0, .sl none 0]).over h1 = G at g0 gw gn gz ⊢
  have hv := (show BysW h1 v _ (n + 2) from w1.own).v
  rw [wrC_len (by omega), h64] at hv
  subst hv
  rw [show iv .i64 1 = iv .i64 ((1 : Nat) : Int) from rfl, idxK_sv (by omega), gw.set (c := UInt8.ofNat a) (by rw [wrC_len (by omega)]; omega) (by rw [w8 (by omega) (by omega)]; simp; omega)]
  have w2 := gw.set_w (i := 1) (c := UInt8.ofNat a)
  obtain ⟨h', e2, w3⟩ := finP (q := (k : Int)) (K := G.put (n + 2) (.rw 1 (((wrC l k a m).set 1 (UInt8.ofNat a)).map cell8))) (n := n) (b := n + 2) (by rw [put_n]; omega) (by rw [put_g' (by omega)]; exact g0) w2 (by omega)
    (fun c h2 h3 h4 s hs => by rw [put_n] at h3; rw [put_g' h4] at hs; exact gz c h2 h3 h4 s hs)
  rw [e2]
  exact ⟨_, h', _, rfl, w3⟩
end Vm
