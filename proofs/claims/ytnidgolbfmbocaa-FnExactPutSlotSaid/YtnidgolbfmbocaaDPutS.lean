/-
  A cell put into a page by the program.
-/
import Derived.Test.YtnidgolbfmbocaaDPut
set_option linter.unusedVariables false
set_option maxRecDepth 100000
set_option linter.unusedSimpArgs false
set_option linter.unusedSectionVars false
namespace Vm
open Go
/-- a result with a page, made of what is one's own: the second form -/
theorem finQ {n b : Nat} {K : H} {m : List UInt8} {q : Int} (hn : n < K.n) (g : K.g n = .rw 0 [.int .i64 0, .int .i64 0, .sl none 0]) (w : BysW K (sv b 0 64) m b) (hb : n < b) (hz : ∀ c, n < c → c < K.n → c ≠ b → ∀ s ∈ (K.g c).cells, scaS s = true) :
    ∃ h', (stK 3 K (pv n 0) (.agg [.int .i64 0, .int .i64 q, .sl (some (b, 0)) 64]) fun h130 =>
      (loadN 3 h130 (pv n 0)).bind fun c131 =>
      some (V.agg c131, h130)) = some (.agg [.int .i64 0, .int .i64 q, .sl (some (b, 0)) 64], h') ∧ NewB n h' (sv b 0 64) m (some b) := by
  rw [stK_rw (z := 3) (e := 0) (o := 0) (b := n) (cs := [.int .i64 0, .int .i64 0, .sl none 0]) (r := [.int .i64 0, .int .i64 q, .sl (some (b, 0)) 64]) hn g (.inr rfl) rfl (by simp)]
  rw [show setAt [.int .i64 0, .int .i64 0, .sl none 0] 0 [.int .i64 0, .int .i64 q, S.sl (some (b, 0)) 64] = [.int .i64 0, .int .i64 q, .sl (some (b, 0)) 64] from rfl]
  rw [loadN_3 (b := n) (e := 0) (by rw [put_n]; omega) (put_g _ _ _), ob]
  refine ⟨_, rfl, ⟨w.v, by rw [put_n]; exact w.n, by rw [put_g' (by omega)]; exact w.g⟩, by rw [put_n]; omega, fun c hc => by cases hc; omega, fun c h2 h3 s hs => ?_⟩
  rw [put_n] at h3
  by_cases hcn : c = n
  · subst hcn
    rw [put_g] at hs
    simp only [Blk.cells, List.mem_cons, List.not_mem_nil, or_false] at hs
    rcases hs with rfl | rfl | rfl <;> rfl
  · rw [put_g' hcn] at hs
    by_cases hcb : c = b
    · subst hcb
      rw [w.g] at hs
      obtain ⟨c, _, rfl⟩ := List.mem_map.1 hs
      rfl
    · exact hz c (by omega) h3 hcb s hs
theorem f_PutSlot {l m : List UInt8} (n : Nat) : ∃ y h' ob, call Ev Fn.impl_PutSlot [lv (bys l), lv (bys m)] (D n) = some (.agg [.int .i64 (puR l m).1, .int .i64 (puR l m).2.1, y], h') ∧ NewB n h' (.s y) (puR l m).2.2 ob := by
  rw [eq_impl_PutSlot, pc p_cellFault rfl]
  simp only [gV1_s, gI_i, vcase_b]
  unfold puR
  by_cases hp : pagF l = 0
  case neg =>
    obtain ⟨h', e1, e2⟩ := badP n (pagF l)
    rw [if_pos hp, if_pos (by simpa using hp), if_pos hp, e1]
    exact ⟨_, h', none, rfl, e2⟩
  rw [if_neg (show ¬ pagF l ≠ 0 from by simp [hp]), if_neg (show ¬ pagF l ≠ 0 from by simp [hp])]
  cases hs : inB m.length 1 20
  · obtain ⟨h', e1, e2⟩ := badP n 1
    rw [if_pos (by simp [hs]), if_pos rfl, e1]
    exact ⟨_, h', none, rfl, e2⟩
  obtain ⟨h64, ⟨g1, g2, g3⟩, _⟩ := pagF_ok hp
  have hc := cnt_eq l
  have hm := inB_iff.1 hs
  have b2 := bt_nn l 0
  have hf := freS_bd hp
  have he := empS_le l
  rw [if_neg (by simp [hs]), if_neg (by simp), pc (p_slots (by omega)) rfl]
  simp only [gV1_s, gI_i]
  rw [f_emp hp]
  simp only [ob, lcase_done, gx0, gx1, gV1_s, gF_f, gI_i, vcase_b]
  have J : ∀ (q : Int), q = puM l → ¬ (empS l = cnt l ∧ 16 ≤ cnt l) → ∃ y h' ob, Jn.impl_PutSlot_0 q (bys l) (bys m) ((D n).new 0 [.int .i64 0, .int .i64 0, .sl none 0]) (pv n 0) (bt l 0) (empS l) = some (.agg [.int .i64 (pu0 l m).1, .int .i64 (pu0 l m).2.1, y], h') ∧ NewB n h' (.s y) (pu0 l m).2.2 ob := by
    intro q hq hnn
    subst hq
    obtain ⟨n1, n2, n3, n4⟩ := puN_bd (by omega) hnn
    have hM : puM l = 0 ∧ (puN l : Int) = bt l 0 ∨ puM l = 2 ∧ (puN l : Int) = bt l 0 + 1 := by unfold puM puN; split <;> simp <;> omega
    unfold Jn.impl_PutSlot_0 pu0
    rw [if_neg hnn, pc (p_freeIn hp) rfl]
    simp only [gV1_s, gI_i, vcase_b, bys_len]
    rw [w64 (n := (m.length : Int) + puM l) (by omega) (by omega)]
    by_cases c2 : freS l < m.length + puM l
    · obtain ⟨h', e1, e2⟩ := badP n 9
      simp only [D_n] at e1
      rw [if_pos (by simpa using c2), if_pos c2]
      simp only [ldT, cond_true]
      rw [e1]
      exact ⟨_, h', none, rfl, e2⟩
    rw [if_neg (by simpa using c2), if_neg c2, idxF_by (by omega) (by omega)]
    simp only [gx0, ob, gI_i]
    rw [w64 (n := bt l 1) (by omega) (by omega), w64 (n := 2 * bt l 0) (by omega) (by omega), w64 (n := 2 + 2 * bt l 0) (by omega) (by omega), w64 (n := 2 + 2 * bt l 0 + puM l) (by omega) (by omega), w64 (n := bt l 1 - (2 + 2 * bt l 0 + puM l)) (by omega) (by omega), w64 (n := bt l 1 - (m.length : Int)) (by omega) (by omega)]
    by_cases c3 : bt l 1 - m.length < 2 + 2 * puN l
    · obtain ⟨h', e1, e2⟩ := badP n 8
      simp only [D_n] at e1
      rw [if_pos (by simp; omega), if_pos c3]
      simp only [ldT, cond_true]
      rw [e1]
      exact ⟨_, h', none, rfl, e2⟩
    rw [if_neg (by simp; omega), if_neg c3]
    rw [show bt l 1 - (m.length : Int) = ((bt l 1 - (m.length : Int)).toNat : Int) from by omega]
    rw [show (bt l 1 - (m.length : Int)).toNat = puA l m from rfl]
    have hA : (puA l m : Int) = bt l 1 - m.length := by unfold puA; omega
    have hn : ((D n).new 0 [.int .i64 0, .int .i64 0, .sl none 0]).n = n + 1 := by simp
    obtain ⟨v, h1, e1, w1, nn1⟩ := f_write (l := l) (m := m) (i := empS l) (a := puA l m) h64 (by omega) (by omega) (n + 1)
    rw [pF (h := (D n).new 0 [.int .i64 0, .int .i64 0, .sl none 0]) (h1 := h1) (v := v) (by rw [hn]; exact e1) (by rw [hn]; exact ⟨by rw [(show BysW h1 v _ (n + 2) from w1.own).v]; rfl, w1.z⟩)]
    obtain ⟨g0, gw, gn, gz⟩ := resH e1 w1 nn1 (wrC_len (by omega))
    generalize ((D n).new 0 [.int .i64 0, .int .i64 0, .sl none 0]).over h1 = G at g0 gw gn gz ⊢
    have hv := (show BysW h1 v _ (n + 2) from w1.own).v
    rw [wrC_len (by omega), h64] at hv
    subst hv
    have hq : bin Ev .quo 3 (iv .i64 (puM l)) (iv .i64 2) = some (iv .i64 (puN l - bt l 0)) := by
      rcases hM with ⟨q1, q2⟩ | ⟨q1, q2⟩
      · rw [q1, show (puN l : Int) - bt l 0 = 0 from by omega]; rfl
      · rw [q1, show (puN l : Int) - bt l 0 = 1 from by omega]; rfl
    rw [hq, ob]
    simp only [gV1_s, gI_i]
    rw [show bt l 0 + ((puN l : Int) - bt l 0) = (puN l : Int) from by omega, w64 (n := (puN l : Int)) (by omega) (by omega)]
    have hl := wrC_len (l := l) (m := m) (i := empS l) (a := puA l m) (by omega)
    rw [show iv .i64 0 = iv .i64 ((0 : Nat) : Int) from rfl, idxK_sv (by omega), gw.set (c := UInt8.ofNat (puN l)) (by omega) (by rw [w8 (by omega) (by omega)]; simp; omega)]
    have w2 := gw.set_w (i := 0) (c := UInt8.ofNat (puN l))
    rw [show iv .i64 1 = iv .i64 ((1 : Nat) : Int) from rfl, idxK_sv (by omega), w2.set (c := UInt8.ofNat (puA l m)) (by simp; omega) (by rw [w8 (by omega) (by omega)]; simp; omega)]
    have w3 := w2.set_w (i := 1) (c := UInt8.ofNat (puA l m))
    simp only [cellsK, isNo, cond_false, ln0, ln1, Nat.zero_add, Nat.reduceAdd, Nat.le_refl, and_self, if_true]
    rw [show setAt [.int .i64 0, .int .i64 (empS l : Int), .sl none 0] 2 [S.sl (some (n + 2, 0)) 64] = [.int .i64 0, .int .i64 (empS l : Int), .sl (some (n + 2, 0)) 64] from rfl]
    simp only [gx0, gx1, ob, gI_i, ln0, ln1, Nat.zero_add, Nat.reduceAdd, if_true]
    simp only [ldT, cond_true]
    have hg : ∀ (K1 K2 : H) (x y : Blk), K1 = G → ∀ c, c ≠ n + 2 → (((K1.put (n + 2) x).put (n + 2) y).g c) = G.g c := fun K1 K2 x y hk c hcc => by subst hk; rw [put_g' hcc, put_g' hcc]
    obtain ⟨h', e2, w4⟩ := finQ (q := (empS l : Int)) (n := n) (b := n + 2) (K := (G.put (n + 2) (.rw 1 (((wrC l (empS l) (puA l m) m).set 0 (UInt8.ofNat (puN l))).map cell8))).put (n + 2) (.rw 1 ((((wrC l (empS l) (puA l m) m).set 0 (UInt8.ofNat (puN l))).set 1 (UInt8.ofNat (puA l m))).map cell8)))
      (by simp only [put_n]; omega) (by rw [put_g' (by omega), put_g' (by omega)]; exact g0) w3 (by omega)
      (fun c h2 h3 h4 s hs => by simp only [put_n] at h3; rw [put_g' h4, put_g' h4] at hs; exact gz c h2 h3 h4 s hs)
    rw [e2]
    exact ⟨_, h', _, rfl, w4⟩
  by_cases h1 : empS l = cnt l
  · rw [if_pos (by simp; omega)]
    by_cases h2 : 16 ≤ cnt l
    · obtain ⟨h', e1, e2⟩ := badP n 2
      rw [if_pos (by simp; omega)]
      simp only [D_n, ldT, cond_true] at e1 ⊢
      unfold pu0
      rw [e1, if_pos ⟨h1, h2⟩]
      exact ⟨_, h', none, rfl, e2⟩
    · rw [if_neg (by simp; omega)]
      exact J _ (by unfold puM; rw [if_pos h1]) (by omega)
  · rw [if_neg (by simp; omega)]
    exact J _ (by unfold puM; rw [if_neg h1]) (by omega)
end Vm
