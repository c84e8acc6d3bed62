/-
  What both ways of the law come to, and that the law returns true.
-/
import Derived.Test.YtnidgolbfmbocaaEqs
import Derived.Test.YtnidgolbfmbocaaDl
import Derived.Test.YtnidgolbfmbocaaTyp
import Derived.Test.YtnidgolbfmbocaaDataFnCells1
set_option linter.unusedVariables false
set_option maxRecDepth 100000
set_option linter.unusedSimpArgs false
set_option linter.unusedSectionVars false
/-
  A cell put into a page by the program.
-/
namespace Vm
open Go
/-- a result with a page, made of what is one's own: the second form -/
theorem finQ {n b : Nat} {K : H} {m : List UInt8} {q : Int} (hn : n < K.n) (g : K.g n = .rw 0 [.int .i64 0, .int .i64 0, .sl none 0]) (w : BysW K (sv b 0 64) m b) (hb : n < b) (hz : ∀ c, n < c → c < K.n → c ≠ b → ∀ s ∈ (K.g c).cells, scaS s = true) :
    ∃ h', (stK 3 K (pv n 0) (.agg [.int .i64 0, .int .i64 q, .sl (some (b, 0)) 64]) fun h130 =>
      (loadN 3 h130 (pv n 0)).bind fun c131 =>
      some (V.agg c131, h130)) = some (.agg [.int .i64 0, .int .i64 q, .sl (some (b, 0)) 64], h') ∧ NewB n h' (sv b 0 64) m (some b) := by
  rw [stK_rw (z := 3) (e := 0) (o := 0) (b := n) (cs := [.int .i64 0, .int .i64 0, .sl none 0]) (r := [.int .i64 0, .int .i64 q, .sl (some (b, 0)) 64]) hn g (.inr rfl) rfl (by simp)]
  rw [show setAt [.int .i64 0, .int .i64 0, .sl none 0] 0 [.int .i64 0, .int .i64 q, S.sl (some (b, 0)) 64] = [.int .i64 0, .int .i64 q, .sl (some (b, 0)) 64] from rfl]
  rw [loadN_3 (b := n) (e := 0) (by rw [put_n]; omega) (put_g _ _ _), ob]
  refine ⟨_, rfl, ⟨w.v, by rw [put_n]; exact w.n, by rw [put_g' (by omega)]; exact w.g⟩, by rw [put_n]; omega, fun c hc => by cases hc; omega, fun c h2 h3 s hs => ?_⟩
  rw [put_n] at h3
  by_cases hcn : c = n
  · subst hcn
    rw [put_g] at hs
    simp only [Blk.cells, List.mem_cons, List.not_mem_nil, or_false] at hs
    rcases hs with rfl | rfl | rfl <;> rfl
  · rw [put_g' hcn] at hs
    by_cases hcb : c = b
    · subst hcb
      rw [w.g] at hs
      obtain ⟨c, _, rfl⟩ := List.mem_map.1 hs
      rfl
    · exact hz c (by omega) h3 hcb s hs
theorem f_PutSlot {l m : List UInt8} (n : Nat) : ∃ y h' ob, call Ev Fn.impl_PutSlot [lv (bys l), lv (bys m)] (D n) = some (.agg [.int .i64 (puR l m).1, .int .i64 (puR l m).2.1, y], h') ∧ NewB n h' (.s y) (puR l m).2.2 ob := by
  rw [eq_impl_PutSlot, pc p_cellFault rfl]
  simp only [gV1_s, gI_i, vcase_b]
  unfold puR
  by_cases hp : pagF l = 0
  case neg =>
    obtain ⟨h', e1, e2⟩ := badP n (pagF l)
    rw [if_pos hp, if_pos (by simpa using hp), if_pos hp, e1]
    exact ⟨_, h', none, rfl, e2⟩
  rw [if_neg (show ¬ pagF l ≠ 0 from by simp [hp]), if_neg (show ¬ pagF l ≠ 0 from by simp [hp])]
  cases hs : inB m.length 1 20
  · obtain ⟨h', e1, e2⟩ := badP n 1
    rw [if_pos (by simp [hs]), if_pos rfl, e1]
    exact ⟨_, h', none, rfl, e2⟩
  obtain ⟨h64, ⟨g1, g2, g3⟩, _⟩ := pagF_ok hp
  have hc := cnt_eq l
  have hm := inB_iff.1 hs
  have b2 := bt_nn l 0
  have hf := freS_bd hp
  have he := empS_le l
  rw [if_neg (by simp [hs]), if_neg (by simp), pc (p_slots (by omega)) rfl]
  simp only [gV1_s, gI_i]
  rw [f_emp hp]
  simp only [ob, lcase_done, gx0, gx1, gV1_s, gF_f, gI_i, vcase_b]
  have J : ∀ (q : Int), q = puM l → ¬ (empS l = cnt l ∧ 16 ≤ cnt l) → ∃ y h' ob, Jn.impl_PutSlot_0 q (bys l) (bys m) ((D n).new 0 [.int .i64 0, .int .i64 0, .sl none 0]) (pv n 0) (bt l 0) (empS l) = some (.agg [.int .i64 (pu0 l m).1, .int .i64 (pu0 l m).2.1, y], h') ∧ NewB n h' (.s y) (pu0 l m).2.2 ob := by
    intro q hq hnn
    subst hq
    obtain ⟨n1, n2, n3, n4⟩ := puN_bd (by omega) hnn
    have hM : puM l = 0 ∧ (puN l : Int) = bt l 0 ∨ puM l = 2 ∧ (puN l : Int) = bt l 0 + 1 := by unfold puM puN; split <;> simp <;> omega
    unfold Jn.impl_PutSlot_0 pu0
    rw [if_neg hnn, pc (p_freeIn hp) rfl]
    simp only [gV1_s, gI_i, vcase_b, bys_len]
    rw [w64 (n := (m.length : Int) + puM l) (by omega) (by omega)]
    by_cases c2 : freS l < m.length + puM l
    · obtain ⟨h', e1, e2⟩ := badP n 9
      simp only [D_n] at e1
      rw [if_pos (by simpa using c2), if_pos c2]
      simp only [ldT, cond_true]
      rw [e1]
      exact ⟨_, h', none, rfl, e2⟩
    rw [if_neg (by simpa using c2), if_neg c2, idxF_by (by omega) (by omega)]
    simp only [gx0, ob, gI_i]
    rw [w64 (n := bt l 1) (by omega) (by omega), w64 (n := 2 * bt l 0) (by omega) (by omega), w64 (n := 2 + 2 * bt l 0) (by omega) (by omega), w64 (n := 2 + 2 * bt l 0 + puM l) (by omega) (by omega), w64 (n := bt l 1 - (2 + 2 * bt l 0 + puM l)) (by omega) (by omega), w64 (n := bt l 1 - (m.length : Int)) (by omega) (by omega)]
    by_cases c3 : bt l 1 - m.length < 2 + 2 * puN l
    · obtain ⟨h', e1, e2⟩ := badP n 8
      simp only [D_n] at e1
      rw [if_pos (by simp; omega), if_pos c3]
      simp only [ldT, cond_true]
      rw [e1]
      exact ⟨_, h', none, rfl, e2⟩
    rw [if_neg (by simp; omega), if_neg c3]
    rw [show bt l 1 - (m.length : Int) = ((bt l 1 - (m.length : Int)).toNat : Int) from by omega]
    rw [show (bt l 1 - (m.length : Int)).toNat = puA l m from rfl]
    have hA : (puA l m : Int) = bt l 1 - m.length := by unfold puA; omega
    have hn : ((D n).new 0 [.int .i64 0, .int .i64 0, .sl none 0]).n = n + 1 := by simp
    obtain ⟨v, h1, e1, w1, nn1⟩ := f_write (l := l) (m := m) (i := empS l) (a := puA l m) h64 (by omega) (by omega) (n + 1)
    rw [pF (h := (D n).new 0 [.int .i64 0, .int .i64 0, .sl none 0]) (h1 := h1) (v := v) (by rw [hn]; exact e1) (by rw [hn]; exact ⟨by rw [(show BysW h1 v _ (n + 2) from w1.own).v]; rfl, w1.z⟩)]
    obtain ⟨g0, gw, gn, gz⟩ := resH e1 w1 nn1 (wrC_len (by omega))
    generalize ((D n).new 0 [.int .i64 0, .int .i64 0, .sl none 0]).over h1 = G at g0 gw gn gz ⊢
    have hv := (show BysW h1 v _ (n + 2) from w1.own).v
    rw [wrC_len (by omega), h64] at hv
    subst hv
    have hq : bin Ev .quo 3 (iv .i64 (puM l)) (iv .i64 2) = some (iv .i64 (puN l - bt l 0)) := by
      rcases hM with ⟨q1, q2⟩ | ⟨q1, q2⟩
      · rw [q1, show (puN l : Int) - bt l 0 = 0 from by omega]; rfl
      · rw [q1, show (puN l : Int) - bt l 0 = 1 from by omega]; rfl
    rw [hq, ob]
    simp only [gV1_s, gI_i]
    rw [show bt l 0 + ((puN l : Int) - bt l 0) = (puN l : Int) from by omega, w64 (n := (puN l : Int)) (by omega) (by omega)]
    have hl := wrC_len (l := l) (m := m) (i := empS l) (a := puA l m) (by omega)
    rw [show iv .i64 0 = iv .i64 ((0 : Nat) : Int) from rfl, idxK_sv (by omega), gw.set (c := UInt8.ofNat (puN l)) (by omega) (by rw [w8 (by omega) (by omega)]; simp; omega)]
    have w2 := gw.set_w (i := 0) (c := UInt8.ofNat (puN l))
    rw [show iv .i64 1 = iv .i64 ((1 : Nat) : Int) from rfl, idxK_sv (by omega), w2.set (c := UInt8.ofNat (puA l m)) (by simp; omega) (by rw [w8 (by omega) (by omega)]; simp; omega)]
    have w3 := w2.set_w (i := 1) (c := UInt8.ofNat (puA l m))
    simp only [cellsK, isNo, cond_false, ln0, ln1, Nat.zero_add, Nat.reduceAdd, Nat.le_refl, and_self, if_true]
    rw [show setAt [.int .i64 0, .int .i64 (empS l : Int), .sl none 0] 2 [S.sl (some (n + 2, 0)) 64] = [.int .i64 0, .int .i64 (empS l : Int), .sl (some (n + 2, 0)) 64] from rfl]
    simp only [gx0, gx1, ob, gI_i, ln0, ln1, Nat.zero_add, Nat.reduceAdd, if_true]
    simp only [ldT, cond_true]
    have hg : ∀ (K1 K2 : H) (x y : Blk), K1 = G → ∀ c, c ≠ n + 2 → (((K1.put (n + 2) x).put (n + 2) y).g c) = G.g c := fun K1 K2 x y hk c hcc => by subst hk; rw [put_g' hcc, put_g' hcc]
    obtain ⟨h', e2, w4⟩ := finQ (q := (empS l : Int)) (n := n) (b := n + 2) (K := (G.put (n + 2) (.rw 1 (((wrC l (empS l) (puA l m) m).set 0 (UInt8.ofNat (puN l))).map cell8))).put (n + 2) (.rw 1 ((((wrC l (empS l) (puA l m) m).set 0 (UInt8.ofNat (puN l))).set 1 (UInt8.ofNat (puA l m))).map cell8)))
      (by simp only [put_n]; omega) (by rw [put_g' (by omega), put_g' (by omega)]; exact g0) w3 (by omega)
      (fun c h2 h3 h4 s hs => by simp only [put_n] at h3; rw [put_g' h4, put_g' h4] at hs; exact gz c h2 h3 h4 s hs)
    rw [e2]
    exact ⟨_, h', _, rfl, w4⟩
  by_cases h1 : empS l = cnt l
  · rw [if_pos (by simp; omega)]
    by_cases h2 : 16 ≤ cnt l
    · obtain ⟨h', e1, e2⟩ := badP n 2
      rw [if_pos (by simp; omega)]
      simp only [D_n, ldT, cond_true] at e1 ⊢
      unfold pu0
      rw [e1, if_pos ⟨h1, h2⟩]
      exact ⟨_, h', none, rfl, e2⟩
    · rw [if_neg (by simp; omega)]
      exact J _ (by unfold puM; rw [if_pos h1]) (by omega)
  · rw [if_neg (by simp; omega)]
    exact J _ (by unfold puM; rw [if_neg h1]) (by omega)
end Vm
/-
  A slot let go: what both ways come to.
-/
namespace Vm
open Go
noncomputable def drC (l : List UInt8) (i : Int) : Int := slC l i
noncomputable def drS (l : List UInt8) (i : Int) : Int := if pagF l = 0 ∧ hasB l i = true then i else 0
noncomputable def drL (l : List UInt8) (i : Int) : List UInt8 := if pagF l = 0 ∧ hasB l i = true then dropB l i.toNat else []
theorem drL_len (l : List UInt8) (i : Int) : (drL l i).length ≤ l.length := by
  unfold drL; split
  · rw [dropB_len]; exact Nat.le_refl _
  · simp
theorem p_spec_DropSlot {l : List UInt8} {i : Int} (h1 : -9223372036854775808 ≤ i) (h2 : i < 9223372036854775808) : pureV (call Ev) Fn.spec_DropSlot [lv (bys l), iv .i64 i] = some (.agg [.int .i64 (drC l i), .int .i64 (drS l i), .fs (bys (drL l i))]) := by
  rw [pu_spec_DropSlot, pc p_l2Fault rfl]
  simp only [gV1_s, gI_i, vcase_b]
  unfold drC slC drS drL
  by_cases hp : pagF l = 0
  case neg =>
    rw [if_pos (by simpa using hp), if_neg hp, if_neg (fun hh => hp hh.1), if_neg (fun hh => hp hh.1), pu_spec_l2Bad, ob]
    simp only [gVA_a, gx0, gx1, ob, gI_i, gF_f, ln0, ln1, Nat.zero_add, Nat.reduceAdd, if_true]
    rfl
  rw [if_neg (by simp [hp]), pc (p_l2Has hp h1 h2) rfl]
  simp only [gV1_s, gB_b, vcase_b]
  cases hb : hasB l i
  · rw [if_pos (by simp), pu_spec_l2Bad, ob]
    simp only [gVA_a, gx0, gx1, ob, gI_i, gF_f, ln0, ln1, Nat.zero_add, Nat.reduceAdd, if_true]
    simp [hp, bys]
  obtain ⟨k, rfl, hk, _⟩ := hasB_nat hb
  obtain ⟨h64, ⟨g1, _, _⟩, _⟩ := pagF_ok hp
  have hc := cnt_eq l
  rw [if_neg (by simp), p_l2Drop h64 (by omega) hk]
  simp [hp]
theorem f_DropSlot {l : List UInt8} {i : Int} (hl : l.length ≤ lim) (n : Nat) : ∃ y h' ob, call Ev Fn.impl_DropSlot [lv (bys l), iv .i64 i] (D n) = some (.agg [.int .i64 (drC l i), .int .i64 (drS l i), y], h') ∧ NewB n h' (.s y) (drL l i) ob := by
  rw [eq_impl_DropSlot, pc p_PageFault rfl]
  simp only [gV1_s, gI_i, vcase_b]
  unfold drC slC drS drL
  by_cases hp : pagF l = 0
  case neg =>
    obtain ⟨h', e1, e2⟩ := badP n (pagF l)
    rw [if_pos (by simpa using hp), if_neg hp, if_neg (fun hh => hp hh.1), if_neg (fun hh => hp hh.1), e1]
    exact ⟨_, h', none, rfl, e2⟩
  rw [if_neg (by simp [hp]), pc (p_hasSlot hp) rfl]
  simp only [gV1_s, gB_b, vcase_b]
  cases hb : hasB l i
  · obtain ⟨h', e1, e2⟩ := badP n 4
    rw [if_pos (by simp), e1]
    exact ⟨.sl none 0, h', none, by simp [hp], by simpa [hp] using e2⟩
  obtain ⟨k, rfl, hk, _⟩ := hasB_nat hb
  obtain ⟨h64, ⟨g1, _, _⟩, _⟩ := pagF_ok hp
  have hc := cnt_eq l
  rw [if_neg (by simp)]
  obtain ⟨v, h1, e1, w1, n1⟩ := f_copied hl (n + 1)
  have hn : ((D n).new 0 [.int .i64 0, .int .i64 0, .sl none 0]).n = n + 1 := by simp
  rw [pF (h := (D n).new 0 [.int .i64 0, .int .i64 0, .sl none 0]) (h1 := h1) (v := v) (by rw [hn]; exact e1) (by rw [hn]; exact ⟨by rw [(show BysW h1 v l (n + 2) from w1.own).v]; rfl, w1.z⟩)]
  have hv := (show BysW h1 v l (n + 2) from w1.own).v
  subst hv
  have hle : ((D n).new 0 [.int .i64 0, .int .i64 0, .sl none 0]).n ≤ h1.n := by rw [hn]; omega
  generalize hG : ((D n).new 0 [.int .i64 0, .int .i64 0, .sl none 0]).over h1 = G
  have gn : G.n = n + 3 := by rw [← hG, over_n hle]; omega
  have g0 : G.g n = .rw 0 [.int .i64 0, .int .i64 0, .sl none 0] := by rw [← hG, (over_lt (by simp)).1]; exact new_g (D n) _ _
  have gz : ∀ b, n + 1 ≤ b → b < n + 3 → b ≠ n + 2 → ∀ s ∈ (G.g b).cells, scaS s = true := fun b h2 h3 _ s hs => by
    rw [← hG, over_ge (by rw [hn]; omega)] at hs
    exact w1.z b h2 (by omega) s hs
  have w : BysW G (sv (n + 2) 0 l.length) l (n + 2) := ⟨rfl, by omega, by rw [← hG, over_ge (by rw [hn]; omega)]; exact w1.own.g⟩
  rw [w64 (n := 2 * (k : Int)) (by omega) (by omega), w64 (by omega) (by omega), w64 (by omega) (by omega), show 2 + 2 * (k : Int) = ((2 + 2 * k : Nat) : Int) from by omega, show 3 + 2 * (k : Int) = ((3 + 2 * k : Nat) : Int) from by omega, idxK_sv (by omega), w.set (c := 0) (x := 0) (by omega) rfl, idxK_sv (by omega), (w.set_w).set (c := 0) (x := 0) (by simp; omega) rfl]
  have w3 := (w.set_w (i := 2 + 2 * k) (c := 0)).set_w (i := 3 + 2 * k) (c := 0)
  have o3 : Oth (n + 2) G ((G.put (n + 2) (Blk.rw 1 (List.map cell8 (l.set (2 + 2 * k) 0)))).put (n + 2) (Blk.rw 1 (List.map cell8 ((l.set (2 + 2 * k) 0).set (3 + 2 * k) 0)))) := Oth.put.trans Oth.put
  generalize (G.put (n + 2) (Blk.rw 1 (List.map cell8 (l.set (2 + 2 * k) 0)))).put (n + 2) (Blk.rw 1 (List.map cell8 ((l.set (2 + 2 * k) 0).set (3 + 2 * k) 0))) = K at w3 o3 ⊢
  have w4 : BysW K (sv (n + 2) 0 l.length) (cntB (dropL l k) (cnt l)) (n + 2) := by rw [dropL_cnt (by omega)]; exact w3
  obtain ⟨h', e2, e3, e4⟩ := lp_Drop (q := (k : Int)) (p := pv n 0) (cnt l) _ (by omega) (by rw [dropL_len]; omega) w4
  rw [D_n, e2, Vm.ob, lcase_done]
  simp only [gx0, gx1, Vm.ob, gV1_s, gI_i, cellsK, isNo, cond_false, ln0, ln1, Nat.zero_add, Nat.reduceAdd, Nat.le_refl, and_self, if_true]
  have o4 := o3.trans e4
  have gh : h'.g n = .rw 0 [.int .i64 0, .int .i64 0, .sl none 0] := (o4.2 n (by omega)).1.trans g0
  have hN : h'.n = n + 3 := by rw [o4.1, gn]
  rw [show setAt [.int .i64 0, .int .i64 0, .sl none 0] 2 [S.sl (some (n + 2, 0)) l.length] = [.int .i64 0, .int .i64 0, .sl (some (n + 2, 0)) l.length] from rfl]
  simp only [ln0, ln1, Nat.zero_add, Nat.reduceAdd, Nat.reduceLeDiff, and_self, if_true]
  rw [show setAt [.int .i64 0, .int .i64 0, S.sl (some (n + 2, 0)) l.length] 1 [.int .i64 (k : Int)] = [.int .i64 0, .int .i64 k, .sl (some (n + 2, 0)) l.length] from rfl]
  simp only [gx0, gx1, Vm.ob, gI_i, ln0, ln1, Nat.zero_add, Nat.reduceAdd, if_true]
  rw [stK_rw (z := 3) (e := 0) (o := 0) (b := n) (cs := [.int .i64 0, .int .i64 0, .sl none 0]) (r := [.int .i64 0, .int .i64 k, .sl (some (n + 2, 0)) l.length]) (by omega) gh (.inr rfl) rfl (by simp)]
  rw [show setAt [.int .i64 0, .int .i64 0, .sl none 0] 0 [.int .i64 0, .int .i64 (k : Int), S.sl (some (n + 2, 0)) l.length] = [.int .i64 0, .int .i64 k, .sl (some (n + 2, 0)) l.length] from rfl]
  simp only [ldT, cond_true]
  rw [loadN_3 (b := n) (e := 0) (by rw [put_n]; omega) (put_g _ _ _), Vm.ob]
  refine ⟨.sl (some (n + 2, 0)) l.length, h'.put n (.rw 0 [.int .i64 0, .int .i64 k, .sl (some (n + 2, 0)) l.length]), some (n + 2), by simp [hp], ?_⟩
  rw [if_pos ⟨hp, by simp⟩, Int.toNat_natCast]
  have e3' : BysW h' (sv (n + 2) 0 l.length) (dropB l k) (n + 2) := e3
  refine ⟨⟨e3'.v, by rw [put_n]; omega, by rw [put_g' (by omega)]; exact e3'.g⟩, by rw [put_n]; omega, fun b hb => by cases hb; omega, fun b h2 h3 s hs => ?_⟩
  by_cases hbn : b = n
  · subst hbn
    rw [put_g] at hs
    simp only [Blk.cells, List.mem_cons, List.not_mem_nil, or_false] at hs
    rcases hs with rfl | rfl | rfl <;> rfl
  · rw [put_g' hbn] at hs
    rw [put_n] at h3
    by_cases hb2 : b = n + 2
    · subst hb2
      rw [e3'.g] at hs
      obtain ⟨c, _, rfl⟩ := List.mem_map.1 hs
      rfl
    · rw [(o4.2 b hb2).1] at hs
      exact gz b (by omega) (by omega) hb2 s hs
end Vm
/-
  A page made dense: what both ways come to.
-/
namespace Vm
open Go
def zer64 : List UInt8 := List.replicate 64 0
def out0 (l : List UInt8) : List UInt8 := lay zer64 0 (l.take (2 + 2 * cnt l))
def cmpR (l : List UInt8) : List UInt8 × Nat := cmp l (cnt l) 0 (out0 l, 64)
def cmpL (l : List UInt8) : List UInt8 := (cmpR l).1.set 1 (UInt8.ofNat (cmpR l).2)
theorem mk64 {h : H} : mkSl 1 [.int .u8 0] h (iv .i64 64) (iv .i64 64) = some (sv h.n 0 64, h.new 1 (zer64.map cell8)) := by
  have := mkSl_of (z := 1) (n := 64) (zero := [.int .u8 0]) (h := h) (by unfold lim; omega) (by omega) rfl (k1 := .i64) (k2 := .i64)
  rw [show ((64 : Nat) : Int) = 64 from rfl] at this
  rw [this]
  rfl
section
variable {l : List UInt8} (hp : pagF l = 0)
include hp
theorem out0_cmp : Cmp l 0 (out0 l, 64) ∧ (l.take (2 + 2 * cnt l)).length = 2 + 2 * cnt l ∧ 2 + 2 * cnt l ≤ 34 := by
  obtain ⟨h64, ⟨g1, g2, g3⟩, _⟩ := pagF_ok hp
  have hc := cnt_eq l
  have ht : (l.take (2 + 2 * cnt l)).length = 2 + 2 * cnt l := by rw [List.length_take]; omega
  refine ⟨⟨?_, by simp [sumS], fun j hj => ?_⟩, ht, by omega⟩
  · show (lay zer64 0 _).length = 64
    rw [lay_len (by rw [ht]; simp [zer64]; omega)]; simp [zer64]
  · show (lay zer64 0 _)[3 + 2 * j]? = _
    unfold lay
    rw [List.take_zero, List.nil_append, List.getElem?_append_left (by rw [ht]; omega), List.getElem?_take, if_pos (by omega)]
theorem f_l2Compact (n : Nat) : ∃ h', call Ev Fn.spec_l2Compact [lv (bys l)] (D n) = some (sv n 0 64, h') ∧ NewB n h' (sv n 0 64) (cmpL l) (some n) := by
  obtain ⟨h64, ⟨g1, g2, g3⟩, _⟩ := pagF_ok hp
  have hc := cnt_eq l
  obtain ⟨c0, ht, h34⟩ := out0_cmp hp
  rw [eq_spec_l2Compact, pc (p_l2Count (by omega)) rfl]
  simp only [gV1_s, gI_i]
  rw [mk64, ob, ← hc, w64 (n := 2 * ((cnt l : Nat) : Int)) (by omega) (by omega), w64 (by omega) (by omega), show 2 + 2 * ((cnt l : Nat) : Int) = ((2 + 2 * cnt l : Nat) : Int) from by omega, slF_hi (by omega)]
  have w0 : BysW ((D n).new 1 (zer64.map cell8)) (sv (D n).n 0 64) zer64 (D n).n := ⟨rfl, by simp, new_g _ _ _⟩
  dsimp only
  rw [copS_w w0 (by simp [zer64]) (by rw [ht]; omega), ob]
  simp only [gV1_s, gI_i]
  have w1 := lay_w w0 (a := 0) (m := l.take (2 + 2 * cnt l)) (by rw [ht]; simp [zer64]; omega)
  obtain ⟨h', e1, e2, e3⟩ := lp_l2Comp hp (cnt l) 0 _ (out0 l, 64) (by omega) c0 w1
  rw [show iv .i64 0 = iv .i64 ((0 : Nat) : Int) from rfl, show iv .i64 64 = iv .i64 ((64 : Nat) : Int) from rfl, e1, ob, lcase_done]
  obtain ⟨_, _, _, _, c1⟩ := lp_Comp (p := iv .i64 0) hp (cnt l) 0 _ (out0 l, 64) (by omega) c0 w1
  have hl1 := c1.len
  have hb := c1.low
  simp only [gx0, gx1, ob, gV1_s, gI_i]
  rw [show iv .i64 1 = iv .i64 ((1 : Nat) : Int) from rfl, idxK_sv (by omega), e2.set (c := UInt8.ofNat (cmp l (cnt l) 0 (out0 l, 64)).2) (by omega) (by rw [w8 (by omega) (by omega)]; simp; omega)]
  have w5 := e2.set_w (i := 1) (c := UInt8.ofNat (cmp l (cnt l) 0 (out0 l, 64)).2)
  have hn : h'.n = n + 1 := by rw [e3.1]; simp
  refine ⟨_, rfl, w5, by rw [put_n]; omega, fun b hb => by cases hb; exact Nat.le_refl _, fun b h2 h3 s hs => ?_⟩
  rw [put_n, hn] at h3
  have hbn : b = n := by omega
  rw [hbn] at hs
  have hs' := (congrArg (fun x => s ∈ Blk.cells x) w5.g).mp hs
  obtain ⟨c, _, rfl⟩ := List.mem_map.1 hs'
  rfl
theorem p_l2Compact : pureV (call Ev) Fn.spec_l2Compact [lv (bys l)] = some (lv (bys (cmpL l))) := by
  obtain ⟨h', e, w⟩ := f_l2Compact hp 0
  exact NewB.pv e w
end
def cpD (l : List UInt8) : Int := 0
noncomputable def cpC (l : List UInt8) : Int := pagF l
open Classical in
noncomputable def cpL (l : List UInt8) : List UInt8 := if pagF l = 0 then cmpL l else []
theorem cmpL_len {l : List UInt8} (hp : pagF l = 0) : (cmpL l).length = 64 := by
  obtain ⟨c0, _, _⟩ := out0_cmp hp
  have w1 : BysW ((D 0).new 1 ((out0 l).map cell8)) (sv (D 0).n 0 64) (out0 l) (D 0).n := ⟨by have := c0.len; simp only at this; rw [this], by simp, new_g _ _ _⟩
  obtain ⟨_, _, _, _, c1⟩ := lp_Comp (p := iv .i64 0) hp (cnt l) 0 _ (out0 l, 64) (by omega) c0 w1
  unfold cmpL cmpR
  rw [List.length_set]; exact c1.len
theorem cpL_len (l : List UInt8) : (cpL l).length ≤ 64 := by
  unfold cpL
  split
  · rename_i hp; rw [cmpL_len hp]; exact Nat.le_refl _
  · simp
theorem p_spec_CompactPage {l : List UInt8} : pureV (call Ev) Fn.spec_CompactPage [lv (bys l)] = some (.agg [.int .i64 (cpC l), .int .i64 0, .fs (bys (cpL l))]) := by
  rw [pu_spec_CompactPage, pc p_l2Fault rfl]
  simp only [gV1_s, gI_i, vcase_b]
  unfold cpC cpL
  by_cases hp : pagF l = 0
  case neg =>
    rw [if_pos (by simpa using hp), if_neg hp, pu_spec_l2Bad, ob]
    simp only [gVA_a, gx0, gx1, ob, gI_i, gF_f, ln0, ln1, Nat.zero_add, Nat.reduceAdd, if_true]
    rfl
  rw [if_neg (by simp [hp]), if_pos hp, p_l2Compact hp, ob]
  simp only [gV1_s, gF_f, hp]
theorem f_CompactPage {l : List UInt8} (n : Nat) : ∃ y h' ob, call Ev Fn.impl_CompactPage [lv (bys l)] (D n) = some (.agg [.int .i64 (cpC l), .int .i64 0, y], h') ∧ NewB n h' (.s y) (cpL l) ob := by
  rw [eq_impl_CompactPage, pc p_PageFault rfl]
  simp only [gV1_s, gI_i, vcase_b]
  unfold cpC cpL
  by_cases hp : pagF l = 0
  case neg =>
    obtain ⟨h', e1, e2⟩ := badP n (pagF l)
    rw [if_pos (by simpa using hp), if_neg hp, e1]
    exact ⟨_, h', none, rfl, e2⟩
  obtain ⟨h64, ⟨g1, g2, g3⟩, _⟩ := pagF_ok hp
  have hc := cnt_eq l
  obtain ⟨c0, ht, h34⟩ := out0_cmp hp
  rw [if_neg (by simp [hp]), if_pos hp, pc (p_slots (by omega)) rfl]
  simp only [gV1_s, gI_i]
  rw [mk64, Vm.ob, ← hc, w64 (n := 2 * ((cnt l : Nat) : Int)) (by omega) (by omega), w64 (by omega) (by omega), show 2 + 2 * ((cnt l : Nat) : Int) = ((2 + 2 * cnt l : Nat) : Int) from by omega, slF_hi (by omega)]
  have hn : ((D n).new 0 [.int .i64 0, .int .i64 0, .sl none 0]).n = n + 1 := by simp
  have g0 : ((D n).new 0 [.int .i64 0, .int .i64 0, .sl none 0]).g n = .rw 0 [.int .i64 0, .int .i64 0, .sl none 0] := new_g (D n) _ _
  rw [hn]
  generalize (D n).new 0 [.int .i64 0, .int .i64 0, .sl none 0] = A at hn g0 ⊢
  have w0 : BysW (A.new 1 (zer64.map cell8)) (sv (n + 1) 0 64) zer64 (n + 1) := ⟨rfl, by rw [new_n]; omega, by rw [← hn]; exact new_g _ _ _⟩
  have g1' : (A.new 1 (zer64.map cell8)).g n = .rw 0 [.int .i64 0, .int .i64 0, .sl none 0] := by rw [new_g' (by omega)]; exact g0
  have nA : (A.new 1 (zer64.map cell8)).n = n + 2 := by rw [new_n, hn]
  generalize A.new 1 (zer64.map cell8) = B at w0 g1' nA ⊢
  dsimp only
  rw [copS_w w0 (by simp [zer64]) (by rw [ht]; omega), Vm.ob]
  simp only [gV1_s, gI_i]
  have w1 := lay_w w0 (a := 0) (m := l.take (2 + 2 * cnt l)) (by rw [ht]; simp [zer64]; omega)
  obtain ⟨h', e1, e2, e3, c1⟩ := lp_Comp (p := pv n 0) hp (cnt l) 0 _ (out0 l, 64) (by omega) c0 w1
  have o3 := (Oth.put (b := n + 1) (h := B)).trans e3
  rw [D_n, show iv .i64 0 = iv .i64 ((0 : Nat) : Int) from rfl, show iv .i64 64 = iv .i64 ((64 : Nat) : Int) from rfl, e1, Vm.ob, lcase_done]
  have hl1 := c1.len
  have hb := c1.low
  simp only [gx0, gx1, Vm.ob, gV1_s, gI_i]
  rw [show iv .i64 1 = iv .i64 ((1 : Nat) : Int) from rfl, idxK_sv (by omega), e2.set (c := UInt8.ofNat (cmp l (cnt l) 0 (out0 l, 64)).2) (by omega) (by rw [w8 (by omega) (by omega)]; simp; omega)]
  have w5 := e2.set_w (i := 1) (c := UInt8.ofNat (cmp l (cnt l) 0 (out0 l, 64)).2)
  have o5 := o3.trans (Oth.put (b := n + 1) (h := h') (x := .rw 1 (((cmp l (cnt l) 0 (out0 l, 64)).1.set 1 (UInt8.ofNat (cmp l (cnt l) 0 (out0 l, 64)).2)).map cell8)))
  generalize h'.put (n + 1) (.rw 1 (((cmp l (cnt l) 0 (out0 l, 64)).1.set 1 (UInt8.ofNat (cmp l (cnt l) 0 (out0 l, 64)).2)).map cell8)) = K at w5 o5 ⊢
  have w6 : BysW K (sv (n + 1) 0 64) (cmpL l) (n + 1) := w5
  have kN : K.n = n + 2 := by rw [o5.1, nA]
  have gk : K.g n = .rw 0 [.int .i64 0, .int .i64 0, .sl none 0] := (o5.2 n (by omega)).1.trans g1'
  simp only [cellsK, isNo, cond_false, ln0, ln1, Nat.zero_add, Nat.reduceAdd, Nat.le_refl, and_self, if_true]
  rw [show setAt [.int .i64 0, .int .i64 0, .sl none 0] 2 [S.sl (some (n + 1, 0)) 64] = [.int .i64 0, .int .i64 0, .sl (some (n + 1, 0)) 64] from rfl]
  simp only [gx0, gx1, Vm.ob, gI_i, ln0, ln1, Nat.zero_add, Nat.reduceAdd, if_true]
  rw [stK_rw (z := 3) (e := 0) (o := 0) (b := n) (cs := [.int .i64 0, .int .i64 0, .sl none 0]) (r := [.int .i64 0, .int .i64 0, .sl (some (n + 1, 0)) 64]) (by omega) gk (.inr rfl) rfl (by simp)]
  rw [show setAt [.int .i64 0, .int .i64 0, .sl none 0] 0 [.int .i64 0, .int .i64 0, S.sl (some (n + 1, 0)) 64] = [.int .i64 0, .int .i64 0, .sl (some (n + 1, 0)) 64] from rfl]
  simp only [ldT, cond_true]
  rw [loadN_3 (b := n) (e := 0) (by rw [put_n]; omega) (put_g _ _ _), Vm.ob]
  refine ⟨.sl (some (n + 1, 0)) 64, K.put n (.rw 0 [.int .i64 0, .int .i64 0, .sl (some (n + 1, 0)) 64]), some (n + 1), by simp [hp], ?_⟩
  refine ⟨⟨w6.v, by rw [put_n]; omega, by rw [put_g' (by omega)]; exact w6.g⟩, by rw [put_n]; omega, fun b hb => by cases hb; omega, fun b h2 h3 s hs => ?_⟩
  rw [put_n] at h3
  by_cases hbn : b = n
  · subst hbn
    rw [put_g] at hs
    simp only [Blk.cells, List.mem_cons, List.not_mem_nil, or_false] at hs
    rcases hs with rfl | rfl | rfl <;> rfl
  · rw [put_g' hbn, show b = n + 1 from by omega, w6.g] at hs
    obtain ⟨c, _, rfl⟩ := List.mem_map.1 hs
    rfl
end Vm
/-
  Plain laws on pages: what stays and what turns when a cell is put, set or dropped.
-/
namespace Vm
/-- a page without a fault, by its parts -/
structure Pg (l : List UInt8) : Prop where
  len : l.length = 64
  head : headB l
  slots : ∀ i, i < cnt l → slotB l i
  apart : ∀ i k, i < cnt l → k < i → apartB l i k
  last : ¬ (0 < cnt l ∧ siz l (cnt l - 1) = 0)
theorem Pg.of {l : List UInt8} (h : pagF l = 0) : Pg l := by
  obtain ⟨a, b, c, d, e⟩ := pagF_ok h
  exact ⟨a, b, c, d, e⟩
theorem Pg.ok {l : List UInt8} (p : Pg l) : pagF l = 0 :=
  (PageIs.f (.inr (.inr (.inr (.inr (.inr ⟨p.len, p.head, p.slots, p.apart, p.last, rfl⟩)))))).symm
theorem apart_symm {l : List UInt8} {i k : Nat} (h : apartB l i k) : apartB l k i := by
  unfold apartB at *; omega
theorem Pg.ap {l : List UInt8} (p : Pg l) {i k : Nat} (hi : i < cnt l) (hk : k < cnt l) (hne : i ≠ k) : apartB l i k := by
  rcases Nat.lt_or_gt_of_ne hne with h | h
  · exact apart_symm (p.apart k i hk h)
  · exact p.apart i k hi h
/-- one byte turned -/
theorem bt_set {l : List UInt8} {i j : Nat} {c : UInt8} (hi : i < l.length) : bt (l.set i c) (j : Int) = if j = i then (c.toNat : Int) else bt l (j : Int) := by
  split
  · rename_i h; subst h; exact bt_set_eq hi
  · rename_i h; exact bt_set_ne (fun e => h e.symm)
theorem bt_lay {l m : List UInt8} {a j : Nat} (h : a + m.length ≤ l.length) : bt (lay l a m) (j : Int) = if a ≤ j ∧ j < a + m.length then bt m ((j - a : Nat) : Int) else bt l (j : Int) := by
  unfold bt lay
  simp only [Int.toNat_natCast, List.getD]
  split
  · rename_i hj
    rw [List.getElem?_append_left (by simp; omega), List.getElem?_append_right (by simp; omega), List.length_take, Nat.min_eq_left (by omega)]
  · rename_i hj
    by_cases h1 : j < a
    · rw [List.getElem?_append_left (by simp; omega), List.getElem?_append_left (by simp; omega), List.getElem?_take_of_lt h1]
    · rw [List.getElem?_append_right (by simp; omega), List.getElem?_drop, List.length_append, List.length_take, Nat.min_eq_left (by omega), show a + m.length + (j - (a + m.length)) = j from by omega]
theorem u8n {n : Nat} (h : n < 256) : ((UInt8.ofNat n).toNat : Int) = n := by
  simp; omega
theorem bt_wrC {l m : List UInt8} {i a j : Nat} (h : a + m.length ≤ l.length) (hi : 3 + 2 * i < l.length) (ha : a < 256) (hm : m.length < 256) :
    bt (wrC l i a m) (j : Int) = if j = 3 + 2 * i then (m.length : Int) else if j = 2 + 2 * i then (a : Int) else if a ≤ j ∧ j < a + m.length then bt m ((j - a : Nat) : Int) else bt l (j : Int) := by
  unfold wrC
  have hl := lay_len h
  rw [bt_set (by simp [hl]; omega), u8n hm, bt_set (by simp [hl]; omega), u8n ha, bt_lay h]
theorem cnt_of {l : List UInt8} {n : Nat} (h : bt l 0 = n) : cnt l = n := by unfold cnt; omega
/-- cells by their bytes -/
theorem cell_bt {l : List UInt8} {k j : Nat} (hl : plc l k + siz l k ≤ l.length) (hj : (j : Int) < siz l k) : bt (cellB l k) (j : Int) = bt l ((plc l k).toNat + j : Nat) := by
  obtain ⟨q1, q2, q3, q4⟩ := pl_bd l k
  unfold bt cellB
  simp only [Int.toNat_natCast, List.getD, List.getElem?_drop]
  rw [List.getElem?_take_of_lt (by omega)]
theorem cell_len {l : List UInt8} {k : Nat} (hl : plc l k + siz l k ≤ l.length) : (cellB l k).length = (siz l k).toNat := by
  obtain ⟨q1, q2, q3, q4⟩ := pl_bd l k
  unfold cellB
  rw [List.length_drop, List.length_take]; omega
theorem cell_same {l p : List UInt8} {i k : Nat} (hs : siz p k = siz l i) (hl : plc l i + siz l i ≤ l.length) (hp : plc p k + siz p k ≤ p.length)
    (hb : ∀ j : Nat, (j : Int) < siz l i → bt p ((plc p k).toNat + j : Nat) = bt l ((plc l i).toNat + j : Nat)) : cellB p k = cellB l i := by
  refine bt_ext (by rw [cell_len hl, cell_len hp, hs]) fun j hj => ?_
  rw [cell_len hp, hs] at hj
  rw [cell_bt hp (by omega), cell_bt hl (by omega)]
  exact hb j (by omega)
theorem cell_is {p m : List UInt8} {k a : Nat} (ha : plc p k = a) (hm : siz p k = m.length) (hp : a + m.length ≤ p.length) (hb : ∀ j : Nat, j < m.length → bt p ((a + j : Nat) : Int) = bt m (j : Int)) : cellB p k = m := by
  have hl : plc p k + siz p k ≤ p.length := by omega
  refine bt_ext (by rw [cell_len hl, hm]; simp) fun j hj => ?_
  rw [cell_len hl, hm] at hj
  rw [cell_bt hl (by omega), ha]
  simpa using hb j (by omega)
/-- all cells but one are the same -/
def Keep (l p : List UInt8) (s : Int) : Prop := ∀ i : Nat, i < 16 → (i : Int) ≠ s → hasB p i = hasB l i ∧ (hasB l i = true → cellB p i = cellB l i)
theorem has_iff {l : List UInt8} {i : Nat} : hasB l (i : Int) = true ↔ i < cnt l ∧ siz l i ≠ 0 := by
  have := cnt_eq l
  unfold hasB
  simp only [Bool.and_eq_true, decide_eq_true_eq, bne_iff_ne, Int.toNat_natCast]
  constructor
  · rintro ⟨a, b, c⟩; exact ⟨by omega, c⟩
  · rintro ⟨a, b⟩; exact ⟨by omega, by omega, b⟩
theorem has_eq {l p : List UInt8} {i : Nat} (h : (i < cnt p ∧ siz p i ≠ 0) ↔ (i < cnt l ∧ siz l i ≠ 0)) : hasB p (i : Int) = hasB l (i : Int) := by
  rw [Bool.eq_iff_iff, has_iff, has_iff]; exact h
theorem Pg.bd {l : List UInt8} (p : Pg l) {k : Nat} (hk : k < cnt l) (hs : siz l k ≠ 0) : bt l 1 ≤ plc l k ∧ plc l k + siz l k ≤ 64 := by
  have h := p.slots k hk
  have q := pl_bd l k
  unfold slotB at h
  split at h
  · rename_i hh
    rcases hh with hh | hh <;> omega
  · exact h
theorem Pg.nums {l : List UInt8} (p : Pg l) : bt l 0 = cnt l ∧ cnt l ≤ 16 ∧ 2 + 2 * (cnt l : Int) ≤ bt l 1 ∧ bt l 1 ≤ 64 := by
  have := cnt_eq l
  obtain ⟨h1, h2, h3⟩ := p.head
  omega
/-- the sum of the sizes, one of them turned -/
theorem sum_ext {l p : List UInt8} : ∀ n, (∀ i, i < n → siz p i = siz l i) → sumS p n = sumS l n
  | 0, _ => rfl
  | n + 1, h => by
    simp only [sumS]
    rw [sum_ext n fun i hi => h i (by omega), h n (by omega)]
theorem sum_one {l p : List UInt8} {s : Nat} : ∀ n, s < n → (∀ i, i < n → i ≠ s → siz p i = siz l i) → (sumS p n : Int) + siz l s = sumS l n + siz p s
  | 0, h, _ => by omega
  | n + 1, h, hn => by
    have q := pl_bd l n
    have q' := pl_bd p n
    simp only [sumS]
    by_cases hs : s = n
    · subst hs
      rw [sum_ext s fun i hi => hn i (by omega) (by omega)]
      omega
    · have := sum_one n (by omega) fun i hi hne => hn i (by omega) hne
      have := hn n (by omega) (fun e => hs e.symm)
      omega
/-- a page with one cell turned: its table and its bytes are as they were, but for a stretch that no other cell has -/
theorem turn_ok {l p : List UInt8} (w : Pg l) {s n low a len : Nat} (hl : p.length = 64) (h0 : bt p 0 = n) (h1 : bt p 1 = low) (hn : n ≤ 16) (hlow : 2 + 2 * n ≤ low) (h64 : low ≤ 64) (hs : s < n) (hc : cnt l ≤ n) (hcs : n ≤ cnt l + 1) (hcs' : n = cnt l + 1 → s = cnt l)
    (hP : plc p s = a) (hZ : siz p s = len) (hlen : 0 < len) (ha : low ≤ a) (hal : a + len ≤ 64) (hlowl : (low : Int) ≤ bt l 1)
    (ht : ∀ i, i < n → i ≠ s → plc p i = plc l i ∧ siz p i = siz l i)
    (hf : ∀ i, i < cnt l → i ≠ s → siz l i ≠ 0 → plc l i + siz l i ≤ a ∨ (a : Int) + len ≤ plc l i)
    (hb : ∀ j : Nat, low ≤ j → ¬ (a ≤ j ∧ j < a + len) → (bt l 1 : Int) ≤ j → bt p j = bt l j) :
    Pg p ∧ Keep l p s := by
  have hcp := cnt_of h0
  obtain ⟨w1, w2, w3, w4⟩ := w.nums
  have hlt : ∀ i, i < n → i ≠ s → i < cnt l := fun i hi hne => by
    by_cases hh : n = cnt l + 1
    · have := hcs' hh; omega
    · omega
  refine ⟨⟨hl, ⟨by omega, by omega, by omega⟩, fun i hi => ?_, fun i k hi hk => ?_, ?_⟩, fun i hi hne => ?_⟩
  · rw [hcp] at hi
    by_cases his : i = s
    · subst his
      unfold slotB
      rw [if_neg (by omega)]; omega
    · obtain ⟨t1, t2⟩ := ht i hi his
      have := w.slots i (hlt i hi his)
      unfold slotB at this ⊢
      rw [t1, t2]
      split at this
      · rename_i hh; rw [if_pos hh]; exact this
      · rename_i hh; rw [if_neg hh]; omega
  · rw [hcp] at hi
    have hkn : k < n := by omega
    by_cases his : i = s
    · subst his
      obtain ⟨t1, t2⟩ := ht k hkn (by omega)
      by_cases hz : siz l k = 0
      · exact .inr (.inl (by omega))
      · have := hf k (hlt k hkn (by omega)) (by omega) hz
        unfold apartB; omega
    · obtain ⟨t1, t2⟩ := ht i hi his
      by_cases hks : k = s
      · subst hks
        by_cases hz : siz l i = 0
        · exact .inl (by omega)
        · have := hf i (hlt i hi his) his hz
          unfold apartB; omega
      · obtain ⟨t3, t4⟩ := ht k hkn hks
        have := w.apart i k (hlt i hi his) hk
        unfold apartB at *; omega
  · rw [hcp]
    rintro ⟨g1, g2⟩
    by_cases hns : n - 1 = s
    · rw [hns] at g2; omega
    · have hh := hlt (n - 1) (by omega) hns
      have : n = cnt l := by
        by_cases hh : n = cnt l + 1
        · have := hcs' hh; omega
        · omega
      rw [(ht (n - 1) (by omega) hns).2, this] at g2
      exact w.last ⟨by omega, g2⟩
  · have hne' : i ≠ s := by omega
    have e : (i < cnt p ∧ siz p i ≠ 0) ↔ (i < cnt l ∧ siz l i ≠ 0) := by
      rw [hcp]
      constructor
      · rintro ⟨g1, g2⟩
        exact ⟨hlt i g1 hne', by rw [← (ht i g1 hne').2]; exact g2⟩
      · rintro ⟨g1, g2⟩
        exact ⟨by omega, by rw [(ht i (by omega) hne').2]; exact g2⟩
    refine ⟨has_eq e, fun hh => ?_⟩
    obtain ⟨g1, g2⟩ := has_iff.1 hh
    obtain ⟨t1, t2⟩ := ht i (by omega) hne'
    obtain ⟨b1, b2⟩ := w.bd g1 g2
    have q := pl_bd l i
    have := hf i g1 hne' g2
    refine cell_same t2 (by rw [w.len]; omega) (by rw [hl]; omega) fun j hj => ?_
    rw [t1]
    exact hb _ (by omega) (by omega) (by omega)
/-- the first empty slot is empty -/
theorem empG_is (l : List UInt8) : ∀ (q i : Nat), empG l q i < i + q → siz l (empG l q i) = 0
  | 0, i, h => by simp only [empG] at h; omega
  | q + 1, i, h => by
    simp only [empG] at h ⊢
    split
    · assumption
    · rename_i hz
      rw [if_neg hz] at h
      exact empG_is l q (i + 1) (by omega)
theorem empS_is {l : List UInt8} (h : empS l < cnt l) : siz l (empS l) = 0 := empG_is l _ _ (by unfold empS at h; omega)
/-- a cell that was put -/
theorem put_ok {l m : List UInt8} (hp : pagF l = 0) (hm : inB m.length 1 20 = true) (hc : (pu0 l m).1 = 0) :
    pagF (pu0 l m).2.2 = 0 ∧ Keep l (pu0 l m).2.2 (pu0 l m).2.1 ∧ hasB (pu0 l m).2.2 (pu0 l m).2.1 = true ∧ cellB (pu0 l m).2.2 (pu0 l m).2.1.toNat = m ∧ hasB l (pu0 l m).2.1 = false ∧
    (freS l - freS (pu0 l m).2.2 = m.length ∨ freS l - freS (pu0 l m).2.2 = m.length + 2) ∧ 0 ≤ (pu0 l m).2.1 ∧ (pu0 l m).2.1 < 16 := by
  have w := Pg.of hp
  obtain ⟨w1, w2, w3, w4⟩ := w.nums
  have hm' := inB_iff.1 hm
  have hE := empS_le l
  unfold pu0 at hc ⊢
  by_cases c1 : empS l = cnt l ∧ 16 ≤ cnt l
  · rw [if_pos c1] at hc; simp at hc
  rw [if_neg c1] at hc ⊢
  by_cases c2 : freS l < m.length + puM l
  · rw [if_pos c2] at hc; simp at hc
  rw [if_neg c2] at hc ⊢
  by_cases c3 : bt l 1 - m.length < 2 + 2 * puN l
  · rw [if_pos c3] at hc; simp at hc
  rw [if_neg c3] at hc ⊢
  simp only
  obtain ⟨n1, n2, n3, n4⟩ := puN_bd w2 c1
  have hA : ((puA l m : Nat) : Int) = bt l 1 - m.length := by unfold puA; omega
  have wl : puA l m + m.length ≤ l.length := by rw [w.len]; omega
  have pb : ∀ j : Nat, bt (puL l m) (j : Int) = if j = 1 then (puA l m : Int) else if j = 0 then (puN l : Int) else bt (wrC l (empS l) (puA l m) m) (j : Int) := fun j => by
    unfold puL
    rw [bt_set (by simp only [List.length_set]; rw [wrC_len wl, w.len]; omega), u8n (by omega), bt_set (by rw [wrC_len wl, w.len]; omega), u8n (by omega)]
  have wb : ∀ j : Nat, bt (wrC l (empS l) (puA l m) m) (j : Int) = _ := fun j => bt_wrC wl (by rw [w.len]; omega) (by omega) (by omega)
  have hlen : (puL l m).length = 64 := by
    unfold puL; simp only [List.length_set]; rw [wrC_len wl, w.len]
  have h0 : bt (puL l m) 0 = puN l := by
    have := pb 0; simpa using this
  have h1 : bt (puL l m) 1 = puA l m := by
    have := pb 1; simpa using this
  have hP : plc (puL l m) (empS l) = puA l m := by
    unfold plc; rw [pb, if_neg (by omega), if_neg (by omega), wb, if_neg (by omega), if_pos rfl]
  have hZ : siz (puL l m) (empS l) = m.length := by
    unfold siz; rw [pb, if_neg (by omega), if_neg (by omega), wb, if_pos rfl]
  have ht : ∀ i, i < puN l → i ≠ empS l → plc (puL l m) i = plc l i ∧ siz (puL l m) i = siz l i := fun i hi hne => by
    unfold plc siz
    refine ⟨?_, ?_⟩
    · rw [pb, if_neg (by omega), if_neg (by omega), wb, if_neg (by omega), if_neg (by omega), if_neg (by omega)]
    · rw [pb, if_neg (by omega), if_neg (by omega), wb, if_neg (by omega), if_neg (by omega), if_neg (by omega)]
  have hNc : puN l ≤ cnt l + 1 ∧ (puN l = cnt l + 1 → empS l = cnt l) := by
    unfold puN; split <;> omega
  obtain ⟨g1, g2⟩ := turn_ok w (p := puL l m) (s := empS l) (n := puN l) (low := puA l m) (a := puA l m) (len := m.length) hlen h0 h1 n1 (by omega) (by omega) n2 n4 hNc.1 hNc.2 hP hZ (by omega) (Nat.le_refl _) (by omega) (by omega) ht
    (fun i hi hne hz => by have := w.bd hi hz; omega)
    (fun j j1 j2 j3 => by rw [pb, if_neg (by omega), if_neg (by omega), wb, if_neg (by omega), if_neg (by omega), if_neg j2])
  have hcp := cnt_of h0
  refine ⟨g1.ok, g2, has_iff.2 ⟨by omega, by omega⟩, ?_, ?_, ?_, by omega, by omega⟩
  · rw [Int.toNat_natCast]
    refine cell_is hP hZ (by omega) fun j hj => ?_
    rw [pb, if_neg (by omega), if_neg (by omega), wb, if_neg (by omega), if_neg (by omega), if_pos (by omega)]
    congr 2; omega
  · rw [Bool.eq_false_iff]
    intro hh
    obtain ⟨a1, a2⟩ := has_iff.1 hh
    exact a2 (empS_is a1)
  · have hcl := cnt_eq l
    unfold freS
    rw [h0, hcp, w1]
    by_cases he : empS l = cnt l
    · have : puN l = cnt l + 1 := by unfold puN; rw [if_pos he]
      rw [this]
      simp only [sumS]
      rw [sum_ext (cnt l) fun i hi => (ht i (by omega) (by omega)).2, ← he, hZ]
      right; omega
    · have : puN l = cnt l := by unfold puN; rw [if_neg he]
      rw [this]
      have s1 := sum_one (l := l) (p := puL l m) (s := empS l) (cnt l) (by omega) fun i hi hne => (ht i (by omega) hne).2
      rw [empS_is (by omega), hZ] at s1
      left; omega
/-- a cell that was set -/
theorem set_ok {l m : List UInt8} {i : Int} (hc : (setR l i m).1 = 0) :
    pagF (setR l i m).2.2 = 0 ∧ Keep l (setR l i m).2.2 i ∧ hasB (setR l i m).2.2 i = true ∧ cellB (setR l i m).2.2 i.toNat = m ∧ (setR l i m).2.1 = i := by
  unfold setR at hc ⊢
  by_cases hp : pagF l = 0
  case neg => rw [if_pos hp] at hc; exact absurd hc hp
  rw [if_neg (by simp [hp])] at hc ⊢
  cases hm : inB m.length 1 20
  · rw [if_pos hm] at hc; simp at hc
  rw [if_neg (by simp [hm])] at hc ⊢
  cases hb : hasB l i
  · rw [if_pos hb] at hc; simp at hc
  rw [if_neg (by simp [hb])] at hc ⊢
  obtain ⟨k, rfl, hk, hz⟩ := hasB_nat hb
  have w := Pg.of hp
  obtain ⟨w1, w2, w3, w4⟩ := w.nums
  have hm' := inB_iff.1 hm
  obtain ⟨b1, b2⟩ := w.bd hk hz
  have q := pl_bd l k
  rw [Int.toNat_natCast] at hc ⊢
  by_cases c1 : (m.length : Int) ≤ siz l k
  · rw [if_pos c1] at hc ⊢
    simp only
    generalize hA : (plc l k + siz l k - m.length).toNat = a
    have ha : (a : Int) = plc l k + siz l k - m.length := by omega
    have wl : a + m.length ≤ l.length := by rw [w.len]; omega
    have wb : ∀ j : Nat, bt (wrC l k a m) (j : Int) = _ := fun j => bt_wrC wl (by rw [w.len]; omega) (by omega) (by omega)
    have hlen : (wrC l k a m).length = 64 := by rw [wrC_len wl, w.len]
    have h0 : bt (wrC l k a m) 0 = cnt l := by
      have := wb 0
      rw [if_neg (by omega), if_neg (by omega), if_neg (by omega)] at this
      rw [show (0 : Int) = ((0 : Nat) : Int) from rfl, this]; exact w1
    have h1 : bt (wrC l k a m) 1 = ((bt l 1).toNat : Nat) := by
      have := wb 1
      rw [if_neg (by omega), if_neg (by omega), if_neg (by omega)] at this
      rw [show (1 : Int) = ((1 : Nat) : Int) from rfl, this]
      rw [show ((1 : Nat) : Int) = 1 from rfl]; omega
    have hP : plc (wrC l k a m) k = a := by unfold plc; rw [wb, if_neg (by omega), if_pos rfl]
    have hZ : siz (wrC l k a m) k = m.length := by unfold siz; rw [wb, if_pos rfl]
    have ht : ∀ i, i < cnt l → i ≠ k → plc (wrC l k a m) i = plc l i ∧ siz (wrC l k a m) i = siz l i := fun i hi hne => by
      unfold plc siz
      refine ⟨?_, ?_⟩
      · rw [wb, if_neg (by omega), if_neg (by omega), if_neg (by omega)]
      · rw [wb, if_neg (by omega), if_neg (by omega), if_neg (by omega)]
    obtain ⟨g1, g2⟩ := turn_ok w (p := wrC l k a m) (s := k) (n := cnt l) (low := (bt l 1).toNat) (a := a) (len := m.length) hlen h0 h1 w2 (by omega) (by omega) hk (Nat.le_refl _) (by omega) (by omega) hP hZ (by omega) (by omega) (by omega) (by omega) ht
      (fun i hi hne hz' => by
        have := w.ap hi hk hne
        unfold apartB at this; omega)
      (fun j j1 j2 j3 => by rw [wb, if_neg (by omega), if_neg (by omega), if_neg j2])
    refine ⟨g1.ok, g2, has_iff.2 ⟨by rw [cnt_of h0]; exact hk, by omega⟩, cell_is hP hZ (by omega) fun j hj => ?_, trivial⟩
    rw [wb, if_neg (by omega), if_neg (by omega), if_pos (by omega)]
    congr 2; omega
  rw [if_neg c1] at hc ⊢
  by_cases c2 : freS l + siz l k < m.length
  · rw [if_pos c2] at hc; simp at hc
  rw [if_neg c2] at hc ⊢
  by_cases c3 : bt l 1 - m.length < 2 + 2 * bt l 0
  · rw [if_pos c3] at hc; simp at hc
  rw [if_neg c3] at hc ⊢
  simp only
  generalize hA : (bt l 1 - m.length).toNat = a
  have ha : (a : Int) = bt l 1 - m.length := by omega
  have wl : a + m.length ≤ l.length := by rw [w.len]; omega
  have wb : ∀ j : Nat, bt ((wrC l k a m).set 1 (UInt8.ofNat a)) (j : Int) = if j = 1 then (a : Int) else if j = 3 + 2 * k then (m.length : Int) else if j = 2 + 2 * k then (a : Int) else if a ≤ j ∧ j < a + m.length then bt m ((j - a : Nat) : Int) else bt l (j : Int) := fun j => by
    rw [bt_set (by rw [wrC_len wl, w.len]; omega), u8n (by omega), bt_wrC wl (by rw [w.len]; omega) (by omega) (by omega)]
  have hlen : ((wrC l k a m).set 1 (UInt8.ofNat a)).length = 64 := by rw [List.length_set, wrC_len wl, w.len]
  generalize (wrC l k a m).set 1 (UInt8.ofNat a) = p at wb hlen ⊢
  have h0 : bt p 0 = cnt l := by
    have := wb 0
    rw [if_neg (by omega), if_neg (by omega), if_neg (by omega), if_neg (by omega)] at this
    rw [show (0 : Int) = ((0 : Nat) : Int) from rfl, this]; exact w1
  have h1 : bt p 1 = a := by have := wb 1; simpa using this
  have hP : plc p k = a := by unfold plc; rw [wb, if_neg (by omega), if_neg (by omega), if_pos rfl]
  have hZ : siz p k = m.length := by unfold siz; rw [wb, if_neg (by omega), if_pos rfl]
  have ht : ∀ i, i < cnt l → i ≠ k → plc p i = plc l i ∧ siz p i = siz l i := fun i hi hne => by
    unfold plc siz
    refine ⟨?_, ?_⟩
    · rw [wb, if_neg (by omega), if_neg (by omega), if_neg (by omega), if_neg (by omega)]
    · rw [wb, if_neg (by omega), if_neg (by omega), if_neg (by omega), if_neg (by omega)]
  obtain ⟨g1, g2⟩ := turn_ok w (p := p) (s := k) (n := cnt l) (low := a) (a := a) (len := m.length) hlen h0 h1 w2 (by omega) (by omega) hk (Nat.le_refl _) (by omega) (by omega) hP hZ (by omega) (Nat.le_refl _) (by omega) (by omega) ht
    (fun i hi hne hz' => by have := w.bd hi hz'; omega)
    (fun j j1 j2 j3 => by rw [wb, if_neg (by omega), if_neg (by omega), if_neg (by omega), if_neg j2])
  refine ⟨g1.ok, g2, has_iff.2 ⟨by rw [cnt_of h0]; exact hk, by omega⟩, cell_is hP hZ (by omega) fun j hj => ?_, trivial⟩
  rw [wb, if_neg (by omega), if_neg (by omega), if_neg (by omega), if_pos (by omega)]
  congr 2; omega
/-- the count without empty slots at the end -/
theorem trim_is (l : List UInt8) : ∀ n, (∀ j, trimN l n ≤ j → j < n → siz l j = 0) ∧ ¬ (0 < trimN l n ∧ siz l (trimN l n - 1) = 0)
  | 0 => ⟨fun j _ h => by omega, fun h => by simp [trimN] at h⟩
  | n + 1 => by
    unfold trimN
    split
    · rename_i hz
      obtain ⟨a, b⟩ := trim_is l n
      refine ⟨fun j h1 h2 => ?_, b⟩
      by_cases hj : j = n
      · subst hj; exact hz
      · exact a j h1 (by omega)
    · rename_i hz
      exact ⟨fun j h1 h2 => by omega, fun hh => hz hh.2⟩
/-- a slot that was let go -/
theorem drop_ok {l : List UInt8} {k : Nat} (hp : pagF l = 0) (hk : k < cnt l) : pagF (dropB l k) = 0 ∧ Keep l (dropB l k) k ∧ hasB (dropB l k) (k : Int) = false := by
  have w := Pg.of hp
  obtain ⟨w1, w2, w3, w4⟩ := w.nums
  have hn := trimN_le (dropL l k) (cnt l)
  obtain ⟨t1, t2⟩ := trim_is (dropL l k) (cnt l)
  have db : ∀ j : Nat, bt (dropL l k) (j : Int) = if j = 3 + 2 * k then 0 else if j = 2 + 2 * k then 0 else bt l (j : Int) := fun j => by
    unfold dropL
    rw [bt_set (by rw [List.length_set, w.len]; omega), bt_set (by rw [w.len]; omega)]; rfl
  have hlen : (dropB l k).length = 64 := by rw [dropB_len, w.len]
  unfold dropB at hlen ⊢
  generalize hN : trimN (dropL l k) (cnt l) = n at hn t1 t2 hlen ⊢
  have pb : ∀ j : Nat, bt (cntB (dropL l k) n) (j : Int) = if j = 0 then (n : Int) else bt (dropL l k) (j : Int) := fun j => by
    unfold cntB
    rw [bt_set (by rw [dropL_len, w.len]; omega), u8n (by omega)]
  have ps : ∀ i, siz (cntB (dropL l k) n) i = siz (dropL l k) i := fun i => cntB_siz
  generalize cntB (dropL l k) n = p at pb ps hlen ⊢
  have h0 : bt p 0 = n := by have := pb 0; simpa using this
  have h1 : bt p 1 = bt l 1 := by
    have := pb 1
    rw [if_neg (by omega), db, if_neg (by omega), if_neg (by omega)] at this
    exact this
  have hk0 : plc p k = 0 ∧ siz p k = 0 := by
    unfold plc siz
    refine ⟨?_, ?_⟩
    · rw [pb, if_neg (by omega), db, if_neg (by omega), if_pos rfl]
    · rw [pb, if_neg (by omega), db, if_pos rfl]
  have ht : ∀ i, i ≠ k → plc p i = plc l i ∧ siz p i = siz l i := fun i hne => by
    unfold plc siz
    refine ⟨?_, ?_⟩
    · rw [pb, if_neg (by omega), db, if_neg (by omega), if_neg (by omega)]
    · rw [pb, if_neg (by omega), db, if_neg (by omega), if_neg (by omega)]
  have hcp := cnt_of h0
  have hg : Pg p := ⟨hlen, ⟨by omega, by omega, by omega⟩, fun i hi => by
      by_cases hik : i = k
      · subst hik; unfold slotB; rw [if_pos (.inl hk0.1)]; omega
      · have := w.slots i (by omega)
        unfold slotB at this ⊢
        rw [(ht i hik).1, (ht i hik).2, h1]; exact this,
    fun i j hi hj => by
      by_cases hik : i = k
      · subst hik; exact .inl hk0.2
      · by_cases hjk : j = k
        · subst hjk; exact .inr (.inl hk0.2)
        · have := w.apart i j (by omega) hj
          unfold apartB at this ⊢
          rw [(ht i hik).1, (ht i hik).2, (ht j hjk).1, (ht j hjk).2]; exact this,
    by rw [hcp, ps]; exact t2⟩
  refine ⟨hg.ok, fun i hi hne => ?_, ?_⟩
  · have hik : i ≠ k := by omega
    have e : (i < cnt p ∧ siz p i ≠ 0) ↔ (i < cnt l ∧ siz l i ≠ 0) := by
      rw [hcp, (ht i hik).2]
      constructor
      · rintro ⟨g1, g2⟩; exact ⟨by omega, g2⟩
      · rintro ⟨g1, g2⟩
        refine ⟨?_, g2⟩
        apply Classical.byContradiction
        intro hh
        have := t1 i (by omega) g1
        rw [← ps, (ht i hik).2] at this
        exact g2 this
    refine ⟨has_eq e, fun hh => ?_⟩
    obtain ⟨g1, g2⟩ := has_iff.1 hh
    obtain ⟨b1, b2⟩ := w.bd g1 g2
    have q := pl_bd l i
    refine cell_same (ht i hik).2 (by rw [w.len]; omega) (by rw [(ht i hik).1, (ht i hik).2, hlen]; omega) fun j hj => ?_
    rw [(ht i hik).1, pb, if_neg (by omega), db, if_neg (by omega), if_neg (by omega)]
  · rw [Bool.eq_false_iff]
    intro hh
    exact (has_iff.1 hh).2 hk0.2
/-- what a page that was made dense has in it -/
structure Den (l : List UInt8) (n i : Nat) (p : List UInt8) : Prop where
  len : p.length = 64
  cnt : bt p 0 = n
  siz : ∀ j, j < n → Vm.siz p j = Vm.siz l j
  plc : ∀ j, j < i → Vm.plc p j = if Vm.siz l j = 0 then 0 else 64 - (sumS l (j + 1) : Int)
  old : ∀ j, i ≤ j → j < n → Vm.plc p j = Vm.plc l j
  cel : ∀ j, j < i → ∀ y : Nat, (y : Int) < Vm.siz l j → bt p ((64 - sumS l (j + 1) + y : Nat) : Int) = bt (cellB l j) (y : Int)
  zer : ∀ y : Nat, 2 + 2 * n ≤ y → y < 64 - sumS l i → bt p (y : Int) = 0
theorem sumS_mono (l : List UInt8) {i j : Nat} (h : i ≤ j) : sumS l i ≤ sumS l j := by
  induction j with
  | zero => rw [Nat.le_zero.1 h]; exact Nat.le_refl _
  | succ j ih =>
    by_cases hh : i = j + 1
    · rw [hh]; exact Nat.le_refl _
    · have := ih (by omega); simp only [sumS]; omega
theorem Den.step {l p : List UInt8} {i : Nat} (hp : pagF l = 0) (hi : i < Vm.cnt l) (w : Den l (Vm.cnt l) i p) : Den l (Vm.cnt l) (i + 1) (cmpS l i (p, 64 - sumS l i)).1 ∧ (cmpS l i (p, 64 - sumS l i)).2 = 64 - sumS l (i + 1) := by
  have g := Pg.of hp
  obtain ⟨w1, w2, w3, w4⟩ := g.nums
  have hl := cellB_len' hp hi
  have q := pl_bd l i
  have hb := sumS_bd hp (i := i + 1) (by omega)
  have hs : sumS l (i + 1) = sumS l i + (Vm.siz l i).toNat := rfl
  unfold cmpS
  by_cases hz : Vm.siz l i = 0
  · rw [if_pos hz]
    have hs' : sumS l (i + 1) = sumS l i := by omega
    have := g.slots i hi
    unfold slotB at this
    rw [if_pos (.inr hz)] at this
    refine ⟨⟨w.len, w.cnt, w.siz, fun j hj => ?_, fun j h1 h2 => w.old j (by omega) h2, fun j hj y hy => ?_, fun y h1 h2 => w.zer y h1 (by omega)⟩, by omega⟩
    · by_cases hji : j = i
      · subst hji; rw [if_pos hz, w.old j (Nat.le_refl _) hi]; omega
      · exact w.plc j (by omega)
    · by_cases hji : j = i
      · subst hji; omega
      · exact w.cel j (by omega) y hy
  · rw [if_neg hz]
    generalize hA : 64 - sumS l i - (cellB l i).length = a
    have ha : (a : Int) = 64 - sumS l (i + 1) := by omega
    have wl : a + (cellB l i).length ≤ p.length := by rw [w.len]; omega
    have wb : ∀ j : Nat, bt ((lay p a (cellB l i)).set (2 + 2 * i) (UInt8.ofNat a)) (j : Int) = if j = 2 + 2 * i then (a : Int) else if a ≤ j ∧ j < a + (cellB l i).length then bt (cellB l i) ((j - a : Nat) : Int) else bt p (j : Int) := fun j => by
      rw [bt_set (by rw [lay_len wl, w.len]; omega), u8n (by omega), bt_lay wl]
    have hlen : ((lay p a (cellB l i)).set (2 + 2 * i) (UInt8.ofNat a)).length = 64 := by rw [List.length_set, lay_len wl, w.len]
    simp only
    generalize (lay p a (cellB l i)).set (2 + 2 * i) (UInt8.ofNat a) = p' at wb hlen ⊢
    refine ⟨⟨hlen, ?_, fun j hj => ?_, fun j hj => ?_, fun j h1 h2 => ?_, fun j hj y hy => ?_, fun y h1 h2 => ?_⟩, by omega⟩
    · have := wb 0
      rw [if_neg (by omega), if_neg (by omega)] at this
      exact this.trans w.cnt
    · have := wb (3 + 2 * j)
      rw [if_neg (by omega), if_neg (by omega)] at this
      exact this.trans (w.siz j hj)
    · by_cases hji : j = i
      · subst hji
        rw [if_neg hz]
        unfold Vm.plc
        rw [wb, if_pos rfl]; omega
      · rw [← w.plc j (by omega)]
        unfold Vm.plc
        rw [wb, if_neg (by omega), if_neg (by omega)]
    · rw [← w.old j (by omega) h2]
      unfold Vm.plc
      rw [wb, if_neg (by omega), if_neg (by omega)]
    · by_cases hji : j = i
      · subst hji
        rw [wb, if_neg (by omega), if_pos (by omega)]
        congr 2; omega
      · have hm := sumS_mono l (i := j + 1) (j := i) (by omega)
        rw [← w.cel j (by omega) y hy, wb, if_neg (by omega), if_neg (by omega)]
    · rw [wb, if_neg (by omega), if_neg (by omega)]
      exact w.zer y h1 (by omega)
theorem Den.all {l : List UInt8} (hp : pagF l = 0) : ∀ (k i : Nat) (p : List UInt8), i + k = Vm.cnt l → Den l (Vm.cnt l) i p → Den l (Vm.cnt l) (Vm.cnt l) (Vm.cmp l k i (p, 64 - sumS l i)).1 ∧ (Vm.cmp l k i (p, 64 - sumS l i)).2 = 64 - sumS l (Vm.cnt l)
  | 0, i, p, h, w => by
    have : i = Vm.cnt l := by omega
    subst this
    exact ⟨w, rfl⟩
  | k + 1, i, p, h, w => by
    obtain ⟨a, b⟩ := w.step hp (by omega)
    have := Den.all hp k (i + 1) _ (by omega) a
    rw [← b] at this
    exact this
/-- a page made dense -/
theorem den_ok {l : List UInt8} (hp : pagF l = 0) : Den l (cnt l) (cnt l) (cmpL l) ∧ bt (cmpL l) 1 = 64 - sumS l (cnt l) := by
  have g := Pg.of hp
  obtain ⟨w1, w2, w3, w4⟩ := g.nums
  have hb := sumS_bd hp (Nat.le_refl (cnt l))
  have ht : (l.take (2 + 2 * cnt l)).length = 2 + 2 * cnt l := by rw [List.length_take, g.len]; omega
  have hz : zer64.length = 64 := by simp [zer64]
  have ob : ∀ j : Nat, bt (out0 l) (j : Int) = if j < 2 + 2 * cnt l then bt l (j : Int) else 0 := fun j => by
    unfold out0
    rw [bt_lay (by rw [ht, hz]; omega), ht]
    by_cases hj : j < 2 + 2 * cnt l
    · rw [if_pos (by omega), if_pos hj]
      unfold bt
      simp only [Int.toNat_natCast, List.getD, Nat.sub_zero]
      rw [List.getElem?_take_of_lt hj]
    · rw [if_neg (by omega), if_neg hj]
      unfold bt zer64
      simp only [Int.toNat_natCast, List.getD]
      by_cases h64 : j < 64
      · rw [List.getElem?_replicate, if_pos h64]; rfl
      · rw [List.getElem?_eq_none (by simp; omega)]; rfl
  have d0 : Den l (cnt l) 0 (out0 l) := ⟨by unfold out0; rw [lay_len (by rw [ht, hz]; omega), hz],
    by have := ob 0; rw [if_pos (by omega)] at this; exact this.trans w1,
    fun j hj => by unfold siz; rw [ob, if_pos (by omega)],
    fun j hj => by omega, fun j _ hj => by unfold plc; rw [ob, if_pos (by omega)], fun j hj => by omega, fun y h1 h2 => by rw [ob, if_neg (by omega)]⟩
  obtain ⟨a, b⟩ := d0.all hp (cnt l) 0 (out0 l) (by omega)
  have e0 : sumS l 0 = 0 := rfl
  rw [e0] at a b
  unfold cmpL cmpR
  rw [b]
  rw [show 64 - 0 = 64 from rfl] at a
  have wb : ∀ j : Nat, bt ((cmp l (cnt l) 0 (out0 l, 64)).1.set 1 (UInt8.ofNat (64 - sumS l (cnt l)))) (j : Int) = if j = 1 then ((64 - sumS l (cnt l) : Nat) : Int) else bt (cmp l (cnt l) 0 (out0 l, 64)).1 (j : Int) := fun j => by
    rw [bt_set (by rw [a.len]; omega), u8n (by omega)]
  have hlen : ((cmp l (cnt l) 0 (out0 l, 64)).1.set 1 (UInt8.ofNat (64 - sumS l (cnt l)))).length = 64 := by rw [List.length_set, a.len]
  generalize (cmp l (cnt l) 0 (out0 l, 64)).1.set 1 (UInt8.ofNat (64 - sumS l (cnt l))) = p at wb hlen ⊢
  refine ⟨⟨hlen, ?_, fun j hj => ?_, fun j hj => ?_, fun j h1 h2 => ?_, fun j hj y hy => ?_, fun y h1 h2 => ?_⟩, ?_⟩
  · have := wb 0; rw [if_neg (by omega)] at this; exact this.trans a.cnt
  · rw [← a.siz j hj]; unfold siz; rw [wb, if_neg (by omega)]
  · rw [← a.plc j hj]; unfold plc; rw [wb, if_neg (by omega)]
  · rw [← a.old j h1 h2]; unfold plc; rw [wb, if_neg (by omega)]
  · have := sumS_mono l (i := j + 1) (j := cnt l) (by omega)
    rw [← a.cel j hj y hy, wb, if_neg (by omega)]
  · rw [← a.zer y h1 h2, wb, if_neg (by omega)]
  · have := wb 1; rw [if_pos rfl] at this
    rw [show (1 : Int) = ((1 : Nat) : Int) from rfl, this]; omega
theorem Den.pg {l p : List UInt8} (hp : pagF l = 0) (w : Den l (Vm.cnt l) (Vm.cnt l) p) (h1 : bt p 1 = 64 - sumS l (Vm.cnt l)) : Pg p ∧ Keep l p (-1) ∧ freS p = freS l := by
  have g := Pg.of hp
  obtain ⟨w1, w2, w3, w4⟩ := g.nums
  have hb := sumS_bd hp (Nat.le_refl (Vm.cnt l))
  have hcp := cnt_of w.cnt
  have hlo : ∀ j, j < Vm.cnt l → sumS l (j + 1) ≤ sumS l (Vm.cnt l) := fun j hj => sumS_mono l (by omega)
  refine ⟨⟨w.len, ⟨by rw [w.cnt]; omega, by rw [w.cnt]; omega, by omega⟩, fun i hi => ?_, fun i k hi hk => ?_, ?_⟩, fun i hi hne => ?_, ?_⟩
  · rw [hcp] at hi
    have := w.plc i hi
    have h2 := w.siz i hi
    have q := pl_bd l i
    have := hlo i hi
    have hs : sumS l (i + 1) = sumS l i + (Vm.siz l i).toNat := rfl
    unfold slotB
    by_cases hz : Vm.siz l i = 0
    · rw [if_pos hz] at *; rw [if_pos (.inl (by assumption))]; omega
    · rw [if_neg hz] at *; rw [if_neg (by omega)]; omega
  · rw [hcp] at hi
    have p1 := w.plc i hi
    have s1 := w.siz i hi
    have p2 := w.plc k (by omega)
    have s2 := w.siz k (by omega)
    have q := pl_bd l i
    have q2 := pl_bd l k
    have hm := sumS_mono l (i := k + 1) (j := i) (by omega)
    have h3 := hlo i hi
    have e1 : sumS l (i + 1) = sumS l i + (Vm.siz l i).toNat := rfl
    unfold apartB
    by_cases hz : Vm.siz l i = 0
    · left; omega
    · by_cases hz2 : Vm.siz l k = 0
      · right; left; omega
      · rw [if_neg hz] at p1; rw [if_neg hz2] at p2
        right; right; left; omega
  · rw [hcp]
    rintro ⟨a, b⟩
    rw [w.siz _ (by omega)] at b
    exact g.last ⟨a, b⟩
  · have e : (i < Vm.cnt p ∧ Vm.siz p i ≠ 0) ↔ (i < Vm.cnt l ∧ Vm.siz l i ≠ 0) := by
      rw [hcp]
      constructor <;> (rintro ⟨a, b⟩; refine ⟨a, ?_⟩)
      · rwa [w.siz i a] at b
      · rwa [w.siz i a]
    refine ⟨has_eq e, fun hh => ?_⟩
    obtain ⟨a, b⟩ := has_iff.1 hh
    have q := pl_bd l i
    have h3 := hlo i a
    have e1 : sumS l (i + 1) = sumS l i + (Vm.siz l i).toNat := rfl
    obtain ⟨b1, b2⟩ := g.bd a b
    have pp := w.plc i a
    rw [if_neg b] at pp
    refine cell_same (w.siz i a) (by rw [g.len]; omega) (by rw [w.siz i a, w.len]; omega) fun j hj => ?_
    have hc := w.cel i a j hj
    rw [cell_bt (by rw [g.len]; omega) hj] at hc
    rw [← hc]
    congr 1; omega
  · unfold freS
    rw [hcp, w.cnt, w1, sum_ext _ w.siz]
theorem den_uniq {l l' p p' : List UInt8} {n : Nat} (w : Den l n n p) (w' : Den l' n n p') (hs : ∀ j, j < n → siz l j = siz l' j) (hc : ∀ j, j < n → siz l j ≠ 0 → cellB l j = cellB l' j) (h1 : bt p 1 = bt p' 1) (hle : sumS l n ≤ 64) : p = p' := by
  have hS : ∀ j, j ≤ n → sumS l j = sumS l' j := fun j hj => sum_ext j fun i hi => hs i (by omega)
  refine bt_ext (by rw [w.len, w'.len]) fun y hy => ?_
  rw [w.len] at hy
  by_cases y0 : y = 0
  · subst y0; exact w.cnt.trans w'.cnt.symm
  by_cases y1 : y = 1
  · subst y1; exact h1
  by_cases y2 : y < 2 + 2 * n
  · by_cases he : y % 2 = 0
    · obtain ⟨j, rfl⟩ : ∃ j, y = 2 + 2 * j := ⟨(y - 2) / 2, by omega⟩
      have a := w.plc j (by omega)
      have b := w'.plc j (by omega)
      rw [← hs j (by omega), ← hS (j + 1) (by omega)] at b
      exact a.trans b.symm
    · obtain ⟨j, rfl⟩ : ∃ j, y = 3 + 2 * j := ⟨(y - 3) / 2, by omega⟩
      have a := w.siz j (by omega)
      have b := w'.siz j (by omega)
      rw [hs j (by omega)] at a
      exact a.trans b.symm
  by_cases y3 : y < 64 - sumS l n
  · rw [w.zer y (by omega) y3, w'.zer y (by omega) (by rw [← hS n (Nat.le_refl _)]; exact y3)]
  · have find : ∀ i, i ≤ n → 64 - sumS l i ≤ y → ∃ j, j < i ∧ 64 - sumS l (j + 1) ≤ y ∧ y < 64 - sumS l j := by
      intro i
      induction i with
      | zero => intro _ h; simp only [sumS] at h; omega
      | succ i ih =>
        intro hi h
        by_cases hh : 64 - sumS l i ≤ y
        · obtain ⟨j, a, b, c⟩ := ih (by omega) hh
          exact ⟨j, by omega, b, c⟩
        · exact ⟨i, by omega, h, by omega⟩
    obtain ⟨j, hj, a, b⟩ := find n (Nat.le_refl _) (by omega)
    have hm := sumS_mono l (i := j + 1) (j := n) (by omega)
    have e1 : sumS l (j + 1) = sumS l j + (siz l j).toNat := rfl
    have q := pl_bd l j
    have c1 := w.cel j hj (y - (64 - sumS l (j + 1))) (by omega)
    have c2 := w'.cel j hj (y - (64 - sumS l (j + 1))) (by rw [← hs j hj]; omega)
    rw [← hS (j + 1) (by omega)] at c2
    rw [show 64 - sumS l (j + 1) + (y - (64 - sumS l (j + 1))) = y from by omega] at c1 c2
    rw [c1, c2, hc j hj (by omega)]
/-- a page made dense: what is known of it -/
theorem comp_ok {l : List UInt8} (hp : pagF l = 0) : pagF (cmpL l) = 0 ∧ Keep l (cmpL l) (-1) ∧ freS (cmpL l) = freS l ∧ bt (cmpL l) 1 - (2 + 2 * bt (cmpL l) 0) = freS (cmpL l) ∧ cmpL (cmpL l) = cmpL l := by
  obtain ⟨a, b⟩ := den_ok hp
  obtain ⟨g1, g2, g3⟩ := a.pg hp b
  have hb := sumS_bd hp (Nat.le_refl (cnt l))
  have w := Pg.of hp
  obtain ⟨w1, w2, w3, w4⟩ := w.nums
  have hcp := cnt_of a.cnt
  refine ⟨g1.ok, g2, g3, ?_, ?_⟩
  · unfold freS
    rw [b, a.cnt, hcp, sum_ext _ a.siz]; omega
  · obtain ⟨a', b'⟩ := den_ok g1.ok
    rw [hcp] at a' b'
    refine den_uniq a' a a.siz (fun j hj hz => ?_) (by rw [b, b', sum_ext _ a.siz]) (by rw [sum_ext _ a.siz]; omega)
    rw [a.siz j hj] at hz
    exact (g2 j (by omega) (by omega)).2 (has_iff.2 ⟨hj, hz⟩)
end Vm
/-
  What is drawn out of bytes: pages.
-/
namespace Vm
open Go
/-! a new page -/
def newL (c : Int) : List UInt8 := ((List.replicate 64 (UInt8.ofNat c.toNat)).set 0 0).set 1 64
theorem newL_len (c : Int) : (newL c).length = 64 := by simp [newL]
theorem newL_bt (c : Int) (j : Nat) : bt (newL c) (j : Int) = if j = 1 then 64 else if j = 0 then 0 else bt (List.replicate 64 (UInt8.ofNat c.toNat)) (j : Int) := by
  unfold newL
  rw [bt_set (by simp), bt_set (by simp)]; rfl
theorem newL_ok (c : Int) : pagF (newL c) = 0 := by
  have h0 : bt (newL c) 0 = (0 : Nat) := by have := newL_bt c 0; simpa using this
  have h1 : bt (newL c) 1 = 64 := by have := newL_bt c 1; simpa using this
  have hc := cnt_of h0
  exact (Pg.ok ⟨newL_len c, ⟨by omega, by omega, by omega⟩, fun i hi => by omega, fun i k hi => by omega, fun hh => by omega⟩)
theorem newL_free (c : Int) : freS (newL c) = 62 := by
  have h0 : bt (newL c) 0 = (0 : Nat) := by have := newL_bt c 0; simpa using this
  unfold freS
  rw [cnt_of h0, h0]; rfl
theorem fl64 (x : S) : ((List.range 64).map fun _ => [x]).flatten = List.replicate 64 x := rfl
theorem f_l2New {c : Int} (h0 : 0 ≤ c) (h1 : c < 256) (n : Nat) : ∃ h', call Ev Fn.spec_l2New [iv .u8 c] (D n) = some (sv n 0 64, h') ∧ NewB n h' (sv n 0 64) (newL c) (some n) := by
  rw [eq_spec_l2New, mk64, ob]
  obtain ⟨h', e1, n1, g1, _⟩ := fill_loop (z := 1) (n := 64) (b := n) (T := fun _ => [S.int .u8 c]) (L := fun i h => Lp.spec_l2New 0 [iv .u8 c, sv n 0 64, iv .i64 i] h) (fin := [sv n 0 64]) (fun _ _ => rfl)
    (fun i h hi hb => by
      refine ⟨iv .u8 c, [iv .u8 c, sv n 0 64, iv .i64 ((i + 1 : Nat) : Int)], .inl ⟨_, rfl, rfl, rfl⟩, ?_⟩
      show Lp.spec_l2New 0 _ h = _
      rw [eq_spec_l2New_l0, vcase_b, if_pos (by simp; omega), idxK_sv hi, w64 (by omega) (by omega), show (i : Int) + 1 = ((i + 1 : Nat) : Int) from by omega])
    (fun h => by
      show Lp.spec_l2New 0 _ h = _
      rw [eq_spec_l2New_l0, vcase_b, if_neg (by simp), tidy_self])
    64 0 ((D n).new 1 (zer64.map cell8)) (zer64.map cell8) (by omega) (by simp) (by rw [List.range_zero]; exact new_g (D n) _ _) (by simp [zer64])
  rw [D_n, show iv .i64 0 = iv .i64 ((0 : Nat) : Int) from rfl, e1]
  simp only [ob, lcase_done, gx0]
  have hc : (List.replicate 64 (S.int .u8 c)) = (List.replicate 64 (UInt8.ofNat c.toNat)).map cell8 := by
    rw [List.map_replicate]
    congr 1
    exact u8i ⟨h0, h1⟩
  rw [fl64, hc] at g1
  simp at n1
  have w : BysW h' (sv n 0 64) (List.replicate 64 (UInt8.ofNat c.toNat)) n := ⟨by simp, by omega, g1⟩
  rw [idxK_sv (by omega), w.set (c := 0) (x := 0) (by simp) rfl, show iv .i64 1 = iv .i64 ((1 : Nat) : Int) from rfl, idxK_sv (by omega), (w.set_w).set (c := 64) (x := 64) (by simp) rfl]
  have w2 := (w.set_w (i := 0) (c := 0)).set_w (i := 1) (c := 64)
  refine ⟨_, rfl, w2, by rw [put_n, put_n]; omega, fun b hb => by cases hb; exact Nat.le_refl _, fun b h2 h3 s hs => ?_⟩
  rw [put_n, put_n, n1] at h3
  have hbn : b = n := by omega
  rw [hbn] at hs
  have hs' := (congrArg (fun x => s ∈ Blk.cells x) w2.g).mp hs
  obtain ⟨c, _, rfl⟩ := List.mem_map.1 hs'
  rfl
theorem NewB.over {h h1 : H} {v : V} {m : List UInt8} {c : Nat} (w : NewB h.n h1 v m (some c)) : Up h (h.over h1) ∧ BysW (h.over h1) v m c ∧ h.n ≤ c := by
  have hle := w.le
  have hc := w.new c rfl
  exact ⟨up_over hle, ⟨(show BysW h1 v m c from w.own).v, by rw [over_n hle]; exact (show BysW h1 v m c from w.own).n, by rw [over_ge hc]; exact (show BysW h1 v m c from w.own).g⟩, hc⟩
theorem NewB.some_of {n : Nat} {h : H} {v : V} {l : List UInt8} {o : Option Nat} (w : NewB n h v l o) (hl : l ≠ []) : ∃ c, NewB n h v l (some c) := by
  cases o with
  | some c => exact ⟨c, w⟩
  | none => exact absurd w.own.2 hl
theorem BysW.dr {q b k : Nat} {ms : List UInt8} {l : List UInt8} {a N : Nat} {h h' : H} (w : BysW h (sv q 0 k) ms q) (r : Dr b l a N h h') (hq : q ≠ b) : BysW h' (sv q 0 k) ms q := ⟨w.v, by have := w.n; have := r.n; omega, by rw [r.o q w.n hq]; exact w.g⟩
theorem BysW.fr {q k : Nat} {ms : List UInt8} {h h' : H} (w : BysW h (sv q 0 k) ms q) (hn : h.n ≤ h'.n) (hg : h'.g q = h.g q) : BysW h' (sv q 0 k) ms q := ⟨w.v, by have := w.n; omega, hg.trans w.g⟩
/-! a page with which something was done -/
theorem lp_right {b : Nat} {l : List UInt8} (hl : l.length ≤ 1048576) : ∀ (k : Nat) (a q n0 : Nat) (p : List UInt8) (h : H), Src b l a h → a + 40 * k < 1099511627776 → b < n0 → n0 ≤ q → BysW h (sv q 0 64) p q → pagF p = 0 →
    ∃ q' p' h', Lp.spec_l2Right 0 [pv b 0, sv q 0 64, iv .i64 k] h = some (.done [sv q' 0 64] h') ∧ BysW h' (sv q' 0 64) p' q' ∧ pagF p' = 0 ∧ n0 ≤ q' ∧ (∃ a', Src b l a' h' ∧ a' ≤ a + 40 * k) ∧ h.n ≤ h'.n ∧ ∀ c, c < n0 → c ≠ b → h'.g c = h.g c := by
  intro k
  induction k with
  | zero =>
    intro a q n0 p h w ha hb hq wp hp
    refine ⟨q, p, h, ?_, wp, hp, hq, ⟨a, w, by omega⟩, Nat.le_refl _, fun _ _ _ => rfl⟩
    rw [eq_spec_l2Right_l0, vcase_b, if_neg (by simp), tidy_self]
  | succ k ih =>
    intro a q n0 p h w ha hb hq wp hp
    have hqn := wp.n
    have hbn := w.n
    have hqb : q ≠ b := by omega
    rw [eq_spec_l2Right_l0, vcase_b, if_pos (by simp)]
    rw [w64 (n := ((k + 1 : Nat) : Int) - 1) (by omega) (by omega), show ((k + 1 : Nat) : Int) - 1 = (k : Int) from by omega]
    -- how the round goes on with the page as it was
    have old : ∀ {N : Nat} {X : H} (vs : List V), Dr b l a N h X → N ≤ 40 → ∃ q' p' h', Lp.spec_l2Right 0 [pv b 0, sv q 0 64, iv .i64 k] (Vm.tidy h vs X) = some (.done [sv q' 0 64] h') ∧ BysW h' (sv q' 0 64) p' q' ∧ pagF p' = 0 ∧ n0 ≤ q' ∧ (∃ a', Src b l a' h' ∧ a' ≤ a + 40 * (k + 1)) ∧ h.n ≤ h'.n ∧ ∀ c, c < n0 → c ≠ b → h'.g c = h.g c := fun {N X} vs r hN => by
      have r' := r.tidy hbn vs
      obtain ⟨a', w1, w2⟩ := r'.ex
      obtain ⟨q', p', h', e, x1, x2, x3, ⟨a2, x4, x5⟩, x6, x7⟩ := ih a' q n0 p _ w1 (by omega) hb hq (wp.dr r' hqb) hp
      exact ⟨q', p', h', e, x1, x2, x3, ⟨a2, x4, by omega⟩, Nat.le_trans r'.n x6, fun c hc hcb => (x7 c hc hcb).trans (r'.o c (by omega) hcb)⟩
    -- .. and with another page
    have new : ∀ {N : Nat} {X : H} {q2 : Nat} {p2 : List UInt8} (vs : List V), sv q2 0 64 ∈ vs → Dr b l a N h X → N ≤ 40 → h.n ≤ q2 → BysW X (sv q2 0 64) p2 q2 → pagF p2 = 0 → ∃ q' p' h', Lp.spec_l2Right 0 [pv b 0, sv q2 0 64, iv .i64 k] (Vm.tidy h vs X) = some (.done [sv q' 0 64] h') ∧ BysW h' (sv q' 0 64) p' q' ∧ pagF p' = 0 ∧ n0 ≤ q' ∧ (∃ a', Src b l a' h' ∧ a' ≤ a + 40 * (k + 1)) ∧ h.n ≤ h'.n ∧ ∀ c, c < n0 → c ≠ b → h'.g c = h.g c := fun {N X q2 p2} vs hv r hN hq2 wq hp2 => by
      have ht : Vm.tidy h vs X = X := no_tidy_v (by
        rw [Bool.eq_false_iff]
        intro hh
        have := List.all_eq_true.1 hh _ hv
        simp [belV, belS] at this; omega)
      rw [ht]
      obtain ⟨a', w1, w2⟩ := r.ex
      obtain ⟨q', p', h', e, x1, x2, x3, ⟨a2, x4, x5⟩, x6, x7⟩ := ih a' q2 n0 p2 X w1 (by omega) hb (by omega) wq hp2
      exact ⟨q', p', h', e, x1, x2, x3, ⟨a2, x4, by omega⟩, Nat.le_trans r.n x6, fun c hc hcb => (x7 c hc hcb).trans (r.o c (by omega) hcb)⟩
    obtain ⟨x1, h1, e1, r1, b1, w1, n1, o1, t1⟩ := r_next w hl (by omega) (n := 14) (by omega) (by omega)
    rw [e1]; simp only [ob, gV1_s, gI_i]; rw [t1]
    obtain ⟨m, hm⟩ : ∃ m : Nat, 1 + x1 = m := ⟨(1 + x1).toNat, by omega⟩
    rw [hm, w64 (by omega) (by omega)]
    obtain ⟨q2, ms, h2, e2, w2, hms, hq2, d2⟩ := r_some (m := m) w1 hl (by omega) (by omega)
    rw [e2, ob]
    dsimp only
    rw [no_tidy_v (h := h1) (h' := h2) (by simp [belV, belS]; omega)]
    obtain ⟨a2, s2, ha2⟩ := d2.ex
    have hd2n := d2.n
    obtain ⟨x3, h3, e3, r3, b3, w3, n3, o3, t3⟩ := r_next s2 hl (by omega) (n := 5) (by omega) (by omega)
    rw [e3]; simp only [ob, gV1_s, gI_i]; rw [t3]
    have dr3 : Dr b l a 20 h h3 := ⟨⟨_, w3, by omega⟩, by omega, fun c hc hcb => by rw [o3 c hcb, d2.o c (by omega) hcb, o1 c hcb]⟩
    have wp3 := wp.dr dr3 hqb
    have wm3 : BysW h3 (sv q2 0 m) ms q2 := w2.fr (by omega) (o3 q2 (by omega))
    have hq2b : q2 ≠ b := by omega
    rw [vcase_b]
    by_cases c0 : x3 = 0
    · rw [if_pos (by simp [c0])]
      obtain ⟨x4, h4, e4, r4, b4, w4, n4, o4, t4⟩ := r_next w3 hl (by omega) (n := 6) (by omega) (by omega)
      rw [e4]; simp only [ob, gV1_s, gI_i]; rw [t4]
      have dr4 : Dr b l a 21 h h4 := ⟨⟨_, w4, by omega⟩, by omega, fun c hc hcb => by rw [o4 c hcb, dr3.o c hc hcb]⟩
      have wp4 := wp.dr dr4 hqb
      have fz : frzVs h4 [sv q 0 64, iv .i64 x4] = some [lv (bys p), iv .i64 x4] := frzVs_cons (frz1 (ob := some q) wp4) (frzVs_cons frzV_iv frzVs_nil)
      rw [fz, ob, norm_nil, pc (p_l2Has hp (by omega) (by omega)) rfl]
      simp only [gV1_s, gB_b]
      rw [vcase_b]
      cases hh : hasB p x4
      · rw [if_neg (by simp)]
        exact old _ dr4 (by omega)
      · rw [if_pos rfl, ob, norm_nil]
        obtain ⟨i, rfl, hi, _⟩ := hasB_nat hh
        obtain ⟨h64, ⟨g1, _, _⟩, _⟩ := pagF_ok hp
        have hc := cnt_eq p
        obtain ⟨h5, e5, w5, _⟩ := f_l2Drop h64 (by omega) hi h4.n
        rw [pF (h := h4) e5 ⟨rfl, w5.z⟩]
        obtain ⟨u5, w5', hc5⟩ := w5.over
        exact new _ (by simp) (dr4.up u5) (by omega) (by omega) w5' (drop_ok hp hi).1
    rw [if_neg (by simpa using c0), vcase_b]
    by_cases c1 : x3 = 1
    · rw [if_pos (by simp [c1])]
      obtain ⟨x4, h4, e4, r4, b4, w4, n4, o4, t4⟩ := r_next w3 hl (by omega) (n := 6) (by omega) (by omega)
      rw [e4]; simp only [ob, gV1_s, gI_i]; rw [t4]
      have dr4 : Dr b l a 21 h h4 := ⟨⟨_, w4, by omega⟩, by omega, fun c hc hcb => by rw [o4 c hcb, dr3.o c hc hcb]⟩
      have wp4 := wp.dr dr4 hqb
      have wm4 : BysW h4 (sv q2 0 m) ms q2 := wm3.fr (by omega) (o4 q2 hq2b)
      have fz : frzVs h4 [sv q 0 64, iv .i64 x4] = some [lv (bys p), iv .i64 x4] := frzVs_cons (frz1 (ob := some q) wp4) (frzVs_cons frzV_iv frzVs_nil)
      have fz3 : frzVs h4 [sv q 0 64, iv .i64 x4, sv q2 0 m] = some [lv (bys p), iv .i64 x4, lv (bys ms)] := frzVs_cons (frz1 (ob := some q) wp4) (frzVs_cons frzV_iv (frzVs_cons (frz1 (ob := some q2) wm4) frzVs_nil))
      rw [fz, ob, norm_nil, pc (p_l2Has hp (by omega) (by omega)) rfl]
      simp only [gV1_s, gB_b]
      rw [vcase_b]
      cases hh : hasB p x4
      · rw [if_neg (by simp)]
        exact old _ dr4 (by omega)
      · rw [if_pos rfl, fz3, ob, norm_nil]
        obtain ⟨i, rfl, hi, _⟩ := hasB_nat hh
        obtain ⟨y, h5, o5, e5, w5⟩ := f_l2Set (m := ms) hp hi (inB_iff.2 (by omega)) hh h4.n
        rw [pF (h := h4) e5 ⟨by simp [w5.own.sca], w5.z⟩]
        have u5 : Up h4 (h4.over h5) := up_over w5.le
        simp only [gVT_t, gx0, gx1, ob, gA1_s, gI_i, ln0, ln1, Nat.zero_add, Nat.reduceAdd, if_true]
        rw [vcase_b]
        by_cases hz : (setR p i ms).1 = 0
        · rw [if_pos (by simp [hz])]
          obtain ⟨s1, _⟩ := set_ok hz
          have s64 := (pagF_ok s1).1
          obtain ⟨c, w6⟩ := w5.some_of (fun hn => by rw [hn] at s64; simp at s64)
          obtain ⟨_, w6', hc6⟩ := w6.over
          have hv := w6'.v
          rw [s64] at hv
          injection hv with hv
          subst hv
          exact new _ (by simp) (dr4.up u5) (by omega) (by omega) w6' s1
        · rw [if_neg (by simpa using hz)]
          exact old _ (dr4.up u5) (by omega)
    rw [if_neg (by simpa using c1), vcase_b]
    by_cases c2 : x3 = 2
    · rw [if_pos (by simp [c2])]
      obtain ⟨x4, h4, e4, w4, n4, o4, t4⟩ := r_chance w3 hl (by omega) (n := 3) (by omega) (by omega)
      rw [e4]; simp only [ob, gV1_s, gB_b]; rw [t4]
      have dr4 : Dr b l a 21 h h4 := ⟨⟨_, w4, by omega⟩, by omega, fun c hc hcb => by rw [o4 c hcb, dr3.o c hc hcb]⟩
      have wp4 := wp.dr dr4 hqb
      have fz : frzVs h4 [sv q 0 64] = some [lv (bys p)] := frzVs_cons (frz1 (ob := some q) wp4) frzVs_nil
      rw [vcase_b]
      cases x4
      · rw [if_neg (by simp)]
        exact old _ dr4 (by omega)
      · rw [if_pos rfl, fz, ob, norm_nil]
        obtain ⟨h5, e5, w5⟩ := f_l2Compact hp h4.n
        rw [pF (h := h4) e5 ⟨rfl, w5.z⟩]
        obtain ⟨u5, w5', hc5⟩ := w5.over
        exact new _ (by simp) (dr4.up u5) (by omega) (by omega) w5' (comp_ok hp).1
    rw [if_neg (by simpa using c2)]
    have fz : frzVs h3 [sv q 0 64, sv q2 0 m] = some [lv (bys p), lv (bys ms)] := frzVs_cons (frz1 (ob := some q) wp3) (frzVs_cons (frz1 (ob := some q2) wm3) frzVs_nil)
    rw [fz, ob, norm_nil]
    obtain ⟨y, h5, o5, e5, w5⟩ := f_l2Put (m := ms) hp (inB_iff.2 (by omega)) h3.n
    rw [pF (h := h3) e5 ⟨by simp [w5.own.sca], w5.z⟩]
    have u5 : Up h3 (h3.over h5) := up_over w5.le
    simp only [gVT_t, gx0, gx1, ob, gA1_s, gI_i, ln0, ln1, Nat.zero_add, Nat.reduceAdd, if_true]
    rw [vcase_b]
    by_cases hz : (pu0 p ms).1 = 0
    · rw [if_pos (by simp [hz])]
      obtain ⟨s1, _⟩ := put_ok hp (inB_iff.2 (by omega)) hz
      have s64 := (pagF_ok s1).1
      obtain ⟨c, w6⟩ := w5.some_of (fun hn => by rw [hn] at s64; simp at s64)
      obtain ⟨_, w6', hc6⟩ := w6.over
      have hv := w6'.v
      rw [s64] at hv
      injection hv with hv
      subst hv
      exact new _ (by simp) (dr3.up u5) (by omega) (by omega) w6' s1
    · rw [if_neg (by simpa using hz)]
      exact old _ (dr3.up u5) (by omega)
end Vm
/-
  What is drawn out of bytes: pages that may have a fault, cells to be put.
-/
namespace Vm
open Go
theorem r_right {b : Nat} {l : List UInt8} {a : Nat} {h : H} (w : Src b l a h) (hl : l.length ≤ 1048576) (ha : a + 1000 < 1099511627776) :
    ∃ q p h', call Ev Fn.spec_l2Right [pv b 0] h = some (sv q 0 64, h') ∧ BysW h' (sv q 0 64) p q ∧ pagF p = 0 ∧ h.n ≤ q ∧ Dr b l a 600 h h' := by
  have hb := w.n
  rw [eq_spec_l2Right]
  obtain ⟨x1, h1, e1, m1, w1, n1, o1, t1⟩ := r_pickN w hl (by omega) (xs := [0, 0, 7]) (by simp) (by simp)
  simp only [List.length_cons, List.length_nil, Nat.zero_add, Nat.reduceAdd, List.map_cons, List.map_nil] at e1 t1
  rw [e1]; simp only [ob, gV1_s, gI_i]; rw [t1]
  have hx : 0 ≤ x1 ∧ x1 < 256 := by
    simp only [List.mem_cons, List.not_mem_nil, or_false] at m1
    omega
  rw [w8 hx.1 hx.2]
  obtain ⟨h2, e2, w2⟩ := f_l2New hx.1 hx.2 h1.n
  rw [pF (h := h1) e2 ⟨rfl, w2.z⟩]
  obtain ⟨u2, wp, hq⟩ := w2.over
  generalize h1.over h2 = K at u2 wp ⊢
  obtain ⟨x3, h3, e3, r3, b3, w3, n3, o3, t3⟩ := r_next (w1.up u2) hl (by omega) (n := 14) (by omega) (by omega)
  rw [e3]; simp only [ob, gV1_s, gI_i]; rw [t3]
  obtain ⟨k, rfl⟩ : ∃ k : Nat, x3 = k := ⟨x3.toNat, by omega⟩
  have hb1 := w1.n
  have wp3 : BysW h3 (sv h1.n 0 64) (newL x1) h1.n := wp.fr (by omega) (o3 h1.n (by omega))
  have hu := u2.n
  obtain ⟨q', p', h', e4, w4, p4, q4, ⟨a', s4, ha'⟩, n4, o4⟩ := lp_right hl k (a + 1 + 1) h1.n h.n (newL x1) h3 w3 (by omega) hb n1 wp3 (newL_ok x1)
  rw [e4, ob, lcase_done]
  simp only [gx0, ob]
  exact ⟨q', p', h', rfl, w4, p4, q4, ⟨⟨a', s4, by omega⟩, by omega, fun c hc hcb => by rw [o4 c hc hcb, o3 c hcb, u2.g c (by omega), o1 c hc hcb]⟩⟩
/-- bytes of one's own, or a part of them -/
theorem cut1 {h : H} {q : Nat} {p : List UInt8} (w : BysW h (sv q 0 64) p q) (h64 : p.length = 64) {R : Type} {k : V → Option R} : slK 1 h (sv q 0 64) (some (iv .i64 1)) none k = k (sv q 1 63) := by
  have := slK_w (R := R) (kd := .i64) (k := k) w (a := 1) (by omega)
  rw [show iv .i64 1 = iv .i64 ((1 : Nat) : Int) from rfl, this, h64]
theorem frz_cut {h : H} {q : Nat} {p : List UInt8} (w : BysW h (sv q 0 64) p q) (h64 : p.length = 64) : frzS h 8 (.sl (some (q, 1)) 63) = some (.fs (bys (p.drop 1))) := by
  have hg := w.g
  have hn := w.n
  simp only [frzS]
  rw [if_neg (by omega)]
  simp only [hn, if_true, hg]
  rw [if_pos ⟨by omega, by simp [h64]⟩]
  have e : ((p.map cell8).drop 1).take (63 * 1) = (bys (p.drop 1)).flatten := by
    rw [bys_flat, ← List.map_drop, List.take_of_length_le (by simp [h64])]
  rw [e, mapO_cl (fun s hs => by
    obtain ⟨r, h1, h2⟩ := List.mem_flatten.1 hs
    exact bys_cl r h1 s h2)]
  have hc := chunk_rows (z := 1) (rows := bys (p.drop 1)) bys_row
  rw [bys_len, show (p.drop 1).length = 63 from by simp [h64]] at hc
  rw [ob, hc]
theorem r_bent2 {b : Nat} {l : List UInt8} {a : Nat} {h : H} (w : Src b l a h) (hl : l.length ≤ 1048576) (ha : a + 1000 < 1099511627776) :
    ∃ y q p h', call Ev Fn.spec_l2Bent [pv b 0] h = some (.s y, h') ∧ p.length ≤ 64 ∧ scaS y = true ∧ h.n ≤ q ∧ q < h'.n ∧ (∀ vs, .s y ∈ vs → Vm.tidy h vs h' = h') ∧ Dr b l a 700 h h' ∧ (∀ h'', h'.n ≤ h''.n → h''.g q = h'.g q → frzS h'' 8 y = some (.fs (bys p))) := by
  have hb := w.n
  rw [eq_spec_l2Bent]
  obtain ⟨q, p, h1, e1, wp, hp, hq, d1⟩ := r_right w hl ha
  have h64 := (pagF_ok hp).1
  rw [e1, ob]
  dsimp only
  rw [no_tidy_v (h := h) (h' := h1) (by simp [belV, belS]; omega)]
  obtain ⟨a1, s1, ha1⟩ := d1.ex
  have hd1 := d1.n
  have hqb : q ≠ b := by omega
  obtain ⟨x2, h2, e2, r2, b2, w2, n2, o2, t2⟩ := r_next s1 hl (by omega) (n := 12) (by omega) (by omega)
  rw [e2]; simp only [ob, gV1_s, gI_i]; rw [t2]
  have wp2 : BysW h2 (sv q 0 64) p q := wp.fr (by omega) (o2 q hqb)
  have dr2 : Dr b l a 601 h h2 := ⟨⟨_, w2, by omega⟩, by omega, fun c hc hcb => by rw [o2 c hcb, d1.o c hc hcb]⟩
  have nt : ∀ {o k : Nat} {X : H} (vs : List V), V.s (.sl (some (q, o)) k) ∈ vs → Vm.tidy h vs X = X := fun vs hv => no_tidy_v (by
    rw [Bool.eq_false_iff]
    intro hh
    have := List.all_eq_true.1 hh _ hv
    simp [belV, belS] at this; omega)
  have fz : ∀ {X : H} {p : List UInt8}, BysW X (sv q 0 64) p q → p.length = 64 → ∀ h'', X.n ≤ h''.n → h''.g q = X.g q → frzS h'' 8 (.sl (some (q, 0)) 64) = some (.fs (bys p)) := fun {X p} wx hx h'' hn hg => by
    have := ((wx.fr hn hg).frz (d := 7)).2
    rwa [hx] at this
  rw [vcase_b]
  by_cases c0 : x2 = 0
  · rw [if_pos (by simp [c0]), cut1 wp2 h64]
    exact ⟨_, q, p.drop 1, h2, rfl, by simp [h64], rfl, hq, wp2.n, fun vs hv => nt vs hv, ⟨⟨_, w2, by omega⟩, dr2.n, dr2.o⟩, fun h'' hn hg => frz_cut (wp2.fr hn hg) h64⟩
  rw [if_neg (by simpa using c0), vcase_b]
  by_cases c1 : x2 = 1
  · rw [if_pos (by simp [c1])]
    obtain ⟨x3, h3, e3, r3, b3, w3, n3, o3, t3⟩ := r_next w2 hl (by omega) (n := 12) (by omega) (by omega)
    rw [e3]; simp only [ob, gV1_s, gI_i]; rw [t3]
    obtain ⟨x4, h4, e4, r4, b4, w4, n4, o4, t4⟩ := r_next w3 hl (by omega) (n := 70) (by omega) (by omega)
    rw [e4]; simp only [ob, gV1_s, gI_i]; rw [t4]
    obtain ⟨i, rfl⟩ : ∃ i : Nat, x3 = i := ⟨x3.toNat, by omega⟩
    have wp4 : BysW h4 (sv q 0 64) p q := wp2.fr (by omega) (by rw [o4 q hqb, o3 q hqb])
    rw [idxK_sv (by omega), wp4.set (c := UInt8.ofNat x4.toNat) (by omega) (by rw [w8 (by omega) (by omega)]; simp; omega)]
    have wp5 := wp4.set_w (i := i) (c := UInt8.ofNat x4.toNat)
    have hg5 : ∀ c, c ≠ q → (h4.put q (.rw 1 ((p.set i (UInt8.ofNat x4.toNat)).map cell8))).g c = h4.g c := fun c hc => put_g' hc
    have hn5 : (h4.put q (.rw 1 ((p.set i (UInt8.ofNat x4.toNat)).map cell8))).n = h4.n := put_n _ _ _
    generalize h4.put q (.rw 1 ((p.set i (UInt8.ofNat x4.toNat)).map cell8)) = X at wp5 hg5 hn5 ⊢
    have hb4 := w4.n
    exact ⟨_, q, p.set i (UInt8.ofNat x4.toNat), X, rfl, by simp [h64], rfl, hq, wp5.n, fun vs hv => nt vs hv, ⟨⟨_, ⟨by omega, by rw [hg5 b (by omega)]; exact w4.g⟩, by omega⟩, by omega, fun c hc hcb => by rw [hg5 c (by omega), o4 c hcb, o3 c hcb, dr2.o c hc hcb]⟩, fz wp5 (by simp [h64])⟩
  rw [if_neg (by simpa using c1)]
  exact ⟨_, q, p, h2, rfl, by omega, rfl, hq, wp2.n, fun vs hv => nt vs hv, ⟨⟨_, w2, by omega⟩, dr2.n, dr2.o⟩, fz wp2 h64⟩
theorem r_source {l : List UInt8} (h : H) : ∃ K : H, (∀ (R : Type) (k : V → H → Option R), pcallF (call Ev) Fn.spec_l1Source true [lv (bys l)] h k = k (pv h.n 0) K) ∧ Src h.n l 0 K ∧ Up h K ∧ K.n = h.n + 1 := by
  have hle : h.n ≤ ((D h.n).new 0 [.fs (bys l), .int .i64 0]).n := by simp
  refine ⟨h.over ((D h.n).new 0 [.fs (bys l), .int .i64 0]), fun R k => ?_, ⟨by rw [over_n hle]; simp, by rw [over_ge (Nat.le_refl _)]; exact new_g (D h.n) _ _⟩, up_over hle, by rw [over_n hle]; simp⟩
  unfold pcallF
  rw [eq_spec_l1Source, Vm.ob]
  unfold fchk
  rw [if_pos (.inl rfl)]; rfl
theorem r_later {l : List UInt8} (h : H) : ∃ K : H, (∀ (R : Type) (k : V → H → Option R), pcallF (call Ev) Fn.spec_l1Later true [lv (bys l), iv .i64 2] h k = k (pv h.n 0) K) ∧ Src h.n l 19 K ∧ Up h K ∧ K.n = h.n + 1 := by
  have hle : h.n ≤ ((D h.n).new 0 [.fs (bys l), .int .i64 19]).n := by simp
  refine ⟨h.over ((D h.n).new 0 [.fs (bys l), .int .i64 19]), fun R k => ?_, ⟨by rw [over_n hle]; simp, by rw [over_ge (Nat.le_refl _)]; exact new_g (D h.n) _ _⟩, up_over hle, by rw [over_n hle]; simp⟩
  unfold pcallF
  rw [eq_spec_l1Later, Vm.ob]
  unfold fchk
  rw [if_pos (.inl rfl)]; rfl
theorem r_cell {b : Nat} {l : List UInt8} {a : Nat} {h : H} (w : Src b l a h) (hl : l.length ≤ 1048576) (ha : a + 1000 < 1099511627776) :
    ∃ q m ms h', call Ev Fn.spec_l2DrawCell [pv b 0] h = some (sv q 0 m, h') ∧ BysW h' (sv q 0 m) ms q ∧ ms.length ≤ 21 ∧ h.n ≤ q ∧ Dr b l a 30 h h' := by
  have hb := w.n
  rw [eq_spec_l2DrawCell]
  obtain ⟨x1, h1, e1, r1, b1, w1, n1, o1, t1⟩ := r_next w hl (by omega) (n := 14) (by omega) (by omega)
  rw [e1]; simp only [ob, gV1_s, gI_i]; rw [t1]
  obtain ⟨x2, h2, e2, r2, b2, w2, n2, o2, t2⟩ := r_next w1 hl (by omega) (n := 14) (by omega) (by omega)
  rw [e2]; simp only [ob, gV1_s, gI_i]; rw [t2, w64 (n := 1 + x1) (by omega) (by omega), w64 (n := 1 + x2) (by omega) (by omega)]
  obtain ⟨x3, h3, e3, m3, w3, n3, o3, t3⟩ := r_pickN w2 hl (by omega) (xs := [1 + x1, 1 + x2, 3, 0, 20, 21]) (by simp) (by simp)
  simp only [List.length_cons, List.length_nil, Nat.zero_add, Nat.reduceAdd, List.map_cons, List.map_nil] at e3 t3
  rw [e3]; simp only [ob, gV1_s, gI_i]; rw [t3]
  have hx : 0 ≤ x3 ∧ x3 ≤ 21 := by
    simp only [List.mem_cons, List.not_mem_nil, or_false] at m3
    omega
  obtain ⟨m, rfl⟩ : ∃ m : Nat, x3 = m := ⟨x3.toNat, by omega⟩
  obtain ⟨q, ms, h4, e4, w4, hms, hq, d4⟩ := r_some (m := m) w3 hl (by omega) (by omega)
  rw [e4, ob]
  dsimp only
  rw [no_tidy_v (h := h3) (h' := h4) (by simp [belV, belS]; omega)]
  obtain ⟨a4, s4, ha4⟩ := d4.ex
  have := d4.n
  exact ⟨q, m, ms, h4, rfl, w4, by omega, by omega, ⟨⟨a4, s4, by omega⟩, by omega, fun c hc hcb => by rw [d4.o c (by omega) hcb, o3 c (by omega) hcb, o2 c hcb, o1 c hcb]⟩⟩
theorem frz_2 {h : H} {x y : S} {f g : S} (hx : frzS h 8 x = some f) (hy : frzS h 8 y = some g) : frzV h (.tup [.s x, .s y]) = some (.tup [.s f, .s g]) := by
  simp [frzAs, frzA, hx, hy]
theorem p_DrawPutSlot {l : List UInt8} (hl : l.length ≤ 1048576) : ∃ p m, pureV (call Ev) Fn.spec_DrawPutSlot [lv (bys l)] = some (.tup [.s (.fs (bys p)), .s (.fs (bys m))]) ∧ p.length ≤ 64 ∧ m.length ≤ 21 := by
  rw [pu_spec_DrawPutSlot]
  obtain ⟨K, e1, s1, u1, n1⟩ := r_source (l := l) (D 0)
  rw [e1]
  obtain ⟨y, q, p, h2, e2, hp, hy, hq, hqn, t2, d2, f2⟩ := r_bent2 s1 hl (by omega)
  rw [e2]; simp only [ob]; rw [t2 _ (by simp)]
  obtain ⟨a2, s2, ha2⟩ := d2.ex
  obtain ⟨q3, m, ms, h3, e3, w3, hms, hq3, d3⟩ := r_cell s2 hl (by omega)
  rw [e3]; simp only [ob, V.toA]
  rw [no_tidy_v (h := h2) (h' := h3) (by simp [belV, belS]; omega)]
  have hm := w3.len
  have f3 := (w3.frz (d := 7)).2
  rw [← hm] at f3
  refine ⟨p, ms, frz_2 (f2 h3 d3.n (d3.o q hqn (by simp at s1 ⊢; omega))) f3, hp, hms⟩
theorem p_l2With {l : List UInt8} (hl : l.length ≤ 1048576) : ∃ p, ∃ i : Int, pureV (call Ev) Fn.spec_l2With [lv (bys l)] = some (.tup [.s (.fs (bys p)), .s (.int .i64 i)]) ∧ p.length ≤ 64 ∧ -1 ≤ i ∧ i ≤ 16 := by
  rw [pu_spec_l2With]
  obtain ⟨K, e1, s1, u1, n1⟩ := r_source (l := l) (D 0)
  rw [e1]
  obtain ⟨y, q, p, h2, e2, hp, hy, hq, hqn, t2, d2, f2⟩ := r_bent2 s1 hl (by omega)
  rw [e2]; simp only [ob]; rw [t2 _ (by simp)]
  obtain ⟨a2, s2, ha2⟩ := d2.ex
  obtain ⟨x3, h3, e3, r3, b3, w3, n3, o3, t3⟩ := r_next s2 hl (by omega) (n := 6) (by omega) (by omega)
  rw [e3]; simp only [ob, gV1_s, gI_i]; rw [t3]
  obtain ⟨x4, h4, e4, r4, b4, w4, n4, o4, t4⟩ := r_next w3 hl (by omega) (n := 6) (by omega) (by omega)
  rw [e4]; simp only [ob, gV1_s, gI_i]; rw [t4]
  obtain ⟨x5, h5, e5, m5, w5, n5, o5, t5⟩ := r_pickN w4 hl (by omega) (xs := [x3, x4, 0, 16, -1]) (by simp) (by simp)
  simp only [List.length_cons, List.length_nil, Nat.zero_add, Nat.reduceAdd, List.map_cons, List.map_nil] at e5 t5
  rw [e5]; simp only [ob, gV1_s, gI_i, V.toA]; rw [t5]
  have hx : -1 ≤ x5 ∧ x5 ≤ 16 := by
    simp only [List.mem_cons, List.not_mem_nil, or_false] at m5
    omega
  have hqb : q ≠ (D 0).n := by simp at s1 ⊢; omega
  exact ⟨p, x5, frz_2 (f2 h5 (by omega) (by rw [o5 q (by omega) hqb, o4 q hqb, o3 q hqb])) frz_i, hp, hx⟩
theorem p_DrawDropSlot {l : List UInt8} (hl : l.length ≤ 1048576) : ∃ p, ∃ i : Int, pureV (call Ev) Fn.spec_DrawDropSlot [lv (bys l)] = some (.tup [.s (.fs (bys p)), .s (.int .i64 i)]) ∧ p.length ≤ 64 ∧ -1 ≤ i ∧ i ≤ 16 := by
  obtain ⟨p, i, e, h⟩ := p_l2With hl
  refine ⟨p, i, ?_, h⟩
  rw [pu_spec_DrawDropSlot, e]
  simp only [ob, gVT_t, gx0, gx1, gA1_s, gF_f, gI_i, ln0, ln1, Nat.zero_add, Nat.reduceAdd, if_true]
theorem p_DrawSetSlot {l : List UInt8} (hl : l.length ≤ 1048576) : ∃ p, ∃ i : Int, ∃ m, pureV (call Ev) Fn.spec_DrawSetSlot [lv (bys l)] = some (.tup [.s (.fs (bys p)), .s (.int .i64 i), .s (.fs (bys m))]) ∧ p.length ≤ 64 ∧ (-1 ≤ i ∧ i ≤ 16) ∧ m.length ≤ 21 := by
  obtain ⟨p, i, e, h1, h2⟩ := p_l2With hl
  rw [pu_spec_DrawSetSlot, e]
  simp only [ob, gVT_t, gx0, gx1, gA1_s, gF_f, gI_i, ln0, ln1, Nat.zero_add, Nat.reduceAdd, if_true]
  obtain ⟨K, e1, s1, u1, n1⟩ := r_later (l := l) (D 0)
  rw [e1]
  obtain ⟨q3, m, ms, h3, e3, w3, hms, hq3, d3⟩ := r_cell s1 hl (by omega)
  rw [e3]; simp only [ob, V.toA]
  rw [no_tidy_v (h := K) (h' := h3) (by simp [belV, belS]; omega)]
  have hm := w3.len
  have f3 := (w3.frz (d := 7)).2
  rw [← hm] at f3
  refine ⟨p, i, ms, ?_, h1, h2, hms⟩
  simp [frzAs, frzA, f3]
theorem p_DrawCompactPage {l : List UInt8} (hl : l.length ≤ 1048576) : ∃ p, pureV (call Ev) Fn.spec_DrawCompactPage [lv (bys l)] = some (lv (bys p)) ∧ p.length ≤ 64 := by
  rw [pu_spec_DrawCompactPage]
  obtain ⟨K, e1, s1, u1, n1⟩ := r_source (l := l) (D 0)
  rw [e1]
  obtain ⟨y, q, p, h2, e2, hp, hy, hq, hqn, t2, d2, f2⟩ := r_bent2 s1 hl (by omega)
  rw [e2]; simp only [ob]; rw [t2 _ (by simp)]
  refine ⟨p, ?_, hp⟩
  rw [frzV_s, f2 h2 (Nat.le_refl _) rfl, ob]
theorem p_DrawNewPage {l : List UInt8} (hl : l.length ≤ 1048576) : ∃ x : Int, pureV (call Ev) Fn.spec_DrawNewPage [lv (bys l)] = some (iv .u8 x) ∧ 0 ≤ x ∧ x < 256 := by
  rw [pu_spec_DrawNewPage]
  obtain ⟨K, e1, s1, u1, n1⟩ := r_source (l := l) (D 0)
  rw [e1]
  obtain ⟨x5, h5, e5, m5, w5, n5, o5, t5⟩ := r_pickN s1 hl (by omega) (xs := [0, 7, 255]) (by simp) (by simp)
  simp only [List.length_cons, List.length_nil, Nat.zero_add, Nat.reduceAdd, List.map_cons, List.map_nil] at e5 t5
  rw [e5]; simp only [ob, gV1_s, gI_i]
  have hx : 0 ≤ x5 ∧ x5 < 256 := by
    simp only [List.mem_cons, List.not_mem_nil, or_false] at m5
    omega
  exact ⟨x5, by rw [w8 hx.1 hx.2], hx⟩
end Vm
/-
  A cell's bytes, read: what both readers come to.
-/
namespace Vm
open Go

theorem w64b6 {l : List UInt8} {i : Int} : IntKind.i64.wrap (6 + bt l i) = 6 + bt l i := by
  have := bt_nn l i; have := bt_lt l i
  exact w64 (by omega) (by omega)
theorem w64b2 {l : List UInt8} {i j : Int} : IntKind.i64.wrap (IntKind.i64.wrap (bt l i * 256) + bt l j) = bt l i * 256 + bt l j := by
  have := bt_nn l i; have := bt_lt l i; have := bt_nn l j; have := bt_lt l j
  rw [w64 (n := bt l i * 256) (by omega) (by omega), w64 (by omega) (by omega)]
theorem shl8 {E : Env} {t : Nat} {l : List UInt8} {i : Int} : bin E .shl t (iv .i64 (bt l i)) (iv .u64 8) = some (iv .i64 (bt l i * 256)) := by
  have := bt_nn l i; have := bt_lt l i
  simp only [bin]
  rw [if_neg (by omega), show min (8 : Int).toNat IntKind.i64.bits = 8 from by decide, show (2 : Int) ^ 8 = 256 from by decide, w64 (by omega) (by omega)]
theorem or8 {E : Env} {t : Nat} {l : List UInt8} {i j : Int} : bin E .or t (iv .i64 (bt l i * 256)) (iv .i64 (bt l j)) = some (iv .i64 (bt l i * 256 + bt l j)) := by
  have h1 := bt_lt l i; have h2 := bt_lt l j
  unfold bt at h1 h2 ⊢
  generalize (l.getD i.toNat 0).toNat = a at *
  generalize (l.getD j.toNat 0).toNat = b at *
  have ha : a < 256 := by omega
  have hb : b < 256 := by omega
  have e : (BitVec.ofInt IntKind.i64.bits ((a : Int) * 256) ||| BitVec.ofInt IntKind.i64.bits (b : Int)).toNat = a * 256 + b := by
    rw [BitVec.toNat_or, BitVec.toNat_ofInt, BitVec.toNat_ofInt]
    have e1 : (((a : Int) * 256) % ((2 ^ IntKind.i64.bits : Nat) : Int)).toNat = a * 256 := by
      simp only [IntKind.bits]; omega
    have e2 : ((b : Int) % ((2 ^ IntKind.i64.bits : Nat) : Int)).toNat = b := by
      simp only [IntKind.bits]; omega
    rw [e1, e2]
    have := Nat.shiftLeft_add_eq_or_of_lt (i := 8) (b := b) (by omega) a
    rw [Nat.shiftLeft_eq] at this
    exact this.symm
  simp only [bin, if_true, binI, bitsI, e, Option.bind_some]
  rw [w64 (by omega) (by omega)]
  rfl

structure CellD where
  code : Int
  flag : Int
  page : Int
  slot : Int
  row : RowD
abbrev CellD.cs (c : CellD) : List S := [.int .i64 c.code, .int .i64 c.flag, .int .i64 c.page, .int .i64 c.slot, .int .i64 c.row.tab, .int .i64 c.row.key, .int .i64 c.row.val, .str c.row.text]
def noR : RowD := ⟨0, 0, 0, ⟨#[]⟩⟩
def cellRow (l : List UInt8) : RowD := ⟨bt l 1, bt l 2, bt l 3 * 256 + bt l 4, ⟨(l.drop 6).toArray⟩⟩
def isStub (l : List UInt8) : Bool := decide (l.length = 3) && bt l 0 == 1
def isCell (l : List UInt8) : Bool := decide (6 ≤ l.length) && (bt l 0 == 0 || bt l 0 == 2) && decide ((l.length : Int) = 6 + bt l 5)
/-- what stands in a cell -/
def unpC (l : List UInt8) : CellD :=
  if isStub l && (decide (bt l 1 ≤ 11) && decide (bt l 2 ≤ 15)) then ⟨0, 1, bt l 1, bt l 2, noR⟩
  else if isCell l && rowF (cellRow l) == 0 then ⟨0, bt l 0, 0, 0, cellRow l⟩ else ⟨5, 0, 0, 0, noR⟩
theorem cellRow_size {l : List UInt8} (hl : l.length ≤ lim) : (cellRow l).text.size ≤ maxLen := by
  have : (cellRow l).text.size = l.length - 6 := by simp [cellRow, ByteArray.size]
  unfold lim at hl; unfold maxLen; omega
theorem pl1F {l : List UInt8} (hl : l.length ≤ lim) : pureV (call Ev) Fn.spec_l1Fault [fv [.int .i64 (bt l 1), .int .i64 (bt l 2), .int .i64 (bt l 3 * 256 + bt l 4), .str ⟨(l.drop 6).toArray⟩] 0] = some (iv .i64 (rowF (cellRow l))) := p_l1Fault (cellRow l) (cellRow_size hl)
theorem pRF {l : List UInt8} (hl : l.length ≤ lim) : pureV (call Ev) Fn.impl_RowFault [.agg [.int .i64 (bt l 1), .int .i64 (bt l 2), .int .i64 (bt l 3 * 256 + bt l 4), .str ⟨(l.drop 6).toArray⟩]] = some (iv .i64 (rowF (cellRow l))) := p_RowFault (cellRow l) (cellRow_size hl)
theorem p_l1Place (a b : Int) : pureV (call Ev) Fn.spec_l1Place [iv .i64 a, iv .i64 b] = some (bv (inB a 0 11 && inB b 0 15)) := by
  rw [pu_spec_l1Place]
  simp only [pcallS, p_l1In, Option.bind_some, sca_v, sca_b, cond_true, gV1_s, gB_b, vcase_b]
  cases inB a 0 11 <;> cases inB b 0 15 <;> rfl
theorem p_l1Read {l : List UInt8} (hl : l.length ≤ lim) : ∃ c : CellD, ∃ b : Bool, pureV (call Ev) Fn.spec_l1Read [lv (bys l)] = some (.tup [.agg c.cs, .s (.bool b)]) ∧ unpC l = if b then c else ⟨5, 0, 0, 0, noR⟩ := by
  have hrs := cellRow_size hl
  have j0 : ∀ q, Jn.spec_l1Read_0 q (bys l) = if q = true then some (.tup [.agg (CellD.cs ⟨0, 0, 0, 0, noR⟩), .s (.bool false)]) else if 6 ≤ l.length then some (.tup [.agg (CellD.cs ⟨0, bt l 0, 0, 0, cellRow l⟩), .s (.bool (rowF (cellRow l) == 0))]) else none := by
    intro q
    unfold Jn.spec_l1Read_0
    rw [vcase_b]
    cases q
    case true => rfl
    simp only [Bool.false_eq_true, if_false]
    by_cases h6 : 6 ≤ l.length
    · simp (disch := first | omega | fail) only [idxF_by, List.getElem?_cons_zero, Option.bind_some, gI_i, w64bt, w64b2]
      rw [show iv .i64 6 = iv .i64 ((6 : Nat) : Int) from rfl, slF_lo h6, fsStr_by (by rw [List.length_drop]; omega)]
      simp only [Option.bind_some, gV1_s, gS_s, hchk_self]
      rw [hchk_of (HExt.refl _).new, pc (pl1F hl) rfl, if_pos h6]
      rfl
    · rw [if_neg h6]
      by_cases h1 : 1 < l.length
      · by_cases h2 : 2 < l.length
        · by_cases h3 : 3 < l.length
          · by_cases h4 : 4 < l.length
            · simp (disch := first | omega | fail) only [idxF_by, List.getElem?_cons_zero, Option.bind_some, gI_i]
              unfold slF
              simp only [bys_len, Option.bind_some, bnd]
              rw [if_neg (by omega)]; rfl
            · simp (disch := first | omega | (simp; omega) | fail) only [idxF_by, idxF_out, List.getElem?_cons_zero, Option.bind_some, gI_i]
          · simp (disch := first | omega | (simp; omega) | fail) only [idxF_by, idxF_out, List.getElem?_cons_zero, Option.bind_some, gI_i]
        · simp (disch := first | omega | (simp; omega) | fail) only [idxF_by, idxF_out, List.getElem?_cons_zero, Option.bind_some, gI_i]
      · simp (disch := first | omega | (simp; omega) | fail) only [idxF_by, idxF_out, List.getElem?_cons_zero, Option.bind_some, gI_i]
  have j1 : ∀ q, (q = true → l.length = 3) → ∃ c : CellD, ∃ b : Bool, Jn.spec_l1Read_1 q (bys l) = some (.tup [.agg c.cs, .s (.bool b)]) ∧ (if b = true then c else ⟨5, 0, 0, 0, noR⟩) = (if q && (decide (bt l 1 ≤ 11) && decide (bt l 2 ≤ 15)) then ⟨0, 1, bt l 1, bt l 2, noR⟩
      else if (!q) && (isCell l && rowF (cellRow l) == 0) then ⟨0, bt l 0, 0, 0, cellRow l⟩ else ⟨5, 0, 0, 0, noR⟩) := by
    intro q hq
    unfold Jn.spec_l1Read_1
    rw [vcase_b]
    have n0 := bt_nn l 0; have n1 := bt_nn l 1; have n2 := bt_nn l 2
    cases q
    case true =>
      have h3 := hq rfl
      simp (disch := first | omega | fail) only [idxF_by, List.getElem?_cons_zero, Option.bind_some, gI_i, w64bt, hchk_self, if_true]
      rw [hchk_of (HExt.refl _).new, pc (p_l1Place _ _) rfl]
      refine ⟨⟨0, 1, bt l 1, bt l 2, noR⟩, _, rfl, ?_⟩
      simp [inB, n1, n2]
    case false =>
      simp only [Bool.false_eq_true, if_false, bys_len, vcase_b]
      by_cases h6 : l.length < 6
      · rw [if_pos (by simp; omega)]
        exact ⟨⟨0, 0, 0, 0, noR⟩, _, rfl, by simp [isCell, show ¬ 6 ≤ l.length by omega]⟩
      rw [if_neg (by simp; omega)]
      simp (disch := first | omega | fail) only [idxF_by, List.getElem?_cons_zero, Option.bind_some, gI_i, w64bt, w64b6]
      by_cases h01 : bt l 0 = 1
      · rw [if_pos (by simp [h01])]
        exact ⟨⟨0, 0, 0, 0, noR⟩, _, rfl, by simp [isCell, h01]⟩
      rw [if_neg (by simpa using h01), j0, j0]
      by_cases h02 : 2 < bt l 0
      · rw [if_pos (by simpa using h02)]
        exact ⟨⟨0, 0, 0, 0, noR⟩, _, rfl, by simp [isCell, show bt l 0 ≠ 0 by omega, show bt l 0 ≠ 2 by omega]⟩
      rw [if_neg (by simpa using h02)]
      have h0 : (bt l 0 == 0 || bt l 0 == 2) = true := by simp; omega
      by_cases h5 : (l.length : Int) = 6 + bt l 5
      · rw [if_neg (by simp [← h5]), if_pos (by omega)]
        exact ⟨⟨0, bt l 0, 0, 0, cellRow l⟩, _, rfl, by simp [isCell, h0, ← h5, show 6 ≤ l.length by omega]⟩
      · rw [if_pos (by simpa using h5)]
        exact ⟨⟨0, 0, 0, 0, noR⟩, _, rfl, by simp [isCell, h5]⟩
  rw [pu_spec_l1Read, vcase_b, bys_len]
  unfold unpC isStub
  by_cases h3 : l.length = 3
  · rw [if_pos (by simp [h3]), idxF_by (by omega) (by omega)]
    simp only [List.getElem?_cons_zero, Option.bind_some, gI_i]
    obtain ⟨c, b, e1, e2⟩ := j1 (bt l 0 == 1) (fun _ => h3)
    refine ⟨c, b, e1, ?_⟩
    rw [e2]
    cases hq : bt l 0 == 1 <;> simp [h3, isCell]
  · rw [if_neg (by simp; omega)]
    obtain ⟨c, b, e1, e2⟩ := j1 false (fun h => by cases h)
    refine ⟨c, b, e1, ?_⟩
    rw [e2]
    simp [h3]
theorem p_spec_UnpackCell {l : List UInt8} (hl : l.length ≤ lim) : pureV (call Ev) Fn.spec_UnpackCell [lv (bys l)] = some (.agg (unpC l).cs) := by
  obtain ⟨c, b, e1, e2⟩ := p_l1Read hl
  rw [pu_spec_UnpackCell, pc e1 (by simp), e2]
  cases b <;> simp [noR]
theorem p_UnpackCell {l : List UInt8} (hl : l.length ≤ lim) : pureV (call Ev) Fn.impl_UnpackCell [lv (bys l)] = some (.agg (unpC l).cs) := by
  have hrs := cellRow_size hl
  have n0 := bt_nn l 0; have n1 := bt_nn l 1; have n2 := bt_nn l 2
  have j0 : ∀ q, 6 ≤ l.length → Jn.impl_UnpackCell_0 q (bys l) = some (.agg (CellD.cs (if !q && rowF (cellRow l) == 0 then ⟨0, bt l 0, 0, 0, cellRow l⟩ else ⟨5, 0, 0, 0, noR⟩))) := by
    intro q h6
    unfold Jn.impl_UnpackCell_0
    rw [vcase_b]
    cases q
    case true => rfl
    simp (disch := first | omega | fail) only [idxF_by, List.getElem?_cons_zero, Option.bind_some, gI_i, w64bt, shl8, or8, gV1_s, Bool.false_eq_true, if_false]
    rw [show iv .i64 6 = iv .i64 ((6 : Nat) : Int) from rfl, slF_lo h6, fsStr_by (by rw [List.length_drop]; omega)]
    simp only [Option.bind_some, gV1_s, gS_s]
    rw [hchk_of (HExt.refl _).new, pc (pRF hl) rfl]
    simp only [gV1_s, gI_i, vcase_b]
    cases hf : rowF (cellRow l) == 0
    · rw [if_pos (by simpa using hf)]; rfl
    · rw [if_neg (by simpa using hf)]; rfl
  have j1t : Jn.impl_UnpackCell_1 true (bys l) = some (.agg (CellD.cs ⟨5, 0, 0, 0, noR⟩)) := by
    unfold Jn.impl_UnpackCell_1 Jn.impl_UnpackCell_0; rfl
  have j1f : 6 ≤ l.length → (bt l 0 == 0 || bt l 0 == 2) = true → Jn.impl_UnpackCell_1 false (bys l) = some (.agg (CellD.cs (if isCell l && rowF (cellRow l) == 0 then ⟨0, bt l 0, 0, 0, cellRow l⟩ else ⟨5, 0, 0, 0, noR⟩))) := by
    intro h6 h0
    unfold Jn.impl_UnpackCell_1
    rw [vcase_b, if_neg (by simp), idxF_by (by omega) (by omega)]
    simp only [List.getElem?_cons_zero, Option.bind_some, gI_i, w64bt, w64b6, bys_len]
    rw [j0 _ h6]
    by_cases h5 : (l.length : Int) = 6 + bt l 5
    · simp [isCell, h0, h5, h6]
    · simp [isCell, h0, h5, h6]
  have tail : ∀ (h3 : isStub l = false ∨ ¬ (bt l 1 ≤ 11 ∧ bt l 2 ≤ 15)), (vcase (bv (decide (((bys l).length : Int) < 6)))
      (Jn.impl_UnpackCell_1 true (bys l))
      (idxF 1 (bys l) 0 fun r401 =>
      (r401[0]?).bind fun x402 =>
      gI .u8 x402 fun i403 =>
      vcase (bv (i403 != 0))
      (idxF 1 (bys l) 0 fun r405 =>
      (r405[0]?).bind fun x406 =>
      gI .u8 x406 fun i407 =>
      Jn.impl_UnpackCell_1 (i407 != 2) (bys l))
      (Jn.impl_UnpackCell_1 false (bys l)))) = some (.agg (unpC l).cs) := by
    intro h3
    have hu : unpC l = if isCell l && rowF (cellRow l) == 0 then ⟨0, bt l 0, 0, 0, cellRow l⟩ else ⟨5, 0, 0, 0, noR⟩ := by
      unfold unpC
      rw [if_neg]
      rcases h3 with h3 | h3
      · simp [h3]
      · simp; intro _ a; have := fun b => h3 ⟨a, b⟩; omega
    rw [vcase_b, bys_len, hu]
    by_cases h6 : l.length < 6
    · rw [if_pos (by simp; omega), j1t]
      simp [isCell, show ¬ 6 ≤ l.length by omega]
    rw [if_neg (by simp; omega), idxF_by (by omega) (by omega)]
    simp only [List.getElem?_cons_zero, Option.bind_some, gI_i, vcase_b]
    by_cases h00 : bt l 0 = 0
    · rw [if_neg (by simp [h00]), j1f (by omega) (by simp [h00])]
    rw [if_pos (by simpa using h00), idxF_by (by omega) (by omega)]
    simp only [List.getElem?_cons_zero, Option.bind_some, gI_i, vcase_b]
    by_cases h02 : bt l 0 = 2
    · rw [show (bt l 0 != 2) = false from by simp [h02], j1f (by omega) (by simp [h02])]
    · rw [show (bt l 0 != 2) = true from by simp [h02], j1t]
      simp [isCell, h00, h02]
  have j2 : ∀ q, (q = (isStub l && decide (bt l 1 < 12))) → Jn.impl_UnpackCell_2 q (bys l) = some (.agg (unpC l).cs) := by
    intro q hq
    unfold Jn.impl_UnpackCell_2
    rw [vcase_b]
    cases q
    case false =>
      rw [if_neg (by simp)]
      refine tail ?_
      cases hs : isStub l
      · exact .inl rfl
      · rw [hs] at hq
        simp only [Bool.true_and] at hq
        have := of_decide_eq_false hq.symm
        exact .inr (by omega)
    case true =>
      rw [if_pos rfl]
      have hq' := hq.symm
      simp only [Bool.and_eq_true, decide_eq_true_eq] at hq'
      have hs := hq'.1
      unfold isStub at hs
      simp only [Bool.and_eq_true, decide_eq_true_eq] at hs
      rw [idxF_by (by omega) (by omega)]
      simp only [List.getElem?_cons_zero, Option.bind_some, gI_i]
      by_cases h2 : bt l 2 < 16
      · rw [vcase_b, if_pos (by simpa using h2)]
        simp (disch := first | omega | fail) only [idxF_by, List.getElem?_cons_zero, Option.bind_some, gI_i, w64bt]
        unfold unpC
        rw [if_pos (by rw [hq'.1]; simp; omega)]
        rfl
      · rw [vcase_b, if_neg (by simpa using h2)]
        exact tail (.inr (by omega))
  rw [pu_impl_UnpackCell, vcase_b]
  by_cases h3 : l.length = 3
  · rw [if_pos (by simp [h3]), idxF_by (by omega) (by omega)]
    simp only [List.getElem?_cons_zero, Option.bind_some, gI_i, vcase_b]
    by_cases h1 : bt l 0 = 1
    · rw [if_pos (by simp [h1]), idxF_by (by omega) (by omega)]
      simp only [List.getElem?_cons_zero, Option.bind_some, gI_i]
      exact j2 _ (by simp [isStub, h3, h1])
    · rw [if_neg (by simpa using h1)]
      exact j2 _ (by simp [isStub, h1])
  · rw [if_neg (by simp; omega)]
    exact tail (.inl (by simp [isStub, h3]))
end Vm
/-
  Cells packed: what both ways come to, and that a cell is read back as what it was made of.
-/
namespace Vm
open Go
def o8 (x : Int) : UInt8 := UInt8.ofNat x.toNat
theorem o8_n {x : Int} (h0 : 0 ≤ x) (h1 : x < 256) : ((o8 x).toNat : Int) = x := by
  unfold o8; simp; omega
theorem o8_c {x : Int} (h0 : 0 ≤ x) (h1 : x < 256) : S.int .u8 x = cell8 (o8 x) := by
  unfold cell8; rw [o8_n h0 h1]
theorem rowF_0 {r : RowD} (h : rowF r = 0) : (0 ≤ r.tab ∧ r.tab ≤ 3) ∧ (1 ≤ r.key ∧ r.key ≤ 99) ∧ (0 ≤ r.val ∧ r.val ≤ 999) ∧ r.text.size ≤ 8 ∧ allLow r.text 0 = true := by
  unfold rowF at h
  cases a : inB r.tab 0 3 <;> cases b : inB r.key 1 99 <;> cases c : inB r.val 0 999 <;> simp [a, b, c] at h
  exact ⟨inB_iff.1 a, inB_iff.1 b, inB_iff.1 c, h⟩
def packL (f : Int) (r : RowD) : List UInt8 := [o8 f, o8 r.tab, o8 r.key, o8 (r.val / 256), o8 (r.val % 256), o8 r.text.size] ++ r.text.data.toList
theorem packL_len (f : Int) (r : RowD) : (packL f r).length = 6 + r.text.size := by
  simp [packL]; omega
theorem w8m {n : Int} (h : 0 ≤ n) : IntKind.u8.wrap n = n % 256 := by
  simp [IntKind.wrap, IntKind.signed, IntKind.bits]
theorem bin_shr8 {t : Nat} {a : Int} (h : 0 ≤ a) : bin Ev .shr t (iv .i64 a) (iv .u64 8) = some (iv .i64 (a / 256)) := by
  simp only [bin]
  rw [if_neg (by omega), show min (8 : Int).toNat IntKind.i64.bits = 8 from by decide, show (2 : Int) ^ 8 = 256 from by decide, Int.fdiv_eq_ediv_of_nonneg a (by omega)]
theorem app_str {h : H} {v : V} {l : List UInt8} {s : ByteArray} {b : Nat} (w : BysW h v l b) (hm : l.length + s.size ≤ lim) :
    appS 1 h v (.s (.str s)) = some (sv h.n 0 (l ++ s.data.toList).length, (h.put b .dead).new 1 ((l ++ s.data.toList).map cell8)) := by
  have h1 := cellsS_w w
  obtain ⟨rfl, w2, w3⟩ := w
  have h2 : cellsS 1 h (.s (.str s)) = some (s.data.toList.map cell8) := by
    simp only [cellsS]; rfl
  simp only [appS, h1, h2, Option.bind_some, lenS]
  rw [if_pos ⟨w2, hm, by omega⟩, w3]
  simp
theorem app_bw {h : H} {v u : V} {l m : List UInt8} {b c : Nat} (w : BysW h v l b) (w' : BysW h u m c) (hm : l.length + m.length ≤ lim) :
    appS 1 h v u = some (sv h.n 0 (l ++ m).length, (h.put b .dead).new 1 ((l ++ m).map cell8)) := by
  have h1 := cellsS_w w
  have h2 := cellsS_w w'
  obtain ⟨rfl, w2, w3⟩ := w
  have h3 : lenS u = some m.length := by rw [w'.v]; rfl
  simp only [appS, h1, h2, Option.bind_some, h3]
  rw [if_pos ⟨w2, hm, by omega⟩, w3]
  simp
section
variable {f : Int} {r : RowD} (h0 : 0 ≤ f) (h1 : f < 256) (hr : rowF r = 0)
include h0 h1 hr
theorem six : [S.int .u8 (IntKind.u8.wrap f), .int .u8 (IntKind.u8.wrap r.tab), .int .u8 (IntKind.u8.wrap r.key), .int .u8 (IntKind.u8.wrap (r.val / 256)), .int .u8 (IntKind.u8.wrap r.val), .int .u8 (IntKind.u8.wrap (r.text.size : Int))] = [o8 f, o8 r.tab, o8 r.key, o8 (r.val / 256), o8 (r.val % 256), o8 r.text.size].map cell8 := by
  obtain ⟨a, b, c, d, _⟩ := rowF_0 hr
  rw [w8 h0 h1, w8 (n := r.tab) (by omega) (by omega), w8 (n := r.key) (by omega) (by omega), w8 (n := r.val / 256) (by omega) (by omega), w8m (n := r.val) (by omega), w8 (n := (r.text.size : Int)) (by omega) (by omega)]
  rw [o8_c h0 h1, o8_c (x := r.tab) (by omega) (by omega), o8_c (x := r.key) (by omega) (by omega), o8_c (x := r.val / 256) (by omega) (by omega), o8_c (x := r.val % 256) (by omega) (by omega), o8_c (x := (r.text.size : Int)) (by omega) (by omega)]
  rfl
theorem p_cell : pureV (call Ev) Fn.impl_cell [iv .i64 f, .agg r.cs] = some (lv (bys (packL f r))) := by
  obtain ⟨a, b, c, d, _⟩ := rowF_0 hr
  rw [pu_impl_cell, bin_shr8 (by omega), ob]
  simp only [gV1_s, gI_i]
  rw [six h0 h1 hr]
  have w : BysW (((D 0).new 0 [.int .i64 r.tab, .int .i64 r.key, .int .i64 r.val, .str r.text]).new 1 ([o8 f, o8 r.tab, o8 r.key, o8 (r.val / 256), o8 (r.val % 256), o8 r.text.size].map cell8)) (sv 1 0 6) [o8 f, o8 r.tab, o8 r.key, o8 (r.val / 256), o8 (r.val % 256), o8 r.text.size] 1 := ⟨rfl, by simp, new_g ((D 0).new 0 [.int .i64 r.tab, .int .i64 r.key, .int .i64 r.val, .str r.text]) _ _⟩
  rw [app_str w (by unfold lim; simp; omega), ob]
  exact frz1 (ob := some _) (app_own (l := [o8 f, o8 r.tab, o8 r.key, o8 (r.val / 256), o8 (r.val % 256), o8 r.text.size]))
theorem f_l1Cell (n : Nat) : ∃ h', call Ev Fn.spec_l1Cell [iv .i64 f, fv r.cs 0] (D n) = some (sv (n + 2) 0 (packL f r).length, h') ∧ NewB n h' (sv (n + 2) 0 (packL f r).length) (packL f r) (some (n + 2)) := by
  obtain ⟨a, b, c, d, _⟩ := rowF_0 hr
  rw [eq_spec_l1Cell, bin_quo (by omega) (by omega) (by omega), ob]
  simp only [gV1_s, gI_i]
  rw [bin_rem (by omega) (by omega), ob]
  simp only [gV1_s, gI_i]
  have e : IntKind.u8.wrap (r.val % 256) = IntKind.u8.wrap r.val := by rw [w8m (by omega), w8m (by omega)]; omega
  rw [hchk_of ((HExt.refl _).new), e, six h0 h1 hr]
  generalize hl6 : [o8 f, o8 r.tab, o8 r.key, o8 (r.val / 256), o8 (r.val % 256), o8 r.text.size] = l6
  have n6 : l6.length = 6 := by rw [← hl6]; rfl
  have hp : packL f r = l6 ++ r.text.data.toList := by unfold packL; rw [hl6]
  have e2 : cvBytes ((D n).new 1 (l6.map cell8)) (.s (.str r.text)) = some (sv (n + 1) 0 r.text.size, ((D n).new 1 (l6.map cell8)).new 1 (r.text.data.toList.map cell8)) := by
    simp only [cvBytes]
    rw [if_pos (by unfold lim; omega)]
    rfl
  rw [e2, ob]
  dsimp only
  have wa : BysW (((D n).new 1 (l6.map cell8)).new 1 (r.text.data.toList.map cell8)) (sv n 0 6) l6 n := ⟨by rw [n6], by simp; omega, by rw [new_g' (by simp)]; exact new_g (D n) _ _⟩
  have wb : BysW (((D n).new 1 (l6.map cell8)).new 1 (r.text.data.toList.map cell8)) (sv (n + 1) 0 r.text.size) r.text.data.toList (n + 1) := ⟨by simp, by simp, new_g ((D n).new 1 (l6.map cell8)) _ _⟩
  rw [D_n, app_bw wa wb (by rw [n6]; unfold lim; simp; omega), ob, hp]
  have wo := app_own (h := ((D n).new 1 (l6.map cell8)).new 1 (r.text.data.toList.map cell8)) (b := n) (l := l6) (m := r.text.data.toList)
  refine ⟨_, rfl, wo, by simp; omega, fun b hb => by cases hb; omega, fun b h2 h3 s hs => ?_⟩
  have key : ∀ (x : List UInt8), s ∈ x.map cell8 → scaS s = true := fun x hx => by
    obtain ⟨c, _, rfl⟩ := List.mem_map.1 hx
    rfl
  simp only [new_n, put_n, D_n] at h3
  by_cases b2 : b = n + 2
  · subst b2
    have hs' := (congrArg (fun x => s ∈ Blk.cells x) wo.g).mp hs
    exact key _ hs'
  · rw [new_g' (by simp; omega)] at hs
    by_cases b0 : b = n
    · subst b0
      rw [put_g] at hs
      simp [Blk.cells] at hs
    · have b1 : b = n + 1 := by omega
      rw [put_g' b0, b1] at hs
      have hs' := (congrArg (fun x => s ∈ Blk.cells x) wb.g).mp hs
      exact key _ hs'
end
def pkC (f : Int) (r : RowD) : Int := if f = 0 ∨ f = 2 then rowF r else 1
def pkL (f : Int) (r : RowD) : List UInt8 := if pkC f r = 0 then packL f r else []
theorem pkC_0 {f : Int} {r : RowD} (h : pkC f r = 0) : (f = 0 ∨ f = 2) ∧ rowF r = 0 ∧ pkL f r = packL f r := by
  have h' := h
  unfold pkC at h'
  by_cases hf : f = 0 ∨ f = 2
  · rw [if_pos hf] at h'
    exact ⟨hf, h', by unfold pkL; rw [if_pos h]⟩
  · rw [if_neg hf] at h'; simp at h'
theorem p_PackRow {f : Int} {r : RowD} (hs : r.text.size ≤ maxLen) : pureV (call Ev) Fn.impl_PackRow [iv .i64 f, .agg r.cs] = some (.agg [.int .i64 (pkC f r), .fs (bys (pkL f r))]) := by
  have main : f = 0 ∨ f = 2 → (pcallS (call Ev) Fn.impl_RowFault [V.agg r.cs] fun v105 =>
      gV1 v105 fun x106 => gI .i64 x106 fun i107 => vcase (bv (i107 != 0)) (some (V.agg [.int .i64 i107, .fs []]))
      ((pureV (call Ev) Fn.impl_cell [iv .i64 f, V.agg r.cs]).bind fun v109 => gV1 v109 fun x110 => gF x110 fun z111 => some (V.agg [.int .i64 0, .fs z111]))) = some (V.agg [.int .i64 (pkC f r), .fs (bys (pkL f r))]) := fun hf => by
    rw [pc (p_RowFault r hs) rfl]
    simp only [gV1_s, gI_i]
    rw [vcase_b]
    have hc : pkC f r = rowF r := by unfold pkC; rw [if_pos hf]
    unfold pkL
    rw [hc]
    by_cases h : rowF r = 0
    · rw [if_neg (by simp [h]), if_pos h, p_cell (by omega) (by omega) h, ob, h]
      simp only [gV1_s, gF_f]
    · rw [if_pos (by simpa using h), if_neg h]; rfl
  rw [pu_impl_PackRow, vcase_b, vcase_b]
  by_cases h0 : f = 0
  · rw [if_neg (by simp [h0])]; exact main (.inl h0)
  · rw [if_pos (by simpa using h0)]
    by_cases h2 : f = 2
    · rw [if_neg (by simp [h2])]; exact main (.inr h2)
    · rw [if_pos (by simpa using h2)]
      unfold pkL pkC
      rw [if_neg (by omega)]; rfl
theorem p_spec_PackRow {f : Int} {r : RowD} (hs : r.text.size ≤ maxLen) : pureV (call Ev) Fn.spec_PackRow [iv .i64 f, .agg r.cs] = some (.agg [.int .i64 (pkC f r), .fs (bys (pkL f r))]) := by
  have J : ∀ q : Bool, (q = false ↔ (f = 0 ∨ f = 2)) → Jn.spec_PackRow_0 q r.tab r.key r.val r.text f = some (.agg [.int .i64 (pkC f r), .fs (bys (pkL f r))]) := fun q hq => by
    unfold Jn.spec_PackRow_0
    rw [vcase_b]
    cases q
    case true =>
      have hn : ¬ (f = 0 ∨ f = 2) := fun hh => by simpa using hq.2 hh
      rw [if_pos rfl]
      unfold pkL pkC
      rw [if_neg hn]; rfl
    have hf := hq.1 rfl
    have hc : pkC f r = rowF r := by unfold pkC; rw [if_pos hf]
    rw [if_neg (by simp), pc (p_l1Fault r hs) rfl]
    simp only [gV1_s, gI_i]
    rw [vcase_b]
    unfold pkL
    rw [hc]
    by_cases h : rowF r = 0
    · rw [if_neg (by simp [h]), if_pos h, h]
      generalize hG : ((D 0).new 0 [.int .i64 r.tab, .int .i64 r.key, .int .i64 r.val, .str r.text]).new 0 [.int .i64 0, .sl none 0] = G
      have gn : G.n = 2 := by rw [← hG]; simp
      have gg : G.g 1 = .rw 0 [.int .i64 0, .sl none 0] := by rw [← hG]; exact new_g ((D 0).new 0 [.int .i64 r.tab, .int .i64 r.key, .int .i64 r.val, .str r.text]) _ _
      obtain ⟨h5, e5, w5⟩ := f_l1Cell (f := f) (by omega) (by omega) h G.n
      rw [pF (h := G) e5 ⟨rfl, w5.z⟩]
      have u5 := up_over (h := G) w5.le
      have w6 : BysW (G.over h5) (sv (G.n + 2) 0 (packL f r).length) (packL f r) (G.n + 2) := by
        have ww : BysW h5 (sv (G.n + 2) 0 (packL f r).length) (packL f r) (G.n + 2) := w5.own
        exact ⟨ww.v, by rw [over_n w5.le]; exact ww.n, by rw [over_ge (by omega)]; exact ww.g⟩
      generalize G.over h5 = K at u5 w6 ⊢
      have hu := u5.n
      have gk : K.g 1 = .rw 0 [.int .i64 0, .sl none 0] := (u5.g 1 (by omega)).trans gg
      simp only [cellsK, isNo, cond_false, ln0, ln1, Nat.zero_add, Nat.reduceAdd, Nat.le_refl, and_self, if_true]
      rw [show setAt [.int .i64 0, .sl none 0] 1 [S.sl (some (G.n + 2, 0)) (packL f r).length] = [.int .i64 0, .sl (some (G.n + 2, 0)) (packL f r).length] from rfl]
      simp only [gx0, gx1, ob, gI_i, ln0, ln1, Nat.zero_add, Nat.reduceAdd, if_true]
      rw [stK_rw (z := 2) (e := 0) (o := 0) (b := 1) (cs := [.int .i64 0, .sl none 0]) (r := [.int .i64 0, .sl (some (G.n + 2, 0)) (packL f r).length]) (by omega) gk (.inr rfl) rfl (by simp)]
      rw [show setAt [.int .i64 0, .sl none 0] 0 [.int .i64 0, S.sl (some (G.n + 2, 0)) (packL f r).length] = [.int .i64 0, .sl (some (G.n + 2, 0)) (packL f r).length] from rfl]
      rw [loadN_2 (b := 1) (e := 0) (by rw [put_n]; omega) (put_g _ _ _), ob]
      have w7 : BysW (K.put 1 (.rw 0 [.int .i64 0, .sl (some (G.n + 2, 0)) (packL f r).length])) (sv (G.n + 2) 0 (packL f r).length) (packL f r) (G.n + 2) := ⟨rfl, by rw [put_n]; exact w6.n, by rw [put_g' (by omega)]; exact w6.g⟩
      exact Vm.frz2 (ob := some (G.n + 2)) w7
    · rw [if_pos (by simpa using h), if_neg h]; rfl
  rw [pu_spec_PackRow, vcase_b]
  by_cases h0 : f = 0
  · rw [if_neg (by simp [h0])]; exact J _ (by simp [h0])
  · rw [if_pos (by simpa using h0)]; exact J _ (by simp [h0])
def stC (a b : Int) : Int := if inB a 0 11 && inB b 0 15 then 0 else 3
def stL (a b : Int) : List UInt8 := if inB a 0 11 && inB b 0 15 then [1, o8 a, o8 b] else []
theorem st_bys {a b : Int} (h : (inB a 0 11 && inB b 0 15) = true) : [[S.int .u8 1], [.int .u8 (IntKind.u8.wrap a)], [.int .u8 (IntKind.u8.wrap b)]] = bys [1, o8 a, o8 b] := by
  rw [Bool.and_eq_true, inB_iff, inB_iff] at h
  rw [w8 (n := a) (by omega) (by omega), w8 (n := b) (by omega) (by omega), o8_c (x := a) (by omega) (by omega), o8_c (x := b) (by omega) (by omega)]
  rfl
theorem p_PackStub {a b : Int} : pureV (call Ev) Fn.impl_PackStub [iv .i64 a, iv .i64 b] = some (.agg [.int .i64 (stC a b), .fs (bys (stL a b))]) := by
  rw [pu_impl_PackStub, pc (p_in _ _ _) rfl]
  simp only [gV1_s, gB_b]
  rw [vcase_b]
  unfold stC stL
  cases h1 : inB a 0 11
  · simp [bys]
  rw [if_neg (by simp), pc (p_in _ _ _) rfl]
  simp only [gV1_s, gB_b]
  rw [vcase_b]
  cases h2 : inB b 0 15
  · simp [bys]
  rw [if_neg (by simp), pu_impl_stub, ob]
  simp only [gV1_s, gF_f]
  rw [st_bys (by simp [h1, h2])]
  simp
theorem p_spec_PackStub {a b : Int} : pureV (call Ev) Fn.spec_PackStub [iv .i64 a, iv .i64 b] = some (.agg [.int .i64 (stC a b), .fs (bys (stL a b))]) := by
  rw [pu_spec_PackStub, pc (p_l1Place _ _) rfl]
  simp only [gV1_s, gB_b]
  rw [vcase_b]
  unfold stC stL
  cases h : (inB a 0 11 && inB b 0 15)
  · simp [bys]
  rw [if_neg (by simp), pu_spec_l1Stub, ob]
  simp only [gV1_s, gF_f]
  rw [st_bys h]
  simp
/-! read back -/
theorem bt_c0 {c : UInt8} {l : List UInt8} : bt (c :: l) 0 = (c.toNat : Int) := rfl
theorem bt_cs {c : UInt8} {l : List UInt8} {i : Nat} : bt (c :: l) ((i + 1 : Nat) : Int) = bt l (i : Int) := by
  unfold bt; simp
theorem unp_pack {f : Int} {r : RowD} (hf : f = 0 ∨ f = 2) (hr : rowF r = 0) : unpC (packL f r) = ⟨0, f, 0, 0, r⟩ := by
  obtain ⟨a, b, c, d, _⟩ := rowF_0 hr
  have hl := packL_len f r
  have b0 : bt (packL f r) 0 = f := by
    show ((o8 f).toNat : Int) = f
    exact o8_n (by omega) (by omega)
  have b1 : bt (packL f r) 1 = r.tab := o8_n (x := r.tab) (by omega) (by omega)
  have b2 : bt (packL f r) 2 = r.key := o8_n (x := r.key) (by omega) (by omega)
  have b3 : bt (packL f r) 3 = r.val / 256 := o8_n (x := r.val / 256) (by omega) (by omega)
  have b4 : bt (packL f r) 4 = r.val % 256 := o8_n (x := r.val % 256) (by omega) (by omega)
  have b5 : bt (packL f r) 5 = (r.text.size : Int) := o8_n (x := (r.text.size : Int)) (by omega) (by omega)
  have hc : cellRow (packL f r) = r := by
    unfold cellRow
    rw [b1, b2, b3, b4, show r.val / 256 * 256 + r.val % 256 = r.val from by omega]
    have : (packL f r).drop 6 = r.text.data.toList := by simp [packL]
    rw [this]
  unfold unpC
  have hs : isStub (packL f r) = false := by unfold isStub; simp; intro hh; omega
  have hi : isCell (packL f r) = true := by
    unfold isCell
    rw [b0, b5, hl]
    rcases hf with rfl | rfl <;> simp
  rw [hs, hi, hc, hr, b0]
  simp
theorem unp_stub {a b : Int} (h : (inB a 0 11 && inB b 0 15) = true) : unpC [1, o8 a, o8 b] = ⟨0, 1, a, b, noR⟩ := by
  rw [Bool.and_eq_true, inB_iff, inB_iff] at h
  have b0 : bt [1, o8 a, o8 b] 0 = 1 := rfl
  have b1 : bt [1, o8 a, o8 b] 1 = a := o8_n (x := a) (by omega) (by omega)
  have b2 : bt [1, o8 a, o8 b] 2 = b := o8_n (x := b) (by omega) (by omega)
  unfold unpC isStub
  rw [b0, b1, b2, if_pos (by simp; omega)]
theorem o8_bt {l : List UInt8} {i : Nat} (h : i < l.length) : o8 (bt l (i : Int)) = l[i] := by
  unfold o8 bt
  simp only [Int.toNat_natCast, List.getD, List.getElem?_eq_getElem h, Option.getD_some]
  simp
/-- what was read is packed to the same bytes -/
theorem pack_unp {l : List UInt8} (h : (unpC l).code = 0) : ((unpC l).flag = 1 ∧ (inB (unpC l).page 0 11 && inB (unpC l).slot 0 15) = true ∧ l = [1, o8 (unpC l).page, o8 (unpC l).slot]) ∨ ((unpC l).flag ≠ 1 ∧ ((unpC l).flag = 0 ∨ (unpC l).flag = 2) ∧ rowF (unpC l).row = 0 ∧ l = packL (unpC l).flag (unpC l).row) := by
  unfold unpC at h ⊢
  by_cases h1 : (isStub l && (decide (bt l 1 ≤ 11) && decide (bt l 2 ≤ 15))) = true
  · rw [if_pos h1]
    simp only [Bool.and_eq_true, decide_eq_true_eq, isStub, beq_iff_eq] at h1
    obtain ⟨⟨h3, h0⟩, h11, h15⟩ := h1
    have n1 := bt_nn l 1
    have n2 := bt_nn l 2
    refine .inl ⟨rfl, by simp [inB]; omega, ?_⟩
    match l, h3 with
    | [x, y, z], _ =>
      have e0 : x = 1 := by
        have := o8_bt (l := [x, y, z]) (i := 0) (by simp)
        rw [show ((0 : Nat) : Int) = 0 from rfl, h0] at this
        exact this.symm
      have e1 := o8_bt (l := [x, y, z]) (i := 1) (by simp)
      have e2 := o8_bt (l := [x, y, z]) (i := 2) (by simp)
      simp only [List.cons.injEq, and_true]
      exact ⟨e0, e1.symm, e2.symm⟩
  · rw [if_neg h1] at h ⊢
    by_cases h2 : (isCell l && rowF (cellRow l) == 0) = true
    · rw [if_pos h2] at h ⊢
      simp only [Bool.and_eq_true, beq_iff_eq, isCell, decide_eq_true_eq, Bool.or_eq_true] at h2
      obtain ⟨⟨⟨h6, h0⟩, hl⟩, hr⟩ := h2
      refine .inr ⟨by dsimp only; omega, h0, hr, ?_⟩
      dsimp only
      match l, h6 with
      | x0 :: x1 :: x2 :: x3 :: x4 :: x5 :: t, _ =>
        have e0 := o8_bt (l := x0 :: x1 :: x2 :: x3 :: x4 :: x5 :: t) (i := 0) (by simp)
        have e1 := o8_bt (l := x0 :: x1 :: x2 :: x3 :: x4 :: x5 :: t) (i := 1) (by simp)
        have e2 := o8_bt (l := x0 :: x1 :: x2 :: x3 :: x4 :: x5 :: t) (i := 2) (by simp)
        have e3 := o8_bt (l := x0 :: x1 :: x2 :: x3 :: x4 :: x5 :: t) (i := 3) (by simp)
        have e4 := o8_bt (l := x0 :: x1 :: x2 :: x3 :: x4 :: x5 :: t) (i := 4) (by simp)
        have e5 := o8_bt (l := x0 :: x1 :: x2 :: x3 :: x4 :: x5 :: t) (i := 5) (by simp)
        have n3 := bt_lt (x0 :: x1 :: x2 :: x3 :: x4 :: x5 :: t) 4
        have m3 := bt_nn (x0 :: x1 :: x2 :: x3 :: x4 :: x5 :: t) 4
        have m4 := bt_nn (x0 :: x1 :: x2 :: x3 :: x4 :: x5 :: t) 3
        unfold packL cellRow
        dsimp only
        have q1 : (bt (x0 :: x1 :: x2 :: x3 :: x4 :: x5 :: t) 3 * 256 + bt (x0 :: x1 :: x2 :: x3 :: x4 :: x5 :: t) 4) / 256 = bt (x0 :: x1 :: x2 :: x3 :: x4 :: x5 :: t) 3 := by omega
        have q2 : (bt (x0 :: x1 :: x2 :: x3 :: x4 :: x5 :: t) 3 * 256 + bt (x0 :: x1 :: x2 :: x3 :: x4 :: x5 :: t) 4) % 256 = bt (x0 :: x1 :: x2 :: x3 :: x4 :: x5 :: t) 4 := by omega
        have q3 : (((⟨((x0 :: x1 :: x2 :: x3 :: x4 :: x5 :: t).drop 6).toArray⟩ : ByteArray).size : Nat) : Int) = bt (x0 :: x1 :: x2 :: x3 :: x4 :: x5 :: t) 5 := by
          have : (⟨((x0 :: x1 :: x2 :: x3 :: x4 :: x5 :: t).drop 6).toArray⟩ : ByteArray).size = t.length := by simp [ByteArray.size]
          rw [this]
          simp only [List.length_cons] at hl
          omega
        rw [q1, q2, q3]
        simp only [List.cons_append, List.nil_append, List.cons.injEq]
        exact ⟨e0.symm, e1.symm, e2.symm, e3.symm, e4.symm, e5.symm, by simp⟩
    · rw [if_neg h2] at h; simp at h
end Vm
/-
  What is drawn out of bytes: cells, rows that may have a fault.
-/
namespace Vm
open Go
theorem bent_end {X : H} {A B : Nat} {a b c d : S} {x y z : Int} {t : ByteArray} (hA : A < X.n) (hB : B < X.n) (gA : X.g A = .rw 0 [a, b, c, d]) (gB : X.g B = .rw 0 [.int .i64 x, .int .i64 y, .int .i64 z, .str t]) :
    ((loadN 4 X (pv B 0)).bind fun c140 =>
      (c140[0]?).bind fun x141 =>
      gI .i64 x141 fun i142 =>
      (c140[1]?).bind fun x143 =>
      gI .i64 x143 fun i144 =>
      (c140[2]?).bind fun x145 =>
      gI .i64 x145 fun i146 =>
      (c140[3]?).bind fun x147 =>
      gS x147 fun y148 =>
      if c140.length = 4 then
      stK 4 X (pv A 0) (.agg [.int .i64 i142, .int .i64 i144, .int .i64 i146, .str y148]) fun h149 =>
      (loadN 4 h149 (pv A 0)).bind fun c150 =>
      some (V.agg c150, h149)
      else none) = some (V.agg [.int .i64 x, .int .i64 y, .int .i64 z, .str t], X.put A (.rw 0 [.int .i64 x, .int .i64 y, .int .i64 z, .str t])) := by
  rw [ld4_at hB gB]
  simp only [gx0, gx1, ob, gI_i, gS_s, ln0, ln1, Nat.zero_add, Nat.reduceAdd, if_true]
  rw [st4_at hA gA, ld4_at (by rw [put_n]; exact hA) (put_g _ _ _), ob]
def bnT : List ByteArray := [⟨#[65]⟩, ⟨#[97, 98, 99, 100, 101, 102, 103, 104, 105]⟩, ⟨#[97, 32, 98]⟩]
theorem bnT_ok {t : ByteArray} (h : t ∈ bnT) : t.size ≤ 9 := by
  simp only [bnT, List.mem_cons, List.not_mem_nil, or_false] at h
  rcases h with rfl | rfl | rfl <;> decide
/-- a row that may have a fault: its numbers and its text are small -/
structure RowD.small (r : RowD) : Prop where
  t : -1 ≤ r.tab ∧ r.tab ≤ 4
  k : 0 ≤ r.key ∧ r.key ≤ 100
  v : -1 ≤ r.val ∧ r.val ≤ 1000
  s : r.text.size ≤ 9
theorem r_bentRow {b : Nat} {l : List UInt8} {a : Nat} {h : H} (w : Src b l a h) (hl : l.length ≤ 1048576) (ha : a + 20 < 1099511627776) :
    ∃ (r : RowD) (h' : H), call Ev Fn.spec_l1Bent [pv b 0] h = some (.agg r.cs, h') ∧ r.small ∧ Dr b l a 10 h h' := by
  have hb := w.n
  rw [eq_spec_l1Bent]
  have w0 : Src b l a (h.new 0 [.int .i64 0, .int .i64 0, .int .i64 0, .str ⟨#[]⟩]) := w.up up_new
  have g0 : (h.new 0 [.int .i64 0, .int .i64 0, .int .i64 0, .str ⟨#[]⟩]).g h.n = .rw 0 [.int .i64 0, .int .i64 0, .int .i64 0, .str ⟨#[]⟩] := new_g _ _ _
  have k0 : ∀ c, c < h.n → c ≠ b → (h.new 0 [.int .i64 0, .int .i64 0, .int .i64 0, .str ⟨#[]⟩]).g c = h.g c := fun c hc _ => new_g' (by omega)
  have n0 : (h.new 0 [.int .i64 0, .int .i64 0, .int .i64 0, .str ⟨#[]⟩]).n = h.n + 1 := new_n _ _ _
  generalize h.new 0 [.int .i64 0, .int .i64 0, .int .i64 0, .str ⟨#[]⟩] = A at w0 g0 k0 n0 ⊢
  obtain ⟨r, h1, e1, hr, d1⟩ := r_draw w0 hl (by omega)
  obtain ⟨q1, q2, q3, q4, q5⟩ := rowF_0 hr
  rw [e1]
  simp only [ob, gVA_a, gx0, gx1, gI_i, gS_s, ln0, ln1, Nat.zero_add, Nat.reduceAdd, if_true]
  have d1t := d1.tidy (by omega) [V.agg r.cs]
  generalize Vm.tidy A [V.agg r.cs] h1 = T at d1t ⊢
  obtain ⟨a1, s1, ha1⟩ := d1t.ex
  have hTn := d1t.n
  have gT : T.g h.n = .rw 0 [.int .i64 0, .int .i64 0, .int .i64 0, .str ⟨#[]⟩] := (d1t.o h.n (by omega) (by omega)).trans g0
  rw [st4_at (K := T.new 0 [.int .i64 0, .int .i64 0, .int .i64 0, .str ⟨#[]⟩]) (n := T.n) (by simp) (new_g _ _ _)]
  have uB : Up T ((T.new 0 [.int .i64 0, .int .i64 0, .int .i64 0, .str ⟨#[]⟩]).put T.n (.rw 0 [.int .i64 r.tab, .int .i64 r.key, .int .i64 r.val, .str r.text])) := up_st
  have gB : ((T.new 0 [.int .i64 0, .int .i64 0, .int .i64 0, .str ⟨#[]⟩]).put T.n (.rw 0 [.int .i64 r.tab, .int .i64 r.key, .int .i64 r.val, .str r.text])).g T.n = .rw 0 [.int .i64 r.tab, .int .i64 r.key, .int .i64 r.val, .str r.text] := g_st
  have nB : ((T.new 0 [.int .i64 0, .int .i64 0, .int .i64 0, .str ⟨#[]⟩]).put T.n (.rw 0 [.int .i64 r.tab, .int .i64 r.key, .int .i64 r.val, .str r.text])).n = T.n + 1 := n_st
  generalize (T.new 0 [.int .i64 0, .int .i64 0, .int .i64 0, .str ⟨#[]⟩]).put T.n (.rw 0 [.int .i64 r.tab, .int .i64 r.key, .int .i64 r.val, .str r.text]) = B at uB gB nB ⊢
  obtain ⟨x2, h2, e2, r2, b2, w2, n2, o2, t2⟩ := r_next (s1.up uB) hl (by omega) (n := 12) (by omega) (by omega)
  rw [e2]; simp only [ob, gV1_s, gI_i]; rw [t2]
  have gA2 : h2.g h.n = .rw 0 [.int .i64 0, .int .i64 0, .int .i64 0, .str ⟨#[]⟩] := by rw [o2 h.n (by omega), uB.g h.n (by omega)]; exact gT
  have gB2 : h2.g T.n = .rw 0 [.int .i64 r.tab, .int .i64 r.key, .int .i64 r.val, .str r.text] := by rw [o2 T.n (by omega)]; exact gB
  have old : ∀ c, c < h.n → c ≠ b → h2.g c = h.g c := fun c hc hcb => by rw [o2 c hcb, uB.g c (by omega), d1t.o c (by omega) hcb, k0 c hc hcb]
  have hn2 : h2.n = T.n + 1 := by omega
  -- the end of each way: one cell of the row turned
  have fin : ∀ {X : H} {x y z : Int} {t : ByteArray} {a3 : Nat}, Src b l a3 X → a3 ≤ a + 10 → T.n < X.n → X.g h.n = .rw 0 [.int .i64 0, .int .i64 0, .int .i64 0, .str ⟨#[]⟩] → X.g T.n = .rw 0 [.int .i64 x, .int .i64 y, .int .i64 z, .str t] → (∀ c, c < h.n → c ≠ b → X.g c = h.g c) → (RowD.mk x y z t).small →
      ∃ (r : RowD) (h' : H), (some (V.agg [.int .i64 x, .int .i64 y, .int .i64 z, .str t], X.put h.n (.rw 0 [.int .i64 x, .int .i64 y, .int .i64 z, .str t])) : Option (V × H)) = some (.agg r.cs, h') ∧ r.small ∧ Dr b l a 10 h h' := fun {X x y z t a3} sx hx hn gA gB hold hs =>
    ⟨⟨x, y, z, t⟩, _, rfl, hs, ⟨a3, ⟨by rw [put_n]; exact sx.n, by rw [put_g' (by omega)]; exact sx.g⟩, hx⟩, by rw [put_n]; omega, fun c hc hcb => by rw [put_g' (by omega)]; exact hold c hc hcb⟩
  rw [vcase_b]
  by_cases c0 : x2 = 0
  · rw [if_pos (by simp [c0])]
    obtain ⟨x3, h3, e3, m3, w3, n3, o3, t3⟩ := r_pickN w2 hl (by omega) (xs := [-1, 3, 4]) (by simp) (by simp)
    simp only [List.length_cons, List.length_nil, Nat.zero_add, Nat.reduceAdd, List.map_cons, List.map_nil] at e3 t3
    rw [e3]; simp only [ob, gV1_s, gI_i]; rw [t3]
    have gB3 : h3.g T.n = .rw 0 [.int .i64 r.tab, .int .i64 r.key, .int .i64 r.val, .str r.text] := (o3 T.n (by omega) (by omega)).trans gB2
    have gA3 := (o3 h.n (by omega) (by omega)).trans gA2
    rw [stK_rw (z := 1) (e := 0) (o := 0) (b := T.n) (cs := [.int .i64 r.tab, .int .i64 r.key, .int .i64 r.val, .str r.text]) (r := [.int .i64 x3]) (by omega) gB3 (.inl ⟨_, rfl, rfl, rfl⟩) rfl (by simp)]
    rw [show setAt [.int .i64 r.tab, .int .i64 r.key, .int .i64 r.val, .str r.text] 0 [S.int .i64 x3] = [.int .i64 x3, .int .i64 r.key, .int .i64 r.val, .str r.text] from rfl]
    have hx : -1 ≤ x3 ∧ x3 ≤ 4 := by simp only [List.mem_cons, List.not_mem_nil, or_false] at m3; omega
    have gA4 : (h3.put T.n (.rw 0 [.int .i64 x3, .int .i64 r.key, .int .i64 r.val, .str r.text])).g h.n = _ := (put_g' (by omega)).trans gA3
    rw [bent_end (by rw [put_n]; omega) (by rw [put_n]; omega) gA4 (put_g _ _ _)]
    exact fin ⟨by rw [put_n]; exact w3.n, by rw [put_g' (by omega)]; exact w3.g⟩ (by omega) (by rw [put_n]; omega) gA4 (put_g _ _ _) (fun c hc hcb => by rw [put_g' (by omega), o3 c (by omega) hcb, old c hc hcb]) ⟨hx, by dsimp only; omega, by dsimp only; omega, by dsimp only; omega⟩
  rw [if_neg (by simpa using c0), vcase_b]
  by_cases c1 : x2 = 1
  · rw [if_pos (by simp [c1])]
    obtain ⟨x3, h3, e3, m3, w3, n3, o3, t3⟩ := r_pickN w2 hl (by omega) (xs := [0, 99, 100]) (by simp) (by simp)
    simp only [List.length_cons, List.length_nil, Nat.zero_add, Nat.reduceAdd, List.map_cons, List.map_nil] at e3 t3
    rw [e3]; simp only [ob, gV1_s, gI_i]; rw [t3]
    have gB3 : h3.g T.n = .rw 0 [.int .i64 r.tab, .int .i64 r.key, .int .i64 r.val, .str r.text] := (o3 T.n (by omega) (by omega)).trans gB2
    have gA3 := (o3 h.n (by omega) (by omega)).trans gA2
    rw [stK_rw (z := 1) (e := 0) (o := 1) (b := T.n) (cs := [.int .i64 r.tab, .int .i64 r.key, .int .i64 r.val, .str r.text]) (r := [.int .i64 x3]) (by omega) gB3 (.inl ⟨_, rfl, rfl, rfl⟩) rfl (by simp)]
    rw [show setAt [.int .i64 r.tab, .int .i64 r.key, .int .i64 r.val, .str r.text] 1 [S.int .i64 x3] = [.int .i64 r.tab, .int .i64 x3, .int .i64 r.val, .str r.text] from rfl]
    have hx : 0 ≤ x3 ∧ x3 ≤ 100 := by simp only [List.mem_cons, List.not_mem_nil, or_false] at m3; omega
    have gA4 : (h3.put T.n (.rw 0 [.int .i64 r.tab, .int .i64 x3, .int .i64 r.val, .str r.text])).g h.n = _ := (put_g' (by omega)).trans gA3
    rw [bent_end (by rw [put_n]; omega) (by rw [put_n]; omega) gA4 (put_g _ _ _)]
    exact fin ⟨by rw [put_n]; exact w3.n, by rw [put_g' (by omega)]; exact w3.g⟩ (by omega) (by rw [put_n]; omega) gA4 (put_g _ _ _) (fun c hc hcb => by rw [put_g' (by omega), o3 c (by omega) hcb, old c hc hcb]) ⟨by dsimp only; omega, hx, by dsimp only; omega, by dsimp only; omega⟩
  rw [if_neg (by simpa using c1), vcase_b]
  by_cases c2 : x2 = 2
  · rw [if_pos (by simp [c2])]
    obtain ⟨x3, h3, e3, m3, w3, n3, o3, t3⟩ := r_pickN w2 hl (by omega) (xs := [-1, 1000]) (by simp) (by simp)
    simp only [List.length_cons, List.length_nil, Nat.zero_add, Nat.reduceAdd, List.map_cons, List.map_nil] at e3 t3
    rw [e3]; simp only [ob, gV1_s, gI_i]; rw [t3]
    have gB3 : h3.g T.n = .rw 0 [.int .i64 r.tab, .int .i64 r.key, .int .i64 r.val, .str r.text] := (o3 T.n (by omega) (by omega)).trans gB2
    have gA3 := (o3 h.n (by omega) (by omega)).trans gA2
    rw [stK_rw (z := 1) (e := 0) (o := 2) (b := T.n) (cs := [.int .i64 r.tab, .int .i64 r.key, .int .i64 r.val, .str r.text]) (r := [.int .i64 x3]) (by omega) gB3 (.inl ⟨_, rfl, rfl, rfl⟩) rfl (by simp)]
    rw [show setAt [.int .i64 r.tab, .int .i64 r.key, .int .i64 r.val, .str r.text] 2 [S.int .i64 x3] = [.int .i64 r.tab, .int .i64 r.key, .int .i64 x3, .str r.text] from rfl]
    have hx : -1 ≤ x3 ∧ x3 ≤ 1000 := by simp only [List.mem_cons, List.not_mem_nil, or_false] at m3; omega
    have gA4 : (h3.put T.n (.rw 0 [.int .i64 r.tab, .int .i64 r.key, .int .i64 x3, .str r.text])).g h.n = _ := (put_g' (by omega)).trans gA3
    rw [bent_end (by rw [put_n]; omega) (by rw [put_n]; omega) gA4 (put_g _ _ _)]
    exact fin ⟨by rw [put_n]; exact w3.n, by rw [put_g' (by omega)]; exact w3.g⟩ (by omega) (by rw [put_n]; omega) gA4 (put_g _ _ _) (fun c hc hcb => by rw [put_g' (by omega), o3 c (by omega) hcb, old c hc hcb]) ⟨by dsimp only; omega, by dsimp only; omega, hx, by dsimp only; omega⟩
  rw [if_neg (by simpa using c2), vcase_b]
  by_cases c3 : x2 = 3
  · rw [if_pos (by simp [c3])]
    have w2' : Src b l (a1 + 1) (h2.new 1 [.str ⟨#[65]⟩, .str ⟨#[97, 98, 99, 100, 101, 102, 103, 104, 105]⟩, .str ⟨#[97, 32, 98]⟩]) := w2.up up_new
    obtain ⟨x3, h3, e3, r3, b3, w3, n3, o3, t3⟩ := r_next w2' hl (by omega) (n := 3) (by omega) (by omega)
    rw [e3]; simp only [ob, gV1_s, gI_i]; rw [t3]
    obtain ⟨i, rfl⟩ : ∃ i : Nat, x3 = i := ⟨x3.toNat, by omega⟩
    simp only [new_n] at n3
    have gs : h3.g h2.n = .rw 1 (bnT.map fun t => .str t) := by rw [o3 h2.n (by omega)]; exact new_g _ _ _
    have hi : i < bnT.length := by simp [bnT]; omega
    rw [idxK_sv (by omega), ld_str (by omega) gs hi rfl]
    simp only [gV1_s, gS_s]
    have ht := bnT_ok (List.getElem_mem hi)
    generalize bnT[i] = t at ht ⊢
    have gB3 : h3.g T.n = .rw 0 [.int .i64 r.tab, .int .i64 r.key, .int .i64 r.val, .str r.text] := by rw [o3 T.n (by omega), new_g' (by omega)]; exact gB2
    have gA3 : h3.g h.n = .rw 0 [.int .i64 0, .int .i64 0, .int .i64 0, .str ⟨#[]⟩] := by rw [o3 h.n (by omega), new_g' (by omega)]; exact gA2
    rw [stK_rw (z := 1) (e := 0) (o := 3) (b := T.n) (cs := [.int .i64 r.tab, .int .i64 r.key, .int .i64 r.val, .str r.text]) (r := [.str t]) (by omega) gB3 (.inl ⟨_, rfl, rfl, rfl⟩) rfl (by simp)]
    rw [show setAt [.int .i64 r.tab, .int .i64 r.key, .int .i64 r.val, .str r.text] 3 [S.str t] = [.int .i64 r.tab, .int .i64 r.key, .int .i64 r.val, .str t] from rfl]
    have gA4 : (h3.put T.n (.rw 0 [.int .i64 r.tab, .int .i64 r.key, .int .i64 r.val, .str t])).g h.n = _ := (put_g' (by omega)).trans gA3
    rw [bent_end (by rw [put_n]; omega) (by rw [put_n]; omega) gA4 (put_g _ _ _)]
    exact fin ⟨by rw [put_n]; exact w3.n, by rw [put_g' (by omega)]; exact w3.g⟩ (by omega) (by rw [put_n]; omega) gA4 (put_g _ _ _) (fun c hc hcb => by rw [put_g' (by omega), o3 c hcb, new_g' (by omega), old c hc hcb]) ⟨by dsimp only; omega, by dsimp only; omega, by dsimp only; omega, ht⟩
  rw [if_neg (by simpa using c3)]
  rw [bent_end (by omega) (by omega) gA2 gB2]
  exact fin w2 (by omega) (by omega) gA2 gB2 old ⟨by dsimp only; omega, by dsimp only; omega, by dsimp only; omega, by dsimp only; omega⟩
theorem p_DrawPackStub {l : List UInt8} (hl : l.length ≤ 1048576) : ∃ a b : Int, pureV (call Ev) Fn.spec_DrawPackStub [lv (bys l)] = some (.tup [.s (.int .i64 a), .s (.int .i64 b)]) := by
  rw [pu_spec_DrawPackStub]
  obtain ⟨K, e1, s1, u1, n1⟩ := r_source (l := l) (D 0)
  rw [e1]
  obtain ⟨x2, h2, e2, r2, b2, w2, n2, o2, t2⟩ := r_next s1 hl (by omega) (n := 12) (by omega) (by omega)
  rw [e2]; simp only [ob, gV1_s, gI_i]; rw [t2]
  obtain ⟨x3, h3, e3, m3, w3, n3, o3, t3⟩ := r_pickN w2 hl (by omega) (xs := [x2, 11, 12, -1]) (by simp) (by simp)
  simp only [List.length_cons, List.length_nil, Nat.zero_add, Nat.reduceAdd, List.map_cons, List.map_nil] at e3 t3
  rw [e3]; simp only [ob, gV1_s, gI_i]; rw [t3]
  obtain ⟨x4, h4, e4, r4, b4, w4, n4, o4, t4⟩ := r_next w3 hl (by omega) (n := 16) (by omega) (by omega)
  rw [e4]; simp only [ob, gV1_s, gI_i]; rw [t4]
  obtain ⟨x5, h5, e5, m5, w5, n5, o5, t5⟩ := r_pickN w4 hl (by omega) (xs := [x4, 15, 16]) (by simp) (by simp)
  simp only [List.length_cons, List.length_nil, Nat.zero_add, Nat.reduceAdd, List.map_cons, List.map_nil] at e5 t5
  rw [e5]; simp only [ob, gV1_s, gI_i]
  exact ⟨_, _, rfl⟩
theorem p_DrawPackRow {l : List UInt8} (hl : l.length ≤ 1048576) : ∃ (f : Int) (r : RowD), pureV (call Ev) Fn.spec_DrawPackRow [lv (bys l)] = some (.tup [.s (.int .i64 f), .agg r.cs]) ∧ r.text.size ≤ 9 := by
  rw [pu_spec_DrawPackRow]
  obtain ⟨K, e1, s1, u1, n1⟩ := r_source (l := l) ((D 0).new 0 [.int .i64 0, .int .i64 0, .int .i64 0, .str ⟨#[]⟩])
  rw [e1]
  have gK : K.g 0 = .rw 0 [.int .i64 0, .int .i64 0, .int .i64 0, .str ⟨#[]⟩] := (u1.g 0 (by simp)).trans (new_g (D 0) _ _)
  simp only [new_n, D_n] at n1 s1 ⊢
  obtain ⟨x2, h2, e2, m2, w2, n2, o2, t2⟩ := r_pickN s1 hl (by omega) (xs := [0, 2, 0, 2, 1, 3]) (by simp) (by simp)
  simp only [List.length_cons, List.length_nil, Nat.zero_add, Nat.reduceAdd, List.map_cons, List.map_nil] at e2 t2
  rw [e2]; simp only [ob, gV1_s, gI_i]; rw [t2]
  obtain ⟨r, h3, e3, hr, d3⟩ := r_bentRow w2 hl (by omega)
  rw [e3]
  simp only [ob, gVA_a, gx0, gx1, gI_i, gS_s, ln0, ln1, Nat.zero_add, Nat.reduceAdd, if_true]
  have d3t := d3.tidy w2.n [V.agg r.cs]
  generalize Vm.tidy h2 [V.agg r.cs] h3 = T at d3t ⊢
  have hTn := d3t.n
  have gT : T.g 0 = .rw 0 [.int .i64 0, .int .i64 0, .int .i64 0, .str ⟨#[]⟩] := by rw [d3t.o 0 (by omega) (by omega), o2 0 (by omega) (by omega)]; exact gK
  rw [st4_at (by omega) gT, ld4_at (by rw [put_n]; omega) (put_g _ _ _), ob]
  refine ⟨x2, r, ?_, hr.s⟩
  simp [frzAs, frzA]
theorem p_DrawUnpackCell {l : List UInt8} (hl : l.length ≤ 1048576) : ∃ d : List UInt8, pureV (call Ev) Fn.spec_DrawUnpackCell [lv (bys l)] = some (lv (bys d)) ∧ d.length ≤ 100 := by
  rw [pu_spec_DrawUnpackCell]
  obtain ⟨K, e1, s1, u1, n1⟩ := r_source (l := l) (D 0)
  rw [e1]
  obtain ⟨r, h2, e2, hr, d2⟩ := r_draw s1 hl (by omega)
  rw [e2]
  simp only [ob, gVA_a, gx0, gx1, gI_i, gS_s, ln0, ln1, Nat.zero_add, Nat.reduceAdd, if_true]
  have d2t := d2.tidy s1.n [V.agg r.cs]
  generalize Vm.tidy K [V.agg r.cs] h2 = T at d2t ⊢
  obtain ⟨a2, s2, ha2⟩ := d2t.ex
  have hTn := d2t.n
  rw [st4_at (K := T.new 0 [.int .i64 0, .int .i64 0, .int .i64 0, .str ⟨#[]⟩]) (n := T.n) (by simp) (new_g _ _ _)]
  have uB : Up T ((T.new 0 [.int .i64 0, .int .i64 0, .int .i64 0, .str ⟨#[]⟩]).put T.n (.rw 0 [.int .i64 r.tab, .int .i64 r.key, .int .i64 r.val, .str r.text])) := up_st
  have gB : ((T.new 0 [.int .i64 0, .int .i64 0, .int .i64 0, .str ⟨#[]⟩]).put T.n (.rw 0 [.int .i64 r.tab, .int .i64 r.key, .int .i64 r.val, .str r.text])).g T.n = .rw 0 [.int .i64 r.tab, .int .i64 r.key, .int .i64 r.val, .str r.text] := g_st
  have nB : ((T.new 0 [.int .i64 0, .int .i64 0, .int .i64 0, .str ⟨#[]⟩]).put T.n (.rw 0 [.int .i64 r.tab, .int .i64 r.key, .int .i64 r.val, .str r.text])).n = T.n + 1 := n_st
  generalize (T.new 0 [.int .i64 0, .int .i64 0, .int .i64 0, .str ⟨#[]⟩]).put T.n (.rw 0 [.int .i64 r.tab, .int .i64 r.key, .int .i64 r.val, .str r.text]) = B at uB gB nB ⊢
  obtain ⟨x3, h3, e3, m3, w3, n3, o3, t3⟩ := r_pickN (s2.up uB) hl (by omega) (xs := [0, 2]) (by simp) (by simp)
  simp only [List.length_cons, List.length_nil, Nat.zero_add, Nat.reduceAdd, List.map_cons, List.map_nil] at e3 t3
  rw [e3]; simp only [ob, gV1_s, gI_i]; rw [t3]
  have hf : 0 ≤ x3 ∧ x3 < 256 := by simp only [List.mem_cons, List.not_mem_nil, or_false] at m3; omega
  have hs2 := s2.n
  have gB3 : h3.g T.n = .rw 0 [.int .i64 r.tab, .int .i64 r.key, .int .i64 r.val, .str r.text] := by rw [o3 T.n (by omega) (by omega)]; exact gB
  have fz : frzVs h3 [iv .i64 x3, pv T.n 0] = some [iv .i64 x3, fv r.cs 0] := frzVs_cons frzV_iv (frzVs_cons (by
    rw [frzV_s]
    simp only [frzS]
    rw [if_pos (by omega), gB3]
    simp) frzVs_nil)
  rw [fz, ob, show normVs [0, 4] [iv .i64 x3, fv r.cs 0] = [iv .i64 x3, fv r.cs 0] from rfl]
  obtain ⟨h4, e4, w4⟩ := f_l1Cell hf.1 hf.2 hr h3.n
  rw [pF (h := h3) e4 ⟨rfl, w4.z⟩]
  obtain ⟨u4, wp, hq⟩ := w4.over
  have hlen := packL_len x3 r
  obtain ⟨_, _, _, hsz, _⟩ := rowF_0 hr
  generalize packL x3 r = d at w4 wp hlen ⊢
  generalize h3.over h4 = M at u4 wp ⊢
  obtain ⟨x5, h5, e5, r5, b5, w5, n5, o5, t5⟩ := r_next (w3.up u4) hl (by omega) (n := 6) (by omega) (by omega)
  rw [e5]; simp only [ob, gV1_s, gI_i]; rw [t5]
  have hs3 := w3.n
  have hqb : h3.n + 2 ≠ (D 0).n := by omega
  have wp5 : BysW h5 (sv (h3.n + 2) 0 d.length) d (h3.n + 2) := wp.fr (by omega) (o5 _ hqb)
  rw [vcase_b]
  by_cases c0 : x5 = 0
  · rw [if_pos (by simp [c0])]
    simp only [lenV, ob, gV1_s, gI_i]
    obtain ⟨x6, h6, e6, r6, b6, w6, n6, o6, t6⟩ := r_next w5 hl (by omega) (n := (d.length : Int)) (by omega) (by omega)
    rw [e6]; simp only [ob, gV1_s, gI_i]; rw [t6]
    obtain ⟨x7, h7, e7, r7, b7, w7, n7, o7, t7⟩ := r_next w6 hl (by omega) (n := 256) (by omega) (by omega)
    rw [e7]; simp only [ob, gV1_s, gI_i]; rw [t7]
    obtain ⟨i, rfl⟩ : ∃ i : Nat, x6 = i := ⟨x6.toNat, by omega⟩
    have wp7 : BysW h7 (sv (h3.n + 2) 0 d.length) d (h3.n + 2) := wp5.fr (by omega) (by rw [o7 _ hqb, o6 _ hqb])
    rw [idxK_sv (by omega), wp7.set (c := UInt8.ofNat x7.toNat) (by omega) (by rw [w8 (by omega) (by omega)]; simp; omega)]
    have wp8 := wp7.set_w (i := i) (c := UInt8.ofNat x7.toNat)
    exact ⟨_, frz1 (ob := some (h3.n + 2)) wp8, by simp; omega⟩
  rw [if_neg (by simpa using c0), vcase_b]
  by_cases c1 : x5 = 1
  · rw [if_pos (by simp [c1])]
    simp only [lenV, ob, gV1_s, gI_i]
    obtain ⟨x6, h6, e6, r6, b6, w6, n6, o6, t6⟩ := r_next w5 hl (by omega) (n := (d.length : Int)) (by omega) (by omega)
    rw [e6]; simp only [ob, gV1_s, gI_i]; rw [t6]
    obtain ⟨i, rfl⟩ : ∃ i : Nat, x6 = i := ⟨x6.toNat, by omega⟩
    have wp6 : BysW h6 (sv (h3.n + 2) 0 d.length) d (h3.n + 2) := wp5.fr (by omega) (o6 _ hqb)
    refine ⟨d.take i, ?_, by simp; omega⟩
    have hk : ∀ (k : V → Option V), slK 1 h6 (sv (h3.n + 2) 0 d.length) none (some (iv .i64 (i : Int))) k = k (sv (h3.n + 2) 0 i) := fun k => by
      simp only [slK, slS]
      rw [bnd_of (by omega)]
      simp only [Option.bind_some]
      rw [if_pos (by simp only [okE]; rw [wp6.g]; simp; exact wp6.n)]
      simp
    rw [hk]
    have hg := wp6.g
    have hn := wp6.n
    rw [frzV_s]
    simp only [frzS]
    by_cases hi0 : i = 0
    · rw [if_pos hi0, hi0]; rfl
    · rw [if_neg hi0]
      simp only [hn, if_true, hg]
      rw [if_pos ⟨by omega, by simp; omega⟩]
      have e : ((d.map cell8).drop 0).take (i * 1) = (bys (d.take i)).flatten := by
        rw [bys_flat, List.map_take, List.drop_zero, Nat.mul_one]
      rw [e, mapO_cl (fun s hs => by
        obtain ⟨r, h1, h2⟩ := List.mem_flatten.1 hs
        exact bys_cl r h1 s h2)]
      have hc := chunk_rows (z := 1) (rows := bys (d.take i)) bys_row
      rw [bys_len, show (d.take i).length = i from by simp; omega] at hc
      simp only [ob, hc]
  rw [if_neg (by simpa using c1), vcase_b]
  by_cases c2 : x5 = 2
  · rw [if_pos (by simp [c2])]
    obtain ⟨x6, h6, e6, r6, b6, w6, n6, o6, t6⟩ := r_next w5 hl (by omega) (n := 13) (by omega) (by omega)
    rw [e6]; simp only [ob, gV1_s, gI_i]; rw [t6]
    obtain ⟨x7, h7, e7, r7, b7, w7, n7, o7, t7⟩ := r_next w6 hl (by omega) (n := 17) (by omega) (by omega)
    rw [e7]; simp only [ob, gV1_s, gI_i]
    rw [pu_spec_l1Stub, ob]
    simp only [gV1_s, gF_f]
    refine ⟨[1, o8 x6, o8 x7], ?_, by simp⟩
    rw [w8 (n := x6) (by omega) (by omega), w8 (n := x7) (by omega) (by omega), o8_c (x := x6) (by omega) (by omega), o8_c (x := x7) (by omega) (by omega)]
    rfl
  rw [if_neg (by simpa using c2)]
  exact ⟨d, frz1 (ob := some (h3.n + 2)) wp5, by omega⟩
end Vm
/-
  A text's bytes as a list.
-/
namespace Vm
open Go
theorem tl_loop (s : ByteArray) : ∀ (q i : Nat) (r : List UInt8), i + q = s.size → ByteArray.toList.loop s i r = r.reverse ++ s.data.toList.drop i := by
  intro q
  induction q with
  | zero =>
    intro i r hi
    rw [ByteArray.toList.loop, if_neg (by omega), List.drop_of_length_le (by simp; omega)]
    simp
  | succ q ih =>
    intro i r hi
    rw [ByteArray.toList.loop, if_pos (by omega), ih (i + 1) _ (by omega), str_drop (i := i) (by omega)]
    simp
theorem tl_data (s : ByteArray) : s.toList = s.data.toList := by
  unfold ByteArray.toList
  rw [tl_loop s s.size 0 [] (by omega)]
  simp
theorem tl_eq {a b : List UInt8} : ((⟨a.toArray⟩ : ByteArray).toList == (⟨b.toArray⟩ : ByteArray).toList) = decide (a = b) := by
  rw [tl_data, tl_data]
  by_cases h : a = b <;> simp [h]
end Vm
/-
  What the laws on pages ask: answers once frozen, all slots but one.
-/
namespace Vm
open Go
theorem p_PutSlot {l m : List UInt8} : pureV (call Ev) Fn.impl_PutSlot [lv (bys l), lv (bys m)] = some (.agg [.int .i64 (puR l m).1, .int .i64 (puR l m).2.1, .fs (bys (puR l m).2.2)]) := by
  obtain ⟨y, h', ob, e, w⟩ := f_PutSlot (l := l) (m := m) 0
  exact NewB.p3 e w
theorem p_SetSlot {l m : List UInt8} {i : Int} : pureV (call Ev) Fn.impl_SetSlot [lv (bys l), iv .i64 i, lv (bys m)] = some (.agg [.int .i64 (setR l i m).1, .int .i64 (setR l i m).2.1, .fs (bys (setR l i m).2.2)]) := by
  obtain ⟨y, h', ob, e, w⟩ := f_SetSlot (l := l) (i := i) (m := m) 0
  exact NewB.p3 e w
theorem p_DropSlot {l : List UInt8} {i : Int} (hl : l.length ≤ lim) : pureV (call Ev) Fn.impl_DropSlot [lv (bys l), iv .i64 i] = some (.agg [.int .i64 (drC l i), .int .i64 (drS l i), .fs (bys (drL l i))]) := by
  obtain ⟨y, h', ob, e, w⟩ := f_DropSlot (l := l) (i := i) hl 0
  exact NewB.p3 e w
theorem p_CompactPage {l : List UInt8} : pureV (call Ev) Fn.impl_CompactPage [lv (bys l)] = some (.agg [.int .i64 (cpC l), .int .i64 0, .fs (bys (cpL l))]) := by
  obtain ⟨y, h', ob, e, w⟩ := f_CompactPage (l := l) 0
  exact NewB.p3 e w
theorem p_SlotIn {l : List UInt8} {i : Int} (hl : l.length ≤ lim) : pureV (call Ev) Fn.impl_SlotIn [lv (bys l), iv .i64 i] = some (.agg [.int .i64 (slC l i), .fs (bys (slL l i))]) := by
  obtain ⟨y, h', ob, e, w⟩ := f_SlotIn (l := l) (i := i) hl 0
  exact NewB.p e w
noncomputable def frV (l : List UInt8) : Int := if pagF l = 0 then freS l else 0
theorem p_FreeIn {l : List UInt8} : pureV (call Ev) Fn.impl_FreeIn [lv (bys l)] = some (.agg [.int .i64 (pagF l), .int .i64 (frV l)]) := by
  rw [pu_impl_FreeIn, pc p_PageFault rfl]
  simp only [gV1_s, gI_i]
  unfold frV
  rw [vcase_b]
  by_cases hp : pagF l = 0
  · rw [if_neg (by simp [hp]), pc (p_freeIn hp) rfl, if_pos hp, hp]
    simp only [gV1_s, gI_i]
  · rw [if_pos (by simpa using hp), if_neg hp]
theorem p_lwSame {a b : List UInt8} (ha : a.length ≤ lim) (hb : b.length ≤ lim) : pureV (call Ev) Fn.laws_lwSame [lv (bys a), lv (bys b)] = some (bv (decide (a = b))) := by
  rw [pu_laws_lwSame, fsStr_by ha, ob]
  simp only [gV1_s, gS_s]
  rw [fsStr_by hb, ob]
  simp only [gV1_s, gS_s]
  rw [tl_eq]
theorem p_lwBig {l : List UInt8} : pureV (call Ev) Fn.laws_lwBig [lv (bys l)] = some (bv (decide ((l.length : Int) > 1048576))) := by
  rw [pu_laws_lwBig, bys_len]
/-- what a slot answers -/
theorem slot_keep {l p : List UInt8} {s : Int} (hl : pagF l = 0) (hp : pagF p = 0) (w : Keep l p s) {i : Nat} (hi : i < 16) (hs : (i : Int) ≠ s) : slC p i = slC l i ∧ slL p i = slL l i := by
  obtain ⟨h1, h2⟩ := w i hi hs
  unfold slC slL
  rw [if_pos hl, if_pos hp, h1]
  refine ⟨rfl, ?_⟩
  cases hh : hasB l i
  · simp
  · rw [if_pos ⟨hp, rfl⟩, if_pos ⟨hl, rfl⟩]
    exact h2 hh
theorem p_lwOthers {l p : List UInt8} {s : Int} (h1 : l.length ≤ lim) (h2 : p.length ≤ lim) (hl : pagF l = 0) (hp : pagF p = 0) (w : Keep l p s) : pureV (call Ev) Fn.laws_lwOthers [lv (bys l), lv (bys p), iv .i64 s] = some (bv true) := by
  have loop : ∀ (k i : Nat) (h : H), i + k = 16 → ∃ h', Lp.laws_lwOthers 0 [lv (bys l), lv (bys p), iv .i64 s, iv .i64 i] h = some (.done [] h') := by
    intro k
    induction k with
    | zero =>
      intro i h hi
      rw [eq_laws_lwOthers_l0, vcase_b, if_neg (by simp; omega)]
      exact ⟨_, rfl⟩
    | succ k ih =>
      intro i h hi
      rw [eq_laws_lwOthers_l0, vcase_b, if_pos (by simp; omega), p_SlotIn h1]
      simp only [ob, gVA_a, gx0, gx1, gI_i, gF_f, ln0, ln1, Nat.zero_add, Nat.reduceAdd, if_true]
      rw [st2_new, p_SlotIn h2]
      simp only [ob, gVA_a, gx0, gx1, gI_i, gF_f, ln0, ln1, Nat.zero_add, Nat.reduceAdd, if_true]
      rw [st2_new, vcase_b, w64 (by omega) (by omega), show (i : Int) + 1 = ((i + 1 : Nat) : Int) from by omega]
      by_cases hs : (i : Int) = s
      · rw [if_neg (by simp [hs])]
        exact ih (i + 1) _ (by omega)
      · rw [if_pos (by simpa using hs)]
        obtain ⟨k1, k2⟩ := slot_keep hl hp w (i := i) (by omega) hs
        generalize hA : (h.new 0 [.int .i64 0, .sl none 0]).put h.n (.rw 0 [.int .i64 (slC l i), .fs (bys (slL l i))]) = A
        have an : A.n = h.n + 1 := by rw [← hA]; simp
        have ag : A.g h.n = .rw 0 [.int .i64 (slC l i), .fs (bys (slL l i))] := by rw [← hA]; exact put_g _ _ _
        generalize hB : (A.new 0 [.int .i64 0, .sl none 0]).put A.n (.rw 0 [.int .i64 (slC p i), .fs (bys (slL p i))]) = B
        have bn : B.n = A.n + 1 := by rw [← hB]; simp
        have bg : B.g A.n = .rw 0 [.int .i64 (slC p i), .fs (bys (slL p i))] := by rw [← hB]; exact put_g _ _ _
        have ba : B.g h.n = .rw 0 [.int .i64 (slC l i), .fs (bys (slL l i))] := by rw [← hB, put_g' (by omega), new_g' (by omega)]; exact ag
        have l1 : ∀ {o : Nat}, load1 B (pv h.n o) = ([.int .i64 (slC l i), .fs (bys (slL l i))] : List S)[o]? := fun {o} => by simp [load1, H.cells, show h.n < B.n by omega, ba, Blk.cells]
        have l2 : ∀ {o : Nat}, load1 B (pv A.n o) = ([.int .i64 (slC p i), .fs (bys (slL p i))] : List S)[o]? := fun {o} => by simp [load1, H.cells, show A.n < B.n by omega, bg, Blk.cells]
        simp only [l1, l2, gx0, gx1, ob, gI_i]
        rw [vcase_b, if_neg (by simp [k1]), frzVs_cons frzV_lv (frzVs_cons frzV_lv frzVs_nil), ob, norm_nil, pc (p_lwSame (Nat.le_trans (slL_len _ _) h1) (Nat.le_trans (slL_len _ _) h2)) rfl]
        simp only [gV1_s, gB_b, k2, decide_true, Bool.not_true]
        rw [vcase_b, if_neg (by simp)]
        exact ih (i + 1) _ (by omega)
  obtain ⟨h', e⟩ := loop 16 0 (D 0) (by omega)
  rw [pu_laws_lwOthers, show iv .i64 0 = iv .i64 ((0 : Nat) : Int) from rfl, e, ob, lcase_done]
end Vm
/-
  Bytes that came in.
-/
namespace Vm
open Go

theorem rows8 {P : Program} {m : Nat} {e : TypeId} (he : P.underlying e = some (.int .u8)) : ∀ rows : List (List S), (∀ r ∈ rows, r.length = P.cellsOf e ∧ Rp P m e r) → ∃ l : List UInt8, rows = bys l
  | [], _ => ⟨[], rfl⟩
  | r :: rows, hr => by
    obtain ⟨l, h1⟩ := rows8 he rows fun r hm => hr r (by simp [hm])
    obtain ⟨n, h3, h4⟩ := (hr r (by simp)).2.int he
    have hb := wf8 h4
    refine ⟨UInt8.ofNat n.toNat :: l, ?_⟩
    have : cell8 (UInt8.ofNat n.toNat) = .int .u8 n := by
      unfold cell8
      congr 1
      simp
      omega
    rw [h1, h3]
    simp only [bys, List.map_cons, this]
theorem bys_of {P : Program} {n : Nat} {t e : TypeId} {s : S} (ht : P.underlying t = some (.slice e)) (he : P.underlying e = some (.int .u8)) (hr : Rp P n t [s]) : ∃ l, s = .fs (bys l) ∧ l.length ≤ maxLen := by
  obtain ⟨m, rows, h1, h2, h3⟩ := hr.slice ht
  obtain ⟨l, rfl⟩ := rows8 he rows h3
  cases h1
  exact ⟨l, rfl, by simpa using h2⟩
theorem rp_Bytes {n : Nat} {s : S} (hr : Rp PR n T.S_uint8 [s]) : ∃ l, s = .fs (bys l) ∧ l.length ≤ maxLen := bys_of und_S_uint8 und_uint8 hr
theorem arg_Bytes {x : V} (hr : ArgRp PR T.S_uint8 x) : ∃ l, x = lv (bys l) ∧ l.length ≤ maxLen := by
  obtain ⟨s, n, rfl, h1⟩ := hr.slice und_S_uint8
  obtain ⟨l, rfl, h2⟩ := rp_Bytes h1
  exact ⟨l, rfl, h2⟩
theorem arg_u8 {x : V} (hr : ArgRp PR T.uint8 x) : ∃ c : UInt8, x = iv .u8 c.toNat := by
  obtain ⟨n, rfl, h⟩ := hr.int und_uint8
  have := wf8 h
  exact ⟨UInt8.ofNat n.toNat, by congr 2; simp; omega⟩
end Vm
/-
  The law on cells returns true.
-/
namespace Vm
open Go
theorem run_FnCells (xs : List V) (hx : ArgsRp PR [T.S_uint8] xs) : ∃ h', call Ev Fn.laws_FnCells xs (D 0) = some (bv true, h') := by
  match xs, hx with
  | [x0], ⟨h0, _⟩ =>
    obtain ⟨l, rfl, hl⟩ := arg_Bytes h0
    refine law_of ?_
    rw [pu_laws_FnCells, pc p_lwBig rfl]
    simp only [gV1_s, gB_b]
    rw [vcase_b]
    by_cases hq : (l.length : Int) > 1048576
    · rw [if_pos (by simpa using hq)]
    rw [if_neg (by simpa using hq)]
    have hlb : l.length ≤ 1048576 := by omega
    -- the row that is packed and read back
    have tail : (pcallS (call Ev) Fn.spec_DrawPackRow [lv (bys l)] fun v1244 =>
        gVT v1244 fun u1245 => (u1245[0]?).bind fun t1246 => gA1 t1246 fun x1247 => gI .i64 x1247 fun i1248 => (u1245[1]?).bind fun t1249 => gAA t1249 fun c1250 =>
        (c1250[0]?).bind fun x1251 => gI .i64 x1251 fun i1252 => (c1250[1]?).bind fun x1253 => gI .i64 x1253 fun i1254 => (c1250[2]?).bind fun x1255 => gI .i64 x1255 fun i1256 => (c1250[3]?).bind fun x1257 => gS x1257 fun y1258 =>
        if c1250.length = 4 then if u1245.length = 2 then
        (pureV (call Ev) Fn.impl_PackRow [iv .i64 i1248, .agg [.int .i64 i1252, .int .i64 i1254, .int .i64 i1256, .str y1258]]).bind fun v1259 =>
        gVA v1259 fun c1260 => (c1260[0]?).bind fun x1261 => gI .i64 x1261 fun i1262 => (c1260[1]?).bind fun x1263 => gF x1263 fun z1264 =>
        if c1260.length = 2 then
        vcase (bv (i1262 != 0))
        ((pureV (call Ev) Fn.spec_PackRow [iv .i64 i1248, .agg [.int .i64 i1252, .int .i64 i1254, .int .i64 i1256, .str y1258]]).bind fun v1266 =>
        gVA v1266 fun c1267 => (c1267[0]?).bind fun x1268 => gI .i64 x1268 fun i1269 => (c1267[1]?).bind fun x1270 => gF x1270 fun z1271 =>
        if c1267.length = 2 then some (bv (i1269 == i1262)) else none)
        (pcallS (call Ev) Fn.impl_UnpackCell [lv z1264] fun v1272 =>
        gVA v1272 fun c1273 => (c1273[0]?).bind fun x1274 => gI .i64 x1274 fun i1275 => (c1273[1]?).bind fun x1276 => gI .i64 x1276 fun i1277 => (c1273[2]?).bind fun x1278 => gI .i64 x1278 fun i1279 =>
        (c1273[3]?).bind fun x1280 => gI .i64 x1280 fun i1281 => (c1273[4]?).bind fun x1282 => gI .i64 x1282 fun i1283 => (c1273[5]?).bind fun x1284 => gI .i64 x1284 fun i1285 => (c1273[6]?).bind fun x1286 => gI .i64 x1286 fun i1287 =>
        (c1273[7]?).bind fun x1288 => gS x1288 fun y1289 =>
        if c1273.length = 8 then
        vcase (bv (i1275 == 0))
        (vcase (bv (i1277 == i1248))
        (vcase (bv (((i1283 : Int) == i1252) && (((i1285 : Int) == i1254) && (((i1287 : Int) == i1256) && (((y1289 : ByteArray).toList == (y1258 : ByteArray).toList) && true)))))
        (some (bv ((z1264.length : Int) == (IntKind.i64.wrap (6 + ((y1258 : ByteArray).size : Int))))))
        (some (bv false))) (some (bv false))) (some (bv false)) else none) else none else none else none) = some (bv true) := by
      obtain ⟨f, r, e, hr⟩ := p_DrawPackRow hlb
      have hrs : r.text.size ≤ maxLen := by unfold maxLen; omega
      rw [pc e rfl]
      simp only [ob, gVT_t, gx0, gx1, gA1_s, gAA_a, gI_i, gS_s, ln0, ln1, Nat.zero_add, Nat.reduceAdd, if_true]
      rw [p_PackRow hrs]
      simp only [ob, gVA_a, gx0, gx1, gI_i, gF_f, ln0, ln1, Nat.zero_add, Nat.reduceAdd, if_true]
      rw [vcase_b]
      by_cases hc : pkC f r = 0
      case neg =>
        rw [if_pos (by simpa using hc), p_spec_PackRow hrs]
        simp only [ob, gVA_a, gx0, gx1, gI_i, gF_f, ln0, ln1, Nat.zero_add, Nat.reduceAdd, if_true]
        simp
      obtain ⟨hf, h0, hp⟩ := pkC_0 hc
      have hlen := packL_len f r
      rw [if_neg (by simp [hc]), hp, pc (p_UnpackCell (by unfold lim; omega)) rfl, unp_pack hf h0]
      simp only [ob, gVA_a, gx0, gx1, gI_i, gS_s, ln0, ln1, Nat.zero_add, Nat.reduceAdd, if_true]
      rw [vcase_b, if_pos (by simp), vcase_b, if_pos (by simp), vcase_b, if_pos (by simp), bys_len, hlen, w64 (by omega) (by omega)]
      simp
    have J1 : ∀ (i111 i113 i115 i117 i119 i121 i123 : Int) (y125 : ByteArray), Jn.laws_FnCells_1 false (bys l) i111 i113 i115 i117 i119 i121 i123 y125 = some (bv true) := by
      intro i111 i113 i115 i117 i119 i121 i123 y125
      unfold Jn.laws_FnCells_1
      rw [vcase_b, if_neg (by simp)]
      obtain ⟨a, b, e⟩ := p_DrawPackStub hlb
      rw [pc e rfl]
      simp only [ob, gVT_t, gx0, gx1, gA1_s, gAA_a, gI_i, gS_s, ln0, ln1, Nat.zero_add, Nat.reduceAdd, if_true]
      rw [p_PackStub]
      simp only [ob, gVA_a, gx0, gx1, gI_i, gF_f, ln0, ln1, Nat.zero_add, Nat.reduceAdd, if_true]
      have hsl : (stL a b).length ≤ lim := by unfold stL lim; split <;> simp
      rw [pc (p_UnpackCell hsl) rfl]
      simp only [ob, gVA_a, gx0, gx1, gI_i, gS_s, ln0, ln1, Nat.zero_add, Nat.reduceAdd, if_true]
      rw [p_spec_PackStub]
      simp only [ob, gVA_a, gx0, gx1, gI_i, gF_f, ln0, ln1, Nat.zero_add, Nat.reduceAdd, if_true, hchk_self]
      rw [vcase_b, if_neg (by simp), vcase_b]
      by_cases h : (inB a 0 11 && inB b 0 15) = true
      · have hc : stC a b = 0 := by unfold stC; rw [if_pos h]
        have hs : stL a b = [1, o8 a, o8 b] := by unfold stL; rw [if_pos h]
        rw [if_pos (by simp [hc]), hs, unp_stub h]
        dsimp only
        rw [vcase_b, if_neg (by simp), vcase_b, if_neg (by simp)]
        unfold Jn.laws_FnCells_0
        simp only [hchk_self]
        rw [vcase_b, if_neg (by simp)]
        exact tail
      · have hc : stC a b = 3 := by unfold stC; rw [if_neg h]
        rw [if_neg (by simp [hc])]
        unfold Jn.laws_FnCells_0
        simp only [hchk_self]
        rw [vcase_b, if_neg (by simp)]
        exact tail
    have J2 : ∀ (i113 i119 i121 i123 : Int) (y125 : ByteArray) (z107 : List (List S)) (i111 i115 i117 : Int), Jn.laws_FnCells_2 false i113 i119 i121 i123 y125 z107 (bys l) i111 i115 i117 = some (bv true) := by
      intro i113 i119 i121 i123 y125 z107 i111 i115 i117
      unfold Jn.laws_FnCells_2
      rw [vcase_b, if_neg (by simp)]
      exact J1 _ _ _ _ _ _ _ _
    obtain ⟨d, e, hd⟩ := p_DrawUnpackCell hlb
    have hdl : d.length ≤ lim := by unfold lim; omega
    rw [e]
    simp only [ob, gV1_s, gF_f]
    rw [pc (p_UnpackCell hdl) rfl]
    simp only [ob, gVA_a, gx0, gx1, gI_i, gS_s, ln0, ln1, Nat.zero_add, Nat.reduceAdd, if_true]
    rw [vcase_b]
    by_cases hc : (unpC d).code = 0
    case neg =>
      rw [if_pos (by simpa using hc), pc (p_spec_UnpackCell hdl) rfl]
      simp only [ob, gVA_a, gx0, gx1, gI_i, gS_s, ln0, ln1, Nat.zero_add, Nat.reduceAdd, if_true, hchk_self]
      unfold Jn.laws_FnCells_3
      rw [vcase_b, if_neg (by simp), vcase_b, if_neg (by simpa using hc), vcase_b, if_neg (by simpa using hc)]
      exact J2 _ _ _ _ _ _ _ _ _
    rw [if_neg (by simp [hc]), hchk_self]
    unfold Jn.laws_FnCells_3
    rw [vcase_b, if_neg (by simp), vcase_b, if_pos (by simp [hc]), vcase_b]
    rcases pack_unp hc with ⟨hf, h, hs⟩ | ⟨hf, hf2, hr, hs⟩
    · have hsl : stL (unpC d).page (unpC d).slot = d := by
        unfold stL; rw [if_pos h]; exact hs.symm
      rw [if_pos (by simp [hf]), p_PackStub, hsl]
      simp only [ob, gVA_a, gx0, gx1, gI_i, gF_f, ln0, ln1, Nat.zero_add, Nat.reduceAdd, if_true]
      rw [pc (p_lwSame hdl hdl) rfl]
      simp only [gV1_s, gB_b, decide_true]
      rw [vcase_b, if_neg (by simp), vcase_b, if_pos (by simp [hc]), show ((unpC d).flag != 1) = false from by simp [hf]]
      exact J2 _ _ _ _ _ _ _ _ _
    · have hpk : pkC (unpC d).flag (unpC d).row = 0 := by unfold pkC; rw [if_pos hf2]; exact hr
      obtain ⟨_, _, hp⟩ := pkC_0 hpk
      obtain ⟨_, _, _, hsz, _⟩ := rowF_0 hr
      rw [if_neg (by simpa using hf), vcase_b, if_pos (by simp [hc]), show ((unpC d).flag != 1) = true from by simpa using hf]
      unfold Jn.laws_FnCells_2
      rw [vcase_b, if_pos rfl, show ([V.s (S.int IntKind.i64 (unpC d).flag), V.agg [.int .i64 (unpC d).row.tab, .int .i64 (unpC d).row.key, .int .i64 (unpC d).row.val, .str (unpC d).row.text]] : List V) = [iv .i64 (unpC d).flag, .agg (unpC d).row.cs] from rfl, p_PackRow (by unfold maxLen; omega), hp, ← hs]
      simp only [ob, gVA_a, gx0, gx1, gI_i, gF_f, ln0, ln1, Nat.zero_add, Nat.reduceAdd, if_true]
      rw [pc (p_lwSame hdl hdl) rfl]
      simp only [gV1_s, gB_b, decide_true, Bool.not_true]
      exact J1 _ _ _ _ _ _ _ _
end Vm
