/-
  A slot let go: what both ways come to.
-/
import Derived.Test.YtnidgolbfmbocaaDDrop
import Derived.Test.YtnidgolbfmbocaaDResP
set_option linter.unusedVariables false
set_option maxRecDepth 100000
set_option linter.unusedSimpArgs false
namespace Vm
open Go
noncomputable def drC (l : List UInt8) (i : Int) : Int := slC l i
noncomputable def drS (l : List UInt8) (i : Int) : Int := if pagF l = 0 ∧ hasB l i = true then i else 0
noncomputable def drL (l : List UInt8) (i : Int) : List UInt8 := if pagF l = 0 ∧ hasB l i = true then dropB l i.toNat else []
theorem drL_len (l : List UInt8) (i : Int) : (drL l i).length ≤ l.length := by
  unfold drL; split
  · rw [dropB_len]; exact Nat.le_refl _
  · simp
theorem p_spec_DropSlot {l : List UInt8} {i : Int} (h1 : -9223372036854775808 ≤ i) (h2 : i < 9223372036854775808) : pureV (call Ev) Fn.spec_DropSlot [lv (bys l), iv .i64 i] = some (.agg [.int .i64 (drC l i), .int .i64 (drS l i), .fs (bys (drL l i))]) := by
  rw [pu_spec_DropSlot, pc p_l2Fault rfl]
  simp only [gV1_s, gI_i, vcase_b]
  unfold drC slC drS drL
  by_cases hp : pagF l = 0
  case neg =>
    rw [if_pos (by simpa using hp), if_neg hp, if_neg (fun hh => hp hh.1), if_neg (fun hh => hp hh.1), pu_spec_l2Bad, ob]
    simp only [gVA_a, gx0, gx1, ob, gI_i, gF_f, ln0, ln1, Nat.zero_add, Nat.reduceAdd, if_true]
    rfl
  rw [if_neg (by simp [hp]), pc (p_l2Has hp h1 h2) rfl]
  simp only [gV1_s, gB_b, vcase_b]
  cases hb : hasB l i
  · rw [if_pos (by simp), pu_spec_l2Bad, ob]
    simp only [gVA_a, gx0, gx1, ob, gI_i, gF_f, ln0, ln1, Nat.zero_add, Nat.reduceAdd, if_true]
    simp [hp, bys]
  obtain ⟨k, rfl, hk, _⟩ := hasB_nat hb
  obtain ⟨h64, ⟨g1, _, _⟩, _⟩ := pagF_ok hp
  have hc := cnt_eq l
  rw [if_neg (by simp), p_l2Drop h64 (by omega) hk]
  simp [hp]
theorem f_DropSlot {l : List UInt8} {i : Int} (hl : l.length ≤ lim) (n : Nat) : ∃ y h' ob, call Ev Fn.impl_DropSlot [lv (bys l), iv .i64 i] (D n) = some (.agg [.int .i64 (drC l i), .int .i64 (drS l i), y], h') ∧ NewB n h' (.s y) (drL l i) ob := by
  rw [eq_impl_DropSlot, pc p_PageFault rfl]
  simp only [gV1_s, gI_i, vcase_b]
  unfold drC slC drS drL
  by_cases hp : pagF l = 0
  case neg =>
    obtain ⟨h', e1, e2⟩ := badP n (pagF l)
    rw [if_pos (by simpa using hp), if_neg hp, if_neg (fun hh => hp hh.1), if_neg (fun hh => hp hh.1), e1]
    exact ⟨_, h', none, rfl, e2⟩
  rw [if_neg (by simp [hp]), pc (p_hasSlot hp) rfl]
  simp only [gV1_s, gB_b, vcase_b]
  cases hb : hasB l i
  · obtain ⟨h', e1, e2⟩ := badP n 4
    rw [if_pos (by simp), e1]
    exact ⟨.sl none 0, h', none, by simp [hp], by simpa [hp] using e2⟩
  obtain ⟨k, rfl, hk, _⟩ := hasB_nat hb
  obtain ⟨h64, ⟨g1, _, _⟩, _⟩ := pagF_ok hp
  have hc := cnt_eq l
  rw [if_neg (by simp)]
  obtain ⟨v, h1, e1, w1, n1⟩ := f_copied hl (n + 1)
  have hn : ((D n).new 0 [.int .i64 0, .int .i64 0, .sl none 0]).n = n + 1 := by simp
  rw [pF (h := (D n).new 0 [.int .i64 0, .int .i64 0, .sl none 0]) (h1 := h1) (v := v) (by rw [hn]; exact e1) (by rw [hn]; exact ⟨by rw [(show BysW h1 v l (n + 2) from w1.own).v]; rfl, w1.z⟩)]
  have hv := (show BysW h1 v l (n + 2) from w1.own).v
  subst hv
  have hle : ((D n).new 0 [.int .i64 0, .int .i64 0, .sl none 0]).n ≤ h1.n := by rw [hn]; omega
  generalize hG : ((D n).new 0 [.int .i64 0, .int .i64 0, .sl none 0]).over h1 = G
  have gn : G.n = n + 3 := by rw [← hG, over_n hle]; omega
  have g0 : G.g n = .rw 0 [.int .i64 0, .int .i64 0, .sl none 0] := by rw [← hG, (over_lt (by simp)).1]; exact new_g (D n) _ _
  have gz : ∀ b, n + 1 ≤ b → b < n + 3 → b ≠ n + 2 → ∀ s ∈ (G.g b).cells, scaS s = true := fun b h2 h3 _ s hs => by
    rw [← hG, over_ge (by rw [hn]; omega)] at hs
    exact w1.z b h2 (by omega) s hs
  have w : BysW G (sv (n + 2) 0 l.length) l (n + 2) := ⟨rfl, by omega, by rw [← hG, over_ge (by rw [hn]; omega)]; exact w1.own.g⟩
  rw [w64 (n := 2 * (k : Int)) (by omega) (by omega), w64 (by omega) (by omega), w64 (by omega) (by omega), show 2 + 2 * (k : Int) = ((2 + 2 * k : Nat) : Int) from by omega, show 3 + 2 * (k : Int) = ((3 + 2 * k : Nat) : Int) from by omega, idxK_sv (by omega), w.set (c := 0) (x := 0) (by omega) rfl, idxK_sv (by omega), (w.set_w).set (c := 0) (x := 0) (by simp; omega) rfl]
  have w3 := (w.set_w (i := 2 + 2 * k) (c := 0)).set_w (i := 3 + 2 * k) (c := 0)
  have o3 : Oth (n + 2) G ((G.put (n + 2) (Blk.rw 1 (List.map cell8 (l.set (2 + 2 * k) 0)))).put (n + 2) (Blk.rw 1 (List.map cell8 ((l.set (2 + 2 * k) 0).set (3 + 2 * k) 0)))) := Oth.put.trans Oth.put
  generalize (G.put (n + 2) (Blk.rw 1 (List.map cell8 (l.set (2 + 2 * k) 0)))).put (n + 2) (Blk.rw 1 (List.map cell8 ((l.set (2 + 2 * k) 0).set (3 + 2 * k) 0))) = K at w3 o3 ⊢
  have w4 : BysW K (sv (n + 2) 0 l.length) (cntB (dropL l k) (cnt l)) (n + 2) := by rw [dropL_cnt (by omega)]; exact w3
  obtain ⟨h', e2, e3, e4⟩ := lp_Drop (q := (k : Int)) (p := pv n 0) (cnt l) _ (by omega) (by rw [dropL_len]; omega) w4
  rw [D_n, e2, Vm.ob, lcase_done]
  simp only [gx0, gx1, Vm.ob, gV1_s, gI_i, cellsK, isNo, cond_false, ln0, ln1, Nat.zero_add, Nat.reduceAdd, Nat.le_refl, and_self, if_true]
  have o4 := o3.trans e4
  have gh : h'.g n = .rw 0 [.int .i64 0, .int .i64 0, .sl none 0] := (o4.2 n (by omega)).1.trans g0
  have hN : h'.n = n + 3 := by rw [o4.1, gn]
  rw [show setAt [.int .i64 0, .int .i64 0, .sl none 0] 2 [S.sl (some (n + 2, 0)) l.length] = [.int .i64 0, .int .i64 0, .sl (some (n + 2, 0)) l.length] from rfl]
  simp only [ln0, ln1, Nat.zero_add, Nat.reduceAdd, Nat.reduceLeDiff, and_self, if_true]
  rw [show setAt [.int .i64 0, .int .i64 0, S.sl (some (n + 2, 0)) l.length] 1 [.int .i64 (k : Int)] = [.int .i64 0, .int .i64 k, .sl (some (n + 2, 0)) l.length] from rfl]
  simp only [gx0, gx1, Vm.ob, gI_i, ln0, ln1, Nat.zero_add, Nat.reduceAdd, if_true]
  rw [stK_rw (z := 3) (e := 0) (o := 0) (b := n) (cs := [.int .i64 0, .int .i64 0, .sl none 0]) (r := [.int .i64 0, .int .i64 k, .sl (some (n + 2, 0)) l.length]) (by omega) gh (.inr rfl) rfl (by simp)]
  rw [show setAt [.int .i64 0, .int .i64 0, .sl none 0] 0 [.int .i64 0, .int .i64 (k : Int), S.sl (some (n + 2, 0)) l.length] = [.int .i64 0, .int .i64 k, .sl (some (n + 2, 0)) l.length] from rfl]
  simp only [ldT, cond_true]
  rw [loadN_3 (b := n) (e := 0) (by rw [put_n]; omega) (put_g _ _ _), Vm.ob]
  refine ⟨.sl (some (n + 2, 0)) l.length, h'.put n (.rw 0 [.int .i64 0, .int .i64 k, .sl (some (n + 2, 0)) l.length]), some (n + 2), by simp [hp], ?_⟩
  rw [if_pos ⟨hp, by simp⟩, Int.toNat_natCast]
  have e3' : BysW h' (sv (n + 2) 0 l.length) (dropB l k) (n + 2) := e3
  refine ⟨⟨e3'.v, by rw [put_n]; omega, by rw [put_g' (by omega)]; exact e3'.g⟩, by rw [put_n]; omega, fun b hb => by cases hb; omega, fun b h2 h3 s hs => ?_⟩
  by_cases hbn : b = n
  · subst hbn
    rw [put_g] at hs
    simp only [Blk.cells, List.mem_cons, List.not_mem_nil, or_false] at hs
    rcases hs with rfl | rfl | rfl <;> rfl
  · rw [put_g' hbn] at hs
    rw [put_n] at h3
    by_cases hb2 : b = n + 2
    · subst hb2
      rw [e3'.g] at hs
      obtain ⟨c, _, rfl⟩ := List.mem_map.1 hs
      rfl
    · rw [(o4.2 b hb2).1] at hs
      exact gz b (by omega) (by omega) hb2 s hs
end Vm
