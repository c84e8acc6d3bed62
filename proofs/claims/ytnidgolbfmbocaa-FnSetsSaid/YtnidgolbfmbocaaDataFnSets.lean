/-
  What both ways of the law come to, and that the law returns true.
-/
import Derived.Test.YtnidgolbfmbocaaEqs
import Derived.Test.YtnidgolbfmbocaaDl
import Derived.Test.YtnidgolbfmbocaaTyp
import Derived.Test.YtnidgolbfmbocaaDataFnSets1
set_option linter.unusedVariables false
set_option maxRecDepth 100000
set_option linter.unusedSimpArgs false
set_option linter.unusedSectionVars false
/-
  A slot let go: what both ways come to.
-/
namespace Vm
open Go
noncomputable def drC (l : List UInt8) (i : Int) : Int := slC l i
noncomputable def drS (l : List UInt8) (i : Int) : Int := if pagF l = 0 ∧ hasB l i = true then i else 0
noncomputable def drL (l : List UInt8) (i : Int) : List UInt8 := if pagF l = 0 ∧ hasB l i = true then dropB l i.toNat else []
theorem drL_len (l : List UInt8) (i : Int) : (drL l i).length ≤ l.length := by
  unfold drL; split
  · rw [dropB_len]; exact Nat.le_refl _
  · simp
theorem p_spec_DropSlot {l : List UInt8} {i : Int} (h1 : -9223372036854775808 ≤ i) (h2 : i < 9223372036854775808) : pureV (call Ev) Fn.spec_DropSlot [lv (bys l), iv .i64 i] = some (.agg [.int .i64 (drC l i), .int .i64 (drS l i), .fs (bys (drL l i))]) := by
  rw [pu_spec_DropSlot, pc p_l2Fault rfl]
  simp only [gV1_s, gI_i, vcase_b]
  unfold drC slC drS drL
  by_cases hp : pagF l = 0
  case neg =>
    rw [if_pos (by simpa using hp), if_neg hp, if_neg (fun hh => hp hh.1), if_neg (fun hh => hp hh.1), pu_spec_l2Bad, ob]
    simp only [gVA_a, gx0, gx1, ob, gI_i, gF_f, ln0, ln1, Nat.zero_add, Nat.reduceAdd, if_true]
    rfl
  rw [if_neg (by simp [hp]), pc (p_l2Has hp h1 h2) rfl]
  simp only [gV1_s, gB_b, vcase_b]
  cases hb : hasB l i
  · rw [if_pos (by simp), pu_spec_l2Bad, ob]
    simp only [gVA_a, gx0, gx1, ob, gI_i, gF_f, ln0, ln1, Nat.zero_add, Nat.reduceAdd, if_true]
    simp [hp, bys]
  obtain ⟨k, rfl, hk, _⟩ := hasB_nat hb
  obtain ⟨h64, ⟨g1, _, _⟩, _⟩ := pagF_ok hp
  have hc := cnt_eq l
  rw [if_neg (by simp), p_l2Drop h64 (by omega) hk]
  simp [hp]
theorem f_DropSlot {l : List UInt8} {i : Int} (hl : l.length ≤ lim) (n : Nat) : ∃ y h' ob, call Ev Fn.impl_DropSlot [lv (bys l), iv .i64 i] (D n) = some (.agg [.int .i64 (drC l i), .int .i64 (drS l i), y], h') ∧ NewB n h' (.s y) (drL l i) ob := by
  rw [eq_impl_DropSlot, pc p_PageFault rfl]
  simp only [gV1_s, gI_i, vcase_b]
  unfold drC slC drS drL
  by_cases hp : pagF l = 0
  case neg =>
    obtain ⟨h', e1, e2⟩ := badP n (pagF l)
    rw [if_pos (by simpa using hp), if_neg hp, if_neg (fun hh => hp hh.1), if_neg (fun hh => hp hh.1), e1]
    exact ⟨_, h', none, rfl, e2⟩
  rw [if_neg (by simp [hp]), pc (p_hasSlot hp) rfl]
  simp only [gV1_s, gB_b, vcase_b]
  cases hb : hasB l i
  · obtain ⟨h', e1, e2⟩ := badP n 4
    rw [if_pos (by simp), e1]
    exact ⟨.sl none 0, h', none, by simp [hp], by simpa [hp] using e2⟩
  obtain ⟨k, rfl, hk, _⟩ := hasB_nat hb
  obtain ⟨h64, ⟨g1, _, _⟩, _⟩ := pagF_ok hp
  have hc := cnt_eq l
  rw [if_neg (by simp)]
  obtain ⟨v, h1, e1, w1, n1⟩ := f_copied hl (n + 1)
  have hn : ((D n).new 0 [.int .i64 0, .int .i64 0, .sl none 0]).n = n + 1 := by simp
  rw [pF (h := (D n).new 0 [.int .i64 0, .int .i64 0, .sl none 0]) (h1 := h1) (v := v) (by rw [hn]; exact e1) (by rw [hn]; exact ⟨by rw [(show BysW h1 v l (n + 2) from w1.own).v]; rfl, w1.z⟩)]
  have hv := (show BysW h1 v l (n + 2) from w1.own).v
  subst hv
  have hle : ((D n).new 0 [.int .i64 0, .int .i64 0, .sl none 0]).n ≤ h1.n := by rw [hn]; omega
  generalize hG : ((D n).new 0 [.int .i64 0, .int .i64 0, .sl none 0]).over h1 = G
  have gn : G.n = n + 3 := by rw [← hG, over_n hle]; omega
  have g0 : G.g n = .rw 0 [.int .i64 0, .int .i64 0, .sl none 0] := by rw [← hG, (over_lt (by simp)).1]; exact new_g (D n) _ _
  have gz : ∀ b, n + 1 ≤ b → b < n + 3 → b ≠ n + 2 → ∀ s ∈ (G.g b).cells, scaS s = true := fun b h2 h3 _ s hs => by
    rw [← hG, over_ge (by rw [hn]; omega)] at hs
    exact w1.z b h2 (by omega) s hs
  have w : BysW G (sv (n + 2) 0 l.length) l (n + 2) := ⟨rfl, by omega, by rw [← hG, over_ge (by rw [hn]; omega)]; exact w1.own.g⟩
  rw [w64 (n := 2 * (k : Int)) (by omega) (by omega), w64 (by omega) (by omega), w64 (by omega) (by omega), show 2 + 2 * (k : Int) = ((2 + 2 * k : Nat) : Int) from by omega, show 3 + 2 * (k : Int) = ((3 + 2 * k : Nat) : Int) from by omega, idxK_sv (by omega), w.set (c := 0) (x := 0) (by omega) rfl, idxK_sv (by omega), (w.set_w).set (c := 0) (x := 0) (by simp; omega) rfl]
  have w3 := (w.set_w (i := 2 + 2 * k) (c := 0)).set_w (i := 3 + 2 * k) (c := 0)
  have o3 : Oth (n + 2) G ((G.put (n + 2) (Blk.rw 1 (List.map cell8 (l.set (2 + 2 * k) 0)))).put (n + 2) (Blk.rw 1 (List.map cell8 ((l.set (2 + 2 * k) 0).set (3 + 2 * k) 0)))) := Oth.put.trans Oth.put
  generalize (G.put (n + 2) (Blk.rw 1 (List.map cell8 (l.set (2 + 2 * k) 0)))).put (n + 2) (Blk.rw 1 (List.map cell8 ((l.set (2 + 2 * k) 0).set (3 + 2 * k) 0))) = K at w3 o3 ⊢
  have w4 : BysW K (sv (n + 2) 0 l.length) (cntB (dropL l k) (cnt l)) (n + 2) := by rw [dropL_cnt (by omega)]; exact w3
  obtain ⟨h', e2, e3, e4⟩ := lp_Drop (q := (k : Int)) (p := pv n 0) (cnt l) _ (by omega) (by rw [dropL_len]; omega) w4
  rw [D_n, e2, Vm.ob, lcase_done]
  simp only [gx0, gx1, Vm.ob, gV1_s, gI_i, cellsK, isNo, cond_false, ln0, ln1, Nat.zero_add, Nat.reduceAdd, Nat.le_refl, and_self, if_true]
  have o4 := o3.trans e4
  have gh : h'.g n = .rw 0 [.int .i64 0, .int .i64 0, .sl none 0] := (o4.2 n (by omega)).1.trans g0
  have hN : h'.n = n + 3 := by rw [o4.1, gn]
  rw [show setAt [.int .i64 0, .int .i64 0, .sl none 0] 2 [S.sl (some (n + 2, 0)) l.length] = [.int .i64 0, .int .i64 0, .sl (some (n + 2, 0)) l.length] from rfl]
  simp only [ln0, ln1, Nat.zero_add, Nat.reduceAdd, Nat.reduceLeDiff, and_self, if_true]
  rw [show setAt [.int .i64 0, .int .i64 0, S.sl (some (n + 2, 0)) l.length] 1 [.int .i64 (k : Int)] = [.int .i64 0, .int .i64 k, .sl (some (n + 2, 0)) l.length] from rfl]
  simp only [gx0, gx1, Vm.ob, gI_i, ln0, ln1, Nat.zero_add, Nat.reduceAdd, if_true]
  rw [stK_rw (z := 3) (e := 0) (o := 0) (b := n) (cs := [.int .i64 0, .int .i64 0, .sl none 0]) (r := [.int .i64 0, .int .i64 k, .sl (some (n + 2, 0)) l.length]) (by omega) gh (.inr rfl) rfl (by simp)]
  rw [show setAt [.int .i64 0, .int .i64 0, .sl none 0] 0 [.int .i64 0, .int .i64 (k : Int), S.sl (some (n + 2, 0)) l.length] = [.int .i64 0, .int .i64 k, .sl (some (n + 2, 0)) l.length] from rfl]
  simp only [ldT, cond_true]
  rw [loadN_3 (b := n) (e := 0) (by rw [put_n]; omega) (put_g _ _ _), Vm.ob]
  refine ⟨.sl (some (n + 2, 0)) l.length, h'.put n (.rw 0 [.int .i64 0, .int .i64 k, .sl (some (n + 2, 0)) l.length]), some (n + 2), by simp [hp], ?_⟩
  rw [if_pos ⟨hp, by simp⟩, Int.toNat_natCast]
  have e3' : BysW h' (sv (n + 2) 0 l.length) (dropB l k) (n + 2) := e3
  refine ⟨⟨e3'.v, by rw [put_n]; omega, by rw [put_g' (by omega)]; exact e3'.g⟩, by rw [put_n]; omega, fun b hb => by cases hb; omega, fun b h2 h3 s hs => ?_⟩
  by_cases hbn : b = n
  · subst hbn
    rw [put_g] at hs
    simp only [Blk.cells, List.mem_cons, List.not_mem_nil, or_false] at hs
    rcases hs with rfl | rfl | rfl <;> rfl
  · rw [put_g' hbn] at hs
    rw [put_n] at h3
    by_cases hb2 : b = n + 2
    · subst hb2
      rw [e3'.g] at hs
      obtain ⟨c, _, rfl⟩ := List.mem_map.1 hs
      rfl
    · rw [(o4.2 b hb2).1] at hs
      exact gz b (by omega) (by omega) hb2 s hs
end Vm
/-
  A page made dense: what both ways come to.
-/
namespace Vm
open Go
def zer64 : List UInt8 := List.replicate 64 0
def out0 (l : List UInt8) : List UInt8 := lay zer64 0 (l.take (2 + 2 * cnt l))
def cmpR (l : List UInt8) : List UInt8 × Nat := cmp l (cnt l) 0 (out0 l, 64)
def cmpL (l : List UInt8) : List UInt8 := (cmpR l).1.set 1 (UInt8.ofNat (cmpR l).2)
theorem mk64 {h : H} : mkSl 1 [.int .u8 0] h (iv .i64 64) (iv .i64 64) = some (sv h.n 0 64, h.new 1 (zer64.map cell8)) := by
  have := mkSl_of (z := 1) (n := 64) (zero := [.int .u8 0]) (h := h) (by unfold lim; omega) (by omega) rfl (k1 := .i64) (k2 := .i64)
  rw [show ((64 : Nat) : Int) = 64 from rfl] at this
  rw [this]
  rfl
section
variable {l : List UInt8} (hp : pagF l = 0)
include hp
theorem out0_cmp : Cmp l 0 (out0 l, 64) ∧ (l.take (2 + 2 * cnt l)).length = 2 + 2 * cnt l ∧ 2 + 2 * cnt l ≤ 34 := by
  obtain ⟨h64, ⟨g1, g2, g3⟩, _⟩ := pagF_ok hp
  have hc := cnt_eq l
  have ht : (l.take (2 + 2 * cnt l)).length = 2 + 2 * cnt l := by rw [List.length_take]; omega
  refine ⟨⟨?_, by simp [sumS], fun j hj => ?_⟩, ht, by omega⟩
  · show (lay zer64 0 _).length = 64
    rw [lay_len (by rw [ht]; simp [zer64]; omega)]; simp [zer64]
  · show (lay zer64 0 _)[3 + 2 * j]? = _
    unfold lay
    rw [List.take_zero, List.nil_append, List.getElem?_append_left (by rw [ht]; omega), List.getElem?_take, if_pos (by omega)]
theorem f_l2Compact (n : Nat) : ∃ h', call Ev Fn.spec_l2Compact [lv (bys l)] (D n) = some (sv n 0 64, h') ∧ NewB n h' (sv n 0 64) (cmpL l) (some n) := by
  obtain ⟨h64, ⟨g1, g2, g3⟩, _⟩ := pagF_ok hp
  have hc := cnt_eq l
  obtain ⟨c0, ht, h34⟩ := out0_cmp hp
  rw [eq_spec_l2Compact, pc (p_l2Count (by omega)) rfl]
  simp only [gV1_s, gI_i]
  rw [mk64, ob, ← hc, w64 (n := 2 * ((cnt l : Nat) : Int)) (by omega) (by omega), w64 (by omega) (by omega), show 2 + 2 * ((cnt l : Nat) : Int) = ((2 + 2 * cnt l : Nat) : Int) from by omega, slF_hi (by omega)]
  have w0 : BysW ((D n).new 1 (zer64.map cell8)) (sv (D n).n 0 64) zer64 (D n).n := ⟨rfl, by simp, new_g _ _ _⟩
  dsimp only
  rw [copS_w w0 (by simp [zer64]) (by rw [ht]; omega), ob]
  simp only [gV1_s, gI_i]
  have w1 := lay_w w0 (a := 0) (m := l.take (2 + 2 * cnt l)) (by rw [ht]; simp [zer64]; omega)
  obtain ⟨h', e1, e2, e3⟩ := lp_l2Comp hp (cnt l) 0 _ (out0 l, 64) (by omega) c0 w1
  rw [show iv .i64 0 = iv .i64 ((0 : Nat) : Int) from rfl, show iv .i64 64 = iv .i64 ((64 : Nat) : Int) from rfl, e1, ob, lcase_done]
  obtain ⟨_, _, _, _, c1⟩ := lp_Comp (p := iv .i64 0) hp (cnt l) 0 _ (out0 l, 64) (by omega) c0 w1
  have hl1 := c1.len
  have hb := c1.low
  simp only [gx0, gx1, ob, gV1_s, gI_i]
  rw [show iv .i64 1 = iv .i64 ((1 : Nat) : Int) from rfl, idxK_sv (by omega), e2.set (c := UInt8.ofNat (cmp l (cnt l) 0 (out0 l, 64)).2) (by omega) (by rw [w8 (by omega) (by omega)]; simp; omega)]
  have w5 := e2.set_w (i := 1) (c := UInt8.ofNat (cmp l (cnt l) 0 (out0 l, 64)).2)
  have hn : h'.n = n + 1 := by rw [e3.1]; simp
  refine ⟨_, rfl, w5, by rw [put_n]; omega, fun b hb => by cases hb; exact Nat.le_refl _, fun b h2 h3 s hs => ?_⟩
  rw [put_n, hn] at h3
  have hbn : b = n := by omega
  rw [hbn] at hs
  have hs' := (congrArg (fun x => s ∈ Blk.cells x) w5.g).mp hs
  obtain ⟨c, _, rfl⟩ := List.mem_map.1 hs'
  rfl
theorem p_l2Compact : pureV (call Ev) Fn.spec_l2Compact [lv (bys l)] = some (lv (bys (cmpL l))) := by
  obtain ⟨h', e, w⟩ := f_l2Compact hp 0
  exact NewB.pv e w
end
def cpD (l : List UInt8) : Int := 0
noncomputable def cpC (l : List UInt8) : Int := pagF l
open Classical in
noncomputable def cpL (l : List UInt8) : List UInt8 := if pagF l = 0 then cmpL l else []
theorem cmpL_len {l : List UInt8} (hp : pagF l = 0) : (cmpL l).length = 64 := by
  obtain ⟨c0, _, _⟩ := out0_cmp hp
  have w1 : BysW ((D 0).new 1 ((out0 l).map cell8)) (sv (D 0).n 0 64) (out0 l) (D 0).n := ⟨by have := c0.len; simp only at this; rw [this], by simp, new_g _ _ _⟩
  obtain ⟨_, _, _, _, c1⟩ := lp_Comp (p := iv .i64 0) hp (cnt l) 0 _ (out0 l, 64) (by omega) c0 w1
  unfold cmpL cmpR
  rw [List.length_set]; exact c1.len
theorem cpL_len (l : List UInt8) : (cpL l).length ≤ 64 := by
  unfold cpL
  split
  · rename_i hp; rw [cmpL_len hp]; exact Nat.le_refl _
  · simp
theorem p_spec_CompactPage {l : List UInt8} : pureV (call Ev) Fn.spec_CompactPage [lv (bys l)] = some (.agg [.int .i64 (cpC l), .int .i64 0, .fs (bys (cpL l))]) := by
  rw [pu_spec_CompactPage, pc p_l2Fault rfl]
  simp only [gV1_s, gI_i, vcase_b]
  unfold cpC cpL
  by_cases hp : pagF l = 0
  case neg =>
    rw [if_pos (by simpa using hp), if_neg hp, pu_spec_l2Bad, ob]
    simp only [gVA_a, gx0, gx1, ob, gI_i, gF_f, ln0, ln1, Nat.zero_add, Nat.reduceAdd, if_true]
    rfl
  rw [if_neg (by simp [hp]), if_pos hp, p_l2Compact hp, ob]
  simp only [gV1_s, gF_f, hp]
theorem f_CompactPage {l : List UInt8} (n : Nat) : ∃ y h' ob, call Ev Fn.impl_CompactPage [lv (bys l)] (D n) = some (.agg [.int .i64 (cpC l), .int .i64 0, y], h') ∧ NewB n h' (.s y) (cpL l) ob := by
  rw [eq_impl_CompactPage, pc p_PageFault rfl]
  simp only [gV1_s, gI_i, vcase_b]
  unfold cpC cpL
  by_cases hp : pagF l = 0
  case neg =>
    obtain ⟨h', e1, e2⟩ := badP n (pagF l)
    rw [if_pos (by simpa using hp), if_neg hp, e1]
    exact ⟨_, h', none, rfl, e2⟩
  obtain ⟨h64, ⟨g1, g2, g3⟩, _⟩ := pagF_ok hp
  have hc := cnt_eq l
  obtain ⟨c0, ht, h34⟩ := out0_cmp hp
  rw [if_neg (by simp [hp]), if_pos hp, pc (p_slots (by omega)) rfl]
  simp only [gV1_s, gI_i]
  rw [mk64, Vm.ob, ← hc, w64 (n := 2 * ((cnt l : Nat) : Int)) (by omega) (by omega), w64 (by omega) (by omega), show 2 + 2 * ((cnt l : Nat) : Int) = ((2 + 2 * cnt l : Nat) : Int) from by omega, slF_hi (by omega)]
  have hn : ((D n).new 0 [.int .i64 0, .int .i64 0, .sl none 0]).n = n + 1 := by simp
  have g0 : ((D n).new 0 [.int .i64 0, .int .i64 0, .sl none 0]).g n = .rw 0 [.int .i64 0, .int .i64 0, .sl none 0] := new_g (D n) _ _
  rw [hn]
  generalize (D n).new 0 [.int .i64 0, .int .i64 0, .sl none 0] = A at hn g0 ⊢
  have w0 : BysW (A.new 1 (zer64.map cell8)) (sv (n + 1) 0 64) zer64 (n + 1) := ⟨rfl, by rw [new_n]; omega, by rw [← hn]; exact new_g _ _ _⟩
  have g1' : (A.new 1 (zer64.map cell8)).g n = .rw 0 [.int .i64 0, .int .i64 0, .sl none 0] := by rw [new_g' (by omega)]; exact g0
  have nA : (A.new 1 (zer64.map cell8)).n = n + 2 := by rw [new_n, hn]
  generalize A.new 1 (zer64.map cell8) = B at w0 g1' nA ⊢
  dsimp only
  rw [copS_w w0 (by simp [zer64]) (by rw [ht]; omega), Vm.ob]
  simp only [gV1_s, gI_i]
  have w1 := lay_w w0 (a := 0) (m := l.take (2 + 2 * cnt l)) (by rw [ht]; simp [zer64]; omega)
  obtain ⟨h', e1, e2, e3, c1⟩ := lp_Comp (p := pv n 0) hp (cnt l) 0 _ (out0 l, 64) (by omega) c0 w1
  have o3 := (Oth.put (b := n + 1) (h := B)).trans e3
  rw [D_n, show iv .i64 0 = iv .i64 ((0 : Nat) : Int) from rfl, show iv .i64 64 = iv .i64 ((64 : Nat) : Int) from rfl, e1, Vm.ob, lcase_done]
  have hl1 := c1.len
  have hb := c1.low
  simp only [gx0, gx1, Vm.ob, gV1_s, gI_i]
  rw [show iv .i64 1 = iv .i64 ((1 : Nat) : Int) from rfl, idxK_sv (by omega), e2.set (c := UInt8.ofNat (cmp l (cnt l) 0 (out0 l, 64)).2) (by omega) (by rw [w8 (by omega) (by omega)]; simp; omega)]
  have w5 := e2.set_w (i := 1) (c := UInt8.ofNat (cmp l (cnt l) 0 (out0 l, 64)).2)
  have o5 := o3.trans (Oth.put (b := n + 1) (h := h') (x := .rw 1 (((cmp l (cnt l) 0 (out0 l, 64)).1.set 1 (UInt8.ofNat (cmp l (cnt l) 0 (out0 l, 64)).2)).map cell8)))
  generalize h'.put (n + 1) (.rw 1 (((cmp l (cnt l) 0 (out0 l, 64)).1.set 1 (UInt8.ofNat (cmp l (cnt l) 0 (out0 l, 64)).2)).map cell8)) = K at w5 o5 ⊢
  have w6 : BysW K (sv (n + 1) 0 64) (cmpL l) (n + 1) := w5
  have kN : K.n = n + 2 := by rw [o5.1, nA]
  have gk : K.g n = .rw 0 [.int .i64 0, .int .i64 0, .sl none 0] := (o5.2 n (by omega)).1.trans g1'
  simp only [cellsK, isNo, cond_false, ln0, ln1, Nat.zero_add, Nat.reduceAdd, Nat.le_refl, and_self, if_true]
  rw [show setAt [.int .i64 0, .int .i64 0, .sl none 0] 2 [S.sl (some (n + 1, 0)) 64] = [.int .i64 0, .int .i64 0, .sl (some (n + 1, 0)) 64] from rfl]
  simp only [gx0, gx1, Vm.ob, gI_i, ln0, ln1, Nat.zero_add, Nat.reduceAdd, if_true]
  rw [stK_rw (z := 3) (e := 0) (o := 0) (b := n) (cs := [.int .i64 0, .int .i64 0, .sl none 0]) (r := [.int .i64 0, .int .i64 0, .sl (some (n + 1, 0)) 64]) (by omega) gk (.inr rfl) rfl (by simp)]
  rw [show setAt [.int .i64 0, .int .i64 0, .sl none 0] 0 [.int .i64 0, .int .i64 0, S.sl (some (n + 1, 0)) 64] = [.int .i64 0, .int .i64 0, .sl (some (n + 1, 0)) 64] from rfl]
  simp only [ldT, cond_true]
  rw [loadN_3 (b := n) (e := 0) (by rw [put_n]; omega) (put_g _ _ _), Vm.ob]
  refine ⟨.sl (some (n + 1, 0)) 64, K.put n (.rw 0 [.int .i64 0, .int .i64 0, .sl (some (n + 1, 0)) 64]), some (n + 1), by simp [hp], ?_⟩
  refine ⟨⟨w6.v, by rw [put_n]; omega, by rw [put_g' (by omega)]; exact w6.g⟩, by rw [put_n]; omega, fun b hb => by cases hb; omega, fun b h2 h3 s hs => ?_⟩
  rw [put_n] at h3
  by_cases hbn : b = n
  · subst hbn
    rw [put_g] at hs
    simp only [Blk.cells, List.mem_cons, List.not_mem_nil, or_false] at hs
    rcases hs with rfl | rfl | rfl <;> rfl
  · rw [put_g' hbn, show b = n + 1 from by omega, w6.g] at hs
    obtain ⟨c, _, rfl⟩ := List.mem_map.1 hs
    rfl
end Vm
/-
  Plain laws on pages: what stays and what turns when a cell is put, set or dropped.
-/
namespace Vm
/-- a page without a fault, by its parts -/
structure Pg (l : List UInt8) : Prop where
  len : l.length = 64
  head : headB l
  slots : ∀ i, i < cnt l → slotB l i
  apart : ∀ i k, i < cnt l → k < i → apartB l i k
  last : ¬ (0 < cnt l ∧ siz l (cnt l - 1) = 0)
theorem Pg.of {l : List UInt8} (h : pagF l = 0) : Pg l := by
  obtain ⟨a, b, c, d, e⟩ := pagF_ok h
  exact ⟨a, b, c, d, e⟩
theorem Pg.ok {l : List UInt8} (p : Pg l) : pagF l = 0 :=
  (PageIs.f (.inr (.inr (.inr (.inr (.inr ⟨p.len, p.head, p.slots, p.apart, p.last, rfl⟩)))))).symm
theorem apart_symm {l : List UInt8} {i k : Nat} (h : apartB l i k) : apartB l k i := by
  unfold apartB at *; omega
theorem Pg.ap {l : List UInt8} (p : Pg l) {i k : Nat} (hi : i < cnt l) (hk : k < cnt l) (hne : i ≠ k) : apartB l i k := by
  rcases Nat.lt_or_gt_of_ne hne with h | h
  · exact apart_symm (p.apart k i hk h)
  · exact p.apart i k hi h
/-- one byte turned -/
theorem bt_set {l : List UInt8} {i j : Nat} {c : UInt8} (hi : i < l.length) : bt (l.set i c) (j : Int) = if j = i then (c.toNat : Int) else bt l (j : Int) := by
  split
  · rename_i h; subst h; exact bt_set_eq hi
  · rename_i h; exact bt_set_ne (fun e => h e.symm)
theorem bt_lay {l m : List UInt8} {a j : Nat} (h : a + m.length ≤ l.length) : bt (lay l a m) (j : Int) = if a ≤ j ∧ j < a + m.length then bt m ((j - a : Nat) : Int) else bt l (j : Int) := by
  unfold bt lay
  simp only [Int.toNat_natCast, List.getD]
  split
  · rename_i hj
    rw [List.getElem?_append_left (by simp; omega), List.getElem?_append_right (by simp; omega), List.length_take, Nat.min_eq_left (by omega)]
  · rename_i hj
    by_cases h1 : j < a
    · rw [List.getElem?_append_left (by simp; omega), List.getElem?_append_left (by simp; omega), List.getElem?_take_of_lt h1]
    · rw [List.getElem?_append_right (by simp; omega), List.getElem?_drop, List.length_append, List.length_take, Nat.min_eq_left (by omega), show a + m.length + (j - (a + m.length)) = j from by omega]
theorem u8n {n : Nat} (h : n < 256) : ((UInt8.ofNat n).toNat : Int) = n := by
  simp; omega
theorem bt_wrC {l m : List UInt8} {i a j : Nat} (h : a + m.length ≤ l.length) (hi : 3 + 2 * i < l.length) (ha : a < 256) (hm : m.length < 256) :
    bt (wrC l i a m) (j : Int) = if j = 3 + 2 * i then (m.length : Int) else if j = 2 + 2 * i then (a : Int) else if a ≤ j ∧ j < a + m.length then bt m ((j - a : Nat) : Int) else bt l (j : Int) := by
  unfold wrC
  have hl := lay_len h
  rw [bt_set (by simp [hl]; omega), u8n hm, bt_set (by simp [hl]; omega), u8n ha, bt_lay h]
theorem cnt_of {l : List UInt8} {n : Nat} (h : bt l 0 = n) : cnt l = n := by unfold cnt; omega
/-- cells by their bytes -/
theorem cell_bt {l : List UInt8} {k j : Nat} (hl : plc l k + siz l k ≤ l.length) (hj : (j : Int) < siz l k) : bt (cellB l k) (j : Int) = bt l ((plc l k).toNat + j : Nat) := by
  obtain ⟨q1, q2, q3, q4⟩ := pl_bd l k
  unfold bt cellB
  simp only [Int.toNat_natCast, List.getD, List.getElem?_drop]
  rw [List.getElem?_take_of_lt (by omega)]
theorem cell_len {l : List UInt8} {k : Nat} (hl : plc l k + siz l k ≤ l.length) : (cellB l k).length = (siz l k).toNat := by
  obtain ⟨q1, q2, q3, q4⟩ := pl_bd l k
  unfold cellB
  rw [List.length_drop, List.length_take]; omega
theorem cell_same {l p : List UInt8} {i k : Nat} (hs : siz p k = siz l i) (hl : plc l i + siz l i ≤ l.length) (hp : plc p k + siz p k ≤ p.length)
    (hb : ∀ j : Nat, (j : Int) < siz l i → bt p ((plc p k).toNat + j : Nat) = bt l ((plc l i).toNat + j : Nat)) : cellB p k = cellB l i := by
  refine bt_ext (by rw [cell_len hl, cell_len hp, hs]) fun j hj => ?_
  rw [cell_len hp, hs] at hj
  rw [cell_bt hp (by omega), cell_bt hl (by omega)]
  exact hb j (by omega)
theorem cell_is {p m : List UInt8} {k a : Nat} (ha : plc p k = a) (hm : siz p k = m.length) (hp : a + m.length ≤ p.length) (hb : ∀ j : Nat, j < m.length → bt p ((a + j : Nat) : Int) = bt m (j : Int)) : cellB p k = m := by
  have hl : plc p k + siz p k ≤ p.length := by omega
  refine bt_ext (by rw [cell_len hl, hm]; simp) fun j hj => ?_
  rw [cell_len hl, hm] at hj
  rw [cell_bt hl (by omega), ha]
  simpa using hb j (by omega)
/-- all cells but one are the same -/
def Keep (l p : List UInt8) (s : Int) : Prop := ∀ i : Nat, i < 16 → (i : Int) ≠ s → hasB p i = hasB l i ∧ (hasB l i = true → cellB p i = cellB l i)
theorem has_iff {l : List UInt8} {i : Nat} : hasB l (i : Int) = true ↔ i < cnt l ∧ siz l i ≠ 0 := by
  have := cnt_eq l
  unfold hasB
  simp only [Bool.and_eq_true, decide_eq_true_eq, bne_iff_ne, Int.toNat_natCast]
  constructor
  · rintro ⟨a, b, c⟩; exact ⟨by omega, c⟩
  · rintro ⟨a, b⟩; exact ⟨by omega, by omega, b⟩
theorem has_eq {l p : List UInt8} {i : Nat} (h : (i < cnt p ∧ siz p i ≠ 0) ↔ (i < cnt l ∧ siz l i ≠ 0)) : hasB p (i : Int) = hasB l (i : Int) := by
  rw [Bool.eq_iff_iff, has_iff, has_iff]; exact h
theorem Pg.bd {l : List UInt8} (p : Pg l) {k : Nat} (hk : k < cnt l) (hs : siz l k ≠ 0) : bt l 1 ≤ plc l k ∧ plc l k + siz l k ≤ 64 := by
  have h := p.slots k hk
  have q := pl_bd l k
  unfold slotB at h
  split at h
  · rename_i hh
    rcases hh with hh | hh <;> omega
  · exact h
theorem Pg.nums {l : List UInt8} (p : Pg l) : bt l 0 = cnt l ∧ cnt l ≤ 16 ∧ 2 + 2 * (cnt l : Int) ≤ bt l 1 ∧ bt l 1 ≤ 64 := by
  have := cnt_eq l
  obtain ⟨h1, h2, h3⟩ := p.head
  omega
/-- the sum of the sizes, one of them turned -/
theorem sum_ext {l p : List UInt8} : ∀ n, (∀ i, i < n → siz p i = siz l i) → sumS p n = sumS l n
  | 0, _ => rfl
  | n + 1, h => by
    simp only [sumS]
    rw [sum_ext n fun i hi => h i (by omega), h n (by omega)]
theorem sum_one {l p : List UInt8} {s : Nat} : ∀ n, s < n → (∀ i, i < n → i ≠ s → siz p i = siz l i) → (sumS p n : Int) + siz l s = sumS l n + siz p s
  | 0, h, _ => by omega
  | n + 1, h, hn => by
    have q := pl_bd l n
    have q' := pl_bd p n
    simp only [sumS]
    by_cases hs : s = n
    · subst hs
      rw [sum_ext s fun i hi => hn i (by omega) (by omega)]
      omega
    · have := sum_one n (by omega) fun i hi hne => hn i (by omega) hne
      have := hn n (by omega) (fun e => hs e.symm)
      omega
/-- a page with one cell turned: its table and its bytes are as they were, but for a stretch that no other cell has -/
theorem turn_ok {l p : List UInt8} (w : Pg l) {s n low a len : Nat} (hl : p.length = 64) (h0 : bt p 0 = n) (h1 : bt p 1 = low) (hn : n ≤ 16) (hlow : 2 + 2 * n ≤ low) (h64 : low ≤ 64) (hs : s < n) (hc : cnt l ≤ n) (hcs : n ≤ cnt l + 1) (hcs' : n = cnt l + 1 → s = cnt l)
    (hP : plc p s = a) (hZ : siz p s = len) (hlen : 0 < len) (ha : low ≤ a) (hal : a + len ≤ 64) (hlowl : (low : Int) ≤ bt l 1)
    (ht : ∀ i, i < n → i ≠ s → plc p i = plc l i ∧ siz p i = siz l i)
    (hf : ∀ i, i < cnt l → i ≠ s → siz l i ≠ 0 → plc l i + siz l i ≤ a ∨ (a : Int) + len ≤ plc l i)
    (hb : ∀ j : Nat, low ≤ j → ¬ (a ≤ j ∧ j < a + len) → (bt l 1 : Int) ≤ j → bt p j = bt l j) :
    Pg p ∧ Keep l p s := by
  have hcp := cnt_of h0
  obtain ⟨w1, w2, w3, w4⟩ := w.nums
  have hlt : ∀ i, i < n → i ≠ s → i < cnt l := fun i hi hne => by
    by_cases hh : n = cnt l + 1
    · have := hcs' hh; omega
    · omega
  refine ⟨⟨hl, ⟨by omega, by omega, by omega⟩, fun i hi => ?_, fun i k hi hk => ?_, ?_⟩, fun i hi hne => ?_⟩
  · rw [hcp] at hi
    by_cases his : i = s
    · subst his
      unfold slotB
      rw [if_neg (by omega)]; omega
    · obtain ⟨t1, t2⟩ := ht i hi his
      have := w.slots i (hlt i hi his)
      unfold slotB at this ⊢
      rw [t1, t2]
      split at this
      · rename_i hh; rw [if_pos hh]; exact this
      · rename_i hh; rw [if_neg hh]; omega
  · rw [hcp] at hi
    have hkn : k < n := by omega
    by_cases his : i = s
    · subst his
      obtain ⟨t1, t2⟩ := ht k hkn (by omega)
      by_cases hz : siz l k = 0
      · exact .inr (.inl (by omega))
      · have := hf k (hlt k hkn (by omega)) (by omega) hz
        unfold apartB; omega
    · obtain ⟨t1, t2⟩ := ht i hi his
      by_cases hks : k = s
      · subst hks
        by_cases hz : siz l i = 0
        · exact .inl (by omega)
        · have := hf i (hlt i hi his) his hz
          unfold apartB; omega
      · obtain ⟨t3, t4⟩ := ht k hkn hks
        have := w.apart i k (hlt i hi his) hk
        unfold apartB at *; omega
  · rw [hcp]
    rintro ⟨g1, g2⟩
    by_cases hns : n - 1 = s
    · rw [hns] at g2; omega
    · have hh := hlt (n - 1) (by omega) hns
      have : n = cnt l := by
        by_cases hh : n = cnt l + 1
        · have := hcs' hh; omega
        · omega
      rw [(ht (n - 1) (by omega) hns).2, this] at g2
      exact w.last ⟨by omega, g2⟩
  · have hne' : i ≠ s := by omega
    have e : (i < cnt p ∧ siz p i ≠ 0) ↔ (i < cnt l ∧ siz l i ≠ 0) := by
      rw [hcp]
      constructor
      · rintro ⟨g1, g2⟩
        exact ⟨hlt i g1 hne', by rw [← (ht i g1 hne').2]; exact g2⟩
      · rintro ⟨g1, g2⟩
        exact ⟨by omega, by rw [(ht i (by omega) hne').2]; exact g2⟩
    refine ⟨has_eq e, fun hh => ?_⟩
    obtain ⟨g1, g2⟩ := has_iff.1 hh
    obtain ⟨t1, t2⟩ := ht i (by omega) hne'
    obtain ⟨b1, b2⟩ := w.bd g1 g2
    have q := pl_bd l i
    have := hf i g1 hne' g2
    refine cell_same t2 (by rw [w.len]; omega) (by rw [hl]; omega) fun j hj => ?_
    rw [t1]
    exact hb _ (by omega) (by omega) (by omega)
/-- the first empty slot is empty -/
theorem empG_is (l : List UInt8) : ∀ (q i : Nat), empG l q i < i + q → siz l (empG l q i) = 0
  | 0, i, h => by simp only [empG] at h; omega
  | q + 1, i, h => by
    simp only [empG] at h ⊢
    split
    · assumption
    · rename_i hz
      rw [if_neg hz] at h
      exact empG_is l q (i + 1) (by omega)
theorem empS_is {l : List UInt8} (h : empS l < cnt l) : siz l (empS l) = 0 := empG_is l _ _ (by unfold empS at h; omega)
/-- a cell that was put -/
theorem put_ok {l m : List UInt8} (hp : pagF l = 0) (hm : inB m.length 1 20 = true) (hc : (pu0 l m).1 = 0) :
    pagF (pu0 l m).2.2 = 0 ∧ Keep l (pu0 l m).2.2 (pu0 l m).2.1 ∧ hasB (pu0 l m).2.2 (pu0 l m).2.1 = true ∧ cellB (pu0 l m).2.2 (pu0 l m).2.1.toNat = m ∧ hasB l (pu0 l m).2.1 = false ∧
    (freS l - freS (pu0 l m).2.2 = m.length ∨ freS l - freS (pu0 l m).2.2 = m.length + 2) ∧ 0 ≤ (pu0 l m).2.1 ∧ (pu0 l m).2.1 < 16 := by
  have w := Pg.of hp
  obtain ⟨w1, w2, w3, w4⟩ := w.nums
  have hm' := inB_iff.1 hm
  have hE := empS_le l
  unfold pu0 at hc ⊢
  by_cases c1 : empS l = cnt l ∧ 16 ≤ cnt l
  · rw [if_pos c1] at hc; simp at hc
  rw [if_neg c1] at hc ⊢
  by_cases c2 : freS l < m.length + puM l
  · rw [if_pos c2] at hc; simp at hc
  rw [if_neg c2] at hc ⊢
  by_cases c3 : bt l 1 - m.length < 2 + 2 * puN l
  · rw [if_pos c3] at hc; simp at hc
  rw [if_neg c3] at hc ⊢
  simp only
  obtain ⟨n1, n2, n3, n4⟩ := puN_bd w2 c1
  have hA : ((puA l m : Nat) : Int) = bt l 1 - m.length := by unfold puA; omega
  have wl : puA l m + m.length ≤ l.length := by rw [w.len]; omega
  have pb : ∀ j : Nat, bt (puL l m) (j : Int) = if j = 1 then (puA l m : Int) else if j = 0 then (puN l : Int) else bt (wrC l (empS l) (puA l m) m) (j : Int) := fun j => by
    unfold puL
    rw [bt_set (by simp only [List.length_set]; rw [wrC_len wl, w.len]; omega), u8n (by omega), bt_set (by rw [wrC_len wl, w.len]; omega), u8n (by omega)]
  have wb : ∀ j : Nat, bt (wrC l (empS l) (puA l m) m) (j : Int) = _ := fun j => bt_wrC wl (by rw [w.len]; omega) (by omega) (by omega)
  have hlen : (puL l m).length = 64 := by
    unfold puL; simp only [List.length_set]; rw [wrC_len wl, w.len]
  have h0 : bt (puL l m) 0 = puN l := by
    have := pb 0; simpa using this
  have h1 : bt (puL l m) 1 = puA l m := by
    have := pb 1; simpa using this
  have hP : plc (puL l m) (empS l) = puA l m := by
    unfold plc; rw [pb, if_neg (by omega), if_neg (by omega), wb, if_neg (by omega), if_pos rfl]
  have hZ : siz (puL l m) (empS l) = m.length := by
    unfold siz; rw [pb, if_neg (by omega), if_neg (by omega), wb, if_pos rfl]
  have ht : ∀ i, i < puN l → i ≠ empS l → plc (puL l m) i = plc l i ∧ siz (puL l m) i = siz l i := fun i hi hne => by
    unfold plc siz
    refine ⟨?_, ?_⟩
    · rw [pb, if_neg (by omega), if_neg (by omega), wb, if_neg (by omega), if_neg (by omega), if_neg (by omega)]
    · rw [pb, if_neg (by omega), if_neg (by omega), wb, if_neg (by omega), if_neg (by omega), if_neg (by omega)]
  have hNc : puN l ≤ cnt l + 1 ∧ (puN l = cnt l + 1 → empS l = cnt l) := by
    unfold puN; split <;> omega
  obtain ⟨g1, g2⟩ := turn_ok w (p := puL l m) (s := empS l) (n := puN l) (low := puA l m) (a := puA l m) (len := m.length) hlen h0 h1 n1 (by omega) (by omega) n2 n4 hNc.1 hNc.2 hP hZ (by omega) (Nat.le_refl _) (by omega) (by omega) ht
    (fun i hi hne hz => by have := w.bd hi hz; omega)
    (fun j j1 j2 j3 => by rw [pb, if_neg (by omega), if_neg (by omega), wb, if_neg (by omega), if_neg (by omega), if_neg j2])
  have hcp := cnt_of h0
  refine ⟨g1.ok, g2, has_iff.2 ⟨by omega, by omega⟩, ?_, ?_, ?_, by omega, by omega⟩
  · rw [Int.toNat_natCast]
    refine cell_is hP hZ (by omega) fun j hj => ?_
    rw [pb, if_neg (by omega), if_neg (by omega), wb, if_neg (by omega), if_neg (by omega), if_pos (by omega)]
    congr 2; omega
  · rw [Bool.eq_false_iff]
    intro hh
    obtain ⟨a1, a2⟩ := has_iff.1 hh
    exact a2 (empS_is a1)
  · have hcl := cnt_eq l
    unfold freS
    rw [h0, hcp, w1]
    by_cases he : empS l = cnt l
    · have : puN l = cnt l + 1 := by unfold puN; rw [if_pos he]
      rw [this]
      simp only [sumS]
      rw [sum_ext (cnt l) fun i hi => (ht i (by omega) (by omega)).2, ← he, hZ]
      right; omega
    · have : puN l = cnt l := by unfold puN; rw [if_neg he]
      rw [this]
      have s1 := sum_one (l := l) (p := puL l m) (s := empS l) (cnt l) (by omega) fun i hi hne => (ht i (by omega) hne).2
      rw [empS_is (by omega), hZ] at s1
      left; omega
/-- a cell that was set -/
theorem set_ok {l m : List UInt8} {i : Int} (hc : (setR l i m).1 = 0) :
    pagF (setR l i m).2.2 = 0 ∧ Keep l (setR l i m).2.2 i ∧ hasB (setR l i m).2.2 i = true ∧ cellB (setR l i m).2.2 i.toNat = m ∧ (setR l i m).2.1 = i := by
  unfold setR at hc ⊢
  by_cases hp : pagF l = 0
  case neg => rw [if_pos hp] at hc; exact absurd hc hp
  rw [if_neg (by simp [hp])] at hc ⊢
  cases hm : inB m.length 1 20
  · rw [if_pos hm] at hc; simp at hc
  rw [if_neg (by simp [hm])] at hc ⊢
  cases hb : hasB l i
  · rw [if_pos hb] at hc; simp at hc
  rw [if_neg (by simp [hb])] at hc ⊢
  obtain ⟨k, rfl, hk, hz⟩ := hasB_nat hb
  have w := Pg.of hp
  obtain ⟨w1, w2, w3, w4⟩ := w.nums
  have hm' := inB_iff.1 hm
  obtain ⟨b1, b2⟩ := w.bd hk hz
  have q := pl_bd l k
  rw [Int.toNat_natCast] at hc ⊢
  by_cases c1 : (m.length : Int) ≤ siz l k
  · rw [if_pos c1] at hc ⊢
    simp only
    generalize hA : (plc l k + siz l k - m.length).toNat = a
    have ha : (a : Int) = plc l k + siz l k - m.length := by omega
    have wl : a + m.length ≤ l.length := by rw [w.len]; omega
    have wb : ∀ j : Nat, bt (wrC l k a m) (j : Int) = _ := fun j => bt_wrC wl (by rw [w.len]; omega) (by omega) (by omega)
    have hlen : (wrC l k a m).length = 64 := by rw [wrC_len wl, w.len]
    have h0 : bt (wrC l k a m) 0 = cnt l := by
      have := wb 0
      rw [if_neg (by omega), if_neg (by omega), if_neg (by omega)] at this
      rw [show (0 : Int) = ((0 : Nat) : Int) from rfl, this]; exact w1
    have h1 : bt (wrC l k a m) 1 = ((bt l 1).toNat : Nat) := by
      have := wb 1
      rw [if_neg (by omega), if_neg (by omega), if_neg (by omega)] at this
      rw [show (1 : Int) = ((1 : Nat) : Int) from rfl, this]
      rw [show ((1 : Nat) : Int) = 1 from rfl]; omega
    have hP : plc (wrC l k a m) k = a := by unfold plc; rw [wb, if_neg (by omega), if_pos rfl]
    have hZ : siz (wrC l k a m) k = m.length := by unfold siz; rw [wb, if_pos rfl]
    have ht : ∀ i, i < cnt l → i ≠ k → plc (wrC l k a m) i = plc l i ∧ siz (wrC l k a m) i = siz l i := fun i hi hne => by
      unfold plc siz
      refine ⟨?_, ?_⟩
      · rw [wb, if_neg (by omega), if_neg (by omega), if_neg (by omega)]
      · rw [wb, if_neg (by omega), if_neg (by omega), if_neg (by omega)]
    obtain ⟨g1, g2⟩ := turn_ok w (p := wrC l k a m) (s := k) (n := cnt l) (low := (bt l 1).toNat) (a := a) (len := m.length) hlen h0 h1 w2 (by omega) (by omega) hk (Nat.le_refl _) (by omega) (by omega) hP hZ (by omega) (by omega) (by omega) (by omega) ht
      (fun i hi hne hz' => by
        have := w.ap hi hk hne
        unfold apartB at this; omega)
      (fun j j1 j2 j3 => by rw [wb, if_neg (by omega), if_neg (by omega), if_neg j2])
    refine ⟨g1.ok, g2, has_iff.2 ⟨by rw [cnt_of h0]; exact hk, by omega⟩, cell_is hP hZ (by omega) fun j hj => ?_, trivial⟩
    rw [wb, if_neg (by omega), if_neg (by omega), if_pos (by omega)]
    congr 2; omega
  rw [if_neg c1] at hc ⊢
  by_cases c2 : freS l + siz l k < m.length
  · rw [if_pos c2] at hc; simp at hc
  rw [if_neg c2] at hc ⊢
  by_cases c3 : bt l 1 - m.length < 2 + 2 * bt l 0
  · rw [if_pos c3] at hc; simp at hc
  rw [if_neg c3] at hc ⊢
  simp only
  generalize hA : (bt l 1 - m.length).toNat = a
  have ha : (a : Int) = bt l 1 - m.length := by omega
  have wl : a + m.length ≤ l.length := by rw [w.len]; omega
  have wb : ∀ j : Nat, bt ((wrC l k a m).set 1 (UInt8.ofNat a)) (j : Int) = if j = 1 then (a : Int) else if j = 3 + 2 * k then (m.length : Int) else if j = 2 + 2 * k then (a : Int) else if a ≤ j ∧ j < a + m.length then bt m ((j - a : Nat) : Int) else bt l (j : Int) := fun j => by
    rw [bt_set (by rw [wrC_len wl, w.len]; omega), u8n (by omega), bt_wrC wl (by rw [w.len]; omega) (by omega) (by omega)]
  have hlen : ((wrC l k a m).set 1 (UInt8.ofNat a)).length = 64 := by rw [List.length_set, wrC_len wl, w.len]
  generalize (wrC l k a m).set 1 (UInt8.ofNat a) = p at wb hlen ⊢
  have h0 : bt p 0 = cnt l := by
    have := wb 0
    rw [if_neg (by omega), if_neg (by omega), if_neg (by omega), if_neg (by omega)] at this
    rw [show (0 : Int) = ((0 : Nat) : Int) from rfl, this]; exact w1
  have h1 : bt p 1 = a := by have := wb 1; simpa using this
  have hP : plc p k = a := by unfold plc; rw [wb, if_neg (by omega), if_neg (by omega), if_pos rfl]
  have hZ : siz p k = m.length := by unfold siz; rw [wb, if_neg (by omega), if_pos rfl]
  have ht : ∀ i, i < cnt l → i ≠ k → plc p i = plc l i ∧ siz p i = siz l i := fun i hi hne => by
    unfold plc siz
    refine ⟨?_, ?_⟩
    · rw [wb, if_neg (by omega), if_neg (by omega), if_neg (by omega), if_neg (by omega)]
    · rw [wb, if_neg (by omega), if_neg (by omega), if_neg (by omega), if_neg (by omega)]
  obtain ⟨g1, g2⟩ := turn_ok w (p := p) (s := k) (n := cnt l) (low := a) (a := a) (len := m.length) hlen h0 h1 w2 (by omega) (by omega) hk (Nat.le_refl _) (by omega) (by omega) hP hZ (by omega) (Nat.le_refl _) (by omega) (by omega) ht
    (fun i hi hne hz' => by have := w.bd hi hz'; omega)
    (fun j j1 j2 j3 => by rw [wb, if_neg (by omega), if_neg (by omega), if_neg (by omega), if_neg j2])
  refine ⟨g1.ok, g2, has_iff.2 ⟨by rw [cnt_of h0]; exact hk, by omega⟩, cell_is hP hZ (by omega) fun j hj => ?_, trivial⟩
  rw [wb, if_neg (by omega), if_neg (by omega), if_neg (by omega), if_pos (by omega)]
  congr 2; omega
/-- the count without empty slots at the end -/
theorem trim_is (l : List UInt8) : ∀ n, (∀ j, trimN l n ≤ j → j < n → siz l j = 0) ∧ ¬ (0 < trimN l n ∧ siz l (trimN l n - 1) = 0)
  | 0 => ⟨fun j _ h => by omega, fun h => by simp [trimN] at h⟩
  | n + 1 => by
    unfold trimN
    split
    · rename_i hz
      obtain ⟨a, b⟩ := trim_is l n
      refine ⟨fun j h1 h2 => ?_, b⟩
      by_cases hj : j = n
      · subst hj; exact hz
      · exact a j h1 (by omega)
    · rename_i hz
      exact ⟨fun j h1 h2 => by omega, fun hh => hz hh.2⟩
/-- a slot that was let go -/
theorem drop_ok {l : List UInt8} {k : Nat} (hp : pagF l = 0) (hk : k < cnt l) : pagF (dropB l k) = 0 ∧ Keep l (dropB l k) k ∧ hasB (dropB l k) (k : Int) = false := by
  have w := Pg.of hp
  obtain ⟨w1, w2, w3, w4⟩ := w.nums
  have hn := trimN_le (dropL l k) (cnt l)
  obtain ⟨t1, t2⟩ := trim_is (dropL l k) (cnt l)
  have db : ∀ j : Nat, bt (dropL l k) (j : Int) = if j = 3 + 2 * k then 0 else if j = 2 + 2 * k then 0 else bt l (j : Int) := fun j => by
    unfold dropL
    rw [bt_set (by rw [List.length_set, w.len]; omega), bt_set (by rw [w.len]; omega)]; rfl
  have hlen : (dropB l k).length = 64 := by rw [dropB_len, w.len]
  unfold dropB at hlen ⊢
  generalize hN : trimN (dropL l k) (cnt l) = n at hn t1 t2 hlen ⊢
  have pb : ∀ j : Nat, bt (cntB (dropL l k) n) (j : Int) = if j = 0 then (n : Int) else bt (dropL l k) (j : Int) := fun j => by
    unfold cntB
    rw [bt_set (by rw [dropL_len, w.len]; omega), u8n (by omega)]
  have ps : ∀ i, siz (cntB (dropL l k) n) i = siz (dropL l k) i := fun i => cntB_siz
  generalize cntB (dropL l k) n = p at pb ps hlen ⊢
  have h0 : bt p 0 = n := by have := pb 0; simpa using this
  have h1 : bt p 1 = bt l 1 := by
    have := pb 1
    rw [if_neg (by omega), db, if_neg (by omega), if_neg (by omega)] at this
    exact this
  have hk0 : plc p k = 0 ∧ siz p k = 0 := by
    unfold plc siz
    refine ⟨?_, ?_⟩
    · rw [pb, if_neg (by omega), db, if_neg (by omega), if_pos rfl]
    · rw [pb, if_neg (by omega), db, if_pos rfl]
  have ht : ∀ i, i ≠ k → plc p i = plc l i ∧ siz p i = siz l i := fun i hne => by
    unfold plc siz
    refine ⟨?_, ?_⟩
    · rw [pb, if_neg (by omega), db, if_neg (by omega), if_neg (by omega)]
    · rw [pb, if_neg (by omega), db, if_neg (by omega), if_neg (by omega)]
  have hcp := cnt_of h0
  have hg : Pg p := ⟨hlen, ⟨by omega, by omega, by omega⟩, fun i hi => by
      by_cases hik : i = k
      · subst hik; unfold slotB; rw [if_pos (.inl hk0.1)]; omega
      · have := w.slots i (by omega)
        unfold slotB at this ⊢
        rw [(ht i hik).1, (ht i hik).2, h1]; exact this,
    fun i j hi hj => by
      by_cases hik : i = k
      · subst hik; exact .inl hk0.2
      · by_cases hjk : j = k
        · subst hjk; exact .inr (.inl hk0.2)
        · have := w.apart i j (by omega) hj
          unfold apartB at this ⊢
          rw [(ht i hik).1, (ht i hik).2, (ht j hjk).1, (ht j hjk).2]; exact this,
    by rw [hcp, ps]; exact t2⟩
  refine ⟨hg.ok, fun i hi hne => ?_, ?_⟩
  · have hik : i ≠ k := by omega
    have e : (i < cnt p ∧ siz p i ≠ 0) ↔ (i < cnt l ∧ siz l i ≠ 0) := by
      rw [hcp, (ht i hik).2]
      constructor
      · rintro ⟨g1, g2⟩; exact ⟨by omega, g2⟩
      · rintro ⟨g1, g2⟩
        refine ⟨?_, g2⟩
        apply Classical.byContradiction
        intro hh
        have := t1 i (by omega) g1
        rw [← ps, (ht i hik).2] at this
        exact g2 this
    refine ⟨has_eq e, fun hh => ?_⟩
    obtain ⟨g1, g2⟩ := has_iff.1 hh
    obtain ⟨b1, b2⟩ := w.bd g1 g2
    have q := pl_bd l i
    refine cell_same (ht i hik).2 (by rw [w.len]; omega) (by rw [(ht i hik).1, (ht i hik).2, hlen]; omega) fun j hj => ?_
    rw [(ht i hik).1, pb, if_neg (by omega), db, if_neg (by omega), if_neg (by omega)]
  · rw [Bool.eq_false_iff]
    intro hh
    exact (has_iff.1 hh).2 hk0.2
/-- what a page that was made dense has in it -/
structure Den (l : List UInt8) (n i : Nat) (p : List UInt8) : Prop where
  len : p.length = 64
  cnt : bt p 0 = n
  siz : ∀ j, j < n → Vm.siz p j = Vm.siz l j
  plc : ∀ j, j < i → Vm.plc p j = if Vm.siz l j = 0 then 0 else 64 - (sumS l (j + 1) : Int)
  old : ∀ j, i ≤ j → j < n → Vm.plc p j = Vm.plc l j
  cel : ∀ j, j < i → ∀ y : Nat, (y : Int) < Vm.siz l j → bt p ((64 - sumS l (j + 1) + y : Nat) : Int) = bt (cellB l j) (y : Int)
  zer : ∀ y : Nat, 2 + 2 * n ≤ y → y < 64 - sumS l i → bt p (y : Int) = 0
theorem sumS_mono (l : List UInt8) {i j : Nat} (h : i ≤ j) : sumS l i ≤ sumS l j := by
  induction j with
  | zero => rw [Nat.le_zero.1 h]; exact Nat.le_refl _
  | succ j ih =>
    by_cases hh : i = j + 1
    · rw [hh]; exact Nat.le_refl _
    · have := ih (by omega); simp only [sumS]; omega
theorem Den.step {l p : List UInt8} {i : Nat} (hp : pagF l = 0) (hi : i < Vm.cnt l) (w : Den l (Vm.cnt l) i p) : Den l (Vm.cnt l) (i + 1) (cmpS l i (p, 64 - sumS l i)).1 ∧ (cmpS l i (p, 64 - sumS l i)).2 = 64 - sumS l (i + 1) := by
  have g := Pg.of hp
  obtain ⟨w1, w2, w3, w4⟩ := g.nums
  have hl := cellB_len' hp hi
  have q := pl_bd l i
  have hb := sumS_bd hp (i := i + 1) (by omega)
  have hs : sumS l (i + 1) = sumS l i + (Vm.siz l i).toNat := rfl
  unfold cmpS
  by_cases hz : Vm.siz l i = 0
  · rw [if_pos hz]
    have hs' : sumS l (i + 1) = sumS l i := by omega
    have := g.slots i hi
    unfold slotB at this
    rw [if_pos (.inr hz)] at this
    refine ⟨⟨w.len, w.cnt, w.siz, fun j hj => ?_, fun j h1 h2 => w.old j (by omega) h2, fun j hj y hy => ?_, fun y h1 h2 => w.zer y h1 (by omega)⟩, by omega⟩
    · by_cases hji : j = i
      · subst hji; rw [if_pos hz, w.old j (Nat.le_refl _) hi]; omega
      · exact w.plc j (by omega)
    · by_cases hji : j = i
      · subst hji; omega
      · exact w.cel j (by omega) y hy
  · rw [if_neg hz]
    generalize hA : 64 - sumS l i - (cellB l i).length = a
    have ha : (a : Int) = 64 - sumS l (i + 1) := by omega
    have wl : a + (cellB l i).length ≤ p.length := by rw [w.len]; omega
    have wb : ∀ j : Nat, bt ((lay p a (cellB l i)).set (2 + 2 * i) (UInt8.ofNat a)) (j : Int) = if j = 2 + 2 * i then (a : Int) else if a ≤ j ∧ j < a + (cellB l i).length then bt (cellB l i) ((j - a : Nat) : Int) else bt p (j : Int) := fun j => by
      rw [bt_set (by rw [lay_len wl, w.len]; omega), u8n (by omega), bt_lay wl]
    have hlen : ((lay p a (cellB l i)).set (2 + 2 * i) (UInt8.ofNat a)).length = 64 := by rw [List.length_set, lay_len wl, w.len]
    simp only
    generalize (lay p a (cellB l i)).set (2 + 2 * i) (UInt8.ofNat a) = p' at wb hlen ⊢
    refine ⟨⟨hlen, ?_, fun j hj => ?_, fun j hj => ?_, fun j h1 h2 => ?_, fun j hj y hy => ?_, fun y h1 h2 => ?_⟩, by omega⟩
    · have := wb 0
      rw [if_neg (by omega), if_neg (by omega)] at this
      exact this.trans w.cnt
    · have := wb (3 + 2 * j)
      rw [if_neg (by omega), if_neg (by omega)] at this
      exact this.trans (w.siz j hj)
    · by_cases hji : j = i
      · subst hji
        rw [if_neg hz]
        unfold Vm.plc
        rw [wb, if_pos rfl]; omega
      · rw [← w.plc j (by omega)]
        unfold Vm.plc
        rw [wb, if_neg (by omega), if_neg (by omega)]
    · rw [← w.old j (by omega) h2]
      unfold Vm.plc
      rw [wb, if_neg (by omega), if_neg (by omega)]
    · by_cases hji : j = i
      · subst hji
        rw [wb, if_neg (by omega), if_pos (by omega)]
        congr 2; omega
      · have hm := sumS_mono l (i := j + 1) (j := i) (by omega)
        rw [← w.cel j (by omega) y hy, wb, if_neg (by omega), if_neg (by omega)]
    · rw [wb, if_neg (by omega), if_neg (by omega)]
      exact w.zer y h1 (by omega)
theorem Den.all {l : List UInt8} (hp : pagF l = 0) : ∀ (k i : Nat) (p : List UInt8), i + k = Vm.cnt l → Den l (Vm.cnt l) i p → Den l (Vm.cnt l) (Vm.cnt l) (Vm.cmp l k i (p, 64 - sumS l i)).1 ∧ (Vm.cmp l k i (p, 64 - sumS l i)).2 = 64 - sumS l (Vm.cnt l)
  | 0, i, p, h, w => by
    have : i = Vm.cnt l := by omega
    subst this
    exact ⟨w, rfl⟩
  | k + 1, i, p, h, w => by
    obtain ⟨a, b⟩ := w.step hp (by omega)
    have := Den.all hp k (i + 1) _ (by omega) a
    rw [← b] at this
    exact this
/-- a page made dense -/
theorem den_ok {l : List UInt8} (hp : pagF l = 0) : Den l (cnt l) (cnt l) (cmpL l) ∧ bt (cmpL l) 1 = 64 - sumS l (cnt l) := by
  have g := Pg.of hp
  obtain ⟨w1, w2, w3, w4⟩ := g.nums
  have hb := sumS_bd hp (Nat.le_refl (cnt l))
  have ht : (l.take (2 + 2 * cnt l)).length = 2 + 2 * cnt l := by rw [List.length_take, g.len]; omega
  have hz : zer64.length = 64 := by simp [zer64]
  have ob : ∀ j : Nat, bt (out0 l) (j : Int) = if j < 2 + 2 * cnt l then bt l (j : Int) else 0 := fun j => by
    unfold out0
    rw [bt_lay (by rw [ht, hz]; omega), ht]
    by_cases hj : j < 2 + 2 * cnt l
    · rw [if_pos (by omega), if_pos hj]
      unfold bt
      simp only [Int.toNat_natCast, List.getD, Nat.sub_zero]
      rw [List.getElem?_take_of_lt hj]
    · rw [if_neg (by omega), if_neg hj]
      unfold bt zer64
      simp only [Int.toNat_natCast, List.getD]
      by_cases h64 : j < 64
      · rw [List.getElem?_replicate, if_pos h64]; rfl
      · rw [List.getElem?_eq_none (by simp; omega)]; rfl
  have d0 : Den l (cnt l) 0 (out0 l) := ⟨by unfold out0; rw [lay_len (by rw [ht, hz]; omega), hz],
    by have := ob 0; rw [if_pos (by omega)] at this; exact this.trans w1,
    fun j hj => by unfold siz; rw [ob, if_pos (by omega)],
    fun j hj => by omega, fun j _ hj => by unfold plc; rw [ob, if_pos (by omega)], fun j hj => by omega, fun y h1 h2 => by rw [ob, if_neg (by omega)]⟩
  obtain ⟨a, b⟩ := d0.all hp (cnt l) 0 (out0 l) (by omega)
  have e0 : sumS l 0 = 0 := rfl
  rw [e0] at a b
  unfold cmpL cmpR
  rw [b]
  rw [show 64 - 0 = 64 from rfl] at a
  have wb : ∀ j : Nat, bt ((cmp l (cnt l) 0 (out0 l, 64)).1.set 1 (UInt8.ofNat (64 - sumS l (cnt l)))) (j : Int) = if j = 1 then ((64 - sumS l (cnt l) : Nat) : Int) else bt (cmp l (cnt l) 0 (out0 l, 64)).1 (j : Int) := fun j => by
    rw [bt_set (by rw [a.len]; omega), u8n (by omega)]
  have hlen : ((cmp l (cnt l) 0 (out0 l, 64)).1.set 1 (UInt8.ofNat (64 - sumS l (cnt l)))).length = 64 := by rw [List.length_set, a.len]
  generalize (cmp l (cnt l) 0 (out0 l, 64)).1.set 1 (UInt8.ofNat (64 - sumS l (cnt l))) = p at wb hlen ⊢
  refine ⟨⟨hlen, ?_, fun j hj => ?_, fun j hj => ?_, fun j h1 h2 => ?_, fun j hj y hy => ?_, fun y h1 h2 => ?_⟩, ?_⟩
  · have := wb 0; rw [if_neg (by omega)] at this; exact this.trans a.cnt
  · rw [← a.siz j hj]; unfold siz; rw [wb, if_neg (by omega)]
  · rw [← a.plc j hj]; unfold plc; rw [wb, if_neg (by omega)]
  · rw [← a.old j h1 h2]; unfold plc; rw [wb, if_neg (by omega)]
  · have := sumS_mono l (i := j + 1) (j := cnt l) (by omega)
    rw [← a.cel j hj y hy, wb, if_neg (by omega)]
  · rw [← a.zer y h1 h2, wb, if_neg (by omega)]
  · have := wb 1; rw [if_pos rfl] at this
    rw [show (1 : Int) = ((1 : Nat) : Int) from rfl, this]; omega
theorem Den.pg {l p : List UInt8} (hp : pagF l = 0) (w : Den l (Vm.cnt l) (Vm.cnt l) p) (h1 : bt p 1 = 64 - sumS l (Vm.cnt l)) : Pg p ∧ Keep l p (-1) ∧ freS p = freS l := by
  have g := Pg.of hp
  obtain ⟨w1, w2, w3, w4⟩ := g.nums
  have hb := sumS_bd hp (Nat.le_refl (Vm.cnt l))
  have hcp := cnt_of w.cnt
  have hlo : ∀ j, j < Vm.cnt l → sumS l (j + 1) ≤ sumS l (Vm.cnt l) := fun j hj => sumS_mono l (by omega)
  refine ⟨⟨w.len, ⟨by rw [w.cnt]; omega, by rw [w.cnt]; omega, by omega⟩, fun i hi => ?_, fun i k hi hk => ?_, ?_⟩, fun i hi hne => ?_, ?_⟩
  · rw [hcp] at hi
    have := w.plc i hi
    have h2 := w.siz i hi
    have q := pl_bd l i
    have := hlo i hi
    have hs : sumS l (i + 1) = sumS l i + (Vm.siz l i).toNat := rfl
    unfold slotB
    by_cases hz : Vm.siz l i = 0
    · rw [if_pos hz] at *; rw [if_pos (.inl (by assumption))]; omega
    · rw [if_neg hz] at *; rw [if_neg (by omega)]; omega
  · rw [hcp] at hi
    have p1 := w.plc i hi
    have s1 := w.siz i hi
    have p2 := w.plc k (by omega)
    have s2 := w.siz k (by omega)
    have q := pl_bd l i
    have q2 := pl_bd l k
    have hm := sumS_mono l (i := k + 1) (j := i) (by omega)
    have h3 := hlo i hi
    have e1 : sumS l (i + 1) = sumS l i + (Vm.siz l i).toNat := rfl
    unfold apartB
    by_cases hz : Vm.siz l i = 0
    · left; omega
    · by_cases hz2 : Vm.siz l k = 0
      · right; left; omega
      · rw [if_neg hz] at p1; rw [if_neg hz2] at p2
        right; right; left; omega
  · rw [hcp]
    rintro ⟨a, b⟩
    rw [w.siz _ (by omega)] at b
    exact g.last ⟨a, b⟩
  · have e : (i < Vm.cnt p ∧ Vm.siz p i ≠ 0) ↔ (i < Vm.cnt l ∧ Vm.siz l i ≠ 0) := by
      rw [hcp]
      constructor <;> (rintro ⟨a, b⟩; refine ⟨a, ?_⟩)
      · rwa [w.siz i a] at b
      · rwa [w.siz i a]
    refine ⟨has_eq e, fun hh => ?_⟩
    obtain ⟨a, b⟩ := has_iff.1 hh
    have q := pl_bd l i
    have h3 := hlo i a
    have e1 : sumS l (i + 1) = sumS l i + (Vm.siz l i).toNat := rfl
    obtain ⟨b1, b2⟩ := g.bd a b
    have pp := w.plc i a
    rw [if_neg b] at pp
    refine cell_same (w.siz i a) (by rw [g.len]; omega) (by rw [w.siz i a, w.len]; omega) fun j hj => ?_
    have hc := w.cel i a j hj
    rw [cell_bt (by rw [g.len]; omega) hj] at hc
    rw [← hc]
    congr 1; omega
  · unfold freS
    rw [hcp, w.cnt, w1, sum_ext _ w.siz]
theorem den_uniq {l l' p p' : List UInt8} {n : Nat} (w : Den l n n p) (w' : Den l' n n p') (hs : ∀ j, j < n → siz l j = siz l' j) (hc : ∀ j, j < n → siz l j ≠ 0 → cellB l j = cellB l' j) (h1 : bt p 1 = bt p' 1) (hle : sumS l n ≤ 64) : p = p' := by
  have hS : ∀ j, j ≤ n → sumS l j = sumS l' j := fun j hj => sum_ext j fun i hi => hs i (by omega)
  refine bt_ext (by rw [w.len, w'.len]) fun y hy => ?_
  rw [w.len] at hy
  by_cases y0 : y = 0
  · subst y0; exact w.cnt.trans w'.cnt.symm
  by_cases y1 : y = 1
  · subst y1; exact h1
  by_cases y2 : y < 2 + 2 * n
  · by_cases he : y % 2 = 0
    · obtain ⟨j, rfl⟩ : ∃ j, y = 2 + 2 * j := ⟨(y - 2) / 2, by omega⟩
      have a := w.plc j (by omega)
      have b := w'.plc j (by omega)
      rw [← hs j (by omega), ← hS (j + 1) (by omega)] at b
      exact a.trans b.symm
    · obtain ⟨j, rfl⟩ : ∃ j, y = 3 + 2 * j := ⟨(y - 3) / 2, by omega⟩
      have a := w.siz j (by omega)
      have b := w'.siz j (by omega)
      rw [hs j (by omega)] at a
      exact a.trans b.symm
  by_cases y3 : y < 64 - sumS l n
  · rw [w.zer y (by omega) y3, w'.zer y (by omega) (by rw [← hS n (Nat.le_refl _)]; exact y3)]
  · have find : ∀ i, i ≤ n → 64 - sumS l i ≤ y → ∃ j, j < i ∧ 64 - sumS l (j + 1) ≤ y ∧ y < 64 - sumS l j := by
      intro i
      induction i with
      | zero => intro _ h; simp only [sumS] at h; omega
      | succ i ih =>
        intro hi h
        by_cases hh : 64 - sumS l i ≤ y
        · obtain ⟨j, a, b, c⟩ := ih (by omega) hh
          exact ⟨j, by omega, b, c⟩
        · exact ⟨i, by omega, h, by omega⟩
    obtain ⟨j, hj, a, b⟩ := find n (Nat.le_refl _) (by omega)
    have hm := sumS_mono l (i := j + 1) (j := n) (by omega)
    have e1 : sumS l (j + 1) = sumS l j + (siz l j).toNat := rfl
    have q := pl_bd l j
    have c1 := w.cel j hj (y - (64 - sumS l (j + 1))) (by omega)
    have c2 := w'.cel j hj (y - (64 - sumS l (j + 1))) (by rw [← hs j hj]; omega)
    rw [← hS (j + 1) (by omega)] at c2
    rw [show 64 - sumS l (j + 1) + (y - (64 - sumS l (j + 1))) = y from by omega] at c1 c2
    rw [c1, c2, hc j hj (by omega)]
/-- a page made dense: what is known of it -/
theorem comp_ok {l : List UInt8} (hp : pagF l = 0) : pagF (cmpL l) = 0 ∧ Keep l (cmpL l) (-1) ∧ freS (cmpL l) = freS l ∧ bt (cmpL l) 1 - (2 + 2 * bt (cmpL l) 0) = freS (cmpL l) ∧ cmpL (cmpL l) = cmpL l := by
  obtain ⟨a, b⟩ := den_ok hp
  obtain ⟨g1, g2, g3⟩ := a.pg hp b
  have hb := sumS_bd hp (Nat.le_refl (cnt l))
  have w := Pg.of hp
  obtain ⟨w1, w2, w3, w4⟩ := w.nums
  have hcp := cnt_of a.cnt
  refine ⟨g1.ok, g2, g3, ?_, ?_⟩
  · unfold freS
    rw [b, a.cnt, hcp, sum_ext _ a.siz]; omega
  · obtain ⟨a', b'⟩ := den_ok g1.ok
    rw [hcp] at a' b'
    refine den_uniq a' a a.siz (fun j hj hz => ?_) (by rw [b, b', sum_ext _ a.siz]) (by rw [sum_ext _ a.siz]; omega)
    rw [a.siz j hj] at hz
    exact (g2 j (by omega) (by omega)).2 (has_iff.2 ⟨hj, hz⟩)
end Vm
/-
  What is drawn out of bytes: pages.
-/
namespace Vm
open Go
/-! a new page -/
def newL (c : Int) : List UInt8 := ((List.replicate 64 (UInt8.ofNat c.toNat)).set 0 0).set 1 64
theorem newL_len (c : Int) : (newL c).length = 64 := by simp [newL]
theorem newL_bt (c : Int) (j : Nat) : bt (newL c) (j : Int) = if j = 1 then 64 else if j = 0 then 0 else bt (List.replicate 64 (UInt8.ofNat c.toNat)) (j : Int) := by
  unfold newL
  rw [bt_set (by simp), bt_set (by simp)]; rfl
theorem newL_ok (c : Int) : pagF (newL c) = 0 := by
  have h0 : bt (newL c) 0 = (0 : Nat) := by have := newL_bt c 0; simpa using this
  have h1 : bt (newL c) 1 = 64 := by have := newL_bt c 1; simpa using this
  have hc := cnt_of h0
  exact (Pg.ok ⟨newL_len c, ⟨by omega, by omega, by omega⟩, fun i hi => by omega, fun i k hi => by omega, fun hh => by omega⟩)
theorem newL_free (c : Int) : freS (newL c) = 62 := by
  have h0 : bt (newL c) 0 = (0 : Nat) := by have := newL_bt c 0; simpa using this
  unfold freS
  rw [cnt_of h0, h0]; rfl
theorem fl64 (x : S) : ((List.range 64).map fun _ => [x]).flatten = List.replicate 64 x := rfl
theorem f_l2New {c : Int} (h0 : 0 ≤ c) (h1 : c < 256) (n : Nat) : ∃ h', call Ev Fn.spec_l2New [iv .u8 c] (D n) = some (sv n 0 64, h') ∧ NewB n h' (sv n 0 64) (newL c) (some n) := by
  rw [eq_spec_l2New, mk64, ob]
  obtain ⟨h', e1, n1, g1, _⟩ := fill_loop (z := 1) (n := 64) (b := n) (T := fun _ => [S.int .u8 c]) (L := fun i h => Lp.spec_l2New 0 [iv .u8 c, sv n 0 64, iv .i64 i] h) (fin := [sv n 0 64]) (fun _ _ => rfl)
    (fun i h hi hb => by
      refine ⟨iv .u8 c, [iv .u8 c, sv n 0 64, iv .i64 ((i + 1 : Nat) : Int)], .inl ⟨_, rfl, rfl, rfl⟩, ?_⟩
      show Lp.spec_l2New 0 _ h = _
      rw [eq_spec_l2New_l0, vcase_b, if_pos (by simp; omega), idxK_sv hi, w64 (by omega) (by omega), show (i : Int) + 1 = ((i + 1 : Nat) : Int) from by omega])
    (fun h => by
      show Lp.spec_l2New 0 _ h = _
      rw [eq_spec_l2New_l0, vcase_b, if_neg (by simp), tidy_self])
    64 0 ((D n).new 1 (zer64.map cell8)) (zer64.map cell8) (by omega) (by simp) (by rw [List.range_zero]; exact new_g (D n) _ _) (by simp [zer64])
  rw [D_n, show iv .i64 0 = iv .i64 ((0 : Nat) : Int) from rfl, e1]
  simp only [ob, lcase_done, gx0]
  have hc : (List.replicate 64 (S.int .u8 c)) = (List.replicate 64 (UInt8.ofNat c.toNat)).map cell8 := by
    rw [List.map_replicate]
    congr 1
    exact u8i ⟨h0, h1⟩
  rw [fl64, hc] at g1
  simp at n1
  have w : BysW h' (sv n 0 64) (List.replicate 64 (UInt8.ofNat c.toNat)) n := ⟨by simp, by omega, g1⟩
  rw [idxK_sv (by omega), w.set (c := 0) (x := 0) (by simp) rfl, show iv .i64 1 = iv .i64 ((1 : Nat) : Int) from rfl, idxK_sv (by omega), (w.set_w).set (c := 64) (x := 64) (by simp) rfl]
  have w2 := (w.set_w (i := 0) (c := 0)).set_w (i := 1) (c := 64)
  refine ⟨_, rfl, w2, by rw [put_n, put_n]; omega, fun b hb => by cases hb; exact Nat.le_refl _, fun b h2 h3 s hs => ?_⟩
  rw [put_n, put_n, n1] at h3
  have hbn : b = n := by omega
  rw [hbn] at hs
  have hs' := (congrArg (fun x => s ∈ Blk.cells x) w2.g).mp hs
  obtain ⟨c, _, rfl⟩ := List.mem_map.1 hs'
  rfl
theorem NewB.over {h h1 : H} {v : V} {m : List UInt8} {c : Nat} (w : NewB h.n h1 v m (some c)) : Up h (h.over h1) ∧ BysW (h.over h1) v m c ∧ h.n ≤ c := by
  have hle := w.le
  have hc := w.new c rfl
  exact ⟨up_over hle, ⟨(show BysW h1 v m c from w.own).v, by rw [over_n hle]; exact (show BysW h1 v m c from w.own).n, by rw [over_ge hc]; exact (show BysW h1 v m c from w.own).g⟩, hc⟩
theorem NewB.some_of {n : Nat} {h : H} {v : V} {l : List UInt8} {o : Option Nat} (w : NewB n h v l o) (hl : l ≠ []) : ∃ c, NewB n h v l (some c) := by
  cases o with
  | some c => exact ⟨c, w⟩
  | none => exact absurd w.own.2 hl
theorem BysW.dr {q b k : Nat} {ms : List UInt8} {l : List UInt8} {a N : Nat} {h h' : H} (w : BysW h (sv q 0 k) ms q) (r : Dr b l a N h h') (hq : q ≠ b) : BysW h' (sv q 0 k) ms q := ⟨w.v, by have := w.n; have := r.n; omega, by rw [r.o q w.n hq]; exact w.g⟩
theorem BysW.fr {q k : Nat} {ms : List UInt8} {h h' : H} (w : BysW h (sv q 0 k) ms q) (hn : h.n ≤ h'.n) (hg : h'.g q = h.g q) : BysW h' (sv q 0 k) ms q := ⟨w.v, by have := w.n; omega, hg.trans w.g⟩
/-! a page with which something was done -/
theorem lp_right {b : Nat} {l : List UInt8} (hl : l.length ≤ 1048576) : ∀ (k : Nat) (a q n0 : Nat) (p : List UInt8) (h : H), Src b l a h → a + 40 * k < 1099511627776 → b < n0 → n0 ≤ q → BysW h (sv q 0 64) p q → pagF p = 0 →
    ∃ q' p' h', Lp.spec_l2Right 0 [pv b 0, sv q 0 64, iv .i64 k] h = some (.done [sv q' 0 64] h') ∧ BysW h' (sv q' 0 64) p' q' ∧ pagF p' = 0 ∧ n0 ≤ q' ∧ (∃ a', Src b l a' h' ∧ a' ≤ a + 40 * k) ∧ h.n ≤ h'.n ∧ ∀ c, c < n0 → c ≠ b → h'.g c = h.g c := by
  intro k
  induction k with
  | zero =>
    intro a q n0 p h w ha hb hq wp hp
    refine ⟨q, p, h, ?_, wp, hp, hq, ⟨a, w, by omega⟩, Nat.le_refl _, fun _ _ _ => rfl⟩
    rw [eq_spec_l2Right_l0, vcase_b, if_neg (by simp), tidy_self]
  | succ k ih =>
    intro a q n0 p h w ha hb hq wp hp
    have hqn := wp.n
    have hbn := w.n
    have hqb : q ≠ b := by omega
    rw [eq_spec_l2Right_l0, vcase_b, if_pos (by simp)]
    rw [w64 (n := ((k + 1 : Nat) : Int) - 1) (by omega) (by omega), show ((k + 1 : Nat) : Int) - 1 = (k : Int) from by omega]
    -- how the round goes on with the page as it was
    have old : ∀ {N : Nat} {X : H} (vs : List V), Dr b l a N h X → N ≤ 40 → ∃ q' p' h', Lp.spec_l2Right 0 [pv b 0, sv q 0 64, iv .i64 k] (Vm.tidy h vs X) = some (.done [sv q' 0 64] h') ∧ BysW h' (sv q' 0 64) p' q' ∧ pagF p' = 0 ∧ n0 ≤ q' ∧ (∃ a', Src b l a' h' ∧ a' ≤ a + 40 * (k + 1)) ∧ h.n ≤ h'.n ∧ ∀ c, c < n0 → c ≠ b → h'.g c = h.g c := fun {N X} vs r hN => by
      have r' := r.tidy hbn vs
      obtain ⟨a', w1, w2⟩ := r'.ex
      obtain ⟨q', p', h', e, x1, x2, x3, ⟨a2, x4, x5⟩, x6, x7⟩ := ih a' q n0 p _ w1 (by omega) hb hq (wp.dr r' hqb) hp
      exact ⟨q', p', h', e, x1, x2, x3, ⟨a2, x4, by omega⟩, Nat.le_trans r'.n x6, fun c hc hcb => (x7 c hc hcb).trans (r'.o c (by omega) hcb)⟩
    -- .. and with another page
    have new : ∀ {N : Nat} {X : H} {q2 : Nat} {p2 : List UInt8} (vs : List V), sv q2 0 64 ∈ vs → Dr b l a N h X → N ≤ 40 → h.n ≤ q2 → BysW X (sv q2 0 64) p2 q2 → pagF p2 = 0 → ∃ q' p' h', Lp.spec_l2Right 0 [pv b 0, sv q2 0 64, iv .i64 k] (Vm.tidy h vs X) = some (.done [sv q' 0 64] h') ∧ BysW h' (sv q' 0 64) p' q' ∧ pagF p' = 0 ∧ n0 ≤ q' ∧ (∃ a', Src b l a' h' ∧ a' ≤ a + 40 * (k + 1)) ∧ h.n ≤ h'.n ∧ ∀ c, c < n0 → c ≠ b → h'.g c = h.g c := fun {N X q2 p2} vs hv r hN hq2 wq hp2 => by
      have ht : Vm.tidy h vs X = X := no_tidy_v (by
        rw [Bool.eq_false_iff]
        intro hh
        have := List.all_eq_true.1 hh _ hv
        simp [belV, belS] at this; omega)
      rw [ht]
      obtain ⟨a', w1, w2⟩ := r.ex
      obtain ⟨q', p', h', e, x1, x2, x3, ⟨a2, x4, x5⟩, x6, x7⟩ := ih a' q2 n0 p2 X w1 (by omega) hb (by omega) wq hp2
      exact ⟨q', p', h', e, x1, x2, x3, ⟨a2, x4, by omega⟩, Nat.le_trans r.n x6, fun c hc hcb => (x7 c hc hcb).trans (r.o c (by omega) hcb)⟩
    obtain ⟨x1, h1, e1, r1, b1, w1, n1, o1, t1⟩ := r_next w hl (by omega) (n := 14) (by omega) (by omega)
    rw [e1]; simp only [ob, gV1_s, gI_i]; rw [t1]
    obtain ⟨m, hm⟩ : ∃ m : Nat, 1 + x1 = m := ⟨(1 + x1).toNat, by omega⟩
    rw [hm, w64 (by omega) (by omega)]
    obtain ⟨q2, ms, h2, e2, w2, hms, hq2, d2⟩ := r_some (m := m) w1 hl (by omega) (by omega)
    rw [e2, ob]
    dsimp only
    rw [no_tidy_v (h := h1) (h' := h2) (by simp [belV, belS]; omega)]
    obtain ⟨a2, s2, ha2⟩ := d2.ex
    have hd2n := d2.n
    obtain ⟨x3, h3, e3, r3, b3, w3, n3, o3, t3⟩ := r_next s2 hl (by omega) (n := 5) (by omega) (by omega)
    rw [e3]; simp only [ob, gV1_s, gI_i]; rw [t3]
    have dr3 : Dr b l a 20 h h3 := ⟨⟨_, w3, by omega⟩, by omega, fun c hc hcb => by rw [o3 c hcb, d2.o c (by omega) hcb, o1 c hcb]⟩
    have wp3 := wp.dr dr3 hqb
    have wm3 : BysW h3 (sv q2 0 m) ms q2 := w2.fr (by omega) (o3 q2 (by omega))
    have hq2b : q2 ≠ b := by omega
    rw [vcase_b]
    by_cases c0 : x3 = 0
    · rw [if_pos (by simp [c0])]
      obtain ⟨x4, h4, e4, r4, b4, w4, n4, o4, t4⟩ := r_next w3 hl (by omega) (n := 6) (by omega) (by omega)
      rw [e4]; simp only [ob, gV1_s, gI_i]; rw [t4]
      have dr4 : Dr b l a 21 h h4 := ⟨⟨_, w4, by omega⟩, by omega, fun c hc hcb => by rw [o4 c hcb, dr3.o c hc hcb]⟩
      have wp4 := wp.dr dr4 hqb
      have fz : frzVs h4 [sv q 0 64, iv .i64 x4] = some [lv (bys p), iv .i64 x4] := frzVs_cons (frz1 (ob := some q) wp4) (frzVs_cons frzV_iv frzVs_nil)
      rw [fz, ob, norm_nil, pc (p_l2Has hp (by omega) (by omega)) rfl]
      simp only [gV1_s, gB_b]
      rw [vcase_b]
      cases hh : hasB p x4
      · rw [if_neg (by simp)]
        exact old _ dr4 (by omega)
      · rw [if_pos rfl, ob, norm_nil]
        obtain ⟨i, rfl, hi, _⟩ := hasB_nat hh
        obtain ⟨h64, ⟨g1, _, _⟩, _⟩ := pagF_ok hp
        have hc := cnt_eq p
        obtain ⟨h5, e5, w5, _⟩ := f_l2Drop h64 (by omega) hi h4.n
        rw [pF (h := h4) e5 ⟨rfl, w5.z⟩]
        obtain ⟨u5, w5', hc5⟩ := w5.over
        exact new _ (by simp) (dr4.up u5) (by omega) (by omega) w5' (drop_ok hp hi).1
    rw [if_neg (by simpa using c0), vcase_b]
    by_cases c1 : x3 = 1
    · rw [if_pos (by simp [c1])]
      obtain ⟨x4, h4, e4, r4, b4, w4, n4, o4, t4⟩ := r_next w3 hl (by omega) (n := 6) (by omega) (by omega)
      rw [e4]; simp only [ob, gV1_s, gI_i]; rw [t4]
      have dr4 : Dr b l a 21 h h4 := ⟨⟨_, w4, by omega⟩, by omega, fun c hc hcb => by rw [o4 c hcb, dr3.o c hc hcb]⟩
      have wp4 := wp.dr dr4 hqb
      have wm4 : BysW h4 (sv q2 0 m) ms q2 := wm3.fr (by omega) (o4 q2 hq2b)
      have fz : frzVs h4 [sv q 0 64, iv .i64 x4] = some [lv (bys p), iv .i64 x4] := frzVs_cons (frz1 (ob := some q) wp4) (frzVs_cons frzV_iv frzVs_nil)
      have fz3 : frzVs h4 [sv q 0 64, iv .i64 x4, sv q2 0 m] = some [lv (bys p), iv .i64 x4, lv (bys ms)] := frzVs_cons (frz1 (ob := some q) wp4) (frzVs_cons frzV_iv (frzVs_cons (frz1 (ob := some q2) wm4) frzVs_nil))
      rw [fz, ob, norm_nil, pc (p_l2Has hp (by omega) (by omega)) rfl]
      simp only [gV1_s, gB_b]
      rw [vcase_b]
      cases hh : hasB p x4
      · rw [if_neg (by simp)]
        exact old _ dr4 (by omega)
      · rw [if_pos rfl, fz3, ob, norm_nil]
        obtain ⟨i, rfl, hi, _⟩ := hasB_nat hh
        obtain ⟨y, h5, o5, e5, w5⟩ := f_l2Set (m := ms) hp hi (inB_iff.2 (by omega)) hh h4.n
        rw [pF (h := h4) e5 ⟨by simp [w5.own.sca], w5.z⟩]
        have u5 : Up h4 (h4.over h5) := up_over w5.le
        simp only [gVT_t, gx0, gx1, ob, gA1_s, gI_i, ln0, ln1, Nat.zero_add, Nat.reduceAdd, if_true]
        rw [vcase_b]
        by_cases hz : (setR p i ms).1 = 0
        · rw [if_pos (by simp [hz])]
          obtain ⟨s1, _⟩ := set_ok hz
          have s64 := (pagF_ok s1).1
          obtain ⟨c, w6⟩ := w5.some_of (fun hn => by rw [hn] at s64; simp at s64)
          obtain ⟨_, w6', hc6⟩ := w6.over
          have hv := w6'.v
          rw [s64] at hv
          injection hv with hv
          subst hv
          exact new _ (by simp) (dr4.up u5) (by omega) (by omega) w6' s1
        · rw [if_neg (by simpa using hz)]
          exact old _ (dr4.up u5) (by omega)
    rw [if_neg (by simpa using c1), vcase_b]
    by_cases c2 : x3 = 2
    · rw [if_pos (by simp [c2])]
      obtain ⟨x4, h4, e4, w4, n4, o4, t4⟩ := r_chance w3 hl (by omega) (n := 3) (by omega) (by omega)
      rw [e4]; simp only [ob, gV1_s, gB_b]; rw [t4]
      have dr4 : Dr b l a 21 h h4 := ⟨⟨_, w4, by omega⟩, by omega, fun c hc hcb => by rw [o4 c hcb, dr3.o c hc hcb]⟩
      have wp4 := wp.dr dr4 hqb
      have fz : frzVs h4 [sv q 0 64] = some [lv (bys p)] := frzVs_cons (frz1 (ob := some q) wp4) frzVs_nil
      rw [vcase_b]
      cases x4
      · rw [if_neg (by simp)]
        exact old _ dr4 (by omega)
      · rw [if_pos rfl, fz, ob, norm_nil]
        obtain ⟨h5, e5, w5⟩ := f_l2Compact hp h4.n
        rw [pF (h := h4) e5 ⟨rfl, w5.z⟩]
        obtain ⟨u5, w5', hc5⟩ := w5.over
        exact new _ (by simp) (dr4.up u5) (by omega) (by omega) w5' (comp_ok hp).1
    rw [if_neg (by simpa using c2)]
    have fz : frzVs h3 [sv q 0 64, sv q2 0 m] = some [lv (bys p), lv (bys ms)] := frzVs_cons (frz1 (ob := some q) wp3) (frzVs_cons (frz1 (ob := some q2) wm3) frzVs_nil)
    rw [fz, ob, norm_nil]
    obtain ⟨y, h5, o5, e5, w5⟩ := f_l2Put (m := ms) hp (inB_iff.2 (by omega)) h3.n
    rw [pF (h := h3) e5 ⟨by simp [w5.own.sca], w5.z⟩]
    have u5 : Up h3 (h3.over h5) := up_over w5.le
    simp only [gVT_t, gx0, gx1, ob, gA1_s, gI_i, ln0, ln1, Nat.zero_add, Nat.reduceAdd, if_true]
    rw [vcase_b]
    by_cases hz : (pu0 p ms).1 = 0
    · rw [if_pos (by simp [hz])]
      obtain ⟨s1, _⟩ := put_ok hp (inB_iff.2 (by omega)) hz
      have s64 := (pagF_ok s1).1
      obtain ⟨c, w6⟩ := w5.some_of (fun hn => by rw [hn] at s64; simp at s64)
      obtain ⟨_, w6', hc6⟩ := w6.over
      have hv := w6'.v
      rw [s64] at hv
      injection hv with hv
      subst hv
      exact new _ (by simp) (dr3.up u5) (by omega) (by omega) w6' s1
    · rw [if_neg (by simpa using hz)]
      exact old _ (dr3.up u5) (by omega)
end Vm
/-
  What is drawn out of bytes: pages that may have a fault, cells to be put.
-/
namespace Vm
open Go
theorem r_right {b : Nat} {l : List UInt8} {a : Nat} {h : H} (w : Src b l a h) (hl : l.length ≤ 1048576) (ha : a + 1000 < 1099511627776) :
    ∃ q p h', call Ev Fn.spec_l2Right [pv b 0] h = some (sv q 0 64, h') ∧ BysW h' (sv q 0 64) p q ∧ pagF p = 0 ∧ h.n ≤ q ∧ Dr b l a 600 h h' := by
  have hb := w.n
  rw [eq_spec_l2Right]
  obtain ⟨x1, h1, e1, m1, w1, n1, o1, t1⟩ := r_pickN w hl (by omega) (xs := [0, 0, 7]) (by simp) (by simp)
  simp only [List.length_cons, List.length_nil, Nat.zero_add, Nat.reduceAdd, List.map_cons, List.map_nil] at e1 t1
  rw [e1]; simp only [ob, gV1_s, gI_i]; rw [t1]
  have hx : 0 ≤ x1 ∧ x1 < 256 := by
    simp only [List.mem_cons, List.not_mem_nil, or_false] at m1
    omega
  rw [w8 hx.1 hx.2]
  obtain ⟨h2, e2, w2⟩ := f_l2New hx.1 hx.2 h1.n
  rw [pF (h := h1) e2 ⟨rfl, w2.z⟩]
  obtain ⟨u2, wp, hq⟩ := w2.over
  generalize h1.over h2 = K at u2 wp ⊢
  obtain ⟨x3, h3, e3, r3, b3, w3, n3, o3, t3⟩ := r_next (w1.up u2) hl (by omega) (n := 14) (by omega) (by omega)
  rw [e3]; simp only [ob, gV1_s, gI_i]; rw [t3]
  obtain ⟨k, rfl⟩ : ∃ k : Nat, x3 = k := ⟨x3.toNat, by omega⟩
  have hb1 := w1.n
  have wp3 : BysW h3 (sv h1.n 0 64) (newL x1) h1.n := wp.fr (by omega) (o3 h1.n (by omega))
  have hu := u2.n
  obtain ⟨q', p', h', e4, w4, p4, q4, ⟨a', s4, ha'⟩, n4, o4⟩ := lp_right hl k (a + 1 + 1) h1.n h.n (newL x1) h3 w3 (by omega) hb n1 wp3 (newL_ok x1)
  rw [e4, ob, lcase_done]
  simp only [gx0, ob]
  exact ⟨q', p', h', rfl, w4, p4, q4, ⟨⟨a', s4, by omega⟩, by omega, fun c hc hcb => by rw [o4 c hc hcb, o3 c hcb, u2.g c (by omega), o1 c hc hcb]⟩⟩
/-- bytes of one's own, or a part of them -/
theorem cut1 {h : H} {q : Nat} {p : List UInt8} (w : BysW h (sv q 0 64) p q) (h64 : p.length = 64) {R : Type} {k : V → Option R} : slK 1 h (sv q 0 64) (some (iv .i64 1)) none k = k (sv q 1 63) := by
  have := slK_w (R := R) (kd := .i64) (k := k) w (a := 1) (by omega)
  rw [show iv .i64 1 = iv .i64 ((1 : Nat) : Int) from rfl, this, h64]
theorem frz_cut {h : H} {q : Nat} {p : List UInt8} (w : BysW h (sv q 0 64) p q) (h64 : p.length = 64) : frzS h 8 (.sl (some (q, 1)) 63) = some (.fs (bys (p.drop 1))) := by
  have hg := w.g
  have hn := w.n
  simp only [frzS]
  rw [if_neg (by omega)]
  simp only [hn, if_true, hg]
  rw [if_pos ⟨by omega, by simp [h64]⟩]
  have e : ((p.map cell8).drop 1).take (63 * 1) = (bys (p.drop 1)).flatten := by
    rw [bys_flat, ← List.map_drop, List.take_of_length_le (by simp [h64])]
  rw [e, mapO_cl (fun s hs => by
    obtain ⟨r, h1, h2⟩ := List.mem_flatten.1 hs
    exact bys_cl r h1 s h2)]
  have hc := chunk_rows (z := 1) (rows := bys (p.drop 1)) bys_row
  rw [bys_len, show (p.drop 1).length = 63 from by simp [h64]] at hc
  rw [ob, hc]
theorem r_bent2 {b : Nat} {l : List UInt8} {a : Nat} {h : H} (w : Src b l a h) (hl : l.length ≤ 1048576) (ha : a + 1000 < 1099511627776) :
    ∃ y q p h', call Ev Fn.spec_l2Bent [pv b 0] h = some (.s y, h') ∧ p.length ≤ 64 ∧ scaS y = true ∧ h.n ≤ q ∧ q < h'.n ∧ (∀ vs, .s y ∈ vs → Vm.tidy h vs h' = h') ∧ Dr b l a 700 h h' ∧ (∀ h'', h'.n ≤ h''.n → h''.g q = h'.g q → frzS h'' 8 y = some (.fs (bys p))) := by
  have hb := w.n
  rw [eq_spec_l2Bent]
  obtain ⟨q, p, h1, e1, wp, hp, hq, d1⟩ := r_right w hl ha
  have h64 := (pagF_ok hp).1
  rw [e1, ob]
  dsimp only
  rw [no_tidy_v (h := h) (h' := h1) (by simp [belV, belS]; omega)]
  obtain ⟨a1, s1, ha1⟩ := d1.ex
  have hd1 := d1.n
  have hqb : q ≠ b := by omega
  obtain ⟨x2, h2, e2, r2, b2, w2, n2, o2, t2⟩ := r_next s1 hl (by omega) (n := 12) (by omega) (by omega)
  rw [e2]; simp only [ob, gV1_s, gI_i]; rw [t2]
  have wp2 : BysW h2 (sv q 0 64) p q := wp.fr (by omega) (o2 q hqb)
  have dr2 : Dr b l a 601 h h2 := ⟨⟨_, w2, by omega⟩, by omega, fun c hc hcb => by rw [o2 c hcb, d1.o c hc hcb]⟩
  have nt : ∀ {o k : Nat} {X : H} (vs : List V), V.s (.sl (some (q, o)) k) ∈ vs → Vm.tidy h vs X = X := fun vs hv => no_tidy_v (by
    rw [Bool.eq_false_iff]
    intro hh
    have := List.all_eq_true.1 hh _ hv
    simp [belV, belS] at this; omega)
  have fz : ∀ {X : H} {p : List UInt8}, BysW X (sv q 0 64) p q → p.length = 64 → ∀ h'', X.n ≤ h''.n → h''.g q = X.g q → frzS h'' 8 (.sl (some (q, 0)) 64) = some (.fs (bys p)) := fun {X p} wx hx h'' hn hg => by
    have := ((wx.fr hn hg).frz (d := 7)).2
    rwa [hx] at this
  rw [vcase_b]
  by_cases c0 : x2 = 0
  · rw [if_pos (by simp [c0]), cut1 wp2 h64]
    exact ⟨_, q, p.drop 1, h2, rfl, by simp [h64], rfl, hq, wp2.n, fun vs hv => nt vs hv, ⟨⟨_, w2, by omega⟩, dr2.n, dr2.o⟩, fun h'' hn hg => frz_cut (wp2.fr hn hg) h64⟩
  rw [if_neg (by simpa using c0), vcase_b]
  by_cases c1 : x2 = 1
  · rw [if_pos (by simp [c1])]
    obtain ⟨x3, h3, e3, r3, b3, w3, n3, o3, t3⟩ := r_next w2 hl (by omega) (n := 12) (by omega) (by omega)
    rw [e3]; simp only [ob, gV1_s, gI_i]; rw [t3]
    obtain ⟨x4, h4, e4, r4, b4, w4, n4, o4, t4⟩ := r_next w3 hl (by omega) (n := 70) (by omega) (by omega)
    rw [e4]; simp only [ob, gV1_s, gI_i]; rw [t4]
    obtain ⟨i, rfl⟩ : ∃ i : Nat, x3 = i := ⟨x3.toNat, by omega⟩
    have wp4 : BysW h4 (sv q 0 64) p q := wp2.fr (by omega) (by rw [o4 q hqb, o3 q hqb])
    rw [idxK_sv (by omega), wp4.set (c := UInt8.ofNat x4.toNat) (by omega) (by rw [w8 (by omega) (by omega)]; simp; omega)]
    have wp5 := wp4.set_w (i := i) (c := UInt8.ofNat x4.toNat)
    have hg5 : ∀ c, c ≠ q → (h4.put q (.rw 1 ((p.set i (UInt8.ofNat x4.toNat)).map cell8))).g c = h4.g c := fun c hc => put_g' hc
    have hn5 : (h4.put q (.rw 1 ((p.set i (UInt8.ofNat x4.toNat)).map cell8))).n = h4.n := put_n _ _ _
    generalize h4.put q (.rw 1 ((p.set i (UInt8.ofNat x4.toNat)).map cell8)) = X at wp5 hg5 hn5 ⊢
    have hb4 := w4.n
    exact ⟨_, q, p.set i (UInt8.ofNat x4.toNat), X, rfl, by simp [h64], rfl, hq, wp5.n, fun vs hv => nt vs hv, ⟨⟨_, ⟨by omega, by rw [hg5 b (by omega)]; exact w4.g⟩, by omega⟩, by omega, fun c hc hcb => by rw [hg5 c (by omega), o4 c hcb, o3 c hcb, dr2.o c hc hcb]⟩, fz wp5 (by simp [h64])⟩
  rw [if_neg (by simpa using c1)]
  exact ⟨_, q, p, h2, rfl, by omega, rfl, hq, wp2.n, fun vs hv => nt vs hv, ⟨⟨_, w2, by omega⟩, dr2.n, dr2.o⟩, fz wp2 h64⟩
theorem r_source {l : List UInt8} (h : H) : ∃ K : H, (∀ (R : Type) (k : V → H → Option R), pcallF (call Ev) Fn.spec_l1Source true [lv (bys l)] h k = k (pv h.n 0) K) ∧ Src h.n l 0 K ∧ Up h K ∧ K.n = h.n + 1 := by
  have hle : h.n ≤ ((D h.n).new 0 [.fs (bys l), .int .i64 0]).n := by simp
  refine ⟨h.over ((D h.n).new 0 [.fs (bys l), .int .i64 0]), fun R k => ?_, ⟨by rw [over_n hle]; simp, by rw [over_ge (Nat.le_refl _)]; exact new_g (D h.n) _ _⟩, up_over hle, by rw [over_n hle]; simp⟩
  unfold pcallF
  rw [eq_spec_l1Source, Vm.ob]
  unfold fchk
  rw [if_pos (.inl rfl)]; rfl
theorem r_later {l : List UInt8} (h : H) : ∃ K : H, (∀ (R : Type) (k : V → H → Option R), pcallF (call Ev) Fn.spec_l1Later true [lv (bys l), iv .i64 2] h k = k (pv h.n 0) K) ∧ Src h.n l 19 K ∧ Up h K ∧ K.n = h.n + 1 := by
  have hle : h.n ≤ ((D h.n).new 0 [.fs (bys l), .int .i64 19]).n := by simp
  refine ⟨h.over ((D h.n).new 0 [.fs (bys l), .int .i64 19]), fun R k => ?_, ⟨by rw [over_n hle]; simp, by rw [over_ge (Nat.le_refl _)]; exact new_g (D h.n) _ _⟩, up_over hle, by rw [over_n hle]; simp⟩
  unfold pcallF
  rw [eq_spec_l1Later, Vm.ob]
  unfold fchk
  rw [if_pos (.inl rfl)]; rfl
theorem r_cell {b : Nat} {l : List UInt8} {a : Nat} {h : H} (w : Src b l a h) (hl : l.length ≤ 1048576) (ha : a + 1000 < 1099511627776) :
    ∃ q m ms h', call Ev Fn.spec_l2DrawCell [pv b 0] h = some (sv q 0 m, h') ∧ BysW h' (sv q 0 m) ms q ∧ ms.length ≤ 21 ∧ h.n ≤ q ∧ Dr b l a 30 h h' := by
  have hb := w.n
  rw [eq_spec_l2DrawCell]
  obtain ⟨x1, h1, e1, r1, b1, w1, n1, o1, t1⟩ := r_next w hl (by omega) (n := 14) (by omega) (by omega)
  rw [e1]; simp only [ob, gV1_s, gI_i]; rw [t1]
  obtain ⟨x2, h2, e2, r2, b2, w2, n2, o2, t2⟩ := r_next w1 hl (by omega) (n := 14) (by omega) (by omega)
  rw [e2]; simp only [ob, gV1_s, gI_i]; rw [t2, w64 (n := 1 + x1) (by omega) (by omega), w64 (n := 1 + x2) (by omega) (by omega)]
  obtain ⟨x3, h3, e3, m3, w3, n3, o3, t3⟩ := r_pickN w2 hl (by omega) (xs := [1 + x1, 1 + x2, 3, 0, 20, 21]) (by simp) (by simp)
  simp only [List.length_cons, List.length_nil, Nat.zero_add, Nat.reduceAdd, List.map_cons, List.map_nil] at e3 t3
  rw [e3]; simp only [ob, gV1_s, gI_i]; rw [t3]
  have hx : 0 ≤ x3 ∧ x3 ≤ 21 := by
    simp only [List.mem_cons, List.not_mem_nil, or_false] at m3
    omega
  obtain ⟨m, rfl⟩ : ∃ m : Nat, x3 = m := ⟨x3.toNat, by omega⟩
  obtain ⟨q, ms, h4, e4, w4, hms, hq, d4⟩ := r_some (m := m) w3 hl (by omega) (by omega)
  rw [e4, ob]
  dsimp only
  rw [no_tidy_v (h := h3) (h' := h4) (by simp [belV, belS]; omega)]
  obtain ⟨a4, s4, ha4⟩ := d4.ex
  have := d4.n
  exact ⟨q, m, ms, h4, rfl, w4, by omega, by omega, ⟨⟨a4, s4, by omega⟩, by omega, fun c hc hcb => by rw [d4.o c (by omega) hcb, o3 c (by omega) hcb, o2 c hcb, o1 c hcb]⟩⟩
theorem frz_2 {h : H} {x y : S} {f g : S} (hx : frzS h 8 x = some f) (hy : frzS h 8 y = some g) : frzV h (.tup [.s x, .s y]) = some (.tup [.s f, .s g]) := by
  simp [frzAs, frzA, hx, hy]
theorem p_DrawPutSlot {l : List UInt8} (hl : l.length ≤ 1048576) : ∃ p m, pureV (call Ev) Fn.spec_DrawPutSlot [lv (bys l)] = some (.tup [.s (.fs (bys p)), .s (.fs (bys m))]) ∧ p.length ≤ 64 ∧ m.length ≤ 21 := by
  rw [pu_spec_DrawPutSlot]
  obtain ⟨K, e1, s1, u1, n1⟩ := r_source (l := l) (D 0)
  rw [e1]
  obtain ⟨y, q, p, h2, e2, hp, hy, hq, hqn, t2, d2, f2⟩ := r_bent2 s1 hl (by omega)
  rw [e2]; simp only [ob]; rw [t2 _ (by simp)]
  obtain ⟨a2, s2, ha2⟩ := d2.ex
  obtain ⟨q3, m, ms, h3, e3, w3, hms, hq3, d3⟩ := r_cell s2 hl (by omega)
  rw [e3]; simp only [ob, V.toA]
  rw [no_tidy_v (h := h2) (h' := h3) (by simp [belV, belS]; omega)]
  have hm := w3.len
  have f3 := (w3.frz (d := 7)).2
  rw [← hm] at f3
  refine ⟨p, ms, frz_2 (f2 h3 d3.n (d3.o q hqn (by simp at s1 ⊢; omega))) f3, hp, hms⟩
theorem p_l2With {l : List UInt8} (hl : l.length ≤ 1048576) : ∃ p, ∃ i : Int, pureV (call Ev) Fn.spec_l2With [lv (bys l)] = some (.tup [.s (.fs (bys p)), .s (.int .i64 i)]) ∧ p.length ≤ 64 ∧ -1 ≤ i ∧ i ≤ 16 := by
  rw [pu_spec_l2With]
  obtain ⟨K, e1, s1, u1, n1⟩ := r_source (l := l) (D 0)
  rw [e1]
  obtain ⟨y, q, p, h2, e2, hp, hy, hq, hqn, t2, d2, f2⟩ := r_bent2 s1 hl (by omega)
  rw [e2]; simp only [ob]; rw [t2 _ (by simp)]
  obtain ⟨a2, s2, ha2⟩ := d2.ex
  obtain ⟨x3, h3, e3, r3, b3, w3, n3, o3, t3⟩ := r_next s2 hl (by omega) (n := 6) (by omega) (by omega)
  rw [e3]; simp only [ob, gV1_s, gI_i]; rw [t3]
  obtain ⟨x4, h4, e4, r4, b4, w4, n4, o4, t4⟩ := r_next w3 hl (by omega) (n := 6) (by omega) (by omega)
  rw [e4]; simp only [ob, gV1_s, gI_i]; rw [t4]
  obtain ⟨x5, h5, e5, m5, w5, n5, o5, t5⟩ := r_pickN w4 hl (by omega) (xs := [x3, x4, 0, 16, -1]) (by simp) (by simp)
  simp only [List.length_cons, List.length_nil, Nat.zero_add, Nat.reduceAdd, List.map_cons, List.map_nil] at e5 t5
  rw [e5]; simp only [ob, gV1_s, gI_i, V.toA]; rw [t5]
  have hx : -1 ≤ x5 ∧ x5 ≤ 16 := by
    simp only [List.mem_cons, List.not_mem_nil, or_false] at m5
    omega
  have hqb : q ≠ (D 0).n := by simp at s1 ⊢; omega
  exact ⟨p, x5, frz_2 (f2 h5 (by omega) (by rw [o5 q (by omega) hqb, o4 q hqb, o3 q hqb])) frz_i, hp, hx⟩
theorem p_DrawDropSlot {l : List UInt8} (hl : l.length ≤ 1048576) : ∃ p, ∃ i : Int, pureV (call Ev) Fn.spec_DrawDropSlot [lv (bys l)] = some (.tup [.s (.fs (bys p)), .s (.int .i64 i)]) ∧ p.length ≤ 64 ∧ -1 ≤ i ∧ i ≤ 16 := by
  obtain ⟨p, i, e, h⟩ := p_l2With hl
  refine ⟨p, i, ?_, h⟩
  rw [pu_spec_DrawDropSlot, e]
  simp only [ob, gVT_t, gx0, gx1, gA1_s, gF_f, gI_i, ln0, ln1, Nat.zero_add, Nat.reduceAdd, if_true]
theorem p_DrawSetSlot {l : List UInt8} (hl : l.length ≤ 1048576) : ∃ p, ∃ i : Int, ∃ m, pureV (call Ev) Fn.spec_DrawSetSlot [lv (bys l)] = some (.tup [.s (.fs (bys p)), .s (.int .i64 i), .s (.fs (bys m))]) ∧ p.length ≤ 64 ∧ (-1 ≤ i ∧ i ≤ 16) ∧ m.length ≤ 21 := by
  obtain ⟨p, i, e, h1, h2⟩ := p_l2With hl
  rw [pu_spec_DrawSetSlot, e]
  simp only [ob, gVT_t, gx0, gx1, gA1_s, gF_f, gI_i, ln0, ln1, Nat.zero_add, Nat.reduceAdd, if_true]
  obtain ⟨K, e1, s1, u1, n1⟩ := r_later (l := l) (D 0)
  rw [e1]
  obtain ⟨q3, m, ms, h3, e3, w3, hms, hq3, d3⟩ := r_cell s1 hl (by omega)
  rw [e3]; simp only [ob, V.toA]
  rw [no_tidy_v (h := K) (h' := h3) (by simp [belV, belS]; omega)]
  have hm := w3.len
  have f3 := (w3.frz (d := 7)).2
  rw [← hm] at f3
  refine ⟨p, i, ms, ?_, h1, h2, hms⟩
  simp [frzAs, frzA, f3]
theorem p_DrawCompactPage {l : List UInt8} (hl : l.length ≤ 1048576) : ∃ p, pureV (call Ev) Fn.spec_DrawCompactPage [lv (bys l)] = some (lv (bys p)) ∧ p.length ≤ 64 := by
  rw [pu_spec_DrawCompactPage]
  obtain ⟨K, e1, s1, u1, n1⟩ := r_source (l := l) (D 0)
  rw [e1]
  obtain ⟨y, q, p, h2, e2, hp, hy, hq, hqn, t2, d2, f2⟩ := r_bent2 s1 hl (by omega)
  rw [e2]; simp only [ob]; rw [t2 _ (by simp)]
  refine ⟨p, ?_, hp⟩
  rw [frzV_s, f2 h2 (Nat.le_refl _) rfl, ob]
theorem p_DrawNewPage {l : List UInt8} (hl : l.length ≤ 1048576) : ∃ x : Int, pureV (call Ev) Fn.spec_DrawNewPage [lv (bys l)] = some (iv .u8 x) ∧ 0 ≤ x ∧ x < 256 := by
  rw [pu_spec_DrawNewPage]
  obtain ⟨K, e1, s1, u1, n1⟩ := r_source (l := l) (D 0)
  rw [e1]
  obtain ⟨x5, h5, e5, m5, w5, n5, o5, t5⟩ := r_pickN s1 hl (by omega) (xs := [0, 7, 255]) (by simp) (by simp)
  simp only [List.length_cons, List.length_nil, Nat.zero_add, Nat.reduceAdd, List.map_cons, List.map_nil] at e5 t5
  rw [e5]; simp only [ob, gV1_s, gI_i]
  have hx : 0 ≤ x5 ∧ x5 < 256 := by
    simp only [List.mem_cons, List.not_mem_nil, or_false] at m5
    omega
  exact ⟨x5, by rw [w8 hx.1 hx.2], hx⟩
end Vm
/-
  A text's bytes as a list.
-/
namespace Vm
open Go
theorem tl_loop (s : ByteArray) : ∀ (q i : Nat) (r : List UInt8), i + q = s.size → ByteArray.toList.loop s i r = r.reverse ++ s.data.toList.drop i := by
  intro q
  induction q with
  | zero =>
    intro i r hi
    rw [ByteArray.toList.loop, if_neg (by omega), List.drop_of_length_le (by simp; omega)]
    simp
  | succ q ih =>
    intro i r hi
    rw [ByteArray.toList.loop, if_pos (by omega), ih (i + 1) _ (by omega), str_drop (i := i) (by omega)]
    simp
theorem tl_data (s : ByteArray) : s.toList = s.data.toList := by
  unfold ByteArray.toList
  rw [tl_loop s s.size 0 [] (by omega)]
  simp
theorem tl_eq {a b : List UInt8} : ((⟨a.toArray⟩ : ByteArray).toList == (⟨b.toArray⟩ : ByteArray).toList) = decide (a = b) := by
  rw [tl_data, tl_data]
  by_cases h : a = b <;> simp [h]
end Vm
/-
  What the laws on pages ask: answers once frozen, all slots but one.
-/
namespace Vm
open Go
theorem p_PutSlot {l m : List UInt8} : pureV (call Ev) Fn.impl_PutSlot [lv (bys l), lv (bys m)] = some (.agg [.int .i64 (puR l m).1, .int .i64 (puR l m).2.1, .fs (bys (puR l m).2.2)]) := by
  obtain ⟨y, h', ob, e, w⟩ := f_PutSlot (l := l) (m := m) 0
  exact NewB.p3 e w
theorem p_SetSlot {l m : List UInt8} {i : Int} : pureV (call Ev) Fn.impl_SetSlot [lv (bys l), iv .i64 i, lv (bys m)] = some (.agg [.int .i64 (setR l i m).1, .int .i64 (setR l i m).2.1, .fs (bys (setR l i m).2.2)]) := by
  obtain ⟨y, h', ob, e, w⟩ := f_SetSlot (l := l) (i := i) (m := m) 0
  exact NewB.p3 e w
theorem p_DropSlot {l : List UInt8} {i : Int} (hl : l.length ≤ lim) : pureV (call Ev) Fn.impl_DropSlot [lv (bys l), iv .i64 i] = some (.agg [.int .i64 (drC l i), .int .i64 (drS l i), .fs (bys (drL l i))]) := by
  obtain ⟨y, h', ob, e, w⟩ := f_DropSlot (l := l) (i := i) hl 0
  exact NewB.p3 e w
theorem p_CompactPage {l : List UInt8} : pureV (call Ev) Fn.impl_CompactPage [lv (bys l)] = some (.agg [.int .i64 (cpC l), .int .i64 0, .fs (bys (cpL l))]) := by
  obtain ⟨y, h', ob, e, w⟩ := f_CompactPage (l := l) 0
  exact NewB.p3 e w
theorem p_SlotIn {l : List UInt8} {i : Int} (hl : l.length ≤ lim) : pureV (call Ev) Fn.impl_SlotIn [lv (bys l), iv .i64 i] = some (.agg [.int .i64 (slC l i), .fs (bys (slL l i))]) := by
  obtain ⟨y, h', ob, e, w⟩ := f_SlotIn (l := l) (i := i) hl 0
  exact NewB.p e w
noncomputable def frV (l : List UInt8) : Int := if pagF l = 0 then freS l else 0
theorem p_FreeIn {l : List UInt8} : pureV (call Ev) Fn.impl_FreeIn [lv (bys l)] = some (.agg [.int .i64 (pagF l), .int .i64 (frV l)]) := by
  rw [pu_impl_FreeIn, pc p_PageFault rfl]
  simp only [gV1_s, gI_i]
  unfold frV
  rw [vcase_b]
  by_cases hp : pagF l = 0
  · rw [if_neg (by simp [hp]), pc (p_freeIn hp) rfl, if_pos hp, hp]
    simp only [gV1_s, gI_i]
  · rw [if_pos (by simpa using hp), if_neg hp]
theorem p_lwSame {a b : List UInt8} (ha : a.length ≤ lim) (hb : b.length ≤ lim) : pureV (call Ev) Fn.laws_lwSame [lv (bys a), lv (bys b)] = some (bv (decide (a = b))) := by
  rw [pu_laws_lwSame, fsStr_by ha, ob]
  simp only [gV1_s, gS_s]
  rw [fsStr_by hb, ob]
  simp only [gV1_s, gS_s]
  rw [tl_eq]
theorem p_lwBig {l : List UInt8} : pureV (call Ev) Fn.laws_lwBig [lv (bys l)] = some (bv (decide ((l.length : Int) > 1048576))) := by
  rw [pu_laws_lwBig, bys_len]
/-- what a slot answers -/
theorem slot_keep {l p : List UInt8} {s : Int} (hl : pagF l = 0) (hp : pagF p = 0) (w : Keep l p s) {i : Nat} (hi : i < 16) (hs : (i : Int) ≠ s) : slC p i = slC l i ∧ slL p i = slL l i := by
  obtain ⟨h1, h2⟩ := w i hi hs
  unfold slC slL
  rw [if_pos hl, if_pos hp, h1]
  refine ⟨rfl, ?_⟩
  cases hh : hasB l i
  · simp
  · rw [if_pos ⟨hp, rfl⟩, if_pos ⟨hl, rfl⟩]
    exact h2 hh
theorem p_lwOthers {l p : List UInt8} {s : Int} (h1 : l.length ≤ lim) (h2 : p.length ≤ lim) (hl : pagF l = 0) (hp : pagF p = 0) (w : Keep l p s) : pureV (call Ev) Fn.laws_lwOthers [lv (bys l), lv (bys p), iv .i64 s] = some (bv true) := by
  have loop : ∀ (k i : Nat) (h : H), i + k = 16 → ∃ h', Lp.laws_lwOthers 0 [lv (bys l), lv (bys p), iv .i64 s, iv .i64 i] h = some (.done [] h') := by
    intro k
    induction k with
    | zero =>
      intro i h hi
      rw [eq_laws_lwOthers_l0, vcase_b, if_neg (by simp; omega)]
      exact ⟨_, rfl⟩
    | succ k ih =>
      intro i h hi
      rw [eq_laws_lwOthers_l0, vcase_b, if_pos (by simp; omega), p_SlotIn h1]
      simp only [ob, gVA_a, gx0, gx1, gI_i, gF_f, ln0, ln1, Nat.zero_add, Nat.reduceAdd, if_true]
      rw [st2_new, p_SlotIn h2]
      simp only [ob, gVA_a, gx0, gx1, gI_i, gF_f, ln0, ln1, Nat.zero_add, Nat.reduceAdd, if_true]
      rw [st2_new, vcase_b, w64 (by omega) (by omega), show (i : Int) + 1 = ((i + 1 : Nat) : Int) from by omega]
      by_cases hs : (i : Int) = s
      · rw [if_neg (by simp [hs])]
        exact ih (i + 1) _ (by omega)
      · rw [if_pos (by simpa using hs)]
        obtain ⟨k1, k2⟩ := slot_keep hl hp w (i := i) (by omega) hs
        generalize hA : (h.new 0 [.int .i64 0, .sl none 0]).put h.n (.rw 0 [.int .i64 (slC l i), .fs (bys (slL l i))]) = A
        have an : A.n = h.n + 1 := by rw [← hA]; simp
        have ag : A.g h.n = .rw 0 [.int .i64 (slC l i), .fs (bys (slL l i))] := by rw [← hA]; exact put_g _ _ _
        generalize hB : (A.new 0 [.int .i64 0, .sl none 0]).put A.n (.rw 0 [.int .i64 (slC p i), .fs (bys (slL p i))]) = B
        have bn : B.n = A.n + 1 := by rw [← hB]; simp
        have bg : B.g A.n = .rw 0 [.int .i64 (slC p i), .fs (bys (slL p i))] := by rw [← hB]; exact put_g _ _ _
        have ba : B.g h.n = .rw 0 [.int .i64 (slC l i), .fs (bys (slL l i))] := by rw [← hB, put_g' (by omega), new_g' (by omega)]; exact ag
        have l1 : ∀ {o : Nat}, load1 B (pv h.n o) = ([.int .i64 (slC l i), .fs (bys (slL l i))] : List S)[o]? := fun {o} => by simp [load1, H.cells, show h.n < B.n by omega, ba, Blk.cells]
        have l2 : ∀ {o : Nat}, load1 B (pv A.n o) = ([.int .i64 (slC p i), .fs (bys (slL p i))] : List S)[o]? := fun {o} => by simp [load1, H.cells, show A.n < B.n by omega, bg, Blk.cells]
        simp only [l1, l2, gx0, gx1, ob, gI_i]
        rw [vcase_b, if_neg (by simp [k1]), frzVs_cons frzV_lv (frzVs_cons frzV_lv frzVs_nil), ob, norm_nil, pc (p_lwSame (Nat.le_trans (slL_len _ _) h1) (Nat.le_trans (slL_len _ _) h2)) rfl]
        simp only [gV1_s, gB_b, k2, decide_true, Bool.not_true]
        rw [vcase_b, if_neg (by simp)]
        exact ih (i + 1) _ (by omega)
  obtain ⟨h', e⟩ := loop 16 0 (D 0) (by omega)
  rw [pu_laws_lwOthers, show iv .i64 0 = iv .i64 ((0 : Nat) : Int) from rfl, e, ob, lcase_done]
end Vm
/-
  Bytes that came in.
-/
namespace Vm
open Go

theorem rows8 {P : Program} {m : Nat} {e : TypeId} (he : P.underlying e = some (.int .u8)) : ∀ rows : List (List S), (∀ r ∈ rows, r.length = P.cellsOf e ∧ Rp P m e r) → ∃ l : List UInt8, rows = bys l
  | [], _ => ⟨[], rfl⟩
  | r :: rows, hr => by
    obtain ⟨l, h1⟩ := rows8 he rows fun r hm => hr r (by simp [hm])
    obtain ⟨n, h3, h4⟩ := (hr r (by simp)).2.int he
    have hb := wf8 h4
    refine ⟨UInt8.ofNat n.toNat :: l, ?_⟩
    have : cell8 (UInt8.ofNat n.toNat) = .int .u8 n := by
      unfold cell8
      congr 1
      simp
      omega
    rw [h1, h3]
    simp only [bys, List.map_cons, this]
theorem bys_of {P : Program} {n : Nat} {t e : TypeId} {s : S} (ht : P.underlying t = some (.slice e)) (he : P.underlying e = some (.int .u8)) (hr : Rp P n t [s]) : ∃ l, s = .fs (bys l) ∧ l.length ≤ maxLen := by
  obtain ⟨m, rows, h1, h2, h3⟩ := hr.slice ht
  obtain ⟨l, rfl⟩ := rows8 he rows h3
  cases h1
  exact ⟨l, rfl, by simpa using h2⟩
theorem rp_Bytes {n : Nat} {s : S} (hr : Rp PR n T.S_uint8 [s]) : ∃ l, s = .fs (bys l) ∧ l.length ≤ maxLen := bys_of und_S_uint8 und_uint8 hr
theorem arg_Bytes {x : V} (hr : ArgRp PR T.S_uint8 x) : ∃ l, x = lv (bys l) ∧ l.length ≤ maxLen := by
  obtain ⟨s, n, rfl, h1⟩ := hr.slice und_S_uint8
  obtain ⟨l, rfl, h2⟩ := rp_Bytes h1
  exact ⟨l, rfl, h2⟩
theorem arg_u8 {x : V} (hr : ArgRp PR T.uint8 x) : ∃ c : UInt8, x = iv .u8 c.toNat := by
  obtain ⟨n, rfl, h⟩ := hr.int und_uint8
  have := wf8 h
  exact ⟨UInt8.ofNat n.toNat, by congr 2; simp; omega⟩
end Vm
/-
  The law on sets and drops returns true.
-/
namespace Vm
open Go
theorem setR_ok {l m : List UInt8} {i : Int} (h : (setR l i m).1 = 0) : pagF l = 0 := by
  unfold setR at h
  by_cases hp : pagF l = 0
  · exact hp
  · rw [if_pos hp] at h; exact absurd h hp
theorem drC_ok {l : List UInt8} {i : Int} (h : drC l i = 0) : pagF l = 0 ∧ hasB l i = true := by
  unfold drC slC at h
  by_cases hp : pagF l = 0
  · rw [if_pos hp] at h
    cases hb : hasB l i
    · rw [if_neg (by simp [hb])] at h; simp at h
    · exact ⟨hp, rfl⟩
  · rw [if_neg hp] at h; exact absurd h hp
theorem run_FnSets (xs : List V) (hx : ArgsRp PR [T.S_uint8] xs) : ∃ h', call Ev Fn.laws_FnSets xs (D 0) = some (bv true, h') := by
  match xs, hx with
  | [x0], ⟨h0, _⟩ =>
    obtain ⟨l, rfl, hl⟩ := arg_Bytes h0
    refine law_of ?_
    rw [pu_laws_FnSets, pc p_lwBig rfl]
    simp only [gV1_s, gB_b]
    rw [vcase_b]
    by_cases hq : (l.length : Int) > 1048576
    · rw [if_pos (by simpa using hq)]
    rw [if_neg (by simpa using hq)]
    obtain ⟨p, i, m, e, hp, hi, hm⟩ := p_DrawSetSlot (l := l) (by omega)
    have hpl : p.length ≤ lim := by unfold lim; omega
    have hml : m.length ≤ lim := by unfold lim; omega
    rw [e]
    simp only [ob, gVT_t, gx0, gx1, gA1_s, gF_f, gI_i, ln0, ln1, Nat.zero_add, Nat.reduceAdd, if_true]
    rw [p_SetSlot]
    simp only [ob, gVA_a, gx0, gx1, gI_i, gF_f, ln0, ln1, Nat.zero_add, Nat.reduceAdd, if_true]
    obtain ⟨d, j, e2, hd, hj⟩ := p_DrawDropSlot (l := l) (by omega)
    have hdl : d.length ≤ lim := by unfold lim; omega
    rw [e2]
    simp only [ob, gVT_t, gx0, gx1, gA1_s, gF_f, gI_i, ln0, ln1, Nat.zero_add, Nat.reduceAdd, if_true]
    rw [p_DropSlot hdl]
    simp only [ob, gVA_a, gx0, gx1, gI_i, gF_f, ln0, ln1, Nat.zero_add, Nat.reduceAdd, if_true]
    rw [p_spec_DropSlot (by omega) (by omega)]
    simp only [ob, gVA_a, gx0, gx1, gI_i, gF_f, ln0, ln1, Nat.zero_add, Nat.reduceAdd, if_true, hchk_self]
    rw [vcase_b, if_neg (by simp), vcase_b]
    -- the second half of the law
    have half : ∀ (i135 i137 : Int) (z139 : List (List S)) (w0 w1 w2 w3 w4 w5 w6 w7 w8 w9 w10 w11 w12 w13 w14 w15 w16 w17 w18 w19 w20 w21 w22 w23 w24 : V), ∀ R : Option V, R = (vcase (bv ((setR p i m).1 != 0))
        ((pureV (call Ev) Fn.spec_SetSlot [lv (bys p), iv .i64 i, lv (bys m)]).bind fun v426 =>
          gVA v426 fun c427 => (c427[0]?).bind fun x428 => gI .i64 x428 fun i429 => (c427[1]?).bind fun x430 => gI .i64 x430 fun i431 => (c427[2]?).bind fun x432 => gF x432 fun z433 =>
          if c427.length = 3 then some (bv (i429 == (setR p i m).1)) else none)
        ((pureV (call Ev) Fn.impl_SlotIn [lv (bys (setR p i m).2.2), iv .i64 i]).bind fun v434 =>
          gVA v434 fun c435 => (c435[0]?).bind fun x436 => gI .i64 x436 fun i437 => (c435[1]?).bind fun x438 => gF x438 fun z439 =>
          if c435.length = 2 then
          vcase (bv (i437 == 0))
          (pcallS (call Ev) Fn.laws_lwSame [lv z439, lv (bys m)] fun v441 => gV1 v441 fun x442 => gB x442 fun q443 =>
            Jn.laws_FnSets_3 true (pv 2 1) (lv z439) (lv (bys m)) (bv q443) q443 (bys p) (bys (setR p i m).2.2) i (setR p i m).1 (setR p i m).2.1 i135 i137 z139 i437 z439 (bys m))
          (Jn.laws_FnSets_3 false (.tup []) (.tup []) (.tup []) (.tup []) false (bys p) (bys (setR p i m).2.2) i (setR p i m).1 (setR p i m).2.1 i135 i137 z139 i437 z439 (bys m)) else none)) → R = some (bv true) := by
      intro i135 i137 z139 _ _ _ _ _ _ _ _ _ _ _ _ _ _ _ _ _ _ _ _ _ _ _ _ _ R hR
      rw [hR, vcase_b]
      have hsp := p_spec_SetSlot (l := p) (m := m) (i := i) (by omega) (by omega)
      by_cases hc : (setR p i m).1 = 0
      case neg =>
        rw [if_pos (by simpa using hc), hsp]
        simp only [ob, gVA_a, gx0, gx1, gI_i, gF_f, ln0, ln1, Nat.zero_add, Nat.reduceAdd, if_true, hchk_self]
        simp
      rw [if_neg (by simp [hc])]
      have a1 := setR_ok hc
      obtain ⟨b1, b2, b3, b4, b5⟩ := set_ok hc
      rw [b5] at hsp ⊢
      generalize (setR p i m).2.2 = p2 at b1 b2 b3 b4 hsp ⊢
      have hp2 := (pagF_ok b1).1
      have hp2l : p2.length ≤ lim := by unfold lim; omega
      have s1 : slC p2 i = 0 := by unfold slC; rw [if_pos b1, if_pos b3]
      have s2 : slL p2 i = m := by unfold slL; rw [if_pos ⟨b1, b3⟩]; exact b4
      rw [p_SlotIn hp2l, s1, s2]
      simp only [ob, gVA_a, gx0, gx1, gI_i, gF_f, ln0, ln1, Nat.zero_add, Nat.reduceAdd, if_true]
      rw [vcase_b, if_pos (by simp), pc (p_lwSame hml hml) rfl]
      simp only [gV1_s, gB_b, hchk_self, decide_true]
      unfold Jn.laws_FnSets_3
      rw [vcase_b, if_pos (by simp), pc (p_lwOthers hpl hp2l a1 b1 b2) rfl]
      simp only [gV1_s, gB_b, hchk_self]
      unfold Jn.laws_FnSets_2
      rw [vcase_b, if_pos (by simp), pc p_PageFault rfl, b1]
      simp only [gV1_s, gI_i, hchk_self]
      unfold Jn.laws_FnSets_1
      rw [vcase_b, if_pos (by simp)]
      unfold Jn.laws_FnSets_0
      rw [vcase_b, if_pos (by simp), hsp]
      simp only [ob, gVA_a, gx0, gx1, gI_i, gF_f, ln0, ln1, Nat.zero_add, Nat.reduceAdd, if_true, hchk_self]
      rw [pc (p_lwSame hp2l hp2l) rfl]
      simp only [gV1_s, gB_b, hchk_self, decide_true]
    by_cases hc : drC d j = 0
    case neg =>
      rw [if_neg (by simpa using hc)]
      unfold Jn.laws_FnSets_4
      simp only [hchk_self]
      rw [vcase_b, if_neg (by simp)]
      exact half _ _ _ (.tup []) (.tup []) (.tup []) (.tup []) (.tup []) (.tup []) (.tup []) (.tup []) (.tup []) (.tup []) (.tup []) (.tup []) (.tup []) (.tup []) (.tup []) (.tup []) (.tup []) (.tup []) (.tup []) (.tup []) (.tup []) (.tup []) (.tup []) (.tup []) (.tup []) _ rfl
    rw [if_pos (by simpa using hc)]
    obtain ⟨a1, a2⟩ := drC_ok hc
    obtain ⟨k, rfl, hk, _⟩ := hasB_nat a2
    obtain ⟨b1, b2, b3⟩ := drop_ok a1 hk
    have hdr : drL d (k : Int) = dropB d k := by unfold drL; rw [if_pos ⟨a1, a2⟩]; rfl
    rw [hdr]
    have hp2 := (pagF_ok b1).1
    have hp2l : (dropB d k).length ≤ lim := by unfold lim; omega
    have s1 : slC (dropB d k) (k : Int) = 4 := by unfold slC; rw [if_pos b1, if_neg (by simp [b3])]
    rw [p_SlotIn hp2l, s1]
    simp only [ob, gVA_a, gx0, gx1, gI_i, gF_f, ln0, ln1, Nat.zero_add, Nat.reduceAdd, if_true, hchk_self]
    rw [vcase_b, if_neg (by simp), pc (p_lwOthers hdl hp2l a1 b1 b2) rfl]
    simp only [gV1_s, gB_b, hchk_self]
    unfold Jn.laws_FnSets_5
    simp only [hchk_self]
    rw [vcase_b, if_neg (by simp), pc p_PageFault rfl, b1]
    simp only [gV1_s, gI_i, hchk_self]
    unfold Jn.laws_FnSets_4
    simp only [hchk_self]
    rw [vcase_b, if_neg (by simp)]
    exact half _ _ _ (.tup []) (.tup []) (.tup []) (.tup []) (.tup []) (.tup []) (.tup []) (.tup []) (.tup []) (.tup []) (.tup []) (.tup []) (.tup []) (.tup []) (.tup []) (.tup []) (.tup []) (.tup []) (.tup []) (.tup []) (.tup []) (.tup []) (.tup []) (.tup []) (.tup []) _ rfl
end Vm
