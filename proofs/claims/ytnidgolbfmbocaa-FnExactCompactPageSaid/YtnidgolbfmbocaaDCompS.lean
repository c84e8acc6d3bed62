/-
  A page made dense: what both ways come to.
-/
import Derived.Test.YtnidgolbfmbocaaDComp
set_option linter.unusedVariables false
set_option maxRecDepth 100000
set_option linter.unusedSimpArgs false
namespace Vm
open Go
def zer64 : List UInt8 := List.replicate 64 0
def out0 (l : List UInt8) : List UInt8 := lay zer64 0 (l.take (2 + 2 * cnt l))
def cmpR (l : List UInt8) : List UInt8 × Nat := cmp l (cnt l) 0 (out0 l, 64)
def cmpL (l : List UInt8) : List UInt8 := (cmpR l).1.set 1 (UInt8.ofNat (cmpR l).2)
theorem mk64 {h : H} : mkSl 1 [.int .u8 0] h (iv .i64 64) (iv .i64 64) = some (sv h.n 0 64, h.new 1 (zer64.map cell8)) := by
  have := mkSl_of (z := 1) (n := 64) (zero := [.int .u8 0]) (h := h) (by unfold lim; omega) (by omega) rfl (k1 := .i64) (k2 := .i64)
  rw [show ((64 : Nat) : Int) = 64 from rfl] at this
  rw [this]
  rfl
section
variable {l : List UInt8} (hp : pagF l = 0)
include hp
theorem out0_cmp : Cmp l 0 (out0 l, 64) ∧ (l.take (2 + 2 * cnt l)).length = 2 + 2 * cnt l ∧ 2 + 2 * cnt l ≤ 34 := by
  obtain ⟨h64, ⟨g1, g2, g3⟩, _⟩ := pagF_ok hp
  have hc := cnt_eq l
  have ht : (l.take (2 + 2 * cnt l)).length = 2 + 2 * cnt l := by rw [List.length_take]; omega
  refine ⟨⟨?_, by simp [sumS], fun j hj => ?_⟩, ht, by omega⟩
  · show (lay zer64 0 _).length = 64
    rw [lay_len (by rw [ht]; simp [zer64]; omega)]; simp [zer64]
  · show (lay zer64 0 _)[3 + 2 * j]? = _
    unfold lay
    rw [List.take_zero, List.nil_append, List.getElem?_append_left (by rw [ht]; omega), List.getElem?_take, if_pos (by omega)]
theorem p_l2Compact : pureV (call Ev) Fn.spec_l2Compact [lv (bys l)] = some (lv (bys (cmpL l))) := by
  obtain ⟨h64, ⟨g1, g2, g3⟩, _⟩ := pagF_ok hp
  have hc := cnt_eq l
  obtain ⟨c0, ht, h34⟩ := out0_cmp hp
  rw [pu_spec_l2Compact, pc (p_l2Count (by omega)) rfl]
  simp only [gV1_s, gI_i]
  rw [mk64, ob, ← hc, w64 (n := 2 * ((cnt l : Nat) : Int)) (by omega) (by omega), w64 (by omega) (by omega), show 2 + 2 * ((cnt l : Nat) : Int) = ((2 + 2 * cnt l : Nat) : Int) from by omega, slF_hi (by omega)]
  have w0 : BysW ((D 0).new 1 (zer64.map cell8)) (sv (D 0).n 0 64) zer64 (D 0).n := ⟨rfl, by simp, new_g _ _ _⟩
  dsimp only
  rw [copS_w w0 (by simp [zer64]) (by rw [ht]; omega), ob]
  simp only [gV1_s, gI_i]
  have w1 := lay_w w0 (a := 0) (m := l.take (2 + 2 * cnt l)) (by rw [ht]; simp [zer64]; omega)
  obtain ⟨h', e1, e2, e3⟩ := lp_l2Comp hp (cnt l) 0 _ (out0 l, 64) (by omega) c0 w1
  rw [show iv .i64 0 = iv .i64 ((0 : Nat) : Int) from rfl, show iv .i64 64 = iv .i64 ((64 : Nat) : Int) from rfl, e1, ob, lcase_done]
  obtain ⟨_, _, _, _, c1⟩ := lp_Comp (p := iv .i64 0) hp (cnt l) 0 _ (out0 l, 64) (by omega) c0 w1
  have hl1 := c1.len
  have hb := c1.low
  simp only [gx0, gx1, ob, gV1_s, gI_i]
  rw [show iv .i64 1 = iv .i64 ((1 : Nat) : Int) from rfl, idxK_sv (by omega), e2.set (c := UInt8.ofNat (cmp l (cnt l) 0 (out0 l, 64)).2) (by omega) (by rw [w8 (by omega) (by omega)]; simp; omega)]
  exact frz1 (ob := some (D 0).n) e2.set_w
end
def cpD (l : List UInt8) : Int := 0
noncomputable def cpC (l : List UInt8) : Int := pagF l
open Classical in
noncomputable def cpL (l : List UInt8) : List UInt8 := if pagF l = 0 then cmpL l else []
theorem cmpL_len {l : List UInt8} (hp : pagF l = 0) : (cmpL l).length = 64 := by
  obtain ⟨c0, _, _⟩ := out0_cmp hp
  have w1 : BysW ((D 0).new 1 ((out0 l).map cell8)) (sv (D 0).n 0 64) (out0 l) (D 0).n := ⟨by have := c0.len; simp only at this; rw [this], by simp, new_g _ _ _⟩
  obtain ⟨_, _, _, _, c1⟩ := lp_Comp (p := iv .i64 0) hp (cnt l) 0 _ (out0 l, 64) (by omega) c0 w1
  unfold cmpL cmpR
  rw [List.length_set]; exact c1.len
theorem cpL_len (l : List UInt8) : (cpL l).length ≤ 64 := by
  unfold cpL
  split
  · rename_i hp; rw [cmpL_len hp]; exact Nat.le_refl _
  · simp
theorem p_spec_CompactPage {l : List UInt8} : pureV (call Ev) Fn.spec_CompactPage [lv (bys l)] = some (.agg [.int .i64 (cpC l), .int .i64 0, .fs (bys (cpL l))]) := by
  rw [pu_spec_CompactPage, pc p_l2Fault rfl]
  simp only [gV1_s, gI_i, vcase_b]
  unfold cpC cpL
  by_cases hp : pagF l = 0
  case neg =>
    rw [if_pos (by simpa using hp), if_neg hp, pu_spec_l2Bad, ob]
    simp only [gVA_a, gx0, gx1, ob, gI_i, gF_f, ln0, ln1, Nat.zero_add, Nat.reduceAdd, if_true]
    rfl
  rw [if_neg (by simp [hp]), if_pos hp, p_l2Compact hp, ob]
  simp only [gV1_s, gF_f, hp]
theorem f_CompactPage {l : List UInt8} (n : Nat) : ∃ y h' ob, call Ev Fn.impl_CompactPage [lv (bys l)] (D n) = some (.agg [.int .i64 (cpC l), .int .i64 0, y], h') ∧ NewB n h' (.s y) (cpL l) ob := by
  rw [eq_impl_CompactPage, pc p_PageFault rfl]
  simp only [gV1_s, gI_i, vcase_b]
  unfold cpC cpL
  by_cases hp : pagF l = 0
  case neg =>
    obtain ⟨h', e1, e2⟩ := badP n (pagF l)
    rw [if_pos (by simpa using hp), if_neg hp, e1]
    exact ⟨_, h', none, rfl, e2⟩
  obtain ⟨h64, ⟨g1, g2, g3⟩, _⟩ := pagF_ok hp
  have hc := cnt_eq l
  obtain ⟨c0, ht, h34⟩ := out0_cmp hp
  rw [if_neg (by simp [hp]), if_pos hp, pc (p_slots (by omega)) rfl]
  simp only [gV1_s, gI_i]
  rw [mk64, Vm.ob, ← hc, w64 (n := 2 * ((cnt l : Nat) : Int)) (by omega) (by omega), w64 (by omega) (by omega), show 2 + 2 * ((cnt l : Nat) : Int) = ((2 + 2 * cnt l : Nat) : Int) from by omega, slF_hi (by omega)]
  have hn : ((D n).new 0 [.int .i64 0, .int .i64 0, .sl none 0]).n = n + 1 := by simp
  have g0 : ((D n).new 0 [.int .i64 0, .int .i64 0, .sl none 0]).g n = .rw 0 [.int .i64 0, .int .i64 0, .sl none 0] := new_g (D n) _ _
  rw [hn]
  generalize (D n).new 0 [.int .i64 0, .int .i64 0, .sl none 0] = A at hn g0 ⊢
  have w0 : BysW (A.new 1 (zer64.map cell8)) (sv (n + 1) 0 64) zer64 (n + 1) := ⟨rfl, by rw [new_n]; omega, by rw [← hn]; exact new_g _ _ _⟩
  have g1' : (A.new 1 (zer64.map cell8)).g n = .rw 0 [.int .i64 0, .int .i64 0, .sl none 0] := by rw [new_g' (by omega)]; exact g0
  have nA : (A.new 1 (zer64.map cell8)).n = n + 2 := by rw [new_n, hn]
  generalize A.new 1 (zer64.map cell8) = B at w0 g1' nA ⊢
  dsimp only
  rw [copS_w w0 (by simp [zer64]) (by rw [ht]; omega), Vm.ob]
  simp only [gV1_s, gI_i]
  have w1 := lay_w w0 (a := 0) (m := l.take (2 + 2 * cnt l)) (by rw [ht]; simp [zer64]; omega)
  obtain ⟨h', e1, e2, e3, c1⟩ := lp_Comp (p := pv n 0) hp (cnt l) 0 _ (out0 l, 64) (by omega) c0 w1
  have o3 := (Oth.put (b := n + 1) (h := B)).trans e3
  rw [D_n, show iv .i64 0 = iv .i64 ((0 : Nat) : Int) from rfl, show iv .i64 64 = iv .i64 ((64 : Nat) : Int) from rfl, e1, Vm.ob, lcase_done]
  have hl1 := c1.len
  have hb := c1.low
  simp only [gx0, gx1, Vm.ob, gV1_s, gI_i]
  rw [show iv .i64 1 = iv .i64 ((1 : Nat) : Int) from rfl, idxK_sv (by omega), e2.set (c := UInt8.ofNat (cmp l (cnt l) 0 (out0 l, 64)).2) (by omega) (by rw [w8 (by omega) (by omega)]; simp; omega)]
  have w5 := e2.set_w (i := 1) (c := UInt8.ofNat (cmp l (cnt l) 0 (out0 l, 64)).2)
  have o5 := o3.trans (Oth.put (b := n + 1) (h := h') (x := .rw 1 (((cmp l (cnt l) 0 (out0 l, 64)).1.set 1 (UInt8.ofNat (cmp l (cnt l) 0 (out0 l, 64)).2)).map cell8)))
  generalize h'.put (n + 1) (.rw 1 (((cmp l (cnt l) 0 (out0 l, 64)).1.set 1 (UInt8.ofNat (cmp l (cnt l) 0 (out0 l, 64)).2)).map cell8)) = K at w5 o5 ⊢
  have w6 : BysW K (sv (n + 1) 0 64) (cmpL l) (n + 1) := w5
  have kN : K.n = n + 2 := by rw [o5.1, nA]
  have gk : K.g n = .rw 0 [.int .i64 0, .int .i64 0, .sl none 0] := (o5.2 n (by omega)).1.trans g1'
  simp only [cellsK, isNo, cond_false, ln0, ln1, Nat.zero_add, Nat.reduceAdd, Nat.le_refl, and_self, if_true]
  rw [show setAt [.int .i64 0, .int .i64 0, .sl none 0] 2 [S.sl (some (n + 1, 0)) 64] = [.int .i64 0, .int .i64 0, .sl (some (n + 1, 0)) 64] from rfl]
  simp only [gx0, gx1, Vm.ob, gI_i, ln0, ln1, Nat.zero_add, Nat.reduceAdd, if_true]
  rw [stK_rw (z := 3) (e := 0) (o := 0) (b := n) (cs := [.int .i64 0, .int .i64 0, .sl none 0]) (r := [.int .i64 0, .int .i64 0, .sl (some (n + 1, 0)) 64]) (by omega) gk (.inr rfl) rfl (by simp)]
  rw [show setAt [.int .i64 0, .int .i64 0, .sl none 0] 0 [.int .i64 0, .int .i64 0, S.sl (some (n + 1, 0)) 64] = [.int .i64 0, .int .i64 0, .sl (some (n + 1, 0)) 64] from rfl]
  simp only [ldT, cond_true]
  rw [loadN_3 (b := n) (e := 0) (by rw [put_n]; omega) (put_g _ _ _), Vm.ob]
  refine ⟨.sl (some (n + 1, 0)) 64, K.put n (.rw 0 [.int .i64 0, .int .i64 0, .sl (some (n + 1, 0)) 64]), some (n + 1), by simp [hp], ?_⟩
  refine ⟨⟨w6.v, by rw [put_n]; omega, by rw [put_g' (by omega)]; exact w6.g⟩, by rw [put_n]; omega, fun b hb => by cases hb; omega, fun b h2 h3 s hs => ?_⟩
  rw [put_n] at h3
  by_cases hbn : b = n
  · subst hbn
    rw [put_g] at hs
    simp only [Blk.cells, List.mem_cons, List.not_mem_nil, or_false] at hs
    rcases hs with rfl | rfl | rfl <;> rfl
  · rw [put_g' hbn, show b = n + 1 from by omega, w6.g] at hs
    obtain ⟨c, _, rfl⟩ := List.mem_map.1 hs
    rfl
end Vm
