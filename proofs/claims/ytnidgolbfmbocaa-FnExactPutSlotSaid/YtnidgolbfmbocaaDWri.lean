/-
  A cell written into a copy of a page; a result with a page, made.
-/
import Derived.Test.YtnidgolbfmbocaaDFre
set_option linter.unusedVariables false
set_option maxRecDepth 100000
set_option linter.unusedSimpArgs false
set_option linter.unusedSectionVars false
namespace Vm
open Go
/-- a page with a cell in a slot -/
def wrC (l : List UInt8) (i a : Nat) (m : List UInt8) : List UInt8 := ((lay l a m).set (2 + 2 * i) (UInt8.ofNat a)).set (3 + 2 * i) (UInt8.ofNat m.length)
theorem wrC_len {l m : List UInt8} {i a : Nat} (h : a + m.length ≤ l.length) : (wrC l i a m).length = l.length := by
  unfold wrC; simp only [List.length_set]; exact lay_len h
theorem f_write {l m : List UInt8} {i a : Nat} (h64 : l.length = 64) (hi : i < 16) (ha : a + m.length ≤ 64) (n : Nat) : ∃ v h', call Ev Fn.impl_write [lv (bys l), iv .i64 i, iv .i64 a, lv (bys m)] (D n) = some (v, h') ∧ NewB n h' v (wrC l i a m) (some (n + 1)) ∧ h'.n = n + 2 := by
  obtain ⟨v, h1, e1, w1, n1⟩ := f_copied (m := l) (by unfold lim; omega) n
  rw [eq_impl_write, pF (h := D n) (h1 := h1) (v := v) e1 ⟨by rw [(show BysW h1 v l (n + 1) from w1.own).v]; rfl, w1.z⟩]
  have hv := (show BysW h1 v l (n + 1) from w1.own).v
  subst hv
  have hle : (D n).n ≤ h1.n := w1.le
  have z1 := w1.z
  generalize hG : (D n).over h1 = G
  have gn : G.n = n + 2 := by rw [← hG, over_n hle, n1]
  have w : BysW G (sv (n + 1) 0 l.length) l (n + 1) := ⟨rfl, by omega, by rw [← hG, over_ge (by simp)]; exact (show BysW h1 _ l (n + 1) from w1.own).g⟩
  have gz : ∀ s ∈ (G.g n).cells, scaS s = true := fun s hs => by
    rw [← hG, over_ge (by simp)] at hs
    exact z1 n (Nat.le_refl _) (by omega) s hs
  have w' : BysW G (sv (n + 1) 0 64) l (n + 1) := by rw [← h64]; exact w
  rw [h64, slK_w w' (by omega), copS_w w' (by omega) (by omega), ob]
  simp only [gV1_s, gI_i]
  have w2 := lay_w w' (a := a) (m := m) (by omega)
  have hl := lay_len (out := l) (m := m) (a := a) (by omega)
  rw [w64 (n := 2 * (i : Int)) (by omega) (by omega), w64 (n := 2 + 2 * (i : Int)) (by omega) (by omega), w64 (n := 3 + 2 * (i : Int)) (by omega) (by omega), show 2 + 2 * (i : Int) = ((2 + 2 * i : Nat) : Int) from by omega, show 3 + 2 * (i : Int) = ((3 + 2 * i : Nat) : Int) from by omega, idxK_sv (by omega),
    w2.set (c := UInt8.ofNat a) (by omega) (by rw [w8 (by omega) (by omega)]; simp; omega)]
  have w3 := w2.set_w (i := 2 + 2 * i) (c := UInt8.ofNat a)
  have o3 : Oth (n + 1) G ((G.put (n + 1) (.rw 1 ((lay l a m).map cell8))).put (n + 1) (.rw 1 (((lay l a m).set (2 + 2 * i) (UInt8.ofNat a)).map cell8))) := Oth.put.trans Oth.put
  generalize (G.put (n + 1) (.rw 1 ((lay l a m).map cell8))).put (n + 1) (.rw 1 (((lay l a m).set (2 + 2 * i) (UInt8.ofNat a)).map cell8)) = K at w3 o3 ⊢
  rw [idxK_sv (by omega), bys_len, w3.set (c := UInt8.ofNat m.length) (by simp; omega) (by rw [w8 (by omega) (by omega)]; simp; omega)]
  have w4 := w3.set_w (i := 3 + 2 * i) (c := UInt8.ofNat m.length)
  have o4 := o3.trans (Oth.put (b := n + 1) (h := K) (x := .rw 1 ((((lay l a m).set (2 + 2 * i) (UInt8.ofNat a)).set (3 + 2 * i) (UInt8.ofNat m.length)).map cell8)))
  refine ⟨_, _, rfl, ⟨w4, by rw [o4.1]; omega, fun b hb => by cases hb; omega, fun b h2 h3 s hs => ?_⟩, by rw [o4.1, gn]⟩
  rw [o4.1, gn] at h3
  by_cases hb : b = n
  · subst hb
    rw [(o4.2 b (by omega)).1] at hs
    exact gz s hs
  · have hb2 : b = n + 1 := by omega
    subst hb2
    rw [w4.g] at hs
    obtain ⟨c, _, rfl⟩ := List.mem_map.1 hs
    rfl
/-- a result with a page, made of what is one's own -/
theorem finP {n b : Nat} {K : H} {m : List UInt8} {q : Int} (hn : n < K.n) (g : K.g n = .rw 0 [.int .i64 0, .int .i64 0, .sl none 0]) (w : BysW K (sv b 0 64) m b) (hb : n < b) (hz : ∀ c, n < c → c < K.n → c ≠ b → ∀ s ∈ (K.g c).cells, scaS s = true) :
    ∃ h', (cellsK (sv b 0 64) fun c124 =>
      if c124.length = 1 ∧ 2 + 1 ≤ ([.int .i64 0, .int .i64 0, .sl none 0] : List S).length then
      if ([.int .i64 q] : List S).length = 1 ∧ 1 + 1 ≤ (setAt ([.int .i64 0, .int .i64 0, .sl none 0] : List S) 2 c124).length then
      ((setAt (setAt ([.int .i64 0, .int .i64 0, .sl none 0] : List S) 2 c124) 1 ([.int .i64 q] : List S))[0]?).bind fun x125 =>
      gI .i64 x125 fun i126 =>
      ((setAt (setAt ([.int .i64 0, .int .i64 0, .sl none 0] : List S) 2 c124) 1 ([.int .i64 q] : List S))[1]?).bind fun x127 =>
      gI .i64 x127 fun i128 =>
      ((setAt (setAt ([.int .i64 0, .int .i64 0, .sl none 0] : List S) 2 c124) 1 ([.int .i64 q] : List S))[2]?).bind fun x129 =>
      if (setAt (setAt ([.int .i64 0, .int .i64 0, .sl none 0] : List S) 2 c124) 1 ([.int .i64 q] : List S)).length = 3 then
      stK 3 K (pv ((D n).n) 0) (.agg [.int .i64 i126, .int .i64 i128, x129]) fun h130 =>
      (loadN 3 h130 (pv ((D n).n) 0)).bind fun c131 =>
      some (V.agg c131, h130)
      else none
      else none
      else none) = some (.agg [.int .i64 0, .int .i64 q, .sl (some (b, 0)) 64], h') ∧ NewB n h' (sv b 0 64) m (some b) := by
  simp only [cellsK, isNo, cond_false, ln0, ln1, Nat.zero_add, Nat.reduceAdd, Nat.le_refl, and_self, if_true]
  rw [show setAt [.int .i64 0, .int .i64 0, .sl none 0] 2 [S.sl (some (b, 0)) 64] = [.int .i64 0, .int .i64 0, .sl (some (b, 0)) 64] from rfl]
  simp only [ln0, ln1, Nat.zero_add, Nat.reduceAdd, Nat.reduceLeDiff, and_self, if_true]
  rw [show setAt [.int .i64 0, .int .i64 0, S.sl (some (b, 0)) 64] 1 [.int .i64 q] = [.int .i64 0, .int .i64 q, .sl (some (b, 0)) 64] from rfl]
  simp only [gx0, gx1, ob, gI_i, ln0, ln1, Nat.zero_add, Nat.reduceAdd, if_true]
  rw [D_n, stK_rw (z := 3) (e := 0) (o := 0) (b := n) (cs := [.int .i64 0, .int .i64 0, .sl none 0]) (r := [.int .i64 0, .int .i64 q, .sl (some (b, 0)) 64]) hn g (.inr rfl) rfl (by simp)]
  rw [show setAt [.int .i64 0, .int .i64 0, .sl none 0] 0 [.int .i64 0, .int .i64 q, S.sl (some (b, 0)) 64] = [.int .i64 0, .int .i64 q, .sl (some (b, 0)) 64] from rfl]
  rw [loadN_3 (b := n) (e := 0) (by rw [put_n]; omega) (put_g _ _ _), ob]
  refine ⟨_, rfl, ⟨w.v, by rw [put_n]; exact w.n, by rw [put_g' (by omega)]; exact w.g⟩, by rw [put_n]; omega, fun c hc => by cases hc; omega, fun c h2 h3 s hs => ?_⟩
  rw [put_n] at h3
  by_cases hcn : c = n
  · subst hcn
    rw [put_g] at hs
    simp only [Blk.cells, List.mem_cons, List.not_mem_nil, or_false] at hs
    rcases hs with rfl | rfl | rfl <;> rfl
  · rw [put_g' hcn] at hs
    by_cases hcb : c = b
    · subst hcb
      rw [w.g] at hs
      obtain ⟨c, _, rfl⟩ := List.mem_map.1 hs
      rfl
    · exact hz c (by omega) h3 hcb s hs
end Vm
