/-
  A page made dense.
-/
import Derived.Test.YtnidgolbfmbocaaDSum
import Derived.Test.YtnidgolbfmbocaaDCop
import Derived.Test.YtnidgolbfmbocaaDDrop
import Derived.Test.YtnidgolbfmbocaaDResP
set_option linter.unusedVariables false
set_option maxRecDepth 100000
set_option linter.unusedSimpArgs false
namespace Vm
open Go

def cmpS (l : List UInt8) (i : Nat) (s : List UInt8 × Nat) : List UInt8 × Nat :=
  if siz l i = 0 then s else ((lay s.1 (s.2 - (cellB l i).length) (cellB l i)).set (2 + 2 * i) (UInt8.ofNat (s.2 - (cellB l i).length)), s.2 - (cellB l i).length)
def cmp (l : List UInt8) : Nat → Nat → List UInt8 × Nat → List UInt8 × Nat
  | 0, _, s => s
  | k + 1, i, s => cmp l k (i + 1) (cmpS l i s)
theorem cellB_len' {l : List UInt8} (hp : pagF l = 0) {k : Nat} (hk : k < cnt l) : (cellB l k).length = (siz l k).toNat := by
  obtain ⟨s1, s2, s3, _, _⟩ := slot_bd hp hk
  obtain ⟨h64, _⟩ := pagF_ok hp
  unfold cellB
  rw [List.length_drop, List.length_take]; omega
/-- what is known of the page under way -/
structure Cmp (l : List UInt8) (i : Nat) (s : List UInt8 × Nat) : Prop where
  len : s.1.length = 64
  low : s.2 + sumS l i = 64
  sz : ∀ j, j < cnt l → s.1[3 + 2 * j]? = l[3 + 2 * j]?
theorem Cmp.low_ge {l : List UInt8} {i : Nat} {s : List UInt8 × Nat} (c : Cmp l i s) (hp : pagF l = 0) (hi : i ≤ cnt l) : 2 + 2 * cnt l ≤ s.2 := by
  have := sumS_bd hp hi
  obtain ⟨h64, ⟨g1, g2, g3⟩, _⟩ := pagF_ok hp
  have := c.low
  have := cnt_eq l
  omega
theorem Cmp.step {l : List UInt8} {i : Nat} {s : List UInt8 × Nat} (c : Cmp l i s) (hp : pagF l = 0) (hi : i < cnt l) : Cmp l (i + 1) (cmpS l i s) ∧ (siz l i ≠ 0 → (cellB l i).length ≤ s.2 ∧ 2 + 2 * cnt l ≤ s.2 - (cellB l i).length ∧ s.2 - (cellB l i).length + (cellB l i).length ≤ s.1.length) := by
  have hl := cellB_len' hp hi
  obtain ⟨s1, s2, s3, _, _⟩ := slot_bd hp hi
  have hb := sumS_bd hp (i := i + 1) (by omega)
  obtain ⟨h64, ⟨g1, g2, g3⟩, _⟩ := pagF_ok hp
  have hlow := c.low
  have hc := cnt_eq l
  have hlen := c.len
  simp only [sumS] at hb
  unfold cmpS
  by_cases hs : siz l i = 0
  · rw [if_pos hs]
    exact ⟨⟨c.len, by simp only [sumS, hs]; simpa using hlow, c.sz⟩, fun h => absurd hs h⟩
  · rw [if_neg hs]
    have hle : s.2 - (cellB l i).length + (cellB l i).length ≤ s.1.length := by omega
    refine ⟨⟨by simp only [List.length_set]; rw [lay_len hle, hlen], by simp only [sumS]; omega, fun j hj => ?_⟩, fun _ => ⟨by omega, by omega, hle⟩⟩
    simp only
    rw [List.getElem?_set_ne (by omega), lay_get (by omega) hle]
    exact c.sz j hj
theorem lp_Comp {l : List UInt8} {b : Nat} {p : V} (hp : pagF l = 0) : ∀ (k i : Nat) (h : H) (s : List UInt8 × Nat), i + k = cnt l → Cmp l i s → BysW h (sv b 0 64) s.1 b →
    ∃ h', Lp.impl_CompactPage 0 [lv (bys l), p, sv b 0 64, iv .i64 s.2, iv .i64 (cnt l), iv .i64 i] h = some (.done [p, sv b 0 64, iv .i64 (cmp l k i s).2] h') ∧ BysW h' (sv b 0 64) (cmp l k i s).1 b ∧ Oth b h h' ∧ Cmp l (cnt l) (cmp l k i s) := by
  obtain ⟨h64, ⟨g1, g2, g3⟩, _⟩ := pagF_ok hp
  have hc := cnt_eq l
  intro k
  induction k with
  | zero =>
    intro i h s hi c w
    obtain rfl : i = cnt l := by omega
    rw [eq_impl_CompactPage_l0, vcase_b, if_neg (by simp), tidy_self]
    exact ⟨h, rfl, w, Oth.refl _ _, c⟩
  | succ k ih =>
    intro i h s hi c w
    obtain ⟨c', cb⟩ := c.step hp (by omega)
    have hlen := c.len
    have hl64 : s.2 ≤ 64 := by have := c.low; omega
    rw [eq_impl_CompactPage_l0, vcase_b, if_pos (by simp; omega), pc (p_hasSlot hp) rfl]
    simp only [gV1_s, gB_b, vcase_b]
    have hh : hasB l (i : Int) = (siz l i != 0) := by
      unfold hasB
      rw [show decide ((0 : Int) ≤ (i : Int)) = true from by simp, show decide ((i : Int) < bt l 0) = true from by simp; omega]
      simp
    rw [hh, w64 (n := (i : Int) + 1) (by omega) (by omega), show (i : Int) + 1 = ((i + 1 : Nat) : Int) from by omega]
    unfold cmp
    by_cases hs : siz l i = 0
    · have e : cmpS l i s = s := by unfold cmpS; rw [if_pos hs]
      rw [e] at c' ⊢
      rw [if_pos (by simp [hs]), tidy_self]
      exact ih (i + 1) h s (by omega) c' w
    · obtain ⟨b1, b2, b3⟩ := cb hs
      have e : cmpS l i s = ((lay s.1 (s.2 - (cellB l i).length) (cellB l i)).set (2 + 2 * i) (UInt8.ofNat (s.2 - (cellB l i).length)), s.2 - (cellB l i).length) := by unfold cmpS; rw [if_neg hs]
      rw [if_neg (by simp [hs]), p_cellAt hp (by omega), ob]
      simp only [gV1_s, gF_f, bys_len]
      rw [w64 (n := (s.2 : Int) - ((cellB l i).length : Int)) (by omega) (by omega), show (s.2 : Int) - ((cellB l i).length : Int) = ((s.2 - (cellB l i).length : Nat) : Int) from by omega]
      rw [slK_w w (by omega), copS_w w (by omega) (by omega), ob]
      simp only [gV1_s, gI_i]
      have w2 := lay_w w (a := s.2 - (cellB l i).length) (m := cellB l i) b3
      rw [w64 (n := 2 * (i : Int)) (by omega) (by omega), w64 (by omega) (by omega), show 2 + 2 * (i : Int) = ((2 + 2 * i : Nat) : Int) from by omega, idxK_sv (by omega),
        w2.set (c := UInt8.ofNat (s.2 - (cellB l i).length)) (by rw [lay_len b3]; omega) (by rw [w8 (by omega) (by omega)]; simp; omega)]
      have w3 := w2.set_w (i := 2 + 2 * i) (c := UInt8.ofNat (s.2 - (cellB l i).length))
      have o3 : Oth b h ((h.put b (.rw 1 ((lay s.1 (s.2 - (cellB l i).length) (cellB l i)).map cell8))).put b (.rw 1 (((lay s.1 (s.2 - (cellB l i).length) (cellB l i)).set (2 + 2 * i) (UInt8.ofNat (s.2 - (cellB l i).length))).map cell8))) := Oth.put.trans Oth.put
      rw [o3.tidy w.n]
      generalize (h.put b (.rw 1 ((lay s.1 (s.2 - (cellB l i).length) (cellB l i)).map cell8))).put b (.rw 1 (((lay s.1 (s.2 - (cellB l i).length) (cellB l i)).set (2 + 2 * i) (UInt8.ofNat (s.2 - (cellB l i).length))).map cell8)) = K at w3 o3
      rw [e] at c' ⊢
      obtain ⟨h', e1, e2, e3, e4⟩ := ih (i + 1) K _ (by omega) c' w3
      exact ⟨h', e1, e2, o3.trans e3, e4⟩
theorem r_l2Stand {h : H} {b i a : Nat} {out m : List UInt8} (w : BysW h (sv b 0 64) out b) (h64 : out.length = 64) (hi : i < 16) (ha : a + m.length ≤ 64) :
    ∃ h', call Ev Fn.spec_l2Stand [sv b 0 64, iv .i64 i, iv .i64 a, lv (bys m)] h = some (.tup [], h') ∧ BysW h' (sv b 0 64) (((lay out a m).set (2 + 2 * i) (UInt8.ofNat a)).set (3 + 2 * i) (UInt8.ofNat m.length)) b ∧ Oth b h h' := by
  rw [eq_spec_l2Stand, slK_w w (by omega), copS_w w (by omega) (by omega), ob]
  simp only [gV1_s, gI_i, lenV, bys_len]
  have w2 := lay_w w (a := a) (m := m) (by omega)
  have hl := lay_len (out := out) (m := m) (a := a) (by omega)
  rw [w64 (n := 2 * (i : Int)) (by omega) (by omega), w64 (n := 2 + 2 * (i : Int)) (by omega) (by omega), w64 (n := 3 + 2 * (i : Int)) (by omega) (by omega), show 2 + 2 * (i : Int) = ((2 + 2 * i : Nat) : Int) from by omega, show 3 + 2 * (i : Int) = ((3 + 2 * i : Nat) : Int) from by omega, idxK_sv (by omega),
    w2.set (c := UInt8.ofNat a) (by omega) (by rw [w8 (by omega) (by omega)]; simp; omega)]
  have w3 := w2.set_w (i := 2 + 2 * i) (c := UInt8.ofNat a)
  have o3 : Oth b h ((h.put b (.rw 1 ((lay out a m).map cell8))).put b (.rw 1 (((lay out a m).set (2 + 2 * i) (UInt8.ofNat a)).map cell8))) := Oth.put.trans Oth.put
  generalize (h.put b (.rw 1 ((lay out a m).map cell8))).put b (.rw 1 (((lay out a m).set (2 + 2 * i) (UInt8.ofNat a)).map cell8)) = K at w3 o3 ⊢
  simp only [ob, gV1_s, gI_i]
  rw [idxK_sv (by omega), w3.set (c := UInt8.ofNat m.length) (by simp; omega) (by rw [w8 (by omega) (by omega)]; simp; omega)]
  exact ⟨_, rfl, w3.set_w, o3.trans Oth.put⟩
theorem lp_l2Comp {l : List UInt8} {b : Nat} (hp : pagF l = 0) : ∀ (k i : Nat) (h : H) (s : List UInt8 × Nat), i + k = cnt l → Cmp l i s → BysW h (sv b 0 64) s.1 b →
    ∃ h', Lp.spec_l2Compact 0 [lv (bys l), iv .i64 (cnt l), sv b 0 64, iv .i64 s.2, iv .i64 i] h = some (.done [sv b 0 64, iv .i64 (cmp l k i s).2] h') ∧ BysW h' (sv b 0 64) (cmp l k i s).1 b ∧ Oth b h h' := by
  obtain ⟨h64, ⟨g1, g2, g3⟩, _⟩ := pagF_ok hp
  have hc := cnt_eq l
  intro k
  induction k with
  | zero =>
    intro i h s hi c w
    obtain rfl : i = cnt l := by omega
    rw [eq_spec_l2Compact_l0, vcase_b, if_neg (by simp), tidy_self]
    exact ⟨h, rfl, w, Oth.refl _ _⟩
  | succ k ih =>
    intro i h s hi c w
    obtain ⟨c', cb⟩ := c.step hp (by omega)
    have hlen := c.len
    have hl64 : s.2 ≤ 64 := by have := c.low; omega
    rw [eq_spec_l2Compact_l0, vcase_b, if_pos (by simp; omega), pc (p_l2Size (by omega) (by omega)) rfl]
    simp only [gV1_s, gI_i, vcase_b]
    rw [w64 (n := (i : Int) + 1) (by omega) (by omega), show (i : Int) + 1 = ((i + 1 : Nat) : Int) from by omega]
    unfold cmp
    by_cases hs : siz l i = 0
    · have e : cmpS l i s = s := by unfold cmpS; rw [if_pos hs]
      rw [e] at c' ⊢
      rw [if_pos (by simp [hs]), tidy_self]
      exact ih (i + 1) h s (by omega) c' w
    · obtain ⟨b1, b2, b3⟩ := cb hs
      have hl := cellB_len' hp (k := i) (by omega)
      have e : cmpS l i s = ((lay s.1 (s.2 - (cellB l i).length) (cellB l i)).set (2 + 2 * i) (UInt8.ofNat (s.2 - (cellB l i).length)), s.2 - (cellB l i).length) := by unfold cmpS; rw [if_neg hs]
      rw [if_neg (by simpa using hs), p_l2Cell hp (by omega), ob]
      simp only [gV1_s, gF_f, bys_len]
      rw [w64 (n := (s.2 : Int) - ((cellB l i).length : Int)) (by omega) (by omega), show (s.2 : Int) - ((cellB l i).length : Int) = ((s.2 - (cellB l i).length : Nat) : Int) from by omega]
      obtain ⟨K, e1, w3, o3⟩ := r_l2Stand (i := i) (a := s.2 - (cellB l i).length) (m := cellB l i) w hlen (by omega) (by omega)
      rw [e1, ob]
      have same : ((lay s.1 (s.2 - (cellB l i).length) (cellB l i)).set (2 + 2 * i) (UInt8.ofNat (s.2 - (cellB l i).length))).set (3 + 2 * i) (UInt8.ofNat (cellB l i).length) = (lay s.1 (s.2 - (cellB l i).length) (cellB l i)).set (2 + 2 * i) (UInt8.ofNat (s.2 - (cellB l i).length)) := by
        have hg : ((lay s.1 (s.2 - (cellB l i).length) (cellB l i)).set (2 + 2 * i) (UInt8.ofNat (s.2 - (cellB l i).length)))[3 + 2 * i]? = some (UInt8.ofNat (cellB l i).length) := by
          rw [List.getElem?_set_ne (by omega), lay_get (by omega) b3, c.sz i (by omega), List.getElem?_eq_getElem (by omega)]
          congr 1
          have hz : siz l i = ((l[3 + 2 * i]'(by omega)).toNat : Int) := by
            unfold siz bt
            rw [Int.toNat_natCast, List.getD, List.getElem?_eq_getElem (by omega)]; rfl
          rw [hl, hz, Int.toNat_natCast]; simp
        obtain ⟨q1, q2⟩ := List.getElem?_eq_some_iff.1 hg
        rw [← q2]
        exact List.set_getElem_self q1
      rw [same] at w3
      dsimp only
      rw [o3.tidy w.n, o3.tidy w.n]
      rw [e] at c' ⊢
      obtain ⟨h', e1, e2, e3⟩ := ih (i + 1) K _ (by omega) c' w3
      exact ⟨h', e1, e2, o3.trans e3⟩
end Vm
