/-
  What both ways of the law come to, and that the law returns true.
-/
import Derived.Sort.LotD6
import Derived.Sort.LotD7
import Derived.Sort.LotB
import Derived.Sort.LotD3
import Derived.Sort.LotD5
import Derived.Sort.LotD4
import Derived.Sort.LotA
import Derived.Sort.LotC
import Derived.Test.YtmenpfhpflnbnaaTyp
import Derived.Test.YtmenpfhpflnbnaaEqs
import Derived.Test.YtmenpfhpflnbnaaDl
import Derived.Test.YtmenpfhpflnbnaaDataFnViews2
set_option linter.unusedVariables false
set_option maxRecDepth 100000
set_option linter.unusedSimpArgs false
set_option linter.unusedSectionVars false
set_option maxHeartbeats 1000000
/-
  The room that is free in a page; a cell written into a copy of it.
-/
namespace Vm
open Go
/-- what is free -/
def freS (l : List UInt8) : Int := 62 - 2 * bt l 0 - sumS l (cnt l)
section
variable {l : List UInt8} (hp : pagF l = 0)
include hp
theorem freS_bd : 0 ≤ freS l ∧ freS l ≤ 62 := by
  have := sumS_bd hp (i := cnt l) (Nat.le_refl _)
  obtain ⟨h64, ⟨g1, g2, g3⟩, _⟩ := pagF_ok hp
  have := bt_nn l 0
  unfold freS; omega
theorem sumS_step {i : Nat} (hi : i < cnt l) : (sumS l (i + 1) : Int) = sumS l i + siz l i := by
  have := (pl_bd l i).2.2.1
  simp only [sumS]; omega
theorem p_l2Free : pureV (call Ev) Fn.spec_l2Free [lv (bys l)] = some (iv .i64 (freS l)) := by
  obtain ⟨h64, ⟨g1, g2, g3⟩, _⟩ := pagF_ok hp
  have b2 := bt_nn l 0
  have hc := cnt_eq l
  have loop : ∀ (k i : Nat), i + k = cnt l → Lp.spec_l2Free 0 [lv (bys l), iv .i64 (62 - 2 * bt l 0 - sumS l i), iv .i64 i] (D 0) = some (.done [iv .i64 (freS l)] (D 0)) := by
    intro k
    induction k with
    | zero =>
      intro i hi
      obtain rfl : i = cnt l := by omega
      rw [eq_spec_l2Free_l0, pc (p_l2Count (by omega)) rfl]
      simp only [gV1_s, gI_i, vcase_b]
      rw [if_neg (by simp; omega), tidy_self]; rfl
    | succ k ih =>
      intro i hi
      have h1 := sumS_step hp (i := i) (by omega)
      have h2 := sumS_bd hp (i := i + 1) (by omega)
      have h3 := (pl_bd l i).2.2
      have h4 := bt_nn l 1
      rw [eq_spec_l2Free_l0, pc (p_l2Count (by omega)) rfl]
      simp only [gV1_s, gI_i, vcase_b]
      rw [if_pos (by simp; omega), pc (p_l2Size (by omega) (by omega)) rfl]
      simp only [gV1_s, gI_i]
      rw [w64 (by omega) (by omega), w64 (by omega) (by omega), tidy_self, show (i : Int) + 1 = ((i + 1 : Nat) : Int) from by omega, show 62 - 2 * bt l 0 - (sumS l i : Int) - siz l i = 62 - 2 * bt l 0 - (sumS l (i + 1) : Int) from by omega]
      exact ih (i + 1) (by omega)
  have := loop (cnt l) 0 (by omega)
  simp only [sumS, Int.sub_zero, Int.ofNat_zero, Int.natCast_zero] at this
  rw [pu_spec_l2Free, pc (p_l2Count (by omega)) rfl]
  simp only [gV1_s, gI_i]
  rw [w64 (n := 2 * bt l 0) (by omega) (by omega), w64 (by omega) (by omega), this]
  simp
end
end Vm
/-
  A cell written into a copy of a page; a result with a page, made.
-/
namespace Vm
open Go
/-- a page with a cell in a slot -/
def wrC (l : List UInt8) (i a : Nat) (m : List UInt8) : List UInt8 := ((lay l a m).set (2 + 2 * i) (UInt8.ofNat a)).set (3 + 2 * i) (UInt8.ofNat m.length)
theorem wrC_len {l m : List UInt8} {i a : Nat} (h : a + m.length ≤ l.length) : (wrC l i a m).length = l.length := by
  unfold wrC; simp only [List.length_set]; exact lay_len h
end Vm
/-
  A cell set in a slot that holds one.
-/
namespace Vm
open Go
theorem wrC_set1 {l m : List UInt8} {k a : Nat} {c : UInt8} (ha : 2 ≤ a) (hl : a ≤ l.length) : wrC (l.set 1 c) k a m = (wrC l k a m).set 1 c := by
  have e : lay (l.set 1 c) a m = (lay l a m).set 1 c := by
    unfold lay
    rw [List.drop_set_of_lt (by omega), List.take_set, List.append_assoc, List.append_assoc, List.set_append_left _ _ (by rw [List.length_take]; omega)]
  unfold wrC
  rw [e, List.set_comm c (UInt8.ofNat a) (show 1 ≠ 2 + 2 * k by omega), List.set_comm c (UInt8.ofNat m.length) (show 1 ≠ 3 + 2 * k by omega)]
noncomputable def setR (l : List UInt8) (i : Int) (m : List UInt8) : Int × Int × List UInt8 :=
  if pagF l ≠ 0 then (pagF l, 0, []) else if inB m.length 1 20 = false then (1, 0, []) else if hasB l i = false then (4, 0, []) else
  if (m.length : Int) ≤ siz l i.toNat then (0, i, wrC l i.toNat (plc l i.toNat + siz l i.toNat - m.length).toNat m) else
  if freS l + siz l i.toNat < m.length then (9, 0, []) else if bt l 1 - m.length < 2 + 2 * bt l 0 then (8, 0, []) else
  (0, i, (wrC l i.toNat (bt l 1 - m.length).toNat m).set 1 (UInt8.ofNat (bt l 1 - m.length).toNat))
theorem f_l2Set {l m : List UInt8} {k : Nat} (hp : pagF l = 0) (hk : k < cnt l) (hs : inB m.length 1 20 = true) (hb : hasB l (k : Int) = true) (n : Nat) :
    ∃ y h' o, call Ev Fn.spec_l2Set [lv (bys l), iv .i64 k, lv (bys m)] (D n) = some (.tup [.s y, .s (.int .i64 (setR l k m).1)], h') ∧ NewB n h' (.s y) (setR l k m).2.2 o := by
  obtain ⟨h64, ⟨g1, g2, g3⟩, _⟩ := pagF_ok hp
  obtain ⟨s1, s2, s3, s4, s5⟩ := slot_bd hp hk
  have hc := cnt_eq l
  have hm := inB_iff.1 hs
  have hf := freS_bd hp
  obtain ⟨G, e1, gn, gz, w⟩ := cp_l2Copy (l := l) (by unfold lim; omega) n
  rw [eq_spec_l2Set, pc (p_l2Size s4 s5) rfl]
  simp only [gV1_s, gI_i]
  rw [e1]
  rw [h64] at w
  unfold setR
  rw [if_neg (by simp [hp]), if_neg (by simp [hs]), if_neg (by simp [hb]), Int.toNat_natCast]
  simp only [vcase_b, bys_len, h64]
  by_cases c1 : (m.length : Int) ≤ siz l k
  · rw [if_pos (by simpa using c1), if_pos c1, pc (p_l2Place (by omega) s5) rfl]
    simp only [gV1_s, gI_i]
    rw [w64 (n := plc l k + siz l k) (by omega) (by omega), w64 (by omega) (by omega), show plc l k + siz l k - (m.length : Int) = ((plc l k + siz l k - (m.length : Int)).toNat : Int) from by omega]
    obtain ⟨K, e2, w3, o3⟩ := r_l2Stand (i := k) (a := (plc l k + siz l k - (m.length : Int)).toNat) (m := m) w h64 (by omega) (by omega)
    rw [e2, ob]
    dsimp only
    rw [o3.tidy w.n]
    simp only [V.toA, ob]
    exact ⟨_, K, _, rfl, NewB.of gn gz o3 w3⟩
  rw [if_neg (by simpa using c1), if_neg c1, pc (p_l2Free hp) rfl]
  simp only [gV1_s, gI_i, vcase_b]
  rw [w64 (n := freS l + siz l k) (by omega) (by omega)]
  by_cases c2 : freS l + siz l k < m.length
  · rw [if_pos (by simpa using c2), if_pos c2]
    exact ⟨_, G, none, rfl, NewB.nil (by omega) (w.scz gn gz)⟩
  rw [if_neg (by simpa using c2), if_neg c2, pc (p_l2Low (by omega)) rfl]
  simp only [gV1_s, gI_i]
  have b2 := bt_nn l 0
  rw [pc (p_l2Count (by omega)) rfl]
  simp only [gV1_s, gI_i, vcase_b]
  rw [w64 (n := 2 * bt l 0) (by omega) (by omega), w64 (n := 2 + 2 * bt l 0) (by omega) (by omega), w64 (n := bt l 1 - (m.length : Int)) (by omega) (by omega)]
  by_cases c3 : bt l 1 - m.length < 2 + 2 * bt l 0
  · rw [if_pos (by simpa using c3), if_pos c3]
    exact ⟨_, G, none, rfl, NewB.nil (by omega) (w.scz gn gz)⟩
  rw [if_neg (by simpa using c3), if_neg c3]
  rw [show bt l 1 - (m.length : Int) = ((bt l 1 - (m.length : Int)).toNat : Int) from by omega, show iv .i64 1 = iv .i64 ((1 : Nat) : Int) from rfl, idxK_sv (by omega), w.set (c := UInt8.ofNat (bt l 1 - (m.length : Int)).toNat) (by omega) (by rw [w8 (by omega) (by omega)]; simp; omega)]
  have w2 := w.set_w (i := 1) (c := UInt8.ofNat (bt l 1 - (m.length : Int)).toNat)
  have o2 : Oth (n + 1) G (G.put (n + 1) (.rw 1 ((l.set 1 (UInt8.ofNat (bt l 1 - (m.length : Int)).toNat)).map cell8))) := Oth.put
  generalize G.put (n + 1) (.rw 1 ((l.set 1 (UInt8.ofNat (bt l 1 - (m.length : Int)).toNat)).map cell8)) = F at w2 o2 ⊢
  obtain ⟨K, e2, w3, o3⟩ := r_l2Stand (i := k) (a := (bt l 1 - (m.length : Int)).toNat) (m := m) w2 (by simp [h64]) (by omega) (by omega)
  rw [e2, ob]
  dsimp only
  rw [o3.tidy w2.n]
  simp only [V.toA, ob]
  have e3 : ((lay (l.set 1 (UInt8.ofNat (bt l 1 - (m.length : Int)).toNat)) (bt l 1 - (m.length : Int)).toNat m).set (2 + 2 * k) (UInt8.ofNat (bt l 1 - (m.length : Int)).toNat)).set (3 + 2 * k) (UInt8.ofNat m.length) = (wrC l k (bt l 1 - (m.length : Int)).toNat m).set 1 (UInt8.ofNat (bt l 1 - (m.length : Int)).toNat) := wrC_set1 (by omega) (by omega)
  rw [e3] at w3
  exact ⟨_, K, _, rfl, NewB.of gn gz (o2.trans o3) (by simpa using w3)⟩
end Vm
/-
  Results of a code, a number and bytes in a stretch of blocks.
-/
namespace Vm
open Go
theorem NewB.s3 {n : Nat} {h : H} {y : S} {l : List UInt8} {o : Option Nat} {c d : Int} (w : NewB n h (.s y) l o) : NewS (OwnB (.s y) l) (.agg [.int .i64 c, .int .i64 d, y]) n h :=
  ⟨w.le, w.s, ⟨by simp [w.own.sca], w.z⟩⟩
theorem OwnB.frz3 {y : S} {l : List UInt8} {lo hi : Nat} {h : H} {c d : Int} (w : OwnB (.s y) l lo hi h) : frzV h (.agg [.int .i64 c, .int .i64 d, y]) = some (.agg [.int .i64 c, .int .i64 d, .fs (bys l)]) := by
  obtain ⟨ob, h1, _⟩ := w
  exact Vm.frz3 h1
end Vm
/-
  A slot set: what both ways come to.
-/
namespace Vm
open Go
end Vm
/-
  A cell put into a page.
-/
namespace Vm
open Go
/-- the first slot that is empty, from one on -/
noncomputable def empG (l : List UInt8) : Nat → Nat → Nat
  | 0, i => i
  | q + 1, i => if siz l i = 0 then i else empG l q (i + 1)
theorem empG_le (l : List UInt8) : ∀ (q i : Nat), i ≤ empG l q i ∧ empG l q i ≤ i + q
  | 0, i => ⟨Nat.le_refl _, Nat.le_refl _⟩
  | q + 1, i => by
    have := empG_le l q (i + 1)
    simp only [empG]
    split <;> omega
noncomputable def empS (l : List UInt8) : Nat := empG l (cnt l) 0
theorem empS_le (l : List UInt8) : empS l ≤ cnt l := by have := (empG_le l (cnt l) 0).2; unfold empS; omega
/-- the number of slots behind a put, and the bytes its entry takes -/
noncomputable def puN (l : List UInt8) : Nat := if empS l = cnt l then cnt l + 1 else cnt l
noncomputable def puM (l : List UInt8) : Int := if empS l = cnt l then 2 else 0
noncomputable def puA (l m : List UInt8) : Nat := (bt l 1 - m.length).toNat
noncomputable def puL (l m : List UInt8) : List UInt8 := ((wrC l (empS l) (puA l m) m).set 0 (UInt8.ofNat (puN l))).set 1 (UInt8.ofNat (puA l m))
/-- of a right page: code, slot, page -/
noncomputable def pu0 (l m : List UInt8) : Int × Int × List UInt8 :=
  if empS l = cnt l ∧ 16 ≤ cnt l then (2, 0, []) else if freS l < m.length + puM l then (9, 0, []) else if bt l 1 - m.length < 2 + 2 * puN l then (8, 0, []) else (0, empS l, puL l m)
section
variable {l : List UInt8} (hp : pagF l = 0)
include hp
theorem p_l2Empty : pureV (call Ev) Fn.spec_l2Empty [lv (bys l)] = some (iv .i64 (empS l)) := by
  obtain ⟨h64, ⟨g1, g2, g3⟩, _⟩ := pagF_ok hp
  have hc := cnt_eq l
  have b2 := bt_nn l 0
  have loop : ∀ (q i : Nat), i + q = cnt l →
      (Lp.spec_l2Empty 0 [lv (bys l), iv .i64 i] (D 0)).bind (fun o101 => lcase o101 (fun l102 h103 =>
        (l102[0]?).bind fun w106 =>
        gV1 w106 fun x107 =>
        gF x107 fun z108 =>
        pcallS (call Ev) Fn.spec_l2Count [lv z108] fun v109 =>
        gV1 v109 fun x110 =>
        gI .i64 x110 fun i111 =>
        some (iv .i64 i111)) (fun v104 h105 =>
        frzV h105 v104)) = some (iv .i64 (empG l q i)) := by
    intro q
    induction q with
    | zero =>
      intro i hi
      rw [eq_spec_l2Empty_l0, pc (p_l2Count (by omega)) rfl]
      simp only [gV1_s, gI_i, vcase_b]
      rw [if_neg (by simp; omega), tidy_self]
      simp only [ob, lcase_done, gx0, gV1_s, gF_f]
      rw [pc (p_l2Count (by omega)) rfl]
      simp only [gV1_s, gI_i, empG]
      rw [show bt l 0 = (i : Int) from by omega]
    | succ q ih =>
      intro i hi
      rw [eq_spec_l2Empty_l0, pc (p_l2Count (by omega)) rfl]
      simp only [gV1_s, gI_i, vcase_b]
      rw [if_pos (by simp; omega), pc (p_l2Size (by omega) (by omega)) rfl]
      simp only [gV1_s, gI_i, vcase_b, empG]
      by_cases h0 : siz l i = 0
      · rw [if_pos (by simpa using h0), if_pos h0]; simp
      · rw [if_neg (by simpa using h0), if_neg h0, w64 (by omega) (by omega), tidy_self, show (i : Int) + 1 = ((i + 1 : Nat) : Int) from by omega]
        exact ih (i + 1) (by omega)
  rw [pu_spec_l2Empty]
  exact loop (cnt l) 0 (by omega)
end
theorem wrC_set0 {l m : List UInt8} {k a : Nat} {c c' : UInt8} (ha : 2 ≤ a) (hl : a ≤ l.length) : wrC ((l.set 0 c).set 1 c') k a m = ((wrC l k a m).set 0 c).set 1 c' := by
  rw [wrC_set1 ha (by simpa using hl)]
  congr 1
  have e : lay (l.set 0 c) a m = (lay l a m).set 0 c := by
    unfold lay
    rw [List.drop_set_of_lt (by omega), List.take_set, List.append_assoc, List.append_assoc, List.set_append_left _ _ (by rw [List.length_take]; omega)]
  unfold wrC
  rw [e, List.set_comm c (UInt8.ofNat a) (show 0 ≠ 2 + 2 * k by omega), List.set_comm c (UInt8.ofNat m.length) (show 0 ≠ 3 + 2 * k by omega)]
theorem puN_bd {l : List UInt8} (h : cnt l ≤ 16) (hn : ¬ (empS l = cnt l ∧ 16 ≤ cnt l)) : puN l ≤ 16 ∧ empS l < puN l ∧ empS l < 16 ∧ cnt l ≤ puN l := by
  have := empS_le l
  unfold puN
  split <;> omega
theorem f_l2Put {l m : List UInt8} (hp : pagF l = 0) (hs : inB m.length 1 20 = true) (n : Nat) :
    ∃ y h' o, call Ev Fn.spec_l2Put [lv (bys l), lv (bys m)] (D n) = some (.tup [.s y, .s (.int .i64 (pu0 l m).2.1), .s (.int .i64 (pu0 l m).1)], h') ∧ NewB n h' (.s y) (pu0 l m).2.2 o := by
  obtain ⟨h64, ⟨g1, g2, g3⟩, _⟩ := pagF_ok hp
  have hc := cnt_eq l
  have hm := inB_iff.1 hs
  have b2 := bt_nn l 0
  have hf := freS_bd hp
  have he := empS_le l
  have dz : ∀ b, n ≤ b → b < (D n).n → ∀ s ∈ ((D n).g b).cells, scaS s = true := fun b h1 h2 => by simp at h2; omega
  have J : ∀ (k : Nat) (q : Int), k = puN l → q = puM l → ¬ (empS l = cnt l ∧ 16 ≤ cnt l) → ∃ y h' o, Jn.spec_l2Put_0 k q (bys l) (bys m) n (empS l) = some (.tup [.s y, .s (.int .i64 (pu0 l m).2.1), .s (.int .i64 (pu0 l m).1)], h') ∧ NewB n h' (.s y) (pu0 l m).2.2 o := by
    intro k q hk hq hn
    subst hk; subst hq
    obtain ⟨n1, n2, n3, n4⟩ := puN_bd (by omega) hn
    have hM : puM l = 0 ∨ puM l = 2 := by unfold puM; split <;> simp
    unfold Jn.spec_l2Put_0 pu0
    rw [if_neg hn, pc (p_l2Free hp) rfl]
    simp only [gV1_s, gI_i, vcase_b, bys_len]
    rw [w64 (n := (m.length : Int) + puM l) (by omega) (by omega)]
    by_cases c2 : freS l < m.length + puM l
    · rw [if_pos (by simpa using c2), if_pos c2]; exact ⟨_, _, none, rfl, NewB.nil (by simp) dz⟩
    rw [if_neg (by simpa using c2), if_neg c2, pc (p_l2Low (by omega)) rfl]
    simp only [gV1_s, gI_i, vcase_b]
    rw [w64 (n := bt l 1 - (m.length : Int)) (by omega) (by omega), w64 (n := 2 * (puN l : Int)) (by omega) (by omega), w64 (n := 2 + 2 * (puN l : Int)) (by omega) (by omega)]
    by_cases c3 : bt l 1 - m.length < 2 + 2 * puN l
    · rw [if_pos (by simpa using c3), if_pos c3]; exact ⟨_, _, none, rfl, NewB.nil (by simp) dz⟩
    rw [if_neg (by simpa using c3), if_neg c3]
    obtain ⟨G, e1, gn, gz, w⟩ := cp_l2Copy (l := l) (by unfold lim; omega) n
    rw [e1]
    rw [h64] at w
    rw [h64, show bt l 1 - (m.length : Int) = ((bt l 1 - (m.length : Int)).toNat : Int) from by omega]
    rw [show (bt l 1 - (m.length : Int)).toNat = puA l m from rfl]
    have hA : (puA l m : Int) = bt l 1 - m.length := by unfold puA; omega
    rw [show iv .i64 0 = iv .i64 ((0 : Nat) : Int) from rfl, idxK_sv (by omega), w.set (c := UInt8.ofNat (puN l)) (by omega) (by rw [w8 (by omega) (by omega)]; simp; omega)]
    have w2 := w.set_w (i := 0) (c := UInt8.ofNat (puN l))
    have o2 : Oth (n + 1) G (G.put (n + 1) (.rw 1 ((l.set 0 (UInt8.ofNat (puN l))).map cell8))) := Oth.put
    generalize G.put (n + 1) (.rw 1 ((l.set 0 (UInt8.ofNat (puN l))).map cell8)) = F at w2 o2 ⊢
    rw [show iv .i64 1 = iv .i64 ((1 : Nat) : Int) from rfl, idxK_sv (by omega), w2.set (c := UInt8.ofNat (puA l m)) (by simp; omega) (by rw [w8 (by omega) (by omega)]; simp; omega)]
    have w3 := w2.set_w (i := 1) (c := UInt8.ofNat (puA l m))
    have o3 : Oth (n + 1) F (F.put (n + 1) (.rw 1 (((l.set 0 (UInt8.ofNat (puN l))).set 1 (UInt8.ofNat (puA l m))).map cell8))) := Oth.put
    generalize F.put (n + 1) (.rw 1 (((l.set 0 (UInt8.ofNat (puN l))).set 1 (UInt8.ofNat (puA l m))).map cell8)) = F2 at w3 o3 ⊢
    obtain ⟨K, e2, w4, o4⟩ := r_l2Stand (i := empS l) (a := puA l m) (m := m) w3 (by simp [h64]) (by omega) (by omega)
    rw [e2, ob]
    dsimp only
    rw [o4.tidy w3.n]
    simp only [V.toA, ob]
    have w5 : BysW K (sv (n + 1) 0 64) (puL l m) (n + 1) := by
      have e3 : wrC ((l.set 0 (UInt8.ofNat (puN l))).set 1 (UInt8.ofNat (puA l m))) (empS l) (puA l m) m = puL l m := wrC_set0 (by omega) (by omega)
      rw [← e3]; exact w4
    exact ⟨_, K, _, rfl, NewB.of gn gz ((o2.trans o3).trans o4) w5⟩
  rw [eq_spec_l2Put, pc (p_l2Empty hp) rfl]
  simp only [gV1_s, gI_i]
  rw [pc (p_l2Count (by omega)) rfl]
  simp only [gV1_s, gI_i, vcase_b]
  by_cases h1 : empS l = cnt l
  · rw [if_pos (by simp; omega)]
    by_cases h2 : 16 ≤ cnt l
    · rw [if_pos (by simp; omega)]
      unfold pu0
      rw [if_pos ⟨h1, h2⟩]; exact ⟨_, _, none, rfl, NewB.nil (by simp) dz⟩
    · rw [if_neg (by simp; omega), w64 (by omega) (by omega), show bt l 0 + 1 = ((cnt l + 1 : Nat) : Int) from by omega]
      exact J _ _ (by unfold puN; rw [if_pos h1]) (by unfold puM; rw [if_pos h1]) (by omega)
  · rw [if_neg (by simp; omega), ← hc]
    exact J _ _ (by unfold puN; rw [if_neg h1]) (by unfold puM; rw [if_neg h1]) (by omega)
end Vm
/-
  A cell put into a page by the program.
-/
namespace Vm
open Go
end Vm
/-
  A slot let go: what both ways come to.
-/
namespace Vm
open Go
end Vm
/-
  A page made dense: what both ways come to.
-/
namespace Vm
open Go
def zer64 : List UInt8 := List.replicate 64 0
def out0 (l : List UInt8) : List UInt8 := lay zer64 0 (l.take (2 + 2 * cnt l))
def cmpR (l : List UInt8) : List UInt8 × Nat := cmp l (cnt l) 0 (out0 l, 64)
def cmpL (l : List UInt8) : List UInt8 := (cmpR l).1.set 1 (UInt8.ofNat (cmpR l).2)
theorem mk64 {h : H} : mkSl 1 [.int .u8 0] h (iv .i64 64) (iv .i64 64) = some (sv h.n 0 64, h.new 1 (zer64.map cell8)) := by
  have := mkSl_of (z := 1) (n := 64) (zero := [.int .u8 0]) (h := h) (by unfold lim; omega) (by omega) rfl (k1 := .i64) (k2 := .i64)
  rw [show ((64 : Nat) : Int) = 64 from rfl] at this
  rw [this]
  rfl
section
variable {l : List UInt8} (hp : pagF l = 0)
include hp
theorem out0_cmp : Cmp l 0 (out0 l, 64) ∧ (l.take (2 + 2 * cnt l)).length = 2 + 2 * cnt l ∧ 2 + 2 * cnt l ≤ 34 := by
  obtain ⟨h64, ⟨g1, g2, g3⟩, _⟩ := pagF_ok hp
  have hc := cnt_eq l
  have ht : (l.take (2 + 2 * cnt l)).length = 2 + 2 * cnt l := by rw [List.length_take]; omega
  refine ⟨⟨?_, by simp [sumS], fun j hj => ?_⟩, ht, by omega⟩
  · show (lay zer64 0 _).length = 64
    rw [lay_len (by rw [ht]; simp [zer64]; omega)]; simp [zer64]
  · show (lay zer64 0 _)[3 + 2 * j]? = _
    unfold lay
    rw [List.take_zero, List.nil_append, List.getElem?_append_left (by rw [ht]; omega), List.getElem?_take, if_pos (by omega)]
theorem f_l2Compact (n : Nat) : ∃ h', call Ev Fn.spec_l2Compact [lv (bys l)] (D n) = some (sv n 0 64, h') ∧ NewB n h' (sv n 0 64) (cmpL l) (some n) := by
  obtain ⟨h64, ⟨g1, g2, g3⟩, _⟩ := pagF_ok hp
  have hc := cnt_eq l
  obtain ⟨c0, ht, h34⟩ := out0_cmp hp
  rw [eq_spec_l2Compact, pc (p_l2Count (by omega)) rfl]
  simp only [gV1_s, gI_i]
  rw [mk64, ob, ← hc, w64 (n := 2 * ((cnt l : Nat) : Int)) (by omega) (by omega), w64 (by omega) (by omega), show 2 + 2 * ((cnt l : Nat) : Int) = ((2 + 2 * cnt l : Nat) : Int) from by omega, slF_hi (by omega)]
  have w0 : BysW ((D n).new 1 (zer64.map cell8)) (sv (D n).n 0 64) zer64 (D n).n := ⟨rfl, by simp, new_g _ _ _⟩
  dsimp only
  rw [copS_w w0 (by simp [zer64]) (by rw [ht]; omega), ob]
  simp only [gV1_s, gI_i]
  have w1 := lay_w w0 (a := 0) (m := l.take (2 + 2 * cnt l)) (by rw [ht]; simp [zer64]; omega)
  obtain ⟨h', e1, e2, e3⟩ := lp_l2Comp hp (cnt l) 0 _ (out0 l, 64) (by omega) c0 w1
  rw [show iv .i64 0 = iv .i64 ((0 : Nat) : Int) from rfl, show iv .i64 64 = iv .i64 ((64 : Nat) : Int) from rfl, e1, ob, lcase_done]
  have c1 := cmp_inv hp (cnt l) 0 (out0 l, 64) (by omega) c0
  have hl1 := c1.len
  have hb := c1.low
  simp only [gx0, gx1, ob, gV1_s, gI_i]
  rw [show iv .i64 1 = iv .i64 ((1 : Nat) : Int) from rfl, idxK_sv (by omega), e2.set (c := UInt8.ofNat (cmp l (cnt l) 0 (out0 l, 64)).2) (by omega) (by rw [w8 (by omega) (by omega)]; simp; omega)]
  have w5 := e2.set_w (i := 1) (c := UInt8.ofNat (cmp l (cnt l) 0 (out0 l, 64)).2)
  have hn : h'.n = n + 1 := by rw [e3.1]; simp
  refine ⟨_, rfl, w5, by rw [put_n]; omega, fun b hb => by cases hb; exact Nat.le_refl _, fun b h2 h3 s hs => ?_⟩
  rw [put_n, hn] at h3
  have hbn : b = n := by omega
  rw [hbn] at hs
  have hs' := (congrArg (fun x => s ∈ Blk.cells x) w5.g).mp hs
  obtain ⟨c, _, rfl⟩ := List.mem_map.1 hs'
  rfl
end
end Vm
/-
  Plain laws on pages: what stays and what turns when a cell is put, set or dropped.
-/
namespace Vm
/-- a page without a fault, by its parts -/
structure Pg (l : List UInt8) : Prop where
  len : l.length = 64
  head : headB l
  slots : ∀ i, i < cnt l → slotB l i
  apart : ∀ i k, i < cnt l → k < i → apartB l i k
  last : ¬ (0 < cnt l ∧ siz l (cnt l - 1) = 0)
theorem Pg.of {l : List UInt8} (h : pagF l = 0) : Pg l := by
  obtain ⟨a, b, c, d, e⟩ := pagF_ok h
  exact ⟨a, b, c, d, e⟩
theorem Pg.ok {l : List UInt8} (p : Pg l) : pagF l = 0 :=
  (PageIs.f (.inr (.inr (.inr (.inr (.inr ⟨p.len, p.head, p.slots, p.apart, p.last, rfl⟩)))))).symm
theorem apart_symm {l : List UInt8} {i k : Nat} (h : apartB l i k) : apartB l k i := by
  unfold apartB at *; omega
theorem Pg.ap {l : List UInt8} (p : Pg l) {i k : Nat} (hi : i < cnt l) (hk : k < cnt l) (hne : i ≠ k) : apartB l i k := by
  rcases Nat.lt_or_gt_of_ne hne with h | h
  · exact apart_symm (p.apart k i hk h)
  · exact p.apart i k hi h
/-- one byte turned -/
theorem bt_set {l : List UInt8} {i j : Nat} {c : UInt8} (hi : i < l.length) : bt (l.set i c) (j : Int) = if j = i then (c.toNat : Int) else bt l (j : Int) := by
  split
  · rename_i h; subst h; exact bt_set_eq hi
  · rename_i h; exact bt_set_ne (fun e => h e.symm)
theorem bt_lay {l m : List UInt8} {a j : Nat} (h : a + m.length ≤ l.length) : bt (lay l a m) (j : Int) = if a ≤ j ∧ j < a + m.length then bt m ((j - a : Nat) : Int) else bt l (j : Int) := by
  unfold bt lay
  simp only [Int.toNat_natCast, List.getD]
  split
  · rename_i hj
    rw [List.getElem?_append_left (by simp; omega), List.getElem?_append_right (by simp; omega), List.length_take, Nat.min_eq_left (by omega)]
  · rename_i hj
    by_cases h1 : j < a
    · rw [List.getElem?_append_left (by simp; omega), List.getElem?_append_left (by simp; omega), List.getElem?_take_of_lt h1]
    · rw [List.getElem?_append_right (by simp; omega), List.getElem?_drop, List.length_append, List.length_take, Nat.min_eq_left (by omega), show a + m.length + (j - (a + m.length)) = j from by omega]
theorem u8n {n : Nat} (h : n < 256) : ((UInt8.ofNat n).toNat : Int) = n := by
  simp; omega
theorem bt_wrC {l m : List UInt8} {i a j : Nat} (h : a + m.length ≤ l.length) (hi : 3 + 2 * i < l.length) (ha : a < 256) (hm : m.length < 256) :
    bt (wrC l i a m) (j : Int) = if j = 3 + 2 * i then (m.length : Int) else if j = 2 + 2 * i then (a : Int) else if a ≤ j ∧ j < a + m.length then bt m ((j - a : Nat) : Int) else bt l (j : Int) := by
  unfold wrC
  have hl := lay_len h
  rw [bt_set (by simp [hl]; omega), u8n hm, bt_set (by simp [hl]; omega), u8n ha, bt_lay h]
theorem cnt_of {l : List UInt8} {n : Nat} (h : bt l 0 = n) : cnt l = n := by unfold cnt; omega
/-- cells by their bytes -/
theorem cell_bt {l : List UInt8} {k j : Nat} (hl : plc l k + siz l k ≤ l.length) (hj : (j : Int) < siz l k) : bt (cellB l k) (j : Int) = bt l ((plc l k).toNat + j : Nat) := by
  obtain ⟨q1, q2, q3, q4⟩ := pl_bd l k
  unfold bt cellB
  simp only [Int.toNat_natCast, List.getD, List.getElem?_drop]
  rw [List.getElem?_take_of_lt (by omega)]
theorem cell_len {l : List UInt8} {k : Nat} (hl : plc l k + siz l k ≤ l.length) : (cellB l k).length = (siz l k).toNat := by
  obtain ⟨q1, q2, q3, q4⟩ := pl_bd l k
  unfold cellB
  rw [List.length_drop, List.length_take]; omega
theorem cell_same {l p : List UInt8} {i k : Nat} (hs : siz p k = siz l i) (hl : plc l i + siz l i ≤ l.length) (hp : plc p k + siz p k ≤ p.length)
    (hb : ∀ j : Nat, (j : Int) < siz l i → bt p ((plc p k).toNat + j : Nat) = bt l ((plc l i).toNat + j : Nat)) : cellB p k = cellB l i := by
  refine bt_ext (by rw [cell_len hl, cell_len hp, hs]) fun j hj => ?_
  rw [cell_len hp, hs] at hj
  rw [cell_bt hp (by omega), cell_bt hl (by omega)]
  exact hb j (by omega)
theorem cell_is {p m : List UInt8} {k a : Nat} (ha : plc p k = a) (hm : siz p k = m.length) (hp : a + m.length ≤ p.length) (hb : ∀ j : Nat, j < m.length → bt p ((a + j : Nat) : Int) = bt m (j : Int)) : cellB p k = m := by
  have hl : plc p k + siz p k ≤ p.length := by omega
  refine bt_ext (by rw [cell_len hl, hm]; simp) fun j hj => ?_
  rw [cell_len hl, hm] at hj
  rw [cell_bt hl (by omega), ha]
  simpa using hb j (by omega)
/-- all cells but one are the same -/
def Keep (l p : List UInt8) (s : Int) : Prop := ∀ i : Nat, i < 16 → (i : Int) ≠ s → hasB p i = hasB l i ∧ (hasB l i = true → cellB p i = cellB l i)
theorem has_iff {l : List UInt8} {i : Nat} : hasB l (i : Int) = true ↔ i < cnt l ∧ siz l i ≠ 0 := by
  have := cnt_eq l
  unfold hasB
  simp only [Bool.and_eq_true, decide_eq_true_eq, bne_iff_ne, Int.toNat_natCast]
  constructor
  · rintro ⟨a, b, c⟩; exact ⟨by omega, c⟩
  · rintro ⟨a, b⟩; exact ⟨by omega, by omega, b⟩
theorem has_eq {l p : List UInt8} {i : Nat} (h : (i < cnt p ∧ siz p i ≠ 0) ↔ (i < cnt l ∧ siz l i ≠ 0)) : hasB p (i : Int) = hasB l (i : Int) := by
  rw [Bool.eq_iff_iff, has_iff, has_iff]; exact h
theorem Pg.bd {l : List UInt8} (p : Pg l) {k : Nat} (hk : k < cnt l) (hs : siz l k ≠ 0) : bt l 1 ≤ plc l k ∧ plc l k + siz l k ≤ 64 := by
  have h := p.slots k hk
  have q := pl_bd l k
  unfold slotB at h
  split at h
  · rename_i hh
    rcases hh with hh | hh <;> omega
  · exact h
theorem Pg.nums {l : List UInt8} (p : Pg l) : bt l 0 = cnt l ∧ cnt l ≤ 16 ∧ 2 + 2 * (cnt l : Int) ≤ bt l 1 ∧ bt l 1 ≤ 64 := by
  have := cnt_eq l
  obtain ⟨h1, h2, h3⟩ := p.head
  omega
/-- the sum of the sizes, one of them turned -/
theorem sum_ext {l p : List UInt8} : ∀ n, (∀ i, i < n → siz p i = siz l i) → sumS p n = sumS l n
  | 0, _ => rfl
  | n + 1, h => by
    simp only [sumS]
    rw [sum_ext n fun i hi => h i (by omega), h n (by omega)]
theorem sum_one {l p : List UInt8} {s : Nat} : ∀ n, s < n → (∀ i, i < n → i ≠ s → siz p i = siz l i) → (sumS p n : Int) + siz l s = sumS l n + siz p s
  | 0, h, _ => by omega
  | n + 1, h, hn => by
    have q := pl_bd l n
    have q' := pl_bd p n
    simp only [sumS]
    by_cases hs : s = n
    · subst hs
      rw [sum_ext s fun i hi => hn i (by omega) (by omega)]
      omega
    · have := sum_one n (by omega) fun i hi hne => hn i (by omega) hne
      have := hn n (by omega) (fun e => hs e.symm)
      omega
/-- a page with one cell turned: its table and its bytes are as they were, but for a stretch that no other cell has -/
theorem turn_ok {l p : List UInt8} (w : Pg l) {s n low a len : Nat} (hl : p.length = 64) (h0 : bt p 0 = n) (h1 : bt p 1 = low) (hn : n ≤ 16) (hlow : 2 + 2 * n ≤ low) (h64 : low ≤ 64) (hs : s < n) (hc : cnt l ≤ n) (hcs : n ≤ cnt l + 1) (hcs' : n = cnt l + 1 → s = cnt l)
    (hP : plc p s = a) (hZ : siz p s = len) (hlen : 0 < len) (ha : low ≤ a) (hal : a + len ≤ 64) (hlowl : (low : Int) ≤ bt l 1)
    (ht : ∀ i, i < n → i ≠ s → plc p i = plc l i ∧ siz p i = siz l i)
    (hf : ∀ i, i < cnt l → i ≠ s → siz l i ≠ 0 → plc l i + siz l i ≤ a ∨ (a : Int) + len ≤ plc l i)
    (hb : ∀ j : Nat, low ≤ j → ¬ (a ≤ j ∧ j < a + len) → (bt l 1 : Int) ≤ j → bt p j = bt l j) :
    Pg p ∧ Keep l p s := by
  have hcp := cnt_of h0
  obtain ⟨w1, w2, w3, w4⟩ := w.nums
  have hlt : ∀ i, i < n → i ≠ s → i < cnt l := fun i hi hne => by
    by_cases hh : n = cnt l + 1
    · have := hcs' hh; omega
    · omega
  refine ⟨⟨hl, ⟨by omega, by omega, by omega⟩, fun i hi => ?_, fun i k hi hk => ?_, ?_⟩, fun i hi hne => ?_⟩
  · rw [hcp] at hi
    by_cases his : i = s
    · subst his
      unfold slotB
      rw [if_neg (by omega)]; omega
    · obtain ⟨t1, t2⟩ := ht i hi his
      have := w.slots i (hlt i hi his)
      unfold slotB at this ⊢
      rw [t1, t2]
      split at this
      · rename_i hh; rw [if_pos hh]; exact this
      · rename_i hh; rw [if_neg hh]; omega
  · rw [hcp] at hi
    have hkn : k < n := by omega
    by_cases his : i = s
    · subst his
      obtain ⟨t1, t2⟩ := ht k hkn (by omega)
      by_cases hz : siz l k = 0
      · exact .inr (.inl (by omega))
      · have := hf k (hlt k hkn (by omega)) (by omega) hz
        unfold apartB; omega
    · obtain ⟨t1, t2⟩ := ht i hi his
      by_cases hks : k = s
      · subst hks
        by_cases hz : siz l i = 0
        · exact .inl (by omega)
        · have := hf i (hlt i hi his) his hz
          unfold apartB; omega
      · obtain ⟨t3, t4⟩ := ht k hkn hks
        have := w.apart i k (hlt i hi his) hk
        unfold apartB at *; omega
  · rw [hcp]
    rintro ⟨g1, g2⟩
    by_cases hns : n - 1 = s
    · rw [hns] at g2; omega
    · have hh := hlt (n - 1) (by omega) hns
      have : n = cnt l := by
        by_cases hh : n = cnt l + 1
        · have := hcs' hh; omega
        · omega
      rw [(ht (n - 1) (by omega) hns).2, this] at g2
      exact w.last ⟨by omega, g2⟩
  · have hne' : i ≠ s := by omega
    have e : (i < cnt p ∧ siz p i ≠ 0) ↔ (i < cnt l ∧ siz l i ≠ 0) := by
      rw [hcp]
      constructor
      · rintro ⟨g1, g2⟩
        exact ⟨hlt i g1 hne', by rw [← (ht i g1 hne').2]; exact g2⟩
      · rintro ⟨g1, g2⟩
        exact ⟨by omega, by rw [(ht i (by omega) hne').2]; exact g2⟩
    refine ⟨has_eq e, fun hh => ?_⟩
    obtain ⟨g1, g2⟩ := has_iff.1 hh
    obtain ⟨t1, t2⟩ := ht i (by omega) hne'
    obtain ⟨b1, b2⟩ := w.bd g1 g2
    have q := pl_bd l i
    have := hf i g1 hne' g2
    refine cell_same t2 (by rw [w.len]; omega) (by rw [hl]; omega) fun j hj => ?_
    rw [t1]
    exact hb _ (by omega) (by omega) (by omega)
/-- the first empty slot is empty -/
theorem empG_is (l : List UInt8) : ∀ (q i : Nat), empG l q i < i + q → siz l (empG l q i) = 0
  | 0, i, h => by simp only [empG] at h; omega
  | q + 1, i, h => by
    simp only [empG] at h ⊢
    split
    · assumption
    · rename_i hz
      rw [if_neg hz] at h
      exact empG_is l q (i + 1) (by omega)
theorem empS_is {l : List UInt8} (h : empS l < cnt l) : siz l (empS l) = 0 := empG_is l _ _ (by unfold empS at h; omega)
/-- a cell that was put -/
theorem put_ok {l m : List UInt8} (hp : pagF l = 0) (hm : inB m.length 1 20 = true) (hc : (pu0 l m).1 = 0) :
    pagF (pu0 l m).2.2 = 0 ∧ Keep l (pu0 l m).2.2 (pu0 l m).2.1 ∧ hasB (pu0 l m).2.2 (pu0 l m).2.1 = true ∧ cellB (pu0 l m).2.2 (pu0 l m).2.1.toNat = m ∧ hasB l (pu0 l m).2.1 = false ∧
    (freS l - freS (pu0 l m).2.2 = m.length ∨ freS l - freS (pu0 l m).2.2 = m.length + 2) ∧ 0 ≤ (pu0 l m).2.1 ∧ (pu0 l m).2.1 < 16 := by
  have w := Pg.of hp
  obtain ⟨w1, w2, w3, w4⟩ := w.nums
  have hm' := inB_iff.1 hm
  have hE := empS_le l
  unfold pu0 at hc ⊢
  by_cases c1 : empS l = cnt l ∧ 16 ≤ cnt l
  · rw [if_pos c1] at hc; simp at hc
  rw [if_neg c1] at hc ⊢
  by_cases c2 : freS l < m.length + puM l
  · rw [if_pos c2] at hc; simp at hc
  rw [if_neg c2] at hc ⊢
  by_cases c3 : bt l 1 - m.length < 2 + 2 * puN l
  · rw [if_pos c3] at hc; simp at hc
  rw [if_neg c3] at hc ⊢
  simp only
  obtain ⟨n1, n2, n3, n4⟩ := puN_bd w2 c1
  have hA : ((puA l m : Nat) : Int) = bt l 1 - m.length := by unfold puA; omega
  have wl : puA l m + m.length ≤ l.length := by rw [w.len]; omega
  have pb : ∀ j : Nat, bt (puL l m) (j : Int) = if j = 1 then (puA l m : Int) else if j = 0 then (puN l : Int) else bt (wrC l (empS l) (puA l m) m) (j : Int) := fun j => by
    unfold puL
    rw [bt_set (by simp only [List.length_set]; rw [wrC_len wl, w.len]; omega), u8n (by omega), bt_set (by rw [wrC_len wl, w.len]; omega), u8n (by omega)]
  have wb : ∀ j : Nat, bt (wrC l (empS l) (puA l m) m) (j : Int) = _ := fun j => bt_wrC wl (by rw [w.len]; omega) (by omega) (by omega)
  have hlen : (puL l m).length = 64 := by
    unfold puL; simp only [List.length_set]; rw [wrC_len wl, w.len]
  have h0 : bt (puL l m) 0 = puN l := by
    have := pb 0; simpa using this
  have h1 : bt (puL l m) 1 = puA l m := by
    have := pb 1; simpa using this
  have hP : plc (puL l m) (empS l) = puA l m := by
    unfold plc; rw [pb, if_neg (by omega), if_neg (by omega), wb, if_neg (by omega), if_pos rfl]
  have hZ : siz (puL l m) (empS l) = m.length := by
    unfold siz; rw [pb, if_neg (by omega), if_neg (by omega), wb, if_pos rfl]
  have ht : ∀ i, i < puN l → i ≠ empS l → plc (puL l m) i = plc l i ∧ siz (puL l m) i = siz l i := fun i hi hne => by
    unfold plc siz
    refine ⟨?_, ?_⟩
    · rw [pb, if_neg (by omega), if_neg (by omega), wb, if_neg (by omega), if_neg (by omega), if_neg (by omega)]
    · rw [pb, if_neg (by omega), if_neg (by omega), wb, if_neg (by omega), if_neg (by omega), if_neg (by omega)]
  have hNc : puN l ≤ cnt l + 1 ∧ (puN l = cnt l + 1 → empS l = cnt l) := by
    unfold puN; split <;> omega
  obtain ⟨g1, g2⟩ := turn_ok w (p := puL l m) (s := empS l) (n := puN l) (low := puA l m) (a := puA l m) (len := m.length) hlen h0 h1 n1 (by omega) (by omega) n2 n4 hNc.1 hNc.2 hP hZ (by omega) (Nat.le_refl _) (by omega) (by omega) ht
    (fun i hi hne hz => by have := w.bd hi hz; omega)
    (fun j j1 j2 j3 => by rw [pb, if_neg (by omega), if_neg (by omega), wb, if_neg (by omega), if_neg (by omega), if_neg j2])
  have hcp := cnt_of h0
  refine ⟨g1.ok, g2, has_iff.2 ⟨by omega, by omega⟩, ?_, ?_, ?_, by omega, by omega⟩
  · rw [Int.toNat_natCast]
    refine cell_is hP hZ (by omega) fun j hj => ?_
    rw [pb, if_neg (by omega), if_neg (by omega), wb, if_neg (by omega), if_neg (by omega), if_pos (by omega)]
    congr 2; omega
  · rw [Bool.eq_false_iff]
    intro hh
    obtain ⟨a1, a2⟩ := has_iff.1 hh
    exact a2 (empS_is a1)
  · have hcl := cnt_eq l
    unfold freS
    rw [h0, hcp, w1]
    by_cases he : empS l = cnt l
    · have : puN l = cnt l + 1 := by unfold puN; rw [if_pos he]
      rw [this]
      simp only [sumS]
      rw [sum_ext (cnt l) fun i hi => (ht i (by omega) (by omega)).2, ← he, hZ]
      right; omega
    · have : puN l = cnt l := by unfold puN; rw [if_neg he]
      rw [this]
      have s1 := sum_one (l := l) (p := puL l m) (s := empS l) (cnt l) (by omega) fun i hi hne => (ht i (by omega) hne).2
      rw [empS_is (by omega), hZ] at s1
      left; omega
/-- a cell that was set -/
theorem set_ok {l m : List UInt8} {i : Int} (hc : (setR l i m).1 = 0) :
    pagF (setR l i m).2.2 = 0 ∧ Keep l (setR l i m).2.2 i ∧ hasB (setR l i m).2.2 i = true ∧ cellB (setR l i m).2.2 i.toNat = m ∧ (setR l i m).2.1 = i := by
  unfold setR at hc ⊢
  by_cases hp : pagF l = 0
  case neg => rw [if_pos hp] at hc; exact absurd hc hp
  rw [if_neg (by simp [hp])] at hc ⊢
  cases hm : inB m.length 1 20
  · rw [if_pos hm] at hc; simp at hc
  rw [if_neg (by simp [hm])] at hc ⊢
  cases hb : hasB l i
  · rw [if_pos hb] at hc; simp at hc
  rw [if_neg (by simp [hb])] at hc ⊢
  obtain ⟨k, rfl, hk, hz⟩ := hasB_nat hb
  have w := Pg.of hp
  obtain ⟨w1, w2, w3, w4⟩ := w.nums
  have hm' := inB_iff.1 hm
  obtain ⟨b1, b2⟩ := w.bd hk hz
  have q := pl_bd l k
  rw [Int.toNat_natCast] at hc ⊢
  by_cases c1 : (m.length : Int) ≤ siz l k
  · rw [if_pos c1] at hc ⊢
    simp only
    generalize hA : (plc l k + siz l k - m.length).toNat = a
    have ha : (a : Int) = plc l k + siz l k - m.length := by omega
    have wl : a + m.length ≤ l.length := by rw [w.len]; omega
    have wb : ∀ j : Nat, bt (wrC l k a m) (j : Int) = _ := fun j => bt_wrC wl (by rw [w.len]; omega) (by omega) (by omega)
    have hlen : (wrC l k a m).length = 64 := by rw [wrC_len wl, w.len]
    have h0 : bt (wrC l k a m) 0 = cnt l := by
      have := wb 0
      rw [if_neg (by omega), if_neg (by omega), if_neg (by omega)] at this
      rw [show (0 : Int) = ((0 : Nat) : Int) from rfl, this]; exact w1
    have h1 : bt (wrC l k a m) 1 = ((bt l 1).toNat : Nat) := by
      have := wb 1
      rw [if_neg (by omega), if_neg (by omega), if_neg (by omega)] at this
      rw [show (1 : Int) = ((1 : Nat) : Int) from rfl, this]
      rw [show ((1 : Nat) : Int) = 1 from rfl]; omega
    have hP : plc (wrC l k a m) k = a := by unfold plc; rw [wb, if_neg (by omega), if_pos rfl]
    have hZ : siz (wrC l k a m) k = m.length := by unfold siz; rw [wb, if_pos rfl]
    have ht : ∀ i, i < cnt l → i ≠ k → plc (wrC l k a m) i = plc l i ∧ siz (wrC l k a m) i = siz l i := fun i hi hne => by
      unfold plc siz
      refine ⟨?_, ?_⟩
      · rw [wb, if_neg (by omega), if_neg (by omega), if_neg (by omega)]
      · rw [wb, if_neg (by omega), if_neg (by omega), if_neg (by omega)]
    obtain ⟨g1, g2⟩ := turn_ok w (p := wrC l k a m) (s := k) (n := cnt l) (low := (bt l 1).toNat) (a := a) (len := m.length) hlen h0 h1 w2 (by omega) (by omega) hk (Nat.le_refl _) (by omega) (by omega) hP hZ (by omega) (by omega) (by omega) (by omega) ht
      (fun i hi hne hz' => by
        have := w.ap hi hk hne
        unfold apartB at this; omega)
      (fun j j1 j2 j3 => by rw [wb, if_neg (by omega), if_neg (by omega), if_neg j2])
    refine ⟨g1.ok, g2, has_iff.2 ⟨by rw [cnt_of h0]; exact hk, by omega⟩, cell_is hP hZ (by omega) fun j hj => ?_, trivial⟩
    rw [wb, if_neg (by omega), if_neg (by omega), if_pos (by omega)]
    congr 2; omega
  rw [if_neg c1] at hc ⊢
  by_cases c2 : freS l + siz l k < m.length
  · rw [if_pos c2] at hc; simp at hc
  rw [if_neg c2] at hc ⊢
  by_cases c3 : bt l 1 - m.length < 2 + 2 * bt l 0
  · rw [if_pos c3] at hc; simp at hc
  rw [if_neg c3] at hc ⊢
  simp only
  generalize hA : (bt l 1 - m.length).toNat = a
  have ha : (a : Int) = bt l 1 - m.length := by omega
  have wl : a + m.length ≤ l.length := by rw [w.len]; omega
  have wb : ∀ j : Nat, bt ((wrC l k a m).set 1 (UInt8.ofNat a)) (j : Int) = if j = 1 then (a : Int) else if j = 3 + 2 * k then (m.length : Int) else if j = 2 + 2 * k then (a : Int) else if a ≤ j ∧ j < a + m.length then bt m ((j - a : Nat) : Int) else bt l (j : Int) := fun j => by
    rw [bt_set (by rw [wrC_len wl, w.len]; omega), u8n (by omega), bt_wrC wl (by rw [w.len]; omega) (by omega) (by omega)]
  have hlen : ((wrC l k a m).set 1 (UInt8.ofNat a)).length = 64 := by rw [List.length_set, wrC_len wl, w.len]
  generalize (wrC l k a m).set 1 (UInt8.ofNat a) = p at wb hlen ⊢
  have h0 : bt p 0 = cnt l := by
    have := wb 0
    rw [if_neg (by omega), if_neg (by omega), if_neg (by omega), if_neg (by omega)] at this
    rw [show (0 : Int) = ((0 : Nat) : Int) from rfl, this]; exact w1
  have h1 : bt p 1 = a := by have := wb 1; simpa using this
  have hP : plc p k = a := by unfold plc; rw [wb, if_neg (by omega), if_neg (by omega), if_pos rfl]
  have hZ : siz p k = m.length := by unfold siz; rw [wb, if_neg (by omega), if_pos rfl]
  have ht : ∀ i, i < cnt l → i ≠ k → plc p i = plc l i ∧ siz p i = siz l i := fun i hi hne => by
    unfold plc siz
    refine ⟨?_, ?_⟩
    · rw [wb, if_neg (by omega), if_neg (by omega), if_neg (by omega), if_neg (by omega)]
    · rw [wb, if_neg (by omega), if_neg (by omega), if_neg (by omega), if_neg (by omega)]
  obtain ⟨g1, g2⟩ := turn_ok w (p := p) (s := k) (n := cnt l) (low := a) (a := a) (len := m.length) hlen h0 h1 w2 (by omega) (by omega) hk (Nat.le_refl _) (by omega) (by omega) hP hZ (by omega) (Nat.le_refl _) (by omega) (by omega) ht
    (fun i hi hne hz' => by have := w.bd hi hz'; omega)
    (fun j j1 j2 j3 => by rw [wb, if_neg (by omega), if_neg (by omega), if_neg (by omega), if_neg j2])
  refine ⟨g1.ok, g2, has_iff.2 ⟨by rw [cnt_of h0]; exact hk, by omega⟩, cell_is hP hZ (by omega) fun j hj => ?_, trivial⟩
  rw [wb, if_neg (by omega), if_neg (by omega), if_neg (by omega), if_pos (by omega)]
  congr 2; omega
/-- the count without empty slots at the end -/
theorem trim_is (l : List UInt8) : ∀ n, (∀ j, trimN l n ≤ j → j < n → siz l j = 0) ∧ ¬ (0 < trimN l n ∧ siz l (trimN l n - 1) = 0)
  | 0 => ⟨fun j _ h => by omega, fun h => by simp [trimN] at h⟩
  | n + 1 => by
    unfold trimN
    split
    · rename_i hz
      obtain ⟨a, b⟩ := trim_is l n
      refine ⟨fun j h1 h2 => ?_, b⟩
      by_cases hj : j = n
      · subst hj; exact hz
      · exact a j h1 (by omega)
    · rename_i hz
      exact ⟨fun j h1 h2 => by omega, fun hh => hz hh.2⟩
/-- a slot that was let go -/
theorem drop_ok {l : List UInt8} {k : Nat} (hp : pagF l = 0) (hk : k < cnt l) : pagF (dropB l k) = 0 ∧ Keep l (dropB l k) k ∧ hasB (dropB l k) (k : Int) = false := by
  have w := Pg.of hp
  obtain ⟨w1, w2, w3, w4⟩ := w.nums
  have hn := trimN_le (dropL l k) (cnt l)
  obtain ⟨t1, t2⟩ := trim_is (dropL l k) (cnt l)
  have db : ∀ j : Nat, bt (dropL l k) (j : Int) = if j = 3 + 2 * k then 0 else if j = 2 + 2 * k then 0 else bt l (j : Int) := fun j => by
    unfold dropL
    rw [bt_set (by rw [List.length_set, w.len]; omega), bt_set (by rw [w.len]; omega)]; rfl
  have hlen : (dropB l k).length = 64 := by rw [dropB_len, w.len]
  unfold dropB at hlen ⊢
  generalize hN : trimN (dropL l k) (cnt l) = n at hn t1 t2 hlen ⊢
  have pb : ∀ j : Nat, bt (cntB (dropL l k) n) (j : Int) = if j = 0 then (n : Int) else bt (dropL l k) (j : Int) := fun j => by
    unfold cntB
    rw [bt_set (by rw [dropL_len, w.len]; omega), u8n (by omega)]
  have ps : ∀ i, siz (cntB (dropL l k) n) i = siz (dropL l k) i := fun i => cntB_siz
  generalize cntB (dropL l k) n = p at pb ps hlen ⊢
  have h0 : bt p 0 = n := by have := pb 0; simpa using this
  have h1 : bt p 1 = bt l 1 := by
    have := pb 1
    rw [if_neg (by omega), db, if_neg (by omega), if_neg (by omega)] at this
    exact this
  have hk0 : plc p k = 0 ∧ siz p k = 0 := by
    unfold plc siz
    refine ⟨?_, ?_⟩
    · rw [pb, if_neg (by omega), db, if_neg (by omega), if_pos rfl]
    · rw [pb, if_neg (by omega), db, if_pos rfl]
  have ht : ∀ i, i ≠ k → plc p i = plc l i ∧ siz p i = siz l i := fun i hne => by
    unfold plc siz
    refine ⟨?_, ?_⟩
    · rw [pb, if_neg (by omega), db, if_neg (by omega), if_neg (by omega)]
    · rw [pb, if_neg (by omega), db, if_neg (by omega), if_neg (by omega)]
  have hcp := cnt_of h0
  have hg : Pg p := ⟨hlen, ⟨by omega, by omega, by omega⟩, fun i hi => by
      by_cases hik : i = k
      · subst hik; unfold slotB; rw [if_pos (.inl hk0.1)]; omega
      · have := w.slots i (by omega)
        unfold slotB at this ⊢
        rw [(ht i hik).1, (ht i hik).2, h1]; exact this,
    fun i j hi hj => by
      by_cases hik : i = k
      · subst hik; exact .inl hk0.2
      · by_cases hjk : j = k
        · subst hjk; exact .inr (.inl hk0.2)
        · have := w.apart i j (by omega) hj
          unfold apartB at this ⊢
          rw [(ht i hik).1, (ht i hik).2, (ht j hjk).1, (ht j hjk).2]; exact this,
    by rw [hcp, ps]; exact t2⟩
  refine ⟨hg.ok, fun i hi hne => ?_, ?_⟩
  · have hik : i ≠ k := by omega
    have e : (i < cnt p ∧ siz p i ≠ 0) ↔ (i < cnt l ∧ siz l i ≠ 0) := by
      rw [hcp, (ht i hik).2]
      constructor
      · rintro ⟨g1, g2⟩; exact ⟨by omega, g2⟩
      · rintro ⟨g1, g2⟩
        refine ⟨?_, g2⟩
        apply Classical.byContradiction
        intro hh
        have := t1 i (by omega) g1
        rw [← ps, (ht i hik).2] at this
        exact g2 this
    refine ⟨has_eq e, fun hh => ?_⟩
    obtain ⟨g1, g2⟩ := has_iff.1 hh
    obtain ⟨b1, b2⟩ := w.bd g1 g2
    have q := pl_bd l i
    refine cell_same (ht i hik).2 (by rw [w.len]; omega) (by rw [(ht i hik).1, (ht i hik).2, hlen]; omega) fun j hj => ?_
    rw [(ht i hik).1, pb, if_neg (by omega), db, if_neg (by omega), if_neg (by omega)]
  · rw [Bool.eq_false_iff]
    intro hh
    exact (has_iff.1 hh).2 hk0.2
/-- what a page that was made dense has in it -/
structure Den (l : List UInt8) (n i : Nat) (p : List UInt8) : Prop where
  len : p.length = 64
  cnt : bt p 0 = n
  siz : ∀ j, j < n → Vm.siz p j = Vm.siz l j
  plc : ∀ j, j < i → Vm.plc p j = if Vm.siz l j = 0 then 0 else 64 - (sumS l (j + 1) : Int)
  old : ∀ j, i ≤ j → j < n → Vm.plc p j = Vm.plc l j
  cel : ∀ j, j < i → ∀ y : Nat, (y : Int) < Vm.siz l j → bt p ((64 - sumS l (j + 1) + y : Nat) : Int) = bt (cellB l j) (y : Int)
  zer : ∀ y : Nat, 2 + 2 * n ≤ y → y < 64 - sumS l i → bt p (y : Int) = 0
theorem sumS_mono (l : List UInt8) {i j : Nat} (h : i ≤ j) : sumS l i ≤ sumS l j := by
  induction j with
  | zero => rw [Nat.le_zero.1 h]; exact Nat.le_refl _
  | succ j ih =>
    by_cases hh : i = j + 1
    · rw [hh]; exact Nat.le_refl _
    · have := ih (by omega); simp only [sumS]; omega
theorem Den.step {l p : List UInt8} {i : Nat} (hp : pagF l = 0) (hi : i < Vm.cnt l) (w : Den l (Vm.cnt l) i p) : Den l (Vm.cnt l) (i + 1) (cmpS l i (p, 64 - sumS l i)).1 ∧ (cmpS l i (p, 64 - sumS l i)).2 = 64 - sumS l (i + 1) := by
  have g := Pg.of hp
  obtain ⟨w1, w2, w3, w4⟩ := g.nums
  have hl := cellB_len' hp hi
  have q := pl_bd l i
  have hb := sumS_bd hp (i := i + 1) (by omega)
  have hs : sumS l (i + 1) = sumS l i + (Vm.siz l i).toNat := rfl
  unfold cmpS
  by_cases hz : Vm.siz l i = 0
  · rw [if_pos hz]
    have hs' : sumS l (i + 1) = sumS l i := by omega
    have := g.slots i hi
    unfold slotB at this
    rw [if_pos (.inr hz)] at this
    refine ⟨⟨w.len, w.cnt, w.siz, fun j hj => ?_, fun j h1 h2 => w.old j (by omega) h2, fun j hj y hy => ?_, fun y h1 h2 => w.zer y h1 (by omega)⟩, by omega⟩
    · by_cases hji : j = i
      · subst hji; rw [if_pos hz, w.old j (Nat.le_refl _) hi]; omega
      · exact w.plc j (by omega)
    · by_cases hji : j = i
      · subst hji; omega
      · exact w.cel j (by omega) y hy
  · rw [if_neg hz]
    generalize hA : 64 - sumS l i - (cellB l i).length = a
    have ha : (a : Int) = 64 - sumS l (i + 1) := by omega
    have wl : a + (cellB l i).length ≤ p.length := by rw [w.len]; omega
    have wb : ∀ j : Nat, bt ((lay p a (cellB l i)).set (2 + 2 * i) (UInt8.ofNat a)) (j : Int) = if j = 2 + 2 * i then (a : Int) else if a ≤ j ∧ j < a + (cellB l i).length then bt (cellB l i) ((j - a : Nat) : Int) else bt p (j : Int) := fun j => by
      rw [bt_set (by rw [lay_len wl, w.len]; omega), u8n (by omega), bt_lay wl]
    have hlen : ((lay p a (cellB l i)).set (2 + 2 * i) (UInt8.ofNat a)).length = 64 := by rw [List.length_set, lay_len wl, w.len]
    simp only
    generalize (lay p a (cellB l i)).set (2 + 2 * i) (UInt8.ofNat a) = p' at wb hlen ⊢
    refine ⟨⟨hlen, ?_, fun j hj => ?_, fun j hj => ?_, fun j h1 h2 => ?_, fun j hj y hy => ?_, fun y h1 h2 => ?_⟩, by omega⟩
    · have := wb 0
      rw [if_neg (by omega), if_neg (by omega)] at this
      exact this.trans w.cnt
    · have := wb (3 + 2 * j)
      rw [if_neg (by omega), if_neg (by omega)] at this
      exact this.trans (w.siz j hj)
    · by_cases hji : j = i
      · subst hji
        rw [if_neg hz]
        unfold Vm.plc
        rw [wb, if_pos rfl]; omega
      · rw [← w.plc j (by omega)]
        unfold Vm.plc
        rw [wb, if_neg (by omega), if_neg (by omega)]
    · rw [← w.old j (by omega) h2]
      unfold Vm.plc
      rw [wb, if_neg (by omega), if_neg (by omega)]
    · by_cases hji : j = i
      · subst hji
        rw [wb, if_neg (by omega), if_pos (by omega)]
        congr 2; omega
      · have hm := sumS_mono l (i := j + 1) (j := i) (by omega)
        rw [← w.cel j (by omega) y hy, wb, if_neg (by omega), if_neg (by omega)]
    · rw [wb, if_neg (by omega), if_neg (by omega)]
      exact w.zer y h1 (by omega)
theorem Den.all {l : List UInt8} (hp : pagF l = 0) : ∀ (k i : Nat) (p : List UInt8), i + k = Vm.cnt l → Den l (Vm.cnt l) i p → Den l (Vm.cnt l) (Vm.cnt l) (Vm.cmp l k i (p, 64 - sumS l i)).1 ∧ (Vm.cmp l k i (p, 64 - sumS l i)).2 = 64 - sumS l (Vm.cnt l)
  | 0, i, p, h, w => by
    have : i = Vm.cnt l := by omega
    subst this
    exact ⟨w, rfl⟩
  | k + 1, i, p, h, w => by
    obtain ⟨a, b⟩ := w.step hp (by omega)
    have := Den.all hp k (i + 1) _ (by omega) a
    rw [← b] at this
    exact this
/-- a page made dense -/
theorem den_ok {l : List UInt8} (hp : pagF l = 0) : Den l (cnt l) (cnt l) (cmpL l) ∧ bt (cmpL l) 1 = 64 - sumS l (cnt l) := by
  have g := Pg.of hp
  obtain ⟨w1, w2, w3, w4⟩ := g.nums
  have hb := sumS_bd hp (Nat.le_refl (cnt l))
  have ht : (l.take (2 + 2 * cnt l)).length = 2 + 2 * cnt l := by rw [List.length_take, g.len]; omega
  have hz : zer64.length = 64 := by simp [zer64]
  have ob : ∀ j : Nat, bt (out0 l) (j : Int) = if j < 2 + 2 * cnt l then bt l (j : Int) else 0 := fun j => by
    unfold out0
    rw [bt_lay (by rw [ht, hz]; omega), ht]
    by_cases hj : j < 2 + 2 * cnt l
    · rw [if_pos (by omega), if_pos hj]
      unfold bt
      simp only [Int.toNat_natCast, List.getD, Nat.sub_zero]
      rw [List.getElem?_take_of_lt hj]
    · rw [if_neg (by omega), if_neg hj]
      unfold bt zer64
      simp only [Int.toNat_natCast, List.getD]
      by_cases h64 : j < 64
      · rw [List.getElem?_replicate, if_pos h64]; rfl
      · rw [List.getElem?_eq_none (by simp; omega)]; rfl
  have d0 : Den l (cnt l) 0 (out0 l) := ⟨by unfold out0; rw [lay_len (by rw [ht, hz]; omega), hz],
    by have := ob 0; rw [if_pos (by omega)] at this; exact this.trans w1,
    fun j hj => by unfold siz; rw [ob, if_pos (by omega)],
    fun j hj => by omega, fun j _ hj => by unfold plc; rw [ob, if_pos (by omega)], fun j hj => by omega, fun y h1 h2 => by rw [ob, if_neg (by omega)]⟩
  obtain ⟨a, b⟩ := d0.all hp (cnt l) 0 (out0 l) (by omega)
  have e0 : sumS l 0 = 0 := rfl
  rw [e0] at a b
  unfold cmpL cmpR
  rw [b]
  rw [show 64 - 0 = 64 from rfl] at a
  have wb : ∀ j : Nat, bt ((cmp l (cnt l) 0 (out0 l, 64)).1.set 1 (UInt8.ofNat (64 - sumS l (cnt l)))) (j : Int) = if j = 1 then ((64 - sumS l (cnt l) : Nat) : Int) else bt (cmp l (cnt l) 0 (out0 l, 64)).1 (j : Int) := fun j => by
    rw [bt_set (by rw [a.len]; omega), u8n (by omega)]
  have hlen : ((cmp l (cnt l) 0 (out0 l, 64)).1.set 1 (UInt8.ofNat (64 - sumS l (cnt l)))).length = 64 := by rw [List.length_set, a.len]
  generalize (cmp l (cnt l) 0 (out0 l, 64)).1.set 1 (UInt8.ofNat (64 - sumS l (cnt l))) = p at wb hlen ⊢
  refine ⟨⟨hlen, ?_, fun j hj => ?_, fun j hj => ?_, fun j h1 h2 => ?_, fun j hj y hy => ?_, fun y h1 h2 => ?_⟩, ?_⟩
  · have := wb 0; rw [if_neg (by omega)] at this; exact this.trans a.cnt
  · rw [← a.siz j hj]; unfold siz; rw [wb, if_neg (by omega)]
  · rw [← a.plc j hj]; unfold plc; rw [wb, if_neg (by omega)]
  · rw [← a.old j h1 h2]; unfold plc; rw [wb, if_neg (by omega)]
  · have := sumS_mono l (i := j + 1) (j := cnt l) (by omega)
    rw [← a.cel j hj y hy, wb, if_neg (by omega)]
  · rw [← a.zer y h1 h2, wb, if_neg (by omega)]
  · have := wb 1; rw [if_pos rfl] at this
    rw [show (1 : Int) = ((1 : Nat) : Int) from rfl, this]; omega
theorem Den.pg {l p : List UInt8} (hp : pagF l = 0) (w : Den l (Vm.cnt l) (Vm.cnt l) p) (h1 : bt p 1 = 64 - sumS l (Vm.cnt l)) : Pg p ∧ Keep l p (-1) ∧ freS p = freS l := by
  have g := Pg.of hp
  obtain ⟨w1, w2, w3, w4⟩ := g.nums
  have hb := sumS_bd hp (Nat.le_refl (Vm.cnt l))
  have hcp := cnt_of w.cnt
  have hlo : ∀ j, j < Vm.cnt l → sumS l (j + 1) ≤ sumS l (Vm.cnt l) := fun j hj => sumS_mono l (by omega)
  refine ⟨⟨w.len, ⟨by rw [w.cnt]; omega, by rw [w.cnt]; omega, by omega⟩, fun i hi => ?_, fun i k hi hk => ?_, ?_⟩, fun i hi hne => ?_, ?_⟩
  · rw [hcp] at hi
    have := w.plc i hi
    have h2 := w.siz i hi
    have q := pl_bd l i
    have := hlo i hi
    have hs : sumS l (i + 1) = sumS l i + (Vm.siz l i).toNat := rfl
    unfold slotB
    by_cases hz : Vm.siz l i = 0
    · rw [if_pos hz] at *; rw [if_pos (.inl (by assumption))]; omega
    · rw [if_neg hz] at *; rw [if_neg (by omega)]; omega
  · rw [hcp] at hi
    have p1 := w.plc i hi
    have s1 := w.siz i hi
    have p2 := w.plc k (by omega)
    have s2 := w.siz k (by omega)
    have q := pl_bd l i
    have q2 := pl_bd l k
    have hm := sumS_mono l (i := k + 1) (j := i) (by omega)
    have h3 := hlo i hi
    have e1 : sumS l (i + 1) = sumS l i + (Vm.siz l i).toNat := rfl
    unfold apartB
    by_cases hz : Vm.siz l i = 0
    · left; omega
    · by_cases hz2 : Vm.siz l k = 0
      · right; left; omega
      · rw [if_neg hz] at p1; rw [if_neg hz2] at p2
        right; right; left; omega
  · rw [hcp]
    rintro ⟨a, b⟩
    rw [w.siz _ (by omega)] at b
    exact g.last ⟨a, b⟩
  · have e : (i < Vm.cnt p ∧ Vm.siz p i ≠ 0) ↔ (i < Vm.cnt l ∧ Vm.siz l i ≠ 0) := by
      rw [hcp]
      constructor <;> (rintro ⟨a, b⟩; refine ⟨a, ?_⟩)
      · rwa [w.siz i a] at b
      · rwa [w.siz i a]
    refine ⟨has_eq e, fun hh => ?_⟩
    obtain ⟨a, b⟩ := has_iff.1 hh
    have q := pl_bd l i
    have h3 := hlo i a
    have e1 : sumS l (i + 1) = sumS l i + (Vm.siz l i).toNat := rfl
    obtain ⟨b1, b2⟩ := g.bd a b
    have pp := w.plc i a
    rw [if_neg b] at pp
    refine cell_same (w.siz i a) (by rw [g.len]; omega) (by rw [w.siz i a, w.len]; omega) fun j hj => ?_
    have hc := w.cel i a j hj
    rw [cell_bt (by rw [g.len]; omega) hj] at hc
    rw [← hc]
    congr 1; omega
  · unfold freS
    rw [hcp, w.cnt, w1, sum_ext _ w.siz]
theorem den_uniq {l l' p p' : List UInt8} {n : Nat} (w : Den l n n p) (w' : Den l' n n p') (hs : ∀ j, j < n → siz l j = siz l' j) (hc : ∀ j, j < n → siz l j ≠ 0 → cellB l j = cellB l' j) (h1 : bt p 1 = bt p' 1) (hle : sumS l n ≤ 64) : p = p' := by
  have hS : ∀ j, j ≤ n → sumS l j = sumS l' j := fun j hj => sum_ext j fun i hi => hs i (by omega)
  refine bt_ext (by rw [w.len, w'.len]) fun y hy => ?_
  rw [w.len] at hy
  by_cases y0 : y = 0
  · subst y0; exact w.cnt.trans w'.cnt.symm
  by_cases y1 : y = 1
  · subst y1; exact h1
  by_cases y2 : y < 2 + 2 * n
  · by_cases he : y % 2 = 0
    · obtain ⟨j, rfl⟩ : ∃ j, y = 2 + 2 * j := ⟨(y - 2) / 2, by omega⟩
      have a := w.plc j (by omega)
      have b := w'.plc j (by omega)
      rw [← hs j (by omega), ← hS (j + 1) (by omega)] at b
      exact a.trans b.symm
    · obtain ⟨j, rfl⟩ : ∃ j, y = 3 + 2 * j := ⟨(y - 3) / 2, by omega⟩
      have a := w.siz j (by omega)
      have b := w'.siz j (by omega)
      rw [hs j (by omega)] at a
      exact a.trans b.symm
  by_cases y3 : y < 64 - sumS l n
  · rw [w.zer y (by omega) y3, w'.zer y (by omega) (by rw [← hS n (Nat.le_refl _)]; exact y3)]
  · have find : ∀ i, i ≤ n → 64 - sumS l i ≤ y → ∃ j, j < i ∧ 64 - sumS l (j + 1) ≤ y ∧ y < 64 - sumS l j := by
      intro i
      induction i with
      | zero => intro _ h; simp only [sumS] at h; omega
      | succ i ih =>
        intro hi h
        by_cases hh : 64 - sumS l i ≤ y
        · obtain ⟨j, a, b, c⟩ := ih (by omega) hh
          exact ⟨j, by omega, b, c⟩
        · exact ⟨i, by omega, h, by omega⟩
    obtain ⟨j, hj, a, b⟩ := find n (Nat.le_refl _) (by omega)
    have hm := sumS_mono l (i := j + 1) (j := n) (by omega)
    have e1 : sumS l (j + 1) = sumS l j + (siz l j).toNat := rfl
    have q := pl_bd l j
    have c1 := w.cel j hj (y - (64 - sumS l (j + 1))) (by omega)
    have c2 := w'.cel j hj (y - (64 - sumS l (j + 1))) (by rw [← hs j hj]; omega)
    rw [← hS (j + 1) (by omega)] at c2
    rw [show 64 - sumS l (j + 1) + (y - (64 - sumS l (j + 1))) = y from by omega] at c1 c2
    rw [c1, c2, hc j hj (by omega)]
/-- a page made dense: what is known of it -/
theorem comp_ok {l : List UInt8} (hp : pagF l = 0) : pagF (cmpL l) = 0 ∧ Keep l (cmpL l) (-1) ∧ freS (cmpL l) = freS l ∧ bt (cmpL l) 1 - (2 + 2 * bt (cmpL l) 0) = freS (cmpL l) ∧ cmpL (cmpL l) = cmpL l := by
  obtain ⟨a, b⟩ := den_ok hp
  obtain ⟨g1, g2, g3⟩ := a.pg hp b
  have hb := sumS_bd hp (Nat.le_refl (cnt l))
  have w := Pg.of hp
  obtain ⟨w1, w2, w3, w4⟩ := w.nums
  have hcp := cnt_of a.cnt
  refine ⟨g1.ok, g2, g3, ?_, ?_⟩
  · unfold freS
    rw [b, a.cnt, hcp, sum_ext _ a.siz]; omega
  · obtain ⟨a', b'⟩ := den_ok g1.ok
    rw [hcp] at a' b'
    refine den_uniq a' a a.siz (fun j hj hz => ?_) (by rw [b, b', sum_ext _ a.siz]) (by rw [sum_ext _ a.siz]; omega)
    rw [a.siz j hj] at hz
    exact (g2 j (by omega) (by omega)).2 (has_iff.2 ⟨hj, hz⟩)
end Vm
/-
  What is drawn out of bytes: pages.
-/
namespace Vm
open Go
/-! a new page -/
def newL (c : Int) : List UInt8 := ((List.replicate 64 (UInt8.ofNat c.toNat)).set 0 0).set 1 64
theorem newL_len (c : Int) : (newL c).length = 64 := by simp [newL]
theorem newL_bt (c : Int) (j : Nat) : bt (newL c) (j : Int) = if j = 1 then 64 else if j = 0 then 0 else bt (List.replicate 64 (UInt8.ofNat c.toNat)) (j : Int) := by
  unfold newL
  rw [bt_set (by simp), bt_set (by simp)]; rfl
theorem newL_ok (c : Int) : pagF (newL c) = 0 := by
  have h0 : bt (newL c) 0 = (0 : Nat) := by have := newL_bt c 0; simpa using this
  have h1 : bt (newL c) 1 = 64 := by have := newL_bt c 1; simpa using this
  have hc := cnt_of h0
  exact (Pg.ok ⟨newL_len c, ⟨by omega, by omega, by omega⟩, fun i hi => by omega, fun i k hi => by omega, fun hh => by omega⟩)
theorem fl64 (x : S) : ((List.range 64).map fun _ => [x]).flatten = List.replicate 64 x := rfl
theorem f_l2New {c : Int} (h0 : 0 ≤ c) (h1 : c < 256) (n : Nat) : ∃ h', call Ev Fn.spec_l2New [iv .u8 c] (D n) = some (sv n 0 64, h') ∧ NewB n h' (sv n 0 64) (newL c) (some n) := by
  rw [eq_spec_l2New, mk64, ob]
  obtain ⟨h', e1, n1, g1, _⟩ := fill_loop (z := 1) (n := 64) (b := n) (T := fun _ => [S.int .u8 c]) (L := fun i h => Lp.spec_l2New 0 [iv .u8 c, sv n 0 64, iv .i64 i] h) (fin := [sv n 0 64]) (fun _ _ => rfl)
    (fun i h hi hb => by
      refine ⟨iv .u8 c, [iv .u8 c, sv n 0 64, iv .i64 ((i + 1 : Nat) : Int)], .inl ⟨_, rfl, rfl, rfl⟩, ?_⟩
      show Lp.spec_l2New 0 _ h = _
      rw [eq_spec_l2New_l0, vcase_b, if_pos (by simp; omega), idxK_sv hi, w64 (by omega) (by omega), show (i : Int) + 1 = ((i + 1 : Nat) : Int) from by omega])
    (fun h => by
      show Lp.spec_l2New 0 _ h = _
      rw [eq_spec_l2New_l0, vcase_b, if_neg (by simp), tidy_self])
    64 0 ((D n).new 1 (zer64.map cell8)) (zer64.map cell8) (by omega) (by simp) (by rw [List.range_zero]; exact new_g (D n) _ _) (by simp [zer64])
  rw [D_n, show iv .i64 0 = iv .i64 ((0 : Nat) : Int) from rfl, e1]
  simp only [ob, lcase_done, gx0]
  have hc : (List.replicate 64 (S.int .u8 c)) = (List.replicate 64 (UInt8.ofNat c.toNat)).map cell8 := by
    rw [List.map_replicate]
    congr 1
    exact u8i ⟨h0, h1⟩
  rw [fl64, hc] at g1
  simp at n1
  have w : BysW h' (sv n 0 64) (List.replicate 64 (UInt8.ofNat c.toNat)) n := ⟨by simp, by omega, g1⟩
  rw [idxK_sv (by omega), w.set (c := 0) (x := 0) (by simp) rfl, show iv .i64 1 = iv .i64 ((1 : Nat) : Int) from rfl, idxK_sv (by omega), (w.set_w).set (c := 64) (x := 64) (by simp) rfl]
  have w2 := (w.set_w (i := 0) (c := 0)).set_w (i := 1) (c := 64)
  refine ⟨_, rfl, w2, by rw [put_n, put_n]; omega, fun b hb => by cases hb; exact Nat.le_refl _, fun b h2 h3 s hs => ?_⟩
  rw [put_n, put_n, n1] at h3
  have hbn : b = n := by omega
  rw [hbn] at hs
  have hs' := (congrArg (fun x => s ∈ Blk.cells x) w2.g).mp hs
  obtain ⟨c, _, rfl⟩ := List.mem_map.1 hs'
  rfl
theorem NewB.over {h h1 : H} {v : V} {m : List UInt8} {c : Nat} (w : NewB h.n h1 v m (some c)) : Up h (h.over h1) ∧ BysW (h.over h1) v m c ∧ h.n ≤ c := by
  have hle := w.le
  have hc := w.new c rfl
  exact ⟨up_over hle, ⟨(show BysW h1 v m c from w.own).v, by rw [over_n hle]; exact (show BysW h1 v m c from w.own).n, by rw [over_ge hc]; exact (show BysW h1 v m c from w.own).g⟩, hc⟩
theorem NewB.some_of {n : Nat} {h : H} {v : V} {l : List UInt8} {o : Option Nat} (w : NewB n h v l o) (hl : l ≠ []) : ∃ c, NewB n h v l (some c) := by
  cases o with
  | some c => exact ⟨c, w⟩
  | none => exact absurd w.own.2 hl
theorem BysW.dr {q b k : Nat} {ms : List UInt8} {l : List UInt8} {a N : Nat} {h h' : H} (w : BysW h (sv q 0 k) ms q) (r : Dr b l a N h h') (hq : q ≠ b) : BysW h' (sv q 0 k) ms q := ⟨w.v, by have := w.n; have := r.n; omega, by rw [r.o q w.n hq]; exact w.g⟩
theorem BysW.fr {q k : Nat} {ms : List UInt8} {h h' : H} (w : BysW h (sv q 0 k) ms q) (hn : h.n ≤ h'.n) (hg : h'.g q = h.g q) : BysW h' (sv q 0 k) ms q := ⟨w.v, by have := w.n; omega, hg.trans w.g⟩
/-! a page with which something was done -/
theorem lp_right {b : Nat} {l : List UInt8} (hl : l.length ≤ 1048576) : ∀ (k : Nat) (a q n0 : Nat) (p : List UInt8) (h : H), Src b l a h → a + 40 * k < 1099511627776 → b < n0 → n0 ≤ q → BysW h (sv q 0 64) p q → pagF p = 0 →
    ∃ q' p' h', Lp.spec_l2Right 0 [pv b 0, sv q 0 64, iv .i64 k] h = some (.done [sv q' 0 64] h') ∧ BysW h' (sv q' 0 64) p' q' ∧ pagF p' = 0 ∧ n0 ≤ q' ∧ (∃ a', Src b l a' h' ∧ a' ≤ a + 40 * k) ∧ h.n ≤ h'.n ∧ ∀ c, c < n0 → c ≠ b → h'.g c = h.g c := by
  intro k
  induction k with
  | zero =>
    intro a q n0 p h w ha hb hq wp hp
    refine ⟨q, p, h, ?_, wp, hp, hq, ⟨a, w, by omega⟩, Nat.le_refl _, fun _ _ _ => rfl⟩
    rw [eq_spec_l2Right_l0, vcase_b, if_neg (by simp), tidy_self]
  | succ k ih =>
    intro a q n0 p h w ha hb hq wp hp
    have hqn := wp.n
    have hbn := w.n
    have hqb : q ≠ b := by omega
    rw [eq_spec_l2Right_l0, vcase_b, if_pos (by simp)]
    rw [w64 (n := ((k + 1 : Nat) : Int) - 1) (by omega) (by omega), show ((k + 1 : Nat) : Int) - 1 = (k : Int) from by omega]
    -- how the round goes on with the page as it was
    have old : ∀ {N : Nat} {X : H} (vs : List V), Dr b l a N h X → N ≤ 40 → ∃ q' p' h', Lp.spec_l2Right 0 [pv b 0, sv q 0 64, iv .i64 k] (Vm.tidy h vs X) = some (.done [sv q' 0 64] h') ∧ BysW h' (sv q' 0 64) p' q' ∧ pagF p' = 0 ∧ n0 ≤ q' ∧ (∃ a', Src b l a' h' ∧ a' ≤ a + 40 * (k + 1)) ∧ h.n ≤ h'.n ∧ ∀ c, c < n0 → c ≠ b → h'.g c = h.g c := fun {N X} vs r hN => by
      have r' := r.tidy hbn vs
      obtain ⟨a', w1, w2⟩ := r'.ex
      obtain ⟨q', p', h', e, x1, x2, x3, ⟨a2, x4, x5⟩, x6, x7⟩ := ih a' q n0 p _ w1 (by omega) hb hq (wp.dr r' hqb) hp
      exact ⟨q', p', h', e, x1, x2, x3, ⟨a2, x4, by omega⟩, Nat.le_trans r'.n x6, fun c hc hcb => (x7 c hc hcb).trans (r'.o c (by omega) hcb)⟩
    -- .. and with another page
    have new : ∀ {N : Nat} {X : H} {q2 : Nat} {p2 : List UInt8} (vs : List V), sv q2 0 64 ∈ vs → Dr b l a N h X → N ≤ 40 → h.n ≤ q2 → BysW X (sv q2 0 64) p2 q2 → pagF p2 = 0 → ∃ q' p' h', Lp.spec_l2Right 0 [pv b 0, sv q2 0 64, iv .i64 k] (Vm.tidy h vs X) = some (.done [sv q' 0 64] h') ∧ BysW h' (sv q' 0 64) p' q' ∧ pagF p' = 0 ∧ n0 ≤ q' ∧ (∃ a', Src b l a' h' ∧ a' ≤ a + 40 * (k + 1)) ∧ h.n ≤ h'.n ∧ ∀ c, c < n0 → c ≠ b → h'.g c = h.g c := fun {N X q2 p2} vs hv r hN hq2 wq hp2 => by
      have ht : Vm.tidy h vs X = X := no_tidy_v (by
        rw [Bool.eq_false_iff]
        intro hh
        have := List.all_eq_true.1 hh _ hv
        simp [belV, belS] at this; omega)
      rw [ht]
      obtain ⟨a', w1, w2⟩ := r.ex
      obtain ⟨q', p', h', e, x1, x2, x3, ⟨a2, x4, x5⟩, x6, x7⟩ := ih a' q2 n0 p2 X w1 (by omega) hb (by omega) wq hp2
      exact ⟨q', p', h', e, x1, x2, x3, ⟨a2, x4, by omega⟩, Nat.le_trans r.n x6, fun c hc hcb => (x7 c hc hcb).trans (r.o c (by omega) hcb)⟩
    obtain ⟨x1, h1, e1, r1, b1, w1, n1, o1, t1⟩ := r_next w hl (by omega) (n := 14) (by omega) (by omega)
    rw [e1]; simp only [ob, gV1_s, gI_i]; rw [t1]
    obtain ⟨m, hm⟩ : ∃ m : Nat, 1 + x1 = m := ⟨(1 + x1).toNat, by omega⟩
    rw [hm, w64 (by omega) (by omega)]
    obtain ⟨q2, ms, h2, e2, w2, hms, hq2, d2⟩ := r_some (m := m) w1 hl (by omega) (by omega)
    rw [e2, ob]
    dsimp only
    rw [no_tidy_v (h := h1) (h' := h2) (by simp [belV, belS]; omega)]
    obtain ⟨a2, s2, ha2⟩ := d2.ex
    have hd2n := d2.n
    obtain ⟨x3, h3, e3, r3, b3, w3, n3, o3, t3⟩ := r_next s2 hl (by omega) (n := 5) (by omega) (by omega)
    rw [e3]; simp only [ob, gV1_s, gI_i]; rw [t3]
    have dr3 : Dr b l a 20 h h3 := ⟨⟨_, w3, by omega⟩, by omega, fun c hc hcb => by rw [o3 c hcb, d2.o c (by omega) hcb, o1 c hcb]⟩
    have wp3 := wp.dr dr3 hqb
    have wm3 : BysW h3 (sv q2 0 m) ms q2 := w2.fr (by omega) (o3 q2 (by omega))
    have hq2b : q2 ≠ b := by omega
    rw [vcase_b]
    by_cases c0 : x3 = 0
    · rw [if_pos (by simp [c0])]
      obtain ⟨x4, h4, e4, r4, b4, w4, n4, o4, t4⟩ := r_next w3 hl (by omega) (n := 6) (by omega) (by omega)
      rw [e4]; simp only [ob, gV1_s, gI_i]; rw [t4]
      have dr4 : Dr b l a 21 h h4 := ⟨⟨_, w4, by omega⟩, by omega, fun c hc hcb => by rw [o4 c hcb, dr3.o c hc hcb]⟩
      have wp4 := wp.dr dr4 hqb
      have fz : frzVs h4 [sv q 0 64, iv .i64 x4] = some [lv (bys p), iv .i64 x4] := frzVs_cons (frz1 (ob := some q) wp4) (frzVs_cons frzV_iv frzVs_nil)
      rw [fz, ob, norm_nil, pc (p_l2Has hp (by omega) (by omega)) rfl]
      simp only [gV1_s, gB_b]
      rw [vcase_b]
      cases hh : hasB p x4
      · rw [if_neg (by simp)]
        exact old _ dr4 (by omega)
      · rw [if_pos rfl, ob, norm_nil]
        obtain ⟨i, rfl, hi, _⟩ := hasB_nat hh
        obtain ⟨h64, ⟨g1, _, _⟩, _⟩ := pagF_ok hp
        have hc := cnt_eq p
        obtain ⟨h5, e5, w5, _⟩ := f_l2Drop h64 (by omega) hi h4.n
        rw [pF (h := h4) e5 ⟨rfl, w5.z⟩]
        obtain ⟨u5, w5', hc5⟩ := w5.over
        exact new _ (by simp) (dr4.up u5) (by omega) (by omega) w5' (drop_ok hp hi).1
    rw [if_neg (by simpa using c0), vcase_b]
    by_cases c1 : x3 = 1
    · rw [if_pos (by simp [c1])]
      obtain ⟨x4, h4, e4, r4, b4, w4, n4, o4, t4⟩ := r_next w3 hl (by omega) (n := 6) (by omega) (by omega)
      rw [e4]; simp only [ob, gV1_s, gI_i]; rw [t4]
      have dr4 : Dr b l a 21 h h4 := ⟨⟨_, w4, by omega⟩, by omega, fun c hc hcb => by rw [o4 c hcb, dr3.o c hc hcb]⟩
      have wp4 := wp.dr dr4 hqb
      have wm4 : BysW h4 (sv q2 0 m) ms q2 := wm3.fr (by omega) (o4 q2 hq2b)
      have fz : frzVs h4 [sv q 0 64, iv .i64 x4] = some [lv (bys p), iv .i64 x4] := frzVs_cons (frz1 (ob := some q) wp4) (frzVs_cons frzV_iv frzVs_nil)
      have fz3 : frzVs h4 [sv q 0 64, iv .i64 x4, sv q2 0 m] = some [lv (bys p), iv .i64 x4, lv (bys ms)] := frzVs_cons (frz1 (ob := some q) wp4) (frzVs_cons frzV_iv (frzVs_cons (frz1 (ob := some q2) wm4) frzVs_nil))
      rw [fz, ob, norm_nil, pc (p_l2Has hp (by omega) (by omega)) rfl]
      simp only [gV1_s, gB_b]
      rw [vcase_b]
      cases hh : hasB p x4
      · rw [if_neg (by simp)]
        exact old _ dr4 (by omega)
      · rw [if_pos rfl, fz3, ob, norm_nil]
        obtain ⟨i, rfl, hi, _⟩ := hasB_nat hh
        obtain ⟨y, h5, o5, e5, w5⟩ := f_l2Set (m := ms) hp hi (inB_iff.2 (by omega)) hh h4.n
        rw [pF (h := h4) e5 ⟨by simp [w5.own.sca], w5.z⟩]
        have u5 : Up h4 (h4.over h5) := up_over w5.le
        simp only [gVT_t, gx0, gx1, ob, gA1_s, gI_i, ln0, ln1, Nat.zero_add, Nat.reduceAdd, if_true]
        rw [vcase_b]
        by_cases hz : (setR p i ms).1 = 0
        · rw [if_pos (by simp [hz])]
          obtain ⟨s1, _⟩ := set_ok hz
          have s64 := (pagF_ok s1).1
          obtain ⟨c, w6⟩ := w5.some_of (fun hn => by rw [hn] at s64; simp at s64)
          obtain ⟨_, w6', hc6⟩ := w6.over
          have hv := w6'.v
          rw [s64] at hv
          injection hv with hv
          subst hv
          exact new _ (by simp) (dr4.up u5) (by omega) (by omega) w6' s1
        · rw [if_neg (by simpa using hz)]
          exact old _ (dr4.up u5) (by omega)
    rw [if_neg (by simpa using c1), vcase_b]
    by_cases c2 : x3 = 2
    · rw [if_pos (by simp [c2])]
      obtain ⟨x4, h4, e4, w4, n4, o4, t4⟩ := r_chance w3 hl (by omega) (n := 3) (by omega) (by omega)
      rw [e4]; simp only [ob, gV1_s, gB_b]; rw [t4]
      have dr4 : Dr b l a 21 h h4 := ⟨⟨_, w4, by omega⟩, by omega, fun c hc hcb => by rw [o4 c hcb, dr3.o c hc hcb]⟩
      have wp4 := wp.dr dr4 hqb
      have fz : frzVs h4 [sv q 0 64] = some [lv (bys p)] := frzVs_cons (frz1 (ob := some q) wp4) frzVs_nil
      rw [vcase_b]
      cases x4
      · rw [if_neg (by simp)]
        exact old _ dr4 (by omega)
      · rw [if_pos rfl, fz, ob, norm_nil]
        obtain ⟨h5, e5, w5⟩ := f_l2Compact hp h4.n
        rw [pF (h := h4) e5 ⟨rfl, w5.z⟩]
        obtain ⟨u5, w5', hc5⟩ := w5.over
        exact new _ (by simp) (dr4.up u5) (by omega) (by omega) w5' (comp_ok hp).1
    rw [if_neg (by simpa using c2)]
    have fz : frzVs h3 [sv q 0 64, sv q2 0 m] = some [lv (bys p), lv (bys ms)] := frzVs_cons (frz1 (ob := some q) wp3) (frzVs_cons (frz1 (ob := some q2) wm3) frzVs_nil)
    rw [fz, ob, norm_nil]
    obtain ⟨y, h5, o5, e5, w5⟩ := f_l2Put (m := ms) hp (inB_iff.2 (by omega)) h3.n
    rw [pF (h := h3) e5 ⟨by simp [w5.own.sca], w5.z⟩]
    have u5 : Up h3 (h3.over h5) := up_over w5.le
    simp only [gVT_t, gx0, gx1, ob, gA1_s, gI_i, ln0, ln1, Nat.zero_add, Nat.reduceAdd, if_true]
    rw [vcase_b]
    by_cases hz : (pu0 p ms).1 = 0
    · rw [if_pos (by simp [hz])]
      obtain ⟨s1, _⟩ := put_ok hp (inB_iff.2 (by omega)) hz
      have s64 := (pagF_ok s1).1
      obtain ⟨c, w6⟩ := w5.some_of (fun hn => by rw [hn] at s64; simp at s64)
      obtain ⟨_, w6', hc6⟩ := w6.over
      have hv := w6'.v
      rw [s64] at hv
      injection hv with hv
      subst hv
      exact new _ (by simp) (dr3.up u5) (by omega) (by omega) w6' s1
    · rw [if_neg (by simpa using hz)]
      exact old _ (dr3.up u5) (by omega)
end Vm
/-
  What is drawn out of bytes: pages that may have a fault, cells to be put.
-/
namespace Vm
open Go
theorem r_right {b : Nat} {l : List UInt8} {a : Nat} {h : H} (w : Src b l a h) (hl : l.length ≤ 1048576) (ha : a + 1000 < 1099511627776) :
    ∃ q p h', call Ev Fn.spec_l2Right [pv b 0] h = some (sv q 0 64, h') ∧ BysW h' (sv q 0 64) p q ∧ pagF p = 0 ∧ h.n ≤ q ∧ Dr b l a 600 h h' := by
  have hb := w.n
  rw [eq_spec_l2Right]
  obtain ⟨x1, h1, e1, m1, w1, n1, o1, t1⟩ := r_pickN w hl (by omega) (xs := [0, 0, 7]) (by simp) (by simp)
  simp only [List.length_cons, List.length_nil, Nat.zero_add, Nat.reduceAdd, List.map_cons, List.map_nil] at e1 t1
  rw [e1]; simp only [ob, gV1_s, gI_i]; rw [t1]
  have hx : 0 ≤ x1 ∧ x1 < 256 := by
    simp only [List.mem_cons, List.not_mem_nil, or_false] at m1
    omega
  rw [w8 hx.1 hx.2]
  obtain ⟨h2, e2, w2⟩ := f_l2New hx.1 hx.2 h1.n
  rw [pF (h := h1) e2 ⟨rfl, w2.z⟩]
  obtain ⟨u2, wp, hq⟩ := w2.over
  generalize h1.over h2 = K at u2 wp ⊢
  obtain ⟨x3, h3, e3, r3, b3, w3, n3, o3, t3⟩ := r_next (w1.up u2) hl (by omega) (n := 14) (by omega) (by omega)
  rw [e3]; simp only [ob, gV1_s, gI_i]; rw [t3]
  obtain ⟨k, rfl⟩ : ∃ k : Nat, x3 = k := ⟨x3.toNat, by omega⟩
  have hb1 := w1.n
  have wp3 : BysW h3 (sv h1.n 0 64) (newL x1) h1.n := wp.fr (by omega) (o3 h1.n (by omega))
  have hu := u2.n
  obtain ⟨q', p', h', e4, w4, p4, q4, ⟨a', s4, ha'⟩, n4, o4⟩ := lp_right hl k (a + 1 + 1) h1.n h.n (newL x1) h3 w3 (by omega) hb n1 wp3 (newL_ok x1)
  rw [e4, ob, lcase_done]
  simp only [gx0, ob]
  exact ⟨q', p', h', rfl, w4, p4, q4, ⟨⟨a', s4, by omega⟩, by omega, fun c hc hcb => by rw [o4 c hc hcb, o3 c hcb, u2.g c (by omega), o1 c hc hcb]⟩⟩
/-- bytes of one's own, or a part of them -/
theorem cut1 {h : H} {q : Nat} {p : List UInt8} (w : BysW h (sv q 0 64) p q) (h64 : p.length = 64) {R : Type} {k : V → Option R} : slK 1 h (sv q 0 64) (some (iv .i64 1)) none k = k (sv q 1 63) := by
  have := slK_w (R := R) (kd := .i64) (k := k) w (a := 1) (by omega)
  rw [show iv .i64 1 = iv .i64 ((1 : Nat) : Int) from rfl, this, h64]
theorem frz_cut {h : H} {q d : Nat} {p : List UInt8} (w : BysW h (sv q 0 64) p q) (h64 : p.length = 64) : frzS h (d + 1) (.sl (some (q, 1)) 63) = some (.fs (bys (p.drop 1))) := by
  have hg := w.g
  have hn := w.n
  simp only [frzS]
  rw [if_neg (by omega)]
  simp only [hn, if_true, hg]
  rw [if_pos ⟨by omega, by simp [h64]⟩]
  have e : ((p.map cell8).drop 1).take (63 * 1) = (bys (p.drop 1)).flatten := by
    rw [bys_flat, ← List.map_drop, List.take_of_length_le (by simp [h64])]
  rw [e, mapO_cl (fun s hs => by
    obtain ⟨r, h1, h2⟩ := List.mem_flatten.1 hs
    exact bys_cl r h1 s h2)]
  have hc := chunk_rows (z := 1) (rows := bys (p.drop 1)) bys_row
  rw [bys_len, show (p.drop 1).length = 63 from by simp [h64]] at hc
  rw [ob, hc]
theorem r_bent2 {b : Nat} {l : List UInt8} {a : Nat} {h : H} (w : Src b l a h) (hl : l.length ≤ 1048576) (ha : a + 1000 < 1099511627776) :
    ∃ y q p h', call Ev Fn.spec_l2Bent [pv b 0] h = some (.s y, h') ∧ p.length ≤ 64 ∧ scaS y = true ∧ h.n ≤ q ∧ q < h'.n ∧ (∀ vs, .s y ∈ vs → Vm.tidy h vs h' = h') ∧ Dr b l a 700 h h' ∧ (∀ h'' d, h'.n ≤ h''.n → h''.g q = h'.g q → frzS h'' (d + 1) y = some (.fs (bys p))) := by
  have hb := w.n
  rw [eq_spec_l2Bent]
  obtain ⟨q, p, h1, e1, wp, hp, hq, d1⟩ := r_right w hl ha
  have h64 := (pagF_ok hp).1
  rw [e1, ob]
  dsimp only
  rw [no_tidy_v (h := h) (h' := h1) (by simp [belV, belS]; omega)]
  obtain ⟨a1, s1, ha1⟩ := d1.ex
  have hd1 := d1.n
  have hqb : q ≠ b := by omega
  obtain ⟨x2, h2, e2, r2, b2, w2, n2, o2, t2⟩ := r_next s1 hl (by omega) (n := 12) (by omega) (by omega)
  rw [e2]; simp only [ob, gV1_s, gI_i]; rw [t2]
  have wp2 : BysW h2 (sv q 0 64) p q := wp.fr (by omega) (o2 q hqb)
  have dr2 : Dr b l a 601 h h2 := ⟨⟨_, w2, by omega⟩, by omega, fun c hc hcb => by rw [o2 c hcb, d1.o c hc hcb]⟩
  have nt : ∀ {o k : Nat} {X : H} (vs : List V), V.s (.sl (some (q, o)) k) ∈ vs → Vm.tidy h vs X = X := fun vs hv => no_tidy_v (by
    rw [Bool.eq_false_iff]
    intro hh
    have := List.all_eq_true.1 hh _ hv
    simp [belV, belS] at this; omega)
  have fz : ∀ {X : H} {p : List UInt8}, BysW X (sv q 0 64) p q → p.length = 64 → ∀ h'' d, X.n ≤ h''.n → h''.g q = X.g q → frzS h'' (d + 1) (.sl (some (q, 0)) 64) = some (.fs (bys p)) := fun {X p} wx hx h'' d hn hg => by
    have := ((wx.fr hn hg).frz (d := d)).2
    rwa [hx] at this
  rw [vcase_b]
  by_cases c0 : x2 = 0
  · rw [if_pos (by simp [c0]), cut1 wp2 h64]
    exact ⟨_, q, p.drop 1, h2, rfl, by simp [h64], rfl, hq, wp2.n, fun vs hv => nt vs hv, ⟨⟨_, w2, by omega⟩, dr2.n, dr2.o⟩, fun h'' d hn hg => frz_cut (wp2.fr hn hg) h64⟩
  rw [if_neg (by simpa using c0), vcase_b]
  by_cases c1 : x2 = 1
  · rw [if_pos (by simp [c1])]
    obtain ⟨x3, h3, e3, r3, b3, w3, n3, o3, t3⟩ := r_next w2 hl (by omega) (n := 12) (by omega) (by omega)
    rw [e3]; simp only [ob, gV1_s, gI_i]; rw [t3]
    obtain ⟨x4, h4, e4, r4, b4, w4, n4, o4, t4⟩ := r_next w3 hl (by omega) (n := 70) (by omega) (by omega)
    rw [e4]; simp only [ob, gV1_s, gI_i]; rw [t4]
    obtain ⟨i, rfl⟩ : ∃ i : Nat, x3 = i := ⟨x3.toNat, by omega⟩
    have wp4 : BysW h4 (sv q 0 64) p q := wp2.fr (by omega) (by rw [o4 q hqb, o3 q hqb])
    rw [idxK_sv (by omega), wp4.set (c := UInt8.ofNat x4.toNat) (by omega) (by rw [w8 (by omega) (by omega)]; simp; omega)]
    have wp5 := wp4.set_w (i := i) (c := UInt8.ofNat x4.toNat)
    have hg5 : ∀ c, c ≠ q → (h4.put q (.rw 1 ((p.set i (UInt8.ofNat x4.toNat)).map cell8))).g c = h4.g c := fun c hc => put_g' hc
    have hn5 : (h4.put q (.rw 1 ((p.set i (UInt8.ofNat x4.toNat)).map cell8))).n = h4.n := put_n _ _ _
    generalize h4.put q (.rw 1 ((p.set i (UInt8.ofNat x4.toNat)).map cell8)) = X at wp5 hg5 hn5 ⊢
    have hb4 := w4.n
    exact ⟨_, q, p.set i (UInt8.ofNat x4.toNat), X, rfl, by simp [h64], rfl, hq, wp5.n, fun vs hv => nt vs hv, ⟨⟨_, ⟨by omega, by rw [hg5 b (by omega)]; exact w4.g⟩, by omega⟩, by omega, fun c hc hcb => by rw [hg5 c (by omega), o4 c hcb, o3 c hcb, dr2.o c hc hcb]⟩, fz wp5 (by simp [h64])⟩
  rw [if_neg (by simpa using c1)]
  exact ⟨_, q, p, h2, rfl, by omega, rfl, hq, wp2.n, fun vs hv => nt vs hv, ⟨⟨_, w2, by omega⟩, dr2.n, dr2.o⟩, fz wp2 h64⟩
theorem r_source {l : List UInt8} (h : H) : ∃ K : H, (∀ (R : Type) (k : V → H → Option R), pcallF (call Ev) Fn.spec_l1Source true [lv (bys l)] h k = k (pv h.n 0) K) ∧ Src h.n l 0 K ∧ Up h K ∧ K.n = h.n + 1 := by
  have hle : h.n ≤ ((D h.n).new 0 [.fs (bys l), .int .i64 0]).n := by simp
  refine ⟨h.over ((D h.n).new 0 [.fs (bys l), .int .i64 0]), fun R k => ?_, ⟨by rw [over_n hle]; simp, by rw [over_ge (Nat.le_refl _)]; exact new_g (D h.n) _ _⟩, up_over hle, by rw [over_n hle]; simp⟩
  unfold pcallF
  rw [eq_spec_l1Source, Vm.ob]
  unfold fchk
  rw [if_pos (.inl rfl)]; rfl
end Vm
/-
  Cells packed: what both ways come to, and that a cell is read back as what it was made of.
-/
namespace Vm
open Go
def o8 (x : Int) : UInt8 := UInt8.ofNat x.toNat
theorem o8_n {x : Int} (h0 : 0 ≤ x) (h1 : x < 256) : ((o8 x).toNat : Int) = x := by
  unfold o8; simp; omega
theorem o8_c {x : Int} (h0 : 0 ≤ x) (h1 : x < 256) : S.int .u8 x = cell8 (o8 x) := by
  unfold cell8; rw [o8_n h0 h1]
theorem rowF_0 {r : RowD} (h : rowF r = 0) : (0 ≤ r.tab ∧ r.tab ≤ 3) ∧ (1 ≤ r.key ∧ r.key ≤ 99) ∧ (0 ≤ r.val ∧ r.val ≤ 999) ∧ r.text.size ≤ 8 ∧ allLow r.text 0 = true := by
  unfold rowF at h
  cases a : inB r.tab 0 3 <;> cases b : inB r.key 1 99 <;> cases c : inB r.val 0 999 <;> simp [a, b, c] at h
  exact ⟨inB_iff.1 a, inB_iff.1 b, inB_iff.1 c, h⟩
def packL (f : Int) (r : RowD) : List UInt8 := [o8 f, o8 r.tab, o8 r.key, o8 (r.val / 256), o8 (r.val % 256), o8 r.text.size] ++ r.text.data.toList
theorem packL_len (f : Int) (r : RowD) : (packL f r).length = 6 + r.text.size := by
  simp [packL]; omega
theorem w8m {n : Int} (h : 0 ≤ n) : IntKind.u8.wrap n = n % 256 := by
  simp [IntKind.wrap, IntKind.signed, IntKind.bits]
theorem app_bw {h : H} {v u : V} {l m : List UInt8} {b c : Nat} (w : BysW h v l b) (w' : BysW h u m c) (hm : l.length + m.length ≤ lim) :
    appS 1 h v u = some (sv h.n 0 (l ++ m).length, (h.put b .dead).new 1 ((l ++ m).map cell8)) := by
  have h1 := cellsS_w w
  have h2 := cellsS_w w'
  obtain ⟨rfl, w2, w3⟩ := w
  have h3 : lenS u = some m.length := by rw [w'.v]; rfl
  simp only [appS, h1, h2, Option.bind_some, h3]
  rw [if_pos ⟨w2, hm, by omega⟩, w3]
  simp
section
variable {f : Int} {r : RowD} (h0 : 0 ≤ f) (h1 : f < 256) (hr : rowF r = 0)
include h0 h1 hr
theorem six : [S.int .u8 (IntKind.u8.wrap f), .int .u8 (IntKind.u8.wrap r.tab), .int .u8 (IntKind.u8.wrap r.key), .int .u8 (IntKind.u8.wrap (r.val / 256)), .int .u8 (IntKind.u8.wrap r.val), .int .u8 (IntKind.u8.wrap (r.text.size : Int))] = [o8 f, o8 r.tab, o8 r.key, o8 (r.val / 256), o8 (r.val % 256), o8 r.text.size].map cell8 := by
  obtain ⟨a, b, c, d, _⟩ := rowF_0 hr
  rw [w8 h0 h1, w8 (n := r.tab) (by omega) (by omega), w8 (n := r.key) (by omega) (by omega), w8 (n := r.val / 256) (by omega) (by omega), w8m (n := r.val) (by omega), w8 (n := (r.text.size : Int)) (by omega) (by omega)]
  rw [o8_c h0 h1, o8_c (x := r.tab) (by omega) (by omega), o8_c (x := r.key) (by omega) (by omega), o8_c (x := r.val / 256) (by omega) (by omega), o8_c (x := r.val % 256) (by omega) (by omega), o8_c (x := (r.text.size : Int)) (by omega) (by omega)]
  rfl
theorem f_l1Cell (n : Nat) : ∃ h', call Ev Fn.spec_l1Cell [iv .i64 f, fv r.cs 0] (D n) = some (sv (n + 2) 0 (packL f r).length, h') ∧ NewB n h' (sv (n + 2) 0 (packL f r).length) (packL f r) (some (n + 2)) := by
  obtain ⟨a, b, c, d, _⟩ := rowF_0 hr
  rw [eq_spec_l1Cell, bin_quo (by omega) (by omega) (by omega), ob]
  simp only [gV1_s, gI_i]
  rw [bin_rem (by omega) (by omega), ob]
  simp only [gV1_s, gI_i]
  have e : IntKind.u8.wrap (r.val % 256) = IntKind.u8.wrap r.val := by rw [w8m (by omega), w8m (by omega)]; omega
  rw [hchk_of ((HExt.refl _).new), e, six h0 h1 hr]
  generalize hl6 : [o8 f, o8 r.tab, o8 r.key, o8 (r.val / 256), o8 (r.val % 256), o8 r.text.size] = l6
  have n6 : l6.length = 6 := by rw [← hl6]; rfl
  have hp : packL f r = l6 ++ r.text.data.toList := by unfold packL; rw [hl6]
  have e2 : cvBytes ((D n).new 1 (l6.map cell8)) (.s (.str r.text)) = some (sv (n + 1) 0 r.text.size, ((D n).new 1 (l6.map cell8)).new 1 (r.text.data.toList.map cell8)) := by
    simp only [cvBytes]
    rw [if_pos (by unfold lim; omega)]
    rfl
  rw [e2, ob]
  dsimp only
  have wa : BysW (((D n).new 1 (l6.map cell8)).new 1 (r.text.data.toList.map cell8)) (sv n 0 6) l6 n := ⟨by rw [n6], by simp; omega, by rw [new_g' (by simp)]; exact new_g (D n) _ _⟩
  have wb : BysW (((D n).new 1 (l6.map cell8)).new 1 (r.text.data.toList.map cell8)) (sv (n + 1) 0 r.text.size) r.text.data.toList (n + 1) := ⟨by simp, by simp, new_g ((D n).new 1 (l6.map cell8)) _ _⟩
  rw [D_n, app_bw wa wb (by rw [n6]; unfold lim; simp; omega), ob, hp]
  have wo := app_own (h := ((D n).new 1 (l6.map cell8)).new 1 (r.text.data.toList.map cell8)) (b := n) (l := l6) (m := r.text.data.toList)
  refine ⟨_, rfl, wo, by simp; omega, fun b hb => by cases hb; omega, fun b h2 h3 s hs => ?_⟩
  have key : ∀ (x : List UInt8), s ∈ x.map cell8 → scaS s = true := fun x hx => by
    obtain ⟨c, _, rfl⟩ := List.mem_map.1 hx
    rfl
  simp only [new_n, put_n, D_n] at h3
  by_cases b2 : b = n + 2
  · subst b2
    have hs' := (congrArg (fun x => s ∈ Blk.cells x) wo.g).mp hs
    exact key _ hs'
  · rw [new_g' (by simp; omega)] at hs
    by_cases b0 : b = n
    · subst b0
      rw [put_g] at hs
      simp [Blk.cells] at hs
    · have b1 : b = n + 1 := by omega
      rw [put_g' b0, b1] at hs
      have hs' := (congrArg (fun x => s ∈ Blk.cells x) wb.g).mp hs
      exact key _ hs'
end
/-! read back -/
end Vm
/-
  What is drawn out of bytes: rows of several tables.
-/
namespace Vm
open Go
theorem Dr.trans {b : Nat} {l : List UInt8} {a N M K : Nat} {h h1 h2 : H} (w : Dr b l a N h h1) (w2 : ∀ a', Src b l a' h1 → a' ≤ a + N → Dr b l a' M h1 h2) (hk : N + M ≤ K := by omega) : Dr b l a K h h2 := by
  obtain ⟨a1, s1, l1⟩ := w.ex
  have d := w2 a1 s1 l1
  obtain ⟨a2, s2, l2⟩ := d.ex
  exact ⟨⟨a2, s2, by omega⟩, Nat.le_trans w.n d.n, fun c hc hcb => (d.o c (Nat.lt_of_lt_of_le hc w.n) hcb).trans (w.o c hc hcb)⟩
theorem Dr.weak {b : Nat} {l : List UInt8} {a N M : Nat} {h h1 : H} (w : Dr b l a N h h1) (hk : N ≤ M) : Dr b l a M h h1 := by
  obtain ⟨a1, s1, l1⟩ := w.ex
  exact ⟨⟨a1, s1, by omega⟩, w.n, w.o⟩
/-- is the key of a row told? -/
theorem p_l6At {ks : List RowD} {t k : Int} (hl : ks.length ≤ 1000) : ∃ j : Int, pureV (call Ev) Fn.spec_l6At [lv (rws ks), iv .i64 t, iv .i64 k] = some (iv .i64 j) := by
  have loop : ∀ (q : List RowD) (i : Nat), ks.drop i = q → (∃ j, Lp.spec_l6At 0 [lv (rws ks), iv .i64 t, iv .i64 k, iv .i64 i] (D 0) = some (.ret (iv .i64 j) (D 0))) ∨ Lp.spec_l6At 0 [lv (rws ks), iv .i64 t, iv .i64 k, iv .i64 i] (D 0) = some (.done [] (D 0)) := by
    intro q
    induction q with
    | nil =>
      intro i hi
      have := drop_nil hi
      right
      rw [eq_spec_l6At_l0, vcase_b, if_neg (by simp; omega), tidy_self]
    | cons r q ih =>
      intro i hi
      obtain ⟨g1, g2, g3⟩ := drop_cons hi
      rw [eq_spec_l6At_l0, vcase_b, if_pos (by simp; omega), idxF_rw g1]
      simp only [gx0, gx1, ob, gI_i, tidy_self]
      rw [vcase_b, idxF_rw g1]
      simp only [gx0, gx1, ob, gI_i, tidy_self]
      rw [vcase_b, w64 (by omega) (by omega), show (i : Int) + 1 = ((i + 1 : Nat) : Int) from by omega]
      have := ih (i + 1) g2
      by_cases h1 : (r.tab == t) = true
      · rw [if_pos h1]
        by_cases h2 : (r.key == k) = true
        · rw [if_pos h2]; exact .inl ⟨_, rfl⟩
        · rw [if_neg h2]; exact this
      · rw [if_neg h1]; exact this
  rw [pu_spec_l6At]
  have := loop ks 0 rfl
  rw [show ((0 : Nat) : Int) = 0 from rfl] at this
  rcases this with ⟨j, e⟩ | e
  · rw [e, ob, lcase_ret, frzV_iv]; exact ⟨j, rfl⟩
  · rw [e, ob, lcase_done]; exact ⟨_, rfl⟩
/-- rows, in a slice -/
def RwV (v : V) (ks : List RowD) : Prop := v = lv (rws ks) ∨ (ks = [] ∧ ∃ q, v = sv q 0 0)
theorem RwV.frz {h : H} {v : V} {ks : List RowD} (w : RwV v ks) : frzV h v = some (lv (rws ks)) := by
  rcases w with rfl | ⟨rfl, q, rfl⟩
  · exact frzV_lv
  · rw [frzV_s]; simp only [frzS, if_true]; rfl
theorem RwV.off {v : V} {ks : List RowD} (w : RwV v ks) : offV v = true := by
  rcases w with rfl | ⟨rfl, q, rfl⟩ <;> rfl
theorem RwV.len {v : V} {ks : List RowD} {t : Nat} (w : RwV v ks) : lenV (.sl t) v = some (iv .i64 (ks.length : Int)) := by
  rcases w with rfl | ⟨rfl, q, rfl⟩
  · simp [lenV]
  · rfl
theorem lp_DrawRows {b : Nat} {l : List UInt8} (hl : l.length ≤ 1048576) : ∀ (k : Nat) (a : Nat) (ks : List RowD) (v : V) (h : H), Src b l a h → a + 5 * k < 1099511627000 → RwV v ks → ks.length + k ≤ 100 → (∀ r ∈ ks, rowF r = 0) →
    ∃ v' ks' h', Lp.spec_l6DrawRows 0 [pv b 0, v, iv .i64 k] h = some (.done [v'] h') ∧ RwV v' ks' ∧ ks'.length ≤ ks.length + k ∧ (∀ r ∈ ks', rowF r = 0) ∧ Dr b l a (5 * k) h h' := by
  intro k
  induction k with
  | zero =>
    intro a ks v h w ha wv hk hr
    refine ⟨v, ks, h, ?_, wv, by omega, hr, (Dr.refl w).weak (by omega)⟩
    rw [eq_spec_l6DrawRows_l0, vcase_b, if_neg (by simp), tidy_self]
  | succ k ih =>
    intro a ks v h w ha wv hk hr
    have hb := w.n
    rw [eq_spec_l6DrawRows_l0, vcase_b, if_pos (by simp)]
    rw [w64 (n := ((k + 1 : Nat) : Int) - 1) (by omega) (by omega), show ((k + 1 : Nat) : Int) - 1 = (k : Int) from by omega]
    obtain ⟨r, h1, e1, hr0, d1⟩ := r_draw w hl (by omega)
    rw [e1, ob]
    simp only [gVA_a, gx0, gx1, ob, gI_i, gS_s, ln0, ln1, Nat.zero_add, Nat.reduceAdd, if_true]
    have d1' := d1.tidy hb [V.agg r.cs]
    change ∃ v' ks' h', stK 4 ((tidy h [V.agg r.cs] h1).new 0 [.int .i64 0, .int .i64 0, .int .i64 0, .str (⟨#[]⟩)]) (pv (tidy h [V.agg r.cs] h1).n 0) (.agg r.cs) _ = _ ∧ _
    generalize tidy h [V.agg r.cs] h1 = K at d1' ⊢
    rw [stK_X (z := 4) rfl rfl, load1_X (o := 0) (x := .int .i64 r.tab) rfl]
    simp only [ob, gI_i]
    rw [load1_X (o := 1) (x := .int .i64 r.key) rfl]
    simp only [ob, gI_i]
    rw [frzVs_cons wv.frz (frzVs_cons frzV_iv (frzVs_cons frzV_iv frzVs_nil)), ob, norm_nil]
    obtain ⟨j, ej⟩ := p_l6At (ks := ks) (t := r.tab) (k := r.key) (by omega)
    rw [pc ej rfl]
    simp only [gV1_s, gI_i]
    rw [vcase_b]
    have xk := putX_keep K [.int .i64 0, .int .i64 0, .int .i64 0, .str (⟨#[]⟩)] r.cs
    have d2 : Dr b l a 5 h (putX K [.int .i64 0, .int .i64 0, .int .i64 0, .str (⟨#[]⟩)] r.cs) := d1'.up ⟨xk.1, fun c hc => (xk.2 c hc).1⟩
    rw [loadN_X (n := 4) (o := 0) (r := r.cs) (by simp) rfl]
    simp only [gVA_a, gx0, gx1, ob, gI_i, gS_s, ln0, ln1, Nat.zero_add, Nat.reduceAdd, if_true]
    have ho : ([v, V.agg [S.int .i64 r.tab, .int .i64 r.key, .int .i64 r.val, .str r.text]].all offV) = true := by
      rw [List.all_cons, wv.off]; rfl
    rw [ho, cond_true, frzVs_cons wv.frz (frzVs_cons (show frzV _ (V.agg [S.int .i64 r.tab, .int .i64 r.key, .int .i64 r.val, .str r.text]) = some (V.agg [S.int .i64 r.tab, .int .i64 r.key, .int .i64 r.val, .str r.text]) from by simp) frzVs_nil), ob, norm_nil]
    have ep := p_l6Put (ks := ks) (r := r) (by unfold lim; omega)
    have ep' : pureV (call Ev) Fn.spec_l6Put [lv (rws ks), V.agg [S.int .i64 r.tab, .int .i64 r.key, .int .i64 r.val, .str r.text]] = _ := ep
    rw [ep', ob]
    simp only [gV1_s, gF_f]
    by_cases hj : j < 0
    · rw [if_pos (by simpa using hj)]
      have d3 := d2.tidy hb [pv b 0, lv (rws (insR r ks)), iv .i64 k]
      obtain ⟨a', s', la⟩ := d3.ex
      obtain ⟨v', ks', h', e4, w4, l4, r4, d4⟩ := ih a' (insR r ks) (lv (rws (insR r ks))) _ s' (by omega) (.inl rfl) (by rw [ins_len]; omega) (fun x hx => by
        unfold insR at hx
        rw [List.mem_append, List.mem_cons] at hx
        rcases hx with hx | rfl | hx
        · exact hr x ((List.takeWhile_sublist _).subset hx)
        · exact hr0
        · exact hr x ((List.dropWhile_sublist _).subset hx))
      refine ⟨v', ks', h', e4, w4, by rw [ins_len] at l4; omega, r4, ?_⟩
      obtain ⟨a2, s2, la2⟩ := d4.ex
      exact ⟨⟨a2, s2, by omega⟩, Nat.le_trans d3.n d4.n, fun c hc hcb => (d4.o c (Nat.lt_of_lt_of_le hc d3.n) hcb).trans (d3.o c hc hcb)⟩
    · rw [if_neg (by simpa using hj)]
      have d3 := d2.tidy hb [pv b 0, v, iv .i64 k]
      obtain ⟨a', s', la⟩ := d3.ex
      obtain ⟨v', ks', h', e4, w4, l4, r4, d4⟩ := ih a' ks v _ s' (by omega) wv (by omega) hr
      refine ⟨v', ks', h', e4, w4, by omega, r4, ?_⟩
      obtain ⟨a2, s2, la2⟩ := d4.ex
      exact ⟨⟨a2, s2, by omega⟩, Nat.le_trans d3.n d4.n, fun c hc hcb => (d4.o c (Nat.lt_of_lt_of_le hc d3.n) hcb).trans (d3.o c hc hcb)⟩
theorem r_DrawRows {b : Nat} {l : List UInt8} {a : Nat} {h : H} (w : Src b l a h) (hl : l.length ≤ 1048576) (ha : a + 100 < 1099511627000) :
    ∃ v ks h', call Ev Fn.spec_l6DrawRows [pv b 0] h = some (v, h') ∧ RwV v ks ∧ ks.length ≤ 6 ∧ (∀ r ∈ ks, rowF r = 0) ∧ Dr b l a 31 h h' := by
  have hb := w.n
  rw [eq_spec_l6DrawRows]
  have w0 : Src b l a (h.new 4 []) := w.up up_new
  obtain ⟨x1, h1, e1, a1, b1, w1, n1, o1, t1⟩ := r_next w0 hl (by omega) (n := 7) (by omega) (by omega)
  rw [e1]; simp only [ob, gV1_s, gI_i]; rw [t1]
  obtain ⟨k, rfl⟩ : ∃ k : Nat, x1 = k := ⟨x1.toNat, by omega⟩
  obtain ⟨v, ks, h', e2, w2, l2, r2, d2⟩ := lp_DrawRows hl k (a + 1) [] (sv h.n 0 0) h1 w1 (by omega) (.inr ⟨rfl, _, rfl⟩) (by simp; omega) (by simp)
  rw [e2, ob, lcase_done]
  simp only [gx0, ob]
  refine ⟨v, ks, h', rfl, w2, by simp at l2; omega, r2, ?_⟩
  obtain ⟨a2, s2, la2⟩ := d2.ex
  have hn : h.n ≤ h1.n := by rw [n1, new_n]; omega
  exact ⟨⟨a2, s2, by omega⟩, Nat.le_trans hn d2.n, fun c hc hcb => by rw [d2.o c (by omega) hcb, o1 c hcb, new_g' (by omega)]⟩
end Vm
/-
  What is drawn out of bytes: two pages with rows of several tables.
-/
namespace Vm
open Go
theorem put_v' {h : H} {x : Blk} {b c : Nat} (hb : c ≠ b) : (h.put b x).v c = h.v c := by simp [H.put, hb]
theorem HExt.over {h h1 : H} (hle : h.n ≤ h1.n) : HExt h (h.over h1) := ⟨by rw [over_n hle]; exact hle, fun c hc => .inr (over_lt hc)⟩
theorem HExt.kill {A B : H} {b : Nat} (hn : A.n ≤ B.n) (ho : ∀ c, c < A.n → c ≠ b → B.g c = A.g c ∧ B.v c = A.v c) : HExt (A.put b .dead) B := ⟨hn, fun c hc => by
  by_cases hcb : c = b
  · subst hcb; exact .inl (put_g _ _ _)
  · right
    rw [put_g' hcb, put_v' hcb]
    exact ho c hc hcb⟩
section
variable {f : Int} {r : RowD} (h0 : 0 ≤ f) (h1 : f < 256) (hr : rowF r = 0)
include h0 h1 hr
theorem p_l1Cell6 : pureV (call Ev) Fn.spec_l1Cell [iv .i64 f, fv r.cs 0] = some (lv (bys (packL f r))) := by
  obtain ⟨h', e, w⟩ := f_l1Cell h0 h1 hr 0
  unfold pureV
  rw [e, ob]
  exact frz1 w.own
omit h0 h1 in
theorem packL_in : inB (packL f r).length 1 20 = true := by
  have := rowF_0 hr
  rw [packL_len]
  exact inB_iff.2 (by omega)
end
theorem p_l1Stub6 {a c : Int} : ∃ m : List UInt8, m.length = 3 ∧ pureV (call Ev) Fn.spec_l1Stub [iv .i64 a, iv .i64 c] = some (lv (bys m)) := by
  have u8 : ∀ x : Int, S.int .u8 (IntKind.u8.wrap x) = cell8 (o8 (IntKind.u8.wrap x)) := fun x => by
    have : IntKind.u8.wrap x = x % 256 := by simp [IntKind.wrap, IntKind.signed, IntKind.bits]
    refine o8_c ?_ ?_ <;> rw [this] <;> omega
  refine ⟨[1, o8 (IntKind.u8.wrap a), o8 (IntKind.u8.wrap c)], rfl, ?_⟩
  rw [pu_spec_l1Stub, u8 a, u8 c]; rfl
/-- something is put into a page -/
theorem r_put6 {h : H} {q : Nat} {p m : List UInt8} {vm : V} (wp : BysW h (sv q 0 64) p q) (hp : pagF p = 0) (hm : inB m.length 1 20 = true) (hf : frzV h vm = some (lv (bys m))) :
    ∃ (y : S) (h1 : H) (i c : Int), (∀ (R : Type) (off : Bool) (k : V → H → Option R), ((frzVs h [sv q 0 64, vm]).bind fun l => pcallF (call Ev) Fn.spec_l2Put off (normVs [] l) h k) = k (.tup [.s y, .s (.int .i64 i), .s (.int .i64 c)]) h1) ∧ Up h h1 ∧ HExt h h1 ∧ scaS y = true ∧ (c = 0 → ∃ d p2, y = .sl (some (d, 0)) 64 ∧ BysW h1 (sv d 0 64) p2 d ∧ h.n ≤ d ∧ pagF p2 = 0) := by
  obtain ⟨y, h5, o5, e5, w5⟩ := f_l2Put (m := m) hp hm h.n
  have u5 : Up h (h.over h5) := up_over w5.le
  refine ⟨y, h.over h5, (pu0 p m).2.1, (pu0 p m).1, fun R off k => ?_, u5, HExt.over w5.le, by simpa using w5.own.sca, fun hz => ?_⟩
  · rw [frzVs_cons (frz1 (ob := some q) wp) (frzVs_cons hf frzVs_nil), ob, norm_nil]
    exact pF (h := h) e5 ⟨by simp [w5.own.sca], w5.z⟩
  · obtain ⟨s1, _⟩ := put_ok hp hm hz
    have s64 := (pagF_ok s1).1
    obtain ⟨c, w6⟩ := w5.some_of (fun hn => by rw [hn] at s64; simp at s64)
    obtain ⟨_, w6', hc6⟩ := w6.over
    have hv := w6'.v
    rw [s64] at hv
    injection hv with hv
    subst hv
    exact ⟨c, _, rfl, w6', hc6, s1⟩
/-- two pages of one's own -/
structure Two (n0 P : Nat) (qs : List Nat) (ps : List (List UInt8)) (h : H) : Prop where
  n : P < h.n
  lq : qs.length = 2
  lp : ps.length = 2
  g : h.g P = .rw 1 (qs.map fun q => .sl (some (q, 0)) 64)
  w : ∀ (j q : Nat) (p : List UInt8), qs[j]? = some q → ps[j]? = some p → BysW h (sv q 0 64) p q ∧ pagF p = 0
  l : n0 ≤ P ∧ ∀ q ∈ qs, n0 ≤ q ∧ q ≠ P
theorem Two.mem {n0 P : Nat} {qs : List Nat} {ps : List (List UInt8)} {h : H} (w : Two n0 P qs ps h) {q : Nat} (hq : q ∈ qs) : q < h.n := by
  obtain ⟨j, hj, rfl⟩ := List.getElem_of_mem hq
  have h2 := w.lq
  have h3 := w.lp
  exact (w.w j qs[j] (ps[j]'(by omega)) (List.getElem?_eq_getElem hj) (List.getElem?_eq_getElem (by omega))).1.n
theorem Two.fr {n0 P : Nat} {qs : List Nat} {ps : List (List UInt8)} {h h' : H} (w : Two n0 P qs ps h) (hn : h.n ≤ h'.n) (hg : ∀ c, n0 ≤ c → c < h.n → h'.g c = h.g c) : Two n0 P qs ps h' :=
  ⟨by have := w.n; omega, w.lq, w.lp, (hg P w.l.1 w.n).trans w.g, fun j q p h1 h2 => ⟨(w.w j q p h1 h2).1.fr hn (hg q (w.l.2 q (List.mem_of_getElem? h1)).1 (w.mem (List.mem_of_getElem? h1))), (w.w j q p h1 h2).2⟩, w.l⟩
theorem Two.up {n0 P : Nat} {qs : List Nat} {ps : List (List UInt8)} {h h' : H} (w : Two n0 P qs ps h) (u : Up h h') : Two n0 P qs ps h' := w.fr u.n fun c _ hc => u.g c hc
theorem Two.dr {n0 P b a N : Nat} {l : List UInt8} {qs : List Nat} {ps : List (List UInt8)} {h h' : H} (w : Two n0 P qs ps h) (d : Dr b l a N h h') (hb : b < n0) : Two n0 P qs ps h' := w.fr d.n fun c h1 hc => d.o c hc (by omega)
theorem Two.ld {n0 P : Nat} {qs : List Nat} {ps : List (List UInt8)} {h : H} (w : Two n0 P qs ps h) {j : Nat} (hj : j < 2) :
    ∃ q p, qs[j]? = some q ∧ ps[j]? = some p ∧ BysW h (sv q 0 64) p q ∧ pagF p = 0 ∧ ∀ {K : H} {R : Type} {w0 : Nat} {zz : List S} {dd : TD} {bb : Bool} {kd : IntKind} {f : V → Option R}, P < K.n → K.g P = h.g P → (idxK 1 (sv P 0 2) (iv kd (j : Int)) fun v => ldK (.one .f) ⟨1, w0, zz, false, dd, bb⟩ K v f) = f (sv q 0 64) := by
  have h2 := w.lq
  have h3 := w.lp
  obtain ⟨q, hq⟩ : ∃ q, qs[j]? = some q := ⟨qs[j]'(by omega), List.getElem?_eq_getElem (by omega)⟩
  obtain ⟨p, hp⟩ : ∃ p, ps[j]? = some p := ⟨ps[j]'(by omega), List.getElem?_eq_getElem (by omega)⟩
  obtain ⟨w1, w2⟩ := w.w j q p hq hp
  refine ⟨q, p, hq, hp, w1, w2, ?_⟩
  intro K R w0 zz dd bb kd f hn hg
  rw [idxK_sv hj]
  show ldT _ K (pv P (j * 1)) f = _
  unfold ldT
  have : load1 K (pv P (j * 1)) = some (.sl (some (q, 0)) 64) := by
    simp [load1, H.cells, hn, hg, w.g, Blk.cells, hq]
  simp only [cond_false]
  rw [this, ob]
theorem Two.st {n0 P : Nat} {qs : List Nat} {ps : List (List UInt8)} {K : H} (w : Two n0 P qs ps K) {j d : Nat} {p2 : List UInt8} (hj : j < 2) (wd : BysW K (sv d 0 64) p2 d) (hp : pagF p2 = 0) (hd : n0 ≤ d) (hdP : d ≠ P) :
    ∃ K', (∀ (R : Type) (f : H → Option R), (idxK 1 (sv P 0 2) (iv .i64 (j : Int)) fun v => stK 1 K v (.s (.sl (some (d, 0)) 64)) f) = f K') ∧ Two n0 P (qs.set j d) (ps.set j p2) K' ∧ K'.n = K.n ∧ ∀ c, c ≠ P → K'.g c = K.g c := by
  have h2 := w.lq
  have h3 := w.lp
  have eg : setAt (qs.map fun q => S.sl (some (q, 0)) 64) (j * 1) [.sl (some (d, 0)) 64] = (qs.set j d).map fun q => .sl (some (q, 0)) 64 := by
    match qs, h2 with
    | [q0, q1], _ =>
      match j, hj with
      | 0, _ => rfl
      | 1, _ => rfl
  refine ⟨K.put P (.rw 1 ((qs.set j d).map fun q => .sl (some (q, 0)) 64)), fun R f => ?_, ⟨by rw [put_n]; exact w.n, by simpa using h2, by simpa using h3, put_g _ _ _, fun i q p h4 h5 => ?_, w.l.1, fun q hq => ?_⟩, put_n _ _ _, fun c hc => put_g' hc⟩
  · rw [idxK_sv hj, stK_rw (z := 1) (e := 1) (o := j * 1) (b := P) (cs := qs.map fun q => .sl (some (q, 0)) 64) (r := [.sl (some (d, 0)) 64]) w.n w.g (.inl ⟨_, rfl, rfl, rfl⟩) rfl (by simp; omega), eg]
  · have key : BysW K (sv q 0 64) p q ∧ pagF p = 0 := by
      by_cases hij : i = j
      · subst hij
        rw [List.getElem?_set_self (by omega)] at h4 h5
        injection h4 with h4; injection h5 with h5
        subst h4; subst h5
        exact ⟨wd, hp⟩
      · rw [List.getElem?_set_ne (fun e => hij e.symm)] at h4 h5
        exact w.w i q p h4 h5
    have hqP : q ≠ P := by
      rcases List.mem_or_eq_of_mem_set (List.mem_of_getElem? h4) with h6 | h6
      · exact (w.l.2 q h6).2
      · omega
    exact ⟨key.1.fr (by rw [put_n]; exact Nat.le_refl _) (put_g' hqP), key.2⟩
  · rcases List.mem_or_eq_of_mem_set hq with h6 | h6
    · exact w.l.2 q h6
    · omega
/-- behind a store no block is let go -/
theorem Two.tidy {n0 P : Nat} {qs : List Nat} {ps : List (List UInt8)} {h h' : H} (w : Two n0 P qs ps h) {qs' : List Nat} {ps' : List (List UInt8)} (w' : Two n0 P qs' ps' h') {d : Nat} (hd : d ∈ qs') (hdn : h.n ≤ d) (vs : List V) : Vm.tidy h vs h' = h' :=
  no_tidy (b := P) w.n w'.g (by
    rw [Bool.eq_false_iff]
    intro hh
    have := List.all_eq_true.1 hh (.sl (some (d, 0)) 64) (List.mem_map.2 ⟨d, hd, rfl⟩)
    simp [belS] at this; omega) (by
    rw [w.g]
    simp only [Blk.cells]
    rw [List.all_eq_true]
    intro s hs
    obtain ⟨q, hq, rfl⟩ := List.mem_map.1 hs
    simp [belS, w.mem hq])
theorem Two.frz {n0 P : Nat} {qs : List Nat} {ps : List (List UInt8)} {h : H} (w : Two n0 P qs ps h) : frzS h 8 (.sl (some (P, 0)) 2) = some (.fs (bss ps)) := by
  have h2 := w.lq
  have h3 := w.lp
  have hg := w.g
  have hn := w.n
  match qs, h2, ps, h3, w.w with
  | [q0, q1], _, [p0, p1], _, ww =>
    have w0 := (ww 0 q0 p0 rfl rfl)
    have w1 := (ww 1 q1 p1 rfl rfl)
    have f0 := (w0.1.frz (d := 6)).2
    have f1 := (w1.1.frz (d := 6)).2
    rw [(pagF_ok w0.2).1] at f0
    rw [(pagF_ok w1.2).1] at f1
    rw [frzS]
    rw [if_neg (by omega), if_pos hn, hg]
    simp only [List.map_cons, List.map_nil, List.length_cons, List.length_nil, List.drop_zero]
    rw [if_pos (by omega)]
    rw [show List.take (2 * 1) [S.sl (some (q0, 0)) 64, .sl (some (q1, 0)) 64] = [S.sl (some (q0, 0)) 64, .sl (some (q1, 0)) 64] from rfl]
    simp only [mapO, f0, f1, Option.bind_some]
    rfl
end Vm
/-
  Rows of runs, new.
-/
namespace Vm
open Go
end Vm
/-
  Edits: pages with their numbers, of the form of runs.
-/
namespace Vm
open Go
end Vm
/-
  A row of one's own slice turned into another one.
-/
namespace Vm
open Go
end Vm
/-
  Pages with edits done to them: what both ways come to.
-/
namespace Vm
open Go
theorem cellsK_s {R : Type} {y : S} (hy : isNo y = false) {k : List S → Option R} : cellsK (.s y) k = k [y] := by
  simp only [cellsK, hy, cond_false]
/-! pages copied -/
section
variable {all : List (List UInt8)} (hl : all.length ≤ lim) (hr : ∀ l ∈ all, l.length ≤ lim)
include hl hr
end
end Vm
/-
  What is drawn out of bytes: pages with rows of several tables, with a fault or without.
-/
namespace Vm
open Go
theorem lp_Pages {b : Nat} {l : List UInt8} (hl : l.length ≤ 1048576) {n0 P : Nat} (hb0 : b < n0) {v : V} {ks : List RowD} (wv : RwV v ks) (hks : ks.length ≤ 100) (hr : ∀ r ∈ ks, rowF r = 0) : ∀ (rs : List RowD) (i a : Nat) (qs : List Nat) (ps : List (List UInt8)) (h : H), ks.drop i = rs → Src b l a h → a + 3 * rs.length < 1099511627000 → n0 ≤ h.n → Two n0 P qs ps h →
    ∃ qs' ps' h', Lp.spec_l6Pages 0 [pv b 0, sv P 0 2, v, iv .i64 i] h = some (.done [sv P 0 2] h') ∧ Two n0 P qs' ps' h' ∧ (∃ a', Src b l a' h' ∧ a' ≤ a + 3 * rs.length) ∧ h.n ≤ h'.n ∧ ∀ c, c < n0 → c ≠ b → h'.g c = h.g c := by
  intro rs
  induction rs with
  | nil =>
    intro i a qs ps h hi w ha hn wt
    have := drop_nil hi
    refine ⟨qs, ps, h, ?_, wt, ⟨a, w, by omega⟩, Nat.le_refl _, fun _ _ _ => rfl⟩
    rw [eq_spec_l6Pages_l0, wv.len, ob]
    simp only [gV1_s, gI_i]
    rw [vcase_b, if_neg (by simp; omega), tidy_self]
  | cons r rs ih =>
    intro i a qs ps h hi w ha hn wt
    obtain ⟨g1, g2, g3⟩ := drop_cons hi
    have hr0 : rowF r = 0 := hr r (List.mem_of_getElem? g1)
    have hv : v = lv (rws ks) := by
      rcases wv with h1 | ⟨h1, _⟩
      · exact h1
      · rw [h1] at g3; simp at g3
    have hb := w.n
    rw [eq_spec_l6Pages_l0, wv.len, ob]
    simp only [gV1_s, gI_i]
    rw [vcase_b, if_pos (by simp; omega)]
    rw [w64 (n := (i : Int) + 1) (by omega) (by omega), show (i : Int) + 1 = ((i + 1 : Nat) : Int) from by omega]
    rw [List.length_cons] at ha
    -- how it goes on with the pages as they were
    have old : ∀ {N : Nat} {X : H} (vs : List V), Dr b l a N h X → N ≤ 3 → ∃ qs' ps' h', Lp.spec_l6Pages 0 [pv b 0, sv P 0 2, v, iv .i64 ((i + 1 : Nat) : Int)] (Vm.tidy h vs X) = some (.done [sv P 0 2] h') ∧ Two n0 P qs' ps' h' ∧ (∃ a', Src b l a' h' ∧ a' ≤ a + 3 * (r :: rs).length) ∧ h.n ≤ h'.n ∧ ∀ c, c < n0 → c ≠ b → h'.g c = h.g c := fun {N X} vs d hN => by
      have d' := d.tidy hb vs
      obtain ⟨a', w1, w2⟩ := d'.ex
      obtain ⟨qs', ps', h', e, x1, ⟨a2, x2, x3⟩, x4, x5⟩ := ih (i + 1) a' qs ps _ g2 w1 (by omega) (Nat.le_trans hn d'.n) (wt.dr d' hb0)
      exact ⟨qs', ps', h', e, x1, ⟨a2, x2, by rw [List.length_cons]; omega⟩, Nat.le_trans d'.n x4, fun c hc hcb => (x5 c hc hcb).trans (d'.o c (by omega) hcb)⟩
    -- .. and with other pages
    have new : ∀ {N : Nat} {X : H} {qs2 : List Nat} {ps2 : List (List UInt8)} {d : Nat} (vs : List V), Two n0 P qs2 ps2 X → d ∈ qs2 → h.n ≤ d → (∃ a', Src b l a' X ∧ a' ≤ a + N) → h.n ≤ X.n → (∀ c, c < n0 → c ≠ b → X.g c = h.g c) → N ≤ 3 → ∃ qs' ps' h', Lp.spec_l6Pages 0 [pv b 0, sv P 0 2, v, iv .i64 ((i + 1 : Nat) : Int)] (Vm.tidy h vs X) = some (.done [sv P 0 2] h') ∧ Two n0 P qs' ps' h' ∧ (∃ a', Src b l a' h' ∧ a' ≤ a + 3 * (r :: rs).length) ∧ h.n ≤ h'.n ∧ ∀ c, c < n0 → c ≠ b → h'.g c = h.g c := fun {N X qs2 ps2 d} vs w2 hd hdn hs hXn hXg hN => by
      rw [wt.tidy w2 hd hdn vs]
      obtain ⟨a', w1, l1⟩ := hs
      obtain ⟨qs', ps', h', e, x1, ⟨a2, x2, x3⟩, x4, x5⟩ := ih (i + 1) a' qs2 ps2 X g2 w1 (by omega) (Nat.le_trans hn hXn) w2
      exact ⟨qs', ps', h', e, x1, ⟨a2, x2, by rw [List.length_cons]; omega⟩, Nat.le_trans hXn x4, fun c hc hcb => (x5 c hc hcb).trans (hXg c hc hcb)⟩
    obtain ⟨q1, h1, e1, w1, n1, o1, t1⟩ := r_chance w hl (by omega) (n := 3) (by omega) (by omega)
    rw [e1]; simp only [ob, gV1_s, gB_b]; rw [t1]
    have d1 : Dr b l a 1 h h1 := ⟨⟨_, w1, by omega⟩, by omega, fun c hc hcb => o1 c hcb⟩
    have wt1 := wt.dr d1 hb0
    have hb1 := w1.n
    rw [vcase_b]
    have gr : ∀ {R : Type} {f : V → Option R}, idxK 4 v (iv .i64 (i : Int)) f = f (fv r.cs 0) := fun {R f} => by rw [hv, idxK_fs, idxF_rw g1]
    cases q1 with
    | true =>
      rw [if_pos rfl]
      obtain ⟨qa, pa, ia, ja, wa, fa, la⟩ := wt1.ld (j := 1) (by omega)
      rw [show iv .i64 1 = iv .i64 ((1 : Nat) : Int) from rfl, la wt1.n rfl, gr]
      rw [show ([iv .i64 2, fv r.cs 0].all offV) = true from rfl, cond_true, frzVs_cons frzV_iv (frzVs_cons (w := fv r.cs 0) (by simp) frzVs_nil), ob]
      rw [show normVs [0, 4] [iv .i64 2, fv r.cs 0] = [iv .i64 2, fv r.cs 0] from rfl, p_l1Cell6 (f := 2) (by omega) (by omega) hr0, ob]
      simp only [gV1_s, gF_f, hchk_self]
      obtain ⟨y, h2, i2, c2, e2, u2, x2, sy, k2⟩ := r_put6 wa fa (packL_in (f := 2) hr0) (frzV_lv (h := h1))
      rw [e2]
      simp only [gVT_t, gx0, gx1, ob, gA1_s, gI_i, ln0, ln1, Nat.zero_add, Nat.reduceAdd, if_true]
      rw [hchk_of x2, vcase_b]
      have d2 : Dr b l a 1 h h2 := d1.up u2
      have wt2 := wt1.up u2
      by_cases hc2 : c2 = 0
      case neg => rw [if_neg (by simpa using hc2)]; exact old _ d2 (by omega)
      rw [if_pos (by simpa using hc2)]
      obtain ⟨d, p2, rfl, wd, hdn, fd⟩ := k2 hc2
      obtain ⟨qb, pb, ib, jb, wb, fb, lb⟩ := wt2.ld (j := 0) (by omega)
      rw [show iv .i64 0 = iv .i64 ((0 : Nat) : Int) from rfl, lb wt2.n rfl]
      obtain ⟨m, hm, em⟩ := p_l1Stub6 (a := 1) (c := i2)
      rw [show iv .i64 ((1 : Nat) : Int) = iv .i64 1 from rfl, em, ob]
      simp only [gV1_s, gF_f, hchk_self]
      obtain ⟨y3, h3, i3, c3, e3, u3, x3, sy3, k3⟩ := r_put6 wb fb (m := m) (by rw [hm]; rfl) (frzV_lv (h := h2))
      rw [e3]
      simp only [gVT_t, gx0, gx1, ob, gA1_s, gI_i, ln0, ln1, Nat.zero_add, Nat.reduceAdd, if_true]
      rw [hchk_of x3, vcase_b]
      have d3 : Dr b l a 1 h h3 := d2.up u3
      have wt3 := wt2.up u3
      by_cases hc3 : c3 = 0
      case neg => rw [if_neg (by simpa using hc3)]; exact old _ d3 (by omega)
      rw [if_pos (by simpa using hc3)]
      obtain ⟨d', p3, rfl, wd', hdn', fd'⟩ := k3 hc3
      have hP1 := wt1.n
      have hP2 := wt2.n
      have un2 := u2.n
      have un3 := u3.n
      obtain ⟨K1, s1, t1', kn1, kg1⟩ := wt3.st (j := 1) (d := d) (p2 := p2) (by omega) (wd.fr un3 (u3.g d wd.n)) fd (by omega) (by omega)
      rw [show iv .i64 1 = iv .i64 ((1 : Nat) : Int) from rfl, s1]
      obtain ⟨K2, s2, t2', kn2, kg2⟩ := t1'.st (j := 0) (d := d') (p2 := p3) (by omega) (wd'.fr (by omega) (kg1 d' (by omega))) fd' (by omega) (by omega)
      rw [s2]
      obtain ⟨a3, sr3, la3⟩ := d3.ex
      have hPl := t1'.l.1
      refine new _ t2' (d := d') ?_ (by have := d2.n; omega) ⟨a3, ⟨by have := sr3.n; omega, by rw [kg2 b (by omega), kg1 b (by omega)]; exact sr3.g⟩, la3⟩ (by have := d3.n; omega) (fun c hc hcb => by rw [kg2 c (by omega), kg1 c (by omega)]; exact d3.o c (by omega) hcb) (by omega)
      have lq := wt3.lq
      rw [List.mem_iff_getElem]
      exact ⟨0, by simp; omega, by simp⟩
    | false =>
      rw [if_neg (by simp)]
      obtain ⟨x4, h4, e4, r4, b4, w4, n4, o4, t4⟩ := r_next w1 hl (by omega) (n := 2) (by omega) (by omega)
      rw [e4]; simp only [ob, gV1_s, gI_i]; rw [t4]
      obtain ⟨j, rfl⟩ : ∃ j : Nat, x4 = j := ⟨x4.toNat, by omega⟩
      have d4 : Dr b l a 2 h h4 := ⟨⟨_, w4, by omega⟩, by omega, fun c hc hcb => by rw [o4 c hcb, o1 c hcb]⟩
      have wt4 := wt.dr d4 hb0
      obtain ⟨qa, pa, ia, ja, wa, fa, la⟩ := wt4.ld (j := j) (by omega)
      rw [la wt4.n rfl, gr]
      rw [show ([iv .i64 0, fv r.cs 0].all offV) = true from rfl, cond_true, frzVs_cons frzV_iv (frzVs_cons (w := fv r.cs 0) (by simp) frzVs_nil), ob]
      rw [show normVs [0, 4] [iv .i64 0, fv r.cs 0] = [iv .i64 0, fv r.cs 0] from rfl, p_l1Cell6 (f := 0) (by omega) (by omega) hr0, ob]
      simp only [gV1_s, gF_f, hchk_self]
      obtain ⟨y, h2, i2, c2, e2, u2, x2, sy, k2⟩ := r_put6 wa fa (packL_in (f := 0) hr0) (frzV_lv (h := h4))
      rw [e2]
      simp only [gVT_t, gx0, gx1, ob, gA1_s, gI_i, ln0, ln1, Nat.zero_add, Nat.reduceAdd, if_true]
      rw [hchk_of x2, vcase_b]
      have d2 : Dr b l a 2 h h2 := d4.up u2
      have wt2 := wt4.up u2
      by_cases hc2 : c2 = 0
      case neg => rw [if_neg (by simpa using hc2)]; exact old _ d2 (by omega)
      rw [if_pos (by simpa using hc2)]
      obtain ⟨d, p2, rfl, wd, hdn, fd⟩ := k2 hc2
      have hP1 := wt4.n
      obtain ⟨K1, s1, t1', kn1, kg1⟩ := wt2.st (j := j) (d := d) (p2 := p2) (by omega) wd fd (by omega) (by omega)
      rw [s1]
      obtain ⟨a3, sr3, la3⟩ := d2.ex
      have hPl := t1'.l.1
      refine new _ t1' (d := d) ?_ (by have := d4.n; omega) ⟨a3, ⟨by have := sr3.n; omega, by rw [kg1 b (by omega)]; exact sr3.g⟩, la3⟩ (by have := d2.n; omega) (fun c hc hcb => by rw [kg1 c (by omega)]; exact d2.o c (by omega) hcb) (by omega)
      have lq := wt2.lq
      rw [List.mem_iff_getElem]
      exact ⟨j, by simp; omega, by simp⟩
theorem r_Pages {b : Nat} {l : List UInt8} {a : Nat} {h : H} (w : Src b l a h) (hl : l.length ≤ 1048576) (ha : a + 100 < 1099511627000) :
    ∃ P qs ps h', call Ev Fn.spec_l6Pages [pv b 0] h = some (sv P 0 2, h') ∧ Two h.n P qs ps h' ∧ Dr b l a 60 h h' := by
  have hb := w.n
  rw [eq_spec_l6Pages]
  obtain ⟨h1, e1, w1⟩ := f_l2New (c := 0) (by omega) (by omega) h.n
  rw [pF (h := h) e1 ⟨rfl, w1.z⟩]
  obtain ⟨u1, wp1, hq1⟩ := w1.over
  generalize h.over h1 = A at u1 wp1 ⊢
  obtain ⟨h2, e2, w2⟩ := f_l2New (c := 0) (by omega) (by omega) A.n
  rw [pF (h := A) e2 ⟨rfl, w2.z⟩]
  obtain ⟨u2, wp2, hq2⟩ := w2.over
  generalize A.over h2 = B at u2 wp2 ⊢
  have hA := wp1.n
  have hB := wp2.n
  have un1 := u1.n
  have un2 := u2.n
  rw [cellsK_s rfl, if_pos (by simp), cellsK_s rfl, if_pos (by simp [setAt])]
  rw [show setAt (setAt [S.sl none 0, .sl none 0] 0 [.sl (some (h.n, 0)) 64]) 1 [.sl (some (A.n, 0)) 64] = [h.n, A.n].map fun q => .sl (some (q, 0)) 64 from rfl]
  have uC : Up B (B.new 1 ([h.n, A.n].map fun q => .sl (some (q, 0)) 64)) := up_new
  have gC : (B.new 1 ([h.n, A.n].map fun q => .sl (some (q, 0)) 64)).g B.n = .rw 1 ([h.n, A.n].map fun q => .sl (some (q, 0)) 64) := new_g _ _ _
  have nC : (B.new 1 ([h.n, A.n].map fun q => S.sl (some (q, 0)) 64)).n = B.n + 1 := new_n _ _ _
  generalize B.new 1 ([h.n, A.n].map fun q => S.sl (some (q, 0)) 64) = C at uC gC nC ⊢
  have wt : Two h.n B.n [h.n, A.n] [newL 0, newL 0] C := ⟨by omega, rfl, rfl, gC, fun j q p h4 h5 => by
    match j, h4, h5 with
    | 0, h4, h5 =>
      injection h4 with h4; injection h5 with h5
      subst h4; subst h5
      exact ⟨wp1.fr (by omega) (by rw [uC.g _ (by omega), u2.g _ (by omega)]), newL_ok _⟩
    | 1, h4, h5 =>
      injection h4 with h4; injection h5 with h5
      subst h4; subst h5
      exact ⟨wp2.fr (by omega) (uC.g _ (by omega)), newL_ok _⟩
    | j + 2, h4, _ => simp at h4, ⟨by omega, fun q hq => by
    simp only [List.mem_cons, List.mem_nil_iff, or_false] at hq
    omega⟩⟩
  have sC : Src b l a C := ((w.up u1).up u2).up uC
  obtain ⟨v, ks, h3, e3, wv, lk, rk, d3⟩ := r_DrawRows sC hl (by omega)
  rw [e3, ob]
  dsimp only
  have d3' := d3.tidy (by omega) [v]
  generalize Vm.tidy C [v] h3 = K at d3' ⊢
  obtain ⟨a3, s3, la3⟩ := d3'.ex
  obtain ⟨qs', ps', h', e4, w4, ⟨a4, s4, la4⟩, n4, o4⟩ := lp_Pages hl (n0 := h.n) (P := B.n) hb wv (by omega) rk ks 0 a3 [h.n, A.n] [newL 0, newL 0] K rfl s3 (by omega) (by have := d3'.n; omega) (wt.dr d3' hb)
  rw [show iv .i64 0 = iv .i64 ((0 : Nat) : Int) from rfl, e4, ob, lcase_done]
  simp only [gx0, ob]
  refine ⟨B.n, qs', ps', h', rfl, w4, ⟨a4, s4, by omega⟩, by have := d3'.n; omega, fun c hc hcb => ?_⟩
  rw [o4 c hc hcb, d3'.o c (by omega) hcb, uC.g c (by omega), u2.g c (by omega), u1.g c hc]
end Vm
/-
  What is drawn out of bytes: pages with rows of several tables, that may have a fault.
-/
namespace Vm
open Go
/-- pages in a block of their own -/
structure Drn (n0 : Nat) (yv : S) (ps : List (List UInt8)) (h : H) : Prop where
  y : ∃ P k, yv = .sl (some (P, 0)) k ∧ n0 ≤ P
  l : ps.length = 2 ∨ ps.length = 13
  s : ∀ l ∈ ps, l.length ≤ 64
  f : ∀ h'', h.n ≤ h''.n → (∀ c, n0 ≤ c → c < h.n → h''.g c = h.g c) → frzS h'' 8 yv = some (.fs (bss ps))
theorem Two.drn {n0 P : Nat} {qs : List Nat} {ps : List (List UInt8)} {h : H} (w : Two n0 P qs ps h) : Drn n0 (.sl (some (P, 0)) 2) ps h :=
  ⟨⟨P, 2, rfl, w.l.1⟩, .inl w.lp, fun l hl => by
    obtain ⟨j, hj, rfl⟩ := List.getElem_of_mem hl
    have h2 := w.lq
    have h3 := w.lp
    have := (w.w j (qs[j]'(by omega)) ps[j] (List.getElem?_eq_getElem (by omega)) (List.getElem?_eq_getElem hj)).2
    rw [(pagF_ok this).1]; exact Nat.le_refl _, fun h'' hn hg => (w.fr hn hg).frz⟩
theorem r_bent6 {b : Nat} {l : List UInt8} {a : Nat} {h : H} (w : Src b l a h) (hl : l.length ≤ 1048576) (ha : a + 1200 < 1099511627000) :
    ∃ y ps h', call Ev Fn.spec_l6Bent [pv b 0] h = some (.s y, h') ∧ Drn h.n y ps h' ∧ Dr b l a 900 h h' := by
  have hb := w.n
  rw [eq_spec_l6Bent]
  obtain ⟨P, qs, ps, h1, e1, wt, d1⟩ := r_Pages w hl (by omega)
  rw [e1, ob]
  dsimp only
  have hPn := wt.l.1
  rw [no_tidy_v (h := h) (h' := h1) (l := [sv P 0 2]) (by simp [belV, belS]; omega)]
  obtain ⟨a1, s1, l1⟩ := d1.ex
  have hd1 := d1.n
  obtain ⟨x2, h2, e2, r2, b2, w2, n2, o2, t2, _⟩ := r_nextE s1 hl (by omega) (n := 14) (by omega) (by omega)
  rw [e2]; simp only [ob, gV1_s, gI_i]; rw [t2]
  have d2 : Dr b l a 61 h h2 := ⟨⟨_, w2, by omega⟩, by omega, fun c hc hcb => by rw [o2 c hcb, d1.o c hc hcb]⟩
  have wt2 : Two h.n P qs ps h2 := wt.fr (by omega) fun c h1 _ => o2 c (by omega)
  have hb2 := w2.n
  have hP2 := wt2.n
  rw [vcase_b]
  by_cases c0 : x2 = 0
  · rw [if_pos (by simp [c0])]
    obtain ⟨y, q, p, h3, e3, pl, sy, q3, qn3, t3, d3, fy⟩ := r_bent2 w2 hl (by omega)
    rw [e3, ob]
    dsimp only
    rw [t3 _ (by simp)]
    have wt3 := wt2.dr d3 hb
    have iy : isNo y = false := by
      cases y with
      | no => have := fy h3 7 (Nat.le_refl _) rfl; simp [frzS] at this
      | _ => rfl
    have hP3 := wt3.n
    have g3 := wt3.g
    have hq2 := wt3.lq
    rw [show iv .i64 0 = iv .i64 ((0 : Nat) : Int) from rfl, idxK_sv (by omega), stK_rw (z := 1) (e := 1) (o := 0 * 1) (b := P) (cs := qs.map fun q => .sl (some (q, 0)) 64) (r := [y]) wt3.n wt3.g (.inl ⟨_, rfl, rfl, iy⟩) rfl (by simp; omega)]
    have d4 : Dr b l a 900 h (h3.put P (.rw 1 (setAt (qs.map fun q => .sl (some (q, 0)) 64) (0 * 1) [y]))) := by
      obtain ⟨a3, s3, l3⟩ := d3.ex
      exact ⟨⟨a3, ⟨by rw [put_n]; exact s3.n, by rw [put_g' (by omega)]; exact s3.g⟩, by omega⟩, by rw [put_n]; have := d3.n; omega, fun c hc hcb => by rw [put_g' (by omega), d3.o c (by omega) hcb, d2.o c hc hcb]⟩
    have hpl := wt3.lp
    match qs, hq2, ps, hpl, wt3.w with
    | [q0, q1], _, [p0, p1], _, ww =>
      obtain ⟨w1, f1⟩ := ww 1 q1 p1 rfl rfl
      have h64 := (pagF_ok f1).1
      refine ⟨.sl (some (P, 0)) 2, [p, p1], _, rfl, ⟨⟨P, 2, rfl, hPn⟩, .inl rfl, fun l hl => ?_, fun h'' hn hg => ?_⟩, d4⟩
      · simp only [List.mem_cons, List.mem_nil_iff, or_false] at hl
        rcases hl with rfl | rfl
        · exact pl
        · omega
      · rw [put_n] at hn
        have gP : h''.g P = .rw 1 [y, .sl (some (q1, 0)) 64] := (hg P hPn (by rw [put_n]; exact hP3)).trans (put_g _ _ _)
        have fy' := fy h'' 6 hn ((hg q (by have := d2.n; omega) (by rw [put_n]; exact qn3)).trans (put_g' (by omega)))
        have hq1n := w1.n
        have hq1l := (wt3.l.2 q1 (by simp))
        have f1' := ((w1.fr (h' := h'') hn ((hg q1 hq1l.1 (by rw [put_n]; exact hq1n)).trans (put_g' hq1l.2))).frz (d := 6)).2
        rw [h64] at f1'
        rw [frzS]
        rw [if_neg (by omega), if_pos (by omega), gP]
        simp only [List.length_cons, List.length_nil, List.drop_zero]
        rw [if_pos (by omega)]
        rw [show List.take (2 * 1) [y, S.sl (some (q1, 0)) 64] = [y, S.sl (some (q1, 0)) 64] from rfl]
        simp only [mapO, fy', f1', Option.bind_some]
        rfl
  rw [if_neg (by simpa using c0), vcase_b]
  by_cases c1 : x2 = 1
  · rw [if_pos (by simp [c1])]
    have em : mkSl 1 [.sl none 0] h2 (iv .i64 13) (iv .i64 13) = some (sv h2.n 0 13, h2.new 1 ((List.replicate 13 [S.sl none 0]).flatten)) := by
      simp only [mkSl]
      rw [if_pos (by unfold lim; simp)]; rfl
    rw [em, ob]
    refine ⟨.sl (some (h2.n, 0)) 13, List.replicate 13 [], _, rfl, ⟨⟨h2.n, 13, rfl, by omega⟩, .inr rfl, fun l hl => ?_, fun h'' hn hg => ?_⟩, (d2.up up_new).weak (by omega)⟩
    · rw [List.eq_of_mem_replicate hl]; simp
    · rw [new_n] at hn
      have gP : h''.g h2.n = .rw 1 ((List.replicate 13 [S.sl none 0]).flatten) := (hg h2.n (by omega) (by rw [new_n]; omega)).trans (new_g _ _ _)
      rw [frzS]
      rw [if_neg (by omega), if_pos (by omega), gP]
      rfl
  rw [if_neg (by simpa using c1), vcase_b]
  by_cases c2 : x2 = 2
  · rw [if_pos (by simp [c2])]
    obtain ⟨qa, pa, ia, ja, wa, fa, la⟩ := wt2.ld (j := 0) (by omega)
    rw [show iv .i64 0 = iv .i64 ((0 : Nat) : Int) from rfl, la (K := h2.put b .dead) (by rw [put_n]; exact wt2.n) (put_g' (by omega))]
    obtain ⟨x3, h3, e3, r3, b3, w3, n3, o3, t3, p3⟩ := r_nextE w2 hl (by omega) (n := 2) (by omega) (by omega)
    rw [e3]; simp only [ob, gV1_s, gI_i]; rw [t3]
    have k3 : ∀ c, c < h2.n → c ≠ b → h3.g c = h2.g c ∧ h3.v c = h2.v c := fun c hc hcb => by rw [p3, put_g' hcb, put_v' hcb]; exact ⟨rfl, rfl⟩
    rw [hchk_of (HExt.kill (by omega) k3)]
    obtain ⟨x4, h4, e4, r4, b4, w4, n4, o4, t4, p4⟩ := r_nextE w3 hl (by omega) (n := 3) (by omega) (by omega)
    rw [e4]; simp only [ob, gV1_s, gI_i]; rw [t4]
    have k4 : ∀ c, c < h2.n → c ≠ b → h4.g c = h2.g c ∧ h4.v c = h2.v c := fun c hc hcb => by rw [p4, put_g' hcb, put_v' hcb]; exact k3 c hc hcb
    have x4e := HExt.kill (A := h2) (B := h4) (by omega) k4
    rw [hchk_of x4e]
    obtain ⟨m, hm, em⟩ := p_l1Stub6 (a := x3) (c := x4)
    rw [em, ob]
    simp only [gV1_s, gF_f]
    rw [hchk_of x4e]
    have d4 : Dr b l a 63 h h4 := ⟨⟨_, w4, by omega⟩, by have := d2.n; omega, fun c hc hcb => by rw [o4 c hcb, o3 c hcb, d2.o c hc hcb]⟩
    have wt4 : Two h.n P qs ps h4 := wt2.fr (by omega) fun c h1 _ => by rw [o4 c (by omega), o3 c (by omega)]
    have wa4 : BysW h4 (sv qa 0 64) pa qa := wa.fr (by omega) (by
      have hqa := (wt2.l.2 qa (List.mem_of_getElem? ia)).1
      rw [o4 qa (by omega), o3 qa (by omega)])
    obtain ⟨y, h5, i5, c5, e5, u5, x5, sy, k5⟩ := r_put6 wa4 fa (m := m) (by rw [hm]; rfl) (frzV_lv (h := h4))
    rw [e5]
    simp only [gVT_t, gx0, gx1, ob, gA1_s, gI_i, ln0, ln1, Nat.zero_add, Nat.reduceAdd, if_true]
    rw [hchk_of (x4e.trans x5), vcase_b]
    have d5 := d4.up u5
    have wt5 := wt4.up u5
    by_cases hc5 : c5 = 0
    case neg =>
      rw [if_neg (by simpa using hc5)]
      exact ⟨_, ps, h5, rfl, wt5.drn, d5.weak (by omega)⟩
    rw [if_pos (by simpa using hc5)]
    obtain ⟨d, p2, rfl, wd, hdn, fd⟩ := k5 hc5
    have hP4 := wt4.n
    have hd4 := d4.n
    obtain ⟨K, s6, t6, kn, kg⟩ := wt5.st (j := 0) (d := d) (p2 := p2) (by omega) wd fd (by omega) (by omega)
    rw [s6]
    obtain ⟨a6, sr6, la6⟩ := d5.ex
    exact ⟨_, _, K, rfl, t6.drn, ⟨⟨a6, ⟨by have := sr6.n; omega, by rw [kg b (by omega)]; exact sr6.g⟩, by omega⟩, by have := d5.n; omega, fun c hc hcb => by rw [kg c (by omega)]; exact d5.o c hc hcb⟩⟩
  rw [if_neg (by simpa using c2), vcase_b]
  by_cases c3 : x2 = 3
  · rw [if_pos (by simp [c3])]
    obtain ⟨r, h3, e3, hr0, d3⟩ := r_draw w2 hl (by omega)
    rw [e3, ob]
    simp only [gVA_a, gx0, gx1, ob, gI_i, gS_s, ln0, ln1, Nat.zero_add, Nat.reduceAdd, if_true]
    have d3' := d3.tidy hb2 [V.agg r.cs]
    change ∃ y ps h', stK 4 ((tidy h2 [V.agg r.cs] h3).new 0 [.int .i64 0, .int .i64 0, .int .i64 0, .str (⟨#[]⟩)]) (pv (tidy h2 [V.agg r.cs] h3).n 0) (.agg r.cs) _ = _ ∧ _
    generalize tidy h2 [V.agg r.cs] h3 = K at d3' ⊢
    rw [stK_X (z := 4) rfl rfl]
    have xk := putX_keep K [.int .i64 0, .int .i64 0, .int .i64 0, .str (⟨#[]⟩)] r.cs
    have xg : (putX K [.int .i64 0, .int .i64 0, .int .i64 0, .str (⟨#[]⟩)] r.cs).g K.n = .rw 0 r.cs := putX_g _ _ _
    have xn : (putX K [.int .i64 0, .int .i64 0, .int .i64 0, .str (⟨#[]⟩)] r.cs).n = K.n + 1 := putX_n _ _ _
    have uX : Up K (putX K [.int .i64 0, .int .i64 0, .int .i64 0, .str (⟨#[]⟩)] r.cs) := ⟨xk.1, fun c hc => (xk.2 c hc).1⟩
    generalize putX K [.int .i64 0, .int .i64 0, .int .i64 0, .str (⟨#[]⟩)] r.cs = X at xk xg xn uX ⊢
    have dX : Dr b l (a1 + 1) 5 h2 X := d3'.up uX
    have wtX := wt2.dr dX hb
    obtain ⟨qa, pa, ia, ja, wa, fa, la⟩ := wtX.ld (j := 1) (by omega)
    rw [show iv .i64 1 = iv .i64 ((1 : Nat) : Int) from rfl, la wtX.n rfl]
    rw [frzVs_cons frzV_iv (frzVs_cons (frz_pv (b := K.n) (by omega) xg row_cl) frzVs_nil), ob]
    rw [show normVs [0, 4] [iv .i64 0, fv r.cs 0] = [iv .i64 0, fv r.cs 0] from rfl]
    obtain ⟨h5, e5, w5⟩ := f_l1Cell (f := 0) (by omega) (by omega) hr0 X.n
    rw [pF (h := X) e5 ⟨rfl, w5.z⟩]
    obtain ⟨u5, wm, hm5⟩ := w5.over
    have x5 : HExt X (X.over h5) := HExt.over w5.le
    generalize X.over h5 = Y at u5 wm x5 ⊢
    rw [hchk_of x5, show scaV (sv (X.n + 2) 0 (packL 0 r).length) = true from rfl, cond_true]
    have wtY := wtX.up u5
    have waY : BysW Y (sv qa 0 64) pa qa := wa.fr u5.n (u5.g qa wa.n)
    obtain ⟨y, h6, i6, c6, e6, u6, x6, sy, k6⟩ := r_put6 waY fa (m := packL 0 r) (packL_in (f := 0) hr0) (frz1 (ob := some _) wm)
    rw [e6]
    simp only [gVT_t, gx0, gx1, ob, gA1_s, gI_i, ln0, ln1, Nat.zero_add, Nat.reduceAdd, if_true]
    rw [hchk_of (x5.trans x6), show scaV (.tup [.s y, .s (.int .i64 i6), .s (.int .i64 c6)]) = true from by simp [sy], cond_true, vcase_b]
    have d6 : Dr b l (a1 + 1) 5 h2 h6 := (dX.up u5).up u6
    have D6 : Dr b l a 66 h h6 := by
      obtain ⟨a6, s6, l6⟩ := d6.ex
      exact ⟨⟨a6, s6, by omega⟩, by have := d6.n; have := d2.n; omega, fun c hc hcb => by rw [d6.o c (by have := d2.n; omega) hcb, d2.o c hc hcb]⟩
    have wt6 := wtY.up u6
    by_cases hc6 : c6 = 0
    case neg =>
      rw [if_neg (by simpa using hc6)]
      exact ⟨_, ps, h6, rfl, wt6.drn, D6.weak (by omega)⟩
    rw [if_pos (by simpa using hc6)]
    obtain ⟨d, p2, rfl, wd, hdn, fd⟩ := k6 hc6
    have hPY := wtY.n
    have hXY := u5.n
    have hKX := dX.n
    obtain ⟨Z, s7, t7, kn, kg⟩ := wt6.st (j := 1) (d := d) (p2 := p2) (by omega) wd fd (by omega) (by omega)
    rw [s7]
    obtain ⟨a6, sr6, la6⟩ := D6.ex
    exact ⟨_, _, Z, rfl, t7.drn, ⟨⟨a6, ⟨by have := sr6.n; omega, by rw [kg b (by omega)]; exact sr6.g⟩, by omega⟩, by have := D6.n; omega, fun c hc hcb => by rw [kg c (by omega)]; exact D6.o c hc hcb⟩⟩
  rw [if_neg (by simpa using c3)]
  exact ⟨_, ps, h2, rfl, wt2.drn, d2.weak (by omega)⟩
end Vm
/-
  What stands where a row is seen.
-/
namespace Vm
open Go
/-- a cell of a page -/
structure CellAt (ps : List (List UInt8)) (pp kk : Nat) (ll : List UInt8) : Prop where
  p : ps[pp]? = some ll
  l : pagF ll = 0
  h : hasB ll (kk : Int) = true
theorem CellAt.len {ps : List (List UInt8)} {p k : Nat} {l : List UInt8} (w : CellAt ps p k l) : l.length = 64 ∧ l ≠ [] ∧ k < cnt l ∧ k < 16 := by
  obtain ⟨h64, ⟨q1, _⟩, _⟩ := pagF_ok w.l
  have := (has_iff.1 w.h).1
  have := cnt_eq l
  exact ⟨h64, fun e => (by rw [e] at h64; cases h64), by omega, by omega⟩
theorem seenX_eq (ms : List SpotD) (x : SpotD) : (seenX ms x).p = x.p ∧ (seenX ms x).s = x.s ∧ (seenX ms x).c.flag = x.c.flag ∧ (seenX ms x).c.page = x.c.page ∧ (seenX ms x).c.slot = x.c.slot := by
  unfold seenX; split <;> exact ⟨rfl, rfl, rfl, rfl, rfl⟩
theorem miss_all {ms : List SpotD} : ∀ {sp : List SpotD}, missF ms (stubsO sp) = false → ∀ x ∈ sp, x.c.flag = 1 → (mvF ms x.c.page x.c.slot).isSome = true
  | [], _, x, hx, _ => by simp at hx
  | y :: sp, h, x, hx, hf => by
    by_cases hy : y.c.flag = 1
    · rw [stubsO_y hy, miss_cons, Bool.or_eq_false_iff] at h
      rcases List.mem_cons.1 hx with rfl | hx
      · have := h.1
        change (mvF ms x.c.page x.c.slot).isNone = false at this
        cases hm : mvF ms x.c.page x.c.slot with
        | none => rw [hm] at this; cases this
        | some r => rfl
      · exact miss_all h.2 x hx hf
    · rw [stubsO_n hy] at h
      rcases List.mem_cons.1 hx with rfl | hx
      · exact absurd hf hy
      · exact miss_all h x hx hf
/-- what stands where a row is seen -/
theorem seenA_ok {ps : List (List UInt8)} (h : viewC ps = 0) {z : SpotD} (hz : z ∈ seenA ps) :
    (∃ l, CellAt ps z.p z.s l) ∧ (z.c.flag = 1 → ∃ (a b : Nat) (l2 : List UInt8), z.c.page = a ∧ z.c.slot = b ∧ CellAt ps a b l2 ∧ ¬ (a = z.p ∧ b = z.s)) ∧ (z.c.flag = 0 ∨ z.c.flag = 1) := by
  obtain ⟨h1, h2, h3, h4⟩ := viewC_ok h
  unfold seenA seenP at hz
  obtain ⟨x, hx, rfl⟩ := List.mem_map.1 hz
  obtain ⟨hxs, hxf⟩ := List.mem_filter.1 hx
  obtain ⟨e1, e2, e3, e4, e5⟩ := seenX_eq (movsO (spotsF 0 ps)) x
  have hq := spotsF_ok (Q := fun x => ∃ l, CellAt ps x.p x.s l ∧ x.c = unpC (cellB l x.s)) ps 0 (fun i l hi s hs => ⟨l, ⟨by simpa using hi, (h2 l (List.mem_of_getElem? hi)).1, hs⟩, rfl⟩) x hxs
  obtain ⟨l, w, hc⟩ := hq
  have hsp := spots_sp h2 x hxs
  have hfl : x.c.flag = 0 ∨ x.c.flag = 1 := by
    have := hsp.f
    simp at hxf
    omega
  refine ⟨⟨l, by rw [e1, e2]; exact w⟩, fun hf => ?_, by rw [e3]; exact hfl⟩
  rw [e3] at hf
  have hm := miss_all h3 x hxs hf
  rw [mv_cell] at hm
  cases hca : cellAtF ps x.c.page x.c.slot with
  | none => rw [hca] at hm; cases hm
  | some c =>
    rw [hca, Option.bind_some] at hm
    have h2c : c.flag = 2 := by
      by_cases h2c : c.flag = 2
      · exact h2c
      · rw [if_neg h2c] at hm; cases hm
    obtain ⟨a, b, l2, q1, q2, q3, q4, q5⟩ := cell_some hca
    refine ⟨a, b, l2, by rw [e4]; exact q1, by rw [e5]; exact q2, ⟨q3, (h2 l2 (List.mem_of_getElem? q3)).1, q4⟩, ?_⟩
    rintro ⟨ha, hb⟩
    rw [e1] at ha
    rw [e2] at hb
    subst ha; subst hb
    have : l2 = l := by have h1 := w.p; rw [q3] at h1; injection h1
    subst this
    rw [← hc] at q5
    rw [q5] at h2c
    omega
end Vm
/-
  A text's bytes as a list.
-/
namespace Vm
open Go
end Vm
/-
  What the laws on pages ask: answers once frozen, all slots but one.
-/
namespace Vm
open Go
theorem p_lwBig {l : List UInt8} : pureV (call Ev) Fn.laws_lwBig [lv (bys l)] = some (bv (decide ((l.length : Int) > 1048576))) := by
  rw [pu_laws_lwBig, bys_len]
end Vm
/-
  What the law on views asks: rows that are seen are rising, each is found where it is; what is drawn for it.
-/
namespace Vm
open Go
theorem p_DrawRowsIn {l : List UInt8} (hl : l.length ≤ 1048576) : ∃ ps, (ps.length = 2 ∨ ps.length = 13) ∧ (∀ l ∈ ps, l.length ≤ 64) ∧ pureV (call Ev) Fn.spec_DrawRowsIn [lv (bys l)] = some (lv (bss ps)) := by
  rw [pu_spec_DrawRowsIn]
  obtain ⟨K, e1, s1, u1, n1⟩ := r_source (l := l) (D 0)
  simp only [D_n] at e1 s1 n1
  refine (?_ : ∃ ps, _ ∧ _ ∧ pcallF (call Ev) Fn.spec_l1Source true [lv (bys l)] (D 0) _ = _)
  obtain ⟨y, ps, h', e2, dd, d2⟩ := r_bent6 s1 hl (by omega)
  refine ⟨ps, dd.l, dd.s, ?_⟩
  refine (e1 _ _).trans ?_
  obtain ⟨P, k, rfl, hP⟩ := dd.y
  rw [e2, ob]
  dsimp only
  rw [no_tidy_v (h := K) (h' := h') (by simp [belV, belS]; omega), frzV_s, dd.f h' (Nat.le_refl _) (fun _ _ _ => rfl)]
  rfl
theorem p_DrawFindRow {l : List UInt8} (hl : l.length ≤ 1048576) : ∃ (ps : List (List UInt8)) (t k : Int), (ps.length = 2 ∨ ps.length = 13) ∧ (∀ l ∈ ps, l.length ≤ 64) ∧ pureV (call Ev) Fn.spec_DrawFindRow [lv (bys l)] = some (.tup [.s (.fs (bss ps)), .s (.int .i64 t), .s (.int .i64 k)]) := by
  rw [pu_spec_DrawFindRow]
  obtain ⟨K, e1, s1, u1, n1⟩ := r_source (l := l) (D 0)
  simp only [D_n] at e1 s1 n1
  obtain ⟨y, ps, h2, e2, dd, d2⟩ := r_bent6 s1 hl (by omega)
  have key : ∀ t k : Int, ∀ h'', h2.n ≤ h''.n → (∀ c, K.n ≤ c → c < h2.n → h''.g c = h2.g c) → frzV h'' (.tup [.s y, .s (.int .i64 t), .s (.int .i64 k)]) = some (.tup [.s (.fs (bss ps)), .s (.int .i64 t), .s (.int .i64 k)]) := fun t k h'' hn hg => by
    have := dd.f h'' hn hg
    simp [frzAs, frzA, this]
  obtain ⟨P, kk, rfl, hP⟩ := dd.y
  obtain ⟨a2, s2, la2⟩ := d2.ex
  have hK := d2.n
  have hb2 := s2.n
  obtain ⟨x3, h3, e3, m3, w3, n3, o3, t3⟩ := r_pickN s2 hl (by omega) (xs := [0, 1, 2, 4]) (by simp) (by simp)
  simp only [List.length_cons, List.length_nil, Nat.zero_add, Nat.reduceAdd, List.map_cons, List.map_nil] at e3 t3
  obtain ⟨x4, h4, e4, a4, b4, w4, n4, o4, t4⟩ := r_next w3 hl (by omega) (n := 6) (by omega) (by omega)
  obtain ⟨x5, h5, e5, a5, b5, w5, n5, o5, t5⟩ := r_next w4 hl (by omega) (n := 6) (by omega) (by omega)
  obtain ⟨x6, h6, e6, m6, w6, n6, o6, t6⟩ := r_pickN w5 hl (by omega) (xs := [IntKind.i64.wrap (1 + x4), IntKind.i64.wrap (1 + x5), 0]) (by simp) (by simp)
  simp only [List.length_cons, List.length_nil, Nat.zero_add, Nat.reduceAdd, List.map_cons, List.map_nil] at e6 t6
  refine ⟨ps, x3, x6, dd.l, dd.s, ?_⟩
  refine (e1 _ _).trans ?_
  rw [e2, ob]
  dsimp only
  rw [no_tidy_v (h := K) (h' := h2) (by simp [belV, belS]; omega), e3, ob]
  simp only [gV1_s, gI_i]
  rw [t3, e4, ob]
  simp only [gV1_s, gI_i]
  rw [t4, e5, ob]
  simp only [gV1_s, gI_i]
  rw [t5, e6, ob]
  simp only [gV1_s, gI_i]
  rw [t6]
  simp only [V.toA, ob]
  refine key x3 x6 h6 (by omega) fun c h1 h2' => ?_
  rw [o6 c (by omega) (by omega), o5 c (by omega), o4 c (by omega), o3 c h2' (by omega)]
theorem p_RowsIn {ps : List (List UInt8)} (hl : ps.length ≤ maxLen) : pureV (call Ev) Fn.impl_RowsIn [lv (bss ps)] = some (.agg [.int .i64 (viewC ps), .fs (rws (riL ps))]) := by
  obtain ⟨y, h', e, w⟩ := f_RowsIn hl 0
  exact NewC.p (by omega) e w
theorem p_SlotIn0 {l : List UInt8} {k : Nat} (hp : pagF l = 0) (hb : hasB l (k : Int) = true) : ∃ m : List UInt8, pureV (call Ev) Fn.impl_SlotIn [lv (bys l), iv .i64 (k : Int)] = some (.agg [.int .i64 0, .fs (bys m)]) := by
  have hk := (has_iff.1 hb).1
  have h64 := (pagF_ok hp).1
  refine ⟨cellB l k, ?_⟩
  rw [pu_impl_SlotIn, pc p_PageFault rfl, hp]
  simp only [gV1_s, gI_i]
  rw [vcase_b, if_neg (by simp), pc (p_hasSlot hp) rfl, hb]
  simp only [gV1_s, gB_b]
  rw [vcase_b, if_neg (by simp), p_cellAt hp hk, ob]
  simp only [gV1_s, gF_f]
  obtain ⟨v, h1, e1, w1, _⟩ := f_copied (m := cellB l k) (by have := cellB_len l k; unfold lim; omega) 0
  have : pureV (call Ev) Fn.impl_copied [lv (bys (cellB l k))] = some (lv (bys (cellB l k))) := by
    unfold pureV
    rw [e1, ob]
    exact frz1 w1.own
  rw [this, ob]
  simp only [gV1_s, gF_f]
theorem ldK_fi {R : Type} {h : H} {row : List S} {o : Nat} {x : Int} {ti : TI} {f : V → Option R} (hz : ti.agg = false) (hr : row[o]? = some (.int .i64 x)) : ldK (.one (.i .i64)) ti h (fv row o) f = f (iv .i64 x) := by
  simp only [ldK, ldT, hz, cond_false, load1, hr, Option.bind_some, tyV]
  rfl
theorem ldK_f4 {R : Type} {h : H} {r : RowD} {ti : TI} {f : V → Option R} (hz : ti.agg = true) (h4 : ti.z = 4) : ldK (.agg [.i .i64, .i .i64, .i .i64, .s]) ti h (fv r.cs 0) f = f (.agg r.cs) := by
  simp only [ldK, ldT, hz, cond_true, h4, loadN]
  rfl
theorem lwRows_refl {ks : List RowD} (hl : ks.length ≤ 1000) : pureV (call Ev) Fn.laws_lwRows [lv (rws ks), lv (rws ks)] = some (bv true) := by
  have loop : ∀ (rs : List RowD) (i : Nat), ks.drop i = rs → Lp.laws_lwRows 0 [lv (rws ks), lv (rws ks), iv .i64 i] (D 0) = some (.done [] (D 0)) := by
    intro rs
    induction rs with
    | nil =>
      intro i hi
      have := drop_nil hi
      rw [eq_laws_lwRows_l0, vcase_b, if_neg (by simp; omega), tidy_self]
    | cons r rs ih =>
      intro i hi
      obtain ⟨g1, g2, g3⟩ := drop_cons hi
      rw [eq_laws_lwRows_l0, vcase_b, if_pos (by simp; omega), idxF_rw g1, rowN_rw]
      simp only [ob, gx0, gx1, gI_i, gS_s, ln0, ln1, Nat.zero_add, Nat.reduceAdd, if_true]
      rw [idxF_rw g1, rowN_rw]
      simp only [ob, gx0, gx1, gI_i, gS_s, ln0, ln1, Nat.zero_add, Nat.reduceAdd, if_true]
      rw [vcase_b, if_neg (by simp), tidy_self, w64 (by omega) (by omega), show (i : Int) + 1 = ((i + 1 : Nat) : Int) from by omega]
      exact ih (i + 1) g2
  rw [pu_laws_lwRows, vcase_b, if_neg (by simp), show iv .i64 0 = iv .i64 ((0 : Nat) : Int) from rfl, loop ks 0 rfl]
  simp
/-! rows that are seen -/
theorem unp_row {l : List UInt8} (hc : (unpC l).code = 0) (hf : (unpC l).flag ≠ 1) : rowF (unpC l).row = 0 := by
  unfold unpC at hc hf ⊢
  split at hc
  · rename_i h1
    rw [if_pos h1] at hf
    exact absurd rfl hf
  · rename_i h1
    rw [if_neg h1]
    split at hc
    · rename_i h2
      rw [if_pos h2]
      simp at h2
      exact h2.2
    · cases hc
theorem seen_row {ps : List (List UInt8)} (h : viewC ps = 0) {z : SpotD} (hz : z ∈ seenA ps) : rowF z.c.row = 0 := by
  obtain ⟨h1, h2, h3, h4⟩ := viewC_ok h
  unfold seenA seenP at hz
  obtain ⟨x, hx, rfl⟩ := List.mem_map.1 hz
  obtain ⟨hxs, hxf⟩ := List.mem_filter.1 hx
  have hq := spotsF_ok (Q := fun x => ∃ l, CellAt ps x.p x.s l ∧ x.c = unpC (cellB l x.s)) ps 0 (fun i l hi s hs => ⟨l, ⟨by simpa using hi, (h2 l (List.mem_of_getElem? hi)).1, hs⟩, rfl⟩) x hxs
  obtain ⟨l, w, hc⟩ := hq
  have hcode : (unpC (cellB l x.s)).code = 0 := (h2 l (List.mem_of_getElem? w.p)).2 x.s w.h
  unfold seenX
  by_cases hf : x.c.flag = 1
  · rw [if_pos hf]
    show rowF ((mvF (movsO (spotsF 0 ps)) x.c.page x.c.slot).getD noR) = 0
    have hm := miss_all h3 x hxs hf
    rw [mv_cell] at hm ⊢
    cases hca : cellAtF ps x.c.page x.c.slot with
    | none => rw [hca] at hm; cases hm
    | some c =>
      rw [hca, Option.bind_some] at hm
      by_cases h2c : c.flag = 2
      case neg => rw [if_neg h2c] at hm; cases hm
      rw [Option.bind_some, if_pos h2c]
      obtain ⟨a, b, l2, q1, q2, q3, q4, q5⟩ := cell_some hca
      have hcode2 : (unpC (cellB l2 b)).code = 0 := (h2 l2 (List.mem_of_getElem? q3)).2 b q4
      show rowF c.row = 0
      rw [q5] at h2c ⊢
      exact unp_row hcode2 (by omega)
  · rw [if_neg hf, hc]
    rw [hc] at hf
    exact unp_row hcode hf
theorem view_mem {ps : List (List UInt8)} (h : viewC ps = 0) {x : SeenD} (hx : x ∈ viewL ps) : ∃ z ∈ seenA ps, x = toSeen z ∧ x.r = z.c.row ∧ x.page = z.p ∧ x.slot = z.s := by
  rw [(viewL_of h).1, (srtS_perm _).mem_iff] at hx
  obtain ⟨z, hz, rfl⟩ := List.mem_map.1 hx
  exact ⟨z, hz, rfl, toSeen_r z, (toSeen_pl z).1, (toSeen_pl z).2⟩
theorem view_found {ps : List (List UInt8)} (h : viewC ps = 0) {x : SeenD} (hx : x ∈ viewL ps) : fndC ps x.r.tab x.r.key = 0 ∧ fndX ps x.r.tab x.r.key = x := by
  obtain ⟨z, hz, _, e1, _, _⟩ := view_mem h hx
  have hr := rowF_0 (seen_row h hz)
  rw [← e1] at hr
  have hd : ¬ dupK (viewL ps) := by
    rw [(viewL_of h).1, dupK_perm (srtS_perm _)]; exact (viewL_of h).2
  have hf := find_uniq (t := x.r.tab) (k := x.r.key) hd hx (by unfold isK; simp)
  have hc : fndC ps x.r.tab x.r.key = 0 := by
    unfold fndC
    rw [if_neg (by simp [h]), if_neg (by simp [inB]; omega), hf]
    rfl
  refine ⟨hc, ?_⟩
  unfold fndX
  rw [if_pos hc, hf]; rfl
theorem rowsFrom_rise : ∀ (l : List SeenD) (p : Option RowD), (∀ x ∈ l, rowF x.r = 0) → Rise l → (∀ q, p = some q → ∀ x ∈ l, befB q x.r = true) → rowsFrom p (l.map SeenD.r) = 0
  | [], p, _, _, _ => by cases p <;> rfl
  | x :: l, p, h1, h2, h3 => by
    have h0 := h1 x (by simp)
    have h4 := List.pairwise_cons.1 h2
    have ih := rowsFrom_rise l (some x.r) (fun y hy => h1 y (by simp [hy])) h4.2 fun q hq y hy => by
      injection hq with hq
      subst hq
      exact h4.1 y hy
    rw [List.map_cons]
    cases p with
    | none => rw [rowsFrom_0 h0]; exact ih
    | some q => rw [rowsFrom_2 h0 (h3 q rfl x (by simp))]; exact ih
theorem view_rise {ps : List (List UInt8)} (h : viewC ps = 0) (h2 : ps.length = 2) : rowsF (riL ps) = 0 ∧ (∀ r ∈ riL ps, r.text.size ≤ maxLen) ∧ (viewL ps).length ≤ 32 := by
  obtain ⟨v1, v2, v3, v4⟩ := viewC_ok h
  have hlen : (viewL ps).length ≤ 32 := by
    rw [(viewL_of h).1, (srtS_perm _).length_eq, List.length_map]
    have := spotsF_len (all := ps) ps 0 (fun l hl => v2.cnt hl)
    have := seenP_len (movsO (spotsF 0 ps)) (spotsF 0 ps)
    unfold seenA
    omega
  have hrow : ∀ x ∈ viewL ps, rowF x.r = 0 := fun x hx => by
    obtain ⟨z, hz, _, e1, _⟩ := view_mem h hx
    rw [e1]; exact seen_row h hz
  refine ⟨?_, fun r hr => ?_, hlen⟩
  · unfold rowsF riL
    rw [if_neg (by rw [List.length_map]; omega)]
    exact rowsFrom_rise _ none hrow (by rw [(viewL_of h).1]; exact srtS_rise (viewL_of h).2) (by simp)
  · obtain ⟨x, hx, rfl⟩ := List.mem_map.1 hr
    have := rowF_0 (hrow x hx)
    unfold maxLen; omega
theorem view_place {ps : List (List UInt8)} (h : viewC ps = 0) {x : SeenD} (hx : x ∈ viewL ps) : ∃ (a b : Nat) (l : List UInt8), x.page = a ∧ x.slot = b ∧ CellAt ps a b l := by
  obtain ⟨z, hz, _, _, e2, e3⟩ := view_mem h hx
  obtain ⟨⟨l, w⟩, _⟩ := seenA_ok h hz
  exact ⟨z.p, z.s, l, e2, e3, w⟩
end Vm
/-
  The law on views returns true.
-/
namespace Vm
open Go
abbrev z7 : List S := [.int .i64 0, .int .i64 0, .int .i64 0, .int .i64 0, .int .i64 0, .int .i64 0, .str (⟨#[]⟩)]
theorem ld_rows {R : Type} {h : H} {c : Int} {ks : List RowD} {w0 : Nat} {zz : List S} {dd : TD} {bb : Bool} {f : V → Option R} (hn : 0 < h.n) (hg : h.g 0 = .rw 0 [.int .i64 c, .fs (rws ks)]) : ((padd 1 (pv 0 0)).bind fun v => ldK (.one .f) ⟨1, w0, zz, false, dd, bb⟩ h v f) = f (lv (rws ks)) := by
  have : load1 h (pv 0 (0 + 1)) = some (.fs (rws ks)) := by simp [load1, H.cells, hn, hg, Blk.cells]
  rw [show padd 1 (pv 0 0) = some (pv 0 (0 + 1)) from rfl, ob]
  show ldT _ h (pv 0 (0 + 1)) f = _
  unfold ldT
  simp only [cond_false]
  rw [this, ob]
theorem lp_views {l : List UInt8} {ps : List (List UInt8)} (hc : viewC ps = 0) (h2 : ps.length = 2) {h : H} {c : Int} (hn : h.n = 1) (hg : h.g 0 = .rw 0 [.int .i64 c, .fs (rws (riL ps))]) : ∀ (rs : List SeenD) (i : Nat), (viewL ps).drop i = rs →
    Lp.laws_FnViews 0 [lv (bys l), lv (bss ps), pv 0 0, iv .i64 i] h = some (.done [lv (bys l), lv (bss ps), pv 0 0] h) := by
  intro rs
  have hlen := (view_rise hc h2).2.2
  have hri : (riL ps).length = (viewL ps).length := by unfold riL; rw [List.length_map]
  have hl : ps.length ≤ maxLen := by unfold maxLen; omega
  induction rs with
  | nil =>
    intro i hi
    have := drop_nil hi
    rw [eq_laws_FnViews_l0, ld_rows (by omega) hg]
    simp only [lenV, ob, gV1_s, gI_i, rws_len]
    rw [vcase_b, if_neg (by simp; omega), tidy_self]
  | cons x rs ih =>
    intro i hi
    obtain ⟨g1, g2, g3⟩ := drop_cons hi
    have gx : (riL ps)[i]? = some x.r := by unfold riL; rw [List.getElem?_map, g1]; rfl
    have hx := List.mem_of_getElem? g1
    rw [eq_laws_FnViews_l0, ld_rows (by omega) hg]
    simp only [lenV, ob, gV1_s, gI_i, rws_len]
    rw [vcase_b, if_pos (by simp; omega), ld_rows (by omega) hg, idxK_fs, idxF_rw gx]
    rw [show padd 0 (fv x.r.cs 0) = some (fv x.r.cs 0) from rfl, ob, ldK_fi (x := x.r.tab) rfl rfl]
    simp only [gV1_s, gI_i]
    rw [ld_rows (by omega) hg, idxK_fs, idxF_rw gx]
    rw [show padd 1 (fv x.r.cs 0) = some (fv x.r.cs 1) from rfl, ob, ldK_fi (x := x.r.key) rfl rfl]
    simp only [gV1_s, gI_i]
    obtain ⟨f1, f2⟩ := view_found hc hx
    rw [pc (p_FindRow hl) rfl, f1, f2]
    unfold placeR
    simp only [gVA_a, gx0, gx1, ob, gI_i, gS_s, ln0, ln1, Nat.zero_add, Nat.reduceAdd, if_true]
    rw [stK_X (z := 7) rfl rfl]
    have l0 : load1 (putX h z7 (placeR 0 x)) (pv h.n 0) = some (.int .i64 0) := load1_X (o := 0) rfl
    have l1 : load1 (putX h z7 (placeR 0 x)) (pv h.n 1) = some (.int .i64 x.page) := load1_X (o := 1) rfl
    have l2 : load1 (putX h z7 (placeR 0 x)) (pv h.n 2) = some (.int .i64 x.slot) := load1_X (o := 2) rfl
    have l3 : loadN 4 (putX h z7 (placeR 0 x)) (pv h.n 3) = some x.r.cs := loadN_X (by simp [placeR]) rfl
    have hk := putX_keep h z7 (placeR 0 x)
    have hX : (putX h z7 (placeR 0 x)).g 0 = .rw 0 [.int .i64 c, .fs (rws (riL ps))] := (putX_lt (by omega)).trans hg
    have hXn : 0 < (putX h z7 (placeR 0 x)).n := by rw [putX_n]; omega
    have hXt : ∀ vs : List V, vs.all (belV h.n) = true → tidy h vs (putX h z7 (placeR 0 x)) = h := fun vs hv => putX_tidy hv
    change ((load1 (putX h z7 (placeR 0 x)) (pv h.n 0)).bind _) = _
    have hGo : putX h [.int .i64 0, .int .i64 0, .int .i64 0, .int .i64 0, .int .i64 0, .int .i64 0, .str (⟨#[]⟩)] [S.int .i64 0, .int .i64 x.page, .int .i64 x.slot, .int .i64 x.r.tab, .int .i64 x.r.key, .int .i64 x.r.val, .str x.r.text] = putX h z7 (placeR 0 x) := rfl
    rw [hGo]
    generalize putX h z7 (placeR 0 x) = X at l0 l1 l2 l3 hk hX hXn hXt ⊢
    rw [l0, ob]
    simp only [gI_i]
    rw [vcase_b, if_neg (by simp), l3, ob]
    simp only [gx0, gx1, ob, gI_i, gS_s, ln0, ln1, Nat.zero_add, Nat.reduceAdd, if_true]
    rw [ld_rows hXn hX, idxK_fs, idxF_rw gx, ldK_f4 rfl rfl]
    simp only [gVA_a, gx0, gx1, ob, gI_i, gS_s, ln0, ln1, Nat.zero_add, Nat.reduceAdd, if_true]
    rw [vcase_b, if_neg (by simp), l1, ob]
    simp only [gI_i]
    obtain ⟨a, b, m, ea, eb, ca⟩ := view_place hc hx
    have hpa := (List.getElem?_eq_some_iff.1 ca.p).1
    rw [vcase_b, if_neg (by simp; omega), ob]
    simp only [gI_i]
    unfold Jn.laws_FnViews_l0_0
    rw [vcase_b, if_neg (by simp; omega), l1, ob]
    simp only [gI_i]
    rw [ea, idxF_pg ca.p]
    simp only [gx0, gx1, ob, gF_f]
    rw [l2, ob]
    simp only [gI_i]
    obtain ⟨mm, em⟩ := p_SlotIn0 ca.l ca.h
    rw [eb, em, ob]
    simp only [gVA_a, gx0, gx1, ob, gI_i, gF_f, ln0, ln1, Nat.zero_add, Nat.reduceAdd, if_true, hchk_self]
    rw [vcase_b, if_neg (by simp), w64 (by omega) (by omega), show (i : Int) + 1 = ((i + 1 : Nat) : Int) from by omega, hXt _ (by simp [belV, belS, hn])]
    exact ih (i + 1) g2
theorem run_FnViews (xs : List V) (hx : ArgsRp PR [T.S_uint8] xs) : ∃ h', call Ev Fn.laws_FnViews xs (D 0) = some (bv true, h') := by
  match xs, hx with
  | [x0], ⟨h0, _⟩ =>
    obtain ⟨l, rfl, hl⟩ := arg_Bytes h0
    refine law_of ?_
    rw [pu_laws_FnViews, pc p_lwBig rfl]
    simp only [gV1_s, gB_b]
    rw [vcase_b]
    by_cases hq : (l.length : Int) > 1048576
    · rw [if_pos (by simpa using hq)]
    rw [if_neg (by simpa using hq)]
    obtain ⟨ps, hps, hpl, e⟩ := p_DrawRowsIn (l := l) (by omega)
    have hm : ps.length ≤ maxLen := by unfold maxLen; omega
    rw [e]
    simp only [ob, gV1_s, gF_f]
    rw [p_RowsIn hm]
    simp only [ob, gVA_a, gx0, gx1, gI_i, gF_f, ln0, ln1, Nat.zero_add, Nat.reduceAdd, if_true]
    rw [vcase_b]
    by_cases hc : viewC ps = 0
    case neg =>
      rw [if_pos (by simpa using hc), p_spec_RowsIn hm]
      simp only [ob, gVA_a, gx0, gx1, gI_i, gF_f, ln0, ln1, Nat.zero_add, Nat.reduceAdd, if_true, hchk_self]
      rw [vcase_b, if_pos (by simp), pc (p_PagesFault hm) rfl]
      simp
    rw [if_neg (by simp [hc]), hc]
    have h2 : ps.length = 2 := by
      rcases hps with h | h
      · exact h
      · have := (viewC_ok hc).1; omega
    obtain ⟨r1, r2, r3⟩ := view_rise hc h2
    have hri : (riL ps).length = (viewL ps).length := by unfold riL; rw [List.length_map]
    generalize hH : ((D 0).new 0 [S.int .i64 0, .sl none 0]).put 0 (.rw 0 [.int .i64 0, .fs (rws (riL ps))]) = H0
    have hn : H0.n = 1 := by rw [← hH]; simp
    have hg : H0.g 0 = .rw 0 [.int .i64 0, .fs (rws (riL ps))] := by rw [← hH]; exact put_g _ _ _
    rw [show iv .i64 0 = iv .i64 ((0 : Nat) : Int) from rfl, lp_views hc h2 hn hg (viewL ps) 0 rfl, ob, lcase_done]
    simp only [gx0, gx1, ob, gV1_s, gF_f]
    obtain ⟨qs, t, k, hqs, hql, eq⟩ := p_DrawFindRow (l := l) (by omega)
    have hmq : qs.length ≤ maxLen := by unfold maxLen; omega
    rw [eq]
    simp only [gVT_t, gx0, gx1, ob, gA1_s, gI_i, gF_f, ln0, ln1, Nat.zero_add, Nat.reduceAdd, if_true]
    have e1 := p_FindRow (t := t) (k := k) hmq
    have e2 := p_spec_FindRow (t := t) (k := k) hmq
    generalize fndC qs t k = c at e1 e2
    generalize fndX qs t k = x at e1 e2
    rw [pc e1 rfl]
    unfold placeR
    simp only [gVA_a, gx0, gx1, ob, gI_i, gS_s, ln0, ln1, Nat.zero_add, Nat.reduceAdd, if_true]
    rw [stK_X (z := 7) rfl rfl, pc e2 rfl]
    unfold placeR
    simp only [gVA_a, gx0, gx1, ob, gI_i, gS_s, ln0, ln1, Nat.zero_add, Nat.reduceAdd, if_true]
    rw [stK_X (z := 7) rfl rfl]
    have hGo : ∀ K : H, putX K [.int .i64 0, .int .i64 0, .int .i64 0, .int .i64 0, .int .i64 0, .int .i64 0, .str (⟨#[]⟩)] [S.int .i64 c, .int .i64 x.page, .int .i64 x.slot, .int .i64 x.r.tab, .int .i64 x.r.key, .int .i64 x.r.val, .str x.r.text] = putX K z7 (placeR c x) := fun K => rfl
    rw [hGo, hGo]
    have xn := putX_n H0 z7 (placeR c x)
    have x0 : load1 (putX (putX H0 z7 (placeR c x)) z7 (placeR c x)) (pv H0.n 0) = some (.int .i64 c) := by
      have h3 : H0.n < (putX H0 z7 (placeR c x)).n := by rw [putX_n]; omega
      have h4 : (putX (putX H0 z7 (placeR c x)) z7 (placeR c x)).cells H0.n = placeR c x := by
        unfold H.cells
        rw [if_pos (by rw [putX_n]; omega), putX_lt h3, putX_g]; rfl
      simp only [load1, h4]; rfl
    have x3 : loadN 4 (putX (putX H0 z7 (placeR c x)) z7 (placeR c x)) (pv H0.n 3) = some x.r.cs := by
      have h3 : H0.n < (putX H0 z7 (placeR c x)).n := by rw [putX_n]; omega
      have h4 : (putX (putX H0 z7 (placeR c x)) z7 (placeR c x)).cells H0.n = placeR c x := by
        unfold H.cells
        rw [if_pos (by rw [putX_n]; omega), putX_lt h3, putX_g]; rfl
      simp only [loadN]
      rw [if_pos ⟨by rw [putX_n]; omega, by rw [h4]; simp [placeR]⟩, h4]; rfl
    have y0 : load1 (putX (putX H0 z7 (placeR c x)) z7 (placeR c x)) (pv (putX H0 z7 (placeR c x)).n 0) = some (.int .i64 c) := load1_X (o := 0) rfl
    have y3 : loadN 4 (putX (putX H0 z7 (placeR c x)) z7 (placeR c x)) (pv (putX H0 z7 (placeR c x)).n 3) = some x.r.cs := loadN_X (by simp [placeR]) rfl
    have yn : 0 < (putX (putX H0 z7 (placeR c x)) z7 (placeR c x)).n := by rw [putX_n]; omega
    have yg : (putX (putX H0 z7 (placeR c x)) z7 (placeR c x)).g 0 = .rw 0 [.int .i64 0, .fs (rws (riL ps))] := (putX_lt (by rw [putX_n]; omega)).trans ((putX_lt (by omega)).trans hg)
    generalize putX H0 z7 (placeR c x) = X at xn x0 x3 y0 y3 yn yg ⊢
    generalize putX X z7 (placeR c x) = Y at x0 x3 y0 y3 yn yg ⊢
    rw [ld_rows yn yg, frzVs_cons frzV_lv frzVs_nil, ob, norm_nil, pc (p_RowsFault r2 (by unfold maxLen; omega)) rfl, r1]
    simp only [gV1_s, gI_i, hchk_self]
    rw [vcase_b, if_pos (by simp), ld_rows yn yg, p_spec_RowsIn hm, hc]
    simp only [ob, gVA_a, gx0, gx1, gI_i, gF_f, ln0, ln1, Nat.zero_add, Nat.reduceAdd, if_true, hchk_self]
    rw [frzVs_cons frzV_lv (frzVs_cons frzV_lv frzVs_nil), ob, norm_nil, pc (lwRows_refl (by omega)) rfl]
    simp only [gV1_s, gB_b, hchk_self]
    rw [vcase_b, if_pos rfl, x0, ob]
    simp only [gI_i]
    rw [y0, ob]
    simp only [gI_i]
    unfold Jn.laws_FnViews_0
    rw [vcase_b, if_pos (by simp), x3, ob]
    simp only [gx0, gx1, ob, gI_i, gS_s, ln0, ln1, Nat.zero_add, Nat.reduceAdd, if_true]
    rw [y3, ob]
    simp only [gx0, gx1, ob, gI_i, gS_s, ln0, ln1, Nat.zero_add, Nat.reduceAdd, if_true]
    simp
end Vm
