/-
  A slot let go.
-/
import Derived.Test.YtnidgolbfmbocaaDSlot
set_option linter.unusedVariables false
set_option maxRecDepth 100000
set_option linter.unusedSimpArgs false
namespace Vm
open Go

/-- the count of slots without the empty ones at the end -/
def trimN (l : List UInt8) : Nat → Nat
  | 0 => 0
  | n + 1 => if siz l n = 0 then trimN l n else n + 1
theorem trimN_le (l : List UInt8) : ∀ n, trimN l n ≤ n
  | 0 => Nat.le_refl _
  | n + 1 => by unfold trimN; split <;> first | exact Nat.le_refl _ | exact Nat.le_trans (trimN_le l n) (Nat.le_succ _)
def cntB (l : List UInt8) (n : Nat) : List UInt8 := l.set 0 (UInt8.ofNat n)
theorem bt_set_ne {l : List UInt8} {i j : Nat} {c : UInt8} (h : i ≠ j) : bt (l.set i c) (j : Int) = bt l (j : Int) := by
  unfold bt
  rw [List.getD, List.getElem?_set_ne (by simpa using h)]; rfl
theorem bt_set_eq {l : List UInt8} {i : Nat} {c : UInt8} (h : i < l.length) : bt (l.set i c) (i : Int) = (c.toNat : Int) := by
  unfold bt
  rw [List.getD, Int.toNat_natCast, List.getElem?_set_self h]; rfl
theorem cntB_0 {l : List UInt8} {n : Nat} (hl : 0 < l.length) (hn : n < 256) : bt (cntB l n) 0 = n := by
  have := bt_set_eq (l := l) (i := 0) (c := UInt8.ofNat n) hl
  unfold cntB
  rw [show (0 : Int) = ((0 : Nat) : Int) from rfl, this]
  simp; omega
theorem cntB_siz {l : List UInt8} {n k : Nat} : siz (cntB l n) k = siz l k := by
  unfold siz cntB; exact bt_set_ne (by omega)
theorem cntB_len {l : List UInt8} {n : Nat} : (cntB l n).length = l.length := by simp [cntB]
theorem cntB_cntB {l : List UInt8} {n m : Nat} : (cntB l n).set 0 (UInt8.ofNat m) = cntB l m := by simp [cntB]
theorem lp_l2Drop {l : List UInt8} {b N : Nat} : ∀ (n : Nat) (h : H), n ≤ 16 → 64 ≤ l.length → BysW h (sv b 0 N) (cntB l n) b →
    ∃ h', Lp.spec_l2Drop 0 [sv b 0 N] h = some (.done [sv b 0 N] h') ∧ BysW h' (sv b 0 N) (cntB l (trimN l n)) b ∧ Oth b h h' := by
  intro n
  induction n with
  | zero =>
    intro h hn hl w
    have hN := w.len
    have c0 := cntB_0 (l := l) (n := 0) (by omega) (by omega)
    rw [cntB_len] at hN
    rw [eq_spec_l2Drop_l0, show iv .i64 0 = iv .i64 ((0 : Nat) : Int) from rfl, idxK_sv (by omega), w.get (by rw [cntB_len]; omega) rfl]
    simp only [gV1_s, gI_i, vcase_b]
    rw [show ((0 : Nat) : Int) = 0 from rfl, c0, if_neg (by simp), tidy_self]
    exact ⟨h, rfl, w, Oth.refl _ _⟩
  | succ n ih =>
    intro h hn hl w
    have hN := w.len
    have c0 := cntB_0 (l := l) (n := n + 1) (by omega) (by omega)
    have w' := w
    rw [cntB_len] at hN
    have g0 : ∀ {R : Type} {k : V → Option R}, ldK (.one (.i .u8)) ⟨1, 1, [.int .u8 0], false, .int .u8, false⟩ h (pv b (0 * 1)) k = k (iv .u8 ((n + 1 : Nat) : Int)) := fun {R k} => by
      rw [w.get (by rw [cntB_len]; omega) rfl, show ((0 : Nat) : Int) = 0 from rfl, c0]
    rw [eq_spec_l2Drop_l0, show iv .i64 0 = iv .i64 ((0 : Nat) : Int) from rfl, idxK_sv (by omega), g0]
    simp only [gV1_s, gI_i, vcase_b]
    rw [if_pos (by simp), idxK_sv (by omega), g0]
    simp only [gV1_s, gI_i]
    rw [w64 (n := ((n + 1 : Nat) : Int)) (by omega) (by omega), w64 (by omega) (by omega), show ((n + 1 : Nat) : Int) - 1 = (n : Int) from by omega, frzVs_cons (frz1 (ob := some b) w) (frzVs_cons frzV_iv frzVs_nil), Vm.ob]
    rw [norm_nil, pc (p_l2Size (by rw [cntB_len]; omega) (by omega)) rfl, cntB_siz]
    simp only [gV1_s, gI_i, vcase_b]
    unfold trimN
    by_cases hs : siz l n = 0
    · rw [if_pos (by simpa using hs), if_pos hs, idxK_sv (by omega), g0]
      simp only [gV1_s, gI_i]
      rw [idxK_sv (by omega), show ((n + 1 : Nat) : Int) - 1 = (n : Int) from by omega, w.set (c := UInt8.ofNat n) (by rw [cntB_len]; omega) (by rw [w8 (by omega) (by omega)]; simp; omega), tidy_put w.n]
      have w2 := w.set_w (i := 0) (c := UInt8.ofNat n)
      rw [cntB_cntB] at w2 ⊢
      obtain ⟨h', e1, e2, e3⟩ := ih _ (by omega) hl w2
      exact ⟨h', e1, e2, Oth.put.trans e3⟩
    · rw [if_neg (by simpa using hs), if_neg hs, tidy_self]
      exact ⟨h, rfl, w, Oth.refl _ _⟩
theorem lp_Drop {l : List UInt8} {b N : Nat} {q : Int} {p : V} : ∀ (n : Nat) (h : H), n ≤ 16 → 64 ≤ l.length → BysW h (sv b 0 N) (cntB l n) b →
    ∃ h', Lp.impl_DropSlot 0 [iv .i64 q, p, sv b 0 N] h = some (.done [iv .i64 q, p, sv b 0 N] h') ∧ BysW h' (sv b 0 N) (cntB l (trimN l n)) b ∧ Oth b h h' := by
  intro n
  induction n with
  | zero =>
    intro h hn hl w
    have hN := w.len
    have c0 := cntB_0 (l := l) (n := 0) (by omega) (by omega)
    rw [cntB_len] at hN
    rw [eq_impl_DropSlot_l0, show iv .i64 0 = iv .i64 ((0 : Nat) : Int) from rfl, idxK_sv (by omega), w.get (by rw [cntB_len]; omega) rfl]
    simp only [gV1_s, gI_i, vcase_b]
    rw [show ((0 : Nat) : Int) = 0 from rfl, c0, if_neg (by simp), tidy_self]
    exact ⟨h, rfl, w, Oth.refl _ _⟩
  | succ n ih =>
    intro h hn hl w
    have hN := w.len
    have c0 := cntB_0 (l := l) (n := n + 1) (by omega) (by omega)
    rw [cntB_len] at hN
    have g0 : ∀ {R : Type} {k : V → Option R}, ldK (.one (.i .u8)) ⟨1, 1, [.int .u8 0], false, .int .u8, false⟩ h (pv b (0 * 1)) k = k (iv .u8 ((n + 1 : Nat) : Int)) := fun {R k} => by
      rw [w.get (by rw [cntB_len]; omega) rfl, show ((0 : Nat) : Int) = 0 from rfl, c0]
    rw [eq_impl_DropSlot_l0, show iv .i64 0 = iv .i64 ((0 : Nat) : Int) from rfl, idxK_sv (by omega), g0]
    simp only [gV1_s, gI_i, vcase_b]
    rw [if_pos (by simp), idxK_sv (by omega), g0]
    simp only [gV1_s, gI_i]
    rw [w64 (n := ((n + 1 : Nat) : Int)) (by omega) (by omega), w64 (n := 2 * ((n + 1 : Nat) : Int)) (by omega) (by omega), w64 (by omega) (by omega), show 2 * ((n + 1 : Nat) : Int) + 1 = ((3 + 2 * n : Nat) : Int) from by omega, idxK_sv (by omega), w.get (by rw [cntB_len]; omega) rfl]
    have hz : bt (cntB l (n + 1)) ((3 + 2 * n : Nat) : Int) = siz l n := cntB_siz
    simp only [gV1_s, gI_i, vcase_b, hz]
    unfold trimN
    by_cases hs : siz l n = 0
    · rw [if_pos (by simpa using hs), if_pos hs, idxK_sv (by omega), g0]
      simp only [gV1_s, gI_i]
      rw [idxK_sv (by omega), show ((n + 1 : Nat) : Int) - 1 = (n : Int) from by omega, w.set (c := UInt8.ofNat n) (by rw [cntB_len]; omega) (by rw [w8 (by omega) (by omega)]; simp; omega), tidy_put w.n]
      have w2 := w.set_w (i := 0) (c := UInt8.ofNat n)
      rw [cntB_cntB] at w2 ⊢
      obtain ⟨h', e1, e2, e3⟩ := ih _ (by omega) hl w2
      exact ⟨h', e1, e2, Oth.put.trans e3⟩
    · rw [if_neg (by simpa using hs), if_neg hs, tidy_self]
      exact ⟨h, rfl, w, Oth.refl _ _⟩
/-- a page without a slot -/
def dropL (l : List UInt8) (k : Nat) : List UInt8 := ((l.set (2 + 2 * k) 0).set (3 + 2 * k) 0)
def dropB (l : List UInt8) (k : Nat) : List UInt8 := cntB (dropL l k) (trimN (dropL l k) (cnt l))
theorem dropL_len {l : List UInt8} {k : Nat} : (dropL l k).length = l.length := by simp [dropL]
theorem dropB_len {l : List UInt8} {k : Nat} : (dropB l k).length = l.length := by simp [dropB, cntB_len, dropL_len]
theorem dropL_cnt {l : List UInt8} {k : Nat} (hl : 0 < l.length) : cntB (dropL l k) (cnt l) = dropL l k := by
  unfold cntB
  have h0 : (dropL l k)[0]? = some (UInt8.ofNat (cnt l)) := by
    unfold dropL
    rw [List.getElem?_set_ne (by omega), List.getElem?_set_ne (by omega), List.getElem?_eq_getElem hl]
    congr 1
    have := cnt_eq l
    unfold bt at this
    rw [List.getD, List.getElem?_eq_getElem (by simpa using hl), Option.getD_some] at this
    have h2 : (l[0]).toNat = cnt l := by simp at this; omega
    rw [← h2]; simp
  obtain ⟨h1, h2⟩ := List.getElem?_eq_some_iff.1 h0
  rw [← h2]
  exact List.set_getElem_self h1
theorem f_l2Copy {m : List UInt8} (hm : m.length ≤ lim) (n : Nat) : ∃ v h', call Ev Fn.spec_l2Copy [lv (bys m)] (D n) = some (v, h') ∧ NewB n h' v m (some (n + 1)) ∧ h'.n = n + 2 := by
  have e : call Ev Fn.spec_l2Copy [lv (bys m)] (D n) = call Ev Fn.impl_copied [lv (bys m)] (D n) := by rw [eq_spec_l2Copy, eq_impl_copied]
  rw [e]; exact f_copied hm n
theorem p_l2Drop {l : List UInt8} {k : Nat} (h64 : l.length = 64) (hc : cnt l ≤ 16) (hk : k < cnt l) : pureV (call Ev) Fn.spec_l2Drop [lv (bys l), iv .i64 k] = some (lv (bys (dropB l k))) := by
  obtain ⟨v, h1, e1, w1, n1⟩ := f_l2Copy (m := l) (by unfold lim; omega) 0
  rw [pu_spec_l2Drop, pF (h := D 0) (h1 := h1) (v := v) e1 ⟨by rw [(show BysW h1 v l 1 from w1.own).v]; rfl, w1.z⟩]
  have hv := (show BysW h1 v l 1 from w1.own).v
  subst hv
  have hle : (D 0).n ≤ h1.n := w1.le
  generalize hG : (D 0).over h1 = G
  have gn : G.n = h1.n := by rw [← hG, over_n hle]
  have w : BysW G (sv 1 0 l.length) l 1 := ⟨rfl, by omega, by rw [← hG, over_ge (by simp)]; exact (show BysW h1 _ l 1 from w1.own).g⟩
  rw [w64 (n := 2 * (k : Int)) (by omega) (by omega), w64 (by omega) (by omega), w64 (by omega) (by omega), show 2 + 2 * (k : Int) = ((2 + 2 * k : Nat) : Int) from by omega, show 3 + 2 * (k : Int) = ((3 + 2 * k : Nat) : Int) from by omega, idxK_sv (by omega), w.set (c := 0) (x := 0) (by omega) rfl, idxK_sv (by omega), (w.set_w).set (c := 0) (x := 0) (by simp; omega) rfl]
  have w3 := (w.set_w (i := 2 + 2 * k) (c := 0)).set_w (i := 3 + 2 * k) (c := 0)
  generalize (G.put 1 (Blk.rw 1 (List.map cell8 (l.set (2 + 2 * k) 0)))).put 1 (Blk.rw 1 (List.map cell8 ((l.set (2 + 2 * k) 0).set (3 + 2 * k) 0))) = K at w3 ⊢
  have w4 : BysW K (sv 1 0 l.length) (cntB (dropL l k) (cnt l)) 1 := by rw [dropL_cnt (by omega)]; exact w3
  obtain ⟨h', e2, e3, e4⟩ := lp_l2Drop (cnt l) _ hc (by rw [dropL_len]; omega) w4
  rw [e2, Vm.ob, lcase_done]
  simp only [gx0, Vm.ob]
  exact frz1 (ob := some 1) e3
end Vm
