/-
  The heap of the small machine turns as the world does: a new block, a write, a block that goes.
-/
import Derived.Test.YtnidgolbfmbocaaVmA
set_option linter.unusedVariables false
namespace Vm
open Go
variable {W0 : St} {base : Nat} {ρ : Rho} {h : H} {w w' : World}

theorem H.new_ne {h : H} {e b : Nat} {cs : List S} (hne : b ≠ h.n) : (h.new e cs).g b = h.g b := if_neg hne
theorem H.new_at {h : H} {e : Nat} {cs : List S} : (h.new e cs).g h.n = .rw e cs := if_pos rfl
theorem H.put_ne {h : H} {b c : Nat} {x : Blk} (hne : c ≠ b) : (h.put b x).g c = h.g c := if_neg hne
theorem H.put_at {h : H} {b : Nat} {x : Blk} : (h.put b x).g b = x := if_pos rfl
theorem H.put_n {h : H} {b : Nat} {x : Blk} : (h.put b x).n = h.n := rfl
theorem SRs.getL {ρ : Rho} {c : List S} {l : List Value} (h : SRs ρ c l) {j : Nat} {s : S} (hj : c[j]? = some s) : ∃ x, l[j]? = some x ∧ SR ρ s x := h.get hj

theorem Rel.same (r : Rel W0 base ρ h w) (hw : w'.heap = w.heap) (hio : IO w' w := by exact ⟨rfl, rfl, rfl⟩) : Rel W0 base ρ h w' where
  io := hio.trans r.io
  len := r.len
  bas := by rw [hw]; exact r.bas
  old := fun i hi => by rw [hw]; exact r.old i hi
  low := r.low
  rw := fun b i e cs h1 h2 => by rw [hw]; exact r.rw b i e cs h1 h2
  fz := r.fz.heap hw
  sep := r.sep
  inj := r.inj
theorem Frm.same (hw : w'.heap = w.heap) : Frm ρ h h w w' := ⟨Nat.le_refl _, fun _ => Nat.le_refl _, fun _ _ _ => rfl, fun _ _ _ _ _ _ _ => by rw [hw]⟩

/-- what is known of a block that is there -/
theorem Rel.lt (r : Rel W0 base ρ h w) {b : Nat} {i : BI} (hb : ρ.bl[b]? = some i) : b < h.n := by
  rw [← r.len]; exact (List.getElem?_eq_some_iff.1 hb).1
theorem Rel.of (r : Rel W0 base ρ h w) {b : Nat} (hb : b < h.n) : ∃ i, ρ.bl[b]? = some i := ⟨_, List.getElem?_eq_getElem (by rw [r.len]; exact hb)⟩

/-- **A new block.** Its first cells are cs; behind them may stand others. -/
theorem Rel.new (r : Rel W0 base ρ h w) {e el : Nat} {cs : List S} {xs ys : List Value} {arr : Array Value} {fr : Nat × Nat} (hx : SRs ρ cs xs) (ha : arr = (xs ++ ys).toArray)
    (hw : w'.heap = w.heap.push (.cells arr el fr)) (hfr : fr = (0, 0) ∨ arr.size ≤ fr.1 := by exact .inl rfl) (hio : IO w' w := by exact ⟨rfl, rfl, rfl⟩) :
    Rel W0 base (ρ.push ⟨w.heap.size, 0, e, arr.size⟩) (h.new e cs) w' where
  io := hio.trans r.io
  len := by simp [H.new, r.len]
  bas := by rw [hw]; have := r.bas; simp; omega
  old := fun i hi => by
    have := r.bas
    rw [hw, Array.getElem?_push_lt (by omega), ← Array.getElem?_eq_getElem]; exact r.old i hi
  low := r.low
  fz := fun k a hk => by
    obtain ⟨c, el', fr', h1, h2⟩ := r.fz k a hk
    have hlt := (Array.getElem?_eq_some_iff.1 h1).1
    exact ⟨c, el', fr', by rw [hw, Array.getElem?_push_lt hlt, ← Array.getElem?_eq_getElem]; exact h1, h2⟩
  sep := fun b i e' c h1 h2 => by
    change (ρ.bl ++ [(⟨w.heap.size, 0, e, arr.size⟩ : BI)])[b]? = some i at h1
    by_cases hb : b < ρ.bl.length
    · rw [List.getElem?_append_left hb] at h1
      have hne : b ≠ h.n := by rw [← r.len]; omega
      simp only [H.new, if_neg hne] at h2
      exact r.sep b i e' c h1 h2
    · have hb2 : b < (ρ.bl ++ [(⟨w.heap.size, 0, e, arr.size⟩ : BI)]).length := (List.getElem?_eq_some_iff.1 h1).1
      have hbl : b = ρ.bl.length := by simp at hb2; omega
      subst hbl
      simp at h1
      subst h1
      cases hm : ρ.mu w.heap.size with
      | none => rfl
      | some a =>
        obtain ⟨c, _, _, h1, _⟩ := r.fz _ a hm
        have := (Array.getElem?_eq_some_iff.1 h1).1
        omega
  rw := fun b i e' c h1 h2 => by
    change (ρ.bl ++ [(⟨w.heap.size, 0, e, arr.size⟩ : BI)])[b]? = some i at h1
    by_cases hb : b < ρ.bl.length
    · rw [List.getElem?_append_left hb] at h1
      have hne : b ≠ h.n := by rw [← r.len]; omega
      simp only [H.new, if_neg hne] at h2
      obtain ⟨a1, a2, k, el', fr', a3, af, a4, a5, a6⟩ := r.rw b i e' c h1 h2
      refine ⟨a1, a2, k, el', fr', ?_, af, a4, a5, fun j s hj => ?_⟩
      · have hlt := (Array.getElem?_eq_some_iff.1 a3).1
        rw [hw, Array.getElem?_push_lt hlt, ← Array.getElem?_eq_getElem]; exact a3
      · obtain ⟨x, q1, q2⟩ := a6 j s hj; exact ⟨x, q1, q2.mono (Le.push _ _)⟩
    · have hb2 : b < (ρ.bl ++ [(⟨w.heap.size, 0, e, arr.size⟩ : BI)]).length := (List.getElem?_eq_some_iff.1 h1).1
      have hbe : b = h.n := by rw [← r.len]; simp at hb2; omega
      have hbl : b = ρ.bl.length := by rw [hbe, r.len]
      subst hbl
      simp at h1
      subst h1
      simp [H.new, hbe] at h2
      obtain ⟨rfl, rfl⟩ := h2
      refine ⟨r.bas, rfl, arr, el, fr, by rw [hw]; simp, hfr, rfl, ?_, fun j s hj => ?_⟩
      · simp [ha, hx.length]
      · obtain ⟨x, q1, q2⟩ := hx.get hj
        refine ⟨x, ?_, q2.mono (Le.push _ _)⟩
        have := (List.getElem?_eq_some_iff.1 q1).1
        simp only [Nat.zero_add, ha]
        rw [List.getElem?_toArray, List.getElem?_append_left this]; exact q1
  inj := fun b b' i i' e1 e2 c1 c2 h1 h2 g1 g2 hne => by
    have key : ∀ (b : Nat) (i : BI) (e1 : Nat) (c1 : List S), (ρ.bl ++ [(⟨w.heap.size, 0, e, arr.size⟩ : BI)])[b]? = some i → (h.new e cs).g b = .rw e1 c1 →
        (b = ρ.bl.length ∧ i.blk = w.heap.size) ∨ (b < ρ.bl.length ∧ ρ.bl[b]? = some i ∧ h.g b = .rw e1 c1 ∧ i.blk < w.heap.size) := by
      intro b i e1 c1 h1 g1
      by_cases hb : b < ρ.bl.length
      · rw [List.getElem?_append_left hb] at h1
        have hne : b ≠ h.n := by rw [← r.len]; omega
        simp only [H.new, if_neg hne] at g1
        obtain ⟨a1, a2, k, el', fr', a3, _⟩ := r.rw b i e1 c1 h1 g1
        exact .inr ⟨hb, h1, g1, (Array.getElem?_eq_some_iff.1 a3).1⟩
      · have hb2 : b < (ρ.bl ++ [(⟨w.heap.size, 0, e, arr.size⟩ : BI)]).length := (List.getElem?_eq_some_iff.1 h1).1
        have hbe : b = ρ.bl.length := by simp at hb2; omega
        subst hbe
        simp at h1
        exact .inl ⟨rfl, by rw [← h1]⟩
    rcases key b i e1 c1 h1 g1 with ⟨q1, q2⟩ | ⟨q1, q2, q3, q4⟩ <;> rcases key b' i' e2 c2 h2 g2 with ⟨p1, p2⟩ | ⟨p1, p2, p3, p4⟩
    · omega
    · omega
    · omega
    · exact r.inj b b' i i' e1 e2 c1 c2 q2 p2 q3 p3 hne
theorem Rel.new_frm (r : Rel W0 base ρ h w) {e : Nat} {cs : List S} {o : Obj} (hw : w'.heap = w.heap.push o) : Frm ρ h (h.new e cs) w w' := by
  refine ⟨by simp [H.new], fun _ => Nat.le_refl _, fun b hb _ => ?_, fun b i e' c h1 h2 _ => ?_⟩
  · have : b ≠ h.n := by omega
    simp [H.new, this]
  · obtain ⟨a1, a2, k, el', fr', a3, _⟩ := r.rw b i e' c h1 h2
    have hlt := (Array.getElem?_eq_some_iff.1 a3).1
    rw [hw, Array.getElem?_push_lt hlt, ← Array.getElem?_eq_getElem]

/-- **A block is written.** -/
theorem Rel.upd (r : Rel W0 base ρ h w) {b : Nat} {i : BI} {e el : Nat} {cs cs' : List S} {c c' : Array Value} {fr : Nat × Nat} (hi : ρ.bl[b]? = some i) (hg : h.g b = .rw e cs)
    (hc : w.heap[i.blk]? = some (.cells c el fr)) (hz : w'.heap.size = w.heap.size) (ho : ∀ (j : Nat), j ≠ i.blk → w'.heap[j]? = w.heap[j]?) (hn : w'.heap[i.blk]? = some (.cells c' el fr))
    (hs : c'.size = c.size) (hl : cs'.length = cs.length) (hr : ∀ (j : Nat) (s : S), cs'[j]? = some s → ∃ y, c'[i.off + j]? = some y ∧ SR ρ s y) (hio : IO w' w := by exact ⟨rfl, rfl, rfl⟩) :
    Rel W0 base ρ (h.put b (.rw e cs')) w' where
  io := hio.trans r.io
  len := r.len
  bas := by rw [hz]; exact r.bas
  old := fun k hk => by
    have := (r.rw b i e cs hi hg).1
    rw [ho k (by omega)]; exact r.old k hk
  low := r.low
  rw := fun b' i' e' k h1 h2 => by
    by_cases hb : b' = b
    · subst hb
      rw [hi] at h1; cases h1
      simp [H.put] at h2
      obtain ⟨rfl, rfl⟩ := h2
      obtain ⟨a1, a2, k, el', fr', a3, af, a4, a5, a6⟩ := r.rw b' i e cs hi hg
      rw [hc] at a3; cases a3
      exact ⟨a1, a2, c', el, fr, hn, by rw [hs]; exact af, by rw [hs]; exact a4, by rw [hs, hl]; exact a5, hr⟩
    · simp only [H.put, if_neg hb] at h2
      obtain ⟨a1, a2, q, el', fr', a3, a4⟩ := r.rw b' i' e' k h1 h2
      have hne : i'.blk ≠ i.blk := r.inj b' b i' i e' e k cs h1 hi h2 hg hb
      exact ⟨a1, a2, q, el', fr', by rw [ho _ hne]; exact a3, a4⟩
  fz := fun k a hk => by
    have hne : k ≠ i.blk := by rintro rfl; rw [r.sep b i e cs hi hg] at hk; cases hk
    rw [ho k hne]; exact r.fz k a hk
  sep := fun b1 i1 e1 c1 h1 h2 => by
    by_cases hb : b1 = b
    · subst hb; rw [hi] at h1; cases h1; exact r.sep _ _ _ _ hi hg
    · simp only [H.put, if_neg hb] at h2; exact r.sep _ _ _ _ h1 h2
  inj := fun b1 b2 i1 i2 e1 e2 c1 c2 h1 h2 g1 g2 hne => by
    have key : ∀ (b1 : Nat) (e1 : Nat) (c1 : List S), (h.put b (.rw e cs')).g b1 = .rw e1 c1 → ∃ e3 c3, h.g b1 = .rw e3 c3 := by
      intro b1 e1 c1 g1
      by_cases hb : b1 = b
      · subst hb; exact ⟨_, _, hg⟩
      · simp only [H.put, if_neg hb] at g1; exact ⟨_, _, g1⟩
    obtain ⟨e3, c3, k1⟩ := key b1 e1 c1 g1
    obtain ⟨e4, c4, k2⟩ := key b2 e2 c2 g2
    exact r.inj b1 b2 i1 i2 e3 e4 c3 c4 h1 h2 k1 k2 hne
theorem Rel.upd_frm (r : Rel W0 base ρ h w) {b : Nat} {i : BI} {e : Nat} {cs : List S} {x : Blk} (hi : ρ.bl[b]? = some i) (hg : h.g b = .rw e cs) (ho : ∀ (j : Nat), j ≠ i.blk → w'.heap[j]? = w.heap[j]?) :
    Frm ρ h (h.put b x) w w' := by
  refine ⟨Nat.le_refl _, fun k => ?_, fun k hk hv => ?_, fun k i' e' c h1 h2 hv => ?_⟩
  · simp only [H.put]; split <;> omega
  · by_cases hb : k = b
    · subst hb; simp [H.put] at hv
    · simp [H.put, hb]
  · by_cases hb : k = b
    · subst hb; simp [H.put] at hv
    · exact ho _ (r.inj k b i' i e' e c cs h1 hi h2 hg hb)

/-- **A block goes.** -/
theorem Rel.kill (r : Rel W0 base ρ h w) (b : Nat) : Rel W0 base ρ (h.put b .dead) w where
  io := r.io
  len := r.len
  bas := r.bas
  old := r.old
  low := r.low
  rw := fun b' i' e' k h1 h2 => by
    by_cases hb : b' = b
    · subst hb; simp [H.put] at h2
    · simp only [H.put, if_neg hb] at h2; exact r.rw b' i' e' k h1 h2
  fz := r.fz
  sep := fun b1 i1 e1 c1 h1 h2 => by
    by_cases hb : b1 = b
    · subst hb; simp [H.put] at h2
    · simp only [H.put, if_neg hb] at h2; exact r.sep _ _ _ _ h1 h2
  inj := fun b1 b2 i1 i2 e1 e2 c1 c2 h1 h2 g1 g2 hne => by
    by_cases hb : b1 = b
    · subst hb; simp [H.put] at g1
    · by_cases hb' : b2 = b
      · subst hb'; simp [H.put] at g2
      · simp only [H.put, if_neg hb] at g1; simp only [H.put, if_neg hb'] at g2
        exact r.inj b1 b2 i1 i2 e1 e2 c1 c2 h1 h2 g1 g2 hne
theorem kill_frm (b : Nat) {x : Blk} : Frm ρ h (h.put b x) w w := by
  refine ⟨Nat.le_refl _, fun k => ?_, fun k hk hv => ?_, fun k i' e' c h1 h2 hv => rfl⟩
  · simp only [H.put]; split <;> omega
  · by_cases hb : k = b
    · subst hb; simp [H.put] at hv
    · simp [H.put, hb]

/-- **The old block goes, and what it was made of is written into its own place** (append, where there is room). -/
theorem Rel.over (r : Rel W0 base ρ h w) {b o : Nat} {i : BI} {e el : Nat} {cs cs' : List S} {c c' : Array Value} {fr : Nat × Nat} (hi : ρ.bl[b]? = some i) (hg : h.g b = .rw e cs)
    (hc : w.heap[i.blk]? = some (.cells c el fr)) (hz : w'.heap.size = w.heap.size) (ho : ∀ (j : Nat), j ≠ i.blk → w'.heap[j]? = w.heap[j]?) (hn : w'.heap[i.blk]? = some (.cells c' el fr))
    (hs : c'.size = c.size) (hl : i.off + o + cs'.length ≤ c.size) (hr : ∀ (j : Nat) (s : S), cs'[j]? = some s → ∃ y, c'[i.off + o + j]? = some y ∧ SR ρ s y) (hio : IO w' w := by exact ⟨rfl, rfl, rfl⟩) :
    Rel W0 base (ρ.push ⟨i.blk, i.off + o, e, i.top⟩) ((h.put b .dead).new e cs') w' := by
  have hrw := r.rw b i e cs hi hg
  have old : ∀ (b' : Nat) (i' : BI) (e' : Nat) (k : List S), b' < ρ.bl.length → (ρ.bl ++ [(⟨i.blk, i.off + o, e, i.top⟩ : BI)])[b']? = some i' → ((h.put b .dead).new e cs').g b' = .rw e' k →
      ρ.bl[b']? = some i' ∧ h.g b' = .rw e' k ∧ b' ≠ b := by
    intro b' i' e' k hb h1 h2
    rw [List.getElem?_append_left hb] at h1
    have hne : b' ≠ h.n := by rw [← r.len]; omega
    rw [H.new_ne (h := h.put b .dead) hne] at h2
    by_cases hb' : b' = b
    · rw [hb', H.put_at] at h2; cases h2
    · rw [H.put_ne hb'] at h2; exact ⟨h1, h2, hb'⟩
  have new : ∀ (b' : Nat) (i' : BI), ¬ b' < ρ.bl.length → (ρ.bl ++ [(⟨i.blk, i.off + o, e, i.top⟩ : BI)])[b']? = some i' → b' = ρ.bl.length ∧ i' = ⟨i.blk, i.off + o, e, i.top⟩ := by
    intro b' i' hb h1
    have hb2 := (List.getElem?_eq_some_iff.1 h1).1
    have hbe : b' = ρ.bl.length := by simp at hb2; omega
    subst hbe
    simp at h1
    exact ⟨rfl, h1.symm⟩
  refine ⟨hio.trans r.io, by simp [H.new, H.put, r.len], by rw [hz]; exact r.bas, fun k hk => by rw [ho k (by omega)]; exact r.old k hk, r.low, fun b' i' e' k h1 h2 => ?_, fun k a hk => ?_, fun b' i' e' k h1 h2 => ?_, fun b1 b2 i1 i2 e1 e2 c1 c2 h1 h2 g1 g2 hne => ?_⟩
  · by_cases hb : b' < ρ.bl.length
    · obtain ⟨q1, q2, q3⟩ := old b' i' e' k hb h1 h2
      obtain ⟨a1, a2, q, el', fr', a3, af, a4, a5, a6⟩ := r.rw b' i' e' k q1 q2
      have hne : i'.blk ≠ i.blk := r.inj b' b i' i e' e k cs q1 hi q2 hg q3
      exact ⟨a1, a2, q, el', fr', by rw [ho _ hne]; exact a3, af, a4, a5, fun j s hj => by obtain ⟨x, p1, p2⟩ := a6 j s hj; exact ⟨x, p1, p2.mono (Le.push _ _)⟩⟩
    · obtain ⟨q1, rfl⟩ := new b' i' hb h1
      have hbn : b' = h.n := by rw [q1, r.len]
      simp [H.new, H.put, hbn] at h2
      obtain ⟨rfl, rfl⟩ := h2
      obtain ⟨a1, a2, q, el', fr', a3, af, a4, _⟩ := hrw
      rw [hc] at a3; cases a3
      exact ⟨a1, rfl, c', el, fr, hn, by rw [hs]; exact af, by rw [hs]; exact a4, by rw [hs]; exact hl, fun j s hj => by obtain ⟨x, p1, p2⟩ := hr j s hj; exact ⟨x, p1, p2.mono (Le.push _ _)⟩⟩
  · have hne : k ≠ i.blk := by rintro rfl; rw [r.sep b i e cs hi hg] at hk; cases hk
    rw [ho k hne]; exact r.fz k a hk
  · by_cases hb : b' < ρ.bl.length
    · obtain ⟨q1, q2, q3⟩ := old b' i' e' k hb h1 h2
      exact r.sep _ _ _ _ q1 q2
    · obtain ⟨q1, rfl⟩ := new b' i' hb h1
      exact (show ρ.mu i.blk = none from r.sep b i e cs hi hg)
  · by_cases hb1 : b1 < ρ.bl.length <;> by_cases hb2 : b2 < ρ.bl.length
    · obtain ⟨q1, q2, q3⟩ := old b1 i1 e1 c1 hb1 h1 g1
      obtain ⟨p1, p2, p3⟩ := old b2 i2 e2 c2 hb2 h2 g2
      exact r.inj b1 b2 i1 i2 e1 e2 c1 c2 q1 p1 q2 p2 hne
    · obtain ⟨q1, q2, q3⟩ := old b1 i1 e1 c1 hb1 h1 g1
      obtain ⟨p1, rfl⟩ := new b2 i2 hb2 h2
      exact r.inj b1 b i1 i e1 e c1 cs q1 hi q2 hg q3
    · obtain ⟨q1, q2, q3⟩ := old b2 i2 e2 c2 hb2 h2 g2
      obtain ⟨p1, rfl⟩ := new b1 i1 hb1 h1
      exact (r.inj b2 b i2 i e2 e c2 cs q1 hi q2 hg q3).symm
    · obtain ⟨p1, _⟩ := new b2 i2 hb2 h2
      obtain ⟨q1, _⟩ := new b1 i1 hb1 h1
      omega
theorem Rel.over_frm (r : Rel W0 base ρ h w) {b : Nat} {i : BI} {e e' : Nat} {cs cs' : List S} (hi : ρ.bl[b]? = some i) (hg : h.g b = .rw e cs) (ho : ∀ (j : Nat), j ≠ i.blk → w'.heap[j]? = w.heap[j]?) :
    Frm ρ h ((h.put b .dead).new e' cs') w w' := by
  refine ⟨by simp [H.new, H.put], fun k => ?_, fun k hk hv => ?_, fun k i' e' c h1 h2 hv => ?_⟩
  · simp only [H.new, H.put]; split <;> omega
  · by_cases hb : k = b
    · subst hb; simp [H.new, H.put] at hv
    · have : k ≠ h.n := by omega
      simp [H.new, H.put, hb, this]
  · by_cases hb : k = b
    · subst hb; simp [H.new, H.put] at hv
    · exact ho _ (r.inj k b i' i _ e c cs h1 hi h2 hg hb)
end Vm
