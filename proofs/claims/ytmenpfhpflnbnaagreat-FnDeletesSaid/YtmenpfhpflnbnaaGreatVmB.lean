/-
  The heap of the small machine turns as the world does: a new block, a write, a block that goes.
-/
import Derived.Test.YtmenpfhpflnbnaaGreatVmA
set_option linter.unusedVariables false
open Array renaming getElem?_eq_getElem->DC,getElem?_eq_some_iff->FN,getElem?_push_lt->Iy
open List renaming getElem?_append_left->HZ,getElem?_eq_some_iff->HF
open Nat renaming le_refl->Hx
namespace Vm
open Go
variable {W0 : St} {base : Nat} {ρ : Rho} {h : H} {w w' : World}
theorem H.new_ne {h : H} {e b : Nat} {cs : List S} (hne : b ≠ h.n) : (h.new e cs).g b = h.g b := if_neg hne
theorem H.new_at {h : H} {e : Nat} {cs : List S} : (h.new e cs).g h.n = .rw e cs := if_pos rfl
theorem H.put_ne {h : H} {b c : Nat} {x : Blk} (hne : c ≠ b) : (h.put b x).g c = h.g c := if_neg hne
theorem H.put_at {h : H} {b : Nat} {x : Blk} : (h.put b x).g b = x := if_pos rfl
theorem Rel.same (r : Rel W0 base ρ h w) (hw : w'.heap = w.heap) (hio : IO w' w := by exact ⟨rfl, rfl, rfl⟩) : Rel W0 base ρ h w' where
 io := hio.trans r.io
 len := r.len
 bas := by rw [hw]; exact r.bas
 old := fun i hi => by rw [hw]; exact r.old i hi
 low := r.low
 rw := fun b i e cs h1 h2 => by rw [hw]; exact r.rw b i e cs h1 h2
 fz := r.fz.heap hw
 mp := fun b i es h1 h2 => by rw [hw]; exact r.mp b i es h1 h2
 sep0 := r.sep0
 inj0 := r.inj0
theorem Frm.same (hw : w'.heap = w.heap) : Frm ρ h h w w' := ⟨Hx _, fun _ => Hx _, fun _ _ _ => rfl, fun _ _ _ _ _ => by rw [hw]⟩
theorem Rel.lt (r : Rel W0 base ρ h w) {b : Nat} {i : BI} (hb : ρ.bl[b]? = some i) : b < h.n := by
 rw [<- r.len]; exact (HF.1 hb).1
theorem Rel.pushB (r : Rel W0 base ρ h w) {i0 : BI} {x : Blk} {o : Obj} (hib : i0.blk = w.heap.size) (hw : w'.heap = w.heap.push o)
  (hrw : ∀ e cs, x = .rw e cs -> i0.e = e /\ ∃ c el fr, o = .cells c el fr /\ (fr = (0, 0) \/ c.size <= fr.1) /\ c.size = i0.top /\ i0.off + cs.length <= c.size /\ ∀ (j : Nat) (s : S), cs[j]? = some s -> ∃ y, c[i0.off + j]? = some y /\ SR ρ s y)
  (hmp : ∀ es, x = .mp es -> ∃ ents clock, o = .map ents clock /\ EsR es ents.toList) (hio : IO w' w := by exact ⟨rfl, rfl, rfl⟩) :
  Rel W0 base (ρ.push i0) ⟨h.n + 1, fun i => if i = h.n then x else h.g i, h.v⟩ w' := by
 have key : ∀ (b : Nat) (i : BI), (ρ.bl ++ [i0])[b]? = some i -> (b = h.n /\ i = i0) \/ (b ≠ h.n /\ ρ.bl[b]? = some i) := by
  intro b i h1
  by_cases hb : b < ρ.bl.length
  ·rw [HZ hb] at h1
   exact .inr ⟨by rw [<- r.len]; omega, h1⟩
  ·have hb2 : b < (ρ.bl ++ [i0]).length := (HF.1 h1).1
   have hbe : b = ρ.bl.length := by simp at hb2; omega
   subst hbe;simp at h1;exact .inl ⟨r.len, h1.symm⟩
 have hpush : ∀ k, k < w.heap.size -> w'.heap[k]? = w.heap[k]? := fun k hk => by rw [hw, Iy hk, <- DC]
 have htop : w'.heap[w.heap.size]? = some o := by rw [hw]; simp
 refine ⟨hio.trans r.io, by simp [r.len], by rw [hw]; have := r.bas; simp; omega, fun k hk => by rw [hpush k (Nat.lt_of_lt_of_le hk r.bas)]; exact r.old k hk, r.low, fun b i e cs h1 h2 => ?_, fun k a hk => ?_, fun b i es h1 h2 => ?_, fun b i h1 h2 => ?_, fun b b' i i' h1 h1' h2 h2' hne => ?_⟩
 ·rcases key b i h1 with ⟨rfl, rfl⟩ | ⟨hb, hi⟩
  ·simp only [if_true] at h2
   obtain ⟨a1, c, el, fr, rfl, a2, a3, a4, a5⟩ := hrw e cs h2;exact ⟨by rw [hib]; exact r.bas, a1, c, el, fr, by rw [hib]; exact htop, a2, a3, a4, fun j s hj => by obtain ⟨y, p1, p2⟩ := a5 j s hj; exact ⟨y, p1, p2.mono (Le.push _ _)⟩⟩
  ·simp only [if_neg hb] at h2
   obtain ⟨a1, a2, k, el', fr', a3, af, a4, a5, a6⟩ := r.rw b i e cs hi h2;exact ⟨a1, a2, k, el', fr', by rw [hpush _ (FN.1 a3).1]; exact a3, af, a4, a5, fun j s hj => by obtain ⟨y, p1, p2⟩ := a6 j s hj; exact ⟨y, p1, p2.mono (Le.push _ _)⟩⟩
 ·obtain ⟨c, el', fr', h1, h2⟩ := r.fz k a hk
  exact ⟨c, el', fr', by rw [hpush _ (FN.1 h1).1]; exact h1, h2⟩
 ·rcases key b i h1 with ⟨rfl, rfl⟩ | ⟨hb, hi⟩
  ·simp only [if_true] at h2
   obtain ⟨ents, cl, rfl, a2⟩ := hmp es h2;exact ⟨by rw [hib]; exact r.bas, ents, cl, by rw [hib]; exact htop, a2⟩
  ·simp only [if_neg hb] at h2
   obtain ⟨a1, ents, cl, a3, a4⟩ := r.mp b i es hi h2;exact ⟨a1, ents, cl, by rw [hpush _ (FN.1 a3).1]; exact a3, a4⟩
 ·rcases key b i h1 with ⟨rfl, rfl⟩ | ⟨hb, hi⟩
  ·show ρ.mu i.blk = none
   cases hm : ρ.mu i.blk with
   | none => rfl
   | some a =>
    obtain ⟨c, _, _, h1, _⟩ := r.fz _ a hm;have := (FN.1 h1).1;omega
  ·simp only [if_neg hb] at h2
   exact r.sep0 b i hi h2
 ·rcases key b i h1 with ⟨rfl, rfl⟩ | ⟨hb, hi⟩ <;> rcases key b' i' h1' with ⟨rfl, rfl⟩ | ⟨hb', hi'⟩
  · exact absurd rfl hne
  ·simp only [if_neg hb'] at h2'
   have := (r.liv hi' h2').2;omega
  ·simp only [if_neg hb] at h2
   have := (r.liv hi h2).2;omega
  ·simp only [if_neg hb] at h2
   simp only [if_neg hb'] at h2';exact r.inj0 b b' i i' hi hi' h2 h2' hne
theorem Rel.pushB_frm (r : Rel W0 base ρ h w) {x : Blk} {o : Obj} (hw : w'.heap = w.heap.push o) : Frm ρ h ⟨h.n + 1, fun i => if i = h.n then x else h.g i, h.v⟩ w w' := by
 refine ⟨Nat.le_succ _, fun _ => Hx _, fun b hb _ => ?_, fun b i h1 h2 _ => ?_⟩
 ·have : b ≠ h.n := by omega
  simp [this]
 ·have hlt := (r.liv h1 h2).2
  rw [hw, Iy hlt, <- DC]
theorem Rel.new (r : Rel W0 base ρ h w) {e el : Nat} {cs : List S} {xs ys : List Value} {arr : Array Value} {fr : Nat × Nat} (hx : SRs ρ cs xs) (ha : arr = (xs ++ ys).toArray)
  (hw : w'.heap = w.heap.push (.cells arr el fr)) (hfr : fr = (0, 0) \/ arr.size <= fr.1 := by exact .inl rfl) (hio : IO w' w := by exact ⟨rfl, rfl, rfl⟩) :
  Rel W0 base (ρ.push ⟨w.heap.size, 0, e, arr.size⟩) (h.new e cs) w' := by
 refine r.pushB (i0 := ⟨w.heap.size, 0, e, arr.size⟩) (x := .rw e cs) rfl hw (fun e' c' hh => ?_) (fun es hh => by cases hh) hio
 cases hh
 refine ⟨rfl, arr, el, fr, rfl, hfr, rfl, by simp [ha, hx.length], fun j s hj => ?_⟩
 obtain ⟨x, q1, q2⟩ := hx.get hj;refine ⟨x, ?_, q2⟩;have := (HF.1 q1).1;simp only [Nat.zero_add, ha];rw [List.getElem?_toArray, HZ this]; exact q1
theorem Rel.new_frm (r : Rel W0 base ρ h w) {e : Nat} {cs : List S} {o : Obj} (hw : w'.heap = w.heap.push o) : Frm ρ h (h.new e cs) w w' := r.pushB_frm hw
theorem Rel.updB (r : Rel W0 base ρ h w) {b : Nat} {i : BI} {x : Blk} (hi : ρ.bl[b]? = some i) (hg : h.g b ≠ .dead)
  (hz : w'.heap.size = w.heap.size) (ho : ∀ (j : Nat), j ≠ i.blk -> w'.heap[j]? = w.heap[j]?)
  (hrw : ∀ e cs, x = .rw e cs -> i.e = e /\ ∃ c el fr, w'.heap[i.blk]? = some (.cells c el fr) /\ (fr = (0, 0) \/ c.size <= fr.1) /\ c.size = i.top /\ i.off + cs.length <= c.size /\ ∀ (j : Nat) (s : S), cs[j]? = some s -> ∃ y, c[i.off + j]? = some y /\ SR ρ s y)
  (hmp : ∀ es, x = .mp es -> ∃ ents clock, w'.heap[i.blk]? = some (.map ents clock) /\ EsR es ents.toList) (hio : IO w' w := by exact ⟨rfl, rfl, rfl⟩) :
  Rel W0 base ρ (h.put b x) w' where
 io := hio.trans r.io
 len := r.len
 bas := by rw [hz]; exact r.bas
 old := fun k hk => by
  have := (r.liv hi hg).1;rw [ho k (by omega)]; exact r.old k hk
 low := r.low
 rw := fun b' i' e' k h1 h2 => by
  by_cases hb : b' = b
  ·subst hb
   rw [hi] at h1; cases h1;simp only [H.put, if_true] at h2;obtain ⟨a1, a2⟩ := hrw e' k h2;exact ⟨(r.liv hi hg).1, a1, a2⟩
  ·simp only [H.put, if_neg hb] at h2
   obtain ⟨a1, a2, q, el', fr', a3, a4⟩ := r.rw b' i' e' k h1 h2;have hne : i'.blk ≠ i.blk := r.inj0 b' b i' i h1 hi (Blk.live h2) hg hb;exact ⟨a1, a2, q, el', fr', by rw [ho _ hne]; exact a3, a4⟩
 fz := fun k a hk => by
  have hne : k ≠ i.blk := by rintro rfl; rw [r.sep0 b i hi hg] at hk; cases hk
  rw [ho k hne]; exact r.fz k a hk
 mp := fun b' i' es h1 h2 => by
  by_cases hb : b' = b
  ·subst hb
   rw [hi] at h1; cases h1;simp only [H.put, if_true] at h2;exact ⟨(r.liv hi hg).1, hmp es h2⟩
  ·simp only [H.put, if_neg hb] at h2
   obtain ⟨a1, ents, cl, a3, a4⟩ := r.mp b' i' es h1 h2;have hne : i'.blk ≠ i.blk := r.inj0 b' b i' i h1 hi (Blk.liveM h2) hg hb;exact ⟨a1, ents, cl, by rw [ho _ hne]; exact a3, a4⟩
 sep0 := fun b1 i1 h1 h2 => by
  by_cases hb : b1 = b
  · subst hb; rw [hi] at h1; cases h1; exact r.sep0 _ _ hi hg
  · simp only [H.put, if_neg hb] at h2; exact r.sep0 _ _ h1 h2
 inj0 := fun b1 b2 i1 i2 h1 h2 g1 g2 hne => by
  have key : ∀ b1, (h.put b x).g b1 ≠ .dead -> h.g b1 ≠ .dead := by
   intro b1 g1
   by_cases hb : b1 = b
   · subst hb; exact hg
   · simpa only [H.put, if_neg hb] using g1
  exact r.inj0 b1 b2 i1 i2 h1 h2 (key _ g1) (key _ g2) hne
theorem Rel.updB_frm (r : Rel W0 base ρ h w) {b : Nat} {i : BI} {x : Blk} (hi : ρ.bl[b]? = some i) (hg : h.g b ≠ .dead) (ho : ∀ (j : Nat), j ≠ i.blk -> w'.heap[j]? = w.heap[j]?) :
  Frm ρ h (h.put b x) w w' := by
 refine ⟨Hx _, fun k => ?_, fun k hk hv => ?_, fun k i' h1 h2 hv => ?_⟩
 · simp only [H.put]; split <;> omega
 ·by_cases hb : k = b
  · subst hb; simp [H.put] at hv
  · simp [H.put, hb]
 ·by_cases hb : k = b
  · subst hb; simp [H.put] at hv
  · exact ho _ (r.inj0 k b i' i h1 hi h2 hg hb)
theorem Rel.upd (r : Rel W0 base ρ h w) {b : Nat} {i : BI} {e el : Nat} {cs cs' : List S} {c c' : Array Value} {fr : Nat × Nat} (hi : ρ.bl[b]? = some i) (hg : h.g b = .rw e cs)
  (hc : w.heap[i.blk]? = some (.cells c el fr)) (hz : w'.heap.size = w.heap.size) (ho : ∀ (j : Nat), j ≠ i.blk -> w'.heap[j]? = w.heap[j]?) (hn : w'.heap[i.blk]? = some (.cells c' el fr))
  (hs : c'.size = c.size) (hl : cs'.length = cs.length) (hr : ∀ (j : Nat) (s : S), cs'[j]? = some s -> ∃ y, c'[i.off + j]? = some y /\ SR ρ s y) (hio : IO w' w := by exact ⟨rfl, rfl, rfl⟩) :
  Rel W0 base ρ (h.put b (.rw e cs')) w' := by
 obtain ⟨a1, a2, k, el', fr', a3, af, a4, a5, a6⟩ := r.rw b i e cs hi hg;rw [hc] at a3; cases a3;refine r.updB hi (Blk.live hg) hz ho (fun e1 c1 hh => ?_) (fun es hh => by cases hh) hio
 cases hh
 exact ⟨a2, c', el, fr, hn, by rw [hs]; exact af, by rw [hs]; exact a4, by rw [hs, hl]; exact a5, hr⟩
theorem Rel.upd_frm (r : Rel W0 base ρ h w) {b : Nat} {i : BI} {e : Nat} {cs : List S} {x : Blk} (hi : ρ.bl[b]? = some i) (hg : h.g b = .rw e cs) (ho : ∀ (j : Nat), j ≠ i.blk -> w'.heap[j]? = w.heap[j]?) :
  Frm ρ h (h.put b x) w w' := r.updB_frm hi (Blk.live hg) ho
theorem Rel.kill (r : Rel W0 base ρ h w) (b : Nat) : Rel W0 base ρ (h.put b .dead) w where
 io := r.io
 len := r.len
 bas := r.bas
 old := r.old
 low := r.low
 rw := fun b' i' e' k h1 h2 => by
  by_cases hb : b' = b
  · subst hb; simp [H.put] at h2
  · simp only [H.put, if_neg hb] at h2; exact r.rw b' i' e' k h1 h2
 fz := r.fz
 mp := fun b' i' es h1 h2 => by
  by_cases hb : b' = b
  · subst hb; simp [H.put] at h2
  · simp only [H.put, if_neg hb] at h2; exact r.mp b' i' es h1 h2
 sep0 := fun b1 i1 h1 h2 => by
  by_cases hb : b1 = b
  · subst hb; simp [H.put] at h2
  · simp only [H.put, if_neg hb] at h2; exact r.sep0 _ _ h1 h2
 inj0 := fun b1 b2 i1 i2 h1 h2 g1 g2 hne => by
  by_cases hb : b1 = b
  · subst hb; simp [H.put] at g1
  ·by_cases hb' : b2 = b
   · subst hb'; simp [H.put] at g2
   ·simp only [H.put, if_neg hb] at g1; simp only [H.put, if_neg hb'] at g2
    exact r.inj0 b1 b2 i1 i2 h1 h2 g1 g2 hne
theorem uf (b : Nat) {x : Blk} : Frm ρ h (h.put b x) w w := by
 refine ⟨Hx _, fun k => ?_, fun k hk hv => ?_, fun k i' h1 h2 hv => rfl⟩
 · simp only [H.put]; split <;> omega
 ·by_cases hb : k = b
  · subst hb; simp [H.put] at hv
  · simp [H.put, hb]
theorem Rel.over (r : Rel W0 base ρ h w) {b o : Nat} {i : BI} {e el : Nat} {cs cs' : List S} {c c' : Array Value} {fr : Nat × Nat} (hi : ρ.bl[b]? = some i) (hg : h.g b = .rw e cs)
  (hc : w.heap[i.blk]? = some (.cells c el fr)) (hz : w'.heap.size = w.heap.size) (ho : ∀ (j : Nat), j ≠ i.blk -> w'.heap[j]? = w.heap[j]?) (hn : w'.heap[i.blk]? = some (.cells c' el fr))
  (hs : c'.size = c.size) (hl : i.off + o + cs'.length <= c.size) (hr : ∀ (j : Nat) (s : S), cs'[j]? = some s -> ∃ y, c'[i.off + o + j]? = some y /\ SR ρ s y) (hio : IO w' w := by exact ⟨rfl, rfl, rfl⟩) :
  Rel W0 base (ρ.push ⟨i.blk, i.off + o, e, i.top⟩) ((h.put b .dead).new e cs') w' := by
 have hrw := r.rw b i e cs hi hg;have hgl := Blk.live hg;have key : ∀ (b' : Nat) (i' : BI), (ρ.bl ++ [(⟨i.blk, i.off + o, e, i.top⟩ : BI)])[b']? = some i' -> ((h.put b .dead).new e cs').g b' ≠ .dead ->
   (b' = h.n /\ i' = ⟨i.blk, i.off + o, e, i.top⟩) \/ (ρ.bl[b']? = some i' /\ ((h.put b .dead).new e cs').g b' = h.g b' /\ b' ≠ b /\ h.g b' ≠ .dead) := by
  intro b' i' h1 h2
  by_cases hb : b' < ρ.bl.length
  ·rw [HZ hb] at h1
   have hne : b' ≠ h.n := by rw [<- r.len]; omega
   rw [H.new_ne (h := h.put b .dead) hne] at h2 ⊢
   by_cases hb' : b' = b
   · rw [hb', H.put_at] at h2; exact absurd rfl h2
   · rw [H.put_ne hb'] at h2 ⊢; exact .inr ⟨h1, rfl, hb', h2⟩
  ·have hb2 := (HF.1 h1).1
   have hbe : b' = ρ.bl.length := by simp at hb2; omega
   subst hbe;simp at h1;exact .inl ⟨r.len, h1.symm⟩
 have hat : ((h.put b .dead).new e cs').g h.n = .rw e cs' := H.new_at (h := h.put b .dead);have hblk := (r.liv hi hgl).1;refine ⟨hio.trans r.io, by simp [H.new, H.put, r.len], by rw [hz]; exact r.bas, fun k hk => by rw [ho k (by omega)]; exact r.old k hk, r.low, fun b' i' e' k h1 h2 => ?_, fun k a hk => ?_, fun b' i' es h1 h2 => ?_, fun b' i' h1 h2 => ?_, fun b1 b2 i1 i2 h1 h2 g1 g2 hne => ?_⟩
 ·rcases key b' i' h1 (Blk.live h2) with ⟨rfl, rfl⟩ | ⟨q1, q2, q3, q4⟩
  ·rw [hat] at h2; cases h2
   obtain ⟨a1, a2, q, el', fr', a3, af, a4, _⟩ := hrw;rw [hc] at a3; cases a3;exact ⟨a1, rfl, c', el, fr, hn, by rw [hs]; exact af, by rw [hs]; exact a4, by rw [hs]; exact hl, fun j s hj => by obtain ⟨x, p1, p2⟩ := hr j s hj; exact ⟨x, p1, p2.mono (Le.push _ _)⟩⟩
  ·rw [q2] at h2
   obtain ⟨a1, a2, q, el', fr', a3, af, a4, a5, a6⟩ := r.rw b' i' e' k q1 h2;have hne : i'.blk ≠ i.blk := r.inj0 b' b i' i q1 hi q4 hgl q3;exact ⟨a1, a2, q, el', fr', by rw [ho _ hne]; exact a3, af, a4, a5, fun j s hj => by obtain ⟨x, p1, p2⟩ := a6 j s hj; exact ⟨x, p1, p2.mono (Le.push _ _)⟩⟩
 ·have hne : k ≠ i.blk := by rintro rfl; rw [r.sep0 b i hi hgl] at hk; cases hk
  rw [ho k hne]; exact r.fz k a hk
 ·rcases key b' i' h1 (Blk.liveM h2) with ⟨rfl, rfl⟩ | ⟨q1, q2, q3, q4⟩
  · rw [hat] at h2; cases h2
  ·rw [q2] at h2
   obtain ⟨a1, ents, cl, a3, a4⟩ := r.mp b' i' es q1 h2;have hne : i'.blk ≠ i.blk := r.inj0 b' b i' i q1 hi q4 hgl q3;exact ⟨a1, ents, cl, by rw [ho _ hne]; exact a3, a4⟩
 ·rcases key b' i' h1 h2 with ⟨rfl, rfl⟩ | ⟨q1, q2, q3, q4⟩
  · exact (show ρ.mu i.blk = none from r.sep0 b i hi hgl)
  · exact r.sep0 _ _ q1 q4
 ·rcases key b1 i1 h1 g1 with ⟨rfl, rfl⟩ | ⟨q1, q2, q3, q4⟩ <;> rcases key b2 i2 h2 g2 with ⟨rfl, rfl⟩ | ⟨p1, p2, p3, p4⟩
  · exact absurd rfl hne
  · exact (r.inj0 b2 b i2 i p1 hi p4 hgl p3).symm
  · exact r.inj0 b1 b i1 i q1 hi q4 hgl q3
  · exact r.inj0 b1 b2 i1 i2 q1 p1 q4 p4 hne
theorem Rel.over_frm (r : Rel W0 base ρ h w) {b : Nat} {i : BI} {e e' : Nat} {cs cs' : List S} (hi : ρ.bl[b]? = some i) (hg : h.g b = .rw e cs) (ho : ∀ (j : Nat), j ≠ i.blk -> w'.heap[j]? = w.heap[j]?) :
  Frm ρ h ((h.put b .dead).new e' cs') w w' := by
 refine ⟨by simp [H.new, H.put], fun k => ?_, fun k hk hv => ?_, fun k i' h1 h2 hv => ?_⟩
 · simp only [H.new, H.put]; split <;> omega
 ·by_cases hb : k = b
  · subst hb; simp [H.new, H.put] at hv
  ·have : k ≠ h.n := by omega
   simp [H.new, H.put, hb, this]
 ·by_cases hb : k = b
  · subst hb; simp [H.new, H.put] at hv
  · exact ho _ (r.inj0 k b i' i h1 hi h2 (Blk.live hg) hb)
end Vm
