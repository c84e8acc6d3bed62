/-
  What a heap lets go; values frozen; calls of frozen arguments.
-/
import Derived.Test.YtmenpfhpflnbnaaGreatVmJ
set_option linter.unusedVariables false
set_option linter.unusedSimpArgs false
set_option linter.unusedSectionVars false
open Array renaming getD_eq_getD_getElem?->FX
open Bool renaming and_eq_true->HE
open List renaming all_cons->HG,getElem?_drop->FO,getElem?_take->FG
open Nat renaming add_assoc->Fv,succ_mul->Ew
open Option renaming bind_eq_some_iff->Hv
namespace Vm
open Go
variable {W0 : St} {base : Nat} {ρ ρ' : Rho} {h h' : H} {w w' : World} {P : Program} {E : Env} {R : Type}
theorem MM (hle : Le ρ ρ') {b : Nat} {i : BI} (hb : b < ρ.bl.length) (hi : ρ'.bl[b]? = some i) : ρ.bl[b]? = some i := by
 obtain ⟨y, hy⟩ : ∃ y, ρ.bl[b]? = some y := ⟨_, List.getElem?_eq_getElem hb⟩;have := hle.1 _ _ hy;rw [hi] at this; cases this; exact hy
theorem CR.bel (hle : Le ρ ρ') {mu : Nat -> Option (Array Value)} : ∀ {c : List (Nat × Nat)} {l : List Value}, CR ρ' c l -> (c.all fun p => decide (p.1 < ρ.bl.length)) = true -> CR ⟨ρ.bl, mu⟩ c l
 | [], [], _, _ => trivial
 | (b, o) :: c, v :: l, h, hs => by
  simp only [HG, HE, decide_eq_true_eq] at hs;obtain ⟨⟨i, h1, h2⟩, h3⟩ := h;exact ⟨⟨i, MM hle hs.1 h1, h2⟩, CR.bel hle h3 hs.2⟩
 | [], _ :: _, h, _ => h.elim
 | _ :: _, [], h, _ => h.elim
theorem SR.bel (hle : Le ρ ρ') {s : S} {x : Value} (h : SR ρ' s x) (hs : QR ρ.bl.length s = true) : SR ⟨ρ.bl, ρ'.mu⟩ s x := by
 cases s with
 | no => exact h
 | bool b => exact h
 | int k n => exact h
 | str s => exact h
 | nofn => exact h
 | ptr a =>
  cases a with
  | none => exact h
  | some p =>
   simp only [QR, decide_eq_true_eq] at hs;obtain ⟨i, h1, h2⟩ := h; exact ⟨i, MM hle hs h1, h2⟩
 | sl a n =>
  cases a with
  | none => exact h
  | some p =>
   simp only [QR, decide_eq_true_eq] at hs;obtain ⟨i, a, cap, h1, h2⟩ := h; exact ⟨i, a, cap, MM hle hs h1, h2⟩
 | fn f c => obtain ⟨xs, h1, h2⟩ := h; exact ⟨xs, h1, h2.bel hle hs⟩
 | mp b =>
  cases b with
  | none => exact h
  | some b =>
   simp only [QR, decide_eq_true_eq] at hs;obtain ⟨i, h1, h2⟩ := h; exact ⟨i, MM hle hs h1, h2⟩
 | fs rows => exact h
 | fp row o => exact h
theorem SRs.bel (hle : Le ρ ρ') : ∀ {c : List S} {l : List Value}, SRs ρ' c l -> c.all (QR ρ.bl.length) = true -> SRs ⟨ρ.bl, ρ'.mu⟩ c l
 | [], [], _, _ => trivial
 | s :: c, x :: l, h, hs => by
  simp only [HG, HE] at hs;exact ⟨h.1.bel hle hs.1, SRs.bel hle h.2 hs.2⟩
 | [], _ :: _, h, _ => h.elim
 | _ :: _, [], h, _ => h.elim
theorem AR.bel (hle : Le ρ ρ') {a : A} {x : Value} (h : AR ρ' a x) (hs : uH ρ.bl.length a = true) : AR ⟨ρ.bl, ρ'.mu⟩ a x := by
 cases a with
 | s s => exact fun hn => (h hn).bel hle hs
 | agg cs => obtain ⟨xs, h1, h2⟩ := h; exact ⟨xs, h1, h2.bel hle hs⟩
theorem ARs.bel (hle : Le ρ ρ') : ∀ {c : List A} {l : List Value}, ARs ρ' c l -> c.all (uH ρ.bl.length) = true -> ARs ⟨ρ.bl, ρ'.mu⟩ c l
 | [], [], _, _ => trivial
 | s :: c, x :: l, h, hs => by
  simp only [HG, HE] at hs;exact ⟨h.1.bel hle hs.1, ARs.bel hle h.2 hs.2⟩
 | [], _ :: _, h, _ => h.elim
 | _ :: _, [], h, _ => h.elim
theorem VR.bel (hle : Le ρ ρ') {v : V} {x : Value} (h : VR ρ' v x) (hs : ZM ρ.bl.length v = true) : VR ⟨ρ.bl, ρ'.mu⟩ v x := by
 cases v with
 | s s => exact fun hn => (h hn).bel hle hs
 | agg cs => obtain ⟨xs, h1, h2⟩ := h; exact ⟨xs, h1, h2.bel hle hs⟩
 | tup vs => obtain ⟨xs, h1, h2⟩ := h; exact ⟨xs, h1, h2.bel hle hs⟩
theorem RH (r : Rel W0 base ρ h w) (hle : Le ρ ρ') (r' : Rel W0 base ρ' h' w') (hf : Frm ρ h h' w w') (l : List V) :
  ∃ ρ2, Le ρ ρ2 /\ Rel W0 base ρ2 (tidy h l h') w' /\ Frm ρ h (tidy h l h') w w' /\ ∀ v x, v ∈ l -> VR ρ' v x -> VR ρ2 v x := by
 by_cases ht : jF h l h'
 case neg =>
  unfold tidy;rw [if_neg ht];exact ⟨ρ', hle, r', hf, fun _ _ _ h => h⟩
 obtain ⟨t1, t2, t3⟩ := ht;have e : tidy h l h' = ⟨h.n, fun b => if b < h.n then h'.g b else h.g b, fun b => if b < h.n then h'.v b else h.v b⟩ := if_pos ⟨t1, t2, t3⟩
 rw [e];have hmu : Le ρ ⟨ρ.bl, ρ'.mu⟩ := ⟨fun _ _ h => h, hle.2⟩
 have hlt : ∀ {b : Nat} {i : BI}, ρ.bl[b]? = some i -> b < h.n := fun hi => r.lt hi
 refine ⟨⟨ρ.bl, ρ'.mu⟩, hmu, ⟨r'.io, r.len, r'.bas, r'.old, r'.low, fun b i e cs hi hg => ?_, r'.fz, fun b i es hi hg => ?_, fun b i hi hg => ?_, fun b b2 i i2 hi hi2 hg hg2 hne => ?_⟩, ⟨Nat.le_refl _, fun b => ?_, fun b hb hv => ?_, fun b i hi hg hv => ?_⟩, fun v x hv hx => ?_⟩
 ·have hb := hlt hi
  simp only [if_pos hb] at hg;obtain ⟨a1, a2, c, el, fr, a3, a4, a5, a6, a7⟩ := r'.rw b i e cs (hle.1 _ _ hi) hg;refine ⟨a1, a2, c, el, fr, a3, a4, a5, a6, fun j s hj => ?_⟩
  rcases t3 b hb with ⟨g1, g2⟩ | g1
  ·obtain ⟨_, _, c0, el0, fr0, b3, _, _, _, b7⟩ := r.rw b i e cs hi (by rw [<- g1]; exact hg)
   have := hf.2.2.2 b i hi (by rw [<- g1]; exact Blk.live hg) g2
   rw [a3, b3] at this
   cases this
   obtain ⟨y, d1, d2⟩ := b7 j s hj;exact ⟨y, d1, d2.mono hmu⟩
  ·obtain ⟨y, d1, d2⟩ := a7 j s hj
   rw [hg] at g1;have := List.all_eq_true.1 g1 s (List.mem_of_getElem? hj);exact ⟨y, d1, d2.bel hle (by rw [r.len]; exact this)⟩
 ·have hb := hlt hi
  simp only [if_pos hb] at hg;exact r'.mp b i es (hle.1 _ _ hi) hg
 ·have hb := hlt hi
  simp only [if_pos hb] at hg;exact r'.sep0 b i (hle.1 _ _ hi) hg
 ·simp only [if_pos (hlt hi)] at hg
  simp only [if_pos (hlt hi2)] at hg2;exact r'.inj0 b b2 i i2 (hle.1 _ _ hi) (hle.1 _ _ hi2) hg hg2 hne
 ·simp only []
  split
  · exact hf.2.1 b
  · exact Nat.le_refl _
 ·simp only [if_pos hb] at hv ⊢
  exact hf.2.2.1 b hb hv
 ·simp only [if_pos (hlt hi)] at hv
  exact hf.2.2.2 b i hi hg hv
 ·refine hx.bel hle ?_
  rw [r.len];exact List.all_eq_true.1 t2 v hv
theorem FzR.up {mu mu' : Nat -> Option (Array Value)} (hl : ∀ k a, mu k = some a -> ∃ a', mu' k = some a' /\ ∀ (j : Nat) y, a[j]? = some y -> a'[j]? = some y) {s : S} {x : Value} (h : FzR mu s x) : FzR mu' s x := by
 induction h with
 | bool b => exact .bool b
 | int k n => exact .int k n
 | str s => exact .str s
 | nil => exact .nil
 | nofn => exact .nofn
 | fn f => exact .fn f
 | fs0 a cap => exact .fs0 a cap
 | fs hm h0 hz hc h1 h2 ih =>
  obtain ⟨a', k1, k2⟩ := hl _ _ hm;exact .fs k1 h0 hz hc (fun j s hs => k2 _ _ (h1 j s hs)) ih
 | fp hm h1 h2 ih =>
  obtain ⟨a', k1, k2⟩ := hl _ _ hm;exact .fp k1 (fun j s hs => k2 _ _ (h1 j s hs)) ih
theorem FzR.norm {mu : Nat -> Option (Array Value)} {row : List S} {o z : Nat} {x : Value} (h : FzR mu (.fp row o) x) (hz : o + z <= row.length) : FzR mu (.fp ((row.drop o).take z) 0) x := by
 cases h with
 | fp hm h1 h2 =>
  rename_i blk off cells ys;have hg : ∀ (j : Nat) (s : S), ((row.drop o).take z)[j]? = some s -> row[o + j]? = some s := by
   intro j s hj;rw [FG] at hj
   split at hj
   · rw [FO] at hj; exact hj
   · cases hj
  exact FzR.fp (off := off + o) (ys := fun j => ys (o + j)) hm (fun j s hs => by rw [Fv]; exact h1 _ _ (hg j s hs)) (fun j s hs => h2 _ _ (hg j s hs))
theorem VR.norm {z : Nat} {v : V} {x : Value} (h : VR ρ v x) : VR ρ (Q05 z v) x := by
 cases v with
 | s s =>
  cases s <;> try exact h
  rename_i row o;show VR ρ (bif z != 0 && decide (o + z <= row.length) then .s (.fp ((row.drop o).take z) 0) else .s (.fp row o)) x
  cases hz : (z != 0 && decide (o + z <= row.length)) with
  | false => exact h
  | true =>
   simp only [HE, decide_eq_true_eq] at hz;exact fun _ => FzR.norm (h rfl) hz.2
 | agg cs => exact h
 | tup vs => exact h
theorem VRs.norm : ∀ {zs : List Nat} {vs : List V} {xs : List Value}, VRs ρ vs xs -> VRs ρ (Qr zs vs) xs
 | [], _, _, h => by simpa [Qr] using h
 | _ :: _, [], _, h => by simpa [Qr] using h
 | z :: zs, v :: vs, [], h => h.elim
 | z :: zs, v :: vs, x :: xs, h => ⟨h.1.norm, VRs.norm h.2⟩
theorem N6 {f : S -> Option S} : ∀ {l l' : List S}, mapO f l = some l' -> l'.length = l.length /\ ∀ (j : Nat) (s' : S), l'[j]? = some s' -> ∃ s, l[j]? = some s /\ f s = some s'
 | [], l', h => by simp [mapO] at h; subst h; exact ⟨rfl, fun j s hj => by simp at hj⟩
 | a :: r, l', h => by
  simp only [mapO, Hv] at h;obtain ⟨x, h1, y, h2, h3⟩ := h
  cases h3
  obtain ⟨k1, k2⟩ := N6 h2;refine ⟨by simp [k1], fun j s' hj => ?_⟩
  cases j with
  | zero => simp at hj; subst hj; exact ⟨a, rfl, h1⟩
  | succ j => simp at hj; simpa using k2 j s' hj
theorem B9 (e n : Nat) (cs : List S) : (YQ e n cs).length = n := by simp [YQ]
theorem wO {e n : Nat} {cs : List S} (hl : cs.length = n * e) : ∀ r ∈ YQ e n cs, r.length = e := by
 intro r hr;simp only [YQ, List.mem_map, List.mem_range] at hr;obtain ⟨i, hi, rfl⟩ := hr;have : (i + 1) * e <= n * e := Nat.mul_le_mul_right _ hi;rw [Ew] at this;simp; omega
theorem Rw {e : Nat} : ∀ {n : Nat} {cs : List S}, cs.length = n * e -> (YQ e n cs).flatten = cs
 | 0, cs, hl => by
  have : cs = [] := List.eq_nil_of_length_eq_zero (by simpa using hl)
  subst this; rfl
 | n + 1, cs, hl => by
  rw [Ew] at hl;have h1 : YQ e (n + 1) cs = cs.take e :: YQ e n (cs.drop e) := by
   simp only [YQ, List.range_succ_eq_map, List.map_cons, List.map_map, Nat.zero_mul, List.drop_zero]
   congr 1
   refine List.map_congr_left fun i _ => ?_
   simp only [Function.comp, List.drop_drop]
   congr 2
   rw [Ew]; omega
  rw [h1, List.flatten_cons, Rw (by simp; omega), List.take_append_drop]
theorem Te (r : Rel W0 base ρ h w) {mu : Nat -> Option (Array Value)} (hmu : ∀ k a, ρ.mu k = some a -> ∃ a', mu k = some a' /\ ∀ (j : Nat) y, a[j]? = some y -> a'[j]? = some y)
  (hsn : ∀ (b : Nat) (i : BI) (e : Nat) (cs : List S), ρ.bl[b]? = some i -> h.g b = .rw e cs -> ∃ c el fr, w.heap[i.blk]? = some (.cells c el fr) /\ mu i.blk = some c) :
  ∀ (k : Nat) (s s' : S) (x : Value), Qy h k s = some s' -> SR ρ s x -> FzR mu s' x := by
 intro k
 induction k with
 | zero =>
  intro s s' x hf hx
  cases s with
  | no => simp [Qy] at hf
  | mp b => simp [Qy] at hf
  | bool b => simp [Qy] at hf; subst hf; cases hx; exact .bool b
  | int k n => simp [Qy] at hf; subst hf; cases hx; exact .int k n
  | str s => simp [Qy] at hf; subst hf; cases hx; exact .str s
  | nofn => simp [Qy] at hf; subst hf; cases hx; exact .nofn
  | fn f c =>
   simp only [Qy] at hf
   split at hf
   ·rename_i hc; subst hc; cases hf
    obtain ⟨xs, rfl, h2⟩ := hx;have : xs = #[] := by
     rw [<- Array.toList_inj]
     cases hxs : xs.toList with
     | nil => rfl
     | cons a l => rw [hxs] at h2; exact h2.elim
    subst this; exact .fn f
   · cases hf
  | fs rows => simp [Qy] at hf; subst hf; exact FzR.up hmu hx
  | fp row o => simp [Qy] at hf; subst hf; exact FzR.up hmu hx
  | ptr a =>
   cases a with
   | none => simp [Qy] at hf; subst hf; cases hx; exact .nil
   | some p => simp [Qy] at hf
  | sl a n =>
   cases a with
   | none =>
    simp only [Qy] at hf
    split at hf
    ·rename_i hn; subst hn; cases hf
     obtain ⟨_, rfl⟩ := hx; exact .fs0 _ _
    · cases hf
   | some p =>
    simp only [Qy] at hf
    split at hf
    ·rename_i hn; subst hn; cases hf
     obtain ⟨i, a, cap, _, rfl, _⟩ := hx; exact .fs0 _ _
    · cases hf
 | succ k ih =>
  intro s s' x hf hx
  cases s with
  | no => simp [Qy] at hf
  | mp b => simp [Qy] at hf
  | bool b => simp [Qy] at hf; subst hf; cases hx; exact .bool b
  | int k n => simp [Qy] at hf; subst hf; cases hx; exact .int k n
  | str s => simp [Qy] at hf; subst hf; cases hx; exact .str s
  | nofn => simp [Qy] at hf; subst hf; cases hx; exact .nofn
  | fn f c =>
   simp only [Qy] at hf
   split at hf
   ·rename_i hc; subst hc; cases hf
    obtain ⟨xs, rfl, h2⟩ := hx;have : xs = #[] := by
     rw [<- Array.toList_inj]
     cases hxs : xs.toList with
     | nil => rfl
     | cons a l => rw [hxs] at h2; exact h2.elim
    subst this; exact .fn f
   · cases hf
  | fs rows => simp [Qy] at hf; subst hf; exact FzR.up hmu hx
  | fp row o => simp [Qy] at hf; subst hf; exact FzR.up hmu hx
  | ptr a =>
   cases a with
   | none => simp [Qy] at hf; subst hf; cases hx; exact .nil
   | some p =>
    obtain ⟨b, o⟩ := p;obtain ⟨i, hi, rfl⟩ := hx;simp only [Qy] at hf
    split at hf
    case isFalse => cases hf
    split at hf
    case h_2 => cases hf
    rename_i e cs hg;obtain ⟨_, _, c, el, fr, a3, _, _, a6, a7⟩ := r.rw b i e cs hi hg;obtain ⟨c', _, _, a3', hm⟩ := hsn b i e cs hi hg;rw [a3] at a3'; cases a3'
    split at hf
    ·rw [Hv] at hf
     obtain ⟨l, h1, h2⟩ := hf
     cases h2
     obtain ⟨k1, k2⟩ := N6 h1;refine FzR.fp (off := i.off) (ys := fun j => c.getD (i.off + j) .nilFunc) hm (fun j s hs => ?_) fun j s hs => ?_
     ·obtain ⟨s0, q1, q2⟩ := k2 j s hs
      obtain ⟨y, q3, q4⟩ := a7 j s0 q1;simp [FX, q3]
     ·obtain ⟨s0, q1, q2⟩ := k2 j s hs
      obtain ⟨y, q3, q4⟩ := a7 j s0 q1;have := ih s0 s y q2 q4;simpa [FX, q3] using this
    ·rename_i he
     split at hf
     case isFalse => cases hf
     rename_i hle;rw [Hv] at hf;obtain ⟨l, h1, h2⟩ := hf
     cases h2
     obtain ⟨k1, k2⟩ := N6 h1;have hoff : i.off + o = i.off + o / e * e + o % e := by
      have := Nat.div_add_mod o e;rw [Nat.mul_comm] at this; omega
     have hcs : ∀ (j : Nat) (s0 : S), ((cs.drop (o / e * e)).take e)[j]? = some s0 -> cs[o / e * e + j]? = some s0 := by
      intro j s0 hj;rw [FG] at hj
      split at hj
      · rw [FO] at hj; exact hj
      · cases hj
     rw [hoff];refine FzR.fp (off := i.off + o / e * e) (ys := fun j => c.getD (i.off + o / e * e + j) .nilFunc) hm (fun j s hs => ?_) fun j s hs => ?_
     ·obtain ⟨s0, q1, q2⟩ := k2 j s hs
      obtain ⟨y, q3, q4⟩ := a7 _ s0 (hcs j s0 q1);rw [<- Fv] at q3;simp [FX, q3]
     ·obtain ⟨s0, q1, q2⟩ := k2 j s hs
      obtain ⟨y, q3, q4⟩ := a7 _ s0 (hcs j s0 q1);rw [<- Fv] at q3;have := ih s0 s y q2 q4;simpa [FX, q3] using this
  | sl a n =>
   cases a with
   | none =>
    simp only [Qy] at hf
    split at hf
    ·rename_i hn; subst hn; cases hf
     obtain ⟨_, rfl⟩ := hx; exact .fs0 _ _
    · cases hf
   | some p =>
    obtain ⟨b, o⟩ := p;obtain ⟨i, a, cap, hi, rfl, hcap, hat, _⟩ := hx;simp only [Qy] at hf
    split at hf
    · rename_i hn; subst hn; cases hf; exact .fs0 _ _
    rename_i hn
    split at hf
    case isFalse => cases hf
    split at hf
    case h_2 => cases hf
    rename_i e cs hg
    split at hf
    case isFalse => cases hf
    rename_i hle;rw [Hv] at hf;obtain ⟨l, h1, h2⟩ := hf
    cases h2
    obtain ⟨_, _, c, el, fr, a3, _, _, a6, a7⟩ := r.rw b i e cs hi hg;obtain ⟨c', _, _, a3', hm⟩ := hsn b i e cs hi hg;rw [a3] at a3'; cases a3';obtain ⟨k1, k2⟩ := N6 h1;have hll : l.length = n * e := by rw [k1]; simp; omega
    rw [hat (by omega)]
    have hcs : ∀ (j : Nat) (s0 : S), ((cs.drop o).take (n * e))[j]? = some s0 -> cs[o + j]? = some s0 := by
     intro j s0 hj;rw [FG] at hj
     split at hj
     · rw [FO] at hj; exact hj
     · cases hj
    have hfl := Rw hll;have hne : YQ e n l ≠ [] := by
     intro h0;have := B9 e n l;rw [h0] at this; simp at this; omega
    have key := FzR.fs (mu := mu) (rows := YQ e n l) (blk := i.blk) (off := i.off + o) (cap := cap) (z := e) (cells := c) (ys := fun j => c.getD (i.off + o + j) .nilFunc) hm hne (wO hll) (by rw [B9]; exact hcap)
     (fun j s hs => by
      rw [hfl] at hs;obtain ⟨s0, q1, q2⟩ := k2 j s hs;obtain ⟨y, q3, q4⟩ := a7 _ s0 (hcs j s0 q1);rw [<- Fv] at q3;simp [FX, q3])
     (fun j s hs => by
      rw [hfl] at hs;obtain ⟨s0, q1, q2⟩ := k2 j s hs;obtain ⟨y, q3, q4⟩ := a7 _ s0 (hcs j s0 q1);rw [<- Fv] at q3;have := ih s0 s y q2 q4;simpa [FX, q3] using this)
    rw [B9] at key;exact key
section
variable (r : Rel W0 base ρ h w) {mu : Nat -> Option (Array Value)} (hmu : ∀ k a, ρ.mu k = some a -> ∃ a', mu k = some a' /\ ∀ (j : Nat) y, a[j]? = some y -> a'[j]? = some y)
  (hsn : ∀ (b : Nat) (i : BI) (e : Nat) (cs : List S), ρ.bl[b]? = some i -> h.g b = .rw e cs -> ∃ c el fr, w.heap[i.blk]? = some (.cells c el fr) /\ mu i.blk = some c) (bl : List BI)
include r hmu hsn
theorem Tf : ∀ {cs cs' : List S} {l : List Value}, mapO (Qy h 8) cs = some cs' -> SRs ρ cs l -> SRs ⟨bl, mu⟩ cs' l
 | [], cs', l, hf, hx => by
  simp [mapO] at hf; subst hf
  cases l with
  | nil => trivial
  | cons _ _ => exact hx.elim
 | s :: cs, cs', l, hf, hx => by
  simp only [mapO, Hv] at hf;obtain ⟨y, h1, l', h2, h3⟩ := hf
  cases h3
  cases l with
  | nil => exact hx.elim
  | cons v l => exact ⟨(Te r hmu hsn 8 s y v h1 hx.1).sr, Tf h2 hx.2⟩
theorem yQ {s s' : S} (hf : Qy h 8 s = some s') : isNo s = false := by
 cases s <;> first | rfl | (simp [Qy] at hf)
theorem Q14 {a a' : A} {x : Value} (hf : Yf h a = some a') (hx : AR ρ a x) : AR ⟨bl, mu⟩ a' x := by
 cases a with
 | s s =>
  simp only [Yf, Hv] at hf;obtain ⟨y, h1, h2⟩ := hf
  cases h2
  exact fun _ => (Te r hmu hsn 8 s y x h1 (hx (yQ r hmu hsn h1))).sr
 | agg cs =>
  simp only [Yf, Hv] at hf;obtain ⟨y, h1, h2⟩ := hf
  cases h2
  obtain ⟨xs, rfl, h3⟩ := hx;exact ⟨xs, rfl, Tf r hmu hsn bl h1 h3⟩
theorem zr : ∀ {cs cs' : List A} {l : List Value}, KY h cs = some cs' -> ARs ρ cs l -> ARs ⟨bl, mu⟩ cs' l
 | [], cs', l, hf, hx => by
  simp [KY] at hf; subst hf
  cases l with
  | nil => trivial
  | cons _ _ => exact hx.elim
 | s :: cs, cs', l, hf, hx => by
  simp only [KY, Hv] at hf;obtain ⟨y, h1, l', h2, h3⟩ := hf
  cases h3
  cases l with
  | nil => exact hx.elim
  | cons v l => exact ⟨Q14 r hmu hsn bl h1 hx.1, zr h2 hx.2⟩
theorem ki {v v' : V} {x : Value} (hf : QL h v = some v') (hx : VR ρ v x) : VR ⟨bl, mu⟩ v' x := by
 cases v with
 | s s =>
  simp only [QL, Hv] at hf;obtain ⟨y, h1, h2⟩ := hf
  cases h2
  exact fun _ => (Te r hmu hsn 8 s y x h1 (hx (yQ r hmu hsn h1))).sr
 | agg cs =>
  simp only [QL, Hv] at hf;obtain ⟨y, h1, h2⟩ := hf
  cases h2
  obtain ⟨xs, rfl, h3⟩ := hx;exact ⟨xs, rfl, Tf r hmu hsn bl h1 h3⟩
 | tup vs =>
  simp only [QL, Hv] at hf;obtain ⟨y, h1, h2⟩ := hf
  cases h2
  obtain ⟨xs, rfl, h3⟩ := hx;exact ⟨xs, rfl, zr r hmu hsn bl h1 h3⟩
theorem zq : ∀ {cs cs' : List V} {l : List Value}, Qt h cs = some cs' -> VRs ρ cs l -> VRs ⟨bl, mu⟩ cs' l
 | [], cs', l, hf, hx => by
  simp [Qt] at hf; subst hf
  cases l with
  | nil => trivial
  | cons _ _ => exact hx.elim
 | s :: cs, cs', l, hf, hx => by
  simp only [Qt, Hv] at hf;obtain ⟨y, h1, l', h2, h3⟩ := hf
  cases h3
  cases l with
  | nil => exact hx.elim
  | cons v l => exact ⟨ki r hmu hsn bl h1 hx.1, zq h2 hx.2⟩
end
end Vm
