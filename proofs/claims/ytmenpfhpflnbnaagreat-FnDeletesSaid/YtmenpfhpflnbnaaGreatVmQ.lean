/-
  A call of frozen arguments stands for the model's call.
-/
import Derived.Test.YtmenpfhpflnbnaaGreatVmP
set_option linter.unusedVariables false
set_option linter.unusedSimpArgs false
open Array renaming getElem?_eq_some_iff->FN
open Bool renaming and_eq_true->HE,or_true->SK
open List renaming all_cons->HG
open Nat renaming le_refl->Hx,le_trans->HL,lt_of_lt_of_le->HJ
open Option renaming bind_eq_some_iff->Hv,bind_some->HC
namespace Vm
open Go
variable {W0 : St} {base : Nat} {ρ ρ' : Rho} {h h' : H} {w w' : World} {P : Program} {E : Env} {R : Type}
theorem vv {bl : List BI} {mu : Nat -> Option (Array Value)} (hfz : FzW mu w) {n : Nat} (hn : bl.length = n) : Rel ⟨w, mu⟩ w.heap.size ⟨bl, mu⟩ (D n) w where
 io := ⟨rfl, rfl, rfl⟩
 len := hn
 bas := Hx _
 old := fun _ _ => rfl
 low := fun _ _ => rfl
 rw := fun b i e cs _ hg => by cases hg
 fz := hfz
 mp := fun b i es _ hg => by cases hg
 sep0 := fun b i _ hg => absurd rfl hg
 inj0 := fun b b' i i' _ _ hg => absurd rfl hg
theorem Rel.grow (r : Rel W0 base ρ h w) (hio : IO w' w) (hsz : w.heap.size <= w'.heap.size) (hold : ∀ i, i < w.heap.size -> w'.heap[i]? = w.heap[i]?) : Rel W0 base ρ h w' where
 io := hio.trans r.io
 len := r.len
 bas := HL r.bas hsz
 old := fun i hi => by rw [hold i (HJ hi r.bas)]; exact r.old i hi
 low := r.low
 rw := fun b i e cs hi hg => by
  obtain ⟨a1, a2, c, el, fr, a3, a4⟩ := r.rw b i e cs hi hg;exact ⟨a1, a2, c, el, fr, by rw [hold _ (FN.1 a3).1]; exact a3, a4⟩
 fz := fun k a hk => by
  obtain ⟨c, el, fr, h1, h2⟩ := r.fz k a hk;exact ⟨c, el, fr, by rw [hold _ (FN.1 h1).1]; exact h1, h2⟩
 mp := fun b i es hi hg => by
  obtain ⟨a1, ents, cl, a3, a4⟩ := r.mp b i es hi hg;exact ⟨a1, ents, cl, by rw [hold _ (FN.1 a3).1]; exact a3, a4⟩
 sep0 := r.sep0
 inj0 := r.inj0
theorem Rel.grow_frm (r : Rel W0 base ρ h w) (hold : ∀ i, i < w.heap.size -> w'.heap[i]? = w.heap[i]?) : Frm ρ h h w w' :=
 ⟨Hx _, fun _ => Hx _, fun _ _ _ => rfl, fun b i hi hg _ => hold _ (r.liv hi hg).2⟩
theorem Rel.more (r : Rel W0 base ρ h w) {mu : Nat -> Option (Array Value)} (hl : ∀ k a, ρ.mu k = some a -> mu k = some a) (hlow : ∀ k, k < base -> mu k = W0.mu k) (hfz : FzW mu w)
  (hsep : ∀ (b : Nat) (i : BI), ρ.bl[b]? = some i -> h.g b ≠ .dead -> mu i.blk = none) : Rel W0 base ⟨ρ.bl, mu⟩ h w where
 io := r.io
 len := r.len
 bas := r.bas
 old := r.old
 low := hlow
 rw := fun b i e cs hi hg => by
  obtain ⟨a1, a2, c, el, fr, a3, a4, a5, a6, a7⟩ := r.rw b i e cs hi hg;exact ⟨a1, a2, c, el, fr, a3, a4, a5, a6, fun j s hj => by obtain ⟨y, d1, d2⟩ := a7 j s hj; exact ⟨y, d1, SR.mono (ρ := ρ) (ρ' := ⟨ρ.bl, mu⟩) ⟨fun _ _ h => h, hl⟩ d2⟩⟩
 fz := hfz
 mp := r.mp
 sep0 := hsep
 inj0 := r.inj0
def XI (w : World) (k : Nat) : Option (Array Value) := match w.heap[k]? with
 | some (.cells c _ _) => some c
 | _ => none
def MS (base : Nat) (ρ : Rho) (w : World) (k : Nat) : Option (Array Value) := match ρ.mu k with
 | some a => some a
 | none => if k < base then none else XI w k
theorem GR {k : Nat} {a : Array Value} (hk : XI w k = some a) : ∃ el fr, w.heap[k]? = some (.cells a el fr) := by
 unfold XI at hk
 split at hk
 · rename_i c el fr hh; cases hk; exact ⟨el, fr, hh⟩
 · cases hk
theorem Q0l (hfz : FzW ρ.mu w) : FzW (MS base ρ w) w := by
 intro k a hk;unfold MS at hk
 split at hk
 · rename_i a' hm; cases hk; exact hfz k a hm
 ·split at hk
  · cases hk
  ·obtain ⟨el, fr, h1⟩ := GR hk
   exact ⟨a, el, fr, h1, fun _ _ h => h⟩
theorem xA {k : Nat} {a : Array Value} (hk : ρ.mu k = some a) : MS base ρ w k = some a := by unfold MS; rw [hk]
theorem vg {k : Nat} (hk : k < base) : MS base ρ w k = ρ.mu k := by
 unfold MS
 split
 · rename_i a h; rw [h]
 · rename_i h; rw [if_pos hk, h]
theorem Q0k (r : Rel W0 base ρ h w) : ∀ (b : Nat) (i : BI) (e : Nat) (cs : List S), ρ.bl[b]? = some i -> h.g b = .rw e cs -> ∃ c el fr, w.heap[i.blk]? = some (.cells c el fr) /\ MS base ρ w i.blk = some c := by
 intro b i e cs hi hg;obtain ⟨a1, _, c, el, fr, a3, _⟩ := r.rw b i e cs hi hg;refine ⟨c, el, fr, a3, ?_⟩;unfold MS;rw [r.sep b i e cs hi hg, if_neg (by omega)]
 unfold XI; rw [a3]
def W5 (n : Nat) (mu : Nat -> Option (Array Value)) (w' : World) (k : Nat) : Option (Array Value) := if k < n then mu k else XI w' k
theorem Vh {s s' : S} {x : Value} (ho : NT s = true) (hf : Qy h 8 s = some s') (hx : SR ρ s x) : FzR ρ.mu s' x := by
 cases s with
 | no => simp [Qy] at hf
 | mp b => simp [Qy] at hf
 | bool b => simp [Qy] at hf; subst hf; cases hx; exact .bool b
 | int k n => simp [Qy] at hf; subst hf; cases hx; exact .int k n
 | str s => simp [Qy] at hf; subst hf; cases hx; exact .str s
 | nofn => simp [Qy] at hf; subst hf; cases hx; exact .nofn
 | fn f c =>
  simp only [Qy] at hf
  split at hf
  ·rename_i hc; subst hc; cases hf
   obtain ⟨xs, rfl, h2⟩ := hx;have : xs = #[] := by
    rw [<- Array.toList_inj]
    cases hxs : xs.toList with
    | nil => rfl
    | cons a l => rw [hxs] at h2; exact h2.elim
   subst this; exact .fn f
  · cases hf
 | fs rows => simp [Qy] at hf; subst hf; exact hx
 | fp row o => simp [Qy] at hf; subst hf; exact hx
 | ptr a =>
  cases a with
  | none => simp [Qy] at hf; subst hf; cases hx; exact .nil
  | some p => simp [NT] at ho
 | sl a n =>
  have hn : n = 0 := by simpa [NT] using ho
  subst hn
  cases a with
  | none => simp [Qy] at hf; subst hf; obtain ⟨_, rfl⟩ := hx; exact .fs0 _ _
  | some p => simp [Qy] at hf; subst hf; obtain ⟨i, a, cap, _, rfl, _⟩ := hx; exact .fs0 _ _
theorem Vi (bl : List BI) : ∀ {cs cs' : List S} {l : List Value}, cs.all NT = true -> mapO (Qy h 8) cs = some cs' -> SRs ρ cs l -> SRs ⟨bl, ρ.mu⟩ cs' l
 | [], cs', l, _, hf, hx => by
  simp [mapO] at hf; subst hf
  cases l with
  | nil => trivial
  | cons _ _ => exact hx.elim
 | s :: cs, cs', l, ho, hf, hx => by
  simp only [HG, HE] at ho;simp only [mapO, Hv] at hf;obtain ⟨y, h1, l', h2, h3⟩ := hf
  cases h3
  cases l with
  | nil => exact hx.elim
  | cons v l => exact ⟨FzR.sr (ρ := ⟨bl, ρ.mu⟩) (Vh (ρ := ρ) ho.1 h1 hx.1), Vi bl ho.2 h2 hx.2⟩
theorem kh {s s' : S} (hf : Qy h 8 s = some s') : isNo s = false := by
 cases s <;> first | rfl | (simp [Qy] at hf)
theorem ul (bl : List BI) {a a' : A} {x : Value} (ho : vO a = true) (hf : Yf h a = some a') (hx : AR ρ a x) : AR ⟨bl, ρ.mu⟩ a' x := by
 cases a with
 | s s =>
  simp only [Yf, Hv] at hf;obtain ⟨y, h1, h2⟩ := hf
  cases h2
  exact fun _ => FzR.sr (ρ := ⟨bl, ρ.mu⟩) (Vh (ρ := ρ) ho h1 (hx (kh h1)))
 | agg cs =>
  simp only [Yf, Hv] at hf;obtain ⟨y, h1, h2⟩ := hf
  cases h2
  obtain ⟨xs, rfl, h3⟩ := hx;exact ⟨xs, rfl, Vi bl ho h1 h3⟩
theorem Pe (bl : List BI) : ∀ {cs cs' : List A} {l : List Value}, cs.all vO = true -> KY h cs = some cs' -> ARs ρ cs l -> ARs ⟨bl, ρ.mu⟩ cs' l
 | [], cs', l, _, hf, hx => by
  simp [KY] at hf; subst hf
  cases l with
  | nil => trivial
  | cons _ _ => exact hx.elim
 | s :: cs, cs', l, ho, hf, hx => by
  simp only [HG, HE] at ho;simp only [KY, Hv] at hf;obtain ⟨y, h1, l', h2, h3⟩ := hf
  cases h3
  cases l with
  | nil => exact hx.elim
  | cons v l => exact ⟨ul bl ho.1 h1 hx.1, Pe bl ho.2 h2 hx.2⟩
theorem uj (bl : List BI) {v v' : V} {x : Value} (ho : Z5 v = true) (hf : QL h v = some v') (hx : VR ρ v x) : VR ⟨bl, ρ.mu⟩ v' x := by
 cases v with
 | s s =>
  simp only [QL, Hv] at hf;obtain ⟨y, h1, h2⟩ := hf
  cases h2
  exact fun _ => FzR.sr (ρ := ⟨bl, ρ.mu⟩) (Vh (ρ := ρ) ho h1 (hx (kh h1)))
 | agg cs =>
  simp only [QL, Hv] at hf;obtain ⟨y, h1, h2⟩ := hf
  cases h2
  obtain ⟨xs, rfl, h3⟩ := hx;exact ⟨xs, rfl, Vi bl ho h1 h3⟩
 | tup vs =>
  simp only [QL, Hv] at hf;obtain ⟨y, h1, h2⟩ := hf
  cases h2
  obtain ⟨xs, rfl, h3⟩ := hx;exact ⟨xs, rfl, Pe bl ho h1 h3⟩
theorem Pc (bl : List BI) : ∀ {cs cs' : List V} {l : List Value}, cs.all Z5 = true -> Qt h cs = some cs' -> VRs ρ cs l -> VRs ⟨bl, ρ.mu⟩ cs' l
 | [], cs', l, _, hf, hx => by
  simp [Qt] at hf; subst hf
  cases l with
  | nil => trivial
  | cons _ _ => exact hx.elim
 | s :: cs, cs', l, ho, hf, hx => by
  simp only [HG, HE] at ho;simp only [Qt, Hv] at hf;obtain ⟨y, h1, l', h2, h3⟩ := hf
  cases h3
  cases l with
  | nil => exact hx.elim
  | cons v l => exact ⟨uj bl ho.1 h1 hx.1, Pc bl ho.2 h2 hx.2⟩
theorem kO (r : Rel W0 base ρ h w) {as as' : List V} {xs : List Value} (hf : Qt h as = some as') (hx : VRs ρ as xs) (bl : List BI) :
  ∃ mu, FzW mu w /\ VRs ⟨bl, mu⟩ as' xs /\ (∀ k a, ρ.mu k = some a -> mu k = some a) /\ (∀ k, k < base -> mu k = ρ.mu k) /\ (as.all Z5 = true -> mu = ρ.mu) := by
 cases ho : as.all Z5 with
 | true => exact ⟨ρ.mu, r.fz, Pc bl ho hf hx, fun _ _ h => h, fun _ _ => rfl, fun _ => rfl⟩
 | false => exact ⟨MS base ρ w, Q0l r.fz, zq r (fun k a hk => ⟨a, xA hk, fun _ _ h => h⟩) (Q0k r) bl hf hx, fun _ _ => xA, fun _ => vg, fun h => by cases h⟩
section
variable {mu : Nat -> Option (Array Value)} {ρ1 ρ2 : Rho} {h1 : H}
theorem Q10 (r2 : Rel ⟨w, mu⟩ w.heap.size ρ2 h1 w') : ∀ k a, ρ2.mu k = some a -> ∃ a', W5 w.heap.size mu w' k = some a' /\ ∀ (j : Nat) y, a[j]? = some y -> a'[j]? = some y := by
 intro k a hk;unfold W5
 by_cases hlt : k < w.heap.size
 · rw [if_pos hlt, show mu k = ρ2.mu k from (r2.low k hlt).symm]; exact ⟨a, hk, fun _ _ h => h⟩
 ·rw [if_neg hlt]
  obtain ⟨c, el, fr, g1, g2⟩ := r2.fz k a hk;exact ⟨c, by unfold XI; rw [g1], g2⟩
theorem Q11 (r2 : Rel ⟨w, mu⟩ w.heap.size ρ2 h1 w') : ∀ (b : Nat) (i : BI) (e : Nat) (cs : List S), ρ2.bl[b]? = some i -> h1.g b = .rw e cs -> ∃ c el fr, w'.heap[i.blk]? = some (.cells c el fr) /\ W5 w.heap.size mu w' i.blk = some c := by
 intro b i e cs hi hg;obtain ⟨a1, _, c, el, fr, a3, _⟩ := r2.rw b i e cs hi hg;refine ⟨c, el, fr, a3, ?_⟩;unfold W5;rw [if_neg (by omega)]
 unfold XI; rw [a3]
theorem kf (r2 : Rel ⟨w, mu⟩ w.heap.size ρ2 h1 w') (hfz : FzW mu w) : FzW (W5 w.heap.size mu w') w' := by
 intro k a hk;unfold W5 at hk
 split at hk
 ·rename_i hlt
  obtain ⟨c, el, fr, g1, g2⟩ := hfz k a hk;exact ⟨c, el, fr, by rw [r2.old k hlt]; exact g1, g2⟩
 ·obtain ⟨el, fr, g1⟩ := GR hk
  exact ⟨a, el, fr, g1, fun _ _ h => h⟩
end
theorem Q0a {mu : Nat -> Option (Array Value)} (hfz : FzW mu w) {k : Nat} {a : Array Value} (hk : mu k = some a) : k < w.heap.size := by
 obtain ⟨c, el, fr, g1, _⟩ := hfz k a hk;exact (FN.1 g1).1
variable {cl : Nat -> List V -> H -> Option (V × H)}
theorem YF (hcl : ∀ W0 base, TM P W0 base cl) {g : Nat} {zs : List Nat} {as as' : List V} {v' : V} (h1 : Qt h as = some as') (hc : Q8 cl g (Qr zs as') = some v') :
  U5 P W0 base g as h v' (bif scaV v' || as.all Z5 then h else h.gone) := by
 unfold Q8 at hc;simp only [Hv] at hc;obtain ⟨p, h2, h3⟩ := hc;refine ⟨(hcl W0 0 g _ (D 0) p.1 p.2 h2).1, fun ρ w xs r hx => ?_⟩
 obtain ⟨mu, q1, q2, q3, q4, q5⟩ := kO r h1 hx [];refine ((hcl ⟨w, mu⟩ w.heap.size g _ (D 0) p.1 p.2 h2).2 ⟨[], mu⟩ w xs (vv q1 rfl) q2.norm).mono fun e w' he => ?_
 obtain ⟨x, rfl, ρ2, k1, k2, k3, k4⟩ := he;refine ⟨x, rfl, ?_⟩;have hio : IO w' w := k3.io;have hsz : w.heap.size <= w'.heap.size := k3.bas;have hold : ∀ i, i < w.heap.size -> w'.heap[i]? = w.heap[i]? := k3.old;have rg := r.grow hio hsz hold;have hv := ki k3 (Q10 k3) (Q11 k3) ρ.bl h3 k2;have hlow : ∀ k, k < base -> W5 w.heap.size mu w' k = W0.mu k := fun k hk => by
  unfold W5;rw [if_pos (HJ hk r.bas), q4 k hk]; exact r.low k hk
 have hup : ∀ k a, ρ.mu k = some a -> W5 w.heap.size mu w' k = some a := fun k a hk => by
  unfold W5;rw [if_pos (Q0a r.fz hk)]; exact q3 k a hk
 cases hs : scaV v' with
 | true => exact ⟨ρ, Le.refl _, hv.sca hs, rg, r.grow_frm hold⟩
 | false =>
  cases ho : as.all Z5 with
  | true =>
   have := q5 ho;subst this;refine ⟨⟨ρ.bl, W5 w.heap.size ρ.mu w'⟩, ⟨fun _ _ h => h, hup⟩, hv, rg.more hup hlow (kf k3 q1) fun b i hi hg => ?_, r.grow_frm hold⟩
   unfold W5;rw [if_pos (r.liv hi hg).2];exact r.sep0 b i hi hg
  | false =>
   refine ⟨⟨ρ.bl, W5 w.heap.size mu w'⟩, ⟨fun _ _ h => h, hup⟩, hv, ⟨rg.io, rg.len, rg.bas, rg.old, hlow, fun b i e cs _ hg => (by cases hg), kf k3 q1, fun b i es _ hg => (by cases hg), fun b i _ hg => absurd rfl hg, fun b b' i i' _ _ hg => absurd rfl hg⟩, ⟨Hx _, fun b => Nat.le_succ _, fun b hb hv => ?_, fun b i hi hg hv => ?_⟩⟩
   · simp only [cond_false, Bool.or_false, H.gone] at hv; omega
   · simp only [cond_false, Bool.or_false, H.gone] at hv; omega
theorem ya (hcl : ∀ W0 base, TM P W0 base cl) {g : Nat} {zs : List Nat} {as as' : List V} {v' : V} (h1 : Qt h as = some as') (hc : Q8 cl g (Qr zs as') = some v') : U5 P W0 base g as h v' h.gone := by
 obtain ⟨c1, c2⟩ := YF (W0 := W0) (base := base) hcl h1 hc;refine ⟨c1, fun ρ w xs r hx => (c2 ρ w xs r hx).mono fun e w' he => ?_⟩
 obtain ⟨x, rfl, ρ2, k1, k2, k3, k4⟩ := he;refine ⟨x, rfl, ρ2, k1, k2, ?_, ⟨Hx _, fun b => Nat.le_succ _, fun b hb hv => ?_, fun b i hi hg hv => ?_⟩⟩
 ·have hn : (bif scaV v' || as.all Z5 then h else h.gone).n = h.n := by cases scaV v' || as.all Z5 <;> rfl
  exact ⟨k3.io, by rw [k3.len, hn]; rfl, k3.bas, k3.old, k3.low, fun b i e cs _ hg => (by cases hg), k3.fz, fun b i es _ hg => (by cases hg), fun b i _ hg => absurd rfl hg, fun b b' i i' _ _ hg => absurd rfl hg⟩
 · simp only [H.gone] at hv; omega
 · simp only [H.gone] at hv; omega
theorem vl {n : Nat} {h : H} {b e : Nat} {c : List S} (hg : (Kk n h).g b = .rw e c) : h.g b = .rw e c := by
 simp only [Kk] at hg
 split at hg
 · cases hg
 · exact hg
theorem vn {n : Nat} {h : H} {b : Nat} {es : List (List S × A)} (hg : (Kk n h).g b = .mp es) : h.g b = .mp es := by
 simp only [Kk] at hg
 split at hg
 · cases hg
 · exact hg
theorem MT {n : Nat} {h : H} {b : Nat} (hg : (Kk n h).g b ≠ .dead) : h.g b ≠ .dead := by
 simp only [Kk] at hg
 split at hg
 · exact absurd rfl hg
 · exact hg
theorem ut (hcl : ∀ W0 base, TM P W0 base cl) {g : Nat} {zs : List Nat} {as as' : List V} {p : V × H} (h1 : Qt h as = some as') (h2 : cl g (Qr zs as') (D h.n) = some p) (hsca : as.all Z5 = true \/ scaV p.1 = true) :
  U5 P W0 base g as h p.1 (h.over (bif as.all Z5 then p.2 else Kk h.n p.2)) := by
 refine ⟨(hcl W0 0 g _ (D h.n) p.1 p.2 h2).1, fun ρ w xs r hx => ?_⟩
 obtain ⟨mu, q1, q2, q3, q4, q5⟩ := kO r h1 hx ρ.bl;refine ((hcl ⟨w, mu⟩ w.heap.size g _ (D h.n) p.1 p.2 h2).2 ⟨ρ.bl, mu⟩ w xs (vv q1 r.len) q2.norm).mono fun e w' he => ?_
 obtain ⟨x, rfl, ρ2, k1, k2, k3, k4⟩ := he;refine ⟨x, rfl, ?_⟩;have hchk : as.all Z5 = true \/ Q2I h.n (p.1, bif as.all Z5 then p.2 else Kk h.n p.2) := by
  cases ho : as.all Z5 with
  | true => exact .inl rfl
  | false =>
   refine .inr ⟨by simpa [ho] using hsca, fun b h1 h2 s hs => ?_⟩
   simp only [cond_false, Kk] at h2 hs
   by_cases hc : (p.2.g b).cells.all ZL = false
   · rw [if_pos ⟨h1, h2, hc⟩] at hs; simp [Blk.cells] at hs
   ·rw [if_neg (fun hh => hc hh.2.2)] at hs
    rw [Bool.not_eq_false, List.all_eq_true] at hc;exact hc s hs
 have hk : Rel ⟨w, mu⟩ w.heap.size ρ2 (bif as.all Z5 then p.2 else Kk h.n p.2) w' /\ h.n <= (bif as.all Z5 then p.2 else Kk h.n p.2).n := by
  cases as.all Z5 with
  | true => exact ⟨k3, k4.1⟩
  | false =>
   refine ⟨⟨k3.io, k3.len, k3.bas, k3.old, k3.low, fun b i e c hi hg => k3.rw b i e c hi (vl hg), k3.fz, fun b i es hi hg => k3.mp b i es hi (vn hg), fun b i hi hg => k3.sep0 b i hi (MT hg), fun b b2 i i2 hi hi2 hg hg2 hne => k3.inj0 b b2 i i2 hi hi2 (MT hg) (MT hg2) hne⟩, k4.1⟩
 clear k3;generalize (bif as.all Z5 then p.2 else Kk h.n p.2) = p2 at hchk hk ⊢;obtain ⟨k3, k4n⟩ := hk;have hio : IO w' w := k3.io;have hsz : w.heap.size <= w'.heap.size := k3.bas;have hold : ∀ i, i < w.heap.size -> w'.heap[i]? = w.heap[i]? := k3.old;have rg := r.grow hio hsz hold;have hn : h.n <= p2.n := k4n
 let mu2 : Nat -> Option (Array Value) := fun k => if k < w.heap.size then ρ.mu k else ρ2.mu k
 have hle : Le ρ ⟨ρ2.bl, mu2⟩ := ⟨k1.1, fun k a hk => by
  show (if k < w.heap.size then ρ.mu k else ρ2.mu k) = some a;rw [if_pos (Q0a r.fz hk)]; exact hk⟩
 have hle2 : as.all Z5 = true -> Le ρ2 ⟨ρ2.bl, mu2⟩ := fun ho => ⟨fun _ _ h => h, fun k a hk => by
  show (if k < w.heap.size then ρ.mu k else ρ2.mu k) = some a
  split
  ·rename_i hlt
   have := k3.low k hlt;rw [hk] at this;have h5 := q5 ho;subst h5; exact this.symm
  · exact hk⟩
 have hS : ∀ {s : S} {y : Value}, (as.all Z5 = true \/ ZL s = true) -> SR ρ2 s y -> SR ⟨ρ2.bl, mu2⟩ s y := fun ho hs => by
  rcases ho with ho | ho
  · exact hs.mono (hle2 ho)
  · exact FzR.sca hs ho
 have hV : VR ⟨ρ2.bl, mu2⟩ p.1 x := by
  rcases hchk with ho | ho
  · exact k2.mono (hle2 ho)
  · exact k2.sca ho.1
 have hb : ∀ {b : Nat} {i : BI}, b < h.n -> ρ2.bl[b]? = some i -> ρ.bl[b]? = some i := fun hb hi => MM (ρ := ⟨ρ.bl, mu⟩) k1 (by show _ < ρ.bl.length; rw [r.len]; exact hb) hi
 refine ⟨⟨ρ2.bl, mu2⟩, hle, hV, ⟨rg.io, (show ρ2.bl.length = (p2.n - h.n) + h.n by rw [k3.len]; omega), rg.bas, rg.old, fun k hk => ?_, fun b i e cs hi hg => ?_, fun k a hk => ?_, fun b i es hi hg => ?_, fun b i hi hg => ?_, fun b b2 i i2 hi hi2 hg hg2 hne => ?_⟩, ⟨(show h.n <= (p2.n - h.n) + h.n by omega), fun b => ?_, fun b hbn hv => ?_, fun b i hi hg hv => hold _ (r.liv hi hg).2⟩⟩
 ·show (if k < w.heap.size then ρ.mu k else ρ2.mu k) = W0.mu k
  rw [if_pos (HJ hk r.bas)]; exact r.low k hk
 ·by_cases hbn : b < h.n
  ·simp only [H.over, if_pos hbn] at hg
   obtain ⟨a1, a2, c, el, fr, a3, a4, a5, a6, a7⟩ := rg.rw b i e cs (hb hbn hi) hg;exact ⟨a1, a2, c, el, fr, a3, a4, a5, a6, fun j s hj => by obtain ⟨y, d1, d2⟩ := a7 j s hj; exact ⟨y, d1, d2.mono hle⟩⟩
  ·simp only [H.over, if_neg hbn] at hg
   obtain ⟨a1, a2, c, el, fr, a3, a4, a5, a6, a7⟩ := k3.rw b i e cs hi hg;refine ⟨HL r.bas a1, a2, c, el, fr, a3, a4, a5, a6, fun j s hj => ?_⟩
   obtain ⟨y, d1, d2⟩ := a7 j s hj;refine ⟨y, d1, hS (hchk.imp id fun ho => ?_) d2⟩
   exact ho.2 b (by omega) (k3.lt hi) s (by rw [hg]; exact List.mem_of_getElem? hj)
 ·show ∃ c el fr, _
  have hk' : (if k < w.heap.size then ρ.mu k else ρ2.mu k) = some a := hk
  split at hk'
  · exact rg.fz k a hk'
  · exact k3.fz k a hk'
 ·by_cases hbn : b < h.n
  ·simp only [H.over, if_pos hbn] at hg
   exact rg.mp b i es (hb hbn hi) hg
  ·simp only [H.over, if_neg hbn] at hg
   obtain ⟨a1, a2⟩ := k3.mp b i es hi hg;exact ⟨HL r.bas a1, a2⟩
 ·show (if i.blk < w.heap.size then ρ.mu i.blk else ρ2.mu i.blk) = none
  by_cases hbn : b < h.n
  ·simp only [H.over, if_pos hbn] at hg
   rw [if_pos (r.liv (hb hbn hi) hg).2];exact r.sep0 b i (hb hbn hi) hg
  ·simp only [H.over, if_neg hbn] at hg
   have := (k3.liv hi hg).1;rw [if_neg (by omega)]
   exact k3.sep0 b i hi hg
 ·by_cases hbn : b < h.n <;> by_cases hbn2 : b2 < h.n
  ·simp only [H.over, if_pos hbn] at hg
   simp only [H.over, if_pos hbn2] at hg2;exact r.inj0 b b2 i i2 (hb hbn hi) (hb hbn2 hi2) hg hg2 hne
  ·simp only [H.over, if_pos hbn] at hg
   simp only [H.over, if_neg hbn2] at hg2;have h6 := (r.liv (hb hbn hi) hg).2;have h7 := (k3.liv hi2 hg2).1;omega
  ·simp only [H.over, if_neg hbn] at hg
   simp only [H.over, if_pos hbn2] at hg2;have h6 := (r.liv (hb hbn2 hi2) hg2).2;have h7 := (k3.liv hi hg).1;omega
  ·simp only [H.over, if_neg hbn] at hg
   simp only [H.over, if_neg hbn2] at hg2;exact k3.inj0 b b2 i i2 hi hi2 hg hg2 hne
 · simp only [H.over]; split <;> omega
 · simp only [H.over, if_pos hbn]
theorem vQ (hcl : ∀ W0 base, TM P W0 base cl) (f : Nat) : VA P W0 base (K5 (R := R) E f cl) := by
 intro d g args h k r hc;unfold K5 at hc
 split at hc
 ·rw [Hv] at hc
  obtain ⟨p, h1, h2⟩ := hc;refine ⟨_, _, h2, ?_⟩;obtain ⟨c1, c2⟩ := hcl W0 base g args h p.1 p.2 h1;refine ⟨c1, fun ρ w xs r hx => (c2 ρ w xs r hx).mono fun e w' he => ?_⟩
  obtain ⟨x, rfl, ρ2, k1, k2, k3, k4⟩ := he;obtain ⟨ρ3, t1, t2, t3, t4⟩ := RH r k1 k3 k4 [p.1];exact ⟨x, rfl, ρ3, t1, t4 _ _ (by simp) k2, t2, t3⟩
 ·unfold Q9 at hc
  simp only [Hv] at hc;obtain ⟨xs, h1, v, h2, h3⟩ := hc
  cases hs : scaV v with
  | false => rw [hs] at h3; cases h3
  | true =>
   rw [hs] at h3;have := YF (W0 := W0) (base := base) hcl h1 h2;rw [hs] at this;exact ⟨v, h, XM (show tyV (E.rt g) v (fun v => k v h) = some r from h3), this⟩
 ·unfold Qj at hc
  simp only [Hv] at hc;obtain ⟨xs, h1, p, h2, h3⟩ := hc;unfold YV at h3
  split at h3
  case isFalse => cases h3
  rename_i hchk;exact ⟨_, _, h3, ut hcl h1 h2 hchk⟩
 ·cases ho : args.all Z5 with
  | false => rw [ho] at hc; cases hc
  | true =>
   rw [ho] at hc;simp only [cond_true, Hv] at hc;obtain ⟨xs, h1, v, h2, h3⟩ := hc;have := YF (W0 := W0) (base := base) hcl h1 h2;rw [ho, SK] at this;exact ⟨v, h, XM h3, this⟩
 ·simp only [Hv] at hc
  obtain ⟨xs, h1, v, h2, h3⟩ := hc;exact ⟨v, _, XM h3, ya hcl h1 h2⟩
theorem UX {f g : S -> Option S} (hfg : ∀ s y, f s = some y -> g s = some y) : ∀ {cs l : List S}, mapO f cs = some l -> mapO g cs = some l
 | [], l, h => h
 | s :: r, l, h => by
  simp only [mapO, Hv] at h ⊢;obtain ⟨x, h1, l', h2, h3⟩ := h;exact ⟨x, hfg _ _ h1, l', UX hfg h2, h3⟩
theorem Ul {e : Nat} {cs : List S} : ∀ (n : Nat) (s y : S), Qy h n s = some y -> Qy (h.new e cs) n s = some y
 | n, .no, y, hy => by cases n <;> exact hy
 | n, .bool b, y, hy => by cases n <;> exact hy
 | n, .int k i, y, hy => by cases n <;> exact hy
 | n, .str s, y, hy => by cases n <;> exact hy
 | n, .nofn, y, hy => by cases n <;> exact hy
 | n, .fn f cap, y, hy => by cases n <;> exact hy
 | n, .fs rows, y, hy => by cases n <;> exact hy
 | n, .fp row o, y, hy => by cases n <;> exact hy
 | n, .mp b, y, hy => by cases n <;> exact hy
 | n, .ptr none, y, hy => by cases n <;> exact hy
 | n, .sl none m, y, hy => by cases n <;> exact hy
 | 0, .sl (some _) m, y, hy => hy
 | 0, .ptr (some _), y, hy => hy
 | n + 1, .sl (some (b, o)) m, y, hy => by
  simp only [Qy] at hy ⊢
  split at hy
  · rename_i hm; rw [if_pos hm]; exact hy
  ·rename_i hm
   rw [if_neg hm]
   split at hy
   ·rename_i hb
    rw [if_pos (show b < (h.new e cs).n from Nat.lt_succ_of_lt hb)]
    rw [show (h.new e cs).g b = h.g b from if_neg (Nat.ne_of_lt hb)]
    cases hg : h.g b with
    | rw e1 cs1 =>
     rw [hg] at hy;simp only [] at hy ⊢
     split at hy
     ·rename_i hc
      rw [if_pos hc];simp only [Hv] at hy ⊢;obtain ⟨l, h1, h2⟩ := hy;exact ⟨l, UX (Ul n) h1, h2⟩
     · cases hy
    | _ => rw [hg] at hy; cases hy
   · cases hy
 | n + 1, .ptr (some (b, o)), y, hy => by
  simp only [Qy] at hy ⊢
  split at hy
  ·rename_i hb
   rw [if_pos (show b < (h.new e cs).n from Nat.lt_succ_of_lt hb)]
   rw [show (h.new e cs).g b = h.g b from if_neg (Nat.ne_of_lt hb)]
   cases hg : h.g b with
   | rw e1 cs1 =>
    rw [hg] at hy;simp only [] at hy ⊢
    split at hy
    ·rename_i hc
     rw [if_pos hc];simp only [Hv] at hy ⊢;obtain ⟨l, h1, h2⟩ := hy;exact ⟨l, UX (Ul n) h1, h2⟩
    ·rename_i hc
     rw [if_neg hc]
     split at hy
     ·rename_i hd
      rw [if_pos hd];simp only [Hv] at hy ⊢;obtain ⟨l, h1, h2⟩ := hy;exact ⟨l, UX (Ul n) h1, h2⟩
     · cases hy
   | _ => rw [hg] at hy; cases hy
  · cases hy
theorem um {e : Nat} {cs : List S} : ∀ {a b : A}, Yf h a = some b -> Yf (h.new e cs) a = some b
 | .s x, b, hb => by
  simp only [Yf, Hv] at hb ⊢;obtain ⟨y, h1, h2⟩ := hb;exact ⟨y, Ul _ _ _ h1, h2⟩
 | .agg c, b, hb => by
  simp only [Yf, Hv] at hb ⊢;obtain ⟨y, h1, h2⟩ := hb;exact ⟨y, UX (Ul _) h1, h2⟩
theorem Pf {e : Nat} {cs : List S} : ∀ {a b : List A}, KY h a = some b -> KY (h.new e cs) a = some b
 | [], b, hb => hb
 | a :: r, b, hb => by
  simp only [KY, Hv] at hb ⊢;obtain ⟨y, h1, l, h2, h3⟩ := hb;exact ⟨y, um h1, l, Pf h2, h3⟩
theorem uk {e : Nat} {cs : List S} : ∀ {a b : V}, QL h a = some b -> QL (h.new e cs) a = some b
 | .s x, b, hb => by
  simp only [QL, Hv] at hb ⊢;obtain ⟨y, h1, h2⟩ := hb;exact ⟨y, Ul _ _ _ h1, h2⟩
 | .agg c, b, hb => by
  simp only [QL, Hv] at hb ⊢;obtain ⟨y, h1, h2⟩ := hb;exact ⟨y, UX (Ul _) h1, h2⟩
 | .tup c, b, hb => by
  simp only [QL, Hv] at hb ⊢;obtain ⟨y, h1, h2⟩ := hb;exact ⟨y, Pf h1, h2⟩
theorem B3 {e : Nat} {cs : List S} : ∀ {a b : List V}, Qt h a = some b -> Qt (h.new e cs) a = some b
 | [], b, hb => hb
 | a :: r, b, hb => by
  simp only [Qt, Hv] at hb ⊢;obtain ⟨y, h1, l, h2, h3⟩ := hb;exact ⟨y, uk h1, l, B3 h2, h3⟩
theorem Pd {g : H} {n : Nat} {x : S} (hx : N5 x = true) : Qy g n x = some x := by
 cases x <;> first | (cases n <;> rfl) | (simp [N5] at hx)
theorem P8 {g : H} {n : Nat} : ∀ {l : List S}, l.all N5 = true -> mapO (Qy g n) l = some l
 | [], _ => rfl
 | x :: l, hx => by
  simp only [HG, HE] at hx;simp only [mapO, Pd hx.1, P8 hx.2, HC]
theorem yR {g : H} {v : V} (hv : PV v = true) : QL g v = some v := by
 cases v with
 | s x => simp only [QL, Pd (show N5 x = true from hv), HC]
 | agg cs => simp only [QL, P8 (show cs.all N5 = true from hv), HC]
 | tup l => cases hv
theorem UH {g : H} : ∀ {l : List V}, l.all PV = true -> Qt g l = some l
 | [], _ => rfl
 | v :: l, hv => by
  simp only [HG, HE] at hv;simp only [Qt, yR hv.1, UH hv.2, HC]
theorem Q0M (hcl : ∀ W0 base, TM P W0 base cl) (f : Nat) : MlP P W0 base (pmE E f) (K5 (R := R) E f cl) := by
 intro d g args h k r hp hc
 cases d with
 | none => simp [pmE] at hp
 | some t =>
  simp only [pmE, Bool.or_eq_true, beq_iff_eq] at hp;unfold K5 at hc
  rcases hp with hp | hp
  ·simp only [hp] at hc
   unfold Q9 at hc;simp only [Hv] at hc;obtain ⟨xs, h1, v, h2, h3⟩ := hc
   cases hs : scaV v with
   | false => rw [hs] at h3; cases h3
   | true =>
    rw [hs] at h3;have := YF (W0 := W0) (base := base) hcl h1 h2;rw [hs] at this;refine ⟨v, XM (show tyV (E.rt g) v (fun v => k v h) = some r from h3), this, fun e cs => ?_, fun hm g => ?_⟩
    ·have := YF (W0 := W0) (base := base) hcl (B3 (e := e) (cs := cs) h1) h2
     rw [hs] at this;exact this
    ·rw [UH hm] at h1
     cases h1
     have := YF (W0 := W0) (base := base) hcl (UH (g := g) hm) h2;rw [hs] at this;exact this
  ·simp only [hp] at hc
   cases ho : args.all Z5 with
   | false => rw [ho] at hc; cases hc
   | true =>
    rw [ho] at hc;simp only [cond_true, Hv] at hc;obtain ⟨xs, h1, v, h2, h3⟩ := hc;have := YF (W0 := W0) (base := base) hcl h1 h2;rw [ho, SK] at this;refine ⟨v, XM h3, this, fun e cs => ?_, fun hm g => ?_⟩
    ·have := YF (W0 := W0) (base := base) hcl (B3 (e := e) (cs := cs) h1) h2
     rw [ho, SK] at this;exact this
    ·rw [UH hm] at h1
     cases h1
     have := YF (W0 := W0) (base := base) hcl (UH (g := g) hm) h2;rw [ho, SK] at this;exact this
end Vm
