/-
  The arguments of a row, opened: what they lead to is in them, frozen.
-/
import Derived.Test.YtmenpfhpflnbnaaGreatVmL
import Derived.ChangeArms
import Derived.DataReads
import Derived.WideShapes
set_option linter.unusedVariables false
set_option linter.unusedSimpArgs false
open Bool renaming and_eq_true->HE
open Go.DataW renaming trod->SH
open List renaming getElem?_eq_getElem->HI
namespace Vm
open Go
def uJ (R : TypeId -> List S -> Prop) (P : Program) : List Field -> List S -> Prop
 | [], xs => xs = []
 | f :: fs, xs => ∃ a b, xs = a ++ b /\ R f.type a /\ uJ R P fs b
def Rp (P : Program) : Nat -> TypeId -> List S -> Prop
 | 0, _, _ => False
 | n + 1, t, xs => match P.underlying t with
  | some .bool => ∃ b, xs = [.bool b]
  | some (.int k) => ∃ m, xs = [.int k m] /\ (Lit.int k m).wf = true
  | some .string => ∃ s : ByteArray, xs = [.str s] /\ s.size <= maxLen
  | some (.slice e) => ∃ rows : List (List S), xs = [.fs rows] /\ rows.length <= maxLen /\ ∀ r ∈ rows, r.length = P.cellsOf e /\ Rp P n e r
  | some (.struct fs) => uJ (Rp P n) P fs.toList xs
  | _ => False
def Wg (P : Program) (q : TypeId -> Bool) : List Field -> Nat -> Nat -> Bool
 | [], o, n => o == n
 | f :: fs, o, n => f.offset == o && q f.type && Wg P q fs (o + P.cellsOf f.type) n
def KR (P : Program) : Nat -> TypeId -> Bool
 | 0, _ => false
 | n + 1, t => match P.underlying t with
  | some .bool | some (.int _) | some .string => true
  | some (.slice e) => decide (0 < P.cellsOf e) && KR P n e
  | some (.struct fs) => Wg P (KR P n) fs.toList 0 (P.cellsOf t)
  | _ => false
def Fzs (mu : Nat -> Option (Array Value)) : List S -> List Value -> Prop
 | [], [] => True
 | s :: c, x :: l => FzR mu s x /\ Fzs mu c l
 | _, _ => False
theorem Fzs.append {mu : Nat -> Option (Array Value)} : ∀ {c : List S} {l : List Value} {c' : List S} {l' : List Value}, Fzs mu c l -> Fzs mu c' l' -> Fzs mu (c ++ c') (l ++ l')
 | [], [], _, _, _, h => h
 | _ :: _, _ :: _, _, _, ⟨h1, h3⟩, h => ⟨h1, h3.append h⟩
 | [], _ :: _, _, _, h, _ => h.elim
 | _ :: _, [], _, _, h, _ => h.elim
theorem Fzs.length {mu : Nat -> Option (Array Value)} : ∀ {c : List S} {l : List Value}, Fzs mu c l -> l.length = c.length
 | [], [], _ => rfl
 | _ :: _, _ :: _, ⟨_, h⟩ => by simp [h.length]
 | [], _ :: _, h => h.elim
 | _ :: _, [], h => h.elim
theorem Fzs.get {mu : Nat -> Option (Array Value)} : ∀ {c : List S} {l : List Value}, Fzs mu c l -> ∀ {j : Nat} {s : S}, c[j]? = some s -> ∃ x, l[j]? = some x /\ FzR mu s x
 | [], [], _, j, s, hj => by simp at hj
 | s :: _, x :: _, ⟨h1, h2⟩, 0, s', hj => by simp at hj; subst hj; exact ⟨x, rfl, h1⟩
 | s :: _, x :: _, ⟨h1, h2⟩, j + 1, s', hj => by simp at hj ⊢; exact h2.get hj
 | [], _ :: _, h, _, _, _ => h.elim
 | _ :: _, [], h, _, _, _ => h.elim
theorem Fzs.sr {ρ : Rho} : ∀ {c : List S} {l : List Value}, Fzs ρ.mu c l -> SRs ρ c l
 | [], [], _ => trivial
 | _ :: _, _ :: _, ⟨h1, h⟩ => ⟨h1.sr, h.sr⟩
 | [], _ :: _, h => h.elim
 | _ :: _, [], h => h.elim
section
variable {K : Type} {enc : TypeId × Value -> K} {P : Program} {W : World}
def Q0c (P : Program) (W : World) (n : Nat) (t : TypeId) (cs : List Value) : Prop := ∃ xs, Fzs (XI W) xs cs /\ Rp P n t xs
theorem NS {n m : Nat} (ih : ∀ t cs x, KR P m t = true -> SH enc P W 0 (fun _ => true) true n t cs = some x -> Q0c P W n t cs) :
  ∀ (fs : List Field) (o : Nat) (cs : List Value) (N : Nat), Wg P (KR P m) fs o N = true -> cs.length = N -> (∀ f ∈ fs, ∃ x, SH enc P W 0 (fun _ => true) true n f.type ((cs.drop f.offset).take (P.cellsOf f.type)) = some x) ->
  o <= N -> ∃ xs, Fzs (XI W) xs (cs.drop o) /\ uJ (Rp P n) P fs xs
 | [], o, cs, N, ht, hl, hf, ho => by
  simp [Wg] at ht;refine ⟨[], ?_, rfl⟩;rw [List.drop_of_length_le (by omega)]; trivial
 | f :: fs, o, cs, N, ht, hl, hf, ho => by
  simp only [Wg, HE, beq_iff_eq] at ht;obtain ⟨⟨h1, h2⟩, h3⟩ := ht;obtain ⟨x, hx⟩ := hf f (by simp)
  obtain ⟨xs1, s1, q1⟩ := ih _ _ _ h2 hx;have hle : o + P.cellsOf f.type <= N := by
   clear ih hf hx s1 q1;have key : ∀ (fs : List Field) (o : Nat), Wg P (KR P m) fs o N = true -> o <= N := by
    intro fs
    induction fs with
    | nil => intro o h; simp [Wg] at h; omega
    | cons g gs ih => intro o h; simp only [Wg, HE, beq_iff_eq] at h; have := ih _ h.2; omega
   exact key _ _ h3
  obtain ⟨xs2, s2, q2⟩ := NS ih fs (o + P.cellsOf f.type) cs N h3 hl (fun g hg => hf g (by simp [hg])) hle
  refine ⟨xs1 ++ xs2, ?_, xs1, xs2, rfl, q1, q2⟩;have := s1.append s2;rw [h1, <- List.drop_drop, List.take_append_drop] at this;exact this
theorem kQ {a : Addr} (ha : a.spot = none) (i : Nat) : a.add i = ⟨a.block, a.off + i, none⟩ := by
 obtain ⟨b, o, s⟩ := a
 cases ha
 exact Go.WideShapes.add_plain b o i
theorem kJ {w : World} {k j : Nat} {v : Value} (h : w.cell? ⟨k, j, none⟩ = some v) : ∃ c, XI w k = some c /\ c[j]? = some v := by
 unfold World.cell? at h
 split at h
 ·rename_i c _ _ hh
  simp at h;exact ⟨c, by unfold XI; rw [hh], h⟩
 · cases h
theorem opens : ∀ (n : Nat) (m : Nat) (t : TypeId) (cs : List Value) (x : DataW K × List MemPlace), KR P m t = true -> SH enc P W 0 (fun _ => true) true n t cs = some x -> Q0c P W n t cs
 | 0, _, _, _, _, _, h => by simp [SH] at h
 | n + 1, 0, _, _, _, hp, _ => by simp [KR] at hp
 | n + 1, m + 1, t, cs, x, hp, h => by
  unfold KR at hp
  split at hp
  ·rename_i ht
   obtain ⟨b, rfl, _⟩ := DataW.trod_bool ht h;exact ⟨[.bool b], ⟨.bool b, trivial⟩, by unfold Rp; rw [ht]; exact ⟨b, rfl⟩⟩
  ·rename_i k ht
   obtain ⟨b, rfl, _, hw⟩ := DataW.trod_int ht h;exact ⟨[.int k b], ⟨.int k b, trivial⟩, by unfold Rp; rw [ht]; exact ⟨b, rfl, hw⟩⟩
  ·rename_i ht
   obtain ⟨b, rfl, _, hw⟩ := DataW.trod_string ht h;exact ⟨[.str b], ⟨.str b, trivial⟩, by unfold Rp; rw [ht]; exact ⟨b, rfl, hw⟩⟩
  ·rename_i e ht
   rw [HE, decide_eq_true_eq] at hp;obtain ⟨hz, hp⟩ := hp
   rcases DataW.trod_slice ht h with ⟨rfl, _⟩ | ⟨a, len, cap, elems, rest, n', hn, rfl, _, _, hlc, hcm, hel, he, hsp, _⟩
   · exact ⟨[.fs []], ⟨.fs0 _ _, trivial⟩, by unfold Rp; rw [ht]; exact ⟨[], rfl, Nat.zero_le _, by simp⟩⟩
   ·cases hn
    obtain ⟨hrl, hre⟩ := hsp rfl;have each : ∀ k, k <= len -> ∃ rows : List (List S), ∃ ys : List Value, rows.length = k /\ (∀ r ∈ rows, r.length = P.cellsOf e /\ Rp P n e r) /\ Fzs (XI W) rows.flatten ys /\
      ∀ (j : Nat) y, ys[j]? = some y -> a.spot = none /\ W.cell? ⟨a.block, a.off + j, none⟩ = some y := by
     intro k
     induction k with
     | zero => exact fun _ => ⟨[], [], rfl, by simp, trivial, by simp⟩
     | succ k ih =>
      intro hk;obtain ⟨rows, ys, c1, c2, c3, c4⟩ := ih (by omega)
      have hk' := he k (by omega)
      rw [HI (by omega), Option.bind_eq_some_iff] at hk'
      obtain ⟨cs, d1, d2⟩ := hk';obtain ⟨_, d3, d4⟩ := World.cells?_some d1;obtain ⟨xs, s2, q2⟩ := opens n m e cs _ hp d2;have hxl : xs.length = P.cellsOf e := by rw [<- s2.length, d3]
      have hspot : a.spot = none := by
       have h2 := d4 0 hz;rw [HI (by omega)] at h2
       have h3 := World.cell?_spot h2
       by_cases h0 : k * P.cellsOf e = 0
       · simpa [Addr.add, h0] using h3
       ·cases k with
        | zero => simp at h0
        | succ k =>
         have hl0 : ys ≠ [] := by
          rintro rfl
          have := c3.length
          cases rows with
          | nil => simp at c1
          | cons r rows =>
           have := (c2 r (by simp)).1
           simp at *; omega
         obtain ⟨y, ys', rfl⟩ := List.exists_cons_of_ne_nil hl0;exact (c4 0 y rfl).1
      have hfl : rows.flatten.length = k * P.cellsOf e := by
       rw [<- c1]; exact U1 fun r hr => (c2 r hr).1
      have hyl : ys.length = k * P.cellsOf e := by rw [c3.length, hfl]
      refine ⟨rows ++ [xs], ys ++ cs, by simp [c1], fun r hr => ?_, ?_, fun j y hj => ?_⟩
      ·rcases List.mem_append.1 hr with hr | hr
       · exact c2 r hr
       · simp at hr; subst hr; exact ⟨hxl, q2⟩
      ·simp only [List.flatten_append, List.flatten_cons, List.flatten_nil, List.append_nil]
       exact c3.append s2
      ·by_cases hj1 : j < ys.length
       ·rw [List.getElem?_append_left hj1] at hj
        exact c4 j y hj
       ·rw [List.getElem?_append_right (by omega)] at hj
        have hjl := (List.getElem?_eq_some_iff.1 hj).1;have h4 := d4 (j - ys.length) (by omega)
        rw [hj, kQ hspot, kQ rfl] at h4;have h5 : a.off + k * P.cellsOf e + (j - ys.length) = a.off + j := by omega
        rw [h5] at h4;exact ⟨hspot, h4⟩
    obtain ⟨rows, ys, c1, c2, c3, c4⟩ := each len (Nat.le_refl _);refine ⟨[.fs rows], ⟨?_, trivial⟩, by unfold Rp; rw [ht]; exact ⟨rows, rfl, by omega, c2⟩⟩
    by_cases h0 : rows = []
    ·subst h0
     simp at c1;subst c1;exact .fs0 _ _
    ·have hpos : 0 < rows.flatten.length := by
      rw [U1 fun r hr => (c2 r hr).1]
      exact Nat.mul_pos (List.length_pos_iff.2 h0) hz
     obtain ⟨y0, e0⟩ : ∃ y0, ys[0]? = some y0 := ⟨_, HI (by rw [c3.length]; exact hpos)⟩
     obtain ⟨k1, k2⟩ := c4 0 y0 e0;obtain ⟨c, k3, _⟩ := kJ k2;obtain ⟨b, o, s⟩ := a
     cases k1
     rw [<- c1];refine FzR.fs (cells := c) (ys := fun j => ys.getD j .nilFunc) (z := P.cellsOf e) k3 h0 (fun r hr => (c2 r hr).1) (by omega) (fun j s hs => ?_) fun j s hs => ?_
     ·obtain ⟨y, g1, g2⟩ := c3.get hs
      obtain ⟨_, g3⟩ := c4 j y g1;obtain ⟨c', g4, g5⟩ := kJ g3;simp only at g4 k3;rw [k3] at g4; cases g4;simpa [List.getD, g1] using g5
     ·obtain ⟨y, g1, g2⟩ := c3.get hs
      simpa [List.getD, g1] using g2
  ·rename_i fs ht
   obtain ⟨xs, n', hn, _, hl, hxl, hf⟩ := DataW.trod_struct ht h
   cases hn
   obtain ⟨ys, s1, q1⟩ := NS (fun t cs x hp h => opens n m t cs x hp h) fs.toList 0 cs _ hp hl (fun f hf' => by
    obtain ⟨i, hi⟩ := List.getElem?_of_mem hf';have hi' : fs[i]? = some f := by rw [<- Array.getElem?_toList]; exact hi
    have hlt := (Array.getElem?_eq_some_iff.1 hi').1;exact ⟨_, by rw [hf i f hi', HI (by omega)]⟩) (Nat.zero_le _)
   exact ⟨ys, s1, by unfold Rp; rw [ht]; exact q1⟩
  · cases hp
end
end Vm
#print axioms Vm.opens
