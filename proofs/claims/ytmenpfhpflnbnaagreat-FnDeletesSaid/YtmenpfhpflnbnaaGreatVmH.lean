/-
  append, copy and len.
-/
import Derived.Test.YtmenpfhpflnbnaaGreatVmG
set_option linter.unusedVariables false
set_option linter.unusedSimpArgs false
open Array renaming getElem?_toList->Fy,length_toList->FU
open Bool renaming false_eq_true->FD
open Go.Builtin renaming append_->DV,copy_->AX,firstCells->Dw,lenOf->DU,len_->Dy,nextslicecap->IT,zeroCells->AW
open Go.Instr renaming findAsking->EY,keyThatStays->Ow,lookup->AZ,mapUpdate->Ou,sameBits->SE
open List renaming eq_nil_of_length_eq_zero->FS,getElem?_append_left->HZ,getElem?_append_right->FM,getElem?_cons_succ->FP,getElem?_cons_zero->HP,getElem?_eq_some_iff->HF,getElem?_take->FG,getElem?_toArray->FH
open Nat renaming le_refl->Hx,min->FV,min_le_left->AY,mul_le_mul_right->EG
open Option renaming bind_eq_some_iff->Hv
open Option.some renaming inj->IV,injEq->Du
open Go.Question renaming appendCap->Dx
open Go.Result renaming andThen_ok->Hy
open Go.Sem renaming run_bind->Hz,run_pure->HD
namespace Vm
open Go
variable {W0 : St} {base : Nat} {ρ : Rho} {h : H} {w w' : World} {P : Program} {E : Env} {R : Type}
def zW (W0 : St) (base : Nat) (ρ : Rho) (h h' : H) (w : World) (v : V) (x : Value) (w' : World) : Prop := ∃ ρ', Le ρ ρ' /\ VR ρ' v x /\ Rel W0 base ρ' h' w' /\ Frm ρ h h' w w'
theorem X2.of_heap {w w' : World} (hw : w'.heap = w.heap) : X2 base ρ h w w' := ⟨fun _ _ => by rw [hw], fun _ _ _ _ _ _ _ => by rw [hw], fun hh => hh.heap hw⟩
theorem zW.mk {h' : H} {v : V} {x : Value} {ρ' : Rho} (h1 : Le ρ ρ') (h2 : VR ρ' v x) (h3 : Rel W0 base ρ' h' w') (h4 : Frm ρ h h' w w') : zW W0 base ρ h h' w v x w' := ⟨ρ', h1, h2, h3, h4⟩
theorem qC {at_ : Array Nat} {t0 t1 e ty : Nat} {te : TI} {d1 : TypeDesc} (hT : X5 P E) (he : E.ty e = some te) (ha0 : at_[0]? = some t0) (ha1 : at_[1]? = some t1)
  (hu0 : P.underlying t0 = some (.slice e)) (hu1 : P.underlying t1 = some d1) (hd1 : (∃ e1, d1 = .slice e1) \/ d1 = .string)
  {bs : Option Addr} {n cap m : Nat} {z : Value} {ln : List Value} (hm : (DU z).run P w = .ok m w) (hn : (Dw te.z m z).run P w = .ok ln.toArray w) (hle : n + m <= cap)
  (hs : (match bs with | some a => storeCells (a.add (n * te.z)) ln | none => pure () : Sem Unit).run P w = .ok () w') :
  (DV at_ ty #[.slice bs n cap, z]).run P w = .ok (.slice bs (n + m) cap) w' := by
 rcases hd1 with ⟨e1, rfl⟩ | rfl
 all_goals
  simp only [DV, ha0, ha1, FH, HP, FP, Hz, QJ hu0, Hy, (hT _ _ he).size, QJ hu1, HD, FD, if_false, hm, if_pos hle, Bool.not_false, if_true, hn]
  cases bs with
  | none => cases hs; rfl
  | some a => simp only [Hz, hs, Hy, HD]
theorem qD {at_ : Array Nat} {t0 t1 e ty : Nat} {te : TI} {d1 : TypeDesc} (hT : X5 P E) (he : E.ty e = some te) (ha0 : at_[0]? = some t0) (ha1 : at_[1]? = some t1)
  (hu0 : P.underlying t0 = some (.slice e)) (hu1 : P.underlying t1 = some d1) (hd1 : (∃ e1, d1 = .slice e1) \/ d1 = .string)
  {bs : Option Addr} {n cap m : Nat} {z : Value} {lo ln : List Value} (hm : ∀ w' : World, w'.heap = w.heap -> (DU z).run P w' = .ok m w') (hn : ∀ w' : World, w'.heap = w.heap -> (Dw te.z m z).run P w' = .ok ln.toArray w')
  (ho : ∀ w' : World, w'.heap = w.heap -> (Dw te.z n (.slice bs n cap)).run P w' = .ok lo.toArray w') (hlt : cap < n + m) (hl : n + m <= lim) (hlo : lo.length = n * te.z) (hln : ln.length = m * te.z) :
  ∃ newCap, n + m <= newCap /\ ∃ arr : Array Value, ∃ rest, arr = ((lo ++ ln) ++ rest).toArray /\ arr.size = newCap * te.z /\
   (DV at_ ty #[.slice bs n cap, z]).run P w = .ok (.slice (some ⟨w.heap.size, 0, none⟩) (n + m) newCap) { w with drawn := w.drawn + 1, heap := w.heap.push (.cells arr e) } := by
 obtain ⟨i, d, zz, e1, e2, e3, e4, e5, e6, e7⟩ := (hT _ _ he).get;have hsm := (hT _ _ he).small;have hzl := (e6 ⟨[], fun _ => none⟩).length
 have hzs : zz.cells.size = te.z := by rw [<- FU, hzl, hsm.2]
 have hf : (Dx (n + m) cap e).forced = false := rfl;obtain ⟨newCap, hcap, hcut⟩ : ∃ c, n + m <= c /\ (Dx (n + m) cap e).cut (w.tape w.drawn (Dx (n + m) cap e)) = c := ⟨_, Nat.le_add_right _ _, rfl⟩;have hng : ¬ (IT (n + m) cap * i.bytes > 2 ^ 48) := by
  have := nextslicecap_le (need := n + m) (old := cap) hlt;unfold lim at hl;rw [e4];have : IT (n + m) cap * te.bytes <= 137438953472 * 255 := Nat.mul_le_mul (by omega) hsm.1
  omega
 have hni : ¬ (((n + m : Nat) : Int) > IntKind.i64.max /\ i.bytes = 0) := by
  have : IntKind.i64.max = 9223372036854775807 := by decide
  unfold lim at hl;omega
 refine ⟨newCap, hcap, lo.toArray ++ ln.toArray ++ AW zz.cells (newCap - (n + m)), (AW zz.cells (newCap - (n + m))).toList, ?_, ?_, ?_⟩
 · rw [<- Array.toList_inj]; simp
 ·simp only [Array.size_append, List.size_toArray, AW, Array.size_map, Array.size_range, hzs, hlo, hln, <- Nat.add_mul]
  congr 1; omega
 ·have ho' := ho { w with drawn := w.drawn + 1 } rfl
  have hn' := hn { w with drawn := w.drawn + 1 } rfl
  rcases hd1 with ⟨e1', rfl⟩ | rfl
  all_goals
   simp only [DV, ha0, ha1, FH, HP, FP, Hz, QJ hu0, Hy, (hT _ _ he).size, QJ hu1, HD, FD, if_false, hm w rfl];rw [if_neg (by omega)]
   simp only [Hz, VM e1, Hy, false_or, hni, hng, if_false, run_choose, hf, FD, hcut, run_askRoom, ho', Bool.not_false, if_true, hn', Ue e1 e5, YE, HD]
theorem Q0p (hT : X5 P E) {t0 t1 e ty : Nat} {te : TI} {at_ : Array Nat} {x y v : V} {u z : Value} {h' : H} {ti0 ti1 : TI}
  (ha0 : at_[0]? = some t0) (ha1 : at_[1]? = some t1) (h0 : E.ty t0 = some ti0) (h1 : E.ty t1 = some ti1) (hd0 : ti0.d = .sl e) (hd1 : (∃ e1, ti1.d = .sl e1) \/ ti1.d = .str) (he : E.ty e = some te)
  (rel : Rel W0 base ρ h w) (hu : VR ρ x u) (hz : VR ρ y z) (ha : Zm te.z h x y = some (v, h')) :
  ∃ q w', (DV at_ ty #[u, z]).run P w = .ok q w' /\ zW W0 base ρ h h' w v q w' := by
 have hu0 := (hT _ _ h0).slice hd0;obtain ⟨d1, hu1, hd1⟩ : ∃ d1, P.underlying t1 = some d1 /\ ((∃ e1, d1 = .slice e1) \/ d1 = .string) := by
  rcases hd1 with ⟨e1, hd1⟩ | hd1
  · exact ⟨_, (hT _ _ h1).slice hd1, .inl ⟨e1, rfl⟩⟩
  · exact ⟨_, (hT _ _ h1).str hd1, .inr rfl⟩
 unfold Zm at ha
 split at ha
 ·-- nothing yet
  rename_i n;simp only [Hv] at ha;obtain ⟨ys, g1, m, g2, g3⟩ := ha;obtain ⟨rfl, rfl⟩ := hu.snil;obtain ⟨c1, c2, c3⟩ := M3 (P := P) rel hz g1 g2;obtain ⟨l, c4, c5⟩ := c3 m (Hx _);rw [<- c1, List.take_length] at c4
  split at g3
  ·rename_i hc
   obtain ⟨_, hm, hz0⟩ := hc
   split at g3
   ·rename_i hm0
    subst hm0
    cases g3
    have := qC (ty := ty) (w' := w) (bs := none) (n := 0) (cap := 0) hT he ha0 ha1 hu0 hu1 hd1 (c2 _) (c5 w (X2.refl _ _ _ _)) (Hx _) rfl;exact ⟨_, _, this, .mk (Le.refl _) (fun _ => ⟨rfl, rfl⟩) rel (Frm.refl _ _ _)⟩
   ·rename_i hm0
    cases g3
    have hlen : ∀ w' : World, w'.heap = w.heap -> (DU z).run P w' = .ok m w' := fun w' _ => c2 w'
    obtain ⟨cap, k1, arr, rest, k2, k3, k4⟩ := qD (ty := ty) (bs := none) (n := 0) (cap := 0) (lo := []) hT he ha0 ha1 hu0 hu1 hd1 hlen (fun w' hw => c5 w' (X2.of_heap hw)) (fun w' _ => by simp [Dw]) (by omega) (by omega) (by simp) (by rw [c4.length, c1])
    rw [Nat.zero_add] at k1 k4;rw [List.nil_append] at k2;exact ⟨_, _, k4, .mk (Le.push _ _) (NV rel rfl k1 (by omega)) (rel.new c4 k2 rfl) (rel.new_frm rfl)⟩
  · cases g3
 ·rename_i b o n
  simp only [Hv] at ha;obtain ⟨xs, f1, ys, g1, m, g2, g3⟩ := ha;obtain ⟨c1, c2, c3⟩ := M3 (P := P) rel hz g1 g2;obtain ⟨l, c4, c5⟩ := c3 m (Hx _);rw [<- c1, List.take_length] at c4
  split at g3
  ·rename_i hc
   obtain ⟨hbn, hm, hz0⟩ := hc
   split at g3
   ·rename_i e' cs hg
    split at g3
    ·rename_i hez
     subst hez
     cases g3
     obtain ⟨i, off, cap, lo, q1, q2, q3, q4, q5, q6, q7, q8, q9⟩ := Ba (P := P) rel.q hu f1;subst q2;obtain ⟨r1, r2, c, el, fr, r3, rf, r4, r5, r6⟩ := rel.rw b i _ cs q1 hg;have hcells : h.cells b = cs := by unfold H.cells; rw [if_pos hbn, hg]; rfl
     have hlm : l.length = m * te.z := by rw [c4.length, c1]
     by_cases hroom : n + m <= cap
     ·-- in its place
      have hst : ∃ w', (storeCells (off.add (n * te.z)) l).run P w = .ok () w' /\ w'.heap.size = w.heap.size /\ (∀ (j : Nat), j ≠ i.blk -> w'.heap[j]? = w.heap[j]?) /\
        (∃ c' : Array Value, w'.heap[i.blk]? = some (.cells c' el fr) /\ c'.size = c.size /\ i.off + o + (xs ++ ys).length <= c.size /\ ∀ (j : Nat) (s : S), (xs ++ ys)[j]? = some s -> (∃ y, c'[i.off + o + j]? = some y /\ SR ρ s y)) /\ IO w' w := by
       have hxl : xs.length = n * te.z := by rw [<- q6.length, q7]
       have hadd : ∀ (A : Addr), A.spot = none -> A.add (n * te.z) = ⟨A.block, A.off + n * te.z, none⟩ := by
        intro A hA;unfold Addr.add
        split
        · rename_i h0; cases A; simp at hA; subst hA; simp [h0]
        · rfl
       by_cases hc0 : cap = 0
       ·have hn0 : n = 0 := by omega
        have hm0 : m = 0 := by omega
        have hl0 : l = [] := FS (by rw [hlm, hm0]; simp)
        subst hl0;have hx0 : xs = [] := FS (by rw [hxl, hn0]; simp)
        have hy0 : ys = [] := FS (by rw [c1, hm0]; simp)
        subst hx0; subst hy0;refine ⟨w, rfl, rfl, fun _ _ => rfl, ⟨c, r3, rfl, ?_, fun j s hj => by simp at hj⟩, rfl, rfl, rfl⟩
        rw [hcells] at q8;simp; omega
       ·have hoff := q4 hc0
        subst hoff;rw [hadd _ rfl];have h5 := q5 (by omega) hc0
        rw [r2] at h5;have hcap : (n + m) * te.z <= cap * te.z := EG _ hroom;rw [Nat.add_mul] at hcap;obtain ⟨w', s1, s2, s3, s4, s5⟩ := NB (P := P) (g := i.blk) (o := i.off + o + n * te.z) (t := el) (fr := fr) l 0 c w r3 rf (by omega) c4.one
        simp only [Nat.add_zero] at s4;refine ⟨w', s1, s2, s3, ⟨_, s4, by simp; omega, by simp; omega, fun j s hj => ?_⟩, s5⟩
        rw [FH]
        by_cases hj1 : j < xs.length
        ·rw [HZ hj1] at hj
         have hj' : cs[o + j]? = some s := by
          simp only [Z6, if_pos (And.intro hbn q8)] at f1
          cases f1
          rw [hcells, FG, if_pos (by omega), List.getElem?_drop] at hj
          exact hj
         obtain ⟨y, k1, k2⟩ := r6 (o + j) s hj';refine ⟨y, ?_, k2⟩;rw [List.append_assoc, HZ (by simp; omega), FG, if_pos (by omega), Fy, Nat.add_assoc]
         exact k1
        ·rw [FM (by omega)] at hj
         obtain ⟨y, k1, k2⟩ := c4.get hj;refine ⟨y, ?_, k2⟩;have hlt := (HF.1 k1).1;rw [List.append_assoc, FM (by simp; omega), HZ (by simp; omega)]
         simp only [List.length_take, FU];rw [show i.off + o + j - min (i.off + o + n * te.z) c.size = j - xs.length from by omega]
         exact k1
      obtain ⟨w', s1, s2, s3, ⟨c', s4, s5, s6, s7⟩, s8⟩ := hst;have := qC (ty := ty) (w' := w') (bs := some off) (n := n) (cap := cap) hT he ha0 ha1 hu0 hu1 hd1 (c2 _) (c5 w (X2.refl _ _ _ _)) hroom s1;refine ⟨_, _, this, .mk (Le.push _ _) ?_ (rel.over q1 hg r3 s2 s3 s4 s5 s6 s7 s8) (rel.over_frm q1 hg s3)⟩;refine fun _ => ⟨⟨i.blk, i.off + o, te.z, i.top⟩, off, cap, ?_, rfl, hroom, fun hc => by rw [q4 hc]; rfl, fun _ hc => ?_⟩
      ·show (ρ.bl ++ [_])[h.n]? = _
       rw [<- rel.len]; simp
      · have := q5 (by omega) hc; rw [r2] at this; exact this
     ·have hlen : ∀ w' : World, w'.heap = w.heap -> (DU z).run P w' = .ok m w' := fun w' _ => c2 w'
      obtain ⟨newCap, k1, arr, rest, k2, k3, k4⟩ := qD (ty := ty) (bs := some off) (n := n) (cap := cap) (lo := lo) hT he ha0 ha1 hu0 hu1 hd1 hlen (fun w' hw => c5 w' (X2.of_heap hw)) (fun w' hw => q9 w' (X2.of_heap hw)) (by omega) (by omega) q7 hlm
      refine ⟨_, _, k4, .mk (Le.push _ _) (NV (h := h.put b .dead) (rel.kill b) rfl k1 (by omega)) ((rel.kill b).new (q6.append c4) k2 rfl) ?_⟩
      exact Frm.trans (Le.refl _) rel.len (uf b) ((rel.kill b).new_frm rfl)
    · cases g3
   · cases g3
  · cases g3
 · cases ha
theorem Q0o (hT : X5 P E) {t0 e ty : Nat} {te : TI} {at_ : Array Nat} {x y v : V} {u z : Value} {h' : H} {ti0 : TI}
  (ha0 : at_[0]? = some t0) (h0 : E.ty t0 = some ti0) (hd0 : ti0.d = .sl e) (he : E.ty e = some te)
  (rel : Rel W0 base ρ h w) (hu : VR ρ x u) (hz : VR ρ y z) (ha : Vw te.z h x y = some (v, h')) :
  ∃ q w', (AX at_ ty #[u, z]).run P w = .ok q w' /\ zW W0 base ρ h h' w v q w' := by
 have hu0 := (hT _ _ h0).slice hd0;unfold Vw at ha
 split at ha
 ·rename_i n
  simp only [Hv] at ha;obtain ⟨m, g1, ys, g2, g3⟩ := ha
  cases g3
  obtain ⟨rfl, rfl⟩ := hu.snil;obtain ⟨c1, c2, c3⟩ := M3 (P := P) rel hz g2 g1;obtain ⟨l, c4, c5⟩ := c3 (FV m 0) (AY _ _);refine ⟨_, w, ?_, .mk (Le.refl _) (fun _ => rfl) rel (Frm.refl _ _ _)⟩
  simp only [AX, ha0, FH, HP, FP, Hz, QJ hu0, Hy, (hT _ _ he).size, c2, c5 w (X2.refl _ _ _ _), HD];rfl
 ·rename_i b o n
  simp only [Hv] at ha;obtain ⟨ys, g2, m, g1, g3⟩ := ha;obtain ⟨c1, c2, c3⟩ := M3 (P := P) rel hz g2 g1;obtain ⟨l, c4, c5⟩ := c3 (FV m n) (AY _ _)
  split at g3
  ·rename_i hbn
   split at g3
   ·rename_i e' cs hg
    split at g3
    ·rename_i hle
     cases g3
     obtain ⟨i, off, cap, q1, rfl, q3, q4, q5⟩ := hu.sl;have hyl : (ys.take (FV m n * te.z)).length = FV m n * te.z := by
      rw [List.length_take, c1, Nat.min_eq_left];exact EG _ (AY _ _)
     have hmn : FV m n * te.z <= n * te.z := EG _ (Nat.min_le_right _ _);have hw : ∃ w', (storeCells off l).run P w = .ok () w' /\ Rel W0 base ρ (h.put b (.rw e' (setAt cs o (ys.take (FV m n * te.z))))) w' /\ Frm ρ h (h.put b (.rw e' (setAt cs o (ys.take (FV m n * te.z))))) w w' := by
      by_cases hc0 : cap = 0
      ·have hn0 : n = 0 := by omega
       have hy0 : ys.take (FV m n * te.z) = [] := FS (by rw [hyl, hn0]; simp)
       rw [hy0] at c4 ⊢;have hl0 : l = [] := FS (by rw [c4.length]; rfl)
       subst hl0;obtain ⟨w', k1, k2, k3⟩ := BS (P := P) (o := o) (ys := []) (vs := []) rel q1 hg trivial (by simp; omega)
       cases k1
       exact ⟨w, rfl, k2, k3⟩
      ·rw [q4 hc0]
       exact BS rel q1 hg c4 (by omega)
     obtain ⟨w', k1, k2, k3⟩ := hw;refine ⟨_, w', ?_, .mk (Le.refl _) (fun _ => rfl) k2 k3⟩
     simp only [AX, ha0, FH, HP, FP, Hz, QJ hu0, Hy, (hT _ _ he).size, c2, c5 w (X2.refl _ _ _ _), HD, k1];rfl
    · cases g3
   · cases g3
  · cases g3
 · cases ha
theorem xD (hT : X5 P E) {t0 ty : Nat} {at_ : Array Nat} {x v : V} {u : Value} {ti0 : TI} (ha0 : at_[0]? = some t0) (h0 : E.ty t0 = some ti0) (hu : VR ρ x u) (hv : Xi ti0.d x = some v) :
  ∃ q, VR ρ v q /\ ∀ w, (Dy at_ ty #[u]).run P w = .ok q w := by
 unfold Xi at hv
 split at hv
 ·rename_i e ad n hd
  cases hv
  have hu0 := (hT _ _ h0).slice hd
  cases ad with
  | none =>
   obtain ⟨rfl, rfl⟩ := hu.snil;exact ⟨_, fun _ => rfl, fun w => by simp only [Dy, ha0, FH, HP, Hz, QJ hu0, Hy]; rfl⟩
  | some p =>
   obtain ⟨i, off, cap, q1, rfl, _⟩ := hu.sl (b := p.1) (o := p.2);exact ⟨_, fun _ => rfl, fun w => by simp only [Dy, ha0, FH, HP, Hz, QJ hu0, Hy]; rfl⟩
 ·rename_i e rows hd
  cases hv
  have hu0 := (hT _ _ h0).slice hd;obtain ⟨q, cap, z', ys, f1, _⟩ := Rg hu.fs;rw [f1];exact ⟨_, fun _ => rfl, fun w => by simp only [Dy, ha0, FH, HP, Hz, QJ hu0, Hy]; rfl⟩
 ·rename_i s hd
  cases hv
  have hu0 := (hT _ _ h0).str hd;obtain rfl := hu.str;exact ⟨_, fun _ => rfl, fun w => by simp only [Dy, ha0, FH, HP, Hz, QJ hu0, Hy]; rfl⟩
 · cases hv
theorem EsR.get : ∀ {es : List (List S × A)} {l : List MapEntry}, EsR es l -> ∀ {j : Nat} {e : List S × A}, es[j]? = some e -> ∃ m, l[j]? = some m /\ (∃ xs : Array Value, m.key = .agg xs /\ WU e.1 xs.toList) /\ PAR e.2 m.val
 | [], [], _, j, e, hj => by simp at hj
 | e0 :: _, m0 :: _, ⟨h1, h2, h3⟩, 0, e, hj => by simp at hj; subst hj; exact ⟨m0, rfl, h1, h2⟩
 | _ :: _, _ :: _, ⟨h1, h2, h3⟩, j + 1, e, hj => by simp at hj ⊢; exact EsR.get h3 hj
 | [], _ :: _, h, _, _, _ => h.elim
 | _ :: _, [], h, _, _, _ => h.elim
theorem T7 (rel : Rel W0 base ρ h w) {m : V} {q : Nat × List (List S × A)} (hm : Vg h m = some q) {x : Value} (hx : VR ρ m x) :
  ∃ i ents clock, ρ.bl[q.1]? = some i /\ h.g q.1 = .mp q.2 /\ x = .map (some i.blk) /\ w.heap[i.blk]? = some (.map ents clock) /\ EsR q.2 ents.toList := by
 unfold Vg at hm
 split at hm
 ·rename_i b
  split at hm
  ·split at hm
   ·rename_i es hg
    cases hm
    obtain ⟨i, h1, rfl⟩ := hx rfl;obtain ⟨_, ents, cl, h2, h3⟩ := rel.mp b i es h1 hg;exact ⟨i, ents, cl, h1, hg, rfl, h2, h3⟩
   · cases hm
  · cases hm
 · cases hm
theorem xY (hT : X5 P E) {t : Nat} {kv : V} {k : Nat × Nat × List S} (hk : NZ E t kv = some k) {y : Value} (hy : VR ρ kv y) :
  ∃ xs tk, y = .agg xs /\ kv = .agg k.2.2 /\ SRs ρ k.2.2 xs.toList /\ P.underlying t = some (.map k.1 k.2.1) /\ E.ty k.1 = some tk /\ tk.agg = true /\
   (match P.underlying k.1 with | some (.array _ _) | some (.struct _) => true | _ => false) = true /\ ∀ em w, (Instr.checkKey em 10000 k.1 y).run P w = .ok () w := by
 unfold NZ at hk;rw [Hv] at hk;obtain ⟨ti, h1, hk⟩ := hk
 split at hk
 ·rename_i kt et ks hd
  rw [Hv] at hk;obtain ⟨tk, h2, hk⟩ := hk
  cases hag : tk.agg with
  | false => rw [hag] at hk; cases hk
  | true =>
   rw [hag] at hk;simp only [cond_true, Hv] at hk;obtain ⟨b, h3, h4⟩ := hk
   cases h4
   obtain ⟨xs, rfl, hs⟩ := hy;have hu : P.underlying t = some (.map kt et) := by
    obtain ⟨i, d, z, e1, e2, e3, e4, e5, e6, e7⟩ := (hT _ _ h1).get;rw [hd] at e7
    cases d <;> simp [KG] at e7
    rw [e2, e7.1.1, e7.1.2]
   refine ⟨xs, tk, rfl, rfl, hs, hu, h2, hag, ?_, fun em w => ?_⟩
   ·obtain ⟨i, d, z, e1, e2, e3, e4, e5, e6, e7⟩ := (hT _ _ h2).get
    rw [hag] at e7;rw [e2]
    cases d <;> simp [KG] at e7 <;> rfl
   ·have := zH (ρ := ρ) hT (em := em) 8 kt ks ks b h3 xs.toList hs tk h2 10000 (by omega) w
    unfold JI at this;rw [hag] at this;simpa using this
 · cases hk
theorem Vk (hT : X5 P E) {kt : Nat} {tk : TI} (htk : E.ty kt = some tk) (hag : tk.agg = true) {ks : List S} {xs : Array Value} (hs : SRs ρ ks xs.toList) : ∀ (es : List (List S × A)) (ents : List MapEntry), EsR es ents -> ∀ (i : Nat) (r : Option (Nat × List S × A)), Jx E kt ks es i = some r ->
  match r with
  | none => (EY kt (.agg xs) ents i).run P w = .ok none w
  | some e => ∃ m, (EY kt (.agg xs) ents i).run P w = .ok (some (e.1, m.val)) w /\ i <= e.1 /\ es[e.1 - i]? = some e.2 /\ ents[e.1 - i]? = some m
 | [], [], _, i, r, hr => by
  simp only [Jx] at hr; cases hr;simp [EY]
 | e :: es, m :: ents, ⟨⟨ys, hk, hks⟩, hv, hrest⟩, i, r, hr => by
  simp only [Jx, Hv] at hr;obtain ⟨b, h1, h2⟩ := hr;have heq : (Op.equal kt (.agg xs) m.key).run P w = .ok b w := by
   have := Rt (ρ := ρ) hT 8 kt ks e.1 b h1 xs.toList ys.toList hs hks.sr tk htk 10000 (by omega) w
   unfold JI at this;rw [hag] at this;simp only [cond_true] at this;rw [hk];exact this
  cases b with
  | true =>
   simp only [cond_true] at h2
   cases h2
   exact ⟨m, by simp [EY, heq], Hx _, by simp, by simp⟩
  | false =>
   simp only [cond_false] at h2;have ih := Vk hT htk hag hs es ents hrest (i + 1) r h2
   cases r with
   | none => simp only at ih ⊢; simp [EY, heq, ih]
   | some e' =>
    simp only at ih ⊢;obtain ⟨m', g1, g2, g3, g4⟩ := ih;refine ⟨m', by simp [EY, heq, g1], by omega, ?_, ?_⟩
    · rw [show e'.1 - i = (e'.1 - (i + 1)) + 1 from by omega, FP]; exact g3
    · rw [show e'.1 - i = (e'.1 - (i + 1)) + 1 from by omega, FP]; exact g4
 | [], _ :: _, h, _, _, _ => h.elim
 | _ :: _, [], h, _, _, _ => h.elim
theorem A.v_ok {a : A} {x : Value} (h : AR ρ a x) : VR ρ a.v x := by cases a <;> exact h
theorem V.toA_ok {v : V} {a : A} {x : Value} (h : VR ρ v x) (ha : v.toA = some a) : AR ρ a x := by
 cases v with
 | s s => cases ha; exact h
 | agg cs => cases ha; exact h
 | tup as => cases ha
theorem v5 {t : Nat} {ti : TI} (hk : TyOk P t ti) {za : A} (hz : Bg ti = some za) {i : TypeInfo} {z : Value} (h1 : P.info? t = some i) (h2 : i.zero = some z) (h3 : SRs ρ ti.zero z.cells.toList) : AR ρ za z := by
 have hzr := hk.zer;rw [h1] at hzr;simp only [Option.bind_some, h2] at hzr;unfold Bg at hz
 cases hag : ti.agg with
 | true =>
  rw [hag] at hz hzr
  cases hz
  cases z <;> first | exact ⟨_, rfl, h3⟩ | (simp at hzr; done)
 | false =>
  rw [hag] at hz hzr;simp only [cond_false] at hz
  split at hz
  ·rename_i s hs
   cases hz
   rw [hs] at h3
   cases z <;> first | (simp at hzr; done) | exact fun _ => h3.1
  · cases hz
theorem ub (hT : X5 P E) {t : Nat} {c : Bool} {m kv v : V} (hl : JQ E t c h m kv = some v) (rel : Rel W0 base ρ h w) {x y : Value} (hx : VR ρ m x) (hy : VR ρ kv y) :
  ∃ z, VR ρ v z /\ (AZ t x y c).run P w = .ok z w := by
 unfold JQ at hl;simp only [Hv] at hl;obtain ⟨q, h1, k, h2, te, h3, za, h4, r, h5, h6⟩ := hl;obtain ⟨i, ents, cl, a1, a2, rfl, a3, a4⟩ := T7 rel h1 hx;obtain ⟨xs, tk, rfl, rfl, b1, b2, b3, b4, b5, b6⟩ := xY hT h2 hy;have hf := Vk (w := w) hT b3 b4 b1 _ _ a4 0 r h5;have hgo : (getObj i.blk).run P w = .ok (.map ents cl) w := by simp [getObj, Sem.run, a3]
 have pre : ∀ res, (EY k.1 (.agg xs) ents.toList).run P w = .ok res w -> (AZ t (.map (some i.blk)) (.agg xs) c).run P w = ((do
   let (v, ok) <- match res with
    | some (_, v) => pure (v, true)
    | none => pure (<- zeroValue k.2.1, false)
   pure (if c then .tuple #[v, .bool ok] else v) : Sem Value)).run P w := by
  intro res hres;simp only [AZ, Hz, run_underlying b2, Hy, hgo, HD, b6, run_findKey_eq w b5, hres]
  cases res <;> rfl
 cases r with
 | some e =>
  simp only at hf;obtain ⟨m, g1, _, g3, g4⟩ := hf;obtain ⟨m', p1, p2, p3⟩ := a4.get (j := e.1) (by simpa using g3)
  have : m' = m := by
   have := g4; simp only [Nat.sub_zero] at this;rw [p1] at this; exact IV this
  subst this;rw [pre _ g1];simp only [Du] at h6;subst h6
  cases c with
  | true => exact ⟨.tuple #[m'.val, .bool true], ⟨_, rfl, PAR.ar p3, fun _ => rfl, trivial⟩, rfl⟩
  | false => exact ⟨m'.val, A.v_ok (PAR.ar p3), rfl⟩
 | none =>
  simp only at hf;rw [pre _ hf];simp only [Du] at h6;subst h6;obtain ⟨i', d, z, e1, e2, e3, e4, e5, e6, e7⟩ := (hT _ _ h3).get;have hz : (zeroValue k.2.1).run P w = .ok z w := Ue e1 e5;have har : AR ρ za z := v5 (hT _ _ h3) h4 e1 e5 (e6 ρ);simp only [Hz, hz, Hy, HD]
  cases c with
  | true => exact ⟨.tuple #[z, .bool false], ⟨_, rfl, har, fun _ => rfl, trivial⟩, rfl⟩
  | false => exact ⟨z, A.v_ok har, rfl⟩
theorem Pm : ∀ {ks js : List S} {l l' : List Value}, B6 ks js = true -> WU ks l -> WU js l' -> l = l' /\ (l.zip l).all (fun (x, y) => SE 9999 x y) = true
 | [], [], [], [], _, _, _ => ⟨rfl, rfl⟩
 | .int k a :: r, .int j b :: q, x :: l, y :: l', h, ⟨h1, h2⟩, ⟨h3, h4⟩ => by
  simp only [B6, Bool.and_eq_true, decide_eq_true_eq] at h;obtain ⟨⟨rfl, rfl⟩, h⟩ := h;obtain ⟨e1, e2⟩ := Pm h h2 h4
  cases h1; cases h3
  refine ⟨by rw [e1], ?_⟩
  simp only [List.zip_cons_cons, List.all_cons, e2, Bool.and_true];simp [SE]
 | [], [], _ :: _, _, _, h, _ => h.elim
 | [], [], [], _ :: _, _, _, h => h.elim
 | .int .. :: _, .int .. :: _, [], _, _, h, _ => h.elim
 | .int .. :: _, .int .. :: _, _ :: _, [], _, _, h => h.elim
theorem Q0d (hT : X5 P E) {t : Nat} {m kv y : V} {h' : H} (hl : Gv E t h m kv y = some h') (rel : Rel W0 base ρ h w) {mx kx yx : Value} (hm : VR ρ m mx) (hk : VR ρ kv kx) (hy : VR ρ y yx) :
  ∃ w', (Ou t mx kx yx).run P w = .ok () w' /\ Rel W0 base ρ h' w' /\ Frm ρ h h' w w' := by
 unfold Gv at hl;simp only [Hv] at hl;obtain ⟨q, h1, k, h2, a, h3, hl⟩ := hl
 cases hp : k.2.2.all plS && plA a with
 | false => rw [hp] at hl; cases hl
 | true =>
 rw [hp] at hl;simp only [cond_true, Hv] at hl;obtain ⟨r, h5, h6⟩ := hl;rw [Bool.and_eq_true] at hp;obtain ⟨i, ents, cl, a1, a2, rfl, a3, a4⟩ := T7 rel h1 hm;obtain ⟨xs, tk, rfl, rfl, b1, b2, b3, b4, b5, b6⟩ := xY hT h2 hk;have hf := Vk (w := w) hT b3 b4 b1 _ _ a4 0 r h5;have hgo : (getObj i.blk).run P w = .ok (.map ents cl) w := by simp [getObj, Sem.run, a3]
 have hso : ∀ o : Obj, (setObj i.blk o).run P w = .ok () { w with heap := w.heap.setIfInBounds i.blk o } := fun o => by simp [setObj, Sem.run, a3]
 have hlt := (Array.getElem?_eq_some_iff.1 a3).1;have hkp := b1.ps hp.1;have hvp := (V.toA_ok hy h3).ps hp.2;have hgl := Blk.liveM a2;have fin : ∀ (es' : List (List S × A)) (ents' : Array MapEntry) (cl' : Nat), EsR es' ents'.toList -> Rel W0 base ρ (h.put q.1 (.mp es')) { w with heap := w.heap.setIfInBounds i.blk (.map ents' cl') } /\ Frm ρ h (h.put q.1 (.mp es')) w { w with heap := w.heap.setIfInBounds i.blk (.map ents' cl') } := by
  intro es' ents' cl' he;have ho : ∀ (j : Nat), j ≠ i.blk -> (w.heap.setIfInBounds i.blk (.map ents' cl'))[j]? = w.heap[j]? := fun j hj => by rw [Array.getElem?_setIfInBounds_ne (Ne.symm hj)]
  refine ⟨rel.updB a1 hgl (by simp) ho (fun e cs hh => by cases hh) (fun es hh => ?_) ⟨rfl, rfl, rfl⟩, rel.updB_frm a1 hgl ho⟩
  cases hh
  exact ⟨ents', cl', by simp [hlt], he⟩
 have pre : ∀ res, (EY k.1 (.agg xs) ents.toList).run P w = .ok res w -> (Ou t (.map (some i.blk)) (.agg xs) yx).run P w = ((do
   match res with
   | some (j, _) => do
    let key <- Ow (((ents[j]?).map (·.key)).getD (.agg xs)) (.agg xs)
    setObj i.blk (.map (ents.modify j fun e => { e with key, val := yx }) cl)
   | none => setObj i.blk (.map (ents.push { key := .agg xs, val := yx, born := cl }) (cl + 1)) : Sem Unit)).run P w := by
  intro res hres;simp only [Ou, Hz, run_underlying b2, Hy, hgo, b6, run_findKey_eq w b5, hres]
  cases res <;> rfl
 cases r with
 | none =>
  simp only at hf
  cases h6
  rw [pre _ hf];simp only;rw [hso];obtain ⟨g1, g2⟩ := fin (q.2 ++ [(k.2.2, a)]) (ents.push { key := .agg xs, val := yx, born := cl }) (cl + 1) (by
   rw [Array.toList_push]; exact a4.snoc ⟨xs, rfl, hkp⟩ hvp)
  exact ⟨_, rfl, g1, g2⟩
 | some e =>
  simp only at hf;obtain ⟨m0, g1, _, g3, g4⟩ := hf;simp only [Nat.sub_zero] at g3 g4;obtain ⟨m', p1, ⟨ys, p2, p4⟩, p3⟩ := a4.get g3;have : m' = m0 := by rw [p1] at g4; exact IV g4
  subst this;simp only at h6
  cases hei : B6 k.2.2 e.2.1 with
  | false => rw [hei] at h6; cases h6
  | true =>
   rw [hei] at h6;simp only [cond_true, Du] at h6;subst h6;obtain ⟨e1, e2⟩ := Pm hei hkp p4;have hxy : xs = ys := Array.ext' e1;subst hxy;have hmk : ents[e.1]? = some m' := by rw [<- Fy]; exact g4
   have hks : (Ow (.agg xs) (.agg xs)).run P w = .ok (.agg xs) w := by
    have : SE 10000 (.agg xs) (.agg xs) = true := by
     unfold SE;simp only [beq_self_eq_true, Bool.true_and];exact e2
    simp only [Ow, this, if_true, HD]
   rw [pre _ g1];simp only [hmk, Option.map_some, Option.getD_some, p2, Hz, hks, Hy];rw [hso];obtain ⟨f1, f2⟩ := fin (q.2.set e.1 (k.2.2, a)) (ents.modify e.1 fun e => { e with key := .agg xs, val := yx }) cl (by
    have hset : (ents.modify e.1 fun e => { e with key := .agg xs, val := yx }).toList = ents.toList.set e.1 { m' with key := .agg xs, val := yx } := by
     apply List.ext_getElem?;intro j;rw [Fy, Array.getElem?_modify, List.getElem?_set]
     by_cases hj : e.1 = j
     ·subst hj
      have hlt2 := (HF.1 g4).1;simp [hmk];simpa using hlt2
     · rw [if_neg hj, if_neg hj, Fy]
    rw [hset];exact a4.set e.1 ⟨xs, rfl, hkp⟩ hvp)
   exact ⟨_, rfl, f1, f2⟩
theorem Q1M (hT : X5 P E) {o' : Oper} {F : Fr} {k : V -> H -> Option R} {r : R} (hr : op1 E F h o'.op k = some r)
  (hm : (match o'.op with | .makeMap .. | .lookup .. | .mapUpdate .. => true | _ => false) = true) : ∃ v h', k v h' = some r /\ EOK P W0 base o' F h v h' := by
 cases hop : o'.op <;> rw [hop] at hr hm <;> simp only [op1] at hr <;> try (cases hm; done)
 case makeMap t rv =>
  cases rv with
  | some _ => cases hr
  | none =>
   refine ⟨_, _, hr, U4 fun ρ a w rel hF => ⟨.map (some w.heap.size), ρ.push ⟨w.heap.size, 0, 0, 0⟩, { w with heap := w.heap.push (.map #[] 0) }, ?_, Le.push _ _, fun _ => ⟨⟨w.heap.size, 0, 0, 0⟩, by rw [<- rel.len]; simp, rfl⟩,
    rel.pushB (i0 := ⟨w.heap.size, 0, 0, 0⟩) (x := .mp []) rfl rfl (fun e cs hh => by cases hh) (fun es hh => by cases hh; exact ⟨#[], 0, rfl, trivial⟩) ⟨rfl, rfl, rfl⟩, rel.pushB_frm rfl⟩⟩
   simp only [execOp, hop, Option.map_none, Instr.makeMap, Hz, HD, Hy];rfl
 case lookup t x i c =>
  simp only [Hv] at hr;obtain ⟨m, h1, kv, h2, v, h3, h4⟩ := hr;refine ⟨_, _, h4, U4 fun ρ a w rel hF => ?_⟩
  obtain ⟨z, g1, g2⟩ := ub hT h3 rel (QK hF h1) (QK hF h2);refine ⟨z, ρ, w, ?_, Le.refl _, g1, rel, Frm.refl _ _ _⟩;simp only [execOp, hop, Hz, g2, Hy, HD]
 case mapUpdate t m x y =>
  simp only [Hv] at hr;obtain ⟨m, h1, kv, h2, y, h3, h', h4, h5⟩ := hr;refine ⟨_, _, h5, fun ρ a w rel hF next Q hn => ?_⟩
  obtain ⟨w', g1, g2, g3⟩ := Q0d hT h4 rel (QK hF h1) (QK hF h2) (QK hF h3);unfold Oper.wp;have : (execOp a.eval o').run P w = .ok .skip w' := by
   simp only [execOp, hop, Hz, g1, Hy, HD]
  rw [this];exact hn _ ρ w' (Le.refl _) (fun hh => by cases hh) g2 g3
end Vm
