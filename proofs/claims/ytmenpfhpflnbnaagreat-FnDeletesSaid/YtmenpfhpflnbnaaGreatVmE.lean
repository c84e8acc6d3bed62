/-
  The quiet operations, one by one.
-/
import Derived.Test.YtmenpfhpflnbnaaGreatVmD
import Derived.Laws.BytesString
set_option linter.unusedVariables false
set_option linter.unusedSimpArgs false
open Go.Addr renaming add->HW
open Array renaming getElem?_toList->Fy,toList_map->EE
open Bool renaming false_eq_true->FD
open Go.Conv renaming bytesToString->II
open Go.Instr renaming build->AO,indexAt->SB,slice->DT,sliceAt->DS,sliceBounds->SA,sureAddr->ED
open List renaming eq_nil_of_length_eq_zero->FS,flatten_append->EJ,getElem?_eq_getElem->HI,getElem?_eq_none->EH,getElem?_eq_some_iff->HF,getElem?_map->FL,mem_of_mem_take->AG,take_append_drop->DL
open Nat renaming add_assoc->Fv,add_sub_cancel_left->AN,le_refl->Hx,zero_le->FZ
open Option renaming bind_eq_some_iff->Hv,bind_some->HC,map_eq_some_iff->De,map_none->EV
open Go.Result renaming andThen_ok->Hy
open Go.Sem renaming run_bind->Hz,run_pure->HD
open UInt8 renaming ofNat->HB
namespace Vm
open Go
variable {W0 : St} {base : Nat} {ρ : Rho} {h : H} {w w' : World} {P : Program} {E : Env} {R : Type}
theorem NG {cs xs : List S} {o : Nat} (hl : o + xs.length <= cs.length) : (setAt cs o xs).length = cs.length := by
 unfold setAt; simp; omega
theorem ARs.get {ρ : Rho} : ∀ {c : List A} {l : List Value}, ARs ρ c l -> ∀ {j : Nat} {s : A}, c[j]? = some s -> ∃ x, l[j]? = some x /\ AR ρ s x
 | [], [], _, j, s, hj => by simp at hj
 | s :: _, x :: _, ⟨h1, h2⟩, 0, s', hj => by simp at hj; subst hj; exact ⟨x, rfl, h1⟩
 | s :: _, x :: _, ⟨h1, h2⟩, j + 1, s', hj => by simp at hj ⊢; exact h2.get hj
 | [], _ :: _, h, _, _, _ => h.elim
 | _ :: _, [], h, _, _, _ => h.elim
theorem AR.v {a : A} {x : Value} (ha : AR ρ a x) : VR ρ a.v x := by cases a <;> exact ha
theorem xH : ∀ {vs : List V} {l : List Value} {ps : List (Nat × Nat)}, VRs ρ vs l -> qP vs = some ps -> CR ρ ps l
 | [], [], ps, _, hp => by simp [qP] at hp; subst hp; trivial
 | v :: vs, x :: l, ps, ⟨h1, h2⟩, hp => by
  unfold qP at hp
  split at hp
  · rename_i hh; cases hh
  ·rename_i p r hh
   cases hh
   rw [Hv] at hp;obtain ⟨q, g1, g2⟩ := hp
   cases g2
   obtain ⟨i, k1, k2⟩ := h1.ptr (b := p.1) (o := p.2);exact ⟨⟨i, k1, k2⟩, xH h2 g1⟩
  · cases hp
 | [], _ :: _, _, h, _ => h.elim
 | _ :: _, [], _, h, _ => h.elim
theorem Rz {y : Nat} {v : V} {n : Nat} {x : Value} (hb : bnd y v = some n) (hv : VR ρ v x) (code : BoundsCode) : (Instr.sliceBound x y code).run P w = .ok n w /\ n <= y := by
 unfold bnd at hb
 split at hb
 ·split at hb
  ·rename_i k i hc
   obtain rfl := hv.int
   cases hb
   refine ⟨?_, by omega⟩
   simp only [Instr.sliceBound, asIntOf, Hz, HD, Hy, if_pos hc]
  · cases hb
 · cases hb
theorem Q2B {y z : Nat} (hz : y <= z) {v : V} {n : Nat} (hb : bnd y v = some n) : bnd z v = some n := by
 unfold bnd at hb ⊢
 split at hb
 ·split at hb
  ·rename_i hc
   rw [if_pos (by omega)]; exact hb
  · cases hb
 · cases hb
theorem Mh {n cap h' l' : Nat} {lo hi : Option V} {lx hx : Option Value} {sl : Bool} (hn : n <= cap)
  (h1 : (match hi with | none => some n | some v => bnd n v) = some h') (h2 : (match lo with | none => some 0 | some v => bnd h' v) = some l')
  (hlo : ∀ v, lo = some v -> ∃ x, lx = some x /\ VR ρ v x) (hlo' : lo = none -> lx = none) (hhi : ∀ v, hi = some v -> ∃ x, hx = some x /\ VR ρ v x) (hhi' : hi = none -> hx = none) :
  (SA sl n cap lx hx none).run P w = .ok (l', h', cap) w /\ l' <= h' /\ h' <= n := by
 cases hi with
 | none =>
  cases h1
  rw [hhi' rfl]
  cases lo with
  | none =>
   cases h2
   rw [hlo' rfl];exact ⟨rfl, FZ _, Hx _⟩
  | some v =>
   obtain ⟨x, rfl, hv⟩ := hlo v rfl;have g := fun c => Rz (P := P) (w := w) h2 hv c
   refine ⟨?_, (g .sliceB).2, Hx _⟩;unfold SA;simp only [Hz, HD, Hy, (g _).1]
 | some u =>
  obtain ⟨y, rfl, hu⟩ := hhi u rfl;have g1 := fun c => Rz (P := P) (w := w) (Q2B hn h1) hu c
  have g2 := (Rz (P := P) (w := w) h1 hu .sliceB).2
  cases lo with
  | none =>
   cases h2
   rw [hlo' rfl];refine ⟨?_, FZ _, g2⟩;unfold SA;simp only [Hz, HD, Hy, (g1 _).1]
  | some v =>
   obtain ⟨x, rfl, hv⟩ := hlo v rfl;have g := fun c => Rz (P := P) (w := w) h2 hv c
   refine ⟨?_, (g .sliceB).2, g2⟩;unfold SA;simp only [Hz, HD, Hy, (g _).1, (g1 _).1]
theorem YN {pa : Nat -> Option (Nat × Nat)} {F : Fr} : ∀ (ps : List (Nat × Operand)) (cs : List S) (k : List S -> Option R), Jm pa F ps cs k = (Jm pa F ps cs some).bind k
 | [], cs, k => rfl
 | (i, x) :: ps, cs, k => by
  simp only [Jm, UA]
  cases opd F x with
  | none => rfl
  | some v =>
   simp only [HC]
   cases pa i with
   | none => rfl
   | some q =>
    simp only [HC]
    cases cellsOf v with
    | none => rfl
    | some xs =>
     simp only [HC]
     split
     · exact YN ps _ k
     · rfl
theorem jS (hT : X5 P E) {t : Nat} {ti : TI} (h1 : E.ty t = some ti) {F : Fr} {ps : Array (Nat × Operand)} {cs : List S}
  (hb : (match ti.d with
   | .st fs => Jm (Mz E fs) F ps.toList ti.zero some
   | .arr _ e => (E.ty e).bind fun te => Jm (fun i => some (i * te.z, te.z)) F ps.toList ti.zero some
   | _ => none) = some cs) {a : Act} (hF : FR ρ F a.tmps) : ∃ x, VR ρ (.agg cs) x /\ ∀ w, (AO t (ps.map fun p => (p.1, a.eval p.2))).run P w = .ok x w := by
 have hk := hT _ _ h1;obtain ⟨i, d, z, e1, e2, e3, e4, e5, e6, e7⟩ := hk.get
 split at hb
 ·rename_i fs hd
  obtain ⟨gs, g1, g2, g3⟩ := hk.field hd;obtain ⟨l, p1, p2, p3⟩ := VO (P := P) (w := default) g3;have p1' : ∀ w, (gs.toList.mapM fun (f : Field) => (do pure (f.offset, <- Go.sizeOf f.type) : Sem (Nat × Nat))).run P w = .ok l w := by
   intro w;obtain ⟨l2, q1, q2, q3⟩ := VO (P := P) (w := w) g3;have : l2 = l := by
    apply List.ext_getElem?;intro j
    by_cases hj : j < gs.toList.length
    ·obtain ⟨i1, a1, a2⟩ := p3 j _ (HI hj)
     obtain ⟨i2, b1, b2⟩ := q3 j _ (HI hj);rw [a1] at b1; cases b1;rw [a2, b2]
    · rw [EH (by omega), EH (by omega)]
   rw [q1, this]
  have hp : ∀ i p, Mz E fs i = some p -> (fun i => l.toArray[i]?) i = some p := by
   intro j p hp;obtain ⟨t', ti', q1, q2, q3⟩ := yc hT hp;rw [g2, FL, De] at q1;obtain ⟨f, q4, q5⟩ := q1;obtain ⟨i', s1, s2⟩ := p3 j f q4;obtain ⟨i2, d2, z2, k1, k2, k3, _⟩ := q2.get;simp only [Prod.mk.injEq] at q5;obtain ⟨q5, q6⟩ := q5;subst q6;rw [s1] at k1; cases k1;simp only [List.getElem?_toArray, s2, k3, q5];rw [<- q3]
  obtain ⟨cs', m1, c', m2, m3⟩ := Ti hp hF ps.toList ti.zero z.cells some cs (e6 ρ) hb
  cases m1
  refine ⟨.agg c', ⟨c', rfl, m3⟩, fun w => ?_⟩
  have m2' : Instr.fill (fun i => l.toArray[i]?) z.cells (ps.map fun p => (p.1, a.eval p.2)).toList = some c' := by rw [EE]; exact m2
  have hm : (gs.mapM fun (f : Field) => (do pure (f.offset, <- Go.sizeOf f.type) : Sem (Nat × Nat))).run P w = .ok l.toArray w := by
   rw [Array.mapM_eq_mapM_toList, Sem.run_map, p1', Hy]
  simp only [AO, Hz, Ue e1 e5, Hy, QJ g1];rw [hm];simp only [Hy, m2'];rfl
 ·rename_i n e hd
  have g1 := hk.arr hd;rw [Hv] at hb;obtain ⟨te, h2, h3⟩ := hb;obtain ⟨cs', m1, c', m2, m3⟩ := Ti (pc := fun i => some (i * te.z, te.z)) (fun i p hp => hp) hF ps.toList ti.zero z.cells some cs (e6 ρ) h3
  cases m1
  refine ⟨.agg c', ⟨c', rfl, m3⟩, fun w => ?_⟩
  have m2' : Instr.fill (fun i => some (i * te.z, te.z)) z.cells (ps.map fun p => (p.1, a.eval p.2)).toList = some c' := by rw [EE]; exact m2
  simp only [AO, Hz, Ue e1 e5, Hy, QJ g1, (hT _ _ h2).size, m2'];rfl
 · cases hb
theorem Bc : ∀ {cs : List S} {l : List Value} {bs : List UInt8}, SRs ρ cs l -> UO cs = some bs -> ∃ ns : List Int, l = ns.map (Value.int .u8) /\ bs = ns.map (fun n => HB n.toNat)
 | [], [], bs, _, hb => by cases hb; exact ⟨[], rfl, rfl⟩
 | s :: cs, x :: l, bs, ⟨h1, h2⟩, hb => by
  unfold UO at hb
  split at hb
  · rename_i hh; cases hh
  ·rename_i n r hh
   cases hh
   rw [Hv] at hb;obtain ⟨q, g1, g2⟩ := hb
   split at g2
   ·cases g2
    obtain ⟨ns, k1, k2⟩ := Bc h2 g1;refine ⟨n :: ns, ?_, ?_⟩
    · rw [k1]; simp only [List.map_cons]; rw [show x = .int .u8 n from h1]
    · rw [k2]; rfl
   · cases g2
  · cases hb
 | [], _ :: _, _, h, _ => h.elim
 | _ :: _, [], _, h, _ => h.elim
theorem BN (ns : List Int) : ∀ (b : ByteArray), (ns.foldl (fun r n => r.push (HB n.toNat)) b) = ⟨(b.data.toList ++ ns.map (fun n => HB n.toNat)).toArray⟩ := by
 induction ns with
 | nil => intro b; simp
 | cons n ns ih =>
  intro b;simp only [List.foldl_cons];rw [ih]
  congr 1
  simp [ByteArray.push]
theorem Ba (rel : RelQ W0 base ρ h w) {z b o n : Nat} {x : Value} {cs : List S} (hx : VR ρ (.s (.sl (some (b, o)) n)) x) (hc : Z6 z h (.s (.sl (some (b, o)) n)) = some cs) :
  ∃ i a cap, ∃ l : List Value, ρ.bl[b]? = some i /\ x = .slice (some a) n cap /\ n <= cap /\ (cap ≠ 0 -> a = ⟨i.blk, i.off + o, none⟩) /\ (i.e ≠ 0 -> cap ≠ 0 -> i.off + o + cap * i.e <= i.top) /\
   SRs ρ cs l /\ l.length = n * z /\ o + n * z <= (h.cells b).length /\ ∀ w', X2 base ρ h w w' -> (loadCells a (n * z)).run P w' = .ok l.toArray w' := by
 obtain ⟨i, off, cap, q1, q2, q3, q4, q5⟩ := hx.sl;simp only [Z6] at hc
 split at hc
 ·rename_i hle
  cases hc
  obtain ⟨i', l, p1, p2, p3, p4⟩ := rel.row (P := P) hle.2 (.inr hle.1);rw [q1] at p1; cases p1
  by_cases h0 : cap = 0
  ·have hn : n = 0 := by omega
   subst hn;simp only [Nat.zero_mul] at p3 ⊢;have hl : l = [] := FS p3;subst hl;refine ⟨i, off, cap, [], q1, q2, by omega, q4, q5, by simp [SRs], rfl, by have := hle.2; omega, fun w' _ => rfl⟩
  ·have h4 := q4 h0
   subst h4;exact ⟨i, _, cap, l, q1, q2, q3, fun _ => rfl, q5, p2, p3, hle.2, p4⟩
 · cases hc
theorem Rg {rows : List (List S)} {x : Value} (hx : FzR ρ.mu (.fs rows) x) : ∃ q cap z, ∃ ys : Nat -> Value, x = .slice q rows.length cap /\ rows.length <= cap /\ (q = none -> rows = []) /\ (∀ r ∈ rows, r.length = z) /\ (∀ j s, rows.flatten[j]? = some s -> FzR ρ.mu s (ys j)) /\
  (rows ≠ [] -> ∃ blk off cells, q = some ⟨blk, off, none⟩ /\ ρ.mu blk = some cells /\ ∀ j s, rows.flatten[j]? = some s -> cells[off + j]? = some (ys j)) := by
 cases hx with
 | fs0 a cap => exact ⟨a, cap, 0, fun _ => .nilFunc, rfl, FZ _, fun _ => rfl, fun r hr => by simp at hr, fun j s hj => by simp at hj, fun h => absurd rfl h⟩
 | fs hm h0 hz hc h1 h2 => exact ⟨_, _, _, _, rfl, hc, fun h => (by cases h), hz, h2, fun _ => ⟨_, _, _, rfl, hm, h1⟩⟩
theorem U1 {rows : List (List S)} {z : Nat} (hz : ∀ r ∈ rows, r.length = z) : rows.flatten.length = rows.length * z := by
 rw [List.length_flatten];have : rows.map List.length = List.replicate rows.length z := List.eq_replicate_iff.2 ⟨by simp, fun b hb => by
  obtain ⟨r, hr, rfl⟩ := List.mem_map.1 hb;exact hz r hr⟩
 rw [this]; simp
theorem Pr (rel : RelQ W0 base ρ h w) {z : Nat} {x : Value} {cs : List S} {rows : List (List S)} (hx : VR ρ (.s (.fs rows)) x) (hc : Z6 z h (.s (.fs rows)) = some cs) :
  ∃ q cap, ∃ l : List Value, x = .slice q rows.length cap /\ SRs ρ cs l /\ l.length = rows.length * z /\ (∀ a, q = some a -> ∀ w', X2 base ρ h w w' -> (loadCells a (rows.length * z)).run P w' = .ok l.toArray w') /\ (q = none -> rows.length = 0) := by
 simp only [Z6] at hc
 split at hc
 ·rename_i hz
  cases hc
  obtain ⟨q, cap, z', ys, k1, k2, k3, k4, k5, k6⟩ := Rg hx.fs;have hl := U1 hz;refine ⟨q, cap, (List.range rows.flatten.length).map ys, k1, Tg k5, by simp [hl], fun a ha w' hw => ?_, fun hq => by rw [k3 hq]; rfl⟩
  by_cases h0 : rows = []
  · subst h0; simp; rfl
  ·obtain ⟨blk, off, cells, e1, e2, e3⟩ := k6 h0
   rw [e1] at ha; cases ha;rw [hl];exact FzW.row ys e2 (fun j hj => e3 j _ (HI (by omega))) (hw.2.2 rel.fz)
 · cases hc
theorem YU {rows : List (List S)} {z l k : Nat} (hz : ∀ r ∈ rows, r.length = z) (hl : l <= k) (hk : k <= rows.length) {j : Nat} {s : S} (hs : ((rows.take k).drop l).flatten[j]? = some s) : rows.flatten[l * z + j]? = some s := by
 have e : rows = rows.take l ++ ((rows.take k).drop l ++ rows.drop k) := by
  have h1 : rows.take l ++ (rows.take k).drop l = rows.take k := by
   have := DL l (rows.take k);rw [List.take_take, Nat.min_eq_left hl] at this; exact this
  rw [<- List.append_assoc, h1, DL]
 have h2 : (rows.take l).flatten.length = l * z := by
  rw [U1 fun r hr => hz r (AG hr), List.length_take, Nat.min_eq_left (by omega)]
 rw [e, EJ, List.getElem?_append_right (by omega), h2, AN, EJ, List.getElem?_append_left (HF.1 hs).1]
 exact hs
def QMK (P : Program) (W0 : St) (base : Nat) (m : Bool) (o : Oper) (F : Fr) (h : H) (v : V) : Prop :=
 ∀ (ρ : Rho) (a : Act) (w : World), RelQ W0 base ρ h w -> FR ρ F a.tmps -> ∃ x, VR ρ v x /\ ∀ w', (m = true \/ X2 base ρ h w w') -> (execOp a.eval o).run P w' = .ok (.value x) w'
theorem QMK.q {m : Bool} {o : Oper} {F : Fr} {v : V} (hq : QMK P W0 base m o F h v) : QOK P W0 base o F h v := fun ρ a w rel hF => by
 obtain ⟨x, q1, q2⟩ := hq ρ a w rel hF;exact ⟨x, q1, fun w' hw => q2 w' (.inr hw)⟩
theorem MW (hT : X5 P E) {o : Oper} {F : Fr} {k : V -> H -> Option R} {r : R} (hr : op1 E F h o.op k = some r) (hq : Jk E o.op = true) :
  ∃ v, k v h = some r /\ QMK P W0 base (Mq E o.op) o F h v := by
 cases hop : o.op <;> rw [hop] at hr hq <;> simp only [op1] at hr <;> try (simp [Jk] at hq; done)
 case move x =>
  rw [Hv] at hr;obtain ⟨v, h1, h2⟩ := hr;exact ⟨v, h2, fun ρ a w rel hF => ⟨_, QK hF h1, fun w' _ => by simp only [execOp, hop]; rfl⟩⟩
 case assign x =>
  rw [Hv] at hr;obtain ⟨v, h1, h2⟩ := hr;exact ⟨v, h2, fun ρ a w rel hF => ⟨_, QK hF h1, fun w' _ => by simp only [execOp, hop]; rfl⟩⟩
 case pick c a' b' =>
  rw [Hv] at hr;obtain ⟨c', h1, h2⟩ := hr;obtain ⟨t, rfl, h3⟩ := VF h2
  cases t with
  | true =>
   simp only [if_true, Hv] at h3;obtain ⟨v, h4, h5⟩ := h3;exact ⟨v, h5, fun ρ a w rel hF => ⟨_, QK hF h4, fun w' _ => by simp only [execOp, hop, (QK hF h1).bool]; rfl⟩⟩
  | false =>
   simp only [FD, if_false, Hv] at h3;obtain ⟨v, h4, h5⟩ := h3;exact ⟨v, h5, fun ρ a w rel hF => ⟨_, QK hF h4, fun w' _ => by simp only [execOp, hop, (QK hF h1).bool]; rfl⟩⟩
 case build t ps =>
  rw [Hv] at hr;obtain ⟨ti, h1, h2⟩ := hr;have : ∃ cs, (match ti.d with
   | .st fs => Jm (Mz E fs) F ps.toList ti.zero some
   | .arr _ e => (E.ty e).bind fun te => Jm (fun i => some (i * te.z, te.z)) F ps.toList ti.zero some
   | _ => none) = some cs /\ k (.agg cs) h = some r := by
   split at h2
   ·rename_i fs hd
    rw [YN, Hv] at h2;obtain ⟨cs, g1, g2⟩ := h2;exact ⟨cs, by simp only [hd]; exact g1, g2⟩
   ·rename_i n e hd
    rw [Hv] at h2;obtain ⟨te, g0, h2⟩ := h2;rw [YN, Hv] at h2;obtain ⟨cs, g1, g2⟩ := h2;exact ⟨cs, by simp only [hd, g0, HC]; exact g1, g2⟩
   · cases h2
  obtain ⟨cs, g1, g2⟩ := this;refine ⟨_, g2, fun ρ a w rel hF => ?_⟩
  obtain ⟨x, q1, q2⟩ := jS hT h1 g1 hF;exact ⟨x, q1, fun w' _ => by simp only [execOp, hop, Hz, q2, Hy]; rfl⟩
 case load t x =>
  rw [Hv] at hr;obtain ⟨ti, h1, h2⟩ := hr;rw [Hv] at h2;obtain ⟨p, h3, h4⟩ := h2;replace h4 := ud h4;unfold ldT at h4
  cases hag : ti.agg with
  | true =>
   rw [hag] at h4;simp only [cond_true, Hv] at h4;obtain ⟨cs, h5, h6⟩ := h4;refine ⟨_, h6, fun ρ a w rel hF => ?_⟩
   obtain ⟨y, q1, q2⟩ := TS rel (hT _ _ h1) hag (QK hF h3) h5;exact ⟨y, q1, fun w' hw => by simp only [execOp, hop, Hz, q2 w' (hw.resolve_left (by simp [Mq])), Hy]; rfl⟩
  | false =>
   rw [hag] at h4;simp only [cond_false, Hv] at h4;obtain ⟨cs, h5, h6⟩ := h4;refine ⟨_, h6, fun ρ a w rel hF => ?_⟩
   obtain ⟨y, q1, q2⟩ := TT rel (hT _ _ h1) hag (QK hF h3) h5;exact ⟨y, fun _ => q1, fun w' hw => by simp only [execOp, hop, Hz, q2 w' (hw.resolve_left (by simp [Mq])), Hy]; rfl⟩
 case nilCheck x =>
  simp only [Hv] at hr;obtain ⟨v, h1, u, h2, h3⟩ := hr;unfold GH at h2
  split at h2
  ·cases h2
   refine ⟨_, h3, fun ρ a w rel hF => ?_⟩
   rename_i p;obtain ⟨i, q1, q2⟩ := (QK hF h1).ptr (b := p.1) (o := p.2);exact ⟨_, fun _ => ⟨i, q1, rfl⟩, fun w' _ => by simp only [execOp, hop, q2]; rfl⟩
  ·cases h2
   refine ⟨_, h3, fun ρ a w rel hF => ?_⟩
   have hx := (QK hF h1).fp;refine ⟨a.eval x, fun _ => hx, fun w' _ => ?_⟩
   generalize hy : a.eval x = y at hx
   cases hx
   simp only [execOp, hop, hy]; rfl
  · cases h2
 case binOp op t x y _ =>
  simp only [Hv] at hr;obtain ⟨u, h1, v, h2, z, h3, h4⟩ := hr;refine ⟨_, h4, fun ρ a w rel hF => ?_⟩
  obtain ⟨q, g1, g2⟩ := Q2C hT (QK hF h1) (QK hF h2) h3 x y;exact ⟨q, g1, fun w' _ => by simp only [execOp, hop]; rw [Hz, g2 w', Hy]; rfl⟩
 case unOp op t x =>
  rw [Hv] at hr;obtain ⟨u, h1, h2⟩ := hr
  split at h2
  ·rw [Hv] at h2
   obtain ⟨v, h3, h4⟩ := h2;unfold uN at h3
   split at h3
   ·cases h3
    exact ⟨_, h4, fun ρ a w rel hF => ⟨_, fun _ => rfl, fun w' _ => by simp only [execOp, hop, (QK hF h1).bool, Op.unary]; rfl⟩⟩
   · cases h3
  ·rw [Hv] at h2
   obtain ⟨v, h3, h4⟩ := h2;unfold uO at h3
   split at h3
   ·cases h3
    exact ⟨_, h4, fun ρ a w rel hF => ⟨_, fun _ => rfl, fun w' _ => by simp only [execOp, hop, (QK hF h1).int, Op.unary, Op.intArith, Int.zero_sub]; rfl⟩⟩
   · cases h3
  · cases h2
 case convert s t x =>
  simp only [Hv] at hr;obtain ⟨si, h1, ti, h2, v, h3, h4⟩ := hr;simp only [Jk, h1, h2] at hq
  split at hq
  ·rename_i k1 k2 hd1 hd2
   rw [hd1, hd2] at h4;simp only [Hv] at h4;obtain ⟨u, h5, h6⟩ := h4;unfold cvI at h5
   split at h5
   ·cases h5
    refine ⟨_, h6, fun ρ a w rel hF => ⟨_, fun _ => rfl, fun w' _ => ?_⟩⟩
    simp only [execOp, hop, convert, (QK hF h3).int, Hz, QJ ((hT _ _ h1).int hd1), QJ ((hT _ _ h2).int hd2), Hy, Conv.intToInt];rfl
   · cases h5
  ·rename_i e hd1 hd2
   rw [hd1, hd2] at h4;simp only [Hv] at h4;obtain ⟨te, h5, h6⟩ := h4
   split at h6
   ·rename_i hd3
    rw [Hv] at h6;obtain ⟨u, h7, h8⟩ := h6;unfold Mg at h7
    split at h7
    case h_2 rows =>
     simp only [Hv] at h7;obtain ⟨cs, g1, l, g2, g3⟩ := h7
     split at g3
     ·rename_i hl
      cases g3
      refine ⟨_, h8, fun ρ a w rel hF => ⟨.string ⟨l.toArray⟩, fun _ => rfl, fun w' hw' => ?_⟩⟩
      have hw' := hw'.resolve_left (by simp [Mq, h1, h2, hd1, hd2])
      obtain ⟨q, cap, lv, k1, k2, k3, k4, k5⟩ := Pr (P := P) rel (QK hF h3) g1;obtain ⟨ns, k6, k7⟩ := Bc k2 g2;simp only [execOp, hop, convert, Hz, QJ ((hT _ _ h1).slice hd1), QJ ((hT _ _ h2).str hd2), Hy];rw [k1];have hrun : (II (.slice q rows.length cap)).run P w' = .ok (.string ⟨l.toArray⟩) w' := by
       cases q with
       | none =>
        have h0 := k5 rfl;rw [h0] at k3 ⊢;have : lv = [] := FS (by omega)
        subst this;have : ns = [] := by cases ns <;> simp at k6 ⊢
        subst this;subst k7;rfl
       | some ad =>
        have := run_bytesToString w' ad rows.length cap ns (by have := k4 ad rfl w' hw'; rw [Nat.mul_one] at this; rw [this, k6])
        rw [this, BN, k7];rfl
      simp only [Hz, QJ ((hT _ _ h5).int hd3), Hy, hrun, HD]
     · cases g3
    case h_3 => cases h7
    case h_1 ad n =>
     simp only [Hv] at h7;obtain ⟨cs, g1, l, g2, g3⟩ := h7
     split at g3
     ·rename_i hl
      cases g3
      refine ⟨_, h8, fun ρ a w rel hF => ⟨.string ⟨l.toArray⟩, fun _ => rfl, fun w' hw' => ?_⟩⟩
      have hw' := hw'.resolve_left (by simp [Mq, h1, h2, hd1, hd2])
      have hx := QK hF h3;have hrun : (II (a.eval x)).run P w' = .ok (.string ⟨l.toArray⟩) w' := by
       cases ad with
       | none =>
        obtain ⟨rfl, hx2⟩ := hx.snil;rw [hx2];simp only [Z6] at g1
        cases g1
        simp only [UO] at g2
        cases g2
        rfl
       | some p =>
        obtain ⟨i, off, cap, lv, q1, q2, q3, q4, q5, q6, q7, q8, q9⟩ := Ba (P := P) (b := p.1) (o := p.2) rel hx g1;obtain ⟨ns, k1, k2⟩ := Bc q6 g2;rw [q2];have := run_bytesToString w' off n cap ns (by have := q9 w' hw'; rw [Nat.mul_one] at this; rw [this, k1])
        rw [this, BN, k2];rfl
      have hxs : ∃ q c m, a.eval x = .slice q c m := by
       cases ad with
       | none => obtain ⟨_, hx⟩ := hx.snil; exact ⟨_, _, _, hx⟩
       | some p => obtain ⟨i, off, cap, _, hx, _⟩ := hx.sl (b := p.1) (o := p.2); exact ⟨_, _, _, hx⟩
      obtain ⟨q, c, m, hxs⟩ := hxs;simp only [execOp, hop, convert, Hz, QJ ((hT _ _ h1).slice hd1), QJ ((hT _ _ h2).str hd2), Hy];rw [hxs] at hrun ⊢;simp only [Hz, QJ ((hT _ _ h5).int hd3), Hy, hrun, HD]
     · cases g3
   · cases h6
  · cases hq
 case slice t x lo hi mx =>
  split at hr
  · cases hr
  ·rename_i hmx
   have hmx' : mx = none := by cases mx <;> simp at hmx ⊢
   subst hmx';simp only [Hv] at hr;obtain ⟨ti, h1, v, h2, lo', h3, hi', h4, h5⟩ := hr;have hlo : ∀ (ρ : Rho) (a : Act), FR ρ F a.tmps -> (∀ v, lo' = some v -> ∃ x, lo.map a.eval = some x /\ VR ρ v x) /\ (lo' = none -> lo.map a.eval = none) := by
    intro ρ a hF
    cases lo with
    | none => simp at h3; subst h3; simp
    | some y =>
     simp only [Hv] at h3;obtain ⟨u, g1, g2⟩ := h3
     cases g2
     exact ⟨fun v hv => by cases hv; exact ⟨_, rfl, QK hF g1⟩, fun hn => by cases hn⟩
   have hhi : ∀ (ρ : Rho) (a : Act), FR ρ F a.tmps -> (∀ v, hi' = some v -> ∃ x, hi.map a.eval = some x /\ VR ρ v x) /\ (hi' = none -> hi.map a.eval = none) := by
    intro ρ a hF
    cases hi with
    | none => simp at h4; subst h4; simp
    | some y =>
     simp only [Hv] at h4;obtain ⟨u, g1, g2⟩ := h4
     cases g2
     exact ⟨fun v hv => by cases hv; exact ⟨_, rfl, QK hF g1⟩, fun hn => by cases hn⟩
   have hk := hT _ _ h1
   split at h5
   ·rename_i e hd
    rw [Hv] at h5;obtain ⟨te, h6, h7⟩ := h5;rw [qy, Hv] at h7;obtain ⟨u, h8, h9⟩ := h7;unfold slS at h8
    split at h8
    ·rename_i n
     simp only [Hv] at h8;obtain ⟨hh, g1, ll, g2, g3⟩ := h8
     cases g3
     refine ⟨_, h9, fun ρ a w rel hF => ?_⟩
     obtain ⟨l1, l2⟩ := hlo ρ a hF;obtain ⟨l3, l4⟩ := hhi ρ a hF;obtain ⟨rfl, hx⟩ := (QK hF h2).snil;have B := fun w' => Mh (P := P) (w := w') (sl := true) (Hx 0) g1 g2 l1 l2 l3 l4
     obtain ⟨_, b1, b2⟩ := B default;have hh0 : hh = 0 := by omega
     have ll0 : ll = 0 := by omega
     subst hh0; subst ll0;refine ⟨.slice none 0 0, fun _ => ⟨rfl, rfl⟩, fun w' _ => ?_⟩
     have B' := (B w').1;simp only [execOp, hop, DS, Hz, QJ (hk.slice hd), Hy, hx, DT, EV, B', (hT _ _ h6).size];simp
    ·rename_i b o n
     simp only [Hv] at h8;obtain ⟨hh, g1, ll, g2, g3⟩ := h8
     split at g3
     case isFalse => cases g3
     case isTrue hok =>
      cases g3
      refine ⟨_, h9, fun ρ a w rel hF => ?_⟩
      obtain ⟨l1, l2⟩ := hlo ρ a hF;obtain ⟨l3, l4⟩ := hhi ρ a hF;obtain ⟨i, off, cap, q1, q2, q3, q4, q5⟩ := (QK hF h2).sl;have B := fun w' => Mh (P := P) (w := w') (sl := true) q3 g1 g2 l1 l2 l3 l4
      obtain ⟨_, b1, b2⟩ := B default;refine ⟨.slice (if cap = ll then some off else some (HW off (ll * te.z))) (hh - ll) (cap - ll), fun _ => ?_, fun w' _ => ?_⟩
      ·refine ⟨i, if cap = ll then off else HW off (ll * te.z), cap - ll, q1, ?_, by omega, fun hc => ?_, fun he hc => ?_⟩
       ·by_cases hc : cap = ll
        · simp [hc]
        · rw [if_neg hc, if_neg hc]
       ·rw [if_neg (by omega), q4 (by omega)]
        unfold HW
        split
        · rename_i h0; rw [h0]; simp
        · simp [Fv]
       ·have h5 := q5 he (by omega)
        ·have hez : i.e = te.z := by
          unfold okE at hok;rw [Bool.and_eq_true, decide_eq_true_eq] at hok;obtain ⟨hbn, hok⟩ := hok
          split at hok
          · cases hok
          · cases hok
          ·rename_i e' cs hg
           have := (rel.rw b i e' cs hbn q1 hg).1;simp only [Bool.or_eq_true, beq_iff_eq] at hok;omega
         rw [hez] at h5 ⊢;have hle : ll <= cap := by omega
         have := Nat.sub_mul cap ll te.z;have h6 : ll * te.z <= cap * te.z := Nat.mul_le_mul_right _ hle;omega
      ·have B' := (B w').1
       simp only [execOp, hop, DS, Hz, QJ (hk.slice hd), Hy, q2, DT, EV, B', (hT _ _ h6).size];simp
    ·rename_i rows
     simp only [Hv] at h8;obtain ⟨hh, g1, ll, g2, g3⟩ := h8
     split at g3
     case isFalse => cases g3
     case isTrue hz =>
      cases g3
      refine ⟨_, h9, fun ρ a w rel hF => ?_⟩
      obtain ⟨l1, l2⟩ := hlo ρ a hF;obtain ⟨l3, l4⟩ := hhi ρ a hF;obtain ⟨q, cap, z', ys, k1, k2, k3, k4, k5, k6⟩ := Rg (QK hF h2).fs;have B := fun w' => Mh (P := P) (w := w') (sl := true) k2 g1 g2 l1 l2 l3 l4
      obtain ⟨_, b1, b2⟩ := B default;have hlen : ((rows.take hh).drop ll).length = hh - ll := by simp; omega
      cases q with
      | none =>
       have h0 := k3 rfl;subst h0;have hh0 : hh = 0 := by simp at b2; omega
       have ll0 : ll = 0 := by omega
       subst hh0; subst ll0;refine ⟨.slice none 0 cap, fun _ => FzR.fs0 none cap, fun w' _ => ?_⟩
       have B' := (B w').1;simp only [List.length_nil] at B' k1;simp only [execOp, hop, DS, Hz, QJ (hk.slice hd), Hy, k1, DT, EV, B', (hT _ _ h6).size];simp
      | some ad =>
       refine ⟨.slice (if cap = ll then some ad else some (HW ad (ll * te.z))) (hh - ll) (cap - ll), fun _ => ?_, fun w' _ => ?_⟩
       ·show FzR ρ.mu (.fs ((rows.take hh).drop ll)) _
        by_cases h0 : (rows.take hh).drop ll = []
        ·rw [h0] at hlen ⊢
         rw [<- hlen];exact FzR.fs0 _ _
        ·have hlt : ll < hh := by
          have := List.length_pos_iff.2 h0;omega
         have hne : rows ≠ [] := by rintro rfl; simp at h0
         obtain ⟨blk, off, cells, e1, e2, e3⟩ := k6 hne
         cases e1
         rw [if_neg (by omega)]
         have hadd : HW ⟨blk, off, none⟩ (ll * te.z) = ⟨blk, off + ll * te.z, none⟩ := by
          unfold HW
          split
          · rename_i hh0; rw [hh0]; rfl
          · rfl
         rw [hadd, <- hlen];exact FzR.fs (z := te.z) (ys := fun j => ys (ll * te.z + j)) e2 h0 (fun r hr => hz r (AG (List.mem_of_mem_drop hr))) (by omega)
          (fun j s hs => by rw [Fv]; exact e3 _ _ (YU hz (by omega) b2 hs)) (fun j s hs => k5 _ _ (YU hz (by omega) b2 hs))
       ·have B' := (B w').1
        simp only [execOp, hop, DS, Hz, QJ (hk.slice hd), Hy, k1, DT, EV, B', (hT _ _ h6).size];simp
    · cases h8
   ·rename_i hd
    rw [Hv] at h5;obtain ⟨u, h8, h9⟩ := h5;unfold uU at h8
    split at h8
    ·simp only [Hv] at h8
     obtain ⟨hh, g1, ll, g2, g3⟩ := h8
     cases g3
     refine ⟨_, h9, fun ρ a w rel hF => ⟨_, fun _ => rfl, fun w' _ => ?_⟩⟩
     obtain ⟨l1, l2⟩ := hlo ρ a hF;obtain ⟨l3, l4⟩ := hhi ρ a hF;have B := (Mh (P := P) (w := w') (sl := false) (Hx _) g1 g2 l1 l2 l3 l4).1;have hx := (QK hF h2).str;simp only [execOp, hop, DS, Hz, QJ (hk.str hd), Hy, hx, DT, EV];simp [B]
    · cases h8
   · cases h5
 case fieldAddr t x fi =>
  simp only [Hv] at hr;obtain ⟨ti, h1, v, h2, h3⟩ := hr;have hk := hT _ _ h1
  split at h3
  ·rename_i fs hd
   simp only [Hv] at h3;obtain ⟨f, h4, tf, h5, h6⟩ := h3
   split at h6
   · cases h6
   ·rename_i hz
    rw [Hv] at h6;obtain ⟨u, h7, h8⟩ := h6;obtain ⟨gs, g1, g2, g3⟩ := hk.field hd;rw [g2, FL, De] at h4;obtain ⟨g, q4, q5⟩ := h4;subst q5;unfold JC at h7
    split at h7
    ·rename_i b ofs
     cases h7
     refine ⟨_, h8, fun ρ a w rel hF => ?_⟩
     obtain ⟨i, p1, p2⟩ := (QK hF h2).ptr;refine ⟨.pointer (some ⟨i.blk, i.off + (ofs + g.offset), none⟩), fun _ => ⟨i, p1, rfl⟩, fun w' _ => ?_⟩
     have hq4 : gs[fi]? = some g := by rw [<- Fy]; exact q4
     simp only [execOp, hop, Instr.fieldAt, Hz, QJ g1, Hy, p2, hq4, ED, HD, fieldPlace, (hT _ _ h5).size];rw [if_neg hz];simp only [HD, Hy, HW]
     split
     · rename_i h0; simp [h0]
     · rw [Fv]
    ·rename_i row ofs
     cases h7
     refine ⟨_, h8, fun ρ a w rel hF => ?_⟩
     have hx := (QK hF h2).fp;generalize hy : a.eval x = y at hx
     cases hx with
     | fp hm k1 k2 =>
      rename_i blk off cells ys;refine ⟨.pointer (some ⟨blk, off + (ofs + g.offset), none⟩), fun _ => FzR.fp hm k1 k2, fun w' _ => ?_⟩
      have hq4 : gs[fi]? = some g := by rw [<- Fy]; exact q4
      simp only [execOp, hop, Instr.fieldAt, Hz, QJ g1, Hy, hy, hq4, ED, HD, fieldPlace, (hT _ _ h5).size];rw [if_neg hz];simp only [HD, Hy, HW]
      split
      · rename_i h0; simp [h0]
      · rw [Fv]
    · cases h7
  · cases h3
 case field t x fi =>
  simp only [Hv] at hr;obtain ⟨ti, h1, v, h2, h3⟩ := hr;have hk := hT _ _ h1
  split at h3
  ·rename_i fs hd
   simp only [Hv] at h3;obtain ⟨f, h4, tf, h5, h6⟩ := h3;obtain ⟨gs, g1, g2, g3⟩ := hk.field hd;rw [g2, FL, De] at h4;obtain ⟨g, q4, q5⟩ := h4;subst q5;have hq4 : gs[fi]? = some g := by rw [<- Fy]; exact q4
   obtain ⟨i0, d, z, e1, e2, e3, e4, e5, e6, e7⟩ := (hT _ _ h5).get
   cases hag : tf.agg with
   | true =>
    rw [hag] at h6;simp only [cond_true, Hv] at h6;obtain ⟨cs', h7, h8⟩ := h6;unfold yX at h7
    split at h7
    ·rename_i cs
     split at h7
     ·rename_i hle
      cases h7
      refine ⟨_, h8, fun ρ a w rel hF => ?_⟩
      obtain ⟨xs, p1, p2⟩ := QK hF h2;refine ⟨.agg (xs.extract g.offset (g.offset + tf.z)), ⟨_, rfl, ?_⟩, fun w' _ => ?_⟩
      ·have := (p2.drop g.offset).take tf.z
       rw [Array.toList_extract];rw [List.extract_eq_take_drop, AN];exact this
      · simp only [execOp, hop, Instr.field, Hz, QJ g1, Hy, p1, hq4, asAgg, HD, part, Ut e2 (e7.trans (by rw [hag])), if_true, (hT _ _ h5).size]
     · cases h7
    · cases h7
   | false =>
    rw [hag] at h6;simp only [cond_false, Hv] at h6;obtain ⟨s, h7, h8⟩ := h6;unfold yY at h7
    split at h7
    ·refine ⟨_, h8, fun ρ a w rel hF => ?_⟩
     obtain ⟨xs, p1, p2⟩ := QK hF h2;obtain ⟨y, p3, p4⟩ := p2.get h7;refine ⟨y, fun _ => p4, fun w' _ => ?_⟩
     have hy : xs[g.offset]? = some y := by rw [<- Fy]; exact p3
     simp only [execOp, hop, Instr.field, Hz, QJ g1, Hy, p1, hq4, asAgg, HD, part, Ut e2 (e7.trans (by rw [hag])), FD, if_false, hy]
    · cases h7
  · cases h3
 case indexAddr t x ix =>
  simp only [Hv] at hr;obtain ⟨ti, h1, v, h2, j, h3, h4⟩ := hr;have hk := hT _ _ h1
  split at h4
  ·rename_i e hd
   simp only [Tc, Hv] at h4;obtain ⟨te, h5, u, h6, h7⟩ := h4;unfold zi at h6
   split at h6
   ·rename_i b o n k i
    split at h6
    case isFalse => cases h6
    case isTrue hc =>
     cases h6
     refine ⟨_, h7, fun ρ a w rel hF => ?_⟩
     obtain ⟨bi, off, cap, q1, q2, q3, q4, q5⟩ := (QK hF h2).sl;have hi := (QK hF h3).int;refine ⟨.pointer (some (HW off (i.toNat * te.z))), fun _ => ⟨bi, q1, ?_⟩, fun w' _ => ?_⟩
     ·rw [q4 (by omega)]
      unfold HW
      split
      · rename_i h0; simp [h0]
      · rw [Fv]
     ·simp only [execOp, hop, SB, Hz, hi, asIntOf, HD, Hy, QJ (hk.slice hd), q2, (hT _ _ h5).size]
      simp [hc, (hT _ _ h5).size]
   ·rename_i rows k i
    split at h6
    case isFalse => cases h6
    case isTrue hc =>
     rw [Hv] at h6;obtain ⟨rw', h8, h9⟩ := h6
     split at h9
     case isFalse => cases h9
     case isTrue hrl =>
      cases h9
      refine ⟨_, h7, fun ρ a w rel hF => ?_⟩
      obtain ⟨q, cap, z', ys, k1, k2, k3, k4, k5, k6⟩ := Rg (QK hF h2).fs;have hi := (QK hF h3).int;have hne : rows ≠ [] := by rintro rfl; simp at h8
      obtain ⟨blk, off, cells, e1, e2, e3⟩ := k6 hne;have hz : z' = te.z := by rw [<- hrl]; exact (k4 _ (List.mem_of_getElem? h8)).symm
      subst e1;have hadd : HW ⟨blk, off, none⟩ (i.toNat * te.z) = ⟨blk, off + i.toNat * te.z, none⟩ := by
       unfold HW
       split
       · rename_i hh0; rw [hh0]; rfl
       · rfl
      have hlt := (HF.1 h8).1;have hget : ∀ (j : Nat) (s : S), rw'[j]? = some s -> rows.flatten[i.toNat * te.z + j]? = some s := by
       intro j s hj;have h10 := YU (rows := rows) (z := te.z) (l := i.toNat) (k := i.toNat + 1) (j := j) (s := s) (by rw [<- hz]; exact k4) (by omega) (by omega)
       refine h10 ?_;have : (rows.take (i.toNat + 1)).drop i.toNat = [rw'] := by
        rw [List.take_succ_eq_append_getElem hlt, List.drop_left' (by simp; omega), (HF.1 h8).2]
       rw [this]; simpa using hj
      refine ⟨.pointer (some (HW ⟨blk, off, none⟩ (i.toNat * te.z))), fun _ => ?_, fun w' _ => ?_⟩
      ·rw [hadd]
       exact FzR.fp (row := rw') (o := 0) (off := off + i.toNat * te.z) (ys := fun j => ys (i.toNat * te.z + j)) e2 (fun j s hs => by rw [Fv]; exact e3 _ _ (hget j s hs)) (fun j s hs => k5 _ _ (hget j s hs))
      ·simp only [execOp, hop, SB, Hz, hi, asIntOf, HD, Hy, QJ (hk.slice hd), k1, (hT _ _ h5).size]
       simp [hc, (hT _ _ h5).size]
   · cases h6
  ·rename_i n e hd
   simp only [Hv] at h4;obtain ⟨te, h5, u, h6, h7⟩ := h4;unfold Td at h6
   split at h6
   ·rename_i b o k i
    split at h6
    case isFalse => cases h6
    case isTrue hc =>
     cases h6
     refine ⟨_, h7, fun ρ a w rel hF => ?_⟩
     obtain ⟨bi, q1, q2⟩ := (QK hF h2).ptr;have hi := (QK hF h3).int;refine ⟨.pointer (some (HW ⟨bi.blk, bi.off + o, none⟩ (i.toNat * te.z))), fun _ => ⟨bi, q1, ?_⟩, fun w' _ => ?_⟩
     ·unfold HW
      split
      · rename_i h0; simp [h0]
      · rw [Fv]
     ·simp only [execOp, hop, SB, Hz, hi, asIntOf, HD, Hy, QJ (hk.arr hd), q2, ED, (hT _ _ h5).size]
      simp [hc, (hT _ _ h5).size]
   ·rename_i row o k i
    split at h6
    case isFalse => cases h6
    case isTrue hc =>
     cases h6
     refine ⟨_, h7, fun ρ a w rel hF => ?_⟩
     have hx := (QK hF h2).fp;have hi := (QK hF h3).int;generalize hy : a.eval x = y at hx
     cases hx with
     | fp hm k1 k2 =>
      rename_i blk off cells ys;refine ⟨.pointer (some (HW ⟨blk, off + o, none⟩ (i.toNat * te.z))), fun _ => ?_, fun w' _ => ?_⟩
      ·have : HW ⟨blk, off + o, none⟩ (i.toNat * te.z) = ⟨blk, off + (o + i.toNat * te.z), none⟩ := by
        unfold HW
        split
        · rename_i h0; simp [h0]
        · rw [Fv]
       rw [this];exact FzR.fp hm k1 k2
      ·simp only [execOp, hop, SB, Hz, hi, asIntOf, HD, Hy, QJ (hk.arr hd), hy, ED, (hT _ _ h5).size]
       simp [hc, (hT _ _ h5).size]
   · cases h6
  · cases h4
 case index t x ix =>
  simp only [Hv] at hr;obtain ⟨ti, h1, v, h2, j, h3, h4⟩ := hr;have hk := hT _ _ h1
  split at h4
  ·rename_i hd
   simp only [Hv] at h4;obtain ⟨u, h6, h7⟩ := h4;unfold Yq at h6
   split at h6
   ·rename_i s k i
    split at h6
    case isFalse => cases h6
    case isTrue hc =>
     cases h6
     refine ⟨_, h7, fun ρ a w rel hF => ⟨_, fun _ => rfl, fun w' _ => ?_⟩⟩
     have hx := (QK hF h2).str;have hi := (QK hF h3).int;have hlt : i.toNat < s.size := by omega
     have hg : s[i.toNat]? = some (s.get! i.toNat) := by
      rw [getElem?_pos s i.toNat hlt]
      congr 1
      simp only [ByteArray.get!, ByteArray.getElem_eq_getElem_data];rw [getElem!_pos s.data i.toNat hlt]
     simp only [execOp, hop, Instr.index, Hz, hi, asIntOf, HD, Hy, QJ (hk.str hd), hx];rw [if_pos hc.1, hg];rfl
   · cases h6
  · cases h4
 case extract x ix =>
  simp only [Hv] at hr;obtain ⟨v, h1, u, h2, h3⟩ := hr;unfold Q2w at h2
  split at h2
  ·rename_i vs
   rw [De] at h2;obtain ⟨c, h4, h5⟩ := h2;subst h5;refine ⟨_, h3, fun ρ a w rel hF => ?_⟩
   obtain ⟨xs, p1, p2⟩ := QK hF h1;obtain ⟨y, p3, p4⟩ := p2.get h4;have hy : xs[ix]? = some y := by rw [<- Fy]; exact p3
   exact ⟨y, p4.v, fun w' _ => by simp only [execOp, hop, p1, Instr.extract, hy]; rfl⟩
  · cases h2
 case makeFunc fn first caps =>
  split at hr
  ·rename_i h0
   split at hr
   ·simp only [Hv] at hr
    obtain ⟨l, h1, ps, h2, h3⟩ := hr;refine ⟨_, h3, fun ρ a w rel hF => ?_⟩
    have := xH (YG hF h1) h2;refine ⟨_, fun _ => ⟨caps.map a.eval, rfl, by rw [EE]; exact this⟩, fun w' _ => ?_⟩
    have hf : first = #[] := by simpa using h0
    subst hf;simp only [execOp, hop, Instr.makeFunc, Array.map_empty];rfl
   · cases hr
  · cases hr
 case call c => cases hr
end Vm
