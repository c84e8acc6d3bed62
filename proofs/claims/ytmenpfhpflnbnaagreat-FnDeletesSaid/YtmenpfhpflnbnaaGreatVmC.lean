/-
  The operations of the small machine that write nothing: they do what the model's do, in every world that has the same blocks.
-/
import Derived.Test.YtmenpfhpflnbnaaGreatVmB
import Derived.Laws.Unary
set_option linter.unusedVariables false
set_option linter.unusedSimpArgs false
open Bool renaming false_eq_true->FD
open Go.Instr renaming loadAt->EQ,sureAddr->ED
open List renaming getElem?_drop->FO,getElem?_eq_getElem->HI,getElem?_eq_some_iff->HF,getElem?_range->AM,getElem?_take->FG,range->FF
open Option renaming bind_eq_some_iff->Hv
open Go.Result renaming andThen_ok->Hy
open Go.Sem renaming run_bind->Hz,run_pure->HD
namespace Vm
open Go
variable {W0 : St} {base : Nat} {ρ : Rho} {h : H} {w w' : World} {P : Program} {E : Env}
def KG : TypeDesc -> TD × Bool
 | .bool => (.bool, false)
 | .pointer _ => (.ptr, false)
 | .int k => (.int k, false)
 | .string => (.str, false)
 | .slice e => (.sl e, false)
 | .array n e => (.arr n e, true)
 | .struct fs => (.st (fs.toList.map fun f => (f.offset, f.type)), true)
 | .map k e => (.mp k e, false)
 | _ => (.other, false)
structure TyOk (P : Program) (t : Nat) (ti : TI) : Prop where
 info : (P.info? t).map (fun i => (i.size, i.bytes, i.zero.bind fun v => Gt v.cells.toList)) = some (ti.z, ti.bytes, some ti.zero)
 und : (P.underlying t).map KG = some (ti.d, ti.agg)
 small : ti.bytes <= 255 /\ ti.zero.length = ti.z
 flds : (match P.underlying t with | some (.struct fs) => fs.toList.all (fun f => (P.info? f.type).isSome) | _ => true) = true
 cmp : (!ti.cmp || (!P.stoodInHeld t && !P.eqGuardType P.depth t && (match P.underlying t with | some (.struct fs) => fs.toList.all (fun f => f.name != "_") | _ => true))) = true
 zer : (match (P.info? t).bind (fun i => i.zero) with | some (.agg _) => ti.agg | some _ => !ti.agg | none => true) = true
def FR (ρ : Rho) (F : Fr) (tmps : Array Value) : Prop := ∀ d v, Ze F d = some v -> VR ρ v (tmps.getD d undef)
theorem FR.mono {ρ ρ' : Rho} (hl : Le ρ ρ') {F : Fr} {tmps : Array Value} (h : FR ρ F tmps) : FR ρ' F tmps := fun d v hd => (h d v hd).mono hl
def X2 (base : Nat) (ρ : Rho) (h : H) (w w' : World) : Prop :=
 (∀ i, i < base -> w'.heap[i]? = w.heap[i]?) /\ (∀ (b : Nat) (i : BI) (e : Nat) (cs : List S), b < h.n -> ρ.bl[b]? = some i -> h.g b = .rw e cs -> w'.heap[i.blk]? = w.heap[i.blk]?) /\ (FzW ρ.mu w -> FzW ρ.mu w')
theorem X2.refl (base : Nat) (ρ : Rho) (h : H) (w : World) : X2 base ρ h w w := ⟨fun _ _ => rfl, fun _ _ _ _ _ _ _ => rfl, id⟩
structure RelQ (W0 : St) (base : Nat) (ρ : Rho) (h : H) (w : World) : Prop where
 len : h.n <= ρ.bl.length
 old : ∀ (i : Nat), i < base -> w.heap[i]? = W0.w.heap[i]?
 rw : ∀ (b : Nat) (i : BI) (e : Nat) (cs : List S), b < h.n -> ρ.bl[b]? = some i -> h.g b = .rw e cs -> i.e = e /\ ∃ c el fr, w.heap[i.blk]? = some (.cells c el fr) /\ ∀ (j : Nat) (s : S), cs[j]? = some s -> ∃ y, c[i.off + j]? = some y /\ SR ρ s y
 fz : FzW ρ.mu w
theorem Rel.q (r : Rel W0 base ρ h w) : RelQ W0 base ρ h w where
 len := by rw [r.len]; exact Nat.le_refl _
 old := r.old
 rw := fun b i e cs _ h1 h2 => by
  obtain ⟨_, a2, c, el, fr, a3, _, _, _, a6⟩ := r.rw b i e cs h1 h2;exact ⟨a2, c, el, fr, a3, a6⟩
 fz := r.fz
theorem Rel.elder {h0 : H} (r : Rel W0 base ρ h w) (he : Zj h0 h) : RelQ W0 base ρ h0 w where
 len := by rw [r.len]; exact he.1
 old := r.old
 rw := fun b i e cs hb h1 h2 => by
  obtain ⟨_, a2, c, el, fr, a3, _, _, _, a6⟩ := r.rw b i e cs h1 (by rw [((he.2 b hb).resolve_left (fun hd => by rw [hd] at h2; cases h2)).1]; exact h2)
  exact ⟨a2, c, el, fr, a3, a6⟩
 fz := r.fz
theorem RelQ.of (r : RelQ W0 base ρ h w) {b : Nat} (hb : b < h.n) : ∃ i, ρ.bl[b]? = some i := ⟨_, HI (by have := r.len; omega)⟩
theorem RelQ.cellS (r : RelQ W0 base ρ h w) {b j : Nat} {s : S} (hs : (h.cells b)[j]? = some s) :
  ∃ i x, ρ.bl[b]? = some i /\ SR ρ s x /\ ∀ w', X2 base ρ h w w' -> w'.cell? ⟨i.blk, i.off + j, none⟩ = some x := by
 unfold H.cells at hs
 split at hs
 case isFalse => simp at hs
 case isTrue hb =>
  obtain ⟨i, hi⟩ := r.of hb
  cases hg : h.g b with
  | dead => rw [hg] at hs; simp [Blk.cells] at hs
  | mp es => rw [hg] at hs; simp [Blk.cells] at hs
  | rw e cs =>
   rw [hg] at hs;obtain ⟨h2, c, el, fr, h3, h6⟩ := r.rw b i e cs hb hi hg;obtain ⟨y, hy, hr⟩ := h6 j s hs;refine ⟨i, y, hi, hr, fun w' hw => ?_⟩
   have := hw.2.1 b i e cs hb hi hg;unfold World.cell?;simp [this, h3, hy]
theorem Po {v : Value} {s : S} (hc : Ru v = some s) : SR ρ s v /\ isNo s = false := by
 unfold Ru at hc
 split at hc <;> first | (cases hc; exact ⟨rfl, rfl⟩) | (cases hc; exact ⟨⟨rfl, rfl⟩, rfl⟩) | (cases hc)
theorem Nh : ∀ {l : List Value} {c : List S}, Gt l = some c -> SRs ρ c l
 | [], c, hc => by simp [Gt] at hc; subst hc; trivial
 | v :: r, c, hc => by
  simp only [Gt, Hv] at hc;obtain ⟨x, h1, l, h2, h3⟩ := hc
  cases h3
  exact ⟨(Po h1).1, Nh h2⟩
theorem wL {v : Value} {x : V} (hc : zF v = some x) : VR ρ x v := by
 unfold zF at hc
 split at hc
 ·rename_i cs
  rw [Hv] at hc;obtain ⟨l, h1, h2⟩ := hc
  cases h2
  exact ⟨cs, rfl, Nh h1⟩
 ·rw [Hv] at hc
  obtain ⟨l, h1, h2⟩ := hc
  cases h2
  exact fun _ => (Po h1).1
theorem QK {F : Fr} {a : Act} (hF : FR ρ F a.tmps) {x : Operand} {v : V} (hx : opd F x = some v) : VR ρ v (a.eval x) := by
 cases x with
 | tmp t => exact hF t v hx
 | const c => exact wL hx
 | global g => simp [opd] at hx
 | func f => simp [opd] at hx; subst hx; exact fun _ => ⟨#[], rfl, trivial⟩
theorem YG {F : Fr} {a : Act} (hF : FR ρ F a.tmps) : ∀ {l : List Operand} {vs : List V}, WQ F l = some vs -> VRs ρ vs (l.map a.eval)
 | [], vs, hx => by simp [WQ] at hx; subst hx; trivial
 | x :: r, vs, hx => by
  simp only [WQ, Hv] at hx;obtain ⟨v, h1, l, h2, h3⟩ := hx
  cases h3
  exact ⟨QK hF h1, YG hF h2⟩
theorem TyOk.get {t : Nat} {ti : TI} (hk : TyOk P t ti) : ∃ i d z, P.info? t = some i /\ P.underlying t = some d /\ i.size = ti.z /\ i.bytes = ti.bytes /\ i.zero = some z /\ (∀ ρ, SRs ρ ti.zero z.cells.toList) /\ KG d = (ti.d, ti.agg) := by
 have h1 := hk.info;have h2 := hk.und;rw [Option.map_eq_some_iff] at h1 h2;obtain ⟨i, q1, q2⟩ := h1;obtain ⟨d, p1, p2⟩ := h2;simp only [Prod.mk.injEq] at q2;obtain ⟨e1, e2, e3⟩ := q2;rw [Hv] at e3;obtain ⟨z, e3, e4⟩ := e3;exact ⟨i, d, z, q1, p1, e1, e2, e3, fun ρ => Nh e4, p2⟩
theorem QJ {t : Nat} {d : TypeDesc} (hd : P.underlying t = some d) : (underlying t).run P w = .ok d w := run_underlying hd w
theorem VM {t : Nat} {i : TypeInfo} (hi : P.info? t = some i) : (typeInfo t).run P w = .ok i w := by
 simp only [typeInfo, Hz, run_program, Hy, hi, HD]
theorem VN {t : Nat} {i : TypeInfo} (hi : P.info? t = some i) : (Go.sizeOf t).run P w = .ok i.size w := by
 simp only [Go.sizeOf, Hz, VM hi, Hy, HD]
theorem Ue {t : Nat} {i : TypeInfo} {z : Value} (hi : P.info? t = some i) (hz : i.zero = some z) : (zeroValue t).run P w = .ok z w := by
 simp only [zeroValue, Hz, VM hi, Hy, hz, HD]
theorem Ut {t : Nat} {d : TypeDesc} {td : TD} {b : Bool} (hd : P.underlying t = some d) (ht : KG d = (td, b)) : (isAgg t).run P w = .ok b w := by
 simp only [isAgg, Hz, QJ hd, Hy]
 cases d <;> simp [KG] at ht <;> first | (obtain ⟨_, rfl⟩ := ht; rfl) | (obtain ⟨_, rfl⟩ := ht; simp)
theorem FzR.sr {s : S} {y : Value} (h : FzR ρ.mu s y) : SR ρ s y := by
 cases h with
 | bool b => rfl
 | int k n => rfl
 | str s => rfl
 | nil => rfl
 | nofn => rfl
 | fn f => exact ⟨#[], rfl, trivial⟩
 | fs0 a cap => exact FzR.fs0 a cap
 | fs a b c d e f => exact FzR.fs a b c d e f
 | fp a b c => exact FzR.fp a b c
theorem FzW.row {mu : Nat -> Option (Array Value)} {blk off m : Nat} {cells : Array Value} (f : Nat -> Value) (hm : mu blk = some cells) (hj : ∀ j, j < m -> cells[off + j]? = some (f j)) {w' : World} (hw : FzW mu w') :
  (loadCells ⟨blk, off, none⟩ m).run P w' = .ok ((FF m).map f).toArray w' := by
 rw [run_loadCells (w := w') ⟨blk, off, none⟩ m f (fun j hj' => ?_)]
 have := hw.cell hm (hj j hj');unfold Addr.add
 by_cases hj0 : j = 0
 · rw [if_pos hj0]; subst hj0; exact this
 · simp only [if_neg hj0]; exact this
theorem Tg {cs : List S} {ys : Nat -> Value} (h : ∀ j s, cs[j]? = some s -> FzR ρ.mu s (ys j)) : SRs ρ cs ((FF cs.length).map ys) := by
 refine SRs.of_get (by simp) fun j s hj => ?_
 have hlt := (HF.1 hj).1;exact ⟨ys j, by rw [List.getElem?_map, AM hlt]; rfl, (h j s hj).sr⟩
theorem TT (r : RelQ W0 base ρ h w) {p : V} {x : Value} {s : S} {t : Nat} {ti : TI} (hk : TyOk P t ti) (ha : ti.agg = false) (hp : VR ρ p x) (hl : Qb h p = some s) :
  ∃ y, SR ρ s y /\ ∀ w', X2 base ρ h w w' -> (EQ t x).run P w' = .ok y w' := by
 unfold Qb at hl
 split at hl
 case h_3 => cases hl
 case h_2 row o =>
  obtain ⟨i0, d, z, e1, e2, e3, e4, e5, e6, e7⟩ := hk.get
  cases (show FzR ρ.mu (.fp row o) x from hp rfl) with
  | fp hm k1 k2 =>
   rename_i blk off cells ys;refine ⟨ys o, (k2 o s hl).sr, fun w' hw => ?_⟩
   have hc := (hw.2.2 r.fz).cell hm (k1 o s hl);simp only [EQ, ED, loadVar, Hz, HD, Hy, Ut e2 (e7.trans (by rw [ha])), FD, if_false, run_load, hc]
 case h_1 b o =>
  obtain ⟨i, h1, rfl⟩ := hp rfl;obtain ⟨i', y, q1, q2, q3⟩ := r.cellS hl;rw [h1] at q1; cases q1;obtain ⟨i0, d, z, e1, e2, e3, e4, e5, e6, e7⟩ := hk.get;refine ⟨y, q2, fun w' hw => ?_⟩
  have hc := q3 w' hw;simp only [EQ, ED, loadVar, Hz, HD, Hy, Ut e2 (e7.trans (by rw [ha])), FD, if_false, run_load, hc]
theorem RelQ.row (r : RelQ W0 base ρ h w) {b o m : Nat} (hle : o + m <= (h.cells b).length) (hm : m ≠ 0 \/ b < h.n) :
  ∃ i, ∃ l : List Value, ρ.bl[b]? = some i /\ SRs ρ (((h.cells b).drop o).take m) l /\ l.length = m /\ ∀ w', X2 base ρ h w w' -> (loadCells ⟨i.blk, i.off + o, none⟩ m).run P w' = .ok l.toArray w' := by
 have hb : b < h.n := by
  rcases hm with hm | hm
  ·unfold H.cells at hle
   split at hle
   · assumption
   · simp at hle; omega
  · exact hm
 obtain ⟨i, h1⟩ := r.of hb;have key : ∀ j, j < m -> ∃ y s, (h.cells b)[o + j]? = some s /\ SR ρ s y /\ ∀ w', X2 base ρ h w w' -> w'.cell? ⟨i.blk, i.off + (o + j), none⟩ = some y := by
  intro j hj;have hs : (h.cells b)[o + j]? = some ((h.cells b)[o + j]'(by omega)) := HI (by omega)
  obtain ⟨i', y, q1, q2, q3⟩ := r.cellS hs;rw [h1] at q1; cases q1;exact ⟨y, _, hs, q2, q3⟩
 have : ∃ f : Nat -> Value, ∀ j, j < m -> ∃ s, (h.cells b)[o + j]? = some s /\ SR ρ s (f j) /\ ∀ w', X2 base ρ h w w' -> w'.cell? ⟨i.blk, i.off + (o + j), none⟩ = some (f j) := by
  refine ⟨fun j => if hj : j < m then (key j hj).choose else .nilFunc, fun j hj => ?_⟩
  simp only [dif_pos hj];exact (key j hj).choose_spec
 obtain ⟨f, hf⟩ := this;refine ⟨i, (FF m).map f, h1, SRs.of_get (by simp; omega) fun j s hj => ?_, by simp, fun w' hw => ?_⟩
 ·have hlt := (HF.1 hj).1
  simp only [List.length_take, List.length_drop] at hlt;obtain ⟨s', q1, q2, _⟩ := hf j (by omega)
  rw [FG, if_pos (by omega), FO] at hj
  rw [q1] at hj; cases hj;exact ⟨f j, by rw [List.getElem?_map, AM (by omega)]; rfl, q2⟩
 ·rw [run_loadCells (w := w') ⟨i.blk, i.off + o, none⟩ m f (fun j hj => ?_)]
  obtain ⟨s', _, _, q3⟩ := hf j hj;have := q3 w' hw;unfold Addr.add
  by_cases hj0 : j = 0
  · rw [if_pos hj0]; subst hj0; exact this
  · simp only [if_neg hj0]; rw [Nat.add_assoc]; exact this
theorem TS (r : RelQ W0 base ρ h w) {p : V} {x : Value} {cs : List S} {t : Nat} {ti : TI} (hk : TyOk P t ti) (ha : ti.agg = true) (hp : VR ρ p x) (hl : Qp ti.z h p = some cs) :
  ∃ y, VR ρ (.agg cs) y /\ ∀ w', X2 base ρ h w w' -> (EQ t x).run P w' = .ok y w' := by
 unfold Qp at hl
 split at hl
 case h_3 => cases hl
 case h_2 row o =>
  unfold JP at hl
  split at hl
  case isFalse => cases hl
  case isTrue hle =>
   cases hl
   obtain ⟨i0, d, z, e1, e2, e3, e4, e5, e6, e7⟩ := hk.get
   cases (show FzR ρ.mu (.fp row o) x from hp rfl) with
   | fp hm k1 k2 =>
    rename_i blk off cells ys;have hl : ((row.drop o).take ti.z).length = ti.z := by simp; omega
    have hg : ∀ (j : Nat) (s : S), ((row.drop o).take ti.z)[j]? = some s -> row[o + j]? = some s := by
     intro j s hj;have hlt := (HF.1 hj).1;rw [hl] at hlt;rw [FG, if_pos hlt, FO] at hj;exact hj
    have h2 := Tg (ρ := ρ) (cs := (row.drop o).take ti.z) (ys := fun j => ys (o + j)) fun j s hj => k2 _ s (hg j s hj)
    rw [hl] at h2;refine ⟨.agg ((FF ti.z).map fun j => ys (o + j)).toArray, ⟨_, rfl, by simpa using h2⟩, fun w' hw => ?_⟩
    have h4 := FzW.row (P := P) (blk := blk) (off := off + o) (m := ti.z) (fun j => ys (o + j)) hm (fun j hj => by
     have hlt : o + j < row.length := by omega
     have := k1 (o + j) _ (HI hlt);rw [Nat.add_assoc]; exact this) (hw.2.2 r.fz)
    simp only [EQ, ED, loadVar, Hz, HD, Hy, Ut e2 (e7.trans (by rw [ha])), if_true, VN e1, e3, h4]
 case h_1 b o =>
  split at hl
  case isFalse => cases hl
  case isTrue hle =>
   cases hl
   obtain ⟨i, h1, rfl⟩ := hp rfl;obtain ⟨i0, d, z, e1, e2, e3, e4, e5, e6, e7⟩ := hk.get;obtain ⟨i', l, q1, q2, q3, q4⟩ := r.row (P := P) hle.2 (.inr hle.1);rw [h1] at q1; cases q1;refine ⟨.agg l.toArray, ⟨_, rfl, by simpa using q2⟩, fun w' hw => ?_⟩
   simp only [EQ, ED, loadVar, Hz, HD, Hy, Ut e2 (e7.trans (by rw [ha])), if_true, VN e1, e3, q4 w' hw]
end Vm
