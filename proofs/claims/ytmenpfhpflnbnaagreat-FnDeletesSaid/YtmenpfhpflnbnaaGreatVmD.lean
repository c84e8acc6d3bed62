/-
  Each quiet operation of the small machine yields what the model's yields, in every world that has the same blocks.
-/
import Derived.Test.YtmenpfhpflnbnaaGreatVmC
import Derived.Laws.StructEq
import Derived.ChangeKeysEq
import Derived.WideKeyRuns
set_option linter.unusedVariables false
set_option linter.unusedSimpArgs false
open Bool renaming and_eq_true->HE,false_or->EM,not_eq_true'->EC,not_true->S9
open Go renaming binOp->EA
open Go.Instr renaming checkKey->Dg
open List renaming map_cons->HS
open Go.Op renaming equalIn->FW
open Option renaming bind_eq_some_iff->Hv,bind_some->HC
open Option.some renaming injEq->Du
open Go.Result renaming andThen_ok->Hy
open Go.Sem renaming run_bind->Hz,run_pure->HD
open Go.Value renaming oneCell'->EP
namespace Vm
open Go
variable {W0 : St} {base : Nat} {ρ : Rho} {h : H} {w w' : World} {P : Program} {E : Env}
def X5 (P : Program) (E : Env) : Prop := ∀ t ti, E.ty t = some ti -> TyOk P t ti
def QOK (P : Program) (W0 : St) (base : Nat) (o : Oper) (F : Fr) (h : H) (v : V) : Prop :=
 ∀ (ρ : Rho) (a : Act) (w : World), RelQ W0 base ρ h w -> FR ρ F a.tmps -> ∃ x, VR ρ v x /\ ∀ w', X2 base ρ h w w' -> (execOp a.eval o).run P w' = .ok (.value x) w'
theorem VR.int {k : IntKind} {n : Int} {x : Value} (hx : VR ρ (.s (.int k n)) x) : x = .int k n := hx rfl
theorem VR.bool {b : Bool} {x : Value} (hx : VR ρ (.s (.bool b)) x) : x = .bool b := hx rfl
theorem VR.str {b : ByteArray} {x : Value} (hx : VR ρ (.s (.str b)) x) : x = .string b := hx rfl
theorem VR.ptr {b o : Nat} {x : Value} (hx : VR ρ (.s (.ptr (some (b, o)))) x) : ∃ i, ρ.bl[b]? = some i /\ x = .pointer (some ⟨i.blk, i.off + o, none⟩) := hx rfl
theorem VR.nil {x : Value} (hx : VR ρ (.s (.ptr none)) x) : x = .pointer none := hx rfl
theorem VR.snil {n : Nat} {x : Value} (hx : VR ρ (.s (.sl none n)) x) : n = 0 /\ x = .slice none 0 0 := hx rfl
theorem VR.sl {b o n : Nat} {x : Value} (hx : VR ρ (.s (.sl (some (b, o)) n)) x) : ∃ i a cap, ρ.bl[b]? = some i /\ x = .slice (some a) n cap /\ n <= cap /\ (cap ≠ 0 -> a = ⟨i.blk, i.off + o, none⟩) /\ (i.e ≠ 0 -> cap ≠ 0 -> i.off + o + cap * i.e <= i.top) := hx rfl
theorem VR.fs {rows : List (List S)} {x : Value} (hx : VR ρ (.s (.fs rows)) x) : FzR ρ.mu (.fs rows) x := hx rfl
theorem VR.fp {row : List S} {o : Nat} {x : Value} (hx : VR ρ (.s (.fp row o)) x) : FzR ρ.mu (.fp row o) x := hx rfl
theorem VF {R : Type} {v : V} {a b : Option R} {r : R} (hv : vcase v a b = some r) : ∃ t, v = .s (.bool t) /\ (if t then a else b) = some r := by
 unfold vcase at hv
 split at hv
 · exact ⟨true, rfl, hv⟩
 · exact ⟨false, rfl, hv⟩
 · cases hv
theorem Rf {R : Type} {v : V} {a b c : Option R} {r : R} (hv : gcase v a b c = some r) : (∃ t, v = .s (.bool t) /\ (if t then a else b) = some r) \/ (v = .tup [] /\ c = some r) := by
 unfold gcase at hv
 split at hv
 · exact .inl ⟨true, rfl, hv⟩
 · exact .inl ⟨false, rfl, hv⟩
 · exact .inr ⟨rfl, hv⟩
 · cases hv
theorem VR.unit {ρ : Rho} {x : Value} (hx : VR ρ (.tup []) x) : x = undef := by
 obtain ⟨xs, rfl, h⟩ := hx
 cases hx : xs.toList with
 | nil =>
  have : xs = #[] := by rw [<- Array.toList_inj, hx]
  rw [this]; rfl
 | cons y ys => rw [hx] at h; exact h.elim
theorem PN (ρ : Rho) : VR ρ (.tup []) undef := ⟨#[], rfl, trivial⟩
theorem yT (xs : List Value) : ∀ (off : Nat) (c : Array Value), off + xs.length <= c.size ->
  ((xs.zipIdx.foldl (fun (cs : Array Value) (p : Value × Nat) => cs.setIfInBounds (off + p.2) p.1) c)).toList = c.toList.take off ++ xs ++ c.toList.drop (off + xs.length) := by
 have key : ∀ (xs : List Value) (k off : Nat) (c : Array Value), off + k + xs.length <= c.size ->
   (((xs.zipIdx k).foldl (fun (cs : Array Value) (p : Value × Nat) => cs.setIfInBounds (off + p.2) p.1) c)).toList = c.toList.take (off + k) ++ xs ++ c.toList.drop (off + k + xs.length) := by
  intro xs
  induction xs with
  | nil => intro k off c hc; simp
  | cons x xs ih =>
   intro k off c hc;simp only [List.zipIdx_cons, List.foldl_cons];simp only [List.length_cons] at hc;rw [show off + k + (x :: xs).length = off + (k + 1) + xs.length from by simp; omega]
   rw [ih (k + 1) off _ (by simp; omega)]
   have h1 : (c.setIfInBounds (off + k) x).toList = c.toList.set (off + k) x := by simp
   rw [h1];have h2 : (c.toList.set (off + k) x).take (off + (k + 1)) = c.toList.take (off + k) ++ [x] := by
    rw [show off + (k + 1) = (off + k) + 1 from by omega, List.take_succ_eq_append_getElem (by simp; omega), List.getElem_set_self, List.take_set_of_le (Nat.le_refl _)]
   have h3 : (c.toList.set (off + k) x).drop (off + (k + 1) + xs.length) = c.toList.drop (off + (k + 1) + xs.length) := by
    rw [List.drop_set_of_lt (by omega)]
   rw [h2, h3];simp
 intro off c hc;have := key xs 0 off c (by simpa using hc)
 simpa using this
theorem SRs.setAt {cs xs : List S} {l ys : List Value} {o : Nat} (h1 : SRs ρ cs l) (h2 : SRs ρ xs ys) : SRs ρ (Vm.setAt cs o xs) (l.take o ++ ys ++ l.drop (o + ys.length)) := by
 unfold Vm.setAt;rw [h2.length];exact ((h1.take o).append h2).append (h1.drop _)
theorem Ti {R : Type} {pa pc : Nat -> Option (Nat × Nat)} (hp : ∀ i p, pa i = some p -> pc i = some p) {F : Fr} {a : Act} (hF : FR ρ F a.tmps) :
  ∀ (ps : List (Nat × Operand)) (cs : List S) (c : Array Value) (k : List S -> Option R) (r : R), SRs ρ cs c.toList -> Jm pa F ps cs k = some r ->
   ∃ cs', k cs' = some r /\ ∃ c', Instr.fill pc c (ps.map fun p => (p.1, a.eval p.2)) = some c' /\ SRs ρ cs' c'.toList := by
 intro ps
 induction ps with
 | nil => intro cs c k r hs hf; exact ⟨cs, hf, c, rfl, hs⟩
 | cons p ps ih =>
  intro cs c k r hs hf;obtain ⟨i, x⟩ := p;simp only [Jm, UA, Hv] at hf;obtain ⟨v, h1, q, h2, xs, h3, h4⟩ := hf
  split at h4
  case isFalse => cases h4
  case isTrue hc =>
   have hv := QK hF h1;have hx := hv.cells h3;have hlx := hx.length;have hlc := hs.length;simp at hlc;obtain ⟨cs', g1, c', g2, g3⟩ := ih (setAt cs q.1 xs) _ k r (by
    rw [yT (a.eval x).cells.toList q.1 c (by rw [hlx]; omega)]
    exact hs.setAt hx) h4
   refine ⟨cs', g1, c', ?_, g3⟩;simp only [HS, Instr.fill, hp i q h2];have hz : (a.eval x).cells.size = q.2 := by rw [<- Array.length_toList, hlx]; exact hc.1
   rw [if_neg (by
    simp only [Bool.or_eq_true, bne_iff_ne, decide_eq_true_eq, not_or, Decidable.not_not];exact ⟨hz, by omega⟩)]
   rw [<- g2]
   congr 1
   rw [<- Array.foldl_toList, Array.toList_zipIdx]
theorem yc (hT : X5 P E) {fs : List (Nat × Nat)} {i : Nat} {p : Nat × Nat} (hp : Mz E fs i = some p) :
  ∃ t ti, fs[i]? = some (p.1, t) /\ TyOk P t ti /\ p.2 = ti.z := by
 unfold Mz at hp;simp only [Hv] at hp;obtain ⟨q, h1, ti, h2, h3⟩ := hp
 cases h3
 exact ⟨q.2, ti, h1, hT _ _ h2, rfl⟩
theorem VO {fs : List Field} (hi : ∀ (f : Field), f ∈ fs -> ∃ i, P.info? f.type = some i) :
  ∃ l : List (Nat × Nat), (fs.mapM fun (f : Field) => (do pure (f.offset, <- Go.sizeOf f.type) : Sem (Nat × Nat))).run P w = .ok l w /\ l.length = fs.length /\
   ∀ (j : Nat) (f : Field), fs[j]? = some f -> ∃ i, P.info? f.type = some i /\ l[j]? = some (f.offset, i.size) := by
 induction fs with
 | nil => exact ⟨[], rfl, rfl, fun j f hf => by simp at hf⟩
 | cons f fs ih =>
  obtain ⟨i, h1⟩ := hi f (by simp)
  obtain ⟨l, g1, g2, g3⟩ := ih fun f hf => hi f (by simp [hf])
  refine ⟨(f.offset, i.size) :: l, ?_, by simp [g2], fun j f' hf => ?_⟩
  · simp only [List.mapM_cons, Hz, VN h1, Hy, HD, g1]
  ·cases j with
   | zero => simp at hf; subst hf; exact ⟨i, h1, rfl⟩
   | succ j => simp at hf; exact g3 j f' hf
theorem TyOk.field {t : Nat} {ti : TI} (hk : TyOk P t ti) {fs : List (Nat × Nat)} (hd : ti.d = .st fs) : ∃ gs : Array Field, P.underlying t = some (.struct gs) /\ fs = gs.toList.map (fun f => (f.offset, f.type)) /\ ∀ f ∈ gs.toList, ∃ i, P.info? f.type = some i := by
 obtain ⟨i, d, z, e1, e2, e3, e4, e5, e6, e7⟩ := hk.get;rw [hd] at e7
 cases d <;> simp [KG] at e7
 rename_i gs;refine ⟨gs, e2, e7.1.symm, fun f hf => ?_⟩
 have h := hk.flds;rw [e2] at h;simp only [List.all_eq_true] at h;have := h f hf;exact Option.isSome_iff_exists.1 this
theorem TyOk.slice {t : Nat} {ti : TI} (hk : TyOk P t ti) {e : Nat} (hd : ti.d = .sl e) : P.underlying t = some (.slice e) := by
 obtain ⟨i, d, z, e1, e2, e3, e4, e5, e6, e7⟩ := hk.get;rw [hd] at e7
 cases d <;> simp [KG] at e7
 obtain ⟨rfl, _⟩ := e7; exact e2
theorem TyOk.arr {t : Nat} {ti : TI} (hk : TyOk P t ti) {n e : Nat} (hd : ti.d = .arr n e) : P.underlying t = some (.array n e) := by
 obtain ⟨i, d, z, e1, e2, e3, e4, e5, e6, e7⟩ := hk.get;rw [hd] at e7
 cases d <;> simp [KG] at e7
 obtain ⟨⟨rfl, rfl⟩, _⟩ := e7; exact e2
theorem TyOk.str {t : Nat} {ti : TI} (hk : TyOk P t ti) (hd : ti.d = .str) : P.underlying t = some .string := by
 obtain ⟨i, d, z, e1, e2, e3, e4, e5, e6, e7⟩ := hk.get;rw [hd] at e7
 cases d <;> simp [KG] at e7
 exact e2
theorem TyOk.bool {t : Nat} {ti : TI} (hk : TyOk P t ti) (hd : ti.d = .bool) : P.underlying t = some .bool := by
 obtain ⟨i, d, z, e1, e2, e3, e4, e5, e6, e7⟩ := hk.get;rw [hd] at e7
 cases d <;> simp [KG] at e7
 exact e2
theorem TyOk.ptr {t : Nat} {ti : TI} (hk : TyOk P t ti) (hd : ti.d = .ptr) : ∃ e, P.underlying t = some (.pointer e) := by
 obtain ⟨i, d, z, e1, e2, e3, e4, e5, e6, e7⟩ := hk.get;rw [hd] at e7
 cases d <;> simp [KG] at e7
 exact ⟨_, e2⟩
theorem TyOk.int {t : Nat} {ti : TI} (hk : TyOk P t ti) {k : IntKind} (hd : ti.d = .int k) : P.underlying t = some (.int k) := by
 obtain ⟨i, d, z, e1, e2, e3, e4, e5, e6, e7⟩ := hk.get;rw [hd] at e7
 cases d <;> simp [KG] at e7
 obtain ⟨rfl, _⟩ := e7; exact e2
theorem TyOk.size {t : Nat} {ti : TI} (hk : TyOk P t ti) : (Go.sizeOf t).run P w = .ok ti.z w := by
 obtain ⟨i, d, z, e1, e2, e3, e4, e5, e6, e7⟩ := hk.get;rw [VN e1, e3]
theorem M2 {op : BinOp} {t : Nat} {X Y : Operand} {u v : Value} (hu : u.oneCell' = true) (hn : u ≠ .nilIface) : (eqGuard op t X Y u v).run P w = .ok () w := by
 unfold eqGuard
 cases op <;> simp <;> cases u <;> first | rfl | (simp [EP] at hu; done) | (simp at hn; done) | simp
theorem Q18 {t : Nat} (hb : P.underlying t = some .bool) (a b : Bool) (d : Nat) : (FW (d + 1) t (.bool a) (.bool b)).run P w = .ok (a == b) w := by
 simp only [FW, Hz, QJ hb, Hy, HD]
theorem Pl {t e : Nat} (hb : P.underlying t = some (.slice e)) (b : Option Addr) (n c m k : Nat) (d : Nat) : (FW (d + 1) t (.slice none n c) (.slice b m k)).run P w = .ok b.isNone w := by
 simp only [FW, Hz, QJ hb, Hy, HD]
theorem wh {t e : Nat} (hb : P.underlying t = some (.slice e)) (b : Addr) (n c m k : Nat) (d : Nat) : (FW (d + 1) t (.slice (some b) n c) (.slice none m k)).run P w = .ok false w := by
 simp only [FW, Hz, QJ hb, Hy, HD]
theorem kr {t e : Nat} (hb : P.underlying t = some (.pointer e)) (b : Option Addr) (d : Nat) : (FW (d + 1) t (.pointer none) (.pointer b)).run P w = .ok b.isNone w := by
 simp only [FW, Hz, QJ hb, Hy, HD]
theorem Q17 {t e : Nat} (hb : P.underlying t = some (.pointer e)) (b : Addr) (d : Nat) : (FW (d + 1) t (.pointer (some b)) (.pointer none)).run P w = .ok false w := by
 simp only [FW, Hz, QJ hb, Hy, HD]
theorem wi (hT : X5 P E) {t : Nat} {x y : V} {b : Bool} {u v : Value} (hu : VR ρ x u) (hv : VR ρ y v) (he : eqT E t x y = some b) :
  (Op.equal t u v).run P w = .ok b w /\ u.oneCell' = true /\ u ≠ .nilIface /\ (∀ k n, u ≠ .int k n) /\ (∀ k n, u ≠ .float k n) /\ (∀ k n m, u ≠ .complex k n m) /\ (∀ s, u ≠ .string s) := by
 unfold eqT at he;rw [Hv] at he;obtain ⟨ti, h1, h2⟩ := he;have hk := hT _ _ h1
 split at h2
 ·rename_i hd
  have hb := hk.bool hd;obtain rfl := hu.bool;obtain rfl := hv.bool
  cases h2
  refine ⟨?_, by simp [EP]⟩
  exact Q18 hb _ _ 9999
 ·rename_i hd
  have hb := hk.slice hd;obtain ⟨_, rfl⟩ := hu.snil;rename_i _ q _ _
  cases h2
  cases q with
  | none =>
   obtain ⟨_, rfl⟩ := hv.snil;refine ⟨?_, by simp [EP]⟩
   exact Pl hb none 0 0 0 0 9999
  | some p =>
   obtain ⟨i, o, c, _, rfl, _⟩ := hv.sl;refine ⟨?_, by simp [EP]⟩
   exact Pl hb _ 0 0 _ _ 9999
 ·rename_i hd
  have hb := hk.slice hd;obtain ⟨i, o, c, _, rfl, _⟩ := hu.sl;obtain ⟨_, rfl⟩ := hv.snil
  cases h2
  refine ⟨?_, by simp [EP]⟩
  exact wh hb _ _ _ 0 0 9999
 ·rename_i hd
  obtain ⟨e, hb⟩ := hk.ptr hd;obtain rfl := hu.nil;rename_i q
  cases h2
  cases q with
  | none =>
   obtain rfl := hv.nil;refine ⟨?_, by simp [EP]⟩
   exact kr hb none 9999
  | some p =>
   obtain ⟨i, _, rfl⟩ := hv.ptr;refine ⟨?_, by simp [EP]⟩
   exact kr hb _ 9999
 ·rename_i hd
  obtain ⟨e, hb⟩ := hk.ptr hd;obtain ⟨i, _, rfl⟩ := hu.ptr;obtain rfl := hv.nil
  cases h2
  refine ⟨?_, by simp [EP]⟩
  exact Q17 hb _ 9999
 · cases h2
def JI (ti : TI) (l : List Value) : Value := bif ti.agg then .agg l.toArray else l.headD undef
theorem Gk (hT : X5 P E) {t : Nat} {tf : TI} (ht : E.ty t = some tf) {l : List Value} {o : Nat} (h1 : tf.agg = false -> ((l.drop o).take tf.z).length = 1) :
  (part t l.toArray o).run P w = .ok (JI tf ((l.drop o).take tf.z)) w := by
 obtain ⟨i, d, z, e1, e2, e3, e4, e5, e6, e7⟩ := (hT _ _ ht).get;unfold JI
 cases hag : tf.agg with
 | true =>
  simp only [part, Hz, Ut e2 (e7.trans (by rw [hag])), Hy, if_true, (hT _ _ ht).size, HD, cond_true]
  congr 2
  rw [<- Array.toList_inj, Array.toList_extract, List.extract_eq_take_drop, Nat.add_sub_cancel_left]
 | false =>
  have hl := h1 hag
  match hc : (l.drop o).take tf.z, hl with
  | [v], _ =>
   have hv : l[o]? = some v := by
    have := congrArg (fun (x : List Value) => x[0]?) hc
    simp only [List.getElem?_cons_zero] at this;rw [List.getElem?_take] at this
    split at this
    · rw [List.getElem?_drop] at this; exact this
    · cases this
   simp only [part, Hz, Ut e2 (e7.trans (by rw [hag])), Hy, Bool.false_eq_true, if_false, List.getElem?_toArray, hv, HD, cond_false, List.headD]
theorem W8 {f : S -> S -> Option Bool} {xs ys : List S} {b : Bool} (h : eq1 f xs ys = some b) : ∃ x y, xs = [x] /\ ys = [y] /\ f x y = some b := by
 unfold eq1 at h
 split at h
 · exact ⟨_, _, rfl, rfl, h⟩
 · cases h
theorem Gq (hT : X5 P E) {d t : Nat} {xs ys : List S} {b : Bool} {ti : TI} (h : eqC E d t xs ys = some b) (ht : E.ty t = some ti) (ha : ti.agg = false) : xs.length = 1 /\ ys.length = 1 := by
 obtain ⟨i, d', z, e1, e2, e3, e4, e5, e6, e7⟩ := (hT _ _ ht).get
 cases d with
 | zero => simp [eqC] at h
 | succ d =>
  simp only [eqC, ht, HC] at h
  split at h
  ·rename_i fs hd
   rw [hd, ha] at e7
   cases d' <;> simp [KG] at e7
  · obtain ⟨x, y, rfl, rfl, _⟩ := W8 h; exact ⟨rfl, rfl⟩
  · obtain ⟨x, y, rfl, rfl, _⟩ := W8 h; exact ⟨rfl, rfl⟩
  · obtain ⟨x, y, rfl, rfl, _⟩ := W8 h; exact ⟨rfl, rfl⟩
  ·rename_i n e hd
   rw [hd, ha] at e7
   cases d' <;> simp [KG] at e7
  · cases h
theorem SRs.single {x : S} {l : List Value} (h : SRs ρ [x] l) : ∃ v, l = [v] /\ SR ρ x v := by
 cases l with
 | nil => exact h.elim
 | cons v l => cases l with
  | nil => exact ⟨v, rfl, h.1⟩
  | cons _ _ => exact h.2.elim
theorem Rt (hT : X5 P E) : ∀ (d : Nat) (t : Nat) (xs ys : List S) (b : Bool), eqC E d t xs ys = some b -> ∀ (l l' : List Value), SRs ρ xs l -> SRs ρ ys l' -> ∀ ti, E.ty t = some ti -> ∀ n, d <= n -> ∀ w,
  (FW n t (JI ti l) (JI ti l')).run P w = .ok b w
 | 0, t, xs, ys, b, h, _, _, _, _, _, _, _, _, _ => by simp [eqC] at h
 | d + 1, t, xs, ys, b, h, l, l', hl, hl', ti, ht, n, hn, w => by
  obtain ⟨m, rfl⟩ : ∃ m, n = m + 1 := ⟨n - 1, by omega⟩
  have hk := hT _ _ ht;obtain ⟨i, d', z, e1, e2, e3, e4, e5, e6, e7⟩ := hk.get;simp only [eqC, ht, HC] at h
  split at h
  ·rename_i fs hd
   obtain ⟨gs, g1, g2, g3⟩ := hk.field hd
   cases hc : ti.cmp with
   | false => rw [hc] at h; cases h
   | true =>
    rw [hc] at h;simp only [cond_true] at h;have hcm := hk.cmp;rw [hc, g1] at hcm;simp only [S9, EM, HE, EC] at hcm;obtain ⟨⟨q1, q2⟩, q3⟩ := hcm;have hag : ti.agg = true := by
     rw [hd] at e7
     cases d' <;> simp [KG] at e7
     exact e7.2
    have hfo : P.fieldsOf t = gs := by unfold Program.fieldsOf; rw [g1]
    unfold JI;rw [hag];simp only [cond_true];rw [run_equalIn_struct w m t l.toArray l'.toArray (by rw [hfo]; exact g1) q1, hfo]
    rw [g2] at h;clear g1 g2 g3 hfo e1 e2 e3 e4 e5 e6 e7 hd;generalize gs.toList = L at h q3
    induction L generalizing b with
    | nil => simp [Nf] at h; subst h; rfl
    | cons f L ih =>
     simp only [HS, Nf, Hv] at h;obtain ⟨tf, k1, b1, k2, c, k3, k4⟩ := h
     cases k4
     simp only [List.all_cons, HE] at q3;have hne : f.name ≠ "_" := by simpa using q3.1
     have hx := (hl.drop f.offset).take tf.z;have hy := (hl'.drop f.offset).take tf.z;have p1 := Gk (w := w) hT k1 (l := l) (o := f.offset) fun ha => by rw [hx.length]; exact (Gq hT k2 k1 ha).1
     have p2 := Gk (w := w) hT k1 (l := l') (o := f.offset) fun ha => by rw [hy.length]; exact (Gq hT k2 k1 ha).2
     have key := Rt hT d f.type _ _ b1 k2 _ _ hx hy tf k1 m (by omega) w
     simp only [Op.eqFields, if_pos hne, Hz, p1, Hy, p2, key]
     cases b1 with
     | false => simp
     | true => simpa using ih c k3 q3.2
  ·rename_i hd
   obtain ⟨x, y, rfl, rfl, h3⟩ := W8 h;obtain ⟨u, rfl, hu⟩ := hl.single;obtain ⟨v, rfl, hv⟩ := hl'.single;clear h;have h := h3;clear h3;unfold eqB at h
   split at h
   ·cases h; cases hu; cases hv
    have hb := hk.bool hd;have hag : ti.agg = false := by
     rw [hd] at e7
     cases d' <;> simp [KG] at e7
     exact e7
    unfold JI; rw [hag];exact run_equalIn_bool w m t _ _ hb
   · cases h
  ·rename_i k hd
   obtain ⟨x, y, rfl, rfl, h3⟩ := W8 h;obtain ⟨u, rfl, hu⟩ := hl.single;obtain ⟨v, rfl, hv⟩ := hl'.single;clear h;have h := h3;clear h3;unfold eqI at h
   split at h
   ·split at h
    ·rename_i hkk; subst hkk
     cases h; cases hu; cases hv
     have hb := hk.int hd;have hag : ti.agg = false := by
      rw [hd] at e7
      cases d' <;> simp [KG] at e7
      exact e7.2
     unfold JI; rw [hag];exact run_equalIn_int w m t _ _ _ _ hb
    · cases h
   · cases h
  ·rename_i hd
   obtain ⟨x, y, rfl, rfl, h3⟩ := W8 h;obtain ⟨u, rfl, hu⟩ := hl.single;obtain ⟨v, rfl, hv⟩ := hl'.single;clear h;have h := h3;clear h3;unfold eqS at h
   split at h
   ·cases h; cases hu; cases hv
    have hb := hk.str hd;have hag : ti.agg = false := by
     rw [hd] at e7
     cases d' <;> simp [KG] at e7
     exact e7
    unfold JI; rw [hag];exact run_equalIn_string w m t _ _ hb
   · cases h
  ·rename_i n e hd
   rw [Hv] at h;obtain ⟨te, k0, h⟩ := h;obtain ⟨i', d'', z', f1, f2, f3, _⟩ := (hT _ _ k0).get;have hag : ti.agg = true := by
    rw [hd] at e7
    cases d' <;> simp [KG] at e7
    exact e7.2
   have hu0 : P.underlying t = some (.array n e) := by
    rw [hd] at e7
    cases d' <;> simp [KG] at e7
    rw [e2, e7.1.1, e7.1.2]
   have hce : P.cellsOf e = te.z := by unfold Program.cellsOf; rw [f1]; exact f3
   unfold JI;rw [hag];simp only [cond_true];rw [run_equalIn_array w m _ _ hu0 f1, hce];generalize List.range n = L at h
   induction L generalizing b with
   | nil => simp [Nf] at h; subst h; rfl
   | cons j L ih =>
    simp only [HS, Nf, Hv] at h;obtain ⟨tf, k1, b1, k2, c, k3, k4⟩ := h;rw [k0] at k1; cases k1
    cases k4
    have hx := (hl.drop (j * te.z)).take te.z;have hy := (hl'.drop (j * te.z)).take te.z;have p1 := Gk (w := w) hT k0 (l := l) (o := j * te.z) fun ha => by rw [hx.length]; exact (Gq hT k2 k0 ha).1
    have p2 := Gk (w := w) hT k0 (l := l') (o := j * te.z) fun ha => by rw [hy.length]; exact (Gq hT k2 k0 ha).2
    have key := Rt hT d e _ _ b1 k2 _ _ hx hy te k0 m (by omega) w
    simp only [Op.eqItems, Hz, p1, Hy, p2, key]
    cases b1 with
    | false => simp
    | true => simpa using ih c k3
  · cases h
theorem zH (hT : X5 P E) {em : Bool} : ∀ (d : Nat) (t : Nat) (xs ys : List S) (b : Bool), eqC E d t xs ys = some b -> ∀ (l : List Value), SRs ρ xs l -> ∀ ti, E.ty t = some ti -> ∀ n, d <= n -> ∀ w,
  (Dg em n t (JI ti l)).run P w = .ok () w
 | 0, t, xs, ys, b, h, _, _, _, _, _, _, _ => by simp [eqC] at h
 | d + 1, t, xs, ys, b, h, l, hl, ti, ht, n, hn, w => by
  obtain ⟨m, rfl⟩ : ∃ m, n = m + 1 := ⟨n - 1, by omega⟩
  have hk := hT _ _ ht;obtain ⟨i, d', z, e1, e2, e3, e4, e5, e6, e7⟩ := hk.get;simp only [eqC, ht, HC] at h
  split at h
  ·rename_i fs hd
   obtain ⟨gs, g1, g2, g3⟩ := hk.field hd
   cases hc : ti.cmp with
   | false => rw [hc] at h; cases h
   | true =>
    rw [hc] at h;simp only [cond_true] at h;have hcm := hk.cmp;rw [hc, g1] at hcm;simp only [S9, EM, HE, EC] at hcm;obtain ⟨⟨q1, q2⟩, q3⟩ := hcm;have hag : ti.agg = true := by
     rw [hd] at e7
     cases d' <;> simp [KG] at e7
     exact e7.2
    unfold JI;rw [hag];simp only [cond_true, Dg, Hz, run_underlying g1, Hy];rw [g2] at h;rw [<- Array.forIn_toList];clear g1 g2 g3 e1 e2 e3 e4 e5 e6 e7 hd;generalize gs.toList = L at h q3
    induction L generalizing b with
    | nil => rfl
    | cons f L ih =>
     simp only [HS, Nf, Hv] at h;obtain ⟨tf, k1, b1, k2, c, k3, k4⟩ := h
     cases k4
     simp only [List.all_cons, HE] at q3;have hne : f.name ≠ "_" := by simpa using q3.1
     have hx := (hl.drop f.offset).take tf.z;have p1 := Gk (w := w) hT k1 (l := l) (o := f.offset) fun ha => by rw [hx.length]; exact (Gq hT k2 k1 ha).1
     have key := zH hT (em := em) d f.type _ _ b1 k2 _ hx tf k1 m (by omega) w
     simp only [List.forIn_cons, Hz, if_pos hne, p1, Hy, key, HD];exact ih c k3 q3.2
  ·rename_i hd
   have hb := hk.bool hd;simp only [Dg, Hz, run_underlying hb, Hy];rfl
  ·rename_i k hd
   have hb := hk.int hd;simp only [Dg, Hz, run_underlying hb, Hy];rfl
  ·rename_i hd
   have hb := hk.str hd;simp only [Dg, Hz, run_underlying hb, Hy];rfl
  ·rename_i n e hd
   rw [Hv] at h;obtain ⟨te, k0, h⟩ := h;have hag : ti.agg = true := by
    rw [hd] at e7
    cases d' <;> simp [KG] at e7
    exact e7.2
   have hu0 : P.underlying t = some (.array n e) := by
    rw [hd] at e7
    cases d' <;> simp [KG] at e7
    rw [e2, e7.1.1, e7.1.2]
   unfold JI;rw [hag];simp only [cond_true, Dg, Hz, run_underlying hu0, Hy];simp only [Std.Legacy.Range.forIn_eq_forIn_range', Std.Legacy.Range.size, Nat.sub_zero, Nat.add_one_sub_one, Nat.div_one];rw [List.range_eq_range'] at h;generalize List.range' 0 n = L at h
   induction L generalizing b with
   | nil => rfl
   | cons j L ih =>
    simp only [HS, Nf, Hv] at h;obtain ⟨tf, k1, b1, k2, c, k3, k4⟩ := h;rw [k0] at k1; cases k1
    cases k4
    have hx := (hl.drop (j * te.z)).take te.z;have p1 := Gk (w := w) hT k0 (l := l) (o := j * te.z) fun ha => by rw [hx.length]; exact (Gq hT k2 k0 ha).1
    have key := zH hT (em := em) d e _ _ b1 k2 _ hx te k0 m (by omega) w
    have hsz : (Go.sizeOf e).run P w = .ok te.z w := (hT _ _ k0).size;simp only [List.forIn_cons, Hz, hsz, p1, Hy, key, HD];exact ih c k3
  · cases h
theorem wj (hT : X5 P E) {t : Nat} {xs ys : List S} {b : Bool} (h : eqA E t xs ys = some b) {u v : Value} (hu : VR ρ (.agg xs) u) (hv : VR ρ (.agg ys) v) (op : BinOp) (X Y : Operand) (w : World) :
  (eqGuard op t X Y u v).run P w = .ok () w /\ ∃ a c, u = .agg a /\ v = .agg c /\ (FW 10000 t u v).run P w = .ok b w := by
 obtain ⟨a, rfl, ha⟩ := hu;obtain ⟨c, rfl, hc⟩ := hv;unfold eqA at h;rw [Hv] at h;obtain ⟨ti, ht, h⟩ := h;have hk := hT _ _ ht;obtain ⟨i, d', z, e1, e2, e3, e4, e5, e6, e7⟩ := hk.get
 split at h
 case h_2 => cases h
 rename_i fs hd;have h2 := h;simp only [eqC, ht, HC, hd] at h2
 cases hcm : ti.cmp with
 | false => rw [hcm] at h2; cases h2
 | true =>
  have hq := hk.cmp;rw [hcm] at hq;simp only [S9, EM, HE, EC] at hq;have hag : ti.agg = true := by
   rw [hd] at e7
   cases d' <;> simp [KG] at e7
   first | exact e7.2.symm | exact e7.2
  refine ⟨run_eqGuard_agg w op t X Y a c hq.1.2, a, c, rfl, rfl, ?_⟩;have := Rt (ρ := ρ) hT 8 t xs ys b h _ _ ha hc ti ht 10000 (by omega) w
  unfold JI at this;rw [hag] at this;simpa using this
theorem Q1i {op : BinOp} {k : IntKind} {a b : Int} {v : V} (hs1 : op ≠ .shl) (hs2 : op ≠ .shr) (hb : Ns op k a b = some v) (t : Nat) :
    ∃ x, VR ρ v x /\ ∀ w, (EA op t (.int k a) (.int k b)).run P w = .ok x w := by
  cases op <;> simp only [Ns, RA, HC, Du] at hb <;> first
    | (subst hb; exact ⟨_, fun _ => rfl, fun w => by simp [EA, Op.intArith, Op.intCmp, Op.intBits]⟩)
    | (split at hb
       · cases hb
       · rename_i h0; cases hb; exact ⟨_, fun _ => rfl, fun w => by simp [EA, Op.intDiv, h0]⟩)
    | (simp at hb; done)
    | (simp at hs1; done)
    | (simp at hs2; done)
theorem Q1j {op : BinOp} {a b : ByteArray} {v : V} (hb : uE op a b = some v) (t : Nat) :
    ∃ x, VR ρ v x /\ ∀ w, (EA op t (.string a) (.string b)).run P w = .ok x w := by
  cases op <;> simp only [uE, Du] at hb <;> first
    | (subst hb; exact ⟨_, fun _ => rfl, fun w => by simp [EA, Op.stringOp]⟩)
    | (split at hb
       · rename_i h0; cases hb
         refine ⟨_, fun _ => rfl, fun w => ?_⟩
         unfold lim at h0;have : ¬ (((a.size + b.size : Nat) : Int) > IntKind.i64.max) := by
           have : IntKind.i64.max = 9223372036854775807 := by decide
           omega
         simp only [EA, Op.stringOp, if_neg this]; rfl
       · cases hb)
    | (simp at hb; done)
theorem Q2C (hT : X5 P E) {op : BinOp} {t : Nat} {x y v : V} {u z : Value} (hu : VR ρ x u) (hv : VR ρ y z) (hb : bin E op t x y = some v) (X Y : Operand) :
  ∃ r, VR ρ v r /\ ∀ w, (do eqGuard op t X Y u z; EA op t u z : Sem Value).run P w = .ok r w := by
 unfold bin at hb
 split at hb
 ·obtain rfl := hu.int
  obtain rfl := hv.int
  split at hb
  · cases hb
  ·rename_i h0; cases hb
   refine ⟨_, fun _ => rfl, fun w => ?_⟩
   simp [eqGuard, EA, Op.shift, h0]
 ·obtain rfl := hu.int
  obtain rfl := hv.int
  split at hb
  · cases hb
  ·rename_i h0; cases hb
   refine ⟨_, fun _ => rfl, fun w => ?_⟩
   simp [eqGuard, EA, Op.shift, h0]
 ·rename_i hs1 hs2
  obtain rfl := hu.int;obtain rfl := hv.int
  split at hb
  ·rename_i hk; subst hk
   obtain ⟨r, h1, h2⟩ := Q1i (P := P) (ρ := ρ) (fun h => hs1 h) (fun h => hs2 h) hb t
   exact ⟨r, h1, fun w => by rw [Hz, M2 rfl (by simp), Hy, h2]⟩
  · cases hb
 ·obtain rfl := hu.str
  obtain rfl := hv.str;obtain ⟨r, h1, h2⟩ := Q1j (P := P) (ρ := ρ) hb t;exact ⟨r, h1, fun w => by rw [Hz, M2 rfl (by simp), Hy, h2]⟩
 ·rw [Hv] at hb
  obtain ⟨b, h1, h2⟩ := hb
  cases h2
  refine ⟨.bool b, fun _ => rfl, fun w => ?_⟩
  obtain ⟨g1, a, c, rfl, rfl, g2⟩ := wj hT h1 hu hv .eql X Y w;rw [Hz, g1, Hy, run_eql_struct, g2]; rfl
 ·rw [Hv] at hb
  obtain ⟨b, h1, h2⟩ := hb
  cases h2
  refine ⟨.bool (!b), fun _ => rfl, fun w => ?_⟩
  obtain ⟨g1, a, c, rfl, rfl, g2⟩ := wj hT h1 hu hv .neq X Y w;rw [Hz, g1, Hy, run_neq_struct, g2]; rfl
 ·rw [Hv] at hb
  obtain ⟨b, h1, h2⟩ := hb
  cases h2
  refine ⟨.bool b, fun _ => rfl, fun w => ?_⟩
  obtain ⟨g1, g2, g3, g4, g5, g6, g7⟩ := wi (w := w) hT hu hv h1;rw [Hz, M2 g2 g3, Hy];unfold EA
  split <;> simp_all
 ·rw [Hv] at hb
  obtain ⟨b, h1, h2⟩ := hb
  cases h2
  refine ⟨.bool (!b), fun _ => rfl, fun w => ?_⟩
  obtain ⟨g1, g2, g3, g4, g5, g6, g7⟩ := wi (w := w) hT hu hv h1;rw [Hz, M2 g2 g3, Hy];unfold EA
  split <;> simp_all
 · cases hb
end Vm
