/-
  A call; one operation; a region in the text's order.
-/
import Derived.Test.YtmenpfhpflnbnaaGreatVmH
set_option linter.unusedVariables false
set_option linter.unusedSimpArgs false
open Array renaming getD_eq_getD_getElem?->FX,getElem?_setIfInBounds_ne->Ov,toList_inj->FB,toList_map->EE
open Go.Deferred renaming ofValue->IW
open Nat renaming lt_of_lt_of_le->HJ
open Option renaming bind_eq_some_iff->Hv,isNone_iff_eq_none->Dz
open Go.Region renaming wanted->Fx
open Go.Result renaming andThen_ok->Hy
open Go.Sem renaming run_bind->Hz,run_pure->HD
namespace Vm
open Go
variable {W0 : St} {base : Nat} {ρ : Rho} {h : H} {w w' : World} {P : Program} {E : Env} {R : Type}
def zY (P : Program) (f : Nat) : Prop := ∃ fn, P.funcs[f]? = some fn /\ (fn.name == "runtime.NumGoroutine") = false /\ fn.body.isNone = false
def U5 (P : Program) (W0 : St) (base : Nat) (f : Nat) (args : List V) (h : H) (v : V) (h' : H) : Prop :=
 zY P f /\ ∀ (ρ : Rho) (w : World) (xs : List Value), Rel W0 base ρ h w -> VRs ρ args xs -> Calls P f xs.toArray w fun e w' => ∃ x, e = .returned x /\ zW W0 base ρ h h' w v x w'
def TM (P : Program) (W0 : St) (base : Nat) (cl : Nat -> List V -> H -> Option (V × H)) : Prop := ∀ f args h v h', cl f args h = some (v, h') -> U5 P W0 base f args h v h'
def VA (P : Program) (W0 : St) (base : Nat) (cl : Option Nat -> Nat -> List V -> H -> (V -> H -> Option R) -> Option R) : Prop := ∀ d f args h k r, cl d f args h k = some r -> ∃ v h', k v h' = some r /\ U5 P W0 base f args h v h'
def MlP (P : Program) (W0 : St) (base : Nat) (pm : Option Nat -> Bool) (cl : Option Nat -> Nat -> List V -> H -> (V -> H -> Option R) -> Option R) : Prop := ∀ d f args h k r, pm d = true -> cl d f args h k = some r -> ∃ v, k v h = some r /\ U5 P W0 base f args h v h /\ (∀ e cs, U5 P W0 base f args (h.new e cs) v (h.new e cs)) /\ (args.all PV = true -> ∀ g : H, U5 P W0 base f args g v g)
theorem VRs.append : ∀ {c : List V} {l : List Value} {c' : List V} {l' : List Value}, VRs ρ c l -> VRs ρ c' l' -> VRs ρ (c ++ c') (l ++ l')
 | [], [], _, _, _, h => h
 | _ :: _, _ :: _, _, _, ⟨h1, h3⟩, h => ⟨h1, h3.append h⟩
 | [], _ :: _, _, _, h, _ => h.elim
 | _ :: _, [], _, _, h, _ => h.elim
theorem CR.vals : ∀ {c : List (Nat × Nat)} {l : List Value}, CR ρ c l -> VRs ρ (c.map fun p => .s (.ptr (some p))) l
 | [], [], _ => trivial
 | (b, o) :: r, v :: l, ⟨⟨i, h1, h2⟩, h3⟩ => ⟨fun _ => ⟨i, h1, h2⟩, h3.vals⟩
 | [], _ :: _, h => h.elim
 | _ :: _, [], h => h.elim
theorem NJ {f : Nat} (hc : zY P f) (args : Array Value) : (callFunc f args).run P w = .ok (.enter f args) w := by
 obtain ⟨fn, h1, h2, h3⟩ := hc;simp only [callFunc, Hz, run_program, Hy, h1, h2, h3, Bool.false_eq_true, if_false, HD]
theorem Q07 {l : List Value} {x y : V} (h : VRs ρ [x, y] l) : ∃ u v, l = [u, v] /\ VR ρ x u /\ VR ρ y v := by
 match l, h with
 | [u, v], ⟨h1, h2, _⟩ => exact ⟨u, v, rfl, h1, h2⟩
 | [_], ⟨_, h⟩ => exact h.elim
 | [], h => exact h.elim
 | _ :: _ :: _ :: _, ⟨_, _, h⟩ => exact h.elim
theorem jj {l : List Value} {x : V} (h : VRs ρ [x] l) : ∃ u, l = [u] /\ VR ρ x u := by
 match l, h with
 | [u], ⟨h1, _⟩ => exact ⟨u, rfl, h1⟩
 | [], h => exact h.elim
 | _ :: _ :: _, ⟨_, h⟩ => exact h.elim
theorem Q1c (hT : X5 P E) {cl : Option Nat -> Nat -> List V -> H -> (V -> H -> Option R) -> Option R} (hcl : VA P W0 base cl) {o : Oper} {F : Fr} {c : Call} (hop : o.op = .call c) {k : V -> H -> Option R} {r : R} (hr : Y7 E cl o.dst F h c k = some r) :
  ∃ v h', k v h' = some r /\ EOK P W0 base o F h v h' := by
 unfold Y7 at hr
 split at hr
 ·rename_i x hcal
  simp only [Hv] at hr;obtain ⟨v, h1, as, h2, h3⟩ := hr
  split at h3
  ·rename_i f caps
   obtain ⟨v1, h1', h5, hca, hcc⟩ := hcl _ f _ h k r h3;refine ⟨v1, h1', h5, fun ρ a w rel hF next Q hn => ?_⟩
   obtain ⟨xs, q1, q2⟩ := QK hF h1 rfl;have hargs := YG hF h2;unfold Oper.wp;have hrun : (execOp a.eval o).run P w = .ok (.enter f ((c.args.toList.map a.eval) ++ xs.toList).toArray) w := by
    simp only [execOp, hop, resolve, hcal, q1, IW, Hz, HD, Hy, invoke, NJ hca]
    congr 2
    rw [<- FB];simp
   rw [hrun];refine (hcc ρ w _ rel (hargs.append q2.vals)).mono fun e w' he => ?_
   obtain ⟨x, rfl, ρ', g1, g2, g3, g4⟩ := he;exact hn x ρ' w' g1 g2 g3 g4
  · cases h3
 ·rename_i b hcal
  rw [Hv] at hr;obtain ⟨as, h2, h3⟩ := hr
  split at h3
  ·simp only [Hv] at h3
   obtain ⟨t, h4, ti, h5, h3⟩ := h3
   split at h3
   ·rename_i kt et hd
    rw [Hv] at h3;obtain ⟨q, h6, h7⟩ := h3;refine ⟨_, _, h7, U4 fun ρ a w rel hF => ?_⟩
    obtain ⟨u, q1, q2⟩ := jj (YG hF h2);obtain ⟨i, ents, cl, a1, a2, rfl, a3, a4⟩ := T7 rel h6 q2;have hu : P.underlying t = some (.map kt et) := by
     obtain ⟨i, d, z, e1, e2, e3, e4, e5, e6, e7⟩ := (hT _ _ h5).get;rw [hd] at e7
     cases d <;> simp [KG] at e7
     rw [e2, e7.1.1, e7.1.2]
    have hgo : (getObj i.blk).run P w = .ok (.map ents cl) w := by simp [getObj, Sem.run, a3]
    refine ⟨.int .i64 ents.size, ρ, w, ?_, Le.refl _, fun _ => by rw [<- a4.length]; simp [SR], rel, Frm.refl _ _ _⟩
    have : c.args.map a.eval = #[.map (some i.blk)] := by rw [<- FB, EE, q1]
    simp only [execOp, hop, resolve, hcal, Hz, HD, Hy, invoke, builtin, this, Builtin.len_, h4, List.getElem?_toArray, List.getElem?_cons_zero, QJ hu, hgo];rfl
   ·rw [Hv] at h3
    obtain ⟨v, h6, h7⟩ := h3;refine ⟨_, _, h7, QOK.eok fun ρ a w rel hF => ?_⟩
    obtain ⟨u, q1, q2⟩ := jj (YG hF h2);obtain ⟨q, g1, g2⟩ := xD (ty := o.type) hT h4 h5 q2 h6;refine ⟨q, g1, fun w' _ => ?_⟩
    have : c.args.map a.eval = #[u] := by rw [<- FB, EE, q1]
    simp only [execOp, hop, resolve, hcal, Hz, HD, Hy, invoke, builtin, this, g2]
  ·rename_i x y
   simp only [Hv] at h3;obtain ⟨t, h4, ti, h5, t1, h6, ti1, h7, h8⟩ := h3;have key : ∀ e te p, ti.d = .sl e -> E.ty e = some te -> ((∃ e1, ti1.d = .sl e1) \/ ti1.d = .str) -> Zm te.z h x y = some p -> k p.1 p.2 = some r -> ∃ v h', k v h' = some r /\ EOK P W0 base o F h v h' := by
    intro e te p hd he hd1 hap hk;refine ⟨_, _, hk, U4 fun ρ a w rel hF => ?_⟩
    obtain ⟨u, z, q1, q2, q3⟩ := Q07 (YG hF h2);obtain ⟨q, w', g1, ρ', g2⟩ := Q0p (ty := o.type) hT h4 h6 h5 h7 hd hd1 he rel q2 q3 hap;refine ⟨q, ρ', w', ?_, g2⟩;have : c.args.map a.eval = #[u, z] := by rw [<- FB, EE, q1]
    simp only [execOp, hop, resolve, hcal, Hz, HD, Hy, invoke, builtin, this, g1]
   split at h8
   ·rename_i e e1 hd hd1
    simp only [Hv] at h8;obtain ⟨te, h9, p, h10, h11⟩ := h8;exact key e te p hd h9 (.inl ⟨e1, hd1⟩) h10 h11
   ·rename_i e hd hd1
    simp only [Hv] at h8;obtain ⟨te, h9, p, h10, h11⟩ := h8;exact key e te p hd h9 (.inr hd1) h10 h11
   · cases h8
  ·rename_i x y
   simp only [Hv] at h3;obtain ⟨t, h4, ti, h5, h8⟩ := h3
   split at h8
   ·rename_i e hd
    simp only [Hv] at h8;obtain ⟨te, h9, p, h10, h11⟩ := h8;refine ⟨_, _, h11, U4 fun ρ a w rel hF => ?_⟩
    obtain ⟨u, z, q1, q2, q3⟩ := Q07 (YG hF h2);obtain ⟨q, w', g1, ρ', g2⟩ := Q0o (ty := o.type) hT h4 h5 hd h9 rel q2 q3 h10;refine ⟨q, ρ', w', ?_, g2⟩;have : c.args.map a.eval = #[u, z] := by rw [<- FB, EE, q1]
    simp only [execOp, hop, resolve, hcal, Hz, HD, Hy, invoke, builtin, this, g1]
   · cases h8
  · cases h3
 · cases hr
theorem Vu {o : Oper} {F : Fr} {c : Call} (hop : o.op = .call c) {x : Operand} (hcal : c.callee = .value x) {f : Nat} {caps : List (Nat × Nat)} (h1 : opd F x = some (.s (.fn f caps))) {as : List V} (h2 : WQ F c.args.toList = some as) {v : V} {h' : H} (hc : U5 P W0 base f (as ++ caps.map fun p => .s (.ptr (some p))) h v h') : EOK P W0 base o F h v h' := by
 obtain ⟨hca, hcc⟩ := hc;intro ρ a w rel hF next Q hn;obtain ⟨xs, q1, q2⟩ := QK hF h1 rfl;have hargs := YG hF h2;unfold Oper.wp;have hrun : (execOp a.eval o).run P w = .ok (.enter f ((c.args.toList.map a.eval) ++ xs.toList).toArray) w := by
  simp only [execOp, hop, resolve, hcal, q1, IW, Hz, HD, Hy, invoke, NJ hca]
  congr 2
  rw [<- FB];simp
 rw [hrun];refine (hcc ρ w _ rel (hargs.append q2.vals)).mono fun e w' he => ?_
 obtain ⟨x, rfl, ρ', g1, g2, g3, g4⟩ := he;exact hn x ρ' w' g1 g2 g3 g4
def Nm (pm : Option Nat -> Bool) (o : Oper) : Bool := o.guard.isNone && pm o.dst && match o.op with
 | .call c => (match c.callee with | .value _ => true | _ => false)
 | _ => false
theorem ug {pm : Option Nat -> Bool} {cl : Option Nat -> Nat -> List V -> H -> (V -> H -> Option R) -> Option R} (hpl : MlP P W0 base pm cl) {all : Array Oper} {o : Oper} (hp : Nm pm o = true) {F : Fr} {k : Fr -> H -> Option R} {r : R} (hr : gOp E cl all F h o k = some r) :
  ∃ v, k (KB F o.dst v) h = some r /\ o.guard = none /\ EOK P W0 base o F h v h /\ ∀ e cs, EOK P W0 base o F (h.new e cs) v (h.new e cs) := by
 unfold Nm at hp;simp only [Bool.and_eq_true, Dz] at hp;obtain ⟨⟨hg, hpm⟩, hp⟩ := hp;unfold gOp at hr;rw [hg] at hr;simp only [] at hr
 split at hp
 ·rename_i c hop
  split at hp
  ·rename_i x hcal
   unfold J9 at hr;rw [hop] at hr;simp only [] at hr;unfold Y7 at hr;rw [hcal] at hr;simp only [Hv] at hr;obtain ⟨v, h1, as, h2, h3⟩ := hr
   split at h3
   ·rename_i f caps
    obtain ⟨v1, h5, c1, c2, _⟩ := hpl _ f _ h _ r hpm h3;exact ⟨v1, XM h5, hg, Vu hop hcal h1 h2 c1, fun e cs => Vu hop hcal h1 h2 (c2 e cs)⟩
   · cases h3
  · cases hp
 · cases hp
theorem P6 {F F2 : Fr} {x : Operand} (ha : ∀ t ∈ NE x, Ze F2 t = Ze F t) : opd F2 x = opd F x := by
 cases x with
 | tmp t => exact ha t (by simp [NE])
 | const c => rfl
 | func f => rfl
 | global g => rfl
theorem Rc {F F2 : Fr} : ∀ {l : List Operand}, (∀ t ∈ (l.map NE).flatten, Ze F2 t = Ze F t) -> WQ F2 l = WQ F l
 | [], _ => rfl
 | x :: l, ha => by
  simp only [List.map_cons, List.flatten_cons, List.mem_append] at ha;simp only [WQ];rw [P6 fun t ht => ha t (.inl ht), Rc fun t ht => ha t (.inr ht)]
theorem yP {pm : Option Nat -> Bool} {cl : Option Nat -> Nat -> List V -> H -> (V -> H -> Option R) -> Option R} (hpl : MlP P W0 base pm cl) {all : Array Oper} {o : Oper} (hp : Nm pm o = true) {F : Fr} (hm : Bo F o = true) {k : Fr -> H -> Option R} {r : R} (hr : gOp E cl all F h o k = some r) :
  ∃ v, k (KB F o.dst v) h = some r /\ o.guard = none /\ ∀ (F2 : Fr) (g : H), (∀ t ∈ zU o, Ze F2 t = Ze F t) -> EOK P W0 base o F2 g v g := by
 unfold Nm at hp;simp only [Bool.and_eq_true, Dz] at hp;obtain ⟨⟨hg, hpm⟩, hp⟩ := hp;unfold gOp at hr;rw [hg] at hr;simp only [] at hr
 split at hp
 ·rename_i c hop
  split at hp
  ·rename_i x hcal
   unfold J9 at hr;rw [hop] at hr;simp only [] at hr;unfold Y7 at hr;rw [hcal] at hr;simp only [Hv] at hr;obtain ⟨v, h1, as, h2, h3⟩ := hr;unfold Bo at hm;rw [hop] at hm;simp only [hcal, h1, h2] at hm
   split at h3
   ·rename_i f caps
    cases caps with
    | cons p q => simp at hm
    | nil =>
    simp only [] at hm;obtain ⟨v1, h5, c1, c2, c3⟩ := hpl _ f _ h _ r hpm h3;refine ⟨v1, XM h5, hg, fun F2 g ha => ?_⟩
    unfold zU at ha;rw [hop] at ha;simp only [hcal, List.mem_append] at ha;refine Vu hop hcal ((P6 fun t ht => ha t (.inl ht)).trans h1) ((Rc fun t ht => ha t (.inr ht)).trans h2) (c3 ?_ g)
    simpa using hm
   · cases h3
  · cases hp
 · cases hp
theorem qZ (hT : X5 P E) {cl : Option Nat -> Nat -> List V -> H -> (V -> H -> Option R) -> Option R} (hcl : VA P W0 base cl) {o : Oper} {F : Fr} {k : V -> H -> Option R} {r : R} (hr : J9 E cl F h o k = some r) :
  ∃ v h', k v h' = some r /\ EOK P W0 base o F h v h' := by
 unfold J9 at hr
 split at hr
 ·rename_i c hop
  exact Q1c hT hcl hop hr
 ·rename_i op hop
  by_cases hq : Jk E o.op = true
  ·obtain ⟨v, g1, g2⟩ := MW (W0 := W0) (base := base) (P := P) hT hr hq
   exact ⟨v, h, g1, g2.q.eok⟩
  · cases hc : o.op <;> rw [hc] at hq <;> first
    | (simp [Jk] at hq; done)
    | (exact absurd hc (hop _))
    | (rw [hc] at hr; cases hr; done)
    | (exact Q1b hT hc hr)
    | (refine xQ hT hr ?_; rw [hc]; done)
    | (refine Q1M hT hr ?_; rw [hc]; done)
theorem Uw {F : Fr} {d e : Nat} {v : V} : Ze (KB F (some d) v) e = if d = e then some v else Ze F e := by
 simp only [KB, Ze]
 by_cases h : d = e
 · simp [h]
 · rw [if_neg h, show (d == e) = false from by simpa using h]; rfl
theorem FR.put {F : Fr} {a : Act} {o : Oper} {v : V} {x : Value} (hF : FR ρ F a.tmps) (hv : VR ρ v x) (hd : ∀ d, o.dst = some d -> d < a.tmps.size) : FR ρ (KB F o.dst v) (a.put o.dst x).tmps := by
 cases hdst : o.dst with
 | none => exact hF
 | some d =>
  have hlt := hd d hdst;intro e u he;rw [Uw] at he;simp only [Act.put]
  by_cases hde : d = e
  ·subst hde
   rw [if_pos rfl] at he; cases he;simp only [FX, Array.getElem?_setIfInBounds, if_true, hlt];exact hv
  ·rw [if_neg hde] at he
   have := hF e u he;simp only [FX] at this ⊢;rw [Ov hde];exact this
theorem Kl {F : Fr} {d : Option Nat} {e : Nat} {v : V} (h : d ≠ some e) : Ze (KB F d v) e = Ze F e := by
 cases d with
 | none => rfl
 | some d => rw [Uw, if_neg (fun hh => h (by rw [hh]))]
theorem WR {F : Fr} {t e : Nat} {v u : V} (he : Ze ((t, v) :: F) e = some u) (hv : scaV v = true) : Ze F e = some u \/ scaV u = true := by
 simp only [Ze] at he
 cases h : t == e <;> rw [h] at he
 · exact .inl he
 · cases he; exact .inr hv
theorem put_ne {a : Act} {d : Option Tmp} {v : Value} {e : Nat} (h : d ≠ some e) : (a.put d v).tmps.getD e undef = a.tmps.getD e undef := by
 cases d with
 | none => rfl
 | some d =>
  simp only [Act.put, FX];rw [Ov (fun hh => h (by rw [hh]))]
theorem FR.cons {F : Fr} {tmps : Array Value} {t : Nat} {v : V} (hF : FR ρ F tmps) (hv : VR ρ v (tmps.getD t undef)) : FR ρ ((t, v) :: F) tmps := by
 intro e u he;simp only [Ze] at he
 by_cases hte : t = e
 · subst hte; simp at he; subst he; exact hv
 ·have : (t == e) = false := by simpa using hte
  rw [this] at he;exact hF e u he
def GOK (P : Program) (W0 : St) (base : Nat) (nt : Nat) (all : Array Oper) (o : Oper) (F : Fr) (h : H) (F' : Fr) (h' : H) : Prop :=
 ∀ (ρ : Rho) (a : Act) (w : World), Rel W0 base ρ h w -> FR ρ F a.tmps -> nt <= a.tmps.size -> a.defers = [] -> ∀ (next : Act -> World -> Prop) (Q : Exit -> Act -> World -> Prop),
  (∀ (a' : Act) (ρ' : Rho) (w' : World), Le ρ ρ' -> FR ρ' F' a'.tmps -> nt <= a'.tmps.size -> a'.defers = [] -> Rel W0 base ρ' h' w' -> Frm ρ h h' w w' -> (∀ e, o.dst ≠ some e -> a'.tmps.getD e undef = a.tmps.getD e undef) -> next a' w') ->
  if Fx o (yielded all a.tmps) then o.wp P a w next Q else next (a.put o.dst undef) w
theorem XN (a : Act) (d : Option Tmp) (v : Value) : (a.put d v).tmps.size = a.tmps.size := by cases d <;> simp [Act.put]
theorem X8 (a : Act) (d : Option Tmp) (v : Value) : (a.put d v).defers = a.defers := by cases d <;> rfl
theorem VD {all : Array Oper} {tmps : Array Value} {j t : Nat} {b : Bool} (hd : Ub all j = some t) (ht : tmps.getD t undef = .bool b) : yielded all tmps j = some b := by
 unfold Ub at hd;unfold yielded;simp only [hd];have : tmps[t]? = some (.bool b) := by
  rw [FX] at ht
  cases h : tmps[t]? with
  | none => rw [h] at ht; simp [undef] at ht
  | some x => rw [h] at ht; simpa using ht
 simp [this]
theorem VC {all : Array Oper} {tmps : Array Value} {j t : Nat} (hd : Ub all j = some t) (ht : tmps.getD t undef = undef) : yielded all tmps j = none := by
 unfold Ub at hd;unfold yielded;simp only [hd];rw [FX] at ht
 cases h : tmps[t]? with
 | none => simp [h]
 | some x => rw [h] at ht; simp at ht; subst ht; simp [h, undef]
theorem zm (hT : X5 P E) {cl : Option Nat -> Nat -> List V -> H -> (V -> H -> Option R) -> Option R} (hcl : VA P W0 base cl) {nt : Nat} {all : Array Oper} {o : Oper} (hnt : ∀ d, o.dst = some d -> d < nt) {F : Fr} {k : Fr -> H -> Option R} {r : R} (hr : gOp E cl all F h o k = some r) :
  ∃ F' h', k F' h' = some r /\ GOK P W0 base nt all o F h F' h' /\ ∀ e u, Ze F' e = some u -> o.dst ≠ some e -> Ze F e = some u \/ scaV u = true := by
 unfold gOp at hr
 split at hr
 ·rename_i hg
  obtain ⟨v, h', g1, g2⟩ := qZ (W0 := W0) (base := base) (P := P) hT hcl hr;refine ⟨_, h', XM g1, fun ρ a w rel hF hs hd next Q hn => ?_, fun e u he hne => .inl (by rw [Kl hne] at he; exact he)⟩
  rw [if_pos (by simp [Fx, hg])]
  exact g2 ρ a w rel hF next Q fun x ρ' w' q1 q2 q3 q4 => hn _ ρ' w' q1 ((hF.mono q1).put q2 fun d hdd => HJ (hnt d hdd) hs) (by rw [XN]; exact hs) (by rw [X8]; exact hd) q3 q4 fun e he => put_ne he
 ·rename_i j want hg
  simp only [Hv] at hr;obtain ⟨t, h1, v, h2, h3⟩ := hr
  rcases Rf h3 with ⟨b, rfl, h4⟩ | ⟨rfl, h4⟩
  case inr =>
   replace h4 : k (KB ((t, .tup []) :: F) o.dst (.tup [])) h = some r := by cases hf : free all j <;> rw [hf] at h4 <;> first | exact h4 | cases h4
   refine ⟨_, h, h4, fun ρ a w rel hF hs hd next Q hn => ?_, fun e u he hne => WR (by rw [Kl hne] at he; exact he) rfl⟩
   rw [if_neg (by simp [Fx, hg, VC h1 (hF t _ h2).unit])]
   exact hn _ ρ w (Le.refl _) ((hF.cons (hF t _ h2)).put (PN ρ) fun d hdd => HJ (hnt d hdd) hs) (by rw [XN]; exact hs) (by rw [X8]; exact hd) rel (Frm.refl _ _ _) fun e he => put_ne he
  have hy : ∀ {ρ : Rho} {a : Act}, FR ρ F a.tmps -> yielded all a.tmps j = some b := fun hF => VD h1 (hF t _ h2).bool
  have hFb : ∀ {ρ : Rho} {a : Act}, FR ρ F a.tmps -> FR ρ ((t, .s (.bool b)) :: F) a.tmps := fun hF => hF.cons (hF t _ h2)
  by_cases hw : want = b
  ·have h5 : J9 E cl ((t, .s (.bool b)) :: F) h o (fun v h => tyV (qd E o) v fun v => k (KB ((t, .s (.bool b)) :: F) o.dst v) h) = some r := by
    subst hw; cases want <;> exact h4
   obtain ⟨v, h', g1, g2⟩ := qZ (W0 := W0) (base := base) (P := P) hT hcl h5;refine ⟨_, h', XM g1, fun ρ a w rel hF hs hd next Q hn => ?_, fun e u he hne => WR (by rw [Kl hne] at he; exact he) rfl⟩
   rw [if_pos (by simp [Fx, hg, hy hF, hw])]
   exact g2 ρ a w rel (hFb hF) next Q fun x ρ' w' q1 q2 q3 q4 => hn _ ρ' w' q1 (((hFb hF).mono q1).put q2 fun d hdd => HJ (hnt d hdd) hs) (by rw [XN]; exact hs) (by rw [X8]; exact hd) q3 q4 fun e he => put_ne he
  ·have h5 : k (KB ((t, .s (.bool b)) :: F) o.dst (.tup [])) h = some r := by
    cases b <;> cases want <;> first | exact h4 | (simp at hw)
   refine ⟨_, h, h5, fun ρ a w rel hF hs hd next Q hn => ?_, fun e u he hne => WR (by rw [Kl hne] at he; exact he) rfl⟩
   rw [if_neg (by simp [Fx, hg, hy hF]; exact fun h => hw h.symm)]
   exact hn _ ρ w (Le.refl _) ((hFb hF).put (PN ρ) fun d hdd => HJ (hnt d hdd) hs) (by rw [XN]; exact hs) (by rw [X8]; exact hd) rel (Frm.refl _ _ _) fun e he => put_ne he
def Wf (W0 : St) (base : Nat) (nt : Nat) (ρ : Rho) (h : H) (w : World) (F' : Fr) (h' : H) (a' : Act) (w' : World) : Prop :=
 ∃ ρ', Le ρ ρ' /\ FR ρ' F' a'.tmps /\ nt <= a'.tmps.size /\ a'.defers = [] /\ Rel W0 base ρ' h' w' /\ Frm ρ h h' w w'
theorem yK (hT : X5 P E) {cl : Option Nat -> Nat -> List V -> H -> (V -> H -> Option R) -> Option R} (hcl : VA P W0 base cl) {nt : Nat} {all : Array Oper} : ∀ (l : List Oper), (∀ o ∈ l, ∀ d, o.dst = some d -> d < nt) -> ∀ {F : Fr} {h : H} {k : Fr -> H -> Option R} {r : R},
  U0 E cl all l F h k = some r -> ∃ F' h', k F' h' = some r /\ ∀ (ρ : Rho) (a : Act) (w : World), Rel W0 base ρ h w -> FR ρ F a.tmps -> nt <= a.tmps.size -> a.defers = [] -> ∀ (Q : Exit -> Act -> World -> Prop),
   (∀ a' w', Wf W0 base nt ρ h w F' h' a' w' -> Q .normal a' w') -> wpList P all Q l a w
 | [], _, F, h, k, r, hr => ⟨F, h, hr, fun ρ a w rel hF hs hd Q hn => wpList_nil (hn a w ⟨ρ, Le.refl _, hF, hs, hd, rel, Frm.refl _ _ _⟩)⟩
 | o :: l, hl, F, h, k, r, hr => by
  simp only [U0] at hr;obtain ⟨F1, h1, g1, g2, _⟩ := zm (W0 := W0) (base := base) (P := P) hT hcl (hl o (by simp)) hr
  obtain ⟨F2, h2, k1, k2⟩ := yK hT hcl l (fun o ho => hl o (by simp [ho])) g1
  refine ⟨F2, h2, k1, fun ρ a w rel hF hs hd Q hn => wpList_step fun K hK => ?_⟩
  refine g2 ρ a w rel hF hs hd K Q fun a' ρ' w' q1 q2 q3 q4 q5 q6 _ => hK _ _ (k2 ρ' a' w' q5 q2 q3 q4 Q fun a2 w2 ⟨ρ2, p1, p2, p3, p4, p5, p6⟩ => hn a2 w2 ⟨ρ2, q1.trans p1, p2, p3, p4, p5, Frm.trans q1 rel.len q6 p6⟩)
end Vm
