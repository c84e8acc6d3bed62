/-
  A call; one operation; a region in the text's order.
-/
import Derived.Test.YtpdoloemacmbaaaVmH
set_option linter.unusedVariables false
set_option linter.unusedSimpArgs false
namespace Vm
open Go
variable {W0 : St} {base : Nat} {ρ : Rho} {h : H} {w w' : World} {P : Program} {E : Env} {R : Type}

def Callable (P : Program) (f : Nat) : Prop := ∃ fn, P.funcs[f]? = some fn ∧ (fn.name == "runtime.NumGoroutine") = false ∧ fn.body.isNone = false
/-- a call of the small machine stands for one of the model's -/
def CallOK (P : Program) (W0 : St) (base : Nat) (f : Nat) (args : List V) (h : H) (v : V) (h' : H) : Prop :=
  Callable P f ∧ ∀ (ρ : Rho) (w : World) (xs : List Value), Rel W0 base ρ h w → VRs ρ args xs → Calls P f xs.toArray w fun e w' => ∃ x, e = .returned x ∧ Came W0 base ρ h h' w v x w'
def ClOK (P : Program) (W0 : St) (base : Nat) (cl : Nat → List V → H → Option (V × H)) : Prop := ∀ f args h v h', cl f args h = some (v, h') → CallOK P W0 base f args h v h'
def MlOK (P : Program) (W0 : St) (base : Nat) (cl : Option Nat → Nat → List V → H → (V → H → Option R) → Option R) : Prop := ∀ d f args h k r, cl d f args h k = some r → ∃ v h', k v h' = some r ∧ CallOK P W0 base f args h v h'

/-- of some slots the calls leave the heap as it is, and come to the same beside a new block -/
def MlP (P : Program) (W0 : St) (base : Nat) (pm : Option Nat → Bool) (cl : Option Nat → Nat → List V → H → (V → H → Option R) → Option R) : Prop := ∀ d f args h k r, pm d = true → cl d f args h k = some r → ∃ v, k v h = some r ∧ CallOK P W0 base f args h v h ∧ (∀ e cs, CallOK P W0 base f args (h.new e cs) v (h.new e cs)) ∧ (args.all memfV = true → ∀ g : H, CallOK P W0 base f args g v g)

theorem VRs.append : ∀ {c : List V} {l : List Value} {c' : List V} {l' : List Value}, VRs ρ c l → VRs ρ c' l' → VRs ρ (c ++ c') (l ++ l')
  | [], [], _, _, _, h => h
  | _ :: _, _ :: _, _, _, ⟨h1, h3⟩, h => ⟨h1, h3.append h⟩
  | [], _ :: _, _, _, h, _ => h.elim
  | _ :: _, [], _, _, h, _ => h.elim
theorem CR.vals : ∀ {c : List (Nat × Nat)} {l : List Value}, CR ρ c l → VRs ρ (c.map fun p => .s (.ptr (some p))) l
  | [], [], _ => trivial
  | (b, o) :: r, v :: l, ⟨⟨i, h1, h2⟩, h3⟩ => ⟨fun _ => ⟨i, h1, h2⟩, h3.vals⟩
  | [], _ :: _, h => h.elim
  | _ :: _, [], h => h.elim
theorem run_callFunc {f : Nat} (hc : Callable P f) (args : Array Value) : (callFunc f args).run P w = .ok (.enter f args) w := by
  obtain ⟨fn, h1, h2, h3⟩ := hc
  simp only [callFunc, Sem.run_bind, run_program, Result.andThen_ok, h1, h2, h3, Bool.false_eq_true, if_false, Sem.run_pure]
theorem list2 {l : List Value} {x y : V} (h : VRs ρ [x, y] l) : ∃ u v, l = [u, v] ∧ VR ρ x u ∧ VR ρ y v := by
  match l, h with
  | [u, v], ⟨h1, h2, _⟩ => exact ⟨u, v, rfl, h1, h2⟩
  | [_], ⟨_, h⟩ => exact h.elim
  | [], h => exact h.elim
  | _ :: _ :: _ :: _, ⟨_, _, h⟩ => exact h.elim
theorem list1 {l : List Value} {x : V} (h : VRs ρ [x] l) : ∃ u, l = [u] ∧ VR ρ x u := by
  match l, h with
  | [u], ⟨h1, _⟩ => exact ⟨u, rfl, h1⟩
  | [], h => exact h.elim
  | _ :: _ :: _, ⟨_, h⟩ => exact h.elim

theorem call_ok (hT : TysOk P E) {cl : Option Nat → Nat → List V → H → (V → H → Option R) → Option R} (hcl : MlOK P W0 base cl) {o : Oper} {F : Fr} {c : Call} (hop : o.op = .call c) {k : V → H → Option R} {r : R} (hr : callOp E cl o.dst F h c k = some r) :
    ∃ v h', k v h' = some r ∧ EOK P W0 base o F h v h' := by
  unfold callOp at hr
  split at hr
  · rename_i x hcal
    simp only [Option.bind_eq_some_iff] at hr
    obtain ⟨v, h1, as, h2, h3⟩ := hr
    split at h3
    · rename_i f caps
      obtain ⟨v1, h1', h5, hca, hcc⟩ := hcl _ f _ h k r h3
      refine ⟨v1, h1', h5, fun ρ a w rel hF next Q hn => ?_⟩
      obtain ⟨xs, q1, q2⟩ := opd_ok hF h1 rfl
      have hargs := opds_ok hF h2
      unfold Oper.wp
      have hrun : (execOp a.eval o).run P w = .ok (.enter f ((c.args.toList.map a.eval) ++ xs.toList).toArray) w := by
        simp only [execOp, hop, resolve, hcal, q1, Deferred.ofValue, Sem.run_bind, Sem.run_pure, Result.andThen_ok, invoke, run_callFunc hca]
        congr 2
        rw [← Array.toList_inj]
        simp
      rw [hrun]
      refine (hcc ρ w _ rel (hargs.append q2.vals)).mono fun e w' he => ?_
      obtain ⟨x, rfl, ρ', g1, g2, g3, g4⟩ := he
      exact hn x ρ' w' g1 g2 g3 g4
    · cases h3
  · rename_i b hcal
    rw [Option.bind_eq_some_iff] at hr
    obtain ⟨as, h2, h3⟩ := hr
    split at h3
    · simp only [Option.bind_eq_some_iff] at h3
      obtain ⟨t, h4, ti, h5, h3⟩ := h3
      split at h3
      · rename_i kt et hd
        rw [Option.bind_eq_some_iff] at h3
        obtain ⟨q, h6, h7⟩ := h3
        refine ⟨_, _, h7, eok_of fun ρ a w rel hF => ?_⟩
        obtain ⟨u, q1, q2⟩ := list1 (opds_ok hF h2)
        obtain ⟨i, ents, cl, a1, a2, rfl, a3, a4⟩ := mpOf_ok rel h6 q2
        have hu : P.underlying t = some (.map kt et) := by
          obtain ⟨i, d, z, e1, e2, e3, e4, e5, e6, e7⟩ := (hT _ _ h5).get
          rw [hd] at e7
          cases d <;> simp [tdOf] at e7
          rw [e2, e7.1.1, e7.1.2]
        have hgo : (getObj i.blk).run P w = .ok (.map ents cl) w := by simp [getObj, Sem.run, a3]
        refine ⟨.int .i64 ents.size, ρ, w, ?_, Le.refl _, fun _ => by rw [← a4.length]; simp [SR], rel, Frm.refl _ _ _⟩
        have : c.args.map a.eval = #[.map (some i.blk)] := by rw [← Array.toList_inj, Array.toList_map, q1]
        simp only [execOp, hop, resolve, hcal, Sem.run_bind, Sem.run_pure, Result.andThen_ok, invoke, builtin, this, Builtin.len_, h4, List.getElem?_toArray, List.getElem?_cons_zero, run_und hu, hgo]
        rfl
      · rw [Option.bind_eq_some_iff] at h3
        obtain ⟨v, h6, h7⟩ := h3
        refine ⟨_, _, h7, QOK.eok fun ρ a w rel hF => ?_⟩
        obtain ⟨u, q1, q2⟩ := list1 (opds_ok hF h2)
        obtain ⟨q, g1, g2⟩ := run_len (ty := o.type) hT h4 h5 q2 h6
        refine ⟨q, g1, fun w' _ => ?_⟩
        have : c.args.map a.eval = #[u] := by rw [← Array.toList_inj, Array.toList_map, q1]
        simp only [execOp, hop, resolve, hcal, Sem.run_bind, Sem.run_pure, Result.andThen_ok, invoke, builtin, this, g2]
    · rename_i x y
      simp only [Option.bind_eq_some_iff] at h3
      obtain ⟨t, h4, ti, h5, t1, h6, ti1, h7, h8⟩ := h3
      have key : ∀ e te p, ti.d = .sl e → E.ty e = some te → ((∃ e1, ti1.d = .sl e1) ∨ ti1.d = .str) → appS te.z h x y = some p → k p.1 p.2 = some r → ∃ v h', k v h' = some r ∧ EOK P W0 base o F h v h' := by
        intro e te p hd he hd1 hap hk
        refine ⟨_, _, hk, eok_of fun ρ a w rel hF => ?_⟩
        obtain ⟨u, z, q1, q2, q3⟩ := list2 (opds_ok hF h2)
        obtain ⟨q, w', g1, ρ', g2⟩ := run_app (ty := o.type) hT h4 h6 h5 h7 hd hd1 he rel q2 q3 hap
        refine ⟨q, ρ', w', ?_, g2⟩
        have : c.args.map a.eval = #[u, z] := by rw [← Array.toList_inj, Array.toList_map, q1]
        simp only [execOp, hop, resolve, hcal, Sem.run_bind, Sem.run_pure, Result.andThen_ok, invoke, builtin, this, g1]
      split at h8
      · rename_i e e1 hd hd1
        simp only [Option.bind_eq_some_iff] at h8
        obtain ⟨te, h9, p, h10, h11⟩ := h8
        exact key e te p hd h9 (.inl ⟨e1, hd1⟩) h10 h11
      · rename_i e hd hd1
        simp only [Option.bind_eq_some_iff] at h8
        obtain ⟨te, h9, p, h10, h11⟩ := h8
        exact key e te p hd h9 (.inr hd1) h10 h11
      · cases h8
    · rename_i x y
      simp only [Option.bind_eq_some_iff] at h3
      obtain ⟨t, h4, ti, h5, h8⟩ := h3
      split at h8
      · rename_i e hd
        simp only [Option.bind_eq_some_iff] at h8
        obtain ⟨te, h9, p, h10, h11⟩ := h8
        refine ⟨_, _, h11, eok_of fun ρ a w rel hF => ?_⟩
        obtain ⟨u, z, q1, q2, q3⟩ := list2 (opds_ok hF h2)
        obtain ⟨q, w', g1, ρ', g2⟩ := run_cop (ty := o.type) hT h4 h5 hd h9 rel q2 q3 h10
        refine ⟨q, ρ', w', ?_, g2⟩
        have : c.args.map a.eval = #[u, z] := by rw [← Array.toList_inj, Array.toList_map, q1]
        simp only [execOp, hop, resolve, hcal, Sem.run_bind, Sem.run_pure, Result.andThen_ok, invoke, builtin, this, g1]
      · cases h8
    · cases h3
  · cases hr

theorem eok_call {o : Oper} {F : Fr} {c : Call} (hop : o.op = .call c) {x : Operand} (hcal : c.callee = .value x) {f : Nat} {caps : List (Nat × Nat)} (h1 : opd F x = some (.s (.fn f caps))) {as : List V} (h2 : opds F c.args.toList = some as) {v : V} {h' : H} (hc : CallOK P W0 base f (as ++ caps.map fun p => .s (.ptr (some p))) h v h') : EOK P W0 base o F h v h' := by
  obtain ⟨hca, hcc⟩ := hc
  intro ρ a w rel hF next Q hn
  obtain ⟨xs, q1, q2⟩ := opd_ok hF h1 rfl
  have hargs := opds_ok hF h2
  unfold Oper.wp
  have hrun : (execOp a.eval o).run P w = .ok (.enter f ((c.args.toList.map a.eval) ++ xs.toList).toArray) w := by
    simp only [execOp, hop, resolve, hcal, q1, Deferred.ofValue, Sem.run_bind, Sem.run_pure, Result.andThen_ok, invoke, run_callFunc hca]
    congr 2
    rw [← Array.toList_inj]
    simp
  rw [hrun]
  refine (hcc ρ w _ rel (hargs.append q2.vals)).mono fun e w' he => ?_
  obtain ⟨x, rfl, ρ', g1, g2, g3, g4⟩ := he
  exact hn x ρ' w' g1 g2 g3 g4
/-- a call that leaves the heap as it is -/
def callV (pm : Option Nat → Bool) (o : Oper) : Bool := o.guard.isNone && pm o.dst && match o.op with
  | .call c => (match c.callee with | .value _ => true | _ => false)
  | _ => false
theorem gop_pure {pm : Option Nat → Bool} {cl : Option Nat → Nat → List V → H → (V → H → Option R) → Option R} (hpl : MlP P W0 base pm cl) {all : Array Oper} {o : Oper} (hp : callV pm o = true) {F : Fr} {k : Fr → H → Option R} {r : R} (hr : gOp E cl all F h o k = some r) :
    ∃ v, k (fput F o.dst v) h = some r ∧ o.guard = none ∧ EOK P W0 base o F h v h ∧ ∀ e cs, EOK P W0 base o F (h.new e cs) v (h.new e cs) := by
  unfold callV at hp
  simp only [Bool.and_eq_true, Option.isNone_iff_eq_none] at hp
  obtain ⟨⟨hg, hpm⟩, hp⟩ := hp
  unfold gOp at hr
  rw [hg] at hr
  simp only [] at hr
  split at hp
  · rename_i c hop
    split at hp
    · rename_i x hcal
      unfold oneOp at hr
      rw [hop] at hr
      simp only [] at hr
      unfold callOp at hr
      rw [hcal] at hr
      simp only [Option.bind_eq_some_iff] at hr
      obtain ⟨v, h1, as, h2, h3⟩ := hr
      split at h3
      · rename_i f caps
        obtain ⟨v1, h5, c1, c2, _⟩ := hpl _ f _ h _ r hpm h3
        exact ⟨v1, tyV_some h5, hg, eok_call hop hcal h1 h2 c1, fun e cs => eok_call hop hcal h1 h2 (c2 e cs)⟩
      · cases h3
    · cases hp
  · cases hp

theorem opd_agree {F F2 : Fr} {x : Operand} (ha : ∀ t ∈ slotsX x, look F2 t = look F t) : opd F2 x = opd F x := by
  cases x with
  | tmp t => exact ha t (by simp [slotsX])
  | const c => rfl
  | func f => rfl
  | global g => rfl
theorem opds_agree {F F2 : Fr} : ∀ {l : List Operand}, (∀ t ∈ (l.map slotsX).flatten, look F2 t = look F t) → opds F2 l = opds F l
  | [], _ => rfl
  | x :: l, ha => by
    simp only [List.map_cons, List.flatten_cons, List.mem_append] at ha
    simp only [opds]
    rw [opd_agree fun t ht => ha t (.inl ht), opds_agree fun t ht => ha t (.inr ht)]
/-- a call that looks at no memory comes to the same at any time -/
theorem gop_pure7 {pm : Option Nat → Bool} {cl : Option Nat → Nat → List V → H → (V → H → Option R) → Option R} (hpl : MlP P W0 base pm cl) {all : Array Oper} {o : Oper} (hp : callV pm o = true) {F : Fr} (hm : memArgs F o = true) {k : Fr → H → Option R} {r : R} (hr : gOp E cl all F h o k = some r) :
    ∃ v, k (fput F o.dst v) h = some r ∧ o.guard = none ∧ ∀ (F2 : Fr) (g : H), (∀ t ∈ argT o, look F2 t = look F t) → EOK P W0 base o F2 g v g := by
  unfold callV at hp
  simp only [Bool.and_eq_true, Option.isNone_iff_eq_none] at hp
  obtain ⟨⟨hg, hpm⟩, hp⟩ := hp
  unfold gOp at hr
  rw [hg] at hr
  simp only [] at hr
  split at hp
  · rename_i c hop
    split at hp
    · rename_i x hcal
      unfold oneOp at hr
      rw [hop] at hr
      simp only [] at hr
      unfold callOp at hr
      rw [hcal] at hr
      simp only [Option.bind_eq_some_iff] at hr
      obtain ⟨v, h1, as, h2, h3⟩ := hr
      unfold memArgs at hm
      rw [hop] at hm
      simp only [hcal, h1, h2] at hm
      split at h3
      · rename_i f caps
        cases caps with
        | cons p q => simp at hm
        | nil =>
        simp only [] at hm
        obtain ⟨v1, h5, c1, c2, c3⟩ := hpl _ f _ h _ r hpm h3
        refine ⟨v1, tyV_some h5, hg, fun F2 g ha => ?_⟩
        unfold argT at ha
        rw [hop] at ha
        simp only [hcal, List.mem_append] at ha
        refine eok_call hop hcal ((opd_agree fun t ht => ha t (.inl ht)).trans h1) ((opds_agree fun t ht => ha t (.inr ht)).trans h2) (c3 ?_ g)
        simpa using hm
      · cases h3
    · cases hp
  · cases hp

theorem one_ok (hT : TysOk P E) {cl : Option Nat → Nat → List V → H → (V → H → Option R) → Option R} (hcl : MlOK P W0 base cl) {o : Oper} {F : Fr} {k : V → H → Option R} {r : R} (hr : oneOp E cl F h o k = some r) :
    ∃ v h', k v h' = some r ∧ EOK P W0 base o F h v h' := by
  unfold oneOp at hr
  split at hr
  · rename_i c hop
    exact call_ok hT hcl hop hr
  · rename_i op hop
    by_cases hq : quietB E o.op = true
    · obtain ⟨v, g1, g2⟩ := quiet_ok (W0 := W0) (base := base) (P := P) hT hr hq
      exact ⟨v, h, g1, g2.q.eok⟩
    · cases hc : o.op <;> rw [hc] at hq <;> first
        | (simp [quietB] at hq; done)
        | (exact absurd hc (hop _))
        | (rw [hc] at hr; cases hr; done)
        | (exact conv_ok hT hc hr)
        | (refine make_ok hT hr ?_; rw [hc]; done)
        | (refine map_ok hT hr ?_; rw [hc]; done)

theorem look_fput {F : Fr} {d e : Nat} {v : V} : look (fput F (some d) v) e = if d = e then some v else look F e := by
  simp only [fput, look]
  by_cases h : d = e
  · simp [h]
  · rw [if_neg h, show (d == e) = false from by simpa using h]; rfl
theorem FR.put {F : Fr} {a : Act} {o : Oper} {v : V} {x : Value} (hF : FR ρ F a.tmps) (hv : VR ρ v x) (hd : ∀ d, o.dst = some d → d < a.tmps.size) : FR ρ (fput F o.dst v) (a.put o.dst x).tmps := by
  cases hdst : o.dst with
  | none => exact hF
  | some d =>
    have hlt := hd d hdst
    intro e u he
    rw [look_fput] at he
    simp only [Act.put]
    by_cases hde : d = e
    · subst hde
      rw [if_pos rfl] at he; cases he
      simp only [Array.getD_eq_getD_getElem?, Array.getElem?_setIfInBounds, if_true, hlt]
      exact hv
    · rw [if_neg hde] at he
      have := hF e u he
      simp only [Array.getD_eq_getD_getElem?] at this ⊢
      rw [Array.getElem?_setIfInBounds_ne hde]
      exact this
theorem look_fput_ne {F : Fr} {d : Option Nat} {e : Nat} {v : V} (h : d ≠ some e) : look (fput F d v) e = look F e := by
  cases d with
  | none => rfl
  | some d => rw [look_fput, if_neg (fun hh => h (by rw [hh]))]
theorem look_cons_sca {F : Fr} {t e : Nat} {v u : V} (he : look ((t, v) :: F) e = some u) (hv : scaV v = true) : look F e = some u ∨ scaV u = true := by
  simp only [look] at he
  cases h : t == e <;> rw [h] at he
  · exact .inl he
  · cases he; exact .inr hv
theorem put_ne {a : Act} {d : Option Tmp} {v : Value} {e : Nat} (h : d ≠ some e) : (a.put d v).tmps.getD e undef = a.tmps.getD e undef := by
  cases d with
  | none => rfl
  | some d =>
    simp only [Act.put, Array.getD_eq_getD_getElem?]
    rw [Array.getElem?_setIfInBounds_ne (fun hh => h (by rw [hh]))]
theorem FR.cons {F : Fr} {tmps : Array Value} {t : Nat} {v : V} (hF : FR ρ F tmps) (hv : VR ρ v (tmps.getD t undef)) : FR ρ ((t, v) :: F) tmps := by
  intro e u he
  simp only [look] at he
  by_cases hte : t = e
  · subst hte; simp at he; subst he; exact hv
  · have : (t == e) = false := by simpa using hte
    rw [this] at he
    exact hF e u he

/-- one operation with its guard comes to this frame and this heap -/
def GOK (P : Program) (W0 : St) (base : Nat) (nt : Nat) (all : Array Oper) (o : Oper) (F : Fr) (h : H) (F' : Fr) (h' : H) : Prop :=
  ∀ (ρ : Rho) (a : Act) (w : World), Rel W0 base ρ h w → FR ρ F a.tmps → nt ≤ a.tmps.size → a.defers = [] → ∀ (next : Act → World → Prop) (Q : Exit → Act → World → Prop),
    (∀ (a' : Act) (ρ' : Rho) (w' : World), Le ρ ρ' → FR ρ' F' a'.tmps → nt ≤ a'.tmps.size → a'.defers = [] → Rel W0 base ρ' h' w' → Frm ρ h h' w w' → (∀ e, o.dst ≠ some e → a'.tmps.getD e undef = a.tmps.getD e undef) → next a' w') →
    if Region.wanted o (yielded all a.tmps) then o.wp P a w next Q else next (a.put o.dst undef) w

theorem put_size (a : Act) (d : Option Tmp) (v : Value) : (a.put d v).tmps.size = a.tmps.size := by cases d <;> simp [Act.put]
theorem put_defers (a : Act) (d : Option Tmp) (v : Value) : (a.put d v).defers = a.defers := by cases d <;> rfl
theorem yielded_eq {all : Array Oper} {tmps : Array Value} {j t : Nat} {b : Bool} (hd : dstOf all j = some t) (ht : tmps.getD t undef = .bool b) : yielded all tmps j = some b := by
  unfold dstOf at hd
  unfold yielded
  simp only [hd]
  have : tmps[t]? = some (.bool b) := by
    rw [Array.getD_eq_getD_getElem?] at ht
    cases h : tmps[t]? with
    | none => rw [h] at ht; simp [undef] at ht
    | some x => rw [h] at ht; simpa using ht
  simp [this]
theorem yielded_un {all : Array Oper} {tmps : Array Value} {j t : Nat} (hd : dstOf all j = some t) (ht : tmps.getD t undef = undef) : yielded all tmps j = none := by
  unfold dstOf at hd
  unfold yielded
  simp only [hd]
  rw [Array.getD_eq_getD_getElem?] at ht
  cases h : tmps[t]? with
  | none => simp [h]
  | some x => rw [h] at ht; simp at ht; subst ht; simp [h, undef]
theorem gop_ok (hT : TysOk P E) {cl : Option Nat → Nat → List V → H → (V → H → Option R) → Option R} (hcl : MlOK P W0 base cl) {nt : Nat} {all : Array Oper} {o : Oper} (hnt : ∀ d, o.dst = some d → d < nt) {F : Fr} {k : Fr → H → Option R} {r : R} (hr : gOp E cl all F h o k = some r) :
    ∃ F' h', k F' h' = some r ∧ GOK P W0 base nt all o F h F' h' ∧ ∀ e u, look F' e = some u → o.dst ≠ some e → look F e = some u ∨ scaV u = true := by
  unfold gOp at hr
  split at hr
  · rename_i hg
    obtain ⟨v, h', g1, g2⟩ := one_ok (W0 := W0) (base := base) (P := P) hT hcl hr
    refine ⟨_, h', tyV_some g1, fun ρ a w rel hF hs hd next Q hn => ?_, fun e u he hne => .inl (by rw [look_fput_ne hne] at he; exact he)⟩
    rw [if_pos (by simp [Region.wanted, hg])]
    exact g2 ρ a w rel hF next Q fun x ρ' w' q1 q2 q3 q4 => hn _ ρ' w' q1 ((hF.mono q1).put q2 fun d hdd => Nat.lt_of_lt_of_le (hnt d hdd) hs) (by rw [put_size]; exact hs) (by rw [put_defers]; exact hd) q3 q4 fun e he => put_ne he
  · rename_i j want hg
    simp only [Option.bind_eq_some_iff] at hr
    obtain ⟨t, h1, v, h2, h3⟩ := hr
    rcases gcase_some h3 with ⟨b, rfl, h4⟩ | ⟨rfl, h4⟩
    case inr =>
      replace h4 : k (fput ((t, .tup []) :: F) o.dst (.tup [])) h = some r := by cases hf : free all j <;> rw [hf] at h4 <;> first | exact h4 | cases h4
      refine ⟨_, h, h4, fun ρ a w rel hF hs hd next Q hn => ?_, fun e u he hne => look_cons_sca (by rw [look_fput_ne hne] at he; exact he) rfl⟩
      rw [if_neg (by simp [Region.wanted, hg, yielded_un h1 (hF t _ h2).unit])]
      exact hn _ ρ w (Le.refl _) ((hF.cons (hF t _ h2)).put (unitR ρ) fun d hdd => Nat.lt_of_lt_of_le (hnt d hdd) hs) (by rw [put_size]; exact hs) (by rw [put_defers]; exact hd) rel (Frm.refl _ _ _) fun e he => put_ne he
    have hy : ∀ {ρ : Rho} {a : Act}, FR ρ F a.tmps → yielded all a.tmps j = some b := fun hF => yielded_eq h1 (hF t _ h2).bool
    have hFb : ∀ {ρ : Rho} {a : Act}, FR ρ F a.tmps → FR ρ ((t, .s (.bool b)) :: F) a.tmps := fun hF => hF.cons (hF t _ h2)
    by_cases hw : want = b
    · have h5 : oneOp E cl ((t, .s (.bool b)) :: F) h o (fun v h => tyV (vtOp E o) v fun v => k (fput ((t, .s (.bool b)) :: F) o.dst v) h) = some r := by
        subst hw; cases want <;> exact h4
      obtain ⟨v, h', g1, g2⟩ := one_ok (W0 := W0) (base := base) (P := P) hT hcl h5
      refine ⟨_, h', tyV_some g1, fun ρ a w rel hF hs hd next Q hn => ?_, fun e u he hne => look_cons_sca (by rw [look_fput_ne hne] at he; exact he) rfl⟩
      rw [if_pos (by simp [Region.wanted, hg, hy hF, hw])]
      exact g2 ρ a w rel (hFb hF) next Q fun x ρ' w' q1 q2 q3 q4 => hn _ ρ' w' q1 (((hFb hF).mono q1).put q2 fun d hdd => Nat.lt_of_lt_of_le (hnt d hdd) hs) (by rw [put_size]; exact hs) (by rw [put_defers]; exact hd) q3 q4 fun e he => put_ne he
    · have h5 : k (fput ((t, .s (.bool b)) :: F) o.dst (.tup [])) h = some r := by
        cases b <;> cases want <;> first | exact h4 | (simp at hw)
      refine ⟨_, h, h5, fun ρ a w rel hF hs hd next Q hn => ?_, fun e u he hne => look_cons_sca (by rw [look_fput_ne hne] at he; exact he) rfl⟩
      rw [if_neg (by simp [Region.wanted, hg, hy hF]; exact fun h => hw h.symm)]
      exact hn _ ρ w (Le.refl _) ((hFb hF).put (unitR ρ) fun d hdd => Nat.lt_of_lt_of_le (hnt d hdd) hs) (by rw [put_size]; exact hs) (by rw [put_defers]; exact hd) rel (Frm.refl _ _ _) fun e he => put_ne he

/-- what stands behind a piece of code -/
def After (W0 : St) (base : Nat) (nt : Nat) (ρ : Rho) (h : H) (w : World) (F' : Fr) (h' : H) (a' : Act) (w' : World) : Prop :=
  ∃ ρ', Le ρ ρ' ∧ FR ρ' F' a'.tmps ∧ nt ≤ a'.tmps.size ∧ a'.defers = [] ∧ Rel W0 base ρ' h' w' ∧ Frm ρ h h' w w'

theorem lex_ok (hT : TysOk P E) {cl : Option Nat → Nat → List V → H → (V → H → Option R) → Option R} (hcl : MlOK P W0 base cl) {nt : Nat} {all : Array Oper} : ∀ (l : List Oper), (∀ o ∈ l, ∀ d, o.dst = some d → d < nt) → ∀ {F : Fr} {h : H} {k : Fr → H → Option R} {r : R},
    lexOps E cl all l F h k = some r → ∃ F' h', k F' h' = some r ∧ ∀ (ρ : Rho) (a : Act) (w : World), Rel W0 base ρ h w → FR ρ F a.tmps → nt ≤ a.tmps.size → a.defers = [] → ∀ (Q : Exit → Act → World → Prop),
      (∀ a' w', After W0 base nt ρ h w F' h' a' w' → Q .normal a' w') → wpList P all Q l a w
  | [], _, F, h, k, r, hr => ⟨F, h, hr, fun ρ a w rel hF hs hd Q hn => wpList_nil (hn a w ⟨ρ, Le.refl _, hF, hs, hd, rel, Frm.refl _ _ _⟩)⟩
  | o :: l, hl, F, h, k, r, hr => by
    simp only [lexOps] at hr
    obtain ⟨F1, h1, g1, g2, _⟩ := gop_ok (W0 := W0) (base := base) (P := P) hT hcl (hl o (by simp)) hr
    obtain ⟨F2, h2, k1, k2⟩ := lex_ok hT hcl l (fun o ho => hl o (by simp [ho])) g1
    refine ⟨F2, h2, k1, fun ρ a w rel hF hs hd Q hn => wpList_step fun K hK => ?_⟩
    refine g2 ρ a w rel hF hs hd K Q fun a' ρ' w' q1 q2 q3 q4 q5 q6 _ => hK _ _ (k2 ρ' a' w' q5 q2 q3 q4 Q fun a2 w2 ⟨ρ2, p1, p2, p3, p4, p5, p6⟩ => hn a2 w2 ⟨ρ2, q1.trans p1, p2, p3, p4, p5, Frm.trans q1 rel.len q6 p6⟩)
end Vm
