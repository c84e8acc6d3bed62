/-
  What stands behind a call, taken into it: the equations of a pure call.
-/
import Derived.Test.YtpdoloemacmbaaaVmL
set_option linter.unusedVariables false
set_option linter.unusedSimpArgs false
namespace Vm
open Go
variable {P : Program} {E : Env} {R R' : Type}

theorem hchk_bind {h h' : H} {x : Option R} {k : R → Option R'} {y : Option R'} (e : y = x.bind k) : hchk h h' y = (hchk h h' x).bind k := by
  by_cases hh : HExt h h'
  · simp only [hchk, if_pos hh]; exact e
  · simp only [hchk, if_neg hh]; rfl
theorem fchk_bind {c : Prop} {x : Option R} {k : R → Option R'} {y : Option R'} (e : y = x.bind k) : fchk c y = (fchk c x).bind k := by
  by_cases hh : c
  · simp only [fchk, if_pos hh]; exact e
  · simp only [fchk, if_neg hh]; rfl
theorem gcase_bind {v : V} {a b c : Option R} {k : R → Option R'} {a' b' c' : Option R'} (ha : a' = a.bind k) (hb : b' = b.bind k) (hc : c' = c.bind k) : gcase v a' b' c' = (gcase v a b c).bind k := by
  unfold gcase; split <;> first | exact ha | exact hb | exact hc | rfl
theorem pchk_bind {d : Option Nat} {F : Fr} {x : Option R} {k : R → Option R'} {y : Option R'} (e : y = x.bind k) : pchk d F y = (pchk d F x).bind k := by
  unfold pchk
  split
  · exact e
  · exact obc fun v => cond_bind e rfl
section
variable (cl : Nat → List V → H → Option (V × H)) (f0 : Nat)
theorem mcall_bind (d : Option Nat) (g : Nat) (as : List V) (h : H) {k : V → H → Option R} {k' : V → H → Option R'} {q : R → Option R'} (e : ∀ v h, k' v h = (k v h).bind q) : mcall E f0 cl d g as h k' = (mcall E f0 cl d g as h k).bind q := by
  unfold mcall
  split
  · exact obc fun p => e _ _
  · exact obc fun xs => by unfold pcallS; exact obc fun v => cond_bind (tyV_bind fun v => e _ _) rfl
  · exact obc fun xs => by unfold pcallF; exact obc fun p => fchk_bind (e _ _)
  · exact cond_bind (obc fun xs => obc fun v => tyV_bind fun v => e _ _) rfl
  · exact obc fun xs => obc fun v => tyV_bind fun v => e _ _
theorem callOp_bind (d : Option Nat) (F : Fr) (h : H) (c : Call) {k : V → H → Option R} {k' : V → H → Option R'} {q : R → Option R'} (e : ∀ v h, k' v h = (k v h).bind q) : callOp E (mcall E f0 cl) d F h c k' = (callOp E (mcall E f0 cl) d F h c k).bind q := by
  unfold callOp
  repeat' (first
    | rfl
    | exact e _ _
    | exact mcall_bind cl f0 _ _ _ _ e
    | (refine obc fun _ => ?_)
    | split)
theorem oneOp_bind (F : Fr) (h : H) (o : Oper) {k : V → H → Option R} {k' : V → H → Option R'} {q : R → Option R'} (e : ∀ v h, k' v h = (k v h).bind q) : oneOp E (mcall E f0 cl) F h o k' = (oneOp E (mcall E f0 cl) F h o k).bind q := by
  have key : ∀ op, op1 E F h op k' = (op1 E F h op k).bind q := fun op => by
    rw [op1_bind F h op k', op1_bind F h op k, Option.bind_assoc]
    exact congrArg _ (funext fun p => e _ _)
  unfold oneOp
  cases ho : o.op <;> first
    | exact callOp_bind cl f0 _ _ _ _ e
    | exact key _
theorem gOp_bind (all : Array Oper) (F : Fr) (h : H) (o : Oper) {k : Fr → H → Option R} {k' : Fr → H → Option R'} {q : R → Option R'} (e : ∀ v h, k' v h = (k v h).bind q) : gOp E (mcall E f0 cl) all F h o k' = (gOp E (mcall E f0 cl) all F h o k).bind q := by
  unfold gOp
  cases o.guard with
  | none => exact oneOp_bind cl f0 _ _ _ fun v h => tyV_bind fun v => e _ _
  | some p =>
    obtain ⟨j, want⟩ := p
    exact obc fun t => obc fun v => gcase_bind (cond_bind (oneOp_bind cl f0 _ _ _ fun v h => tyV_bind fun v => e _ _) (e _ _)) (cond_bind (e _ _) (oneOp_bind cl f0 _ _ _ fun v h => tyV_bind fun v => e _ _)) (cond_bind rfl (e _ _))
theorem lexOps_bind (all : Array Oper) : ∀ (l : List Oper) (F : Fr) (h : H) {k : Fr → H → Option R} {k' : Fr → H → Option R'} {q : R → Option R'} (_ : ∀ v h, k' v h = (k v h).bind q), lexOps E (mcall E f0 cl) all l F h k' = (lexOps E (mcall E f0 cl) all l F h k).bind q
  | [], F, h, k, k', q, e => e F h
  | o :: l, F, h, k, k', q, e => by
    simp only [lexOps]
    exact gOp_bind cl f0 all F h o fun F h => lexOps_bind all l F h e
theorem killK_bind {F : Fr} : ∀ (l : List Nat) {h : H} {k : H → Option R} {k' : H → Option R'} {q : R → Option R'}, (∀ h, k' h = (k h).bind q) → killK F l h k' = (killK F l h k).bind q
  | [], h, k, k', q, e => e h
  | i :: l, h, k, k', q, e => by
    simp only [killK]
    refine obc fun v => ?_
    unfold killV
    split
    · exact killK_bind l e
    · exact killK_bind l e
    · exact killK_bind l e
    · rfl
theorem drawOps_bind (all : Array Oper) {h0 : H} : ∀ (l : List (Nat × Nat)) (F : Fr) (h : H) {k : Fr → H → Option R} {k' : Fr → H → Option R'} {q : R → Option R'} (_ : ∀ v h, k' v h = (k v h).bind q), drawOps E (mcall E f0 cl) all h0 l F h k' = (drawOps E (mcall E f0 cl) all h0 l F h k).bind q
  | [], F, h, k, k', q, e => e F h
  | (i, 0) :: l, F, h, k, k', q, e => by
    simp only [drawOps]
    exact obc fun o => gOp_bind cl f0 all F h0 o fun F _ => drawOps_bind all l F h e
  | (i, 1) :: l, F, h, k, k', q, e => by
    simp only [drawOps]
    exact obc fun o => gOp_bind cl f0 all F h o fun F h' => hchk_bind (cond_bind (drawOps_bind all l F h' e) (pchk_bind (drawOps_bind all l F h' e)))
  | (i, 2) :: l, F, h, k, k', q, e => by
    simp only [drawOps]
    exact obc fun o => gOp_bind cl f0 all F h o fun F h' => drawOps_bind all l F h' e
  | (i, 3) :: l, F, h, k, k', q, e => by
    simp only [drawOps]
    exact obc fun o => gOp_bind cl f0 all F h o fun F h' => drawOps_bind all l F h e
  | (i, 5) :: l, F, h, k, k', q, e => by
    simp only [drawOps]
    exact obc fun o => gOp_bind cl f0 all F h o fun F h' => drawOps_bind all l F h' e
  | (i, 6) :: l, F, h, k, k', q, e => by
    simp only [drawOps]
    exact obc fun o => obc fun d => cond_bind (gOp_bind cl f0 all F h o fun F h' => drawOps_bind all l F h' e) rfl
  | (i, 4) :: l, F, h, k, k', q, e => by
    simp only [drawOps]
    exact obc fun o => obc fun L => cond_bind (gOp_bind cl f0 all L h0 o fun F' h' => drawOps_bind all l _ h e) rfl
  | (i, 7) :: l, F, h, k, k', q, e => by
    simp only [drawOps]
    exact obc fun o => obc fun d => cond_bind (gOp_bind cl f0 all F h o fun F h' => drawOps_bind all l F h' e) rfl
  | (i, 8) :: l, F, h, k, k', q, e => by
    simp only [drawOps]
    exact obc fun o => gOp_bind cl f0 all F h o fun F h' => hchk_bind (drawOps_bind all l F h' e)
  | (i, kd + 9) :: l, F, h, k, k', q, e => by
    simp only [drawOps]
    exact obc fun o => obc fun L => cond_bind (gOp_bind cl f0 all L h0 o fun F' h' => drawOps_bind all l _ h e) rfl
theorem withF_bind {st : Nat → VT} {l : List V} {k : Fr → Option R} {k' : Fr → Option R'} {q : R → Option R'} (e : ∀ F, k' F = (k F).bind q) : ∀ (ids : List Nat) (j : Nat) (F : Fr), withF st l ids j F k' = (withF st l ids j F k).bind q
  | [], j, F => e F
  | i :: ids, j, F => by
    simp only [withF]
    exact obc fun v => tyV_bind fun v => withF_bind e ids _ _
theorem resV_bnd {F : Fr} {h : H} {rs : List ResultVar} {k : V → Option R} {k' : V → Option R'} {q : R → Option R'} (e : ∀ v, k' v = (k v).bind q) : resV E F h rs k' = (resV E F h rs k).bind q := by
  rw [resV_bind k', resV_bind k, Option.bind_assoc]
  exact congrArg _ (funext e)
variable (lp : Nat → Func → Nat → Code → List V → H → Option LOut)
theorem code_bind (fn : Func) : ∀ (c : Code) (F : Fr) (h : H) {k : Out → Option R} {k' : Out → Option R'} {q : R → Option R'} (_ : ∀ o, k' o = (k o).bind q), code E (mcall E f0 cl) lp f0 fn c F h k' = (code E (mcall E f0 cl) lp f0 fn c F h k).bind q := by
  intro c
  induction c with
  | skip => intro F h k k' q e; exact e _
  | region id ops draw =>
    intro F h k k' q e
    simp only [code]
    exact cond_bind (killK_bind _ fun h0 => drawOps_bind cl f0 _ _ _ _ fun F h => e _) (lexOps_bind cl f0 _ _ _ _ fun F h => e _)
  | seq x y ihx ihy =>
    intro F h k k' q e
    simp only [code]
    refine ihx F h fun o => ?_
    cases o with
    | normal F h => exact ihy F h e
    | ret v h => exact e _
    | exit i F h => exact e _
  | cond c x y ihx ihy =>
    intro F h k k' q e
    simp only [code]
    exact obc fun v => vcase_bind (ihx F h e) (ihy F h e)
  | block id b ih =>
    intro F h k k' q e
    by_cases hb : ∃ body, b = .loop body
    · obtain ⟨body, rfl⟩ := hb
      simp only [code]
      refine obc fun l => obc fun o => ?_
      cases o with
      | done l h => exact withF_bind (fun F => e _) _ _ _
      | ret v h => exact e _
    · have key := ih F h (k := fun o => match o with
          | .exit i F h => bif i == id then k (.normal F h) else k (.exit i F h)
          | o => k o) (k' := fun o => match o with
          | .exit i F h => bif i == id then k' (.normal F h) else k' (.exit i F h)
          | o => k' o) (q := q) (fun o => by
            cases o with
            | normal F h => exact e _
            | ret v h => exact e _
            | exit i F h => exact cond_bind (e _) (e _))
      cases b with
      | loop body => exact absurd ⟨body, rfl⟩ hb
      | _ => exact key
  | exit i => intro F h k k' q e; exact e _
  | ret =>
    intro F h k k' q e
    simp only [code]
    exact resV_bnd fun v => e _
  | _ => intro F h k k' q e; rfl
end
/-- a call, and what stands behind it -/
noncomputable def callK (E : Env) (k : V → H → Option R) (f : Nat) (args : List V) (h : H) : Option R :=
  (E.fn f).bind fun fn => fn.body.bind fun c => code E (mcall E f (call E)) (loop E) f fn c (initF 0 args) h fun o => match o with
    | .normal F h => resV E F h fn.results.toList fun v => k v h
    | .ret v h => k v h
    | .exit _ _ _ => none
theorem callK_eq (k : V → H → Option R) (f : Nat) (args : List V) (h : H) : (call E f args h).bind (fun p => k p.1 p.2) = callK E k f args h := by
  rw [call_eq]
  unfold callB callK
  symm
  refine obc fun fn => obc fun c => code_bind (call E) f (loop E) fn c _ _ fun o => ?_
  cases o with
  | normal F h => exact resV_bnd fun v => rfl
  | ret v h => rfl
  | exit i F h => rfl
/-- **what a pure call comes to** -/
theorem pure_eq (f : Nat) (xs : List V) : pureV (call E) f xs = callK E (fun v h => frzV h v) f xs (D 0) := callK_eq (fun v h => frzV h v) f xs (D 0)
end Vm
