/-
  What stands behind a call, taken into it: the equations of a pure call.
-/
import Derived.Test.YtmenpfhpflnbnaaGreatVmL
set_option linter.unusedVariables false
set_option linter.unusedSimpArgs false
open Option renaming bind_assoc->EW
namespace Vm
open Go
variable {P : Program} {E : Env} {R R' : Type}
theorem Pb {h h' : H} {x : Option R} {k : R -> Option R'} {y : Option R'} (e : y = x.bind k) : hchk h h' y = (hchk h h' x).bind k := by
 by_cases hh : Zj h h'
 · simp only [hchk, if_pos hh]; exact e
 · simp only [hchk, if_neg hh]; rfl
theorem yZ {c : Prop} {x : Option R} {k : R -> Option R'} {y : Option R'} (e : y = x.bind k) : YV c y = (YV c x).bind k := by
 by_cases hh : c
 · simp only [YV, if_pos hh]; exact e
 · simp only [YV, if_neg hh]; rfl
theorem jm {v : V} {a b c : Option R} {k : R -> Option R'} {a' b' c' : Option R'} (ha : a' = a.bind k) (hb : b' = b.bind k) (hc : c' = c.bind k) : gcase v a' b' c' = (gcase v a b c).bind k := by
 unfold gcase; split <;> first | exact ha | exact hb | exact hc | rfl
theorem ye {d : Option Nat} {F : Fr} {x : Option R} {k : R -> Option R'} {y : Option R'} (e : y = x.bind k) : T5 d F y = (T5 d F x).bind k := by
 unfold T5
 split
 · exact e
 · exact obc fun v => XO e rfl
section
variable (cl : Nat -> List V -> H -> Option (V × H)) (f0 : Nat)
theorem jf (d : Option Nat) (g : Nat) (as : List V) (h : H) {k : V -> H -> Option R} {k' : V -> H -> Option R'} {q : R -> Option R'} (e : ∀ v h, k' v h = (k v h).bind q) : K5 E f0 cl d g as h k' = (K5 E f0 cl d g as h k).bind q := by
 unfold K5
 split
 · exact obc fun p => e _ _
 · exact obc fun xs => by unfold Q9; exact obc fun v => XO (Jp fun v => e _ _) rfl
 · exact obc fun xs => by unfold Qj; exact obc fun p => yZ (e _ _)
 · exact XO (obc fun xs => obc fun v => Jp fun v => e _ _) rfl
 · exact obc fun xs => obc fun v => Jp fun v => e _ _
theorem xr (d : Option Nat) (F : Fr) (h : H) (c : Call) {k : V -> H -> Option R} {k' : V -> H -> Option R'} {q : R -> Option R'} (e : ∀ v h, k' v h = (k v h).bind q) : Y7 E (K5 E f0 cl) d F h c k' = (Y7 E (K5 E f0 cl) d F h c k).bind q := by
 unfold Y7
 repeat' (first
  | rfl
  | exact e _ _
  | exact jf cl f0 _ _ _ _ e
  | (refine obc fun _ => ?_)
  | split)
theorem N0 (F : Fr) (h : H) (o : Oper) {k : V -> H -> Option R} {k' : V -> H -> Option R'} {q : R -> Option R'} (e : ∀ v h, k' v h = (k v h).bind q) : J9 E (K5 E f0 cl) F h o k' = (J9 E (K5 E f0 cl) F h o k).bind q := by
 have key : ∀ op, op1 E F h op k' = (op1 E F h op k).bind q := fun op => by
  rw [MZ F h op k', MZ F h op k, EW];exact congrArg _ (funext fun p => e _ _)
 unfold J9
 cases ho : o.op <;> first
  | exact xr cl f0 _ _ _ _ e
  | exact key _
theorem J7 (all : Array Oper) (F : Fr) (h : H) (o : Oper) {k : Fr -> H -> Option R} {k' : Fr -> H -> Option R'} {q : R -> Option R'} (e : ∀ v h, k' v h = (k v h).bind q) : gOp E (K5 E f0 cl) all F h o k' = (gOp E (K5 E f0 cl) all F h o k).bind q := by
 unfold gOp
 cases o.guard with
 | none => exact N0 cl f0 _ _ _ fun v h => Jp fun v => e _ _
 | some p =>
  obtain ⟨j, want⟩ := p;exact obc fun t => obc fun v => jm (XO (N0 cl f0 _ _ _ fun v h => Jp fun v => e _ _) (e _ _)) (XO (e _ _) (N0 cl f0 _ _ _ fun v h => Jp fun v => e _ _)) (XO rfl (e _ _))
theorem BM (all : Array Oper) : ∀ (l : List Oper) (F : Fr) (h : H) {k : Fr -> H -> Option R} {k' : Fr -> H -> Option R'} {q : R -> Option R'} (_ : ∀ v h, k' v h = (k v h).bind q), U0 E (K5 E f0 cl) all l F h k' = (U0 E (K5 E f0 cl) all l F h k).bind q
 | [], F, h, k, k', q, e => e F h
 | o :: l, F, h, k, k', q, e => by
  simp only [U0];exact J7 cl f0 all F h o fun F h => BM all l F h e
theorem Ga {F : Fr} : ∀ (l : List Nat) {h : H} {k : H -> Option R} {k' : H -> Option R'} {q : R -> Option R'}, (∀ h, k' h = (k h).bind q) -> UF F l h k' = (UF F l h k).bind q
 | [], h, k, k', q, e => e h
 | i :: l, h, k, k', q, e => by
  simp only [UF];refine obc fun v => ?_
  unfold PW
  split
  · exact Ga l e
  · exact Ga l e
  · exact Ga l e
  · rfl
theorem Xk (all : Array Oper) {h0 : H} : ∀ (l : List (Nat × Nat)) (F : Fr) (h : H) {k : Fr -> H -> Option R} {k' : Fr -> H -> Option R'} {q : R -> Option R'} (_ : ∀ v h, k' v h = (k v h).bind q), QP E (K5 E f0 cl) all h0 l F h k' = (QP E (K5 E f0 cl) all h0 l F h k).bind q
 | [], F, h, k, k', q, e => e F h
 | (i, 0) :: l, F, h, k, k', q, e => by
  simp only [QP];exact obc fun o => J7 cl f0 all F h0 o fun F _ => Xk all l F h e
 | (i, 1) :: l, F, h, k, k', q, e => by
  simp only [QP];exact obc fun o => J7 cl f0 all F h o fun F h' => Pb (XO (Xk all l F h' e) (ye (Xk all l F h' e)))
 | (i, 2) :: l, F, h, k, k', q, e => by
  simp only [QP];exact obc fun o => J7 cl f0 all F h o fun F h' => Xk all l F h' e
 | (i, 3) :: l, F, h, k, k', q, e => by
  simp only [QP];exact obc fun o => J7 cl f0 all F h o fun F h' => Xk all l F h e
 | (i, 5) :: l, F, h, k, k', q, e => by
  simp only [QP];exact obc fun o => J7 cl f0 all F h o fun F h' => Xk all l F h' e
 | (i, 6) :: l, F, h, k, k', q, e => by
  simp only [QP];exact obc fun o => obc fun d => XO (J7 cl f0 all F h o fun F h' => Xk all l F h' e) rfl
 | (i, 4) :: l, F, h, k, k', q, e => by
  simp only [QP];exact obc fun o => obc fun L => XO (J7 cl f0 all L h0 o fun F' h' => Xk all l _ h e) rfl
 | (i, 7) :: l, F, h, k, k', q, e => by
  simp only [QP];exact obc fun o => obc fun d => XO (J7 cl f0 all F h o fun F h' => Xk all l F h' e) rfl
 | (i, 8) :: l, F, h, k, k', q, e => by
  simp only [QP];exact obc fun o => J7 cl f0 all F h o fun F h' => Pb (Xk all l F h' e)
 | (i, kd + 9) :: l, F, h, k, k', q, e => by
  simp only [QP];exact obc fun o => obc fun L => XO (J7 cl f0 all L h0 o fun F' h' => Xk all l _ h e) rfl
theorem VE {st : Nat -> VT} {l : List V} {k : Fr -> Option R} {k' : Fr -> Option R'} {q : R -> Option R'} (e : ∀ F, k' F = (k F).bind q) : ∀ (ids : List Nat) (j : Nat) (F : Fr), Wb st l ids j F k' = (Wb st l ids j F k).bind q
 | [], j, F => e F
 | i :: ids, j, F => by
  simp only [Wb];exact obc fun v => Jp fun v => VE e ids _ _
theorem qH {F : Fr} {h : H} {rs : List ResultVar} {k : V -> Option R} {k' : V -> Option R'} {q : R -> Option R'} (e : ∀ v, k' v = (k v).bind q) : GD E F h rs k' = (GD E F h rs k).bind q := by
 rw [M4 k', M4 k, EW];exact congrArg _ (funext e)
variable (lp : Nat -> Func -> Nat -> Code -> List V -> H -> Option LOut)
theorem wN (fn : Func) : ∀ (c : Code) (F : Fr) (h : H) {k : Out -> Option R} {k' : Out -> Option R'} {q : R -> Option R'} (_ : ∀ o, k' o = (k o).bind q), code E (K5 E f0 cl) lp f0 fn c F h k' = (code E (K5 E f0 cl) lp f0 fn c F h k).bind q := by
 intro c
 induction c with
 | skip => intro F h k k' q e; exact e _
 | region id ops draw =>
  intro F h k k' q e;simp only [code];exact XO (Ga _ fun h0 => Xk cl f0 _ _ _ _ fun F h => e _) (BM cl f0 _ _ _ _ fun F h => e _)
 | seq x y ihx ihy =>
  intro F h k k' q e;simp only [code];refine ihx F h fun o => ?_
  cases o with
  | normal F h => exact ihy F h e
  | ret v h => exact e _
  | exit i F h => exact e _
 | cond c x y ihx ihy =>
  intro F h k k' q e;simp only [code];exact obc fun v => VG (ihx F h e) (ihy F h e)
 | block id b ih =>
  intro F h k k' q e
  by_cases hb : ∃ body, b = .loop body
  ·obtain ⟨body, rfl⟩ := hb
   simp only [code];refine obc fun l => obc fun o => ?_
   cases o with
   | done l h => exact VE (fun F => e _) _ _ _
   | ret v h => exact e _
  ·have key := ih F h (k := fun o => match o with
     | .exit i F h => bif i == id then k (.normal F h) else k (.exit i F h)
     | o => k o) (k' := fun o => match o with
     | .exit i F h => bif i == id then k' (.normal F h) else k' (.exit i F h)
     | o => k' o) (q := q) (fun o => by
      cases o with
      | normal F h => exact e _
      | ret v h => exact e _
      | exit i F h => exact XO (e _) (e _))
   cases b with
   | loop body => exact absurd ⟨body, rfl⟩ hb
   | _ => exact key
 | exit i => intro F h k k' q e; exact e _
 | ret =>
  intro F h k k' q e;simp only [code];exact qH fun v => e _
 | _ => intro F h k k' q e; rfl
end
noncomputable def jC (E : Env) (k : V -> H -> Option R) (f : Nat) (args : List V) (h : H) : Option R :=
 (E.fn f).bind fun fn => fn.body.bind fun c => code E (K5 E f (call E)) (loop E) f fn c (Na 0 args) h fun o => match o with
  | .normal F h => GD E F h fn.results.toList fun v => k v h
  | .ret v h => k v h
  | .exit _ _ _ => none
theorem uB (k : V -> H -> Option R) (f : Nat) (args : List V) (h : H) : (call E f args h).bind (fun p => k p.1 p.2) = jC E k f args h := by
 rw [Qo];unfold Nn jC
 symm
 refine obc fun fn => obc fun c => wN (call E) f (loop E) fn c _ _ fun o => ?_
 cases o with
 | normal F h => exact qH fun v => rfl
 | ret v h => rfl
 | exit i F h => rfl
theorem QC (f : Nat) (xs : List V) : Q8 (call E) f xs = jC E (fun v h => QL h v) f xs (D 0) := uB (fun v h => QL h v) f xs (D 0)
end Vm
