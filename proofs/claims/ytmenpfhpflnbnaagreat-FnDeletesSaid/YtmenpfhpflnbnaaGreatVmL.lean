/-
  As many rounds and calls as it takes: the equations of 'call' and 'loop', and what they say of the model.
-/
import Derived.Test.YtmenpfhpflnbnaaGreatVmK
set_option linter.unusedVariables false
set_option linter.unusedSimpArgs false
open Classical renaming choose_spec->Lw
open Option renaming bind_assoc->EW,bind_eq_some_iff->Hv
namespace Vm
open Go
variable {P : Program} {E : Env} {R : Type}
structure Ch {α : Type} (X : Nat -> Option α) (x : Option α) : Prop where
 up : ∀ n r, X n = some r -> X (n + 1) = some r
 lim : ∀ r, x = some r ↔ ∃ n, X n = some r
theorem Ch.le {α : Type} {X : Nat -> Option α} {x : Option α} (h : Ch X x) {n : Nat} {r : α} (hr : X n = some r) : ∀ m, n <= m -> X m = some r := by
 intro m hm;obtain ⟨k, rfl⟩ : ∃ k, m = n + k := ⟨m - n, by omega⟩
 induction k with
 | zero => exact hr
 | succ k ih => exact h.up _ _ (ih (by omega))
theorem Ch.const {α : Type} (x : Option α) : Ch (fun _ => x) x := ⟨fun _ _ h => h, fun r => ⟨fun h => ⟨0, h⟩, fun ⟨_, h⟩ => h⟩⟩
theorem Ch.bind {α β : Type} {X : Nat -> Option α} {x : Option α} {Y : Nat -> α -> Option β} {y : α -> Option β} (hx : Ch X x) (hy : ∀ a, Ch (fun n => Y n a) (y a)) : Ch (fun n => (X n).bind (Y n)) (x.bind y) := by
 refine ⟨fun n r hr => ?_, fun r => ⟨fun hr => ?_, fun ⟨n, hr⟩ => ?_⟩⟩
 ·rw [Hv] at hr ⊢
  obtain ⟨a, h1, h2⟩ := hr;exact ⟨a, hx.up _ _ h1, (hy a).up _ _ h2⟩
 ·rw [Hv] at hr
  obtain ⟨a, h1, h2⟩ := hr;obtain ⟨n, h1⟩ := (hx.lim a).1 h1;obtain ⟨m, h2⟩ := ((hy a).lim r).1 h2;exact ⟨max n m, by
   rw [Hv];exact ⟨a, hx.le h1 _ (Nat.le_max_left _ _), (hy a).le h2 _ (Nat.le_max_right _ _)⟩⟩
 ·rw [Hv] at hr ⊢
  obtain ⟨a, h1, h2⟩ := hr;exact ⟨a, (hx.lim a).2 ⟨n, h1⟩, ((hy a).lim r).2 ⟨n, h2⟩⟩
theorem Ch.vcase {α : Type} {v : V} {X Y : Nat -> Option α} {x y : Option α} (hx : Ch X x) (hy : Ch Y y) : Ch (fun n => vcase v (X n) (Y n)) (vcase v x y) := by
 unfold Vm.vcase
 split
 · exact hx
 · exact hy
 · exact Ch.const none
theorem Ch.gcase {α : Type} {v : V} {X Y Z : Nat -> Option α} {x y z : Option α} (hx : Ch X x) (hy : Ch Y y) (hz : Ch Z z) : Ch (fun n => gcase v (X n) (Y n) (Z n)) (gcase v x y z) := by
 unfold Vm.gcase
 split
 · exact hx
 · exact hy
 · exact hz
 · exact Ch.const none
theorem Ch.cond {α : Type} {c : Bool} {X Y : Nat -> Option α} {x y : Option α} (hx : Ch X x) (hy : Ch Y y) : Ch (fun n => bif c then X n else Y n) (bif c then x else y) := by
 cases c
 · exact hy
 · exact hx
theorem Ch.hchk {α : Type} {h h' : H} {X : Nat -> Option α} {x : Option α} (hx : Ch X x) : Ch (fun n => hchk h h' (X n)) (hchk h h' x) := by
 by_cases hh : Zj h h'
 · simp only [Vm.hchk, if_pos hh]; exact hx
 · simp only [Vm.hchk, if_neg hh]; exact Ch.const none
theorem obc {α β γ : Type} {x : Option α} {f : α -> Option γ} {g : α -> Option β} {k : β -> Option γ} (h : ∀ a, f a = (g a).bind k) : x.bind f = (x.bind g).bind k := by
 rw [EW]; exact congrArg _ (funext h)
theorem VG {α β : Type} {v : V} {a b : Option α} {k : α -> Option β} {a' b' : Option β} (ha : a' = a.bind k) (hb : b' = b.bind k) : vcase v a' b' = (vcase v a b).bind k := by
 unfold vcase; split <;> first | exact ha | exact hb | rfl
theorem XO {α β : Type} {c : Bool} {a b : Option α} {k : α -> Option β} {a' b' : Option β} (ha : a' = a.bind k) (hb : b' = b.bind k) : (bif c then a' else b') = (bif c then a else b).bind k := by
 cases c
 · exact hb
 · exact ha
theorem GI {ti : TI} {h : H} {v : V} {α β : Type} {f : V -> Option β} {g : V -> Option α} {k : α -> Option β} (hf : ∀ v, f v = (g v).bind k) : ldT ti h v f = (ldT ti h v g).bind k := by
 unfold ldT; cases ti.agg <;> exact obc fun _ => hf _
theorem yW {pa : Nat -> Option (Nat × Nat)} {F : Fr} {ps : List (Nat × Operand)} {cs : List S} {α β : Type} {f : List S -> Option β} {g : List S -> Option α} {k : α -> Option β} (hf : ∀ v, f v = (g v).bind k) : Jm pa F ps cs f = (Jm pa F ps cs g).bind k := by
 rw [YN ps cs f, YN ps cs g, EW]; exact congrArg _ (funext hf)
theorem Q0Z {k : IntKind} {x : S} {R' : Type} {a : Int -> Option R} {a' : Int -> Option R'} {q : R -> Option R'} (e : ∀ n, a' n = (a n).bind q) : gI k x a' = (gI k x a).bind q := by
 unfold gI
 split
 ·split
  · exact e _
  · rfl
 · rfl
theorem BV {l : LK} {x : S} {R' : Type} {a : S -> Option R} {a' : S -> Option R'} {q : R -> Option R'} (e : ∀ n, a' n = (a n).bind q) : tyS l x a' = (tyS l x a).bind q := by
 unfold tyS
 split
 · exact Q0Z fun _ => e _
 · unfold gB; split <;> first | exact e _ | rfl
 · unfold gS; split <;> first | exact e _ | rfl
 · exact e _
 · unfold gF; split <;> first | exact e _ | rfl
theorem BX {R' : Type} {a : List S -> Option R} {a' : List S -> Option R'} {q : R -> Option R'} (e : ∀ n, a' n = (a n).bind q) : ∀ (ls : List LK) (cs : List S) (j : Nat) (acc : List S), tyL ls cs j acc a' = (tyL ls cs j acc a).bind q
 | [], cs, j, acc => by simp only [tyL]; split <;> first | exact e _ | rfl
 | l :: ls, cs, j, acc => by simp only [tyL]; exact obc fun x => BV fun y => BX e ls cs _ _
theorem vb {t : List LK × Bool} {x : A} {R' : Type} {a : A -> Option R} {a' : A -> Option R'} {q : R -> Option R'} (e : ∀ n, a' n = (a n).bind q) : tyA t x a' = (tyA t x a).bind q := by
 unfold tyA
 split
 · unfold gA1; split <;> first | exact BV fun _ => e _ | rfl
 · unfold gAA; split <;> first | exact BX (fun _ => e _) _ _ _ _ | rfl
 · rfl
theorem TP {R' : Type} {a : List A -> Option R} {a' : List A -> Option R'} {q : R -> Option R'} (e : ∀ n, a' n = (a n).bind q) : ∀ (ls : List (List LK × Bool)) (cs : List A) (j : Nat) (acc : List A), MQ ls cs j acc a' = (MQ ls cs j acc a).bind q
 | [], cs, j, acc => by simp only [MQ]; split <;> first | exact e _ | rfl
 | l :: ls, cs, j, acc => by simp only [MQ]; exact obc fun x => vb fun y => TP e ls cs _ _
theorem Jp {t : VT} {v : V} {R' : Type} {a : V -> Option R} {a' : V -> Option R'} {q : R -> Option R'} (e : ∀ n, a' n = (a n).bind q) : tyV t v a' = (tyV t v a).bind q := by
 unfold tyV
 split
 · exact e _
 · unfold gV1; split <;> first | exact BV fun _ => e _ | rfl
 · unfold gVA; split <;> first | exact BX (fun _ => e _) _ _ _ _ | rfl
 · unfold gVT; split <;> first | exact TP (fun _ => e _) _ _ _ _ | rfl
theorem Gw {t : VT} {v : V} {X : Nat -> V -> Option R} {x : V -> Option R} (hx : ∀ v, Ch (fun n => X n v) (x v)) : Ch (fun n => tyV t v (X n)) (tyV t v x) := by
 have h1 : ∀ n, tyV t v (X n) = (tyV t v some).bind (X n) := fun n => Jp fun _ => rfl
 have h2 : tyV t v x = (tyV t v some).bind x := Jp fun _ => rfl
 simp only [h1, h2];exact Ch.bind (Ch.const _) hx
theorem ue {t : VT} {ti : TI} {h : H} {v : V} {R' : Type} {a : V -> Option R} {a' : V -> Option R'} {q : R -> Option R'} (e : ∀ n, a' n = (a n).bind q) : ldK t ti h v a' = (ldK t ti h v a).bind q := by
 unfold ldK
 split
 · exact GI fun _ => Jp e
 · exact GI e
theorem yO {z : Nat} {v i : V} {R' : Type} {a : V -> Option R} {a' : V -> Option R'} {q : R -> Option R'} (e : ∀ n, a' n = (a n).bind q) : Qd z v i a' = (Qd z v i a).bind q := by
 rw [Tc, Tc]; exact obc e
theorem vh {z : Nat} {h : H} {x : V} {lo hi : Option V} {R' : Type} {a : V -> Option R} {a' : V -> Option R'} {q : R -> Option R'} (e : ∀ n, a' n = (a n).bind q) : slK z h x lo hi a' = (slK z h x lo hi a).bind q := by
 rw [qy, qy]; exact obc e
theorem vd {z : Nat} {h : H} {p v : V} {R' : Type} {a : H -> Option R} {a' : H -> Option R'} {q : R -> Option R'} (e : ∀ n, a' n = (a n).bind q) : stK z h p v a' = (stK z h p v a).bind q := by
 rw [qp, qp]; exact obc e
theorem xq {v : V} {R' : Type} {a : List S -> Option R} {a' : List S -> Option R'} {q : R -> Option R'} (e : ∀ n, a' n = (a n).bind q) : X1 v a' = (X1 v a).bind q := by
 rw [UA, UA]; exact obc e
theorem MZ (F : Fr) (h : H) (o : Op) (k : V -> H -> Option R) : op1 E F h o k = (op1 E F h o fun v h => some (v, h)).bind fun p => k p.1 p.2 := by
 cases o <;> simp only [op1] <;> repeat' (first
  | rfl
  | (refine obc fun _ => ?_)
  | (refine GI fun _ => ?_)
  | (refine ue fun _ => ?_)
  | (refine yO fun _ => ?_)
  | (refine vh fun _ => ?_)
  | (refine vd fun _ => ?_)
  | (refine xq fun _ => ?_)
  | (refine yW fun _ => ?_)
  | (refine VG ?_ ?_)
  | (refine XO ?_ ?_)
  | split)
theorem Uu {F : Fr} {h : H} : ∀ (rs : List ResultVar) {R : Type} (k : List A -> Option R), Mo E F h rs k = (Mo E F h rs some).bind k
 | [], _, k => rfl
 | .tmp t :: rs, R, k => by
  simp only [Mo];refine obc fun v => obc fun a => ?_
  rw [Uu rs fun l => k (a :: l), Uu rs fun l => some (a :: l), EW]; rfl
 | .cell p t :: rs, R, k => by
  simp only [Mo];refine obc fun v => obc fun a => GI fun v => obc fun a => ?_
  rw [Uu rs fun l => k (a :: l), Uu rs fun l => some (a :: l), EW]; rfl
theorem M4 {F : Fr} {h : H} {rs : List ResultVar} (k : V -> Option R) : GD E F h rs k = (GD E F h rs some).bind k := by
 unfold GD
 split
 · exact obc fun v => rfl
 · exact obc fun v => obc fun p => GI fun v => rfl
 ·rw [Uu rs, Uu rs (R := V), EW]
  exact congrArg _ (funext fun l => rfl)
theorem qc {st : Nat -> VT} {l : List V} {k : Nat -> Fr -> Option R} {k' : Fr -> Option R} (hk : ∀ F, Ch (fun n => k n F) (k' F)) : ∀ (ids : List Nat) (j : Nat) (F : Fr), Ch (fun n => Wb st l ids j F (k n)) (Wb st l ids j F k')
 | [], j, F => hk F
 | i :: ids, j, F => by
  simp only [Wb];exact Ch.bind (Ch.const _) fun v => Gw fun v => qc hk ids _ _
section
variable {cl : Nat -> Option Nat -> Nat -> List V -> H -> (V -> H -> Option R) -> Option R} {cl' : Option Nat -> Nat -> List V -> H -> (V -> H -> Option R) -> Option R}
 (hcl : ∀ d f as h (k : Nat -> V -> H -> Option R) (k' : V -> H -> Option R), (∀ v h, Ch (fun n => k n v h) (k' v h)) -> Ch (fun n => cl n d f as h (k n)) (cl' d f as h k'))
include hcl
theorem wR {d : Option Nat} {F : Fr} {h : H} {c : Call} {k : Nat -> V -> H -> Option R} {k' : V -> H -> Option R} (hk : ∀ v h, Ch (fun n => k n v h) (k' v h)) : Ch (fun n => Y7 E (cl n) d F h c (k n)) (Y7 E cl' d F h c k') := by
 unfold Y7
 cases c.callee with
 | value x =>
  refine Ch.bind (Ch.const _) fun v => Ch.bind (Ch.const _) fun as => ?_
  split
  · exact hcl _ _ _ _ _ _ hk
  · exact Ch.const none
 | builtin b =>
  refine Ch.bind (Ch.const _) fun as => ?_
  repeat' (first
   | exact Ch.const none
   | exact hk _ _
   | (refine Ch.bind (Ch.const _) fun _ => ?_)
   | split)
 | invoke r m => exact Ch.const none
theorem Ve {F : Fr} {h : H} {o : Oper} {k : Nat -> V -> H -> Option R} {k' : V -> H -> Option R} (hk : ∀ v h, Ch (fun n => k n v h) (k' v h)) : Ch (fun n => J9 E (cl n) F h o (k n)) (J9 E cl' F h o k') := by
 have key : ∀ op, Ch (fun n => op1 E F h op (k n)) (op1 E F h op k') := fun op => by
  have : (fun n => op1 E F h op (k n)) = fun n => (op1 E F h op fun v h => some (v, h)).bind fun p => k n p.1 p.2 := funext fun n => MZ F h op (k n)
  rw [this, MZ F h op k'];exact Ch.bind (Ch.const _) fun p => hk _ _
 unfold J9
 cases ho : o.op <;> first
  | exact wR hcl hk
  | exact key _
theorem Yr {all : Array Oper} {F : Fr} {h : H} {o : Oper} {k : Nat -> Fr -> H -> Option R} {k' : Fr -> H -> Option R} (hk : ∀ v h, Ch (fun n => k n v h) (k' v h)) : Ch (fun n => gOp E (cl n) all F h o (k n)) (gOp E cl' all F h o k') := by
 unfold gOp
 cases o.guard with
 | none => exact Ve hcl fun v h => Gw fun v => hk _ _
 | some p =>
  obtain ⟨j, want⟩ := p;refine Ch.bind (Ch.const _) fun t => Ch.bind (Ch.const _) fun v => Ch.gcase (Ch.cond (Ve hcl fun v h => Gw fun v => hk _ _) (hk _ _)) (Ch.cond (hk _ _) (Ve hcl fun v h => Gw fun v => hk _ _)) (Ch.cond (Ch.const none) (hk _ _))
theorem P9 {all : Array Oper} : ∀ (l : List Oper) {F : Fr} {h : H} {k : Nat -> Fr -> H -> Option R} {k' : Fr -> H -> Option R}, (∀ v h, Ch (fun n => k n v h) (k' v h)) -> Ch (fun n => U0 E (cl n) all l F h (k n)) (U0 E cl' all l F h k')
 | [], F, h, k, k', hk => hk F h
 | o :: l, F, h, k, k', hk => by
  simp only [U0];exact Yr hcl fun F h => P9 l hk
omit hcl in
theorem N9 {R : Type} {F : Fr} : ∀ (l : List Nat) {h : H} {k : Nat -> H -> Option R} {k' : H -> Option R}, (∀ h, Ch (fun n => k n h) (k' h)) -> Ch (fun n => UF F l h (k n)) (UF F l h k')
 | [], h, k, k', hk => hk h
 | i :: l, h, k, k', hk => by
  simp only [UF];refine Ch.bind (Ch.const _) fun v => ?_
  unfold PW
  split
  · exact N9 l hk
  · exact N9 l hk
  · exact N9 l hk
  · exact Ch.const none
theorem XH {all : Array Oper} {h0 : H} : ∀ (l : List (Nat × Nat)) {F : Fr} {h : H} {k : Nat -> Fr -> H -> Option R} {k' : Fr -> H -> Option R}, (∀ v h, Ch (fun n => k n v h) (k' v h)) -> Ch (fun n => QP E (cl n) all h0 l F h (k n)) (QP E cl' all h0 l F h k')
 | [], F, h, k, k', hk => hk F h
 | (i, 0) :: l, F, h, k, k', hk => by
  simp only [QP];exact Ch.bind (Ch.const _) fun o => Yr hcl fun F _ => XH l hk
 | (i, 1) :: l, F, h, k, k', hk => by
  simp only [QP];refine Ch.bind (Ch.const _) fun o => Yr hcl fun F h' => Ch.hchk (Ch.cond (XH l hk) ?_)
  unfold T5
  split
  · exact XH l hk
  · exact Ch.bind (Ch.const _) fun v => Ch.cond (XH l hk) (Ch.const none)
 | (i, 2) :: l, F, h, k, k', hk => by
  simp only [QP];exact Ch.bind (Ch.const _) fun o => Yr hcl fun F h' => XH l hk
 | (i, 3) :: l, F, h, k, k', hk => by
  simp only [QP];exact Ch.bind (Ch.const _) fun o => Yr hcl fun F h' => XH l hk
 | (i, 5) :: l, F, h, k, k', hk => by
  simp only [QP];exact Ch.bind (Ch.const _) fun o => Yr hcl fun F h' => XH l hk
 | (i, 6) :: l, F, h, k, k', hk => by
  simp only [QP];exact Ch.bind (Ch.const _) fun o => Ch.bind (Ch.const _) fun d => Ch.cond (Yr hcl fun F h' => XH l hk) (Ch.const none)
 | (i, 4) :: l, F, h, k, k', hk => by
  simp only [QP];exact Ch.bind (Ch.const _) fun o => Ch.bind (Ch.const _) fun L => Ch.cond (Yr hcl fun F h' => XH l hk) (Ch.const none)
 | (i, 7) :: l, F, h, k, k', hk => by
  simp only [QP];exact Ch.bind (Ch.const _) fun o => Ch.bind (Ch.const _) fun d => Ch.cond (Yr hcl fun F h' => XH l hk) (Ch.const none)
 | (i, 8) :: l, F, h, k, k', hk => by
  simp only [QP];exact Ch.bind (Ch.const _) fun o => Yr hcl fun F h' => Ch.hchk (XH l hk)
 | (i, kd + 9) :: l, F, h, k, k', hk => by
  simp only [QP];exact Ch.bind (Ch.const _) fun o => Ch.bind (Ch.const _) fun L => Ch.cond (Yr hcl fun F h' => XH l hk) (Ch.const none)
variable {lp : Nat -> Nat -> Func -> Nat -> Code -> List V -> H -> Option LOut} {lp' : Nat -> Func -> Nat -> Code -> List V -> H -> Option LOut} (hlp : ∀ f fn id body l h, Ch (fun n => lp n f fn id body l h) (lp' f fn id body l h))
include hlp
theorem kF {f : Nat} {fn : Func} : ∀ (c : Code) {F : Fr} {h : H} {k : Nat -> Out -> Option R} {k' : Out -> Option R}, (∀ o, Ch (fun n => k n o) (k' o)) -> Ch (fun n => code E (cl n) (lp n) f fn c F h (k n)) (code E cl' lp' f fn c F h k') := by
 intro c
 induction c with
 | skip => intro F h k k' hk; exact hk _
 | region id ops draw =>
  intro F h k k' hk;simp only [code];exact Ch.cond (N9 _ fun h0 => XH hcl _ fun F h => hk _) (P9 hcl _ fun F h => hk _)
 | seq x y ihx ihy =>
  intro F h k k' hk;simp only [code];refine ihx fun o => ?_
  cases o with
  | normal F h => exact ihy hk
  | ret v h => exact hk _
  | exit i F h => exact hk _
 | cond c x y ihx ihy =>
  intro F h k k' hk;simp only [code];exact Ch.bind (Ch.const _) fun v => Ch.vcase (ihx hk) (ihy hk)
 | block id b ih =>
  intro F h k k' hk
  by_cases hb : ∃ body, b = .loop body
  ·obtain ⟨body, rfl⟩ := hb
   simp only [code];refine Ch.bind (Ch.const _) fun l => Ch.bind (hlp _ _ _ _ _ _) fun o => ?_
   cases o with
   | done l h => exact qc (fun F => hk _) _ _ _
   | ret v h => exact hk _
  ·have key := ih (F := F) (h := h) (k := fun n o => match o with
     | .exit i F h => bif i == id then k n (.normal F h) else k n (.exit i F h)
     | o => k n o) (k' := fun o => match o with
     | .exit i F h => bif i == id then k' (.normal F h) else k' (.exit i F h)
     | o => k' o) (fun o => by
      cases o with
      | normal F h => exact hk _
      | ret v h => exact hk _
      | exit i F h => exact Ch.cond (hk _) (hk _))
   cases b with
   | loop body => exact absurd ⟨body, rfl⟩ hb
   | _ => exact key
 | exit i => intro F h k k' hk; exact hk _
 | ret =>
  intro F h k k' hk;simp only [code];rw [M4 fun v => k' (.ret v h)]
  have : ∀ n, GD E F h fn.results.toList (fun v => k n (.ret v h)) = _ := fun n => M4 fun v => k n (.ret v h)
  simp only [this];exact Ch.bind (Ch.const _) fun v => hk _
 | _ => intro F h k k' hk; exact Ch.const none
end
section
variable {cl : Nat -> Nat -> List V -> H -> Option (V × H)} {cl' : Nat -> List V -> H -> Option (V × H)} (hcl : ∀ f as h, Ch (fun n => cl n f as h) (cl' f as h))
include hcl
theorem z6 {R : Type} (f : Nat) (d : Option Nat) (g : Nat) (as : List V) (h : H) (k : Nat -> V -> H -> Option R) (k' : V -> H -> Option R) (hk : ∀ v h, Ch (fun n => k n v h) (k' v h)) :
  Ch (fun n => K5 E f (cl n) d g as h (k n)) (K5 E f cl' d g as h k') := by
 have hp : ∀ xs, Ch (fun n => Q8 (cl n) g xs) (Q8 cl' g xs) := fun xs => Ch.bind (hcl _ _ _) fun _ => Ch.const _
 unfold K5
 split
 · exact Ch.bind (hcl _ _ _) fun p => hk _ _
 ·unfold Q9
  exact Ch.bind (Ch.const _) fun xs => Ch.bind (hp _) fun v => Ch.cond (Gw fun v => hk _ _) (Ch.const none)
 ·unfold Qj
  refine Ch.bind (Ch.const _) fun xs => Ch.bind (hcl _ _ _) fun p => ?_
  unfold YV
  by_cases hc : as.all Z5 = true \/ scaV p.1 = true
  · simp only [if_pos hc]; exact hk _ _
  · simp only [if_neg hc]; exact Ch.const none
 · exact Ch.cond (Ch.bind (Ch.const _) fun xs => Ch.bind (hp _) fun v => Gw fun v => hk _ _) (Ch.const none)
 · exact Ch.bind (Ch.const _) fun xs => Ch.bind (hp _) fun v => Gw fun v => hk _ _
variable {lp : Nat -> Nat -> Func -> Nat -> Code -> List V -> H -> Option LOut} {lp' : Nat -> Func -> Nat -> Code -> List V -> H -> Option LOut} (hlp : ∀ f fn id body l h, Ch (fun n => lp n f fn id body l h) (lp' f fn id body l h))
include hlp
theorem zN {f : Nat} {args : List V} {h : H} : Ch (fun n => Nn E (cl n) (lp n) f args h) (Nn E cl' lp' f args h) := by
 unfold Nn;refine Ch.bind (Ch.const _) fun fn => Ch.bind (Ch.const _) fun c => kF (fun d g as h => z6 hcl f d g as h) hlp c fun o => ?_
 cases o <;> exact Ch.const _
theorem zb {f : Nat} {fn : Func} {id : Nat} {body : Code} {l : List V} {h : H} : Ch (fun n => Bq E (cl n) (lp n) f fn id body l h) (Bq E cl' lp' f fn id body l h) := by
 unfold Bq;refine kF (fun d g as h => z6 hcl f d g as h) hlp body fun o => ?_
 cases o with
 | normal F h => exact Ch.bind (Ch.const _) fun l => hlp _ _ _ _ _ _
 | exit i F h => exact Ch.const _
 | ret v h => exact Ch.const _
end
theorem Q1q {α : Type} {x y : Option α} (h : ∀ r, x = some r -> y = some r) : Ch (fun n => match n with | 0 => x | _ + 1 => y) y := by
 refine ⟨fun n r hr => ?_, fun r => ⟨fun hr => ⟨1, hr⟩, fun ⟨n, hr⟩ => ?_⟩⟩
 ·cases n with
  | zero => exact h r hr
  | succ n => exact hr
 ·cases n with
  | zero => exact h r hr
  | succ n => exact hr
theorem RN : ∀ n, (∀ f as h r, (KJ E n).1 f as h = some r -> (KJ E (n + 1)).1 f as h = some r) /\ (∀ f fn id body l h r, (KJ E n).2 f fn id body l h = some r -> (KJ E (n + 1)).2 f fn id body l h = some r)
 | 0 => ⟨fun f as h r hr => by simp [KJ] at hr, fun f fn id body l h r hr => by simp [KJ] at hr⟩
 | n + 1 => by
  obtain ⟨i1, i2⟩ := RN n;have hcl : ∀ f as h, Ch (fun m => (match m with | 0 => (KJ E n).1 | _ + 1 => (KJ E (n + 1)).1) f as h) ((KJ E (n + 1)).1 f as h) := fun f as h => by
   have := Q1q (i1 f as h);refine ⟨fun m r hr => ?_, fun r => ?_⟩
   ·cases m with
    | zero => exact i1 f as h r hr
    | succ m => exact hr
   ·constructor
    · intro hr; exact ⟨1, hr⟩
    ·rintro ⟨m, hr⟩
     cases m with
     | zero => exact i1 f as h r hr
     | succ m => exact hr
  have hlp : ∀ f fn id body l h, Ch (fun m => (match m with | 0 => (KJ E n).2 | _ + 1 => (KJ E (n + 1)).2) f fn id body l h) ((KJ E (n + 1)).2 f fn id body l h) := fun f fn id body l h => by
   refine ⟨fun m r hr => ?_, fun r => ?_⟩
   ·cases m with
    | zero => exact i2 f fn id body l h r hr
    | succ m => exact hr
   ·constructor
    · intro hr; exact ⟨1, hr⟩
    ·rintro ⟨m, hr⟩
     cases m with
     | zero => exact i2 f fn id body l h r hr
     | succ m => exact hr
  exact ⟨fun f as h r hr => (zN hcl hlp).up 0 r hr, fun f fn id body l h r hr => (zb hcl hlp).up 0 r hr⟩
theorem xU {α : Type} {g : Nat -> Option α} (hm : ∀ n r, g n = some r -> g (n + 1) = some r) : Ch g (zf g) := by
 have hmono : ∀ n k r, g n = some r -> g (n + k) = some r := by
  intro n k r hr
  induction k with
  | zero => exact hr
  | succ k ih => exact hm _ _ ih
 refine ⟨hm, fun r => ⟨fun h => ?_, fun ⟨n, hn⟩ => ?_⟩⟩
 ·unfold zf at h
  split at h
  ·rename_i hx
   cases h
   exact Lw hx
  · cases h
 ·unfold zf
  have hx : ∃ r n, g n = some r := ⟨r, n, hn⟩;rw [dif_pos hx];obtain ⟨m, hm'⟩ := Lw hx;have h1 := hmono n m _ hn;have h2 := hmono m n _ hm';rw [Nat.add_comm] at h2;rw [h1] at h2;exact h2.symm
theorem BA (f : Nat) (as : List V) (h : H) : Ch (fun n => (KJ E n).1 f as h) (call E f as h) := xU fun n r => (RN n).1 f as h r
theorem T9 (f : Nat) (fn : Func) (id : Nat) (body : Code) (l : List V) (h : H) : Ch (fun n => (KJ E n).2 f fn id body l h) (loop E f fn id body l h) := xU fun n r => (RN n).2 f fn id body l h r
theorem zI {α : Type} {g : Nat -> Option α} {x y : Option α} (h1 : Ch g x) (h2 : Ch (fun n => g (n + 1)) y) : x = y := by
 have key : ∀ r, x = some r ↔ y = some r := fun r => by
  rw [h1.lim, h2.lim];constructor
  · rintro ⟨n, hn⟩; exact ⟨n, h1.up n r hn⟩
  · rintro ⟨n, hn⟩; exact ⟨n + 1, hn⟩
 cases x with
 | none =>
  cases y with
  | none => rfl
  | some b => exact ((key b).2 rfl)
 | some a => exact ((key a).1 rfl).symm
theorem Qo (f : Nat) (as : List V) (h : H) : call E f as h = Nn E (call E) (loop E) f as h :=
 zI (BA f as h) (zN (fun f as h => BA f as h) fun f fn id body l h => T9 f fn id body l h)
theorem Ql (f : Nat) (fn : Func) (id : Nat) (body : Code) (l : List V) (h : H) : loop E f fn id body l h = Bq E (call E) (loop E) f fn id body l h :=
 zI (T9 f fn id body l h) (zb (fun f as h => BA f as h) fun f fn id body l h => T9 f fn id body l h)
theorem call_sound {W0 : St} {base : Nat} (hE : EnvOk P E) {f : Nat} {args : List V} {h h' : H} {v : V} (hc : call E f args h = some (v, h')) : U5 P W0 base f args h v h' := by
 obtain ⟨n, hn⟩ := ((BA f args h).lim _).1 hc;exact (VP hE n W0 base).1 f args h v h' hn
end Vm
#print axioms Vm.call_sound
