/-
  A region that draws its order, run in an order that was looked over.
-/
import Derived.Test.YtmenpfhpflnbnaaGreatVmI
import Derived.Test.YtmenpfhpflnbnaaGreatWLast
set_option linter.unusedVariables false
set_option linter.unusedSimpArgs false
open Array renaming setIfInBounds_comm->Oy
open Bool renaming and_eq_true->HE,not_eq_true'->EC
open List renaming all_cons->HG,contains_eq_mem->D0,getElem?_eq_getElem->HI,length_cons->HM
open Nat renaming lt_of_lt_of_le->HJ
open Option renaming bind_eq_some_iff->Hv,bind_some->HC,getD_some->FI,isNone_iff_eq_none->Dz,isSome_iff_exists->D9,map_some->Ez
open Go.Region renaming free->SG,free_spec->IZ,noSelect_spec->IY,ready->FE,wanted->Fx
namespace Vm
open Go Go.Proofs.YtmenpfhpflnbnaaGreatW.PrintLast
variable {W0 : St} {base : Nat} {ρ : Rho} {h : H} {w w' : World} {P : Program} {E : Env} {R : Type}
theorem P7 (hT : X5 P E) {cl : Option Nat -> Nat -> List V -> H -> (V -> H -> Option R) -> Option R} {o : Oper} {F : Fr} {k : V -> H -> Option R} {r : R} (hr : J9 E cl F h o k = some r) (hq : Jk E o.op = true) :
  ∃ v, k v h = some r /\ QMK P W0 base (Mq E o.op) o F h v := by
 unfold J9 at hr
 split at hr
 ·rename_i c hop
  rw [hop] at hq;have hmm : Mq E o.op = true := by rw [hop]; unfold Mq; exact hq
  simp only [Jk] at hq
  split at hq
  ·rename_i hcal
   unfold Y7 at hr;simp only [hcal, Hv] at hr;obtain ⟨as, h2, h3⟩ := hr
   split at h3
   ·simp only [Hv] at h3
    obtain ⟨t, h4, ti, h5, h3⟩ := h3;rw [h4] at hq;simp only [h5] at hq
    split at h3
    ·rename_i kt et hd
     rw [hd] at hq; cases hq
    rw [Hv] at h3;obtain ⟨v, h6, h7⟩ := h3;refine ⟨_, h7, fun ρ a w rel hF => ?_⟩
    obtain ⟨u, q1, q2⟩ := jj (YG hF h2);obtain ⟨q, g1, g2⟩ := xD (ty := o.type) hT h4 h5 q2 h6;refine ⟨q, g1, fun w' _ => ?_⟩
    have : c.args.map a.eval = #[u] := by rw [<- Array.toList_inj, Array.toList_map, q1]
    simp only [execOp, hop, resolve, hcal, Sem.run_bind, Sem.run_pure, Result.andThen_ok, invoke, builtin, this, g2]
   all_goals contradiction
  · cases hq
 · exact MW hT hr hq
theorem B1 (hT : X5 P E) {cl : Option Nat -> Nat -> List V -> H -> (V -> H -> Option R) -> Option R} {all : Array Oper} {o : Oper} {F : Fr} {k : Fr -> H -> Option R} {r : R} (hr : gOp E cl all F h o k = some r) (hq : Jk E o.op = true) :
  ∃ F0 v, k (KB F0 o.dst v) h = some r /\ (o.guard = none -> F0 = F) /\ ∀ (ρ : Rho) (a : Act) (w : World), RelQ W0 base ρ h w -> FR ρ F a.tmps -> ∃ x, VR ρ v x /\ FR ρ F0 a.tmps /\
   ((Fx o (yielded all a.tmps) = true /\ ∀ w', (Mq E o.op = true \/ X2 base ρ h w w') -> (execOp a.eval o).run P w' = .ok (.value x) w') \/ (Fx o (yielded all a.tmps) = false /\ x = undef)) := by
 unfold gOp at hr
 split at hr
 ·rename_i hg
  obtain ⟨v, g1, g2⟩ := P7 (W0 := W0) (base := base) (P := P) hT hr hq;refine ⟨F, v, XM g1, fun _ => rfl, fun ρ a w rel hF => ?_⟩
  obtain ⟨x, q1, q2⟩ := g2 ρ a w rel hF;exact ⟨x, q1, hF, .inl ⟨by simp [Fx, hg], q2⟩⟩
 ·rename_i j want hg
  simp only [Hv] at hr;obtain ⟨t, h1, v, h2, h3⟩ := hr
  rcases Rf h3 with ⟨b, rfl, h4⟩ | ⟨rfl, h4⟩
  case inr =>
   replace h4 : k (KB ((t, .tup []) :: F) o.dst (.tup [])) h = some r := by cases hf : free all j <;> rw [hf] at h4 <;> first | exact h4 | cases h4
   refine ⟨_, _, h4, fun hn => (by rw [hg] at hn; cases hn), fun ρ a w rel hF => ⟨undef, PN ρ, hF.cons (hF t _ h2), .inr ⟨?_, rfl⟩⟩⟩
   simp [Fx, hg, VC h1 (hF t _ h2).unit]
  have hy : ∀ {ρ : Rho} {a : Act}, FR ρ F a.tmps -> yielded all a.tmps j = some b := fun hF => VD h1 (hF t _ h2).bool
  have hFb : ∀ {ρ : Rho} {a : Act}, FR ρ F a.tmps -> FR ρ ((t, .s (.bool b)) :: F) a.tmps := fun hF => hF.cons (hF t _ h2)
  by_cases hw : want = b
  ·have h5 : J9 E cl ((t, .s (.bool b)) :: F) h o (fun v h => tyV (qd E o) v fun v => k (KB ((t, .s (.bool b)) :: F) o.dst v) h) = some r := by
    subst hw; cases want <;> exact h4
   obtain ⟨v, g1, g2⟩ := P7 (W0 := W0) (base := base) (P := P) hT h5 hq;refine ⟨_, v, XM g1, fun hn => (by rw [hg] at hn; cases hn), fun ρ a w rel hF => ?_⟩
   obtain ⟨x, q1, q2⟩ := g2 ρ a w rel (hFb hF);exact ⟨x, q1, hFb hF, .inl ⟨by simp [Fx, hg, hy hF, hw], q2⟩⟩
  ·have h5 : k (KB ((t, .s (.bool b)) :: F) o.dst (.tup [])) h = some r := by
    cases b <;> cases want <;> first | exact h4 | (simp at hw)
   refine ⟨_, _, h5, fun hn => (by rw [hg] at hn; cases hn), fun ρ a w rel hF => ⟨undef, PN ρ, hFb hF, .inr ⟨?_, rfl⟩⟩⟩
   simp [Fx, hg, hy hF];exact fun h => hw h.symm
def Ua (p : Nat × Nat) : Bool := p.2 == 2 || p.2 == 3
def Gc : List (Nat × Nat) -> Option Nat
 | (i, 6) :: _ => some i
 | (_, 5) :: r => Gc r
 | (_, 3) :: r => Gc r
 | _ => none
def MI : List (Nat × Nat) -> Option Nat
 | (i, 7) :: _ => some i
 | (_, 8) :: r => MI r
 | _ => none
def zD (pm : Option Nat -> Bool) (all : Array Oper) (ds : List Nat) (l : Array Bool) (c i : Nat) : Bool := (FE .any all l).contains c && (FE .any all l).all (fun j => j == c || j == i) && FE .any all (l.setIfInBounds i true) == [c] && c != i && !ds.contains c && !ds.contains i && ((all[i]?).map fun oi => Nm pm oi && oi.dst.isSome && ((all[c]?).map fun oc => oc.guard.isNone && oc.dst != oi.dst && (zU oi).all fun t => oc.dst != some t).getD false).getD false
def RB (E : Env) (o : Oper) : Bool := o.guard.isNone && o.dst.isSome && match o.op with
 | .alloc t => (E.ty t).isSome
 | _ => false
def wD (all : Array Oper) (l : Array Bool) (i a : Nat) : Bool := (FE .any all (l.setIfInBounds a true)).contains i && SG .any all (l.setIfInBounds a true) i && i != a && ((all[i]?).map fun o => o.guard.isNone && o.dst != Ub all a).getD false
def wB (E : Env) (pm : Option Nat -> Bool) (all : Array Oper) (ds : List Nat) (l : Array Bool) (i a : Nat) : Bool := (FE .any all l).contains i && (FE .any all l).all (fun j => j == i || j == a) && FE .any all (l.setIfInBounds a true) == [i] && i != a && !ds.contains i && !ds.contains a && ((all[a]?).map fun o => RB E o).getD false && ((all[i]?).map fun o => Nm pm o && o.dst != Ub all a).getD false
def Jc (E : Env) (pm : Option Nat -> Bool) (all : Array Oper) (ds : List Nat) : List (Nat × Nat) -> Array Bool -> Bool
 | [], l => FE .any all l == []
 | (i, 0) :: r, l => (FE .any all l).contains i && SG .any all l i && Region.closedB .any all l && Region.lastB .any all l ds i && ((all[i]?).map fun o => Jk E o.op).getD false && Jc E pm all ds r (l.setIfInBounds i true)
 | (i, 1) :: r, l => FE .any all l == [i] && !ds.contains i && Jc E pm all ds r (l.setIfInBounds i true)
 | (i, 2) :: r, l => FE .any all l == [i] && ds.contains i && r.all Ua && Jc E pm all ds r (l.setIfInBounds i true)
 | (i, 3) :: r, l => (FE .any all l).contains i && SG .any all l i && ((all[i]?).map fun o => Jk E o.op && Mq E o.op).getD false && r.all (fun p => p.2 != 0) && Jc E pm all ds r (l.setIfInBounds i true) && (match Gc r with | none => true | some a => wD all l i a)
 | (i, 4) :: r, l => (FE .any all l).contains i && SG .any all l i && Region.closedB .any all l && Region.lastB .any all l ds i && ((all[i]?).map fun o => Jk E o.op).getD false && r.all (fun p => p.2 != 0) && Jc E pm all ds r (l.setIfInBounds i true)
 | (i, 5) :: r, l => (match Gc r with | none => false | some a => wB E pm all ds l i a) && r.all (fun p => p.2 != 0) && Jc E pm all ds r (l.setIfInBounds i true)
 | (i, 6) :: r, l => FE .any all l == [i] && !ds.contains i && r.all (fun p => p.2 != 0) && ((all[i]?).map fun o => RB E o).getD false && Jc E pm all ds r (l.setIfInBounds i true)
 | (i, 7) :: r, l => FE .any all l == [i] && !ds.contains i && r.all (fun p => p.2 != 0) && ((all[i]?).map fun o => Nm pm o).getD false && Jc E pm all ds r (l.setIfInBounds i true)
 | (c, 8) :: r, l => (match MI r with | none => false | some i => zD pm all ds l c i) && r.all (fun p => p.2 != 0) && Jc E pm all ds r (l.setIfInBounds c true)
 | (_, _) :: _, _ => false
def xX (s : List (Nat × Nat)) : List Nat := (s.filter fun p => p.2 == 2).map (·.1)
def pmE (E : Env) (f : Nat) (d : Option Nat) : Bool := match d with
 | some t => E.mode f t == 1 || E.mode f t == 3
 | none => false
def xM (E : Env) (f : Nat) (all : Array Oper) (s : List (Nat × Nat)) : Bool :=
 Region.noSelect all && s.length == all.size && Jc E (pmE E f) all (xX s) s (Array.replicate all.size false)
def NP (Q : Exit -> Act -> World -> Prop) : Prop := ∀ c a w, ¬ Q (.panic c) a w
theorem FzR.sca {ρ : Rho} {mu : Nat -> Option (Array Value)} {s : S} {x : Value} (h : SR ρ s x) (hs : ZL s = true) : SR ⟨ρ.bl, mu⟩ s x := by
 have hcr : ∀ {c : List (Nat × Nat)} {l : List Value}, CR ρ c l -> CR ⟨ρ.bl, mu⟩ c l := by
  intro c
  induction c with
  | nil => intro l h; cases l <;> exact h
  | cons p c ih =>
   intro l h
   cases l with
   | nil => exact h
   | cons v l => exact ⟨h.1, ih h.2⟩
 cases s with
 | no => exact h
 | bool b => exact h
 | int k n => exact h
 | str s => exact h
 | nofn => exact h
 | ptr a => cases a <;> exact h
 | sl a n => cases a <;> exact h
 | fn f c => obtain ⟨xs, h1, h2⟩ := h; exact ⟨xs, h1, hcr h2⟩
 | mp b => cases b <;> exact h
 | fs rows =>
  cases rows with
  | nil =>
   cases (show FzR ρ.mu (.fs []) x from h) with
   | fs0 a cap => exact FzR.fs0 a cap
   | fs _ h0 => exact absurd rfl h0
  | cons r rows => simp [ZL] at hs
 | fp row o => simp [ZL] at hs
theorem SRs.sca {ρ : Rho} {mu : Nat -> Option (Array Value)} : ∀ {c : List S} {l : List Value}, SRs ρ c l -> c.all ZL = true -> SRs ⟨ρ.bl, mu⟩ c l
 | [], [], _, _ => trivial
 | s :: c, x :: l, h, hs => by
  simp only [HG, HE] at hs;exact ⟨FzR.sca h.1 hs.1, SRs.sca h.2 hs.2⟩
 | [], _ :: _, h, _ => h.elim
 | _ :: _, [], h, _ => h.elim
theorem AR.sca {ρ : Rho} {mu : Nat -> Option (Array Value)} {a : A} {x : Value} (h : AR ρ a x) (hs : RM a = true) : AR ⟨ρ.bl, mu⟩ a x := by
 cases a with
 | s s => exact fun hn => FzR.sca (h hn) hs
 | agg cs => obtain ⟨xs, h1, h2⟩ := h; exact ⟨xs, h1, h2.sca hs⟩
theorem ARs.sca {ρ : Rho} {mu : Nat -> Option (Array Value)} : ∀ {c : List A} {l : List Value}, ARs ρ c l -> c.all RM = true -> ARs ⟨ρ.bl, mu⟩ c l
 | [], [], _, _ => trivial
 | s :: c, x :: l, h, hs => by
  simp only [HG, HE] at hs;exact ⟨AR.sca h.1 hs.1, ARs.sca h.2 hs.2⟩
 | [], _ :: _, h, _ => h.elim
 | _ :: _, [], h, _ => h.elim
theorem VR.sca {ρ : Rho} {mu : Nat -> Option (Array Value)} {v : V} {x : Value} (h : VR ρ v x) (hs : scaV v = true) : VR ⟨ρ.bl, mu⟩ v x := by
 cases v with
 | s s => exact fun hn => FzR.sca (h hn) hs
 | agg cs => obtain ⟨xs, h1, h2⟩ := h; exact ⟨xs, h1, h2.sca hs⟩
 | tup vs => obtain ⟨xs, h1, h2⟩ := h; exact ⟨xs, h1, h2.sca hs⟩
theorem N8 {F : Fr} : ∀ {l : List Nat} {h : H} {k : H -> Option R} {r : R}, UF F l h k = some r -> ∃ h0, k h0 = some r /\ h0.n = h.n /\ Zj h0 h
 | [], h, k, r, hr => ⟨h, hr, rfl, Nat.le_refl _, fun _ _ => .inr ⟨rfl, rfl⟩⟩
 | i :: l, h, k, r, hr => by
  have key : ∀ b, UF F l (h.put b .dead) k = some r -> ∃ h0, k h0 = some r /\ h0.n = h.n /\ Zj h0 h := fun b hr => by
   obtain ⟨h0, g1, g2, g3⟩ := N8 hr;refine ⟨h0, g1, g2, g3.1, fun c hc => ?_⟩
   rcases g3.2 c hc with g4 | g4
   · exact .inl g4
   ·by_cases hcb : c = b
    ·subst hcb
     left; rw [<- g4.1]; simp [H.put]
    ·simp only [H.put, if_neg hcb] at g4
     exact .inr g4
  simp only [UF, Hv] at hr;obtain ⟨v, h1, h2⟩ := hr;unfold PW at h2
  split at h2
  · exact key _ h2
  · exact key _ h2
  · exact N8 h2
  · cases h2
theorem Ra {F : Fr} : ∀ {l : List Nat} {L : Fr}, PT F l = some L -> ∀ {e : Nat} {u : V}, Ze L e = some u -> Ze F e = some u
 | [], L, hL, e, u, he => by cases hL; cases he
 | i :: l, L, hL, e, u, he => by
  simp only [PT, Hv] at hL;obtain ⟨v, h1, L', h2, h3⟩ := hL
  cases h3
  simp only [Ze] at he
  cases hie : i == e with
  | true => rw [hie] at he; cases he; rw [<- eq_of_beq hie]; exact h1
  | false => rw [hie] at he; exact Ra h2 he
theorem ze {p : V -> Bool} : ∀ {L : Fr}, L.all (fun q => p q.2) = true -> ∀ {e : Nat} {u : V}, Ze L e = some u -> p u = true
 | [], _, e, u, he => by cases he
 | (i, v) :: L, ha, e, u, he => by
  simp only [HG, HE] at ha;simp only [Ze] at he
  cases hie : i == e with
  | true => rw [hie] at he; cases he; exact ha.1
  | false => rw [hie] at he; exact ze ha.2 he
theorem uo (A B : Fr) (d : Option Nat) (v : V) : KB A d v ++ B = KB (A ++ B) d v := by cases d <;> rfl
theorem zd : ∀ {A B : Fr} {e : Nat} {u : V}, Ze (A ++ B) e = some u -> Ze A e = some u \/ Ze B e = some u
 | [], B, e, u, h => .inr h
 | (i, v) :: A, B, e, u, h => by
  simp only [List.cons_append, Ze] at h ⊢
  cases hie : i == e with
  | true => rw [hie] at h; exact .inl h
  | false => rw [hie] at h; exact zd h
theorem FR.app {A B : Fr} {tmps : Array Value} (hA : FR ρ A tmps) (hB : FR ρ B tmps) : FR ρ (A ++ B) tmps := fun e u he => (zd he).elim (hA e u) (hB e u)
def jH (P : Program) (W0 : St) (base nt : Nat) (all : Array Oper) (ds : List Nat) (h0 : H) (s : List (Nat × Nat)) (l : Array Bool) (F : Fr) (h : H) (F' : Fr) (h' : H) : Prop :=
 ∀ (ρ0 : Rho) (w0 : World), ρ0.bl.length = h0.n -> RelQ W0 base ρ0 h0 w0 -> ∀ (ρ : Rho) (a : Act) (w : World), Le ρ0 ρ -> Rel W0 base ρ h w -> FR ρ F a.tmps -> nt <= a.tmps.size -> a.defers = [] ->
  ((Zj h0 h /\ X2 base ρ0 h0 w0 w /\ (FR ⟨ρ.bl, ρ0.mu⟩ F a.tmps \/ s.all (fun p => p.2 != 0) = true)) \/ s.all Ua = true) -> ∀ (Q : Exit -> Act -> World -> Prop), NP Q -> (∀ a' w', Wf W0 base nt ρ h w F' h' a' w' -> Q .normal a' w') ->
  wpAnyLast P .any all Q (fun w' => X2 base ρ0 h0 w0 w') ds s.length l a w
def wZ (P : Program) (W0 : St) (base nt : Nat) (E : Env) (all : Array Oper) (ds : List Nat) (h0 : H) (s : List (Nat × Nat)) (l : Array Bool) (F : Fr) (h : H) (F' : Fr) (h' : H) : Prop :=
 ∀ (a : Nat) (oa : Oper) (t : TypeId) (ti : TI) (d : Nat), Gc s = some a -> all[a]? = some oa -> oa.op = .alloc t -> oa.guard = none -> E.ty t = some ti -> oa.dst = some d -> Ze F d = none /\
 ∀ (ρ0 : Rho) (w0 : World), ρ0.bl.length = h0.n -> RelQ W0 base ρ0 h0 w0 -> ∀ (ρ : Rho) (ac : Act) (w : World), Le ρ0 ρ -> Rel W0 base ρ (h.new 0 ti.zero) w -> FR ρ F ac.tmps -> VR ρ (.s (.ptr (some (h.n, 0)))) (ac.tmps.getD d undef) -> nt <= ac.tmps.size -> ac.defers = [] ->
  Zj h0 h -> X2 base ρ0 h0 w0 w -> ∀ (Q : Exit -> Act -> World -> Prop), NP Q -> (∀ a' w', Wf W0 base nt ρ (h.new 0 ti.zero) w F' h' a' w' -> Q .normal a' w') ->
  wpAnyLast P .any all Q (fun w' => X2 base ρ0 h0 w0 w') ds (s.length - 1) (l.setIfInBounds a true) ac w
def Q2L (P : Program) (W0 : St) (base nt : Nat) (all : Array Oper) (ds : List Nat) (h0 : H) (s : List (Nat × Nat)) (l : Array Bool) (F : Fr) (h : H) (F' : Fr) (h' : H) : Prop :=
 ∀ (i : Nat) (oi : Oper) (d : Nat), MI s = some i -> all[i]? = some oi -> oi.dst = some d -> Ze F d = none /\ ∃ v, oi.guard = none /\ (∀ (F2 : Fr) (g : H), (∀ t ∈ zU oi, Ze F2 t = Ze F t) -> EOK P W0 base oi F2 g v g) /\
 ∀ (ρ0 : Rho) (w0 : World), ρ0.bl.length = h0.n -> RelQ W0 base ρ0 h0 w0 -> ∀ (ρ : Rho) (ac : Act) (w : World), Le ρ0 ρ -> Rel W0 base ρ h w -> FR ρ F ac.tmps -> VR ρ v (ac.tmps.getD d undef) -> nt <= ac.tmps.size -> ac.defers = [] ->
  Zj h0 h -> X2 base ρ0 h0 w0 w -> ∀ (Q : Exit -> Act -> World -> Prop), NP Q -> (∀ a' w', Wf W0 base nt ρ h w F' h' a' w' -> Q .normal a' w') ->
  wpAnyLast P .any all Q (fun w' => X2 base ρ0 h0 w0 w') ds (s.length - 1) (l.setIfInBounds i true) ac w
theorem W4 (e : Nat) (cs : List S) : Zj h (h.new e cs) := ⟨Nat.le_succ _, fun b hb => .inr ⟨if_neg (Nat.ne_of_lt hb), rfl⟩⟩
theorem UG {h0 h1 h2 : H} (a : Zj h0 h1) (b : Zj h1 h2) : Zj h0 h2 := ⟨Nat.le_trans a.1 b.1, fun c hc => by
 rcases a.2 c hc with g | ⟨g1, g2⟩
 · exact .inl g
 ·rcases b.2 c (HJ hc a.1) with g | ⟨g3, g4⟩
  · exact .inl (by rw [<- g1]; exact g)
  · exact .inr ⟨g3.trans g1, g4.trans g2⟩⟩
theorem Q24 {nt : Nat} {all : Array Oper} {o : Oper} {F : Fr} {v : V} {h' : H} (hnt : ∀ d, o.dst = some d -> d < nt) (hg : o.guard = none) (g2 : EOK P W0 base o F h v h') : GOK P W0 base nt all o F h (KB F o.dst v) h' := by
 intro ρ a w rel hF hs hd next Q hn;rw [if_pos (by simp [Fx, hg])]
 exact g2 ρ a w rel hF next Q fun x ρ' w' q1 q2 q3 q4 => hn _ ρ' w' q1 ((hF.mono q1).put q2 fun d hdd => HJ (hnt d hdd) hs) (by rw [XN]; exact hs) (by rw [X8]; exact hd) q3 q4 fun e he => put_ne he
theorem Jj {ρ0 ρ' : Rho} {h0 h1 : H} {w0 : World} (hle : Le ρ0 ρ) (rel : Rel W0 base ρ h w) (q1 : Le ρ ρ') (q5 : Rel W0 base ρ' h1 w') (q6 : Frm ρ h h1 w w') (he0 : Zj h0 h) (he1 : Zj h0 h1) (hsm : X2 base ρ0 h0 w0 w) : X2 base ρ0 h0 w0 w' := by
 refine ⟨fun j hj => by rw [q5.old j hj, <- rel.old j hj]; exact hsm.1 j hj, fun b x e cs hb hx hg => ?_, fun _ k y hk => q5.fz k y ((hle.trans q1).2 k y hk)⟩
 have hnd : ∀ {h' : H}, Zj h0 h' -> h'.g b = h0.g b /\ h'.v b = h0.v b := fun he => (he.2 b hb).resolve_left (fun hd => by rw [hd] at hg; cases hg)
 rw [q6.2.2.2 b x (hle.1 _ _ hx) (by rw [(hnd he0).1]; exact Blk.live hg) (by rw [(hnd he1).2, (hnd he0).2])]
 exact hsm.2.1 b x e cs hb hx hg
theorem wu {s : List (Nat × Nat)} {a : Nat} (h : MI s = some a) : s.length = s.length - 1 + 1 := by
 cases s with
 | nil => cases h
 | cons p s => simp
theorem zC {s : List (Nat × Nat)} {a : Nat} (h : Gc s = some a) : s.length = s.length - 1 + 1 := by
 cases s with
 | nil => cases h
 | cons p s => simp
theorem BQ {o : Oper} (h : RB E o = true) : ∃ t ti d, o.op = .alloc t /\ o.guard = none /\ E.ty t = some ti /\ o.dst = some d := by
 unfold RB at h;simp only [HE, Dz] at h;obtain ⟨⟨hg, hd⟩, h⟩ := h;obtain ⟨d, hd⟩ := D9.1 hd
 split at h
 ·rename_i t hop
  obtain ⟨ti, ht⟩ := D9.1 h;exact ⟨t, ti, d, hop, hg, ht, hd⟩
 · cases h
theorem Pv (hT : X5 P E) {o : Oper} {t : TypeId} {ti : TI} (hop : o.op = .alloc t) (ht : E.ty t = some ti) (F : Fr) (h : H) : EOK P W0 base o F h (.s (.ptr (some (h.n, 0)))) (h.new 0 ti.zero) := by
 obtain ⟨v, h', g1, g2⟩ := xQ (W0 := W0) (base := base) (P := P) (E := E) hT (o' := o) (F := F) (h := h) (k := fun v h => some (v, h)) (r := (.s (.ptr (some (h.n, 0))), h.new 0 ti.zero)) (by rw [hop]; simp only [op1, ht, HC]) (by rw [hop])
 cases g1
 exact g2
theorem wY {cl : Option Nat -> Nat -> List V -> H -> (V -> H -> Option R) -> Option R} {all : Array Oper} {o : Oper} {t : TypeId} {ti : TI} {d : Nat} (hop : o.op = .alloc t) (hg : o.guard = none) (ht : E.ty t = some ti) (hd : o.dst = some d) {F : Fr} {k : Fr -> H -> Option R} {r : R} (hr : gOp E cl all F h o k = some r) : k (KB F (some d) (.s (.ptr (some (h.n, 0))))) (h.new 0 ti.zero) = some r := by
 unfold gOp at hr;rw [hg] at hr;simp only [J9, hop, op1, ht, HC, hd] at hr;exact XM hr
theorem FR.less {F : Fr} {tmps : Array Value} {d : Nat} {v : V} (hF : FR ρ (KB F (some d) v) tmps) (hn : Ze F d = none) : FR ρ F tmps := fun e u he => hF e u (by
 rw [Uw, if_neg (fun hde => by rw [hde, he] at hn; cases hn)]; exact he)
theorem FR.more {F : Fr} {tmps : Array Value} {d : Nat} {v : V} (hF : FR ρ F tmps) (hv : VR ρ v (tmps.getD d undef)) : FR ρ (KB F (some d) v) tmps := fun e u he => by
 rw [Uw] at he
 by_cases hde : d = e
 · rw [if_pos hde] at he; cases he; rw [<- hde]; exact hv
 · rw [if_neg hde] at he; exact hF e u he
theorem NU {nt : Nat} {all : Array Oper} {ds : List Nat} {h0 : H} {i kd : Nat} {s : List (Nat × Nat)} {l : Array Bool} {F F1 F' : Fr} {h1 h' : H} {o : Oper} (ho : all[i]? = some o) (hrd : FE .any all l = [i]) (hG : GOK P W0 base nt all o F h F1 h1)
  (hfr : ∀ e u, Ze F1 e = some u -> o.dst ≠ some e -> Ze F e = some u \/ scaV u = true) (hdr : s.all (fun p => p.2 != 0) = true \/ (∀ d u, o.dst = some d -> Ze F1 d = some u -> scaV u = true) \/ i ∈ ds)
  (hcase : (i ∉ ds /\ Zj h0 h1) \/ (i ∈ ds /\ s.all Ua = true)) (hk0 : kd ≠ 0) (hkd : i ∉ ds -> kd ≠ 2 /\ kd ≠ 3) (g2 : jH P W0 base nt all ds h0 s (l.setIfInBounds i true) F1 h1 F' h') : jH P W0 base nt all ds h0 ((i, kd) :: s) l F h F' h' := by
 refine fun ρ0 w0 hl0 rel0 ρ a w hle rel hF hs hd hph Q hQ hn => wpAnyLast_all hrd (by simp) fun i' hi' => ?_
 obtain rfl : i' = i := by simpa using hi'
 replace hph : (Zj h0 h /\ X2 base ρ0 h0 w0 w /\ (FR ⟨ρ.bl, ρ0.mu⟩ F a.tmps \/ s.all (fun p => p.2 != 0) = true)) \/ (i' ∈ ds /\ s.all Ua = true) := by
  rcases hph with ⟨p1, p2, p3⟩ | p1
  · exact .inl ⟨p1, p2, p3.imp id fun hh => by simp only [HG, HE] at hh; exact hh.2⟩
  ·simp only [HG, HE] at p1
   refine .inr ⟨?_, p1.2⟩
   by_cases hin : i' ∈ ds
   · exact hin
   ·obtain ⟨c1, c2⟩ := hkd hin
    simp [Ua, c1, c2] at p1
 unfold wpOp;simp only [ho];have key := hG ρ a w rel hF hs hd (fun a' w' => (i' ∉ ds -> X2 base ρ0 h0 w0 w -> X2 base ρ0 h0 w0 w') /\ wpAnyLast P .any all Q (fun w' => X2 base ρ0 h0 w0 w') ds s.length (l.setIfInBounds i' true) a' w') Q (by
  intro a' ρ' w' q1 q2 q3 q4 q5 q6 q7;have hnext : ((Zj h0 h1 /\ X2 base ρ0 h0 w0 w' /\ (FR ⟨ρ'.bl, ρ0.mu⟩ F1 a'.tmps \/ s.all (fun p => p.2 != 0) = true)) \/ s.all Ua = true) := by
   rcases hcase with ⟨c1, c2⟩ | ⟨c1, c2⟩
   ·rcases hph with ⟨p1, p2, p3⟩ | ⟨p1, p2⟩
    ·refine .inl ⟨c2, Jj hle rel q1 q5 q6 p1 c2 p2, ?_⟩
     rcases hdr with hsc | hsc | hsc
     · exact .inr hsc
     ·rcases p3 with p3 | p3
      ·refine .inl fun e u he => ?_
       by_cases hde : o.dst = some e
       · exact (q2 e u he).sca (hsc e u hde he)
       ·rcases hfr e u he hde with h5 | h5
        ·rw [q7 e hde]
         exact VR.mono (ρ := ⟨ρ.bl, ρ0.mu⟩) (ρ' := ⟨ρ'.bl, ρ0.mu⟩) ⟨q1.1, fun _ _ h => h⟩ (p3 e u h5)
        · exact (q2 e u he).sca h5
      · exact .inr p3
     · exact absurd hsc c1
    · exact .inr p2
   · exact .inr c2
  refine ⟨fun hnd hsm => ?_, g2 ρ0 w0 hl0 rel0 ρ' a' w' (hle.trans q1) q5 q2 q3 q4 hnext Q hQ fun a2 w2 ⟨ρ2, p1, p2, p3, p4, p5, p6⟩ => hn a2 w2 ⟨ρ2, q1.trans p1, p2, p3, p4, p5, Frm.trans q1 rel.len q6 p6⟩⟩
  rcases hcase with ⟨c1, c2⟩ | ⟨c1, c2⟩
  ·rcases hph with ⟨p1, p2, p3⟩ | ⟨p1, p2⟩
   · exact Jj hle rel q1 q5 q6 p1 c2 p2
   · exact absurd p1 hnd
  · exact absurd c1 hnd)
 split
 · rename_i hw; rw [if_pos hw] at key; exact .inl key
 · rename_i hw; rw [if_neg hw] at key; exact key
theorem JE (hT : X5 P E) {cl : Option Nat -> Nat -> List V -> H -> (V -> H -> Option R) -> Option R} (hcl : VA P W0 base cl) {pm : Option Nat -> Bool} (hpl : MlP P W0 base pm cl) {nt : Nat} {all : Array Oper} (hnt : ∀ (i : Nat) (o : Oper), all[i]? = some o -> ∀ d, o.dst = some d -> d < nt) (hsel : Region.noSelect all = true) {ds : List Nat} {h0 : H} :
  ∀ (s : List (Nat × Nat)) (l : Array Bool), Jc E pm all ds s l = true -> ∀ {F : Fr} {h : H} {k : Fr -> H -> Option R} {r : R}, QP E cl all h0 s F h k = some r ->
   ∃ F' h', k F' h' = some r /\ jH P W0 base nt all ds h0 s l F h F' h' /\ wZ P W0 base nt E all ds h0 s l F h F' h' /\ Q2L P W0 base nt all ds h0 s l F h F' h'
 | [], l, hok, F, h, k, r, hr => by
  refine ⟨F, h, hr, fun ρ0 w0 hl0 rel0 ρ a w hle rel hF hs hd hph Q hQ hn => ?_, fun a oa t ti d he => (by cases he), fun i oi d he => by cases he⟩
  simp only [Jc, beq_iff_eq] at hok;exact wpAnyLast_done hok (hn a w ⟨ρ, Le.refl _, hF, hs, hd, rel, Frm.refl _ _ _⟩) _
 | (i, kd) :: s, l, hok, F, h, k, r, hr => by
  match kd, hok, hr with
  | 0, hok, hr =>
   simp only [Jc, HE] at hok;obtain ⟨⟨⟨⟨⟨c1, c2⟩, c3⟩, c4⟩, c5⟩, c6⟩ := hok;simp only [QP, Hv] at hr;obtain ⟨o, ho, hr⟩ := hr;rw [ho] at c5;simp only [Ez, FI] at c5;obtain ⟨F0, v, k1, hF0, k2⟩ := B1 (W0 := W0) (base := base) (P := P) hT hr c5;obtain ⟨F', h', g1, g2, g3⟩ := JE hT hcl hpl hnt hsel s _ c6 k1;refine ⟨F', h', g1, fun ρ0 w0 hl0 rel0 ρ a w hle rel hF hs hd hph Q hQ hn => ?_, fun a oa t ti d he => (by cases he), fun i oi d he => by cases he⟩
   rcases hph with ⟨p1, p2, p3⟩ | p1
   case inr => simp [Ua] at p1
   case inl =>
    have p3 : FR ⟨ρ.bl, ρ0.mu⟩ F a.tmps := by
     rcases p3 with p3 | p3
     · exact p3
     · simp at p3
    have hle' : Le ρ0 ⟨ρ.bl, ρ0.mu⟩ := ⟨hle.1, fun _ _ h => h⟩
    have hb0 : ∀ {b : Nat} {y : BI}, b < h0.n -> ρ.bl[b]? = some y -> ρ0.bl[b]? = some y := by
     intro b y hb hy;obtain ⟨y0, hy0⟩ : ∃ y0, ρ0.bl[b]? = some y0 := ⟨_, HI (by omega)⟩
     have := hle.1 _ _ hy0;rw [hy] at this; cases this; exact hy0
    have relq : RelQ W0 base ⟨ρ.bl, ρ0.mu⟩ h0 w := {
     len := (rel.elder p1).len
     old := fun j hj => by rw [p2.1 j hj]; exact rel0.old j hj
     rw := fun b y e cs hb hy hg => by
      obtain ⟨c1, c, el, fr, c2, c3⟩ := rel0.rw b y e cs hb (hb0 hb hy) hg;exact ⟨c1, c, el, fr, by rw [p2.2.1 b y e cs hb (hb0 hb hy) hg]; exact c2, fun j s hs => by obtain ⟨x, d1, d2⟩ := c3 j s hs; exact ⟨x, d1, d2.mono hle'⟩⟩
     fz := p2.2.2 rel0.fz }
    obtain ⟨x, q1, q2, q3⟩ := k2 ⟨ρ.bl, ρ0.mu⟩ a w relq p3;have hup : Le ⟨ρ.bl, ρ0.mu⟩ ρ := ⟨fun _ _ h => h, hle.2⟩
    refine wpAnyLast_take ho hsel c2 c1 c3 c4 (fun c a w hq => absurd hq (hQ _ _ _)) (v := x) ?_ p2 ?_
    ·rcases q3 with ⟨q3, q4⟩ | ⟨q3, q4⟩
     ·refine .inl ⟨q3, fun w' hw' => q4 w' (.inr ⟨fun j hj => by rw [hw'.1 j hj, p2.1 j hj], fun b y e cs hb hy hg => ?_, fun _ => hw'.2.2 rel0.fz⟩)⟩
      rw [hw'.2.1 b y e cs hb (hb0 hb hy) hg, p2.2.1 b y e cs hb (hb0 hb hy) hg]
     · exact .inr ⟨q3, q4⟩
    ·have hFn := q2.put q1 (fun d hd => HJ (hnt i o ho d hd) hs)
     exact g2 ρ0 w0 hl0 rel0 ρ _ w hle rel (hFn.mono hup) (by rw [XN]; exact hs) (by rw [X8]; exact hd) (.inl ⟨p1, p2, .inl hFn⟩) Q hQ hn
  | 1, hok, hr =>
   simp only [Jc, HE, beq_iff_eq, EC, D0, decide_eq_false_iff_not] at hok;obtain ⟨⟨c1, c2⟩, c3⟩ := hok;simp only [QP, Hv] at hr;obtain ⟨o, ho, hr⟩ := hr;obtain ⟨F1, h1, k1, k2, k3⟩ := zm (W0 := W0) (base := base) (P := P) hT hcl (hnt i o ho) hr;unfold hchk at k1
   split at k1
   ·rename_i hext
    have hk : (s.all (fun p => p.2 != 0) = true \/ (∀ d u, o.dst = some d -> Ze F1 d = some u -> scaV u = true) \/ i ∈ ds) /\ QP E cl all h0 s F1 h1 k = some r := by
     cases hsa : s.all (fun p => p.2 != 0) with
     | true => rw [hsa] at k1; exact ⟨.inl rfl, k1⟩
     | false =>
      rw [hsa] at k1;simp only [cond_false, T5] at k1
      split at k1
      · rename_i hd; exact ⟨.inr (.inl fun d u hd' => by rw [hd] at hd'; cases hd'), k1⟩
      ·rename_i d hd
       rw [Hv] at k1;obtain ⟨v, e1, e2⟩ := k1
       cases hv : scaV v with
       | false => rw [hv] at e2; cases e2
       | true =>
        rw [hv] at e2;refine ⟨.inr (.inl fun d' u hd' hu => ?_), e2⟩
        rw [hd] at hd'; cases hd';rw [e1] at hu; cases hu; exact hv
    obtain ⟨F', h', g1, g2, _⟩ := JE hT hcl hpl hnt hsel s _ c3 hk.2;exact ⟨F', h', g1, NU ho c1 k2 k3 hk.1 (.inl ⟨c2, hext⟩) (by decide) (fun _ => ⟨by decide, by decide⟩) g2, fun a oa t ti d he => (by cases he), fun i oi d he => by cases he⟩
   · cases k1
  | 2, hok, hr =>
   simp only [Jc, HE, beq_iff_eq, D0, decide_eq_true_eq] at hok;obtain ⟨⟨⟨c1, c2⟩, c3⟩, c4⟩ := hok;simp only [QP, Hv] at hr;obtain ⟨o, ho, hr⟩ := hr;obtain ⟨F1, h1, k1, k2, k3⟩ := zm (W0 := W0) (base := base) (P := P) hT hcl (hnt i o ho) hr;obtain ⟨F', h', g1, g2, _⟩ := JE hT hcl hpl hnt hsel s _ c4 k1;exact ⟨F', h', g1, NU ho c1 k2 k3 (.inr (.inr c2)) (.inr ⟨c2, c3⟩) (by decide) (fun hh => absurd c2 hh) g2, fun a oa t ti d he => (by cases he), fun i oi d he => by cases he⟩
  | 3, hok, hr =>
   simp only [Jc, HE] at hok;obtain ⟨⟨⟨⟨⟨c1, c2⟩, c5⟩, c7⟩, c6⟩, c8⟩ := hok;simp only [QP, Hv] at hr;obtain ⟨o, ho, hr⟩ := hr;rw [ho] at c5;simp only [Ez, FI, HE] at c5;obtain ⟨F0, v, k1, hF0, k2⟩ := B1 (W0 := W0) (base := base) (P := P) hT hr c5.1;obtain ⟨F', h', g1, g2, g3⟩ := JE hT hcl hpl hnt hsel s _ c6 k1;refine ⟨F', h', g1, fun ρ0 w0 hl0 rel0 ρ a w hle rel hF hs hd hph Q hQ hn => ?_, fun a oa t ti d he ha hop hg hti hd => ?_, fun i oi d he => by cases he⟩
   case refine_2 =>
    have he' : Gc s = some a := he;rw [he'] at c8;simp only [wD, HE, ho, Ez, FI, Dz, bne_iff_ne, ne_eq] at c8;obtain ⟨⟨⟨e1, e2⟩, e3⟩, e4, e5⟩ := c8;have hda : Ub all a = some d := by unfold Ub; rw [ha]; exact hd
    rw [hda] at e5;have hFe := hF0 e4;subst hFe;obtain ⟨n1, n2⟩ := g3.1 a oa t ti d he' ha hop hg hti hd;rw [Kl e5] at n1;refine ⟨n1, fun ρ0 w0 hl0 rel0 ρ ac w hle rel hF hv hs hdf p1 p2 Q hQ hn => ?_⟩
    obtain ⟨x, q1, q2, q3⟩ := k2 ρ ac w (rel.elder (W4 _ _)) hF;rw [show ((i, 3) :: s).length - 1 = s.length - 1 + 1 from by simp only [HM]; rw [<- zC he']; rfl]
    refine wpAnyLast_any ho (IY hsel) (fun c a w hq => absurd hq (hQ _ _ _)) (v := x) _ _ _ _ (IZ ho e2) (by simpa using e1) ?_ ?_
    ·rcases q3 with ⟨q3, q4⟩ | ⟨q3, q4⟩
     · exact .inl ⟨q3, fun w' => q4 w' (.inl c5.2)⟩
     · exact .inr ⟨q3, q4⟩
    ·rw [Oy _ _ (Ne.symm e3)]
     exact n2 ρ0 w0 hl0 rel0 ρ _ w hle rel (q2.put q1 (fun d hd => HJ (hnt i o ho d hd) hs)) (by rw [put_ne e5]; exact hv) (by rw [XN]; exact hs) (by rw [X8]; exact hdf) p1 p2 Q hQ hn
   obtain ⟨x, q1, q2, q3⟩ := k2 ρ a w rel.q hF;refine wpAnyLast_any ho (IY hsel) (fun c a w hq => absurd hq (hQ _ _ _)) (v := x) _ _ _ _ (IZ ho c2) (by simpa using c1) ?_ ?_
   ·rcases q3 with ⟨q3, q4⟩ | ⟨q3, q4⟩
    · exact .inl ⟨q3, fun w' => q4 w' (.inl c5.2)⟩
    · exact .inr ⟨q3, q4⟩
   ·have hFn := q2.put q1 (fun d hd => HJ (hnt i o ho d hd) hs)
    refine g2 ρ0 w0 hl0 rel0 ρ _ w hle rel hFn (by rw [XN]; exact hs) (by rw [X8]; exact hd) ?_ Q hQ hn
    rcases hph with ⟨p1, p2, p3⟩ | p1
    · exact .inl ⟨p1, p2, .inr c7⟩
    · rw [HG, HE] at p1; exact .inr p1.2
  | 4, hok, hr =>
   simp only [Jc, HE] at hok;obtain ⟨⟨⟨⟨⟨⟨c1, c2⟩, c3⟩, c4⟩, c5⟩, c7⟩, c6⟩ := hok;simp only [QP, Hv] at hr;obtain ⟨o, ho, L, hL, hr⟩ := hr;rw [ho] at c5;simp only [Ez, FI] at c5
   cases hsc : L.all (fun p => scaV p.2) with
   | false => rw [hsc] at hr; cases hr
   | true =>
   rw [hsc] at hr;simp only [cond_true] at hr;obtain ⟨F0, v, k1, hF0, k2⟩ := B1 (W0 := W0) (base := base) (P := P) hT hr c5;rw [uo] at k1;obtain ⟨F', h', g1, g2, g3⟩ := JE hT hcl hpl hnt hsel s _ c6 k1;refine ⟨F', h', g1, fun ρ0 w0 hl0 rel0 ρ a w hle rel hF hs hd hph Q hQ hn => ?_, fun a oa t ti d he => (by cases he), fun i oi d he => by cases he⟩
   rcases hph with ⟨p1, p2, p3⟩ | p1
   case inr => simp [Ua] at p1
   case inl =>
    have hle' : Le ρ0 ⟨ρ.bl, ρ0.mu⟩ := ⟨hle.1, fun _ _ h => h⟩
    have hb0 : ∀ {b : Nat} {y : BI}, b < h0.n -> ρ.bl[b]? = some y -> ρ0.bl[b]? = some y := by
     intro b y hb hy;obtain ⟨y0, hy0⟩ : ∃ y0, ρ0.bl[b]? = some y0 := ⟨_, HI (by omega)⟩
     have := hle.1 _ _ hy0;rw [hy] at this; cases this; exact hy0
    have relq : RelQ W0 base ⟨ρ.bl, ρ0.mu⟩ h0 w := {
     len := (rel.elder p1).len
     old := fun j hj => by rw [p2.1 j hj]; exact rel0.old j hj
     rw := fun b y e cs hb hy hg => by
      obtain ⟨c1, c, el, fr, c2, c3⟩ := rel0.rw b y e cs hb (hb0 hb hy) hg;exact ⟨c1, c, el, fr, by rw [p2.2.1 b y e cs hb (hb0 hb hy) hg]; exact c2, fun j s hs => by obtain ⟨x, d1, d2⟩ := c3 j s hs; exact ⟨x, d1, d2.mono hle'⟩⟩
     fz := p2.2.2 rel0.fz }
    have hFL : FR ⟨ρ.bl, ρ0.mu⟩ L a.tmps := fun e u he => (hF e u (Ra hL he)).sca (ze hsc he)
    obtain ⟨x, q1, q2, q3⟩ := k2 ⟨ρ.bl, ρ0.mu⟩ a w relq hFL;have hup : Le ⟨ρ.bl, ρ0.mu⟩ ρ := ⟨fun _ _ h => h, hle.2⟩
    refine wpAnyLast_take ho hsel c2 c1 c3 c4 (fun c a w hq => absurd hq (hQ _ _ _)) (v := x) ?_ p2 ?_
    ·rcases q3 with ⟨q3, q4⟩ | ⟨q3, q4⟩
     ·refine .inl ⟨q3, fun w' hw' => q4 w' (.inr ⟨fun j hj => by rw [hw'.1 j hj, p2.1 j hj], fun b y e cs hb hy hg => ?_, fun _ => hw'.2.2 rel0.fz⟩)⟩
      rw [hw'.2.1 b y e cs hb (hb0 hb hy) hg, p2.2.1 b y e cs hb (hb0 hb hy) hg]
     · exact .inr ⟨q3, q4⟩
    ·have hFn := FR.put (o := o) ((q2.mono hup).app hF) (q1.mono hup) (fun d hd => HJ (hnt i o ho d hd) hs)
     exact g2 ρ0 w0 hl0 rel0 ρ _ w hle rel hFn (by rw [XN]; exact hs) (by rw [X8]; exact hd) (.inl ⟨p1, p2, .inr c7⟩) Q hQ hn
  | 5, hok, hr =>
   simp only [Jc, HE] at hok;obtain ⟨⟨c8, c7⟩, c6⟩ := hok;simp only [QP, Hv] at hr;obtain ⟨o, ho, hr⟩ := hr
   cases hend : Gc s with
   | none => rw [hend] at c8; cases c8
   | some a =>
   rw [hend] at c8;simp only [wB, HE, ho, Ez, FI, bne_iff_ne, ne_eq, beq_iff_eq, EC, D0, decide_eq_false_iff_not, decide_eq_true_eq] at c8;obtain ⟨⟨⟨⟨⟨⟨⟨e1, e2⟩, e3⟩, e4⟩, e5⟩, e6⟩, e7⟩, e8, e9⟩ := c8
   cases ha : all[a]? with
   | none => rw [ha] at e7; cases e7
   | some oa =>
   rw [ha] at e7;obtain ⟨t, ti, d, hop, hg, hti, hd⟩ := BQ e7;have hda : Ub all a = some d := by unfold Ub; rw [ha]; exact hd
   rw [hda] at e9;obtain ⟨v, k1, hgo, k2, k3⟩ := ug (W0 := W0) (base := base) (P := P) hpl e8 hr;obtain ⟨F', h', g1, g2, g3⟩ := JE hT hcl hpl hnt hsel s _ c6 k1;have early : wZ P W0 base nt E all ds h0 ((i, 5) :: s) l F h F' h' := by
    intro a2 oa2 t2 ti2 d2 he2 ha2 hop2 hg2 hti2 hd2;have he2' : Gc s = some a2 := he2;rw [hend] at he2'; cases he2';rw [ha] at ha2; cases ha2;rw [hd] at hd2; cases hd2;obtain ⟨n1, n2⟩ := g3.1 a oa t2 ti2 d hend ha hop2 hg2 hti2 hd;rw [Kl e9] at n1;refine ⟨n1, fun ρ0 w0 hl0 rel0 ρ ac w hle rel hF hv hs hdf p1 p2 Q hQ hn => ?_⟩
    rw [show ((i, 5) :: s).length - 1 = s.length - 1 + 1 from by simp only [HM]; rw [<- zC hend]; rfl]
    refine wpAnyLast_all e3 (by simp) fun i' hi' => ?_
    obtain rfl : i' = i := by simpa using hi'
    unfold wpOp;simp only [ho];rw [if_pos (by simp [Fx, hgo])]
    refine .inl (k3 0 ti2.zero ρ ac w rel hF _ Q fun x ρ' w' q1 q2 q3 q4 => ?_)
    have hsm := Jj hle rel q1 q3 q4 (UG p1 (W4 _ _)) (UG p1 (W4 _ _)) p2;refine ⟨fun _ _ => hsm, ?_⟩
    rw [Oy _ _ (Ne.symm e4)];exact n2 ρ0 w0 hl0 rel0 ρ' _ w' (hle.trans q1) q3 ((hF.mono q1).put q2 fun d hdd => HJ (hnt i' o ho d hdd) hs) (by rw [put_ne e9]; exact hv.mono q1) (by rw [XN]; exact hs) (by rw [X8]; exact hdf) p1 hsm Q hQ
     fun a2 w2 ⟨ρ2, p1, p2, p3, p4, p5, p6⟩ => hn a2 w2 ⟨ρ2, q1.trans p1, p2, p3, p4, p5, Frm.trans q1 rel.len q4 p6⟩
   refine ⟨F', h', g1, fun ρ0 w0 hl0 rel0 ρ ac w hle rel hF hs hdf hph Q hQ hn => ?_, early, fun i oi d he => by cases he⟩
   rcases hph with ⟨p1, p2, p3⟩ | hph
   case inr => simp [Ua] at hph
   case inl =>
   refine wpAnyLast_all rfl (fun hnil => by rw [hnil] at e1; simp at e1) fun j hj => ?_
   have hja := List.all_eq_true.1 e2 j hj;simp only [Bool.or_eq_true, beq_iff_eq] at hja
   rcases hja with rfl | rfl
   ·unfold wpOp
    simp only [ho];rw [if_pos (by simp [Fx, hgo])]
    refine .inl (k2 ρ ac w rel hF _ Q fun x ρ' w' q1 q2 q3 q4 => ?_)
    have hsm := Jj hle rel q1 q3 q4 p1 p1 p2;exact ⟨fun _ _ => hsm, g2 ρ0 w0 hl0 rel0 ρ' _ w' (hle.trans q1) q3 ((hF.mono q1).put q2 fun d hdd => HJ (hnt j o ho d hdd) hs) (by rw [XN]; exact hs) (by rw [X8]; exact hdf) (.inl ⟨p1, hsm, .inr c7⟩) Q hQ
     fun a2 w2 ⟨ρ2, p1, p2, p3, p4, p5, p6⟩ => hn a2 w2 ⟨ρ2, q1.trans p1, p2, p3, p4, p5, Frm.trans q1 rel.len q4 p6⟩⟩
   ·unfold wpOp
    simp only [ha];rw [if_pos (by simp [Fx, hg])]
    refine .inl (Pv hT hop hti F h ρ ac w rel hF _ Q fun x ρ' w' q1 q2 q3 q4 => ?_)
    have hsm := Jj hle rel q1 q3 q4 p1 (UG p1 (W4 _ _)) p2;obtain ⟨n1, n2⟩ := early j oa t ti d hend ha hop hg hti hd;have hFn : FR ρ' (KB F oa.dst (.s (.ptr (some (h.n, 0))))) (ac.put oa.dst x).tmps := (hF.mono q1).put q2 fun d hdd => HJ (hnt j oa ha d hdd) hs
    rw [hd] at hFn;refine ⟨fun _ _ => hsm, ?_⟩
    rw [hd];exact n2 ρ0 w0 hl0 rel0 ρ' _ w' (hle.trans q1) q3 (hFn.less n1) (hFn d _ (by rw [Uw, if_pos rfl])) (by rw [XN]; exact hs) (by rw [X8]; exact hdf) p1 hsm Q hQ
     fun a2 w2 ⟨ρ2, p1, p2, p3, p4, p5, p6⟩ => hn a2 w2 ⟨ρ2, q1.trans p1, p2, p3, p4, p5, Frm.trans q1 rel.len q4 p6⟩
  | 6, hok, hr =>
   simp only [Jc, HE, beq_iff_eq, EC, D0, decide_eq_false_iff_not] at hok;obtain ⟨⟨⟨⟨c1, c2⟩, c7⟩, c8⟩, c6⟩ := hok;simp only [QP, Hv] at hr;obtain ⟨o, ho, d, hd, hr⟩ := hr;rw [ho] at c8;obtain ⟨t, ti, d', hop, hg, hti, hd'⟩ := BQ c8;rw [hd] at hd'; cases hd'
   cases hlk : Ze F d with
   | some u => rw [hlk] at hr; cases hr
   | none =>
   rw [hlk] at hr;simp only [Option.isNone_none, cond_true] at hr;have k1 := wY hop hg hti hd hr;have hfx : ∀ d', o.dst = some d' -> d' < nt := hnt i o ho;have hG := Q24 (all := all) hfx hg (Pv (W0 := W0) (base := base) (P := P) hT hop hti F h);rw [hd] at hG
   by_cases hx : Zj h0 h
   ·obtain ⟨F', h', g1, g2, _⟩ := JE hT hcl hpl hnt hsel s _ c6 k1
    refine ⟨F', h', g1, NU ho c1 hG (fun e u he hne => .inl (by rw [hd] at hne; rw [Kl hne] at he; exact he)) (.inl c7) (.inl ⟨c2, UG hx (W4 _ _)⟩) (by decide) (fun _ => ⟨by decide, by decide⟩) g2, ?_, fun i oi d he => by cases he⟩
    intro a2 oa2 t2 ti2 d2 he2 ha2 hop2 hg2 hti2 hd2
    cases (show some i = some a2 from he2)
    rw [ho] at ha2; cases ha2;rw [hd] at hd2; cases hd2;rw [hop] at hop2; cases hop2;rw [hti] at hti2; cases hti2;refine ⟨hlk, fun ρ0 w0 hl0 rel0 ρ ac w hle rel hF hv hs hdf p1 p2 Q hQ hn => ?_⟩
    exact g2 ρ0 w0 hl0 rel0 ρ ac w hle rel (hF.more hv) hs hdf (.inl ⟨UG p1 (W4 _ _), p2, .inr c7⟩) Q hQ hn
   ·obtain ⟨F', h', g1, g2, _⟩ := JE hT hcl hpl hnt hsel s _ c6 k1
    refine ⟨F', h', g1, fun ρ0 w0 hl0 rel0 ρ a w hle rel hF hs hdf hph Q hQ hn => ?_, ?_, fun i oi d he => by cases he⟩
    ·rcases hph with ⟨p1, _⟩ | hph
     · exact absurd p1 hx
     · simp [Ua] at hph
    ·intro a2 oa2 t2 ti2 d2 he2 ha2 hop2 hg2 hti2 hd2
     cases (show some i = some a2 from he2)
     rw [ho] at ha2; cases ha2;rw [hd] at hd2; cases hd2;exact ⟨hlk, fun ρ0 w0 hl0 rel0 ρ ac w hle rel hF hv hs hdf p1 => absurd p1 hx⟩
  | 7, hok, hr =>
   simp only [Jc, HE, beq_iff_eq, EC, D0, decide_eq_false_iff_not] at hok;obtain ⟨⟨⟨⟨c1, c2⟩, c7⟩, c8⟩, c6⟩ := hok;simp only [QP, Hv] at hr;obtain ⟨o, ho, d, hd, hr⟩ := hr;rw [ho] at c8;simp only [Ez, FI] at c8
   cases hc : ((Ze F d).isNone && Bo F o) with
   | false => rw [hc] at hr; cases hr
   | true =>
   rw [hc] at hr;simp only [cond_true] at hr;simp only [HE, Dz] at hc;obtain ⟨hlk, hm⟩ := hc;obtain ⟨v, k1, hgo, k2⟩ := yP (W0 := W0) (base := base) (P := P) hpl c8 hm hr;have hE := k2 F h (fun _ _ => rfl)
   obtain ⟨F', h', g1, g2, _⟩ := JE hT hcl hpl hnt hsel s _ c6 k1;refine ⟨F', h', g1, fun ρ0 w0 hl0 rel0 ρ ac w hle rel hF hs hdf hph Q hQ hn => ?_, fun a oa t ti d he => (by cases he), fun i2 oi d2 he ho2 hd2 => ?_⟩
   ·rcases hph with ⟨p1, p2, p3⟩ | hph
    case inr => simp [Ua] at hph
    case inl =>
    refine wpAnyLast_all c1 (by simp) fun j hj => ?_
    obtain rfl : j = i := by simpa using hj
    unfold wpOp;simp only [ho];rw [if_pos (by simp [Fx, hgo])]
    refine .inl (hE ρ ac w rel hF _ Q fun x ρ' w' q1 q2 q3 q4 => ?_)
    have hsm := Jj hle rel q1 q3 q4 p1 p1 p2;exact ⟨fun _ _ => hsm, g2 ρ0 w0 hl0 rel0 ρ' _ w' (hle.trans q1) q3 ((hF.mono q1).put q2 fun d hdd => HJ (hnt j o ho d hdd) hs) (by rw [XN]; exact hs) (by rw [X8]; exact hdf) (.inl ⟨p1, hsm, .inr c7⟩) Q hQ
     fun a2 w2 ⟨ρ2, p1, p2, p3, p4, p5, p6⟩ => hn a2 w2 ⟨ρ2, q1.trans p1, p2, p3, p4, p5, Frm.trans q1 rel.len q4 p6⟩⟩
   ·cases (show some i = some i2 from he)
    rw [ho] at ho2; cases ho2;rw [hd] at hd2; cases hd2;rw [hd] at g2;exact ⟨hlk, v, hgo, k2, fun ρ0 w0 hl0 rel0 ρ ac w hle rel hF hv hs hdf p1 p2 Q hQ hn => g2 ρ0 w0 hl0 rel0 ρ ac w hle rel (hF.more hv) hs hdf (.inl ⟨p1, p2, .inr c7⟩) Q hQ hn⟩
  | 8, hok, hr =>
   simp only [Jc, HE] at hok;obtain ⟨⟨c8, c7⟩, c6⟩ := hok;simp only [QP, Hv] at hr;obtain ⟨o, ho, hr⟩ := hr
   cases hend : MI s with
   | none => rw [hend] at c8; cases c8
   | some b =>
   rw [hend] at c8
   cases hob : all[b]? with
   | none => simp [zD, hob] at c8
   | some ob =>
   simp only [zD, HE, ho, hob, Ez, FI, bne_iff_ne, ne_eq, beq_iff_eq, EC, D0, decide_eq_false_iff_not, decide_eq_true_eq, Dz, List.all_eq_true] at c8;obtain ⟨⟨⟨⟨⟨⟨e1, e2⟩, e3⟩, e4⟩, e5⟩, e6⟩, ⟨e7, e7'⟩, ⟨e8, e9⟩, e10⟩ := c8;obtain ⟨d, hd⟩ := D9.1 e7';unfold gOp at hr;rw [e8] at hr;simp only [] at hr;obtain ⟨v, h1, k0, hE⟩ := qZ (W0 := W0) (base := base) (P := P) hT hcl hr;have k1 := XM k0;unfold hchk at k1
   split at k1
   case isFalse => cases k1
   case isTrue hext =>
   obtain ⟨F', h', g1, g2, g3⟩ := JE hT hcl hpl hnt hsel s _ c6 k1;obtain ⟨n1, vi, hgi, n2, n3⟩ := g3.2 b ob d hend hob hd;rw [hd] at e9;rw [Kl e9] at n1;have hEi : ∀ (F2 : Fr) (g : H), (∀ t ∈ zU ob, Ze F2 t = Ze F t) -> EOK P W0 base ob F2 g vi g := fun F2 g ha => n2 F2 g fun t ht => by rw [Kl (e10 t ht)]; exact ha t ht
   have run : ∀ (ρ0 : Rho) (w0 : World), ρ0.bl.length = h0.n -> RelQ W0 base ρ0 h0 w0 -> ∀ (ρ : Rho) (ac : Act) (w : World), Le ρ0 ρ -> Rel W0 base ρ h w -> FR ρ F ac.tmps -> VR ρ vi (ac.tmps.getD d undef) -> nt <= ac.tmps.size -> ac.defers = [] ->
     Zj h0 h -> X2 base ρ0 h0 w0 w -> ∀ (Q : Exit -> Act -> World -> Prop), NP Q -> (∀ a' w', Wf W0 base nt ρ h w F' h' a' w' -> Q .normal a' w') ->
     wpAnyLast P .any all Q (fun w' => X2 base ρ0 h0 w0 w') ds (((i, 8) :: s).length - 1) (l.setIfInBounds b true) ac w := by
    intro ρ0 w0 hl0 rel0 ρ ac w hle rel hF hv hs hdf p1 p2 Q hQ hn;rw [show ((i, 8) :: s).length - 1 = s.length - 1 + 1 from by simp only [HM]; rw [<- wu hend]; rfl]
    refine wpAnyLast_all e3 (by simp) fun j hj => ?_
    obtain rfl : j = i := by simpa using hj
    unfold wpOp;simp only [ho];rw [if_pos (by simp [Fx, e8])]
    refine .inl (hE ρ ac w rel hF _ Q fun x ρ' w' q1 q2 q3 q4 => ?_)
    have hsm := Jj hle rel q1 q3 q4 p1 hext p2;refine ⟨fun _ _ => hsm, ?_⟩
    rw [Oy _ _ (Ne.symm e4)];exact n3 ρ0 w0 hl0 rel0 ρ' _ w' (hle.trans q1) q3 ((hF.mono q1).put q2 fun d hdd => HJ (hnt j o ho d hdd) hs) (by rw [put_ne e9]; exact hv.mono q1) (by rw [XN]; exact hs) (by rw [X8]; exact hdf) hext hsm Q hQ
     fun a2 w2 ⟨ρ2, p1, p2, p3, p4, p5, p6⟩ => hn a2 w2 ⟨ρ2, q1.trans p1, p2, p3, p4, p5, Frm.trans q1 rel.len q4 p6⟩
   refine ⟨F', h', g1, fun ρ0 w0 hl0 rel0 ρ ac w hle rel hF hs hdf hph Q hQ hn => ?_, fun a oa t ti d he => (by cases he), fun i2 oi d2 he ho2 hd2 => ?_⟩
   ·rcases hph with ⟨p1, p2, p3⟩ | hph
    case inr => simp [Ua] at hph
    case inl =>
    refine wpAnyLast_all rfl (fun hnil => by rw [hnil] at e1; simp at e1) fun j hj => ?_
    have hja := e2 j hj;simp only [Bool.or_eq_true, beq_iff_eq] at hja
    rcases hja with rfl | rfl
    ·unfold wpOp
     simp only [ho];rw [if_pos (by simp [Fx, e8])]
     refine .inl (hE ρ ac w rel hF _ Q fun x ρ' w' q1 q2 q3 q4 => ?_)
     have hsm := Jj hle rel q1 q3 q4 p1 hext p2;exact ⟨fun _ _ => hsm, g2 ρ0 w0 hl0 rel0 ρ' _ w' (hle.trans q1) q3 ((hF.mono q1).put q2 fun d hdd => HJ (hnt j o ho d hdd) hs) (by rw [XN]; exact hs) (by rw [X8]; exact hdf) (.inl ⟨hext, hsm, .inr c7⟩) Q hQ
      fun a2 w2 ⟨ρ2, p1, p2, p3, p4, p5, p6⟩ => hn a2 w2 ⟨ρ2, q1.trans p1, p2, p3, p4, p5, Frm.trans q1 rel.len q4 p6⟩⟩
    ·unfold wpOp
     simp only [hob];rw [if_pos (by simp [Fx, hgi])]
     refine .inl (hEi F h (fun _ _ => rfl) ρ ac w rel hF _ Q fun x ρ' w' q1 q2 q3 q4 => ?_)
     have hsm := Jj hle rel q1 q3 q4 p1 p1 p2;have hFn : FR ρ' (KB F ob.dst vi) (ac.put ob.dst x).tmps := (hF.mono q1).put q2 fun d hdd => HJ (hnt j ob hob d hdd) hs
     rw [hd] at hFn;refine ⟨fun _ _ => hsm, ?_⟩
     rw [hd];exact run ρ0 w0 hl0 rel0 ρ' _ w' (hle.trans q1) q3 (hFn.less n1) (hFn d _ (by rw [Uw, if_pos rfl])) (by rw [XN]; exact hs) (by rw [X8]; exact hdf) p1 hsm Q hQ
      fun a2 w2 ⟨ρ2, p1, p2, p3, p4, p5, p6⟩ => hn a2 w2 ⟨ρ2, q1.trans p1, p2, p3, p4, p5, Frm.trans q1 rel.len q4 p6⟩
   ·have he' : MI s = some i2 := he
    rw [hend] at he'; cases he';rw [hob] at ho2; cases ho2;rw [hd] at hd2; cases hd2;exact ⟨n1, vi, hgi, hEi, run⟩
  | kd + 9, hok, hr => simp [Jc] at hok
end Vm
