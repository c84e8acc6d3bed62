/-
  Code; loops and calls; what a run of the small machine says of the model's.
-/
import Derived.Test.YtmenpfhpflnbnaaGreatVmQ
set_option linter.unusedVariables false
set_option linter.unusedSimpArgs false
open Array renaming mapM_eq_mapM_toList->AP
open Bool renaming and_eq_true->HE
open Go.Instr renaming loadAt->EQ
open List renaming getElem?_eq_some_iff->HF,mapM_cons->S8
open Option renaming bind_eq_some_iff->Hv
open Go.Result renaming andThen_halt->Lv,andThen_ok->Hy
open Go.Sem renaming run_bind->Hz,run_pure->HD
namespace Vm
open Go Go.Proofs.YtmenpfhpflnbnaaGreatW.PrintLast
variable {W0 : St} {base : Nat} {ρ : Rho} {h : H} {w w' : World} {P : Program} {E : Env} {R : Type}
def Q2N (nt : Nat) (ops : Array Oper) : Bool := ops.toList.all fun o => match o.dst with | none => true | some d => decide (d < nt)
def KQ (E : Env) (f nt : Nat) : Code -> Bool
 | .region id ops draw => Q2N nt ops && (!draw || xM E f ops (E.sched f id))
 | .seq a b => KQ E f nt a && KQ E f nt b
 | .cond _ a b => KQ E f nt a && KQ E f nt b
 | .block _ a => KQ E f nt a
 | .loop a => KQ E f nt a
 | _ => true
structure EnvOk (P : Program) (E : Env) : Prop where
 mixed : P.follows .mixedOrders = true
 ty : X5 P E
 fn : ∀ f fn, E.fn f = some fn -> P.funcs[f]? = some fn /\ (fn.name == "runtime.NumGoroutine") = false /\ ∀ c, fn.body = some c -> KQ E f fn.ntmps c = true
def GS (P : Program) (W0 : St) (base : Nat) (fn : Func) (ρ : Rho) (h : H) (w : World) (v : V) (h' : H) (a' : Act) (w' : World) : Prop :=
 a'.defers = [] /\ ∃ ρ' x, Le ρ ρ' /\ (results fn a'.tmps).run P w' = .ok x w' /\ VR ρ' v x /\ Rel W0 base ρ' h' w' /\ Frm ρ h h' w w'
def jG (P : Program) (W0 : St) (base : Nat) (fn : Func) (ρ : Rho) (h : H) (w : World) (Q : Exit -> Act -> World -> Prop) : Out -> Prop
 | .normal F' h' => ∀ a' w', Wf W0 base fn.ntmps ρ h w F' h' a' w' -> Q .normal a' w'
 | .exit i F' h' => ∀ a' w', Wf W0 base fn.ntmps ρ h w F' h' a' w' -> Q (.exit i) a' w'
 | .ret v h' => ∀ a' w', GS P W0 base fn ρ h w v h' a' w' -> Q .ret a' w'
def Q2M (P : Program) (W0 : St) (base : Nat) (fn : Func) (c : Code) (F : Fr) (h : H) (out : Out) : Prop :=
 ∀ (ρ : Rho) (a : Act) (w : World), Rel W0 base ρ h w -> FR ρ F a.tmps -> fn.ntmps <= a.tmps.size -> a.defers = [] -> ∀ (Q : Exit -> Act -> World -> Prop), NP Q -> jG P W0 base fn ρ h w Q out -> c.wp P Q a w
def FRL (ρ : Rho) (tmps : Array Value) : List Nat -> List V -> Prop
 | i :: r, v :: l => VR ρ v (tmps.getD i undef) /\ FRL ρ tmps r l
 | [], [] => True
 | _, _ => False
def RE (W0 : St) (base : Nat) (nt : Nat) (ρ : Rho) (h : H) (w : World) (ids : List Nat) (l : List V) (h' : H) (a' : Act) (w' : World) : Prop :=
 ∃ ρ', Le ρ ρ' /\ FRL ρ' a'.tmps ids l /\ nt <= a'.tmps.size /\ a'.defers = [] /\ Rel W0 base ρ' h' w' /\ Frm ρ h h' w w'
def PX (P : Program) (W0 : St) (base : Nat) (E : Env) (f id : Nat) (fn : Func) (ρ : Rho) (h : H) (w : World) (Q : Exit -> Act -> World -> Prop) : LOut -> Prop
 | .done l h' => ∀ a' w', RE W0 base fn.ntmps ρ h w (E.aft f id) l h' a' w' -> Q (.exit id) a' w'
 | .ret v h' => ∀ a' w', GS P W0 base fn ρ h w v h' a' w' -> Q .ret a' w'
def Q2J (P : Program) (W0 : St) (base : Nat) (E : Env) (n : Nat) (lp : Nat -> Func -> Nat -> Code -> List V -> H -> Option LOut) : Prop :=
 ∀ f fn id body l h lo, lp f fn id body l h = some lo -> KQ E f fn.ntmps body = true -> ∀ (ρ : Rho) (a : Act) (w : World), Rel W0 base ρ h w -> FR ρ (mkF (E.keep f id) l) a.tmps -> fn.ntmps <= a.tmps.size -> a.defers = [] ->
  ∀ (Q : Exit -> Act -> World -> Prop), NP Q -> PX P W0 base E f id fn ρ h w Q lo -> Code.rounds P body Q n a w
theorem Wf.trans {nt : Nat} {ρ ρ1 : Rho} {h h1 h2 : H} {w w1 w2 : World} {F2 : Fr} {a2 : Act} (hle : Le ρ ρ1) (rel : Rel W0 base ρ h w) (hf : Frm ρ h h1 w w1) (hh : Wf W0 base nt ρ1 h1 w1 F2 h2 a2 w2) : Wf W0 base nt ρ h w F2 h2 a2 w2 := by
 obtain ⟨ρ2, p1, p2, p3, p4, p5, p6⟩ := hh;exact ⟨ρ2, hle.trans p1, p2, p3, p4, p5, Frm.trans hle rel.len hf p6⟩
theorem RE.trans {nt : Nat} {ρ ρ1 : Rho} {h h1 h2 : H} {w w1 w2 : World} {ids : List Nat} {l : List V} {a2 : Act} (hle : Le ρ ρ1) (rel : Rel W0 base ρ h w) (hf : Frm ρ h h1 w w1) (hh : RE W0 base nt ρ1 h1 w1 ids l h2 a2 w2) : RE W0 base nt ρ h w ids l h2 a2 w2 := by
 obtain ⟨ρ2, p1, p2, p3, p4, p5, p6⟩ := hh;exact ⟨ρ2, hle.trans p1, p2, p3, p4, p5, Frm.trans hle rel.len hf p6⟩
theorem GS.trans {fn : Func} {ρ ρ1 : Rho} {h h1 h2 : H} {w w1 w2 : World} {v : V} {a2 : Act} (hle : Le ρ ρ1) (rel : Rel W0 base ρ h w) (hf : Frm ρ h h1 w w1) (hh : GS P W0 base fn ρ1 h1 w1 v h2 a2 w2) : GS P W0 base fn ρ h w v h2 a2 w2 := by
 obtain ⟨d, ρ2, x, p1, p2, p3, p5, p6⟩ := hh;exact ⟨d, ρ2, x, hle.trans p1, p2, p3, p5, Frm.trans hle rel.len hf p6⟩
theorem jG.trans {fn : Func} {ρ ρ1 : Rho} {h h1 : H} {w w1 : World} {Q : Exit -> Act -> World -> Prop} {o : Out} (hle : Le ρ ρ1) (rel : Rel W0 base ρ h w) (hf : Frm ρ h h1 w w1) (hp : jG P W0 base fn ρ h w Q o) : jG P W0 base fn ρ1 h1 w1 Q o := by
 cases o with
 | normal F' h' => exact fun a' w' ha => hp a' w' (ha.trans hle rel hf)
 | exit i F' h' => exact fun a' w' ha => hp a' w' (ha.trans hle rel hf)
 | ret v h' => exact fun a' w' ha => hp a' w' (ha.trans hle rel hf)
theorem PX.trans {fn : Func} {f id : Nat} {ρ ρ1 : Rho} {h h1 : H} {w w1 : World} {Q : Exit -> Act -> World -> Prop} {o : LOut} (hle : Le ρ ρ1) (rel : Rel W0 base ρ h w) (hf : Frm ρ h h1 w w1) (hp : PX P W0 base E f id fn ρ h w Q o) : PX P W0 base E f id fn ρ1 h1 w1 Q o := by
 cases o with
 | done l h' => exact fun a' w' ha => hp a' w' (ha.trans hle rel hf)
 | ret v h' => exact fun a' w' ha => hp a' w' (ha.trans hle rel hf)
theorem T4 {F : Fr} {tmps : Array Value} (hF : FR ρ F tmps) : ∀ {ids : List Nat} {l : List V}, G7 F ids = some l -> FR ρ (mkF ids l) tmps
 | [], l, hp => by intro d v hd; cases l <;> simp [mkF, Ze] at hd
 | i :: r, l, hp => by
  simp only [G7, Hv] at hp;obtain ⟨v, h1, l', h2, h3⟩ := hp
  cases h3
  exact (T4 hF h2).cons (hF i v h1)
theorem toA_ok {v : V} {a : A} {x : Value} (hv : VR ρ v x) (ha : v.toA = some a) : AR ρ a x := by
 cases v <;> simp [V.toA] at ha <;> subst ha <;> exact hv
theorem Q08 (hT : X5 P E) {t : Nat} {ti : TI} (ht : E.ty t = some ti) {p : V} {k : V -> Option R} {r : R} (hl : ldT ti h p k = some r) :
  ∃ v, k v = some r /\ ∀ (ρ : Rho) (w : World) (x : Value), RelQ W0 base ρ h w -> VR ρ p x -> ∃ y, VR ρ v y /\ ∀ w', X2 base ρ h w w' -> (EQ t x).run P w' = .ok y w' := by
 unfold ldT at hl
 cases hag : ti.agg with
 | true =>
  rw [hag] at hl;simp only [cond_true, Hv] at hl;obtain ⟨cs, h5, h6⟩ := hl;exact ⟨_, h6, fun ρ w x rel hp => TS rel (hT _ _ ht) hag hp h5⟩
 | false =>
  rw [hag] at hl;simp only [cond_false, Hv] at hl;obtain ⟨cs, h5, h6⟩ := hl;exact ⟨_, h6, fun ρ w x rel hp => by obtain ⟨y, q1, q2⟩ := TT rel (hT _ _ ht) hag hp h5; exact ⟨y, fun _ => q1, q2⟩⟩
theorem MN {t : Nat} {x y : Value} (hl : (EQ t x).run P w = .ok y w) : (do loadVar t (<- asAddr x) : Sem Value).run P w = .ok y w := by
 unfold EQ at hl;rw [Hz] at hl ⊢
 cases x <;> simp only [Instr.sureAddr, asAddr, run_stuck, Lv, HD, Hy] at hl ⊢ <;> try (cases hl; done)
 rename_i a
 cases a with
 | none => simp only [run_stuck, Lv] at hl; cases hl
 | some a => exact hl
def GE (tmps : Array Value) : ResultVar -> Sem Value
 | .tmp t => pure (tmps.getD t undef)
 | .cell a t => do loadVar t (<- asAddr (tmps.getD a undef))
theorem RO (hT : X5 P E) {F : Fr} : ∀ (rs : List ResultVar) {k : List A -> Option R} {r : R}, Mo E F h rs k = some r ->
  ∃ l, k l = some r /\ l.length = rs.length /\ ∀ (ρ : Rho) (tmps : Array Value) (w : World), RelQ W0 base ρ h w -> FR ρ F tmps -> ∃ xs : List Value, ARs ρ l xs /\ (rs.mapM (GE tmps)).run P w = .ok xs w
 | [], k, r, hr => ⟨[], hr, rfl, fun ρ tmps w rel hF => ⟨[], trivial, rfl⟩⟩
 | .tmp t :: rs, k, r, hr => by
  simp only [Mo, Hv] at hr;obtain ⟨v, h1, a, h2, h3⟩ := hr;obtain ⟨l, g1, g2, g3⟩ := RO hT rs h3;refine ⟨a :: l, g1, by simp [g2], fun ρ tmps w rel hF => ?_⟩
  obtain ⟨xs, q1, q2⟩ := g3 ρ tmps w rel hF;exact ⟨tmps.getD t undef :: xs, ⟨toA_ok (hF t v h1) h2, q1⟩, by simp only [S8, Hz, GE, HD, Hy, q2]⟩
 | .cell p t :: rs, k, r, hr => by
  simp only [Mo, Hv] at hr;obtain ⟨ti, h1, pv, h2, h3⟩ := hr;obtain ⟨v, k1, k2⟩ := Q08 (W0 := W0) (base := base) (P := P) hT h1 h3;rw [Hv] at k1;obtain ⟨a, h4, h5⟩ := k1;obtain ⟨l, g1, g2, g3⟩ := RO hT rs h5;refine ⟨a :: l, g1, by simp [g2], fun ρ tmps w rel hF => ?_⟩
  obtain ⟨xs, q1, q2⟩ := g3 ρ tmps w rel hF;obtain ⟨y, p1, p2⟩ := k2 ρ w _ rel (hF p pv h2);have := MN (p2 w (X2.refl _ _ _ _));exact ⟨y :: xs, ⟨toA_ok p1 h4, q1⟩, by simp only [S8, GE]; rw [Hz, this]; simp only [Hy, Hz, q2, HD]⟩
theorem xG (hT : X5 P E) {F : Fr} {fn : Func} {k : V -> Option R} {r : R} (hr : GD E F h fn.results.toList k = some r) :
  ∃ v, k v = some r /\ ∀ (ρ : Rho) (tmps : Array Value) (w : World), RelQ W0 base ρ h w -> FR ρ F tmps -> ∃ x, VR ρ v x /\ (results fn tmps).run P w = .ok x w := by
 unfold GD at hr;have hone : ∀ (x : ResultVar), fn.results.toList = [x] -> ∀ (tmps : Array Value) (w : World) (y : Value), (GE tmps x).run P w = .ok y w -> (results fn tmps).run P w = .ok y w := by
  intro x hx tmps w y hy;have hres : results fn tmps = (do let vs <- fn.results.mapM (GE tmps); pure (if h : vs.size = 1 then vs[0] else .tuple vs)) := by
   unfold results
   congr 1
  rw [hres, Hz, AP, Sem.run_map, hx];simp only [S8, List.mapM_nil, Hz, hy, Hy, HD];rfl
 split at hr
 ·rename_i t hrs
  rw [Hv] at hr;obtain ⟨v, h1, h2⟩ := hr;exact ⟨v, h2, fun ρ tmps w rel hF => ⟨_, hF t v h1, hone _ hrs tmps w _ rfl⟩⟩
 ·rename_i a t hrs
  simp only [Hv] at hr;obtain ⟨ti, h1, p, h2, h3⟩ := hr;obtain ⟨v, k1, k2⟩ := Q08 (W0 := W0) (base := base) (P := P) hT h1 h3;refine ⟨v, k1, fun ρ tmps w rel hF => ?_⟩
  obtain ⟨y, p1, p2⟩ := k2 ρ w _ rel (hF a p h2);exact ⟨y, p1, hone _ hrs tmps w y (MN (p2 w (X2.refl _ _ _ _)))⟩
 ·rename_i hn1 hn2
  obtain ⟨l, g1, g2, g3⟩ := RO (W0 := W0) (base := base) (P := P) hT _ hr;refine ⟨_, g1, fun ρ tmps w rel hF => ?_⟩
  obtain ⟨xs, q1, q2⟩ := g3 ρ tmps w rel hF;have hm : (fn.results.mapM (GE tmps)).run P w = .ok xs.toArray w := by
   rw [AP, Sem.run_map, q2]; rfl
  have hres : results fn tmps = (do let vs <- fn.results.mapM (GE tmps); pure (if h : vs.size = 1 then vs[0] else .tuple vs)) := by
   unfold results
   congr 1
  have hxl : xs.length = fn.results.toList.length := by
   have : ∀ {l : List A} {xs : List Value}, ARs ρ l xs -> xs.length = l.length := by
    intro l
    induction l with
    | nil => intro xs h; cases xs with
     | nil => rfl
     | cons _ _ => exact h.elim
    | cons a l ih => intro xs h; cases xs with
     | nil => exact h.elim
     | cons x xs => simp [ih h.2]
   rw [this q1, g2]
  have hne : ¬ xs.toArray.size = 1 := by
   intro h1;simp only [List.size_toArray] at h1;rw [hxl] at h1
   match hrl : fn.results.toList, h1 with
   | [.tmp t], _ => exact hn1 t hrl
   | [.cell a t], _ => exact hn2 a t hrl
  refine ⟨.tuple xs.toArray, ⟨_, rfl, by simpa using q1⟩, ?_⟩
  rw [hres, Hz, hm];simp only [Hy, HD, dif_neg hne]
theorem qQ {F : Fr} {tmps : Array Value} (hF : FR ρ F tmps) : ∀ {ids : List Nat} {l : List V}, G7 F ids = some l -> FRL ρ tmps ids l
 | [], l, hp => by simp [G7] at hp; subst hp; trivial
 | i :: r, l, hp => by
  simp only [G7, Hv] at hp;obtain ⟨v, h1, l', h2, h3⟩ := hp
  cases h3
  exact ⟨hF i v h1, qQ hF h2⟩
theorem PZ {st : Nat -> VT} {l : List V} : ∀ (ids : List Nat) (j : Nat) {F : Fr} {k : Fr -> Option R} {r : R}, Wb st l ids j F k = some r -> ∃ F', k F' = some r /\
  ∀ (ρ : Rho) (tmps : Array Value), FRL ρ tmps ids (l.drop j) -> FR ρ F tmps -> FR ρ F' tmps
 | [], j, F, k, r, hr => ⟨F, hr, fun ρ tmps _ h => h⟩
 | i :: ids, j, F, k, r, hr => by
  simp only [Wb, Hv] at hr;obtain ⟨v, h1, h2⟩ := hr;obtain ⟨F', g1, g2⟩ := PZ ids (j + 1) (XM h2);refine ⟨F', g1, fun ρ tmps hL hF => ?_⟩
  have hd : l.drop j = v :: l.drop (j + 1) := by
   obtain ⟨hlt, he⟩ := HF.1 h1;rw [List.drop_eq_getElem_cons hlt, he]
  rw [hd] at hL;exact g2 ρ tmps hL.2 (hF.cons hL.1)
theorem FR.nil {tmps : Array Value} : FR ρ [] tmps := fun d v h => by simp [Ze] at h
theorem YJ {id : Nat} {Q : Exit -> Act -> World -> Prop} (hQ : NP Q) : NP (Exit.inBlock id Q) := fun c a w h => hQ c a w h
theorem Bh {K : Act -> World -> Prop} {Q : Exit -> Act -> World -> Prop} (hQ : NP Q) : NP (Exit.then K Q) := fun c a w h => hQ c a w h
theorem kE (hE : EnvOk P E) {cl : Option Nat -> Nat -> List V -> H -> (V -> H -> Option R) -> Option R} (hcl : VA P W0 base cl) {lp : Nat -> Func -> Nat -> Code -> List V -> H -> Option LOut} {n : Nat} (hlp : Q2J P W0 base E n lp) {f : Nat} {fn : Func} (hpl : MlP P W0 base (pmE E f) cl) :
  ∀ (c : Code), KQ E f fn.ntmps c = true -> ∀ {F : Fr} {h : H} {k : Out -> Option R} {r : R}, code E cl lp f fn c F h k = some r -> ∃ out, k out = some r /\ Q2M P W0 base fn c F h out := by
 intro c
 induction c with
 | skip =>
  intro _ F h k r hr;exact ⟨_, hr, fun ρ a w rel hF hs hd Q hQ hp => wp_skip (hp a w ⟨ρ, Le.refl _, hF, hs, hd, rel, Frm.refl _ _ _⟩)⟩
 | region id ops draw =>
  intro hwf F h k r hr;simp only [KQ, HE] at hwf;obtain ⟨hw1, hw2⟩ := hwf;have hnt : ∀ o ∈ ops.toList, ∀ d, o.dst = some d -> d < fn.ntmps := by
   intro o ho d hd;have := List.all_eq_true.1 hw1 o ho;rw [hd] at this;simpa using this
  cases draw with
  | false =>
   simp only [code, cond_false] at hr;obtain ⟨F', h', g1, g2⟩ := yK (W0 := W0) (base := base) (P := P) hE.ty hcl ops.toList hnt hr;exact ⟨_, g1, fun ρ a w rel hF hs hd Q hQ hp => wp_region_list (g2 ρ a w rel hF hs hd Q hp)⟩
  | true =>
   simp only [code, cond_true] at hr;simp only [Bool.not_true, Bool.false_or] at hw2;unfold xM at hw2;simp only [HE, beq_iff_eq] at hw2;obtain ⟨⟨c1, c2⟩, c3⟩ := hw2;obtain ⟨h0, hr, hn0, hx0⟩ := N8 hr;obtain ⟨F', h', g1, g2, _⟩ := JE (W0 := W0) (base := base) (P := P) hE.ty hcl hpl (nt := fn.ntmps) (fun i o ho => hnt o (by rw [<- Array.getElem?_toList] at ho; exact List.mem_of_getElem? ho)) c1 _ _ c3 hr
   refine ⟨_, g1, fun ρ a w rel hF hs hd Q hQ hp => wp_region_last (S := fun w' => X2 base ρ h0 { w with drawn := w.drawn + 1 } w') (ds := xX (E.sched f id)) hE.mixed ?_⟩
   have := g2 ρ { w with drawn := w.drawn + 1 } (by rw [rel.len, hn0]) ((rel.same (w' := { w with drawn := w.drawn + 1 }) rfl).elder hx0) ρ a { w with drawn := w.drawn + 1 } (Le.refl _) (rel.same rfl) hF hs hd (.inl ⟨hx0, X2.refl _ _ _ _, .inl hF⟩) Q hQ fun a' w' ha => hp a' w' (ha.trans (Le.refl _) rel (Frm.same rfl))
   rw [c2] at this;exact this
 | seq x y ihx ihy =>
  intro hwf F h k r hr;simp only [KQ, HE] at hwf;simp only [code] at hr;obtain ⟨out, g1, g2⟩ := ihx hwf.1 hr
  cases out with
  | normal F1 h1 =>
   obtain ⟨out2, k1, k2⟩ := ihy hwf.2 g1;refine ⟨out2, k1, fun ρ a w rel hF hs hd Q hQ hp => wp_seq (g2 ρ a w rel hF hs hd _ (Bh hQ) fun a' w' ⟨ρ1, p1, p2, p3, p4, p5, p6⟩ => ?_)⟩
   exact k2 ρ1 a' w' p5 p2 p3 p4 Q hQ (hp.trans p1 rel p6)
  | exit i F1 h1 =>
   exact ⟨_, g1, fun ρ a w rel hF hs hd Q hQ hp => wp_seq (g2 ρ a w rel hF hs hd _ (Bh hQ) hp)⟩
  | ret v h1 =>
   exact ⟨_, g1, fun ρ a w rel hF hs hd Q hQ hp => wp_seq (g2 ρ a w rel hF hs hd _ (Bh hQ) hp)⟩
 | cond c x y ihx ihy =>
  intro hwf F h k r hr;simp only [KQ, HE] at hwf;simp only [code, Hv] at hr;obtain ⟨v, h1, h2⟩ := hr;obtain ⟨b, rfl, h3⟩ := VF h2
  cases b with
  | true =>
   obtain ⟨out, g1, g2⟩ := ihx hwf.1 h3;exact ⟨out, g1, fun ρ a w rel hF hs hd Q hQ hp => wp_cond_true (QK hF h1).bool (g2 ρ a w rel hF hs hd Q hQ hp)⟩
  | false =>
   obtain ⟨out, g1, g2⟩ := ihy hwf.2 h3;exact ⟨out, g1, fun ρ a w rel hF hs hd Q hQ hp => wp_cond_false (QK hF h1).bool (g2 ρ a w rel hF hs hd Q hQ hp)⟩
 | block id b ih =>
  intro hwf F h k r hr;simp only [KQ] at hwf
  by_cases hb : ∃ body, b = .loop body
  ·obtain ⟨body, rfl⟩ := hb
   simp only [KQ] at hwf;simp only [code, Hv] at hr;obtain ⟨l, h1, lo, h2, h3⟩ := hr;have key := fun ρ a w rel (hF : FR ρ F a.tmps) hs hd => hlp f fn id body l h lo h2 hwf ρ a w rel (T4 hF h1) hs hd
   cases lo with
   | done l' h' =>
    obtain ⟨F', g1, g2⟩ := PZ _ _ h3;refine ⟨_, g1, fun ρ a w rel hF hs hd Q hQ hp => wp_block (wp_loop_rounds n (key ρ a w rel hF hs hd _ (YJ hQ) fun a' w' ha => ?_))⟩
    show (if id = id then Q .normal a' w' else Q (.exit id) a' w');obtain ⟨ρ', p1, p2, p3⟩ := ha;rw [if_pos rfl]; exact hp a' w' ⟨ρ', p1, g2 ρ' _ p2 FR.nil, p3⟩
   | ret v h' =>
    exact ⟨_, h3, fun ρ a w rel hF hs hd Q hQ hp => wp_block (wp_loop_rounds n (key ρ a w rel hF hs hd _ (YJ hQ) hp))⟩
  ·have hr' : code E cl lp f fn b F h (fun o => match o with
     | .exit i F h => bif i == id then k (.normal F h) else k (.exit i F h)
     | o => k o) = some r := by
    cases b with
    | loop body => exact absurd ⟨body, rfl⟩ hb
    | _ => exact hr
   obtain ⟨out, g1, g2⟩ := ih hwf hr'
   cases out with
   | normal F1 h1 => exact ⟨_, g1, fun ρ a w rel hF hs hd Q hQ hp => wp_block (g2 ρ a w rel hF hs hd _ (YJ hQ) hp)⟩
   | ret v h1 => exact ⟨_, g1, fun ρ a w rel hF hs hd Q hQ hp => wp_block (g2 ρ a w rel hF hs hd _ (YJ hQ) hp)⟩
   | exit i F1 h1 =>
    simp only [] at g1
    by_cases hi : i = id
    ·subst hi
     simp only [beq_self_eq_true, cond_true] at g1;refine ⟨_, g1, fun ρ a w rel hF hs hd Q hQ hp => wp_block (g2 ρ a w rel hF hs hd _ (YJ hQ) fun a' w' ha => ?_)⟩
     show (if i = i then Q .normal a' w' else Q (.exit i) a' w');rw [if_pos rfl]; exact hp a' w' ha
    ·rw [show (i == id) = false from by simpa using hi] at g1
     refine ⟨_, g1, fun ρ a w rel hF hs hd Q hQ hp => wp_block (g2 ρ a w rel hF hs hd _ (YJ hQ) fun a' w' ha => ?_)⟩
     show (if i = id then Q .normal a' w' else Q (.exit i) a' w');rw [if_neg hi]; exact hp a' w' ha
 | exit i =>
  intro _ F h k r hr;exact ⟨_, hr, fun ρ a w rel hF hs hd Q hQ hp => wp_exit (hp a w ⟨ρ, Le.refl _, hF, hs, hd, rel, Frm.refl _ _ _⟩)⟩
 | ret =>
  intro _ F h k r hr;simp only [code] at hr;obtain ⟨v, g1, g2⟩ := xG (W0 := W0) (base := base) (P := P) hE.ty hr;refine ⟨_, g1, fun ρ a w rel hF hs hd Q hQ hp => wp_ret (hp a w ?_)⟩
  obtain ⟨x, q1, q2⟩ := g2 ρ a.tmps w rel.q hF;exact ⟨hd, ρ, x, Le.refl _, q2, q1, rel, Frm.refl _ _ _⟩
 | _ => intro _ F h k r hr; simp [code] at hr
theorem kc : ∀ {i : Nat} {args : List V} {xs : List Value}, VRs ρ args xs -> ∀ {d : Nat} {v : V}, Ze (Na i args) d = some v -> i <= d /\ ∃ x, xs[d - i]? = some x /\ VR ρ v x
 | i, [], [], _, d, v, hd => by simp [Na, Ze] at hd
 | i, a :: as, x :: xs, ⟨h1, h2⟩, d, v, hd => by
  simp only [Na, Ze] at hd
  by_cases hid : i = d
  ·subst hid
   simp at hd;subst hd;exact ⟨Nat.le_refl _, x, by simp, h1⟩
  ·rw [show (i == d) = false from by simpa using hid] at hd
   obtain ⟨g1, y, g2, g3⟩ := kc (i := i + 1) h2 hd;refine ⟨by omega, y, ?_, g3⟩
   rw [show d - i = (d - (i + 1)) + 1 from by omega, List.getElem?_cons_succ]
   exact g2
 | _, [], _ :: _, h, _, _, _ => h.elim
 | _, _ :: _, [], h, _, _, _ => h.elim
theorem zc : ∀ {ids : List Nat} {l : List V} {d : Nat} {v : V}, Ze (mkF ids l) d = some v -> v ∈ l
 | [], l, d, v, h => by cases l <;> simp [mkF, Ze] at h
 | i :: ids, [], d, v, h => by simp [mkF, Ze] at h
 | i :: ids, u :: l, d, v, h => by
  simp only [mkF, Ze] at h
  cases hid : i == d <;> rw [hid] at h
  · exact List.mem_cons_of_mem _ (zc h)
  · cases h; exact List.mem_cons_self
theorem FRL.to {ρ ρ' : Rho} {tmps : Array Value} : ∀ {ids : List Nat} {l : List V}, FRL ρ tmps ids l -> (∀ v x, v ∈ l -> VR ρ v x -> VR ρ' v x) -> FRL ρ' tmps ids l
 | [], [], _, _ => trivial
 | i :: ids, v :: l, h, hv => ⟨hv _ _ (by simp) h.1, FRL.to h.2 fun u x hu => hv u x (by simp [hu])⟩
 | [], _ :: _, h, _ => h.elim
 | _ :: _, [], h, _ => h.elim
theorem VP (hE : EnvOk P E) : ∀ n W0 base, TM P W0 base (KJ E n).1 /\ Q2J P W0 base E n (KJ E n).2
 | 0, W0, base => ⟨fun f args h v h' hr => by simp [KJ] at hr, fun f fn id body l h lo hr => by simp [KJ] at hr⟩
 | n + 1, W0, base => by
  have ih1 := fun (R : Type) f => vQ (W0 := W0) (base := base) (P := P) (E := E) (R := R) (fun W0 base => (VP hE n W0 base).1) f
  have ihp := fun (R : Type) f => Q0M (W0 := W0) (base := base) (P := P) (E := E) (R := R) (fun W0 base => (VP hE n W0 base).1) f
  have ih2 := (VP hE n W0 base).2;refine ⟨fun f args h v h' hr => ?_, fun f fn id body l h lo hr hwf ρ a w rel hF hs hd Q hQ hp => ?_⟩
  ·simp only [KJ, Nn, Hv] at hr
   obtain ⟨fn, h1, c, h2, h3⟩ := hr;obtain ⟨e1, e2, e3⟩ := hE.fn f fn h1;obtain ⟨out, g1, g2⟩ := kE hE (ih1 _ f) ih2 (ihp _ f) c (e3 c h2) h3;refine ⟨⟨fn, e1, e2, by rw [h2]; rfl⟩, fun ρ w xs rel hargs => calls_of_wp e1 h2 ?_⟩
   have hF : FR ρ (Na 0 args) (xs.toArray ++ Array.replicate (fn.ntmps - xs.toArray.size) undef) := by
    intro d v hd;obtain ⟨_, x, q1, q2⟩ := kc hargs hd;rw [Nat.sub_zero] at q1;have hlt := (HF.1 q1).1;rw [Array.getD_eq_getD_getElem?, Array.getElem?_append_left (by simpa using hlt), List.getElem?_toArray, q1]
    exact q2
   refine g2 ρ _ w rel hF (by simp; omega) rfl _ (fun c a w hh => by obtain ⟨_, x, hx, _⟩ := hh; cases hx) ?_
   cases out with
   | normal F1 h1 =>
    simp only [] at g1;obtain ⟨u, k1, k2⟩ := xG (W0 := W0) (base := base) (P := P) hE.ty g1
    cases k1
    intro a' w' ⟨ρ1, p1, p2, p3, p4, p5, p6⟩;obtain ⟨x, q1, q2⟩ := k2 ρ1 a'.tmps w' p5.q p2;exact ⟨p4, x, q2, x, rfl, ρ1, p1, q1, p5, p6⟩
   | ret u h1 =>
    cases g1
    intro a' w' ⟨p4, ρ1, x, p1, q2, q1, p5, p6⟩;exact ⟨p4, x, q2, x, rfl, ρ1, p1, q1, p5, p6⟩
   | exit i F1 h1 => cases g1
  ·simp only [KJ, Bq] at hr
   obtain ⟨out, g1, g2⟩ := kE hE (ih1 _ f) ih2 (ihp _ f) body hwf hr;rw [rounds_succ];refine g2 ρ a w rel hF hs hd _ (Bh hQ) ?_
   cases out with
   | normal F1 h1 =>
    simp only [Hv] at g1;obtain ⟨l1, k1, k2⟩ := g1;intro a' w' ⟨ρ1, p1, p2, p3, p4, p5, p6⟩;obtain ⟨ρ3, t1, t2, t3, t4⟩ := RH rel p1 p5 p6 l1;exact ih2 f fn id body l1 _ lo k2 hwf ρ3 a' w' t2 (fun d v hd => t4 v _ (zc hd) (T4 p2 k1 d v hd)) p3 p4 Q hQ (hp.trans t1 rel t3)
   | exit i F1 h1 =>
    simp only [] at g1
    by_cases hi : i = id
    ·subst hi
     simp only [beq_self_eq_true, cond_true, Hv] at g1;obtain ⟨l1, k1, k2⟩ := g1
     cases k2
     intro a' w' ⟨ρ1, p1, p2, p3, p4, p5, p6⟩;obtain ⟨ρ3, t1, t2, t3, t4⟩ := RH rel p1 p5 p6 l1;exact hp a' w' ⟨ρ3, t1, (qQ p2 k1).to t4, p3, p4, t2, t3⟩
    ·rw [show (i == id) = false from by simpa using hi] at g1
     cases g1
   | ret v h1 =>
    cases g1
    exact hp
end Vm
