/-
  Code; loops and calls; what a run of the small machine says of the model's.
-/
import Derived.Test.YtpdoloemacmbaaaVmQ
set_option linter.unusedVariables false
set_option linter.unusedSimpArgs false
namespace Vm
open Go Go.Proofs.YtpdoloemacmbaaaW.PrintLast
variable {W0 : St} {base : Nat} {ρ : Rho} {h : H} {w w' : World} {P : Program} {E : Env} {R : Type}

def wfOps (nt : Nat) (ops : Array Oper) : Bool := ops.toList.all fun o => match o.dst with | none => true | some d => decide (d < nt)
def wfCode (E : Env) (f nt : Nat) : Code → Bool
  | .region id ops draw => wfOps nt ops && (!draw || okSched E f ops (E.sched f id))
  | .seq a b => wfCode E f nt a && wfCode E f nt b
  | .cond _ a b => wfCode E f nt a && wfCode E f nt b
  | .block _ a => wfCode E f nt a
  | .loop a => wfCode E f nt a
  | _ => true
structure EnvOk (P : Program) (E : Env) : Prop where
  mixed : P.follows .mixedOrders = true
  ty : TysOk P E
  fn : ∀ f fn, E.fn f = some fn → P.funcs[f]? = some fn ∧ (fn.name == "runtime.NumGoroutine") = false ∧ ∀ c, fn.body = some c → wfCode E f fn.ntmps c = true

def RetAfter (P : Program) (W0 : St) (base : Nat) (fn : Func) (ρ : Rho) (h : H) (w : World) (v : V) (h' : H) (a' : Act) (w' : World) : Prop :=
  a'.defers = [] ∧ ∃ ρ' x, Le ρ ρ' ∧ (results fn a'.tmps).run P w' = .ok x w' ∧ VR ρ' v x ∧ Rel W0 base ρ' h' w' ∧ Frm ρ h h' w w'
def Post (P : Program) (W0 : St) (base : Nat) (fn : Func) (ρ : Rho) (h : H) (w : World) (Q : Exit → Act → World → Prop) : Out → Prop
  | .normal F' h' => ∀ a' w', After W0 base fn.ntmps ρ h w F' h' a' w' → Q .normal a' w'
  | .exit i F' h' => ∀ a' w', After W0 base fn.ntmps ρ h w F' h' a' w' → Q (.exit i) a' w'
  | .ret v h' => ∀ a' w', RetAfter P W0 base fn ρ h w v h' a' w' → Q .ret a' w'
/-- a piece of code comes to this -/
def CodeOK (P : Program) (W0 : St) (base : Nat) (fn : Func) (c : Code) (F : Fr) (h : H) (out : Out) : Prop :=
  ∀ (ρ : Rho) (a : Act) (w : World), Rel W0 base ρ h w → FR ρ F a.tmps → fn.ntmps ≤ a.tmps.size → a.defers = [] → ∀ (Q : Exit → Act → World → Prop), NP Q → Post P W0 base fn ρ h w Q out → c.wp P Q a w

/-- these slots hold these values -/
def FRL (ρ : Rho) (tmps : Array Value) : List Nat → List V → Prop
  | i :: r, v :: l => VR ρ v (tmps.getD i undef) ∧ FRL ρ tmps r l
  | [], [] => True
  | _, _ => False
def AfterL (W0 : St) (base : Nat) (nt : Nat) (ρ : Rho) (h : H) (w : World) (ids : List Nat) (l : List V) (h' : H) (a' : Act) (w' : World) : Prop :=
  ∃ ρ', Le ρ ρ' ∧ FRL ρ' a'.tmps ids l ∧ nt ≤ a'.tmps.size ∧ a'.defers = [] ∧ Rel W0 base ρ' h' w' ∧ Frm ρ h h' w w'
def LPost (P : Program) (W0 : St) (base : Nat) (E : Env) (f id : Nat) (fn : Func) (ρ : Rho) (h : H) (w : World) (Q : Exit → Act → World → Prop) : LOut → Prop
  | .done l h' => ∀ a' w', AfterL W0 base fn.ntmps ρ h w (E.aft f id) l h' a' w' → Q (.exit id) a' w'
  | .ret v h' => ∀ a' w', RetAfter P W0 base fn ρ h w v h' a' w' → Q .ret a' w'
def LpOK (P : Program) (W0 : St) (base : Nat) (E : Env) (n : Nat) (lp : Nat → Func → Nat → Code → List V → H → Option LOut) : Prop :=
  ∀ f fn id body l h lo, lp f fn id body l h = some lo → wfCode E f fn.ntmps body = true → ∀ (ρ : Rho) (a : Act) (w : World), Rel W0 base ρ h w → FR ρ (mkF (E.keep f id) l) a.tmps → fn.ntmps ≤ a.tmps.size → a.defers = [] →
    ∀ (Q : Exit → Act → World → Prop), NP Q → LPost P W0 base E f id fn ρ h w Q lo → Code.rounds P body Q n a w

theorem After.trans {nt : Nat} {ρ ρ1 : Rho} {h h1 h2 : H} {w w1 w2 : World} {F2 : Fr} {a2 : Act} (hle : Le ρ ρ1) (rel : Rel W0 base ρ h w) (hf : Frm ρ h h1 w w1) (hh : After W0 base nt ρ1 h1 w1 F2 h2 a2 w2) : After W0 base nt ρ h w F2 h2 a2 w2 := by
  obtain ⟨ρ2, p1, p2, p3, p4, p5, p6⟩ := hh
  exact ⟨ρ2, hle.trans p1, p2, p3, p4, p5, Frm.trans hle rel.len hf p6⟩
theorem AfterL.trans {nt : Nat} {ρ ρ1 : Rho} {h h1 h2 : H} {w w1 w2 : World} {ids : List Nat} {l : List V} {a2 : Act} (hle : Le ρ ρ1) (rel : Rel W0 base ρ h w) (hf : Frm ρ h h1 w w1) (hh : AfterL W0 base nt ρ1 h1 w1 ids l h2 a2 w2) : AfterL W0 base nt ρ h w ids l h2 a2 w2 := by
  obtain ⟨ρ2, p1, p2, p3, p4, p5, p6⟩ := hh
  exact ⟨ρ2, hle.trans p1, p2, p3, p4, p5, Frm.trans hle rel.len hf p6⟩
theorem RetAfter.trans {fn : Func} {ρ ρ1 : Rho} {h h1 h2 : H} {w w1 w2 : World} {v : V} {a2 : Act} (hle : Le ρ ρ1) (rel : Rel W0 base ρ h w) (hf : Frm ρ h h1 w w1) (hh : RetAfter P W0 base fn ρ1 h1 w1 v h2 a2 w2) : RetAfter P W0 base fn ρ h w v h2 a2 w2 := by
  obtain ⟨d, ρ2, x, p1, p2, p3, p5, p6⟩ := hh
  exact ⟨d, ρ2, x, hle.trans p1, p2, p3, p5, Frm.trans hle rel.len hf p6⟩
theorem Post.trans {fn : Func} {ρ ρ1 : Rho} {h h1 : H} {w w1 : World} {Q : Exit → Act → World → Prop} {o : Out} (hle : Le ρ ρ1) (rel : Rel W0 base ρ h w) (hf : Frm ρ h h1 w w1) (hp : Post P W0 base fn ρ h w Q o) : Post P W0 base fn ρ1 h1 w1 Q o := by
  cases o with
  | normal F' h' => exact fun a' w' ha => hp a' w' (ha.trans hle rel hf)
  | exit i F' h' => exact fun a' w' ha => hp a' w' (ha.trans hle rel hf)
  | ret v h' => exact fun a' w' ha => hp a' w' (ha.trans hle rel hf)
theorem LPost.trans {fn : Func} {f id : Nat} {ρ ρ1 : Rho} {h h1 : H} {w w1 : World} {Q : Exit → Act → World → Prop} {o : LOut} (hle : Le ρ ρ1) (rel : Rel W0 base ρ h w) (hf : Frm ρ h h1 w w1) (hp : LPost P W0 base E f id fn ρ h w Q o) : LPost P W0 base E f id fn ρ1 h1 w1 Q o := by
  cases o with
  | done l h' => exact fun a' w' ha => hp a' w' (ha.trans hle rel hf)
  | ret v h' => exact fun a' w' ha => hp a' w' (ha.trans hle rel hf)

theorem pick_ok {F : Fr} {tmps : Array Value} (hF : FR ρ F tmps) : ∀ {ids : List Nat} {l : List V}, pickF F ids = some l → FR ρ (mkF ids l) tmps
  | [], l, hp => by intro d v hd; cases l <;> simp [mkF, look] at hd
  | i :: r, l, hp => by
    simp only [pickF, Option.bind_eq_some_iff] at hp
    obtain ⟨v, h1, l', h2, h3⟩ := hp
    cases h3
    exact (pick_ok hF h2).cons (hF i v h1)

/-! results -/
theorem toA_ok {v : V} {a : A} {x : Value} (hv : VR ρ v x) (ha : v.toA = some a) : AR ρ a x := by
  cases v <;> simp [V.toA] at ha <;> subst ha <;> exact hv
theorem ld_ok (hT : TysOk P E) {t : Nat} {ti : TI} (ht : E.ty t = some ti) {p : V} {k : V → Option R} {r : R} (hl : ldT ti h p k = some r) :
    ∃ v, k v = some r ∧ ∀ (ρ : Rho) (w : World) (x : Value), RelQ W0 base ρ h w → VR ρ p x → ∃ y, VR ρ v y ∧ ∀ w', Same base ρ h w w' → (Instr.loadAt t x).run P w' = .ok y w' := by
  unfold ldT at hl
  cases hag : ti.agg with
  | true =>
    rw [hag] at hl
    simp only [cond_true, Option.bind_eq_some_iff] at hl
    obtain ⟨cs, h5, h6⟩ := hl
    exact ⟨_, h6, fun ρ w x rel hp => run_loadN rel (hT _ _ ht) hag hp h5⟩
  | false =>
    rw [hag] at hl
    simp only [cond_false, Option.bind_eq_some_iff] at hl
    obtain ⟨cs, h5, h6⟩ := hl
    exact ⟨_, h6, fun ρ w x rel hp => by obtain ⟨y, q1, q2⟩ := run_load1 rel (hT _ _ ht) hag hp h5; exact ⟨y, fun _ => q1, q2⟩⟩
theorem asAddr_of_sure {t : Nat} {x y : Value} (hl : (Instr.loadAt t x).run P w = .ok y w) : (do loadVar t (← asAddr x) : Sem Value).run P w = .ok y w := by
  unfold Instr.loadAt at hl
  rw [Sem.run_bind] at hl ⊢
  cases x <;> simp only [Instr.sureAddr, asAddr, run_stuck, Result.andThen_halt, Sem.run_pure, Result.andThen_ok] at hl ⊢ <;> try (cases hl; done)
  rename_i a
  cases a with
  | none => simp only [run_stuck, Result.andThen_halt] at hl; cases hl
  | some a => exact hl

def resOne (tmps : Array Value) : ResultVar → Sem Value
  | .tmp t => pure (tmps.getD t undef)
  | .cell a t => do loadVar t (← asAddr (tmps.getD a undef))
theorem resA_ok (hT : TysOk P E) {F : Fr} : ∀ (rs : List ResultVar) {k : List A → Option R} {r : R}, resA E F h rs k = some r →
    ∃ l, k l = some r ∧ l.length = rs.length ∧ ∀ (ρ : Rho) (tmps : Array Value) (w : World), RelQ W0 base ρ h w → FR ρ F tmps → ∃ xs : List Value, ARs ρ l xs ∧ (rs.mapM (resOne tmps)).run P w = .ok xs w
  | [], k, r, hr => ⟨[], hr, rfl, fun ρ tmps w rel hF => ⟨[], trivial, rfl⟩⟩
  | .tmp t :: rs, k, r, hr => by
    simp only [resA, Option.bind_eq_some_iff] at hr
    obtain ⟨v, h1, a, h2, h3⟩ := hr
    obtain ⟨l, g1, g2, g3⟩ := resA_ok hT rs h3
    refine ⟨a :: l, g1, by simp [g2], fun ρ tmps w rel hF => ?_⟩
    obtain ⟨xs, q1, q2⟩ := g3 ρ tmps w rel hF
    exact ⟨tmps.getD t undef :: xs, ⟨toA_ok (hF t v h1) h2, q1⟩, by simp only [List.mapM_cons, Sem.run_bind, resOne, Sem.run_pure, Result.andThen_ok, q2]⟩
  | .cell p t :: rs, k, r, hr => by
    simp only [resA, Option.bind_eq_some_iff] at hr
    obtain ⟨ti, h1, pv, h2, h3⟩ := hr
    obtain ⟨v, k1, k2⟩ := ld_ok (W0 := W0) (base := base) (P := P) hT h1 h3
    rw [Option.bind_eq_some_iff] at k1
    obtain ⟨a, h4, h5⟩ := k1
    obtain ⟨l, g1, g2, g3⟩ := resA_ok hT rs h5
    refine ⟨a :: l, g1, by simp [g2], fun ρ tmps w rel hF => ?_⟩
    obtain ⟨xs, q1, q2⟩ := g3 ρ tmps w rel hF
    obtain ⟨y, p1, p2⟩ := k2 ρ w _ rel (hF p pv h2)
    have := asAddr_of_sure (p2 w (Same.refl _ _ _ _))
    exact ⟨y :: xs, ⟨toA_ok p1 h4, q1⟩, by simp only [List.mapM_cons, resOne]; rw [Sem.run_bind, this]; simp only [Result.andThen_ok, Sem.run_bind, q2, Sem.run_pure]⟩
theorem resV_ok (hT : TysOk P E) {F : Fr} {fn : Func} {k : V → Option R} {r : R} (hr : resV E F h fn.results.toList k = some r) :
    ∃ v, k v = some r ∧ ∀ (ρ : Rho) (tmps : Array Value) (w : World), RelQ W0 base ρ h w → FR ρ F tmps → ∃ x, VR ρ v x ∧ (results fn tmps).run P w = .ok x w := by
  unfold resV at hr
  have hone : ∀ (x : ResultVar), fn.results.toList = [x] → ∀ (tmps : Array Value) (w : World) (y : Value), (resOne tmps x).run P w = .ok y w → (results fn tmps).run P w = .ok y w := by
    intro x hx tmps w y hy
    have hres : results fn tmps = (do let vs ← fn.results.mapM (resOne tmps); pure (if h : vs.size = 1 then vs[0] else .tuple vs)) := by
      unfold results
      congr 1
    rw [hres, Sem.run_bind, Array.mapM_eq_mapM_toList, Sem.run_map, hx]
    simp only [List.mapM_cons, List.mapM_nil, Sem.run_bind, hy, Result.andThen_ok, Sem.run_pure]
    rfl
  split at hr
  · rename_i t hrs
    rw [Option.bind_eq_some_iff] at hr
    obtain ⟨v, h1, h2⟩ := hr
    exact ⟨v, h2, fun ρ tmps w rel hF => ⟨_, hF t v h1, hone _ hrs tmps w _ rfl⟩⟩
  · rename_i a t hrs
    simp only [Option.bind_eq_some_iff] at hr
    obtain ⟨ti, h1, p, h2, h3⟩ := hr
    obtain ⟨v, k1, k2⟩ := ld_ok (W0 := W0) (base := base) (P := P) hT h1 h3
    refine ⟨v, k1, fun ρ tmps w rel hF => ?_⟩
    obtain ⟨y, p1, p2⟩ := k2 ρ w _ rel (hF a p h2)
    exact ⟨y, p1, hone _ hrs tmps w y (asAddr_of_sure (p2 w (Same.refl _ _ _ _)))⟩
  · rename_i hn1 hn2
    obtain ⟨l, g1, g2, g3⟩ := resA_ok (W0 := W0) (base := base) (P := P) hT _ hr
    refine ⟨_, g1, fun ρ tmps w rel hF => ?_⟩
    obtain ⟨xs, q1, q2⟩ := g3 ρ tmps w rel hF
    have hm : (fn.results.mapM (resOne tmps)).run P w = .ok xs.toArray w := by
      rw [Array.mapM_eq_mapM_toList, Sem.run_map, q2]; rfl
    have hres : results fn tmps = (do let vs ← fn.results.mapM (resOne tmps); pure (if h : vs.size = 1 then vs[0] else .tuple vs)) := by
      unfold results
      congr 1
    have hxl : xs.length = fn.results.toList.length := by
      have : ∀ {l : List A} {xs : List Value}, ARs ρ l xs → xs.length = l.length := by
        intro l
        induction l with
        | nil => intro xs h; cases xs with
          | nil => rfl
          | cons _ _ => exact h.elim
        | cons a l ih => intro xs h; cases xs with
          | nil => exact h.elim
          | cons x xs => simp [ih h.2]
      rw [this q1, g2]
    have hne : ¬ xs.toArray.size = 1 := by
      intro h1
      simp only [List.size_toArray] at h1
      rw [hxl] at h1
      match hrl : fn.results.toList, h1 with
      | [.tmp t], _ => exact hn1 t hrl
      | [.cell a t], _ => exact hn2 a t hrl
    refine ⟨.tuple xs.toArray, ⟨_, rfl, by simpa using q1⟩, ?_⟩
    rw [hres, Sem.run_bind, hm]
    simp only [Result.andThen_ok, Sem.run_pure, dif_neg hne]

theorem pickL_ok {F : Fr} {tmps : Array Value} (hF : FR ρ F tmps) : ∀ {ids : List Nat} {l : List V}, pickF F ids = some l → FRL ρ tmps ids l
  | [], l, hp => by simp [pickF] at hp; subst hp; trivial
  | i :: r, l, hp => by
    simp only [pickF, Option.bind_eq_some_iff] at hp
    obtain ⟨v, h1, l', h2, h3⟩ := hp
    cases h3
    exact ⟨hF i v h1, pickL_ok hF h2⟩
theorem withF_ok {st : Nat → VT} {l : List V} : ∀ (ids : List Nat) (j : Nat) {F : Fr} {k : Fr → Option R} {r : R}, withF st l ids j F k = some r → ∃ F', k F' = some r ∧
    ∀ (ρ : Rho) (tmps : Array Value), FRL ρ tmps ids (l.drop j) → FR ρ F tmps → FR ρ F' tmps
  | [], j, F, k, r, hr => ⟨F, hr, fun ρ tmps _ h => h⟩
  | i :: ids, j, F, k, r, hr => by
    simp only [withF, Option.bind_eq_some_iff] at hr
    obtain ⟨v, h1, h2⟩ := hr
    obtain ⟨F', g1, g2⟩ := withF_ok ids (j + 1) (tyV_some h2)
    refine ⟨F', g1, fun ρ tmps hL hF => ?_⟩
    have hd : l.drop j = v :: l.drop (j + 1) := by
      obtain ⟨hlt, he⟩ := List.getElem?_eq_some_iff.1 h1
      rw [List.drop_eq_getElem_cons hlt, he]
    rw [hd] at hL
    exact g2 ρ tmps hL.2 (hF.cons hL.1)
theorem FR.nil {tmps : Array Value} : FR ρ [] tmps := fun d v h => by simp [look] at h

theorem inBlock_np {id : Nat} {Q : Exit → Act → World → Prop} (hQ : NP Q) : NP (Exit.inBlock id Q) := fun c a w h => hQ c a w h
theorem then_np {K : Act → World → Prop} {Q : Exit → Act → World → Prop} (hQ : NP Q) : NP (Exit.then K Q) := fun c a w h => hQ c a w h

theorem code_ok (hE : EnvOk P E) {cl : Option Nat → Nat → List V → H → (V → H → Option R) → Option R} (hcl : MlOK P W0 base cl) {lp : Nat → Func → Nat → Code → List V → H → Option LOut} {n : Nat} (hlp : LpOK P W0 base E n lp) {f : Nat} {fn : Func} (hpl : MlP P W0 base (pmE E f) cl) :
    ∀ (c : Code), wfCode E f fn.ntmps c = true → ∀ {F : Fr} {h : H} {k : Out → Option R} {r : R}, code E cl lp f fn c F h k = some r → ∃ out, k out = some r ∧ CodeOK P W0 base fn c F h out := by
  intro c
  induction c with
  | skip =>
    intro _ F h k r hr
    exact ⟨_, hr, fun ρ a w rel hF hs hd Q hQ hp => wp_skip (hp a w ⟨ρ, Le.refl _, hF, hs, hd, rel, Frm.refl _ _ _⟩)⟩
  | region id ops draw =>
    intro hwf F h k r hr
    simp only [wfCode, Bool.and_eq_true] at hwf
    obtain ⟨hw1, hw2⟩ := hwf
    have hnt : ∀ o ∈ ops.toList, ∀ d, o.dst = some d → d < fn.ntmps := by
      intro o ho d hd
      have := List.all_eq_true.1 hw1 o ho
      rw [hd] at this
      simpa using this
    cases draw with
    | false =>
      simp only [code, cond_false] at hr
      obtain ⟨F', h', g1, g2⟩ := lex_ok (W0 := W0) (base := base) (P := P) hE.ty hcl ops.toList hnt hr
      exact ⟨_, g1, fun ρ a w rel hF hs hd Q hQ hp => wp_region_list (g2 ρ a w rel hF hs hd Q hp)⟩
    | true =>
      simp only [code, cond_true] at hr
      simp only [Bool.not_true, Bool.false_or] at hw2
      unfold okSched at hw2
      simp only [Bool.and_eq_true, beq_iff_eq] at hw2
      obtain ⟨⟨c1, c2⟩, c3⟩ := hw2
      obtain ⟨h0, hr, hn0, hx0⟩ := killK_some hr
      obtain ⟨F', h', g1, g2, _⟩ := draw_ok (W0 := W0) (base := base) (P := P) hE.ty hcl hpl (nt := fn.ntmps) (fun i o ho => hnt o (by rw [← Array.getElem?_toList] at ho; exact List.mem_of_getElem? ho)) c1 _ _ c3 hr
      refine ⟨_, g1, fun ρ a w rel hF hs hd Q hQ hp => wp_region_last (S := fun w' => Same base ρ h0 { w with drawn := w.drawn + 1 } w') (ds := lastsOf (E.sched f id)) hE.mixed ?_⟩
      have := g2 ρ { w with drawn := w.drawn + 1 } (by rw [rel.len, hn0]) ((rel.same (w' := { w with drawn := w.drawn + 1 }) rfl).elder hx0) ρ a { w with drawn := w.drawn + 1 } (Le.refl _) (rel.same rfl) hF hs hd (.inl ⟨hx0, Same.refl _ _ _ _, .inl hF⟩) Q hQ fun a' w' ha => hp a' w' (ha.trans (Le.refl _) rel (Frm.same rfl))
      rw [c2] at this
      exact this
  | seq x y ihx ihy =>
    intro hwf F h k r hr
    simp only [wfCode, Bool.and_eq_true] at hwf
    simp only [code] at hr
    obtain ⟨out, g1, g2⟩ := ihx hwf.1 hr
    cases out with
    | normal F1 h1 =>
      obtain ⟨out2, k1, k2⟩ := ihy hwf.2 g1
      refine ⟨out2, k1, fun ρ a w rel hF hs hd Q hQ hp => wp_seq (g2 ρ a w rel hF hs hd _ (then_np hQ) fun a' w' ⟨ρ1, p1, p2, p3, p4, p5, p6⟩ => ?_)⟩
      exact k2 ρ1 a' w' p5 p2 p3 p4 Q hQ (hp.trans p1 rel p6)
    | exit i F1 h1 =>
      exact ⟨_, g1, fun ρ a w rel hF hs hd Q hQ hp => wp_seq (g2 ρ a w rel hF hs hd _ (then_np hQ) hp)⟩
    | ret v h1 =>
      exact ⟨_, g1, fun ρ a w rel hF hs hd Q hQ hp => wp_seq (g2 ρ a w rel hF hs hd _ (then_np hQ) hp)⟩
  | cond c x y ihx ihy =>
    intro hwf F h k r hr
    simp only [wfCode, Bool.and_eq_true] at hwf
    simp only [code, Option.bind_eq_some_iff] at hr
    obtain ⟨v, h1, h2⟩ := hr
    obtain ⟨b, rfl, h3⟩ := vcase_some h2
    cases b with
    | true =>
      obtain ⟨out, g1, g2⟩ := ihx hwf.1 h3
      exact ⟨out, g1, fun ρ a w rel hF hs hd Q hQ hp => wp_cond_true (opd_ok hF h1).bool (g2 ρ a w rel hF hs hd Q hQ hp)⟩
    | false =>
      obtain ⟨out, g1, g2⟩ := ihy hwf.2 h3
      exact ⟨out, g1, fun ρ a w rel hF hs hd Q hQ hp => wp_cond_false (opd_ok hF h1).bool (g2 ρ a w rel hF hs hd Q hQ hp)⟩
  | block id b ih =>
    intro hwf F h k r hr
    simp only [wfCode] at hwf
    by_cases hb : ∃ body, b = .loop body
    · obtain ⟨body, rfl⟩ := hb
      simp only [wfCode] at hwf
      simp only [code, Option.bind_eq_some_iff] at hr
      obtain ⟨l, h1, lo, h2, h3⟩ := hr
      have key := fun ρ a w rel (hF : FR ρ F a.tmps) hs hd => hlp f fn id body l h lo h2 hwf ρ a w rel (pick_ok hF h1) hs hd
      cases lo with
      | done l' h' =>
        obtain ⟨F', g1, g2⟩ := withF_ok _ _ h3
        refine ⟨_, g1, fun ρ a w rel hF hs hd Q hQ hp => wp_block (wp_loop_rounds n (key ρ a w rel hF hs hd _ (inBlock_np hQ) fun a' w' ha => ?_))⟩
        show (if id = id then Q .normal a' w' else Q (.exit id) a' w')
        obtain ⟨ρ', p1, p2, p3⟩ := ha
        rw [if_pos rfl]; exact hp a' w' ⟨ρ', p1, g2 ρ' _ p2 FR.nil, p3⟩
      | ret v h' =>
        exact ⟨_, h3, fun ρ a w rel hF hs hd Q hQ hp => wp_block (wp_loop_rounds n (key ρ a w rel hF hs hd _ (inBlock_np hQ) hp))⟩
    · have hr' : code E cl lp f fn b F h (fun o => match o with
          | .exit i F h => bif i == id then k (.normal F h) else k (.exit i F h)
          | o => k o) = some r := by
        cases b with
        | loop body => exact absurd ⟨body, rfl⟩ hb
        | _ => exact hr
      obtain ⟨out, g1, g2⟩ := ih hwf hr'
      cases out with
      | normal F1 h1 => exact ⟨_, g1, fun ρ a w rel hF hs hd Q hQ hp => wp_block (g2 ρ a w rel hF hs hd _ (inBlock_np hQ) hp)⟩
      | ret v h1 => exact ⟨_, g1, fun ρ a w rel hF hs hd Q hQ hp => wp_block (g2 ρ a w rel hF hs hd _ (inBlock_np hQ) hp)⟩
      | exit i F1 h1 =>
        simp only [] at g1
        by_cases hi : i = id
        · subst hi
          simp only [beq_self_eq_true, cond_true] at g1
          refine ⟨_, g1, fun ρ a w rel hF hs hd Q hQ hp => wp_block (g2 ρ a w rel hF hs hd _ (inBlock_np hQ) fun a' w' ha => ?_)⟩
          show (if i = i then Q .normal a' w' else Q (.exit i) a' w')
          rw [if_pos rfl]; exact hp a' w' ha
        · rw [show (i == id) = false from by simpa using hi] at g1
          refine ⟨_, g1, fun ρ a w rel hF hs hd Q hQ hp => wp_block (g2 ρ a w rel hF hs hd _ (inBlock_np hQ) fun a' w' ha => ?_)⟩
          show (if i = id then Q .normal a' w' else Q (.exit i) a' w')
          rw [if_neg hi]; exact hp a' w' ha
  | exit i =>
    intro _ F h k r hr
    exact ⟨_, hr, fun ρ a w rel hF hs hd Q hQ hp => wp_exit (hp a w ⟨ρ, Le.refl _, hF, hs, hd, rel, Frm.refl _ _ _⟩)⟩
  | ret =>
    intro _ F h k r hr
    simp only [code] at hr
    obtain ⟨v, g1, g2⟩ := resV_ok (W0 := W0) (base := base) (P := P) hE.ty hr
    refine ⟨_, g1, fun ρ a w rel hF hs hd Q hQ hp => wp_ret (hp a w ?_)⟩
    obtain ⟨x, q1, q2⟩ := g2 ρ a.tmps w rel.q hF
    exact ⟨hd, ρ, x, Le.refl _, q2, q1, rel, Frm.refl _ _ _⟩
  | _ => intro _ F h k r hr; simp [code] at hr

/-! calls and loops, so many rounds -/
theorem init_ok : ∀ {i : Nat} {args : List V} {xs : List Value}, VRs ρ args xs → ∀ {d : Nat} {v : V}, look (initF i args) d = some v → i ≤ d ∧ ∃ x, xs[d - i]? = some x ∧ VR ρ v x
  | i, [], [], _, d, v, hd => by simp [initF, look] at hd
  | i, a :: as, x :: xs, ⟨h1, h2⟩, d, v, hd => by
    simp only [initF, look] at hd
    by_cases hid : i = d
    · subst hid
      simp at hd
      subst hd
      exact ⟨Nat.le_refl _, x, by simp, h1⟩
    · rw [show (i == d) = false from by simpa using hid] at hd
      obtain ⟨g1, y, g2, g3⟩ := init_ok (i := i + 1) h2 hd
      refine ⟨by omega, y, ?_, g3⟩
      rw [show d - i = (d - (i + 1)) + 1 from by omega, List.getElem?_cons_succ]
      exact g2
  | _, [], _ :: _, h, _, _, _ => h.elim
  | _, _ :: _, [], h, _, _, _ => h.elim

theorem look_mem : ∀ {ids : List Nat} {l : List V} {d : Nat} {v : V}, look (mkF ids l) d = some v → v ∈ l
  | [], l, d, v, h => by cases l <;> simp [mkF, look] at h
  | i :: ids, [], d, v, h => by simp [mkF, look] at h
  | i :: ids, u :: l, d, v, h => by
    simp only [mkF, look] at h
    cases hid : i == d <;> rw [hid] at h
    · exact List.mem_cons_of_mem _ (look_mem h)
    · cases h; exact List.mem_cons_self
theorem FRL.to {ρ ρ' : Rho} {tmps : Array Value} : ∀ {ids : List Nat} {l : List V}, FRL ρ tmps ids l → (∀ v x, v ∈ l → VR ρ v x → VR ρ' v x) → FRL ρ' tmps ids l
  | [], [], _, _ => trivial
  | i :: ids, v :: l, h, hv => ⟨hv _ _ (by simp) h.1, FRL.to h.2 fun u x hu => hv u x (by simp [hu])⟩
  | [], _ :: _, h, _ => h.elim
  | _ :: _, [], h, _ => h.elim
theorem run_ok (hE : EnvOk P E) : ∀ n W0 base, ClOK P W0 base (runN E n).1 ∧ LpOK P W0 base E n (runN E n).2
  | 0, W0, base => ⟨fun f args h v h' hr => by simp [runN] at hr, fun f fn id body l h lo hr => by simp [runN] at hr⟩
  | n + 1, W0, base => by
    have ih1 := fun (R : Type) f => mcall_ok (W0 := W0) (base := base) (P := P) (E := E) (R := R) (fun W0 base => (run_ok hE n W0 base).1) f
    have ihp := fun (R : Type) f => mcall_p (W0 := W0) (base := base) (P := P) (E := E) (R := R) (fun W0 base => (run_ok hE n W0 base).1) f
    have ih2 := (run_ok hE n W0 base).2
    refine ⟨fun f args h v h' hr => ?_, fun f fn id body l h lo hr hwf ρ a w rel hF hs hd Q hQ hp => ?_⟩
    · simp only [runN, callB, Option.bind_eq_some_iff] at hr
      obtain ⟨fn, h1, c, h2, h3⟩ := hr
      obtain ⟨e1, e2, e3⟩ := hE.fn f fn h1
      obtain ⟨out, g1, g2⟩ := code_ok hE (ih1 _ f) ih2 (ihp _ f) c (e3 c h2) h3
      refine ⟨⟨fn, e1, e2, by rw [h2]; rfl⟩, fun ρ w xs rel hargs => calls_of_wp e1 h2 ?_⟩
      have hF : FR ρ (initF 0 args) (xs.toArray ++ Array.replicate (fn.ntmps - xs.toArray.size) undef) := by
        intro d v hd
        obtain ⟨_, x, q1, q2⟩ := init_ok hargs hd
        rw [Nat.sub_zero] at q1
        have hlt := (List.getElem?_eq_some_iff.1 q1).1
        rw [Array.getD_eq_getD_getElem?, Array.getElem?_append_left (by simpa using hlt), List.getElem?_toArray, q1]
        exact q2
      refine g2 ρ _ w rel hF (by simp; omega) rfl _ (fun c a w hh => by obtain ⟨_, x, hx, _⟩ := hh; cases hx) ?_
      cases out with
      | normal F1 h1 =>
        simp only [] at g1
        obtain ⟨u, k1, k2⟩ := resV_ok (W0 := W0) (base := base) (P := P) hE.ty g1
        cases k1
        intro a' w' ⟨ρ1, p1, p2, p3, p4, p5, p6⟩
        obtain ⟨x, q1, q2⟩ := k2 ρ1 a'.tmps w' p5.q p2
        exact ⟨p4, x, q2, x, rfl, ρ1, p1, q1, p5, p6⟩
      | ret u h1 =>
        cases g1
        intro a' w' ⟨p4, ρ1, x, p1, q2, q1, p5, p6⟩
        exact ⟨p4, x, q2, x, rfl, ρ1, p1, q1, p5, p6⟩
      | exit i F1 h1 => cases g1
    · simp only [runN, loopB] at hr
      obtain ⟨out, g1, g2⟩ := code_ok hE (ih1 _ f) ih2 (ihp _ f) body hwf hr
      rw [rounds_succ]
      refine g2 ρ a w rel hF hs hd _ (then_np hQ) ?_
      cases out with
      | normal F1 h1 =>
        simp only [Option.bind_eq_some_iff] at g1
        obtain ⟨l1, k1, k2⟩ := g1
        intro a' w' ⟨ρ1, p1, p2, p3, p4, p5, p6⟩
        obtain ⟨ρ3, t1, t2, t3, t4⟩ := tidy_ok rel p1 p5 p6 l1
        exact ih2 f fn id body l1 _ lo k2 hwf ρ3 a' w' t2 (fun d v hd => t4 v _ (look_mem hd) (pick_ok p2 k1 d v hd)) p3 p4 Q hQ (hp.trans t1 rel t3)
      | exit i F1 h1 =>
        simp only [] at g1
        by_cases hi : i = id
        · subst hi
          simp only [beq_self_eq_true, cond_true, Option.bind_eq_some_iff] at g1
          obtain ⟨l1, k1, k2⟩ := g1
          cases k2
          intro a' w' ⟨ρ1, p1, p2, p3, p4, p5, p6⟩
          obtain ⟨ρ3, t1, t2, t3, t4⟩ := tidy_ok rel p1 p5 p6 l1
          exact hp a' w' ⟨ρ3, t1, (pickL_ok p2 k1).to t4, p3, p4, t2, t3⟩
        · rw [show (i == id) = false from by simpa using hi] at g1
          cases g1
      | ret v h1 =>
        cases g1
        exact hp

end Vm
