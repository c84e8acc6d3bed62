/-
  A region that draws its order, run in an order that was looked over.
-/
import Derived.Test.YtnidgolbfmbocaaVmI
import Derived.Test.YtnidgolbfmbocaaWLast
set_option linter.unusedVariables false
set_option linter.unusedSimpArgs false
namespace Vm
open Go Go.Proofs.YtnidgolbfmbocaaW.PrintLast
variable {W0 : St} {base : Nat} {ρ : Rho} {h : H} {w w' : World} {P : Program} {E : Env} {R : Type}

theorem one_quiet (hT : TysOk P E) {cl : Option Nat → Nat → List V → H → (V → H → Option R) → Option R} {o : Oper} {F : Fr} {k : V → H → Option R} {r : R} (hr : oneOp E cl F h o k = some r) (hq : quietB E o.op = true) :
    ∃ v, k v h = some r ∧ QMK P W0 base (memB E o.op) o F h v := by
  unfold oneOp at hr
  split at hr
  · rename_i c hop
    rw [hop] at hq
    simp only [quietB] at hq
    split at hq
    · rename_i hcal
      unfold callOp at hr
      simp only [hcal, Option.bind_eq_some_iff] at hr
      obtain ⟨as, h2, h3⟩ := hr
      split at h3
      · simp only [Option.bind_eq_some_iff] at h3
        obtain ⟨t, h4, ti, h5, v, h6, h7⟩ := h3
        refine ⟨_, h7, fun ρ a w rel hF => ?_⟩
        obtain ⟨u, q1, q2⟩ := list1 (opds_ok hF h2)
        obtain ⟨q, g1, g2⟩ := run_len (ty := o.type) hT h4 h5 q2 h6
        refine ⟨q, g1, fun w' _ => ?_⟩
        have : c.args.map a.eval = #[u] := by rw [← Array.toList_inj, Array.toList_map, q1]
        simp only [execOp, hop, resolve, hcal, Sem.run_bind, Sem.run_pure, Result.andThen_ok, invoke, builtin, this, g2]
      all_goals contradiction
    · cases hq
  · exact quiet_ok hT hr hq

theorem gop_quiet (hT : TysOk P E) {cl : Option Nat → Nat → List V → H → (V → H → Option R) → Option R} {all : Array Oper} {o : Oper} {F : Fr} {k : Fr → H → Option R} {r : R} (hr : gOp E cl all F h o k = some r) (hq : quietB E o.op = true) :
    ∃ F0 v, k (fput F0 o.dst v) h = some r ∧ ∀ (ρ : Rho) (a : Act) (w : World), RelQ W0 base ρ h w → FR ρ F a.tmps → ∃ x, VR ρ v x ∧ FR ρ F0 a.tmps ∧
      ((Region.wanted o (yielded all a.tmps) = true ∧ ∀ w', (memB E o.op = true ∨ Same base ρ h w w') → (execOp a.eval o).run P w' = .ok (.value x) w') ∨ (Region.wanted o (yielded all a.tmps) = false ∧ x = undef)) := by
  unfold gOp at hr
  split at hr
  · rename_i hg
    obtain ⟨v, g1, g2⟩ := one_quiet (W0 := W0) (base := base) (P := P) hT hr hq
    refine ⟨F, v, tyV_some g1, fun ρ a w rel hF => ?_⟩
    obtain ⟨x, q1, q2⟩ := g2 ρ a w rel hF
    exact ⟨x, q1, hF, .inl ⟨by simp [Region.wanted, hg], q2⟩⟩
  · rename_i j want hg
    simp only [Option.bind_eq_some_iff] at hr
    obtain ⟨t, h1, v, h2, h3⟩ := hr
    rcases gcase_some h3 with ⟨b, rfl, h4⟩ | ⟨rfl, h4⟩
    case inr =>
      replace h4 : k (fput ((t, .tup []) :: F) o.dst (.tup [])) h = some r := by cases hf : free all j <;> rw [hf] at h4 <;> first | exact h4 | cases h4
      refine ⟨_, _, h4, fun ρ a w rel hF => ⟨undef, unitR ρ, hF.cons (hF t _ h2), .inr ⟨?_, rfl⟩⟩⟩
      simp [Region.wanted, hg, yielded_un h1 (hF t _ h2).unit]
    have hy : ∀ {ρ : Rho} {a : Act}, FR ρ F a.tmps → yielded all a.tmps j = some b := fun hF => yielded_eq h1 (hF t _ h2).bool
    have hFb : ∀ {ρ : Rho} {a : Act}, FR ρ F a.tmps → FR ρ ((t, .s (.bool b)) :: F) a.tmps := fun hF => hF.cons (hF t _ h2)
    by_cases hw : want = b
    · have h5 : oneOp E cl ((t, .s (.bool b)) :: F) h o (fun v h => tyV (vtOp E o) v fun v => k (fput ((t, .s (.bool b)) :: F) o.dst v) h) = some r := by
        subst hw; cases want <;> exact h4
      obtain ⟨v, g1, g2⟩ := one_quiet (W0 := W0) (base := base) (P := P) hT h5 hq
      refine ⟨_, v, tyV_some g1, fun ρ a w rel hF => ?_⟩
      obtain ⟨x, q1, q2⟩ := g2 ρ a w rel (hFb hF)
      exact ⟨x, q1, hFb hF, .inl ⟨by simp [Region.wanted, hg, hy hF, hw], q2⟩⟩
    · have h5 : k (fput ((t, .s (.bool b)) :: F) o.dst (.tup [])) h = some r := by
        cases b <;> cases want <;> first | exact h4 | (simp at hw)
      refine ⟨_, _, h5, fun ρ a w rel hF => ⟨undef, unitR ρ, hFb hF, .inr ⟨?_, rfl⟩⟩⟩
      simp [Region.wanted, hg, hy hF]
      exact fun h => hw h.symm

/-- what may stand behind the last writing -/
def lateB (p : Nat × Nat) : Bool := p.2 == 2 || p.2 == 3
def okGo (E : Env) (all : Array Oper) (ds : List Nat) : List (Nat × Nat) → Array Bool → Bool
  | [], l => Region.ready .any all l == []
  | (i, 0) :: r, l => (Region.ready .any all l).contains i && Region.free .any all l i && Region.closedB .any all l && Region.lastB .any all l ds i && ((all[i]?).map fun o => quietB E o.op).getD false && okGo E all ds r (l.setIfInBounds i true)
  | (i, 1) :: r, l => Region.ready .any all l == [i] && !ds.contains i && okGo E all ds r (l.setIfInBounds i true)
  | (i, 2) :: r, l => Region.ready .any all l == [i] && ds.contains i && r.all lateB && okGo E all ds r (l.setIfInBounds i true)
  | (i, 3) :: r, l => (Region.ready .any all l).contains i && Region.free .any all l i && ((all[i]?).map fun o => quietB E o.op && memB E o.op).getD false && r.all (fun p => p.2 != 0) && okGo E all ds r (l.setIfInBounds i true)
  | (i, 4) :: r, l => (Region.ready .any all l).contains i && Region.free .any all l i && Region.closedB .any all l && Region.lastB .any all l ds i && ((all[i]?).map fun o => quietB E o.op).getD false && r.all (fun p => p.2 != 0) && okGo E all ds r (l.setIfInBounds i true)
  | (_, _) :: _, _ => false
def lastsOf (s : List (Nat × Nat)) : List Nat := (s.filter fun p => p.2 == 2).map (·.1)
def okSched (E : Env) (all : Array Oper) (s : List (Nat × Nat)) : Bool :=
  Region.noSelect all && s.length == all.size && okGo E all (lastsOf s) s (Array.replicate all.size false)

def NP (Q : Exit → Act → World → Prop) : Prop := ∀ c a w, ¬ Q (.panic c) a w

theorem FzR.sca {ρ : Rho} {mu : Nat → Option (Array Value)} {s : S} {x : Value} (h : SR ρ s x) (hs : scaS s = true) : SR ⟨ρ.bl, mu⟩ s x := by
  have hcr : ∀ {c : List (Nat × Nat)} {l : List Value}, CR ρ c l → CR ⟨ρ.bl, mu⟩ c l := by
    intro c
    induction c with
    | nil => intro l h; cases l <;> exact h
    | cons p c ih =>
      intro l h
      cases l with
      | nil => exact h
      | cons v l => exact ⟨h.1, ih h.2⟩
  cases s with
  | no => exact h
  | bool b => exact h
  | int k n => exact h
  | str s => exact h
  | nofn => exact h
  | ptr a => cases a <;> exact h
  | sl a n => cases a <;> exact h
  | fn f c => obtain ⟨xs, h1, h2⟩ := h; exact ⟨xs, h1, hcr h2⟩
  | fs rows =>
    cases rows with
    | nil =>
      cases (show FzR ρ.mu (.fs []) x from h) with
      | fs0 a cap => exact FzR.fs0 a cap
      | fs _ h0 => exact absurd rfl h0
    | cons r rows => simp [scaS] at hs
  | fp row o => simp [scaS] at hs
theorem SRs.sca {ρ : Rho} {mu : Nat → Option (Array Value)} : ∀ {c : List S} {l : List Value}, SRs ρ c l → c.all scaS = true → SRs ⟨ρ.bl, mu⟩ c l
  | [], [], _, _ => trivial
  | s :: c, x :: l, h, hs => by
    simp only [List.all_cons, Bool.and_eq_true] at hs
    exact ⟨FzR.sca h.1 hs.1, SRs.sca h.2 hs.2⟩
  | [], _ :: _, h, _ => h.elim
  | _ :: _, [], h, _ => h.elim
theorem AR.sca {ρ : Rho} {mu : Nat → Option (Array Value)} {a : A} {x : Value} (h : AR ρ a x) (hs : scaA a = true) : AR ⟨ρ.bl, mu⟩ a x := by
  cases a with
  | s s => exact fun hn => FzR.sca (h hn) hs
  | agg cs => obtain ⟨xs, h1, h2⟩ := h; exact ⟨xs, h1, h2.sca hs⟩
theorem ARs.sca {ρ : Rho} {mu : Nat → Option (Array Value)} : ∀ {c : List A} {l : List Value}, ARs ρ c l → c.all scaA = true → ARs ⟨ρ.bl, mu⟩ c l
  | [], [], _, _ => trivial
  | s :: c, x :: l, h, hs => by
    simp only [List.all_cons, Bool.and_eq_true] at hs
    exact ⟨AR.sca h.1 hs.1, ARs.sca h.2 hs.2⟩
  | [], _ :: _, h, _ => h.elim
  | _ :: _, [], h, _ => h.elim
theorem VR.sca {ρ : Rho} {mu : Nat → Option (Array Value)} {v : V} {x : Value} (h : VR ρ v x) (hs : scaV v = true) : VR ⟨ρ.bl, mu⟩ v x := by
  cases v with
  | s s => exact fun hn => FzR.sca (h hn) hs
  | agg cs => obtain ⟨xs, h1, h2⟩ := h; exact ⟨xs, h1, h2.sca hs⟩
  | tup vs => obtain ⟨xs, h1, h2⟩ := h; exact ⟨xs, h1, h2.sca hs⟩

theorem killK_some {F : Fr} : ∀ {l : List Nat} {h : H} {k : H → Option R} {r : R}, killK F l h k = some r → ∃ h0, k h0 = some r ∧ h0.n = h.n ∧ HExt h0 h
  | [], h, k, r, hr => ⟨h, hr, rfl, Nat.le_refl _, fun _ _ => .inr ⟨rfl, rfl⟩⟩
  | i :: l, h, k, r, hr => by
    have key : ∀ b, killK F l (h.put b .dead) k = some r → ∃ h0, k h0 = some r ∧ h0.n = h.n ∧ HExt h0 h := fun b hr => by
      obtain ⟨h0, g1, g2, g3⟩ := killK_some hr
      refine ⟨h0, g1, g2, g3.1, fun c hc => ?_⟩
      rcases g3.2 c hc with g4 | g4
      · exact .inl g4
      · by_cases hcb : c = b
        · subst hcb
          left; rw [← g4.1]; simp [H.put]
        · simp only [H.put, if_neg hcb] at g4
          exact .inr g4
    simp only [killK, Option.bind_eq_some_iff] at hr
    obtain ⟨v, h1, h2⟩ := hr
    unfold killV at h2
    split at h2
    · exact key _ h2
    · exact key _ h2
    · exact killK_some h2
    · cases h2
theorem pickR_look {F : Fr} : ∀ {l : List Nat} {L : Fr}, pickR F l = some L → ∀ {e : Nat} {u : V}, look L e = some u → look F e = some u
  | [], L, hL, e, u, he => by cases hL; cases he
  | i :: l, L, hL, e, u, he => by
    simp only [pickR, Option.bind_eq_some_iff] at hL
    obtain ⟨v, h1, L', h2, h3⟩ := hL
    cases h3
    simp only [look] at he
    cases hie : i == e with
    | true => rw [hie] at he; cases he; rw [← eq_of_beq hie]; exact h1
    | false => rw [hie] at he; exact pickR_look h2 he
theorem look_all {p : V → Bool} : ∀ {L : Fr}, L.all (fun q => p q.2) = true → ∀ {e : Nat} {u : V}, look L e = some u → p u = true
  | [], _, e, u, he => by cases he
  | (i, v) :: L, ha, e, u, he => by
    simp only [List.all_cons, Bool.and_eq_true] at ha
    simp only [look] at he
    cases hie : i == e with
    | true => rw [hie] at he; cases he; exact ha.1
    | false => rw [hie] at he; exact look_all ha.2 he
theorem fput_app (A B : Fr) (d : Option Nat) (v : V) : fput A d v ++ B = fput (A ++ B) d v := by cases d <;> rfl
theorem look_app : ∀ {A B : Fr} {e : Nat} {u : V}, look (A ++ B) e = some u → look A e = some u ∨ look B e = some u
  | [], B, e, u, h => .inr h
  | (i, v) :: A, B, e, u, h => by
    simp only [List.cons_append, look] at h ⊢
    cases hie : i == e with
    | true => rw [hie] at h; exact .inl h
    | false => rw [hie] at h; exact look_app h
theorem FR.app {A B : Fr} {tmps : Array Value} (hA : FR ρ A tmps) (hB : FR ρ B tmps) : FR ρ (A ++ B) tmps := fun e u he => (look_app he).elim (hA e u) (hB e u)
theorem draw_ok (hT : TysOk P E) {cl : Option Nat → Nat → List V → H → (V → H → Option R) → Option R} (hcl : MlOK P W0 base cl) {nt : Nat} {all : Array Oper} (hnt : ∀ (i : Nat) (o : Oper), all[i]? = some o → ∀ d, o.dst = some d → d < nt) (hsel : Region.noSelect all = true) {ds : List Nat} {h0 : H} :
    ∀ (s : List (Nat × Nat)) (l : Array Bool), okGo E all ds s l = true → ∀ {F : Fr} {h : H} {k : Fr → H → Option R} {r : R}, drawOps E cl all h0 s F h k = some r →
      ∃ F' h', k F' h' = some r ∧ ∀ (ρ0 : Rho) (w0 : World), ρ0.bl.length = h0.n → RelQ W0 base ρ0 h0 w0 → ∀ (ρ : Rho) (a : Act) (w : World), Le ρ0 ρ → Rel W0 base ρ h w → FR ρ F a.tmps → nt ≤ a.tmps.size → a.defers = [] →
        ((HExt h0 h ∧ Same base ρ0 h0 w0 w ∧ (FR ⟨ρ.bl, ρ0.mu⟩ F a.tmps ∨ s.all (fun p => p.2 != 0) = true)) ∨ s.all lateB = true) → ∀ (Q : Exit → Act → World → Prop), NP Q → (∀ a' w', After W0 base nt ρ h w F' h' a' w' → Q .normal a' w') →
        wpAnyLast P .any all Q (fun w' => Same base ρ0 h0 w0 w') ds s.length l a w
  | [], l, hok, F, h, k, r, hr => by
    refine ⟨F, h, hr, fun ρ0 w0 hl0 rel0 ρ a w hle rel hF hs hd hph Q hQ hn => ?_⟩
    simp only [okGo, beq_iff_eq] at hok
    exact wpAnyLast_done hok (hn a w ⟨ρ, Le.refl _, hF, hs, hd, rel, Frm.refl _ _ _⟩) _
  | (i, kd) :: s, l, hok, F, h, k, r, hr => by
    have step : ∀ (o : Oper) (h1 : H) (F1 : Fr), all[i]? = some o → Region.ready .any all l = [i] → okGo E all ds s (l.setIfInBounds i true) = true → GOK P W0 base nt all o F h F1 h1 → (∀ e u, look F1 e = some u → o.dst ≠ some e → look F e = some u ∨ scaV u = true) → (s.all (fun p => p.2 != 0) = true ∨ (∀ d u, o.dst = some d → look F1 d = some u → scaV u = true) ∨ i ∈ ds) → drawOps E cl all h0 s F1 h1 k = some r →
        ((i ∉ ds ∧ HExt h0 h1 ∧ ∀ p : Prop, p → p) ∨ (i ∈ ds ∧ s.all lateB = true)) →
        ∃ F' h', k F' h' = some r ∧ ∀ (ρ0 : Rho) (w0 : World), ρ0.bl.length = h0.n → RelQ W0 base ρ0 h0 w0 → ∀ (ρ : Rho) (a : Act) (w : World), Le ρ0 ρ → Rel W0 base ρ h w → FR ρ F a.tmps → nt ≤ a.tmps.size → a.defers = [] →
          ((HExt h0 h ∧ Same base ρ0 h0 w0 w ∧ (FR ⟨ρ.bl, ρ0.mu⟩ F a.tmps ∨ s.all (fun p => p.2 != 0) = true)) ∨ (kd = 2 ∧ s.all lateB = true)) → (i ∉ ds → kd = 1) → ∀ (Q : Exit → Act → World → Prop), NP Q → (∀ a' w', After W0 base nt ρ h w F' h' a' w' → Q .normal a' w') →
          wpAnyLast P .any all Q (fun w' => Same base ρ0 h0 w0 w') ds (s.length + 1) l a w := by
      intro o h1 F1 ho hrd hgo hG hfr hsc hdr hcase
      obtain ⟨F', h', g1, g2⟩ := draw_ok hT hcl hnt hsel s _ hgo hdr
      refine ⟨F', h', g1, fun ρ0 w0 hl0 rel0 ρ a w hle rel hF hs hd hph hkd Q hQ hn => wpAnyLast_all hrd (by simp) fun i' hi' => ?_⟩
      obtain rfl : i' = i := by simpa using hi'
      unfold wpOp
      simp only [ho]
      have key := hG ρ a w rel hF hs hd (fun a' w' => (i' ∉ ds → Same base ρ0 h0 w0 w → Same base ρ0 h0 w0 w') ∧ wpAnyLast P .any all Q (fun w' => Same base ρ0 h0 w0 w') ds s.length (l.setIfInBounds i' true) a' w') Q (by
        intro a' ρ' w' q1 q2 q3 q4 q5 q6 q7
        have hsame : i' ∉ ds → HExt h0 h → HExt h0 h1 → Same base ρ0 h0 w0 w → Same base ρ0 h0 w0 w' := by
          intro _ he0 he1 hsm
          refine ⟨fun j hj => by rw [q5.old j hj, ← rel.old j hj]; exact hsm.1 j hj, fun b x e cs hb hx hg => ?_, fun _ k y hk => q5.fz k y ((hle.trans q1).2 k y hk)⟩
          have hnd : ∀ {h' : H}, HExt h0 h' → h'.g b = h0.g b ∧ h'.v b = h0.v b := fun he => (he.2 b hb).resolve_left (fun hd => by rw [hd] at hg; cases hg)
          rw [q6.2.2.2 b x e cs (hle.1 _ _ hx) (by rw [(hnd he0).1]; exact hg) (by rw [(hnd he1).2, (hnd he0).2])]
          exact hsm.2.1 b x e cs hb hx hg
        have hnext : ((HExt h0 h1 ∧ Same base ρ0 h0 w0 w' ∧ (FR ⟨ρ'.bl, ρ0.mu⟩ F1 a'.tmps ∨ s.all (fun p => p.2 != 0) = true)) ∨ s.all lateB = true) := by
          rcases hcase with ⟨c1, c2, _⟩ | ⟨c1, c2⟩
          · rcases hph with ⟨p1, p2, p3⟩ | ⟨p1, p2⟩
            · refine .inl ⟨c2, hsame c1 p1 c2 p2, ?_⟩
              rcases hsc with hsc | hsc | hsc
              · exact .inr hsc
              · rcases p3 with p3 | p3
                · refine .inl fun e u he => ?_
                  by_cases hde : o.dst = some e
                  · exact (q2 e u he).sca (hsc e u hde he)
                  · rcases hfr e u he hde with h5 | h5
                    · rw [q7 e hde]
                      exact VR.mono (ρ := ⟨ρ.bl, ρ0.mu⟩) (ρ' := ⟨ρ'.bl, ρ0.mu⟩) ⟨q1.1, fun _ _ h => h⟩ (p3 e u h5)
                    · exact (q2 e u he).sca h5
                · exact .inr p3
              · exact absurd hsc c1
            · exact .inr p2
          · exact .inr c2
        refine ⟨fun hnd hsm => ?_, g2 ρ0 w0 hl0 rel0 ρ' a' w' (hle.trans q1) q5 q2 q3 q4 hnext Q hQ fun a2 w2 ⟨ρ2, p1, p2, p3, p4, p5, p6⟩ => hn a2 w2 ⟨ρ2, q1.trans p1, p2, p3, p4, p5, Frm.trans q1 rel.len q6 p6⟩⟩
        rcases hcase with ⟨c1, c2, _⟩ | ⟨c1, c2⟩
        · rcases hph with ⟨p1, p2, p3⟩ | ⟨p1, p2⟩
          · exact hsame c1 p1 c2 p2
          · have := hkd c1; omega
        · exact absurd c1 hnd)
      split
      · rename_i hw; rw [if_pos hw] at key; exact .inl key
      · rename_i hw; rw [if_neg hw] at key; exact key
    match kd, hok, hr, step with
    | 0, hok, hr, _ =>
      simp only [okGo, Bool.and_eq_true] at hok
      obtain ⟨⟨⟨⟨⟨c1, c2⟩, c3⟩, c4⟩, c5⟩, c6⟩ := hok
      simp only [drawOps, Option.bind_eq_some_iff] at hr
      obtain ⟨o, ho, hr⟩ := hr
      rw [ho] at c5
      simp only [Option.map_some, Option.getD_some] at c5
      obtain ⟨F0, v, k1, k2⟩ := gop_quiet (W0 := W0) (base := base) (P := P) hT hr c5
      obtain ⟨F', h', g1, g2⟩ := draw_ok hT hcl hnt hsel s _ c6 k1
      refine ⟨F', h', g1, fun ρ0 w0 hl0 rel0 ρ a w hle rel hF hs hd hph Q hQ hn => ?_⟩
      rcases hph with ⟨p1, p2, p3⟩ | p1
      case inr => simp [lateB] at p1
      case inl =>
        have p3 : FR ⟨ρ.bl, ρ0.mu⟩ F a.tmps := by
          rcases p3 with p3 | p3
          · exact p3
          · simp at p3
        have hle' : Le ρ0 ⟨ρ.bl, ρ0.mu⟩ := ⟨hle.1, fun _ _ h => h⟩
        have hb0 : ∀ {b : Nat} {y : BI}, b < h0.n → ρ.bl[b]? = some y → ρ0.bl[b]? = some y := by
          intro b y hb hy
          obtain ⟨y0, hy0⟩ : ∃ y0, ρ0.bl[b]? = some y0 := ⟨_, List.getElem?_eq_getElem (by omega)⟩
          have := hle.1 _ _ hy0
          rw [hy] at this; cases this; exact hy0
        have relq : RelQ W0 base ⟨ρ.bl, ρ0.mu⟩ h0 w := {
          len := (rel.elder p1).len
          old := fun j hj => by rw [p2.1 j hj]; exact rel0.old j hj
          rw := fun b y e cs hb hy hg => by
            obtain ⟨c1, c, el, fr, c2, c3⟩ := rel0.rw b y e cs hb (hb0 hb hy) hg
            exact ⟨c1, c, el, fr, by rw [p2.2.1 b y e cs hb (hb0 hb hy) hg]; exact c2, fun j s hs => by obtain ⟨x, d1, d2⟩ := c3 j s hs; exact ⟨x, d1, d2.mono hle'⟩⟩
          fz := p2.2.2 rel0.fz }
        obtain ⟨x, q1, q2, q3⟩ := k2 ⟨ρ.bl, ρ0.mu⟩ a w relq p3
        have hup : Le ⟨ρ.bl, ρ0.mu⟩ ρ := ⟨fun _ _ h => h, hle.2⟩
        refine wpAnyLast_take ho hsel c2 c1 c3 c4 (fun c a w hq => absurd hq (hQ _ _ _)) (v := x) ?_ p2 ?_
        · rcases q3 with ⟨q3, q4⟩ | ⟨q3, q4⟩
          · refine .inl ⟨q3, fun w' hw' => q4 w' (.inr ⟨fun j hj => by rw [hw'.1 j hj, p2.1 j hj], fun b y e cs hb hy hg => ?_, fun _ => hw'.2.2 rel0.fz⟩)⟩
            rw [hw'.2.1 b y e cs hb (hb0 hb hy) hg, p2.2.1 b y e cs hb (hb0 hb hy) hg]
          · exact .inr ⟨q3, q4⟩
        · have hFn := q2.put q1 (fun d hd => Nat.lt_of_lt_of_le (hnt i o ho d hd) hs)
          exact g2 ρ0 w0 hl0 rel0 ρ _ w hle rel (hFn.mono hup) (by rw [put_size]; exact hs) (by rw [put_defers]; exact hd) (.inl ⟨p1, p2, .inl hFn⟩) Q hQ hn
    | 1, hok, hr, step =>
      simp only [okGo, Bool.and_eq_true, beq_iff_eq, Bool.not_eq_true', List.contains_eq_mem, decide_eq_false_iff_not] at hok
      obtain ⟨⟨c1, c2⟩, c3⟩ := hok
      simp only [drawOps, Option.bind_eq_some_iff] at hr
      obtain ⟨o, ho, hr⟩ := hr
      obtain ⟨F1, h1, k1, k2, k3⟩ := gop_ok (W0 := W0) (base := base) (P := P) hT hcl (hnt i o ho) hr
      unfold hchk at k1
      split at k1
      · rename_i hext
        have hk : (s.all (fun p => p.2 != 0) = true ∨ (∀ d u, o.dst = some d → look F1 d = some u → scaV u = true) ∨ i ∈ ds) ∧ drawOps E cl all h0 s F1 h1 k = some r := by
          cases hsa : s.all (fun p => p.2 != 0) with
          | true => rw [hsa] at k1; exact ⟨.inl rfl, k1⟩
          | false =>
            rw [hsa] at k1
            simp only [cond_false, pchk] at k1
            split at k1
            · rename_i hd; exact ⟨.inr (.inl fun d u hd' => by rw [hd] at hd'; cases hd'), k1⟩
            · rename_i d hd
              rw [Option.bind_eq_some_iff] at k1
              obtain ⟨v, e1, e2⟩ := k1
              cases hv : scaV v with
              | false => rw [hv] at e2; cases e2
              | true =>
                rw [hv] at e2
                refine ⟨.inr (.inl fun d' u hd' hu => ?_), e2⟩
                rw [hd] at hd'; cases hd'
                rw [e1] at hu; cases hu; exact hv
        obtain ⟨F', h', g1, g2⟩ := step o h1 F1 ho c1 c3 k2 k3 hk.1 hk.2 (.inl ⟨c2, hext, fun _ h => h⟩)
        refine ⟨F', h', g1, fun ρ0 w0 hl0 rel0 ρ a w hle rel hF hs hd hph Q hQ hn => g2 ρ0 w0 hl0 rel0 ρ a w hle rel hF hs hd ?_ (fun _ => rfl) Q hQ hn⟩
        rcases hph with ⟨p1, p2, p3⟩ | hph
        · refine .inl ⟨p1, p2, p3.imp id fun hh => ?_⟩
          simpa using hh
        · simp [lateB] at hph
      · cases k1
    | 2, hok, hr, step =>
      simp only [okGo, Bool.and_eq_true, beq_iff_eq, List.contains_eq_mem, decide_eq_true_eq] at hok
      obtain ⟨⟨⟨c1, c2⟩, c3⟩, c4⟩ := hok
      simp only [drawOps, Option.bind_eq_some_iff] at hr
      obtain ⟨o, ho, hr⟩ := hr
      obtain ⟨F1, h1, k1, k2, k3⟩ := gop_ok (W0 := W0) (base := base) (P := P) hT hcl (hnt i o ho) hr
      obtain ⟨F', h', g1, g2⟩ := step o h1 F1 ho c1 c4 k2 k3 (.inr (.inr c2)) k1 (.inr ⟨c2, c3⟩)
      refine ⟨F', h', g1, fun ρ0 w0 hl0 rel0 ρ a w hle rel hF hs hd hph Q hQ hn => g2 ρ0 w0 hl0 rel0 ρ a w hle rel hF hs hd ?_ (fun hn => absurd c2 hn) Q hQ hn⟩
      rcases hph with ⟨p1, p2, p3⟩ | hph
      · refine .inl ⟨p1, p2, p3.imp id fun hh => ?_⟩
        simpa using hh
      · exact .inr ⟨rfl, c3⟩
    | 3, hok, hr, _ =>
      simp only [okGo, Bool.and_eq_true] at hok
      obtain ⟨⟨⟨⟨c1, c2⟩, c5⟩, c7⟩, c6⟩ := hok
      simp only [drawOps, Option.bind_eq_some_iff] at hr
      obtain ⟨o, ho, hr⟩ := hr
      rw [ho] at c5
      simp only [Option.map_some, Option.getD_some, Bool.and_eq_true] at c5
      obtain ⟨F0, v, k1, k2⟩ := gop_quiet (W0 := W0) (base := base) (P := P) hT hr c5.1
      obtain ⟨F', h', g1, g2⟩ := draw_ok hT hcl hnt hsel s _ c6 k1
      refine ⟨F', h', g1, fun ρ0 w0 hl0 rel0 ρ a w hle rel hF hs hd hph Q hQ hn => ?_⟩
      obtain ⟨x, q1, q2, q3⟩ := k2 ρ a w rel.q hF
      refine wpAnyLast_any ho (Region.noSelect_spec hsel) (fun c a w hq => absurd hq (hQ _ _ _)) (v := x) _ _ _ _ (Region.free_spec ho c2) (by simpa using c1) ?_ ?_
      · rcases q3 with ⟨q3, q4⟩ | ⟨q3, q4⟩
        · exact .inl ⟨q3, fun w' => q4 w' (.inl c5.2)⟩
        · exact .inr ⟨q3, q4⟩
      · have hFn := q2.put q1 (fun d hd => Nat.lt_of_lt_of_le (hnt i o ho d hd) hs)
        refine g2 ρ0 w0 hl0 rel0 ρ _ w hle rel hFn (by rw [put_size]; exact hs) (by rw [put_defers]; exact hd) ?_ Q hQ hn
        rcases hph with ⟨p1, p2, p3⟩ | p1
        · exact .inl ⟨p1, p2, .inr c7⟩
        · rw [List.all_cons, Bool.and_eq_true] at p1; exact .inr p1.2
    | 4, hok, hr, _ =>
      simp only [okGo, Bool.and_eq_true] at hok
      obtain ⟨⟨⟨⟨⟨⟨c1, c2⟩, c3⟩, c4⟩, c5⟩, c7⟩, c6⟩ := hok
      simp only [drawOps, Option.bind_eq_some_iff] at hr
      obtain ⟨o, ho, L, hL, hr⟩ := hr
      rw [ho] at c5
      simp only [Option.map_some, Option.getD_some] at c5
      cases hsc : L.all (fun p => scaV p.2) with
      | false => rw [hsc] at hr; cases hr
      | true =>
      rw [hsc] at hr
      simp only [cond_true] at hr
      obtain ⟨F0, v, k1, k2⟩ := gop_quiet (W0 := W0) (base := base) (P := P) hT hr c5
      rw [fput_app] at k1
      obtain ⟨F', h', g1, g2⟩ := draw_ok hT hcl hnt hsel s _ c6 k1
      refine ⟨F', h', g1, fun ρ0 w0 hl0 rel0 ρ a w hle rel hF hs hd hph Q hQ hn => ?_⟩
      rcases hph with ⟨p1, p2, p3⟩ | p1
      case inr => simp [lateB] at p1
      case inl =>
        have hle' : Le ρ0 ⟨ρ.bl, ρ0.mu⟩ := ⟨hle.1, fun _ _ h => h⟩
        have hb0 : ∀ {b : Nat} {y : BI}, b < h0.n → ρ.bl[b]? = some y → ρ0.bl[b]? = some y := by
          intro b y hb hy
          obtain ⟨y0, hy0⟩ : ∃ y0, ρ0.bl[b]? = some y0 := ⟨_, List.getElem?_eq_getElem (by omega)⟩
          have := hle.1 _ _ hy0
          rw [hy] at this; cases this; exact hy0
        have relq : RelQ W0 base ⟨ρ.bl, ρ0.mu⟩ h0 w := {
          len := (rel.elder p1).len
          old := fun j hj => by rw [p2.1 j hj]; exact rel0.old j hj
          rw := fun b y e cs hb hy hg => by
            obtain ⟨c1, c, el, fr, c2, c3⟩ := rel0.rw b y e cs hb (hb0 hb hy) hg
            exact ⟨c1, c, el, fr, by rw [p2.2.1 b y e cs hb (hb0 hb hy) hg]; exact c2, fun j s hs => by obtain ⟨x, d1, d2⟩ := c3 j s hs; exact ⟨x, d1, d2.mono hle'⟩⟩
          fz := p2.2.2 rel0.fz }
        have hFL : FR ⟨ρ.bl, ρ0.mu⟩ L a.tmps := fun e u he => (hF e u (pickR_look hL he)).sca (look_all hsc he)
        obtain ⟨x, q1, q2, q3⟩ := k2 ⟨ρ.bl, ρ0.mu⟩ a w relq hFL
        have hup : Le ⟨ρ.bl, ρ0.mu⟩ ρ := ⟨fun _ _ h => h, hle.2⟩
        refine wpAnyLast_take ho hsel c2 c1 c3 c4 (fun c a w hq => absurd hq (hQ _ _ _)) (v := x) ?_ p2 ?_
        · rcases q3 with ⟨q3, q4⟩ | ⟨q3, q4⟩
          · refine .inl ⟨q3, fun w' hw' => q4 w' (.inr ⟨fun j hj => by rw [hw'.1 j hj, p2.1 j hj], fun b y e cs hb hy hg => ?_, fun _ => hw'.2.2 rel0.fz⟩)⟩
            rw [hw'.2.1 b y e cs hb (hb0 hb hy) hg, p2.2.1 b y e cs hb (hb0 hb hy) hg]
          · exact .inr ⟨q3, q4⟩
        · have hFn := FR.put (o := o) ((q2.mono hup).app hF) (q1.mono hup) (fun d hd => Nat.lt_of_lt_of_le (hnt i o ho d hd) hs)
          exact g2 ρ0 w0 hl0 rel0 ρ _ w hle rel hFn (by rw [put_size]; exact hs) (by rw [put_defers]; exact hd) (.inl ⟨p1, p2, .inr c7⟩) Q hQ hn
    | kd + 5, hok, hr, _ => simp [okGo] at hok
end Vm
