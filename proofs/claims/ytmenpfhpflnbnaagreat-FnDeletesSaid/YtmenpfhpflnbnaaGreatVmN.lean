/-
  A row from a call of the small machine: the arguments opened, the call run, what was there read again.
-/
import Derived.Test.YtmenpfhpflnbnaaGreatVmM
import Derived.Carry
import Derived.OpenShut
import Derived.ChangeOld
import Derived.SizedLaws
set_option linter.unusedVariables false
set_option linter.unusedSimpArgs false
open Array renaming getElem?_toList->Fy
open Go.DataW renaming TrodAll->SJ
open Go.Value renaming okWide->SI
namespace Vm
open Go
def Mi (P : Program) (t : TypeId) (x : V) : Prop := match P.underlying t with
 | some (.struct _) => ∃ cs n, x = .agg cs /\ Rp P n t cs
 | _ => ∃ s n, x = .s s /\ Rp P n t [s]
def RD (P : Program) : List TypeId -> List V -> Prop
 | [], [] => True
 | t :: ts, x :: xs => Mi P t x /\ RD P ts xs
 | _, _ => False
section
variable {K : Type} {enc : TypeId × Value -> K} {P : Program} {W W' : World}
theorem vM {base m : Nat} {t : TypeId} {v : Value} {d : DataW K} {p : List MemPlace} (hp : KR P m t = true) (hv : SI P W .any base t v) (hd : DataW.Trod enc P W 0 (fun _ => true) true t v d p) :
  ∃ x, VR ⟨[], XI W⟩ x v /\ Mi P t x := by
 obtain ⟨n, hn⟩ := hd;obtain ⟨xs, s', q'⟩ := opens n m t _ _ hp hn;unfold SI at hv
 split at hv
 ·rename_i ht
  obtain ⟨cs, rfl, _⟩ := hv;exact ⟨.agg xs, ⟨cs, rfl, Fzs.sr (ρ := ⟨[], XI W⟩) s'⟩, by unfold Mi; rw [ht]; exact ⟨xs, n, rfl, q'⟩⟩
 ·rename_i ht
  cases m with
  | zero => simp [KR] at hp
  | succ m => unfold KR at hp; rw [ht] at hp; cases hp
 ·have hv1 : v.cells = #[v] := by
   unfold Cell.okWide at hv
   split at hv
   all_goals first
    | rfl
    | (unfold Cell.ok at hv; split at hv <;> first | rfl | exact hv.elim)
  rw [hv1] at s'
  cases xs with
  | nil => exact s'.elim
  | cons x xs =>
   cases xs with
   | nil => exact ⟨.s x, fun _ => FzR.sr (ρ := ⟨[], XI W⟩) s'.1, by
    unfold Mi; split
    · exfalso; simp_all
    · exact ⟨x, n, rfl, q'⟩⟩
   | cons y ys => exact s'.2.elim
theorem P5 {base m : Nat} : ∀ {ts : List TypeId} {vs : List Value} {ds : List (DataW K)} {p : List MemPlace}, (∀ t ∈ ts, KR P m t = true) -> (∀ (j : Nat) t v, ts[j]? = some t -> vs[j]? = some v -> SI P W .any base t v) ->
  SJ enc P W 0 (fun _ => true) true ts vs ds p -> ∃ xs, VRs ⟨[], XI W⟩ xs vs /\ RD P ts xs
 | [], [], [], _, _, _, _ => ⟨[], trivial, trivial⟩
 | t :: ts, v :: vs, d :: ds, _, hp, hv, ⟨p, q, h1, h2, _⟩ => by
  obtain ⟨x, s1, q1⟩ := vM (hp t (by simp)) (hv 0 t v rfl rfl) h1
  obtain ⟨xs, s2, q2⟩ := P5 (fun t ht => hp t (by simp [ht])) (fun j t v a b => hv (j + 1) t v a b) h2
  exact ⟨x :: xs, ⟨s1, s2⟩, q1, q2⟩
 | [], _ :: _, _, _, _, _, h => h.elim
 | [], [], _ :: _, _, _, _, h => h.elim
 | _ :: _, [], _, _, _, _, h => h.elim
 | _ :: _, _ :: _, [], _, _, _, h => h.elim
theorem jA (W : World) : FzW (XI W) W := fun k a hk => by
 obtain ⟨el, fr, h1⟩ := GR hk;exact ⟨a, el, fr, h1, fun _ _ h => h⟩
theorem stays (hl : laidOutB P = true) (hb : RowKit.Below W.heap.size W W') : ∀ {ts : List TypeId} {vs : List Value} {ds : List (DataW K)} {p : List MemPlace}, (∀ t ∈ ts, P.readableRec t = true /\ t < P.types.size) ->
  SJ enc P W 0 (fun _ => true) true ts vs ds p -> (∀ x ∈ p, x.block < W.heap.size) -> SJ enc P W' 0 (fun b => decide (b < W.heap.size)) true ts vs ds p
 | [], [], [], _, _, h, _ => h
 | t :: ts, v :: vs, d :: ds, _, hp, ⟨p, q, h1, h2, h3⟩, hlt => by
  subst h3;exact ⟨p, q, RowKit.Below.trod hl (hp t (by simp)).1 (hp t (by simp)).2 h1 hb (fun x hx => hlt x (by simp [hx])), stays hl hb (fun t ht => hp t (by simp [ht])) h2 (fun x hx => hlt x (by simp [hx])), rfl⟩
 | [], _ :: _, _, _, _, h, _ => h.elim
 | [], [], _ :: _, _, _, h, _ => h.elim
 | _ :: _, [], _, _, _, h, _ => h.elim
 | _ :: _, _ :: _, [], _, _, h, _ => h.elim
theorem ts_of {m : Nat} {ts : List TypeId} (h : ts.all (fun t => KR P m t && (P.readableRec t && decide (t < P.types.size))) = true) : ∀ t ∈ ts, KR P m t = true /\ P.readableRec t = true /\ t < P.types.size := by
 intro t ht;have := List.all_eq_true.1 h t ht;simpa using this
theorem contract_of {E : Env} (hE : EnvOk P E) {f : FuncId} {fn : Func} {s : ChangeSpec} {m rt : Nat} (hl : laidOutB P = true)
  (hts : ∀ t ∈ fn.params.toList, KR P m t = true /\ P.readableRec t = true /\ t < P.types.size) (hres : fn.resultTypes = #[rt]) (hrt : P.underlying rt = some .bool) (hvars : s.vars = [])
  (hs : ∀ ds : List (DataW K), ds.length = fn.params.size -> s.fn K ds = { results := [.lit (.bool true)], args := ds })
  (hrun : ∀ xs, RD P fn.params.toList xs -> ∃ h', call E f xs (D 0) = some (bv true, h'))
  {base : Nat} {args : Array Value} {ds gs : List (DataW K)} {before : List MemPlace}
  (hval : ∀ (j : Nat) t v, fn.params[j]? = some t -> args[j]? = some v -> SI P W .any base t v)
  (hW : DataW.Whole enc P fn.params.toList s.vars false W args.toList ds gs before) :
  Calls P f args W fun e W' => ∃ v, e = .returned v /\ s.post enc P fn false true false false W args v W' := by
 have hW' := hW;obtain ⟨p, q, hA, hV, rfl, hfz, hnd⟩ := hW;have hlt := hW'.lt;obtain ⟨xs, hxs, hrp⟩ := P5 (fun t ht => (hts t ht).1) (fun j t v h1 h2 => hval j t v (by rw [<- Fy]; exact h1) (by rw [<- Fy]; exact h2)) hA
 obtain ⟨h', hc⟩ := hrun _ hrp;have := (call_sound (W0 := ⟨W, XI W⟩) (base := W.heap.size) hE hc).2 ⟨[], XI W⟩ W args.toList (vv (jA W) rfl) hxs;rw [Array.toArray_toList] at this;refine this.mono fun e w' ⟨x, he, ρ', hle, hv, rel, hf⟩ => ?_
 have hx : x = .bool true := hv rfl;subst hx;have hb : RowKit.Below W.heap.size W w' := ⟨rel.io.1, rel.io.2.1, rel.io.2.2, rel.bas, fun k hk => rel.old k hk⟩
 have hV0 : gs = [] /\ q = [] := by
  rw [hvars] at hV
  cases gs with
  | nil => exact ⟨rfl, hV⟩
  | cons g gs => exact hV.elim
 obtain ⟨rfl, rfl⟩ := hV0;have hdl : ds.length = fn.params.size := by
  have := trodAll_len hA;simpa using this
 have hfn := hs (ds ++ []) (by simpa using hdl)
 refine ⟨_, he, ds, [], p ++ [], [], p, [], hW', ?_, ?_, ?_, hb.frame _, fun h => by cases h⟩
 ·rw [hfn, hres]
  exact ChangeShapes.trodAll_mk1 (RowKit.shut_bool hrt true)
 ·rw [hfn]
  simp only [List.append_nil];exact stays hl hb (fun t ht => (hts t ht).2) hA (fun x hx => hlt x (by simp [hx]))
 · rw [hfn, hvars]; rfl
where
 trodAll_len : ∀ {ts : List TypeId} {vs : List Value} {ds : List (DataW K)} {p : List MemPlace}, SJ enc P W 0 (fun _ => true) true ts vs ds p -> ds.length = ts.length
 | [], [], [], _, _ => rfl
 | _ :: _, _ :: _, _ :: _, _, ⟨_, _, _, h2, _⟩ => by simp [trodAll_len h2]
 | [], _ :: _, _, _, h => h.elim
 | [], [], _ :: _, _, h => h.elim
 | _ :: _, [], _, _, h => h.elim
 | _ :: _, _ :: _, [], _, h => h.elim
end
section
variable {P : Program} {n : Nat} {t : TypeId} {xs : List S}
theorem Rp.int {k : IntKind} (ht : P.underlying t = some (.int k)) (hr : Rp P n t xs) : ∃ m, xs = [.int k m] /\ (Lit.int k m).wf = true := by
 cases n with
 | zero => exact hr.elim
 | succ n => unfold Rp at hr; rw [ht] at hr; exact hr
theorem Rp.slice {e : TypeId} (ht : P.underlying t = some (.slice e)) (hr : Rp P n t xs) : ∃ m, ∃ rows : List (List S), xs = [.fs rows] /\ rows.length <= maxLen /\ ∀ r ∈ rows, r.length = P.cellsOf e /\ Rp P m e r := by
 cases n with
 | zero => exact hr.elim
 | succ n => unfold Rp at hr; rw [ht] at hr; exact ⟨n, hr⟩
theorem Mi.slice {e : TypeId} {x : V} (ht : P.underlying t = some (.slice e)) (hr : Mi P t x) : ∃ s n, x = .s s /\ Rp P n t [s] := by
 unfold Mi at hr; rw [ht] at hr; exact hr
end
end Vm
#print axioms Vm.contract_of
