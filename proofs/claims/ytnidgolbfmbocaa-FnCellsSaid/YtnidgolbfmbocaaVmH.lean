/-
  append, copy and len.
-/
import Derived.Test.YtnidgolbfmbocaaVmG
set_option linter.unusedVariables false
set_option linter.unusedSimpArgs false
namespace Vm
open Go
variable {W0 : St} {base : Nat} {ρ : Rho} {h : H} {w w' : World} {P : Program} {E : Env} {R : Type}

def Came (W0 : St) (base : Nat) (ρ : Rho) (h h' : H) (w : World) (v : V) (x : Value) (w' : World) : Prop := ∃ ρ', Le ρ ρ' ∧ VR ρ' v x ∧ Rel W0 base ρ' h' w' ∧ Frm ρ h h' w w'

theorem Rel.drewR (r : Rel W0 base ρ h w) {n : Nat} : Rel W0 base ρ h { w with drawn := n } := r.same rfl

theorem Same.of_heap {w w' : World} (hw : w'.heap = w.heap) : Same base ρ h w w' := ⟨fun _ _ => by rw [hw], fun _ _ _ _ _ _ _ => by rw [hw], fun hh => hh.heap hw⟩
theorem Came.mk {h' : H} {v : V} {x : Value} {ρ' : Rho} (h1 : Le ρ ρ') (h2 : VR ρ' v x) (h3 : Rel W0 base ρ' h' w') (h4 : Frm ρ h h' w w') : Came W0 base ρ h h' w v x w' := ⟨ρ', h1, h2, h3, h4⟩

/-- append where there is room -/
theorem run_room {at_ : Array Nat} {t0 t1 e ty : Nat} {te : TI} {d1 : TypeDesc} (hT : TysOk P E) (he : E.ty e = some te) (ha0 : at_[0]? = some t0) (ha1 : at_[1]? = some t1)
    (hu0 : P.underlying t0 = some (.slice e)) (hu1 : P.underlying t1 = some d1) (hd1 : (∃ e1, d1 = .slice e1) ∨ d1 = .string)
    {bs : Option Addr} {n cap m : Nat} {z : Value} {ln : List Value} (hm : (Builtin.lenOf z).run P w = .ok m w) (hn : (Builtin.firstCells te.z m z).run P w = .ok ln.toArray w) (hle : n + m ≤ cap)
    (hs : (match bs with | some a => storeCells (a.add (n * te.z)) ln | none => pure () : Sem Unit).run P w = .ok () w') :
    (Builtin.append_ at_ ty #[.slice bs n cap, z]).run P w = .ok (.slice bs (n + m) cap) w' := by
  rcases hd1 with ⟨e1, rfl⟩ | rfl
  all_goals
    simp only [Builtin.append_, ha0, ha1, List.getElem?_toArray, List.getElem?_cons_zero, List.getElem?_cons_succ, Sem.run_bind, run_und hu0, Result.andThen_ok, (hT _ _ he).size, run_und hu1, Sem.run_pure, Bool.false_eq_true, if_false, hm, if_pos hle, Bool.not_false, if_true, hn]
    cases bs with
    | none => cases hs; rfl
    | some a => simp only [Sem.run_bind, hs, Result.andThen_ok, Sem.run_pure]
/-- append where there is none -/
theorem run_grow {at_ : Array Nat} {t0 t1 e ty : Nat} {te : TI} {d1 : TypeDesc} (hT : TysOk P E) (he : E.ty e = some te) (ha0 : at_[0]? = some t0) (ha1 : at_[1]? = some t1)
    (hu0 : P.underlying t0 = some (.slice e)) (hu1 : P.underlying t1 = some d1) (hd1 : (∃ e1, d1 = .slice e1) ∨ d1 = .string)
    {bs : Option Addr} {n cap m : Nat} {z : Value} {lo ln : List Value} (hm : ∀ w' : World, w'.heap = w.heap → (Builtin.lenOf z).run P w' = .ok m w') (hn : ∀ w' : World, w'.heap = w.heap → (Builtin.firstCells te.z m z).run P w' = .ok ln.toArray w')
    (ho : ∀ w' : World, w'.heap = w.heap → (Builtin.firstCells te.z n (.slice bs n cap)).run P w' = .ok lo.toArray w') (hlt : cap < n + m) (hl : n + m ≤ lim) (hlo : lo.length = n * te.z) (hln : ln.length = m * te.z) :
    ∃ newCap, n + m ≤ newCap ∧ ∃ arr : Array Value, ∃ rest, arr = ((lo ++ ln) ++ rest).toArray ∧ arr.size = newCap * te.z ∧
      (Builtin.append_ at_ ty #[.slice bs n cap, z]).run P w = .ok (.slice (some ⟨w.heap.size, 0, none⟩) (n + m) newCap) { w with drawn := w.drawn + 1, heap := w.heap.push (.cells arr e) } := by
  obtain ⟨i, d, zz, e1, e2, e3, e4, e5, e6, e7⟩ := (hT _ _ he).get
  have hsm := (hT _ _ he).small
  have hzl := (e6 ⟨[], fun _ => none⟩).length
  have hzs : zz.cells.size = te.z := by rw [← Array.length_toList, hzl, hsm.2]
  have hf : (Question.appendCap (n + m) cap e).forced = false := rfl
  obtain ⟨newCap, hcap, hcut⟩ : ∃ c, n + m ≤ c ∧ (Question.appendCap (n + m) cap e).cut (w.tape w.drawn (Question.appendCap (n + m) cap e)) = c := ⟨_, Nat.le_add_right _ _, rfl⟩
  have hng : ¬ (Builtin.nextslicecap (n + m) cap * i.bytes > 2 ^ 48) := by
    have := nextslicecap_le (need := n + m) (old := cap) hlt
    unfold lim at hl
    rw [e4]
    have : Builtin.nextslicecap (n + m) cap * te.bytes ≤ 137438953472 * 255 := Nat.mul_le_mul (by omega) hsm.1
    omega
  have hni : ¬ (((n + m : Nat) : Int) > IntKind.i64.max ∧ i.bytes = 0) := by
    have : IntKind.i64.max = 9223372036854775807 := by decide
    unfold lim at hl
    omega
  refine ⟨newCap, hcap, lo.toArray ++ ln.toArray ++ Builtin.zeroCells zz.cells (newCap - (n + m)), (Builtin.zeroCells zz.cells (newCap - (n + m))).toList, ?_, ?_, ?_⟩
  · rw [← Array.toList_inj]; simp
  · simp only [Array.size_append, List.size_toArray, Builtin.zeroCells, Array.size_map, Array.size_range, hzs, hlo, hln, ← Nat.add_mul]
    congr 1; omega
  · have ho' := ho { w with drawn := w.drawn + 1 } rfl
    have hn' := hn { w with drawn := w.drawn + 1 } rfl
    rcases hd1 with ⟨e1', rfl⟩ | rfl
    all_goals
      simp only [Builtin.append_, ha0, ha1, List.getElem?_toArray, List.getElem?_cons_zero, List.getElem?_cons_succ, Sem.run_bind, run_und hu0, Result.andThen_ok, (hT _ _ he).size, run_und hu1, Sem.run_pure, Bool.false_eq_true, if_false, hm w rfl]
      rw [if_neg (by omega)]
      simp only [Sem.run_bind, run_ti e1, Result.andThen_ok, false_or, hni, hng, if_false, run_choose, hf, Bool.false_eq_true, hcut, run_askRoom, ho', Bool.not_false, if_true, hn', run_zero e1 e5, run_newRow, Sem.run_pure]

theorem run_app (hT : TysOk P E) {t0 t1 e ty : Nat} {te : TI} {at_ : Array Nat} {x y v : V} {u z : Value} {h' : H} {ti0 ti1 : TI}
    (ha0 : at_[0]? = some t0) (ha1 : at_[1]? = some t1) (h0 : E.ty t0 = some ti0) (h1 : E.ty t1 = some ti1) (hd0 : ti0.d = .sl e) (hd1 : (∃ e1, ti1.d = .sl e1) ∨ ti1.d = .str) (he : E.ty e = some te)
    (rel : Rel W0 base ρ h w) (hu : VR ρ x u) (hz : VR ρ y z) (ha : appS te.z h x y = some (v, h')) :
    ∃ q w', (Builtin.append_ at_ ty #[u, z]).run P w = .ok q w' ∧ Came W0 base ρ h h' w v q w' := by
  have hu0 := (hT _ _ h0).slice hd0
  obtain ⟨d1, hu1, hd1⟩ : ∃ d1, P.underlying t1 = some d1 ∧ ((∃ e1, d1 = .slice e1) ∨ d1 = .string) := by
    rcases hd1 with ⟨e1, hd1⟩ | hd1
    · exact ⟨_, (hT _ _ h1).slice hd1, .inl ⟨e1, rfl⟩⟩
    · exact ⟨_, (hT _ _ h1).str hd1, .inr rfl⟩
  unfold appS at ha
  split at ha
  · -- nothing yet
    rename_i n
    simp only [Option.bind_eq_some_iff] at ha
    obtain ⟨ys, g1, m, g2, g3⟩ := ha
    obtain ⟨rfl, rfl⟩ := hu.snil
    obtain ⟨c1, c2, c3⟩ := run_first (P := P) rel hz g1 g2
    obtain ⟨l, c4, c5⟩ := c3 m (Nat.le_refl _)
    rw [← c1, List.take_length] at c4
    split at g3
    · rename_i hc
      obtain ⟨_, hm, hz0⟩ := hc
      split at g3
      · rename_i hm0
        subst hm0
        cases g3
        have := run_room (ty := ty) (w' := w) (bs := none) (n := 0) (cap := 0) hT he ha0 ha1 hu0 hu1 hd1 (c2 _) (c5 w (Same.refl _ _ _ _)) (Nat.le_refl _) rfl
        exact ⟨_, _, this, .mk (Le.refl _) (fun _ => ⟨rfl, rfl⟩) rel (Frm.refl _ _ _)⟩
      · rename_i hm0
        cases g3
        have hlen : ∀ w' : World, w'.heap = w.heap → (Builtin.lenOf z).run P w' = .ok m w' := fun w' _ => c2 w'
        obtain ⟨cap, k1, arr, rest, k2, k3, k4⟩ := run_grow (ty := ty) (bs := none) (n := 0) (cap := 0) (lo := []) hT he ha0 ha1 hu0 hu1 hd1 hlen (fun w' hw => c5 w' (Same.of_heap hw)) (fun w' _ => by simp [Builtin.firstCells]) (by omega) (by omega) (by simp) (by rw [c4.length, c1])
        rw [Nat.zero_add] at k1 k4
        rw [List.nil_append] at k2
        exact ⟨_, _, k4, .mk (Le.push _ _) (new_sl rel rfl k1 (by omega)) (rel.new c4 k2 rfl) (rel.new_frm rfl)⟩
    · cases g3
  · rename_i b o n
    simp only [Option.bind_eq_some_iff] at ha
    obtain ⟨xs, f1, ys, g1, m, g2, g3⟩ := ha
    obtain ⟨c1, c2, c3⟩ := run_first (P := P) rel hz g1 g2
    obtain ⟨l, c4, c5⟩ := c3 m (Nat.le_refl _)
    rw [← c1, List.take_length] at c4
    split at g3
    · rename_i hc
      obtain ⟨hbn, hm, hz0⟩ := hc
      split at g3
      · rename_i e' cs hg
        split at g3
        · rename_i hez
          subst hez
          cases g3
          obtain ⟨i, off, cap, lo, q1, q2, q3, q4, q5, q6, q7, q8, q9⟩ := cellsS_sl (P := P) rel.q hu f1
          subst q2
          obtain ⟨r1, r2, c, el, fr, r3, rf, r4, r5, r6⟩ := rel.rw b i _ cs q1 hg
          have hcells : h.cells b = cs := by unfold H.cells; rw [if_pos hbn, hg]; rfl
          have hlm : l.length = m * te.z := by rw [c4.length, c1]
          by_cases hroom : n + m ≤ cap
          · -- in its place
            have hst : ∃ w', (storeCells (off.add (n * te.z)) l).run P w = .ok () w' ∧ w'.heap.size = w.heap.size ∧ (∀ (j : Nat), j ≠ i.blk → w'.heap[j]? = w.heap[j]?) ∧
                (∃ c' : Array Value, w'.heap[i.blk]? = some (.cells c' el fr) ∧ c'.size = c.size ∧ i.off + o + (xs ++ ys).length ≤ c.size ∧ ∀ (j : Nat) (s : S), (xs ++ ys)[j]? = some s → (∃ y, c'[i.off + o + j]? = some y ∧ SR ρ s y)) ∧ IO w' w := by
              have hxl : xs.length = n * te.z := by rw [← q6.length, q7]
              have hadd : ∀ (A : Addr), A.spot = none → A.add (n * te.z) = ⟨A.block, A.off + n * te.z, none⟩ := by
                intro A hA
                unfold Addr.add
                split
                · rename_i h0; cases A; simp at hA; subst hA; simp [h0]
                · rfl
              by_cases hc0 : cap = 0
              · have hn0 : n = 0 := by omega
                have hm0 : m = 0 := by omega
                have hl0 : l = [] := List.eq_nil_of_length_eq_zero (by rw [hlm, hm0]; simp)
                subst hl0
                have hx0 : xs = [] := List.eq_nil_of_length_eq_zero (by rw [hxl, hn0]; simp)
                have hy0 : ys = [] := List.eq_nil_of_length_eq_zero (by rw [c1, hm0]; simp)
                subst hx0; subst hy0
                refine ⟨w, rfl, rfl, fun _ _ => rfl, ⟨c, r3, rfl, ?_, fun j s hj => by simp at hj⟩, rfl, rfl, rfl⟩
                rw [hcells] at q8
                simp; omega
              · have hoff := q4 hc0
                subst hoff
                rw [hadd _ rfl]
                have h5 := q5 (by omega) hc0
                rw [r2] at h5
                have hcap : (n + m) * te.z ≤ cap * te.z := Nat.mul_le_mul_right _ hroom
                rw [Nat.add_mul] at hcap
                obtain ⟨w', s1, s2, s3, s4, s5⟩ := store_seq (P := P) (g := i.blk) (o := i.off + o + n * te.z) (t := el) (fr := fr) l 0 c w r3 rf (by omega) c4.one
                simp only [Nat.add_zero] at s4
                refine ⟨w', s1, s2, s3, ⟨_, s4, by simp; omega, by simp; omega, fun j s hj => ?_⟩, s5⟩
                rw [List.getElem?_toArray]
                by_cases hj1 : j < xs.length
                · rw [List.getElem?_append_left hj1] at hj
                  have hj' : cs[o + j]? = some s := by
                    simp only [cellsS, if_pos (And.intro hbn q8)] at f1
                    cases f1
                    rw [hcells, List.getElem?_take, if_pos (by omega), List.getElem?_drop] at hj
                    exact hj
                  obtain ⟨y, k1, k2⟩ := r6 (o + j) s hj'
                  refine ⟨y, ?_, k2⟩
                  rw [List.append_assoc, List.getElem?_append_left (by simp; omega), List.getElem?_take, if_pos (by omega), Array.getElem?_toList, Nat.add_assoc]
                  exact k1
                · rw [List.getElem?_append_right (by omega)] at hj
                  obtain ⟨y, k1, k2⟩ := c4.get hj
                  refine ⟨y, ?_, k2⟩
                  have hlt := (List.getElem?_eq_some_iff.1 k1).1
                  rw [List.append_assoc, List.getElem?_append_right (by simp; omega), List.getElem?_append_left (by simp; omega)]
                  simp only [List.length_take, Array.length_toList]
                  rw [show i.off + o + j - min (i.off + o + n * te.z) c.size = j - xs.length from by omega]
                  exact k1
            obtain ⟨w', s1, s2, s3, ⟨c', s4, s5, s6, s7⟩, s8⟩ := hst
            have := run_room (ty := ty) (w' := w') (bs := some off) (n := n) (cap := cap) hT he ha0 ha1 hu0 hu1 hd1 (c2 _) (c5 w (Same.refl _ _ _ _)) hroom s1
            refine ⟨_, _, this, .mk (Le.push _ _) ?_ (rel.over q1 hg r3 s2 s3 s4 s5 s6 s7 s8) (rel.over_frm q1 hg s3)⟩
            refine fun _ => ⟨⟨i.blk, i.off + o, te.z, i.top⟩, off, cap, ?_, rfl, hroom, fun hc => by rw [q4 hc]; rfl, fun _ hc => ?_⟩
            · show (ρ.bl ++ [_])[h.n]? = _
              rw [← rel.len]; simp
            · have := q5 (by omega) hc; rw [r2] at this; exact this
          · have hlen : ∀ w' : World, w'.heap = w.heap → (Builtin.lenOf z).run P w' = .ok m w' := fun w' _ => c2 w'
            obtain ⟨newCap, k1, arr, rest, k2, k3, k4⟩ := run_grow (ty := ty) (bs := some off) (n := n) (cap := cap) (lo := lo) hT he ha0 ha1 hu0 hu1 hd1 hlen (fun w' hw => c5 w' (Same.of_heap hw)) (fun w' hw => q9 w' (Same.of_heap hw)) (by omega) (by omega) q7 hlm
            refine ⟨_, _, k4, .mk (Le.push _ _) (new_sl (h := h.put b .dead) (rel.kill b) rfl k1 (by omega)) ((rel.kill b).new (q6.append c4) k2 rfl) ?_⟩
            exact Frm.trans (Le.refl _) rel.len (kill_frm b) ((rel.kill b).new_frm rfl)
        · cases g3
      · cases g3
    · cases g3
  · cases ha

theorem run_cop (hT : TysOk P E) {t0 e ty : Nat} {te : TI} {at_ : Array Nat} {x y v : V} {u z : Value} {h' : H} {ti0 : TI}
    (ha0 : at_[0]? = some t0) (h0 : E.ty t0 = some ti0) (hd0 : ti0.d = .sl e) (he : E.ty e = some te)
    (rel : Rel W0 base ρ h w) (hu : VR ρ x u) (hz : VR ρ y z) (ha : copS te.z h x y = some (v, h')) :
    ∃ q w', (Builtin.copy_ at_ ty #[u, z]).run P w = .ok q w' ∧ Came W0 base ρ h h' w v q w' := by
  have hu0 := (hT _ _ h0).slice hd0
  unfold copS at ha
  split at ha
  · rename_i n
    simp only [Option.bind_eq_some_iff] at ha
    obtain ⟨m, g1, ys, g2, g3⟩ := ha
    cases g3
    obtain ⟨rfl, rfl⟩ := hu.snil
    obtain ⟨c1, c2, c3⟩ := run_first (P := P) rel hz g2 g1
    obtain ⟨l, c4, c5⟩ := c3 (Nat.min m 0) (Nat.min_le_left _ _)
    refine ⟨_, w, ?_, .mk (Le.refl _) (fun _ => rfl) rel (Frm.refl _ _ _)⟩
    simp only [Builtin.copy_, ha0, List.getElem?_toArray, List.getElem?_cons_zero, List.getElem?_cons_succ, Sem.run_bind, run_und hu0, Result.andThen_ok, (hT _ _ he).size, c2, c5 w (Same.refl _ _ _ _), Sem.run_pure]
    rfl
  · rename_i b o n
    simp only [Option.bind_eq_some_iff] at ha
    obtain ⟨ys, g2, m, g1, g3⟩ := ha
    obtain ⟨c1, c2, c3⟩ := run_first (P := P) rel hz g2 g1
    obtain ⟨l, c4, c5⟩ := c3 (Nat.min m n) (Nat.min_le_left _ _)
    split at g3
    · rename_i hbn
      split at g3
      · rename_i e' cs hg
        split at g3
        · rename_i hle
          cases g3
          obtain ⟨i, off, cap, q1, rfl, q3, q4, q5⟩ := hu.sl
          have hyl : (ys.take (Nat.min m n * te.z)).length = Nat.min m n * te.z := by
            rw [List.length_take, c1, Nat.min_eq_left]
            exact Nat.mul_le_mul_right _ (Nat.min_le_left _ _)
          have hmn : Nat.min m n * te.z ≤ n * te.z := Nat.mul_le_mul_right _ (Nat.min_le_right _ _)
          have hw : ∃ w', (storeCells off l).run P w = .ok () w' ∧ Rel W0 base ρ (h.put b (.rw e' (setAt cs o (ys.take (Nat.min m n * te.z))))) w' ∧ Frm ρ h (h.put b (.rw e' (setAt cs o (ys.take (Nat.min m n * te.z))))) w w' := by
            by_cases hc0 : cap = 0
            · have hn0 : n = 0 := by omega
              have hy0 : ys.take (Nat.min m n * te.z) = [] := List.eq_nil_of_length_eq_zero (by rw [hyl, hn0]; simp)
              rw [hy0] at c4 ⊢
              have hl0 : l = [] := List.eq_nil_of_length_eq_zero (by rw [c4.length]; rfl)
              subst hl0
              obtain ⟨w', k1, k2, k3⟩ := write_ok (P := P) (o := o) (ys := []) (vs := []) rel q1 hg trivial (by simp; omega)
              cases k1
              exact ⟨w, rfl, k2, k3⟩
            · rw [q4 hc0]
              exact write_ok rel q1 hg c4 (by omega)
          obtain ⟨w', k1, k2, k3⟩ := hw
          refine ⟨_, w', ?_, .mk (Le.refl _) (fun _ => rfl) k2 k3⟩
          simp only [Builtin.copy_, ha0, List.getElem?_toArray, List.getElem?_cons_zero, List.getElem?_cons_succ, Sem.run_bind, run_und hu0, Result.andThen_ok, (hT _ _ he).size, c2, c5 w (Same.refl _ _ _ _), Sem.run_pure, k1]
          rfl
        · cases g3
      · cases g3
    · cases g3
  · cases ha
theorem run_len (hT : TysOk P E) {t0 ty : Nat} {at_ : Array Nat} {x v : V} {u : Value} {ti0 : TI} (ha0 : at_[0]? = some t0) (h0 : E.ty t0 = some ti0) (hu : VR ρ x u) (hv : lenV ti0.d x = some v) :
    ∃ q, VR ρ v q ∧ ∀ w, (Builtin.len_ at_ ty #[u]).run P w = .ok q w := by
  unfold lenV at hv
  split at hv
  · rename_i e ad n hd
    cases hv
    have hu0 := (hT _ _ h0).slice hd
    cases ad with
    | none =>
      obtain ⟨rfl, rfl⟩ := hu.snil
      exact ⟨_, fun _ => rfl, fun w => by simp only [Builtin.len_, ha0, List.getElem?_toArray, List.getElem?_cons_zero, Sem.run_bind, run_und hu0, Result.andThen_ok]; rfl⟩
    | some p =>
      obtain ⟨i, off, cap, q1, rfl, _⟩ := hu.sl (b := p.1) (o := p.2)
      exact ⟨_, fun _ => rfl, fun w => by simp only [Builtin.len_, ha0, List.getElem?_toArray, List.getElem?_cons_zero, Sem.run_bind, run_und hu0, Result.andThen_ok]; rfl⟩
  · rename_i e rows hd
    cases hv
    have hu0 := (hT _ _ h0).slice hd
    obtain ⟨q, cap, z', ys, f1, _⟩ := fs_at hu.fs
    rw [f1]
    exact ⟨_, fun _ => rfl, fun w => by simp only [Builtin.len_, ha0, List.getElem?_toArray, List.getElem?_cons_zero, Sem.run_bind, run_und hu0, Result.andThen_ok]; rfl⟩
  · rename_i s hd
    cases hv
    have hu0 := (hT _ _ h0).str hd
    obtain rfl := hu.str
    exact ⟨_, fun _ => rfl, fun w => by simp only [Builtin.len_, ha0, List.getElem?_toArray, List.getElem?_cons_zero, Sem.run_bind, run_und hu0, Result.andThen_ok]; rfl⟩
  · cases hv
end Vm
