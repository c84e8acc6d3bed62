/-
  The operations of the small machine that make or write memory.
-/
import Derived.Test.YtmenpfhpflnbnaaGreatVmE
set_option linter.unusedVariables false
set_option linter.unusedSimpArgs false
open Array renaming getElem?_modify->SC,getElem?_toList->Fy,length_toList->FU,range->EX
open Bool renaming false_eq_true->FD
open List renaming append_assoc->FA,getElem?_append_left->HZ,getElem?_append_right->FM,getElem?_drop->FO,getElem?_eq_none->EH,getElem?_take->FG,length_append->HO,length_flatten->AS,length_take->HV,replicate->HY,replicate_succ->IK
open Nat renaming le_refl->Hx
open Option renaming bind_eq_some_iff->Hv
open Go.Result renaming andThen_ok->Hy
open Go.Sem renaming run_bind->Hz,run_pure->HD
open Go.World renaming setCell->AU
namespace Vm
open Go
variable {W0 : St} {base : Nat} {ρ : Rho} {h : H} {w w' : World} {P : Program} {E : Env} {R : Type}
def EOK (P : Program) (W0 : St) (base : Nat) (o : Oper) (F : Fr) (h : H) (v : V) (h' : H) : Prop :=
 ∀ (ρ : Rho) (a : Act) (w : World), Rel W0 base ρ h w -> FR ρ F a.tmps -> ∀ (next : Act -> World -> Prop) (Q : Exit -> Act -> World -> Prop),
  (∀ (x : Value) (ρ' : Rho) (w' : World), Le ρ ρ' -> VR ρ' v x -> Rel W0 base ρ' h' w' -> Frm ρ h h' w w' -> next (a.put o.dst x) w') -> o.wp P a w next Q
theorem QOK.eok {o : Oper} {F : Fr} {v : V} (hq : QOK P W0 base o F h v) : EOK P W0 base o F h v h := by
 intro ρ a w rel hF next Q hn;obtain ⟨x, h1, h2⟩ := hq ρ a w rel.q hF;unfold Oper.wp;rw [h2 w (X2.refl _ _ _ _)];exact hn x ρ w (Le.refl _) h1 rel (Frm.refl _ _ _)
theorem U4 {o : Oper} {F : Fr} {v : V} {h' : H}
  (hr : ∀ (ρ : Rho) (a : Act) (w : World), Rel W0 base ρ h w -> FR ρ F a.tmps -> ∃ x ρ' w', (execOp a.eval o).run P w = .ok (.value x) w' /\ Le ρ ρ' /\ VR ρ' v x /\ Rel W0 base ρ' h' w' /\ Frm ρ h h' w w') : EOK P W0 base o F h v h' := by
 intro ρ a w rel hF next Q hn;obtain ⟨x, ρ', w', h1, h2, h3, h4, h5⟩ := hr ρ a w rel hF;unfold Oper.wp;rw [h1];exact hn x ρ' w' h2 h3 h4 h5
theorem YE (elem : Nat) (cs : Array Value) : (newRow elem cs).run P w = .ok ⟨w.heap.size, 0, none⟩ { w with heap := w.heap.push (.cells cs elem) } := rfl
theorem VQ (elem : Nat) (v : Value) : (newVar elem v).run P w = .ok ⟨w.heap.size, 0, none⟩ { w with heap := w.heap.push (.cells v.cells elem) } := rfl
theorem xN (rel : Rel W0 base ρ h w) {e : Nat} {arr : Array Value} {x : Value} (hx : x = .pointer (some ⟨w.heap.size, 0, none⟩)) :
  VR (ρ.push ⟨w.heap.size, 0, e, arr.size⟩) (.s (.ptr (some (h.n, 0)))) x := by
 refine fun _ => ⟨⟨w.heap.size, 0, e, arr.size⟩, ?_, hx⟩
 rw [<- rel.len]; simp
theorem NV (rel : Rel W0 base ρ h w) {e n cap : Nat} {arr : Array Value} {x : Value} (hx : x = .slice (some ⟨w.heap.size, 0, none⟩) n cap) (hn : n <= cap) (hc : cap * e <= arr.size) :
  VR (ρ.push ⟨w.heap.size, 0, e, arr.size⟩) (.s (.sl (some (h.n, 0)) n)) x := by
 refine fun _ => ⟨⟨w.heap.size, 0, e, arr.size⟩, ⟨w.heap.size, 0, none⟩, cap, ?_, hx, hn, fun _ => rfl, fun _ _ => by simpa using hc⟩
 rw [<- rel.len]; simp
theorem TW {α : Type} [Inhabited α] (zs : Array α) (hz : 0 < zs.size) (n : Nat) : ((EX (n * zs.size)).map (fun i => zs[i % zs.size]!)).toList = (HY n zs.toList).flatten := by
 apply List.ext_getElem?;intro j;simp only [Array.toList_map, Array.toList_range, List.getElem?_map]
 by_cases hj : j < n * zs.size
 ·rw [List.getElem?_range hj]
  simp only [Option.map_some];have hm : j % zs.size < zs.size := Nat.mod_lt _ hz;rw [getElem!_pos zs _ hm]
  symm
  have key : ∀ (n j : Nat), j < n * zs.size -> (HY n zs.toList).flatten[j]? = some (zs[j % zs.size]'(Nat.mod_lt _ hz)) := by
   intro n
   induction n with
   | zero => intro j hj; simp at hj
   | succ n ih =>
    intro j hj;simp only [IK, List.flatten_cons]
    by_cases h1 : j < zs.size
    ·rw [HZ (by simpa using h1)]
     have : j % zs.size = j := Nat.mod_eq_of_lt h1;simp [this, h1]
    ·rw [FM (by simpa using h1)]
     simp only [FU];rw [ih (j - zs.size) (by rw [Nat.succ_mul] at hj; omega)]
     congr 1
     have : j % zs.size = (j - zs.size) % zs.size := Nat.mod_eq_sub_mod (by omega)
     simp [this]
  exact key n j hj
 ·rw [EH (by simpa using hj), EH (by simp [AS]; omega)]
  rfl
theorem SRs.rep {cs : List S} {l : List Value} (hs : SRs ρ cs l) : ∀ n, SRs ρ (HY n cs).flatten (HY n l).flatten
 | 0 => trivial
 | n + 1 => by simp only [IK, List.flatten_cons]; exact hs.append (SRs.rep hs n)
theorem NB {g o t : Nat} {fr : Nat × Nat} : ∀ (vs : List Value) (i : Nat) (cur : Array Value) (w : World), w.heap[g]? = some (.cells cur t fr) -> (fr = (0, 0) \/ cur.size <= fr.1) -> o + i + vs.length <= cur.size -> (∀ v ∈ vs, v.oneCell' = true) ->
  ∃ w', (storeCells ⟨g, o, none⟩ vs i).run P w = .ok () w' /\ w'.heap.size = w.heap.size /\ (∀ (j : Nat), j ≠ g -> w'.heap[j]? = w.heap[j]?) /\ w'.heap[g]? = some (.cells (cur.toList.take (o + i) ++ vs ++ cur.toList.drop (o + i + vs.length)).toArray t fr) /\ IO w' w
 | [], i, cur, w, hg, hf, hl, h1 => ⟨w, rfl, rfl, fun _ _ => rfl, by simp [hg], rfl, rfl, rfl⟩
 | v :: vs, i, cur, w, hg, hf, hl, h1 => by
  simp only [List.length_cons] at hl;have hlt : g < w.heap.size := (Array.getElem?_eq_some_iff.1 hg).1;have ha : (Addr.add ⟨g, o, none⟩ i) = ⟨g, o + i, none⟩ := by
   unfold Addr.add
   split
   · rename_i h0; rw [h0]; rfl
   · rfl
  have hc : w.cell? ⟨g, o + i, none⟩ = some (cur[o + i]'(by omega)) := by
   unfold World.cell?; simp [hg]
  have hfz : w.frozen? ⟨g, o + i, none⟩ = false := by
   unfold World.frozen?;simp only [hg]
   rcases hf with rfl | hf
   · simp
   ·have : ¬ (fr.1 <= o + i) := by omega
    simp [this]
  have hset : (w.setCell ⟨g, o + i, none⟩ v).heap[g]? = some (.cells (cur.setIfInBounds (o + i) v) t fr) := by
   unfold AU;simp only [SC, if_true, hg];rfl
  obtain ⟨w', q1, q2, q3, q4, qio⟩ := NB (o := o) vs (i + 1) (cur.setIfInBounds (o + i) v) (w.setCell ⟨g, o + i, none⟩ v) hset (by simpa using hf) (by simp; omega) (fun u hu => h1 u (by simp [hu]))
  refine ⟨w', ?_, ?_, fun j hj => ?_, ?_, qio.trans ⟨rfl, rfl, rfl⟩⟩
  · simp only [storeCells, Hz, ha, run_store P w _ v .plain (h1 v (by simp)), hc, hfz, FD, if_false, Hy, q1]
  · rw [q2]; simp [AU]
  ·rw [q3 j hj]
   unfold AU;simp only [SC];rw [if_neg (by omega)]
  ·rw [q4]
   congr 2
   have e1 : (cur.setIfInBounds (o + i) v).toList = cur.toList.set (o + i) v := by simp
   rw [e1, show o + (i + 1) = o + i + 1 from by omega, List.take_succ_eq_append_getElem (by simp; omega), List.getElem_set_self, List.take_set_of_le (Hx _), List.drop_set_of_lt (by omega)]
   simp [Nat.add_assoc, Nat.add_comm 1]
theorem BS (r : Rel W0 base ρ h w) {b o e : Nat} {i : BI} {cs ys : List S} {vs : List Value} (hi : ρ.bl[b]? = some i) (hg : h.g b = .rw e cs) (hy : SRs ρ ys vs) (hl : o + ys.length <= cs.length) :
  ∃ w', (storeCells ⟨i.blk, i.off + o, none⟩ vs).run P w = .ok () w' /\ Rel W0 base ρ (h.put b (.rw e (setAt cs o ys))) w' /\ Frm ρ h (h.put b (.rw e (setAt cs o ys))) w w' := by
 obtain ⟨a1, a2, c, el, fr, a3, af, a4, a5, a6⟩ := r.rw b i e cs hi hg;have hvl := hy.length;obtain ⟨w', h1, hz, hoth, hat, hio⟩ := NB (P := P) (g := i.blk) (o := i.off + o) (t := el) (fr := fr) vs 0 c w a3 af (by omega) hy.one
 simp only [Nat.add_zero] at hat;have hsz : (c.toList.take (i.off + o) ++ vs ++ c.toList.drop (i.off + o + vs.length)).toArray.size = c.size := by simp; omega
 refine ⟨w', h1, r.upd hi hg a3 hz hoth hat hsz (NG hl) (fun j s hs => ?_) hio, r.upd_frm hi hg hoth⟩
 unfold setAt at hs;rw [List.getElem?_toArray]
 by_cases h1 : j < o
 ·rw [FA, HZ (by simp; omega), FG, if_pos h1] at hs
  obtain ⟨y, q1, q2⟩ := a6 j s hs;refine ⟨y, ?_, q2⟩;rw [FA, HZ (by simp; omega), FG, if_pos (by omega), Fy]
  exact q1
 ·by_cases h2 : j < o + ys.length
  ·rw [FA, FM (by simp; omega), HZ (by simp; omega)] at hs
   simp only [HV] at hs;rw [show j - min o cs.length = j - o from by omega] at hs
   obtain ⟨y, q1, q2⟩ := hy.get hs;refine ⟨y, ?_, q2⟩;rw [FA, FM (by simp; omega), HZ (by simp; omega)]
   simp only [HV, FU];rw [show i.off + j - min (i.off + o) c.size = j - o from by omega]
   exact q1
  ·rw [FM (by simp; omega), FO] at hs
   simp only [HO, HV] at hs;rw [show o + ys.length + (j - (min o cs.length + ys.length)) = j from by omega] at hs
   obtain ⟨y, q1, q2⟩ := a6 j s hs;refine ⟨y, ?_, q2⟩;rw [FM (by simp; omega), FO, Fy]
   simp only [HO, HV, FU];rw [show i.off + o + vs.length + (i.off + j - (min (i.off + o) c.size + vs.length)) = i.off + j from by omega]
   exact q1
theorem jP {cs : List S} {o : Nat} {x : S} (ho : o < cs.length) : cs.set o x = setAt cs o [x] := by
 unfold setAt;rw [List.set_eq_take_append_cons_drop, if_pos ho];simp
theorem Q1N {β : Type} (f g : Nat -> β) : (EX 0).map f = (EX 0).map g := by
 rw [<- Array.toList_inj]; simp
theorem xQ (hT : X5 P E) {o' : Oper} {F : Fr} {k : V -> H -> Option R} {r : R} (hr : op1 E F h o'.op k = some r)
  (hm : (match o'.op with | .alloc _ | .box .. | .buildSlice .. | .makeSlice .. | .store .. => true | _ => false) = true) : ∃ v h', k v h' = some r /\ EOK P W0 base o' F h v h' := by
 cases hop : o'.op <;> rw [hop] at hr hm <;> simp only [op1] at hr <;> try (cases hm; done)
 case alloc t =>
  rw [Hv] at hr;obtain ⟨ti, h1, h2⟩ := hr;obtain ⟨i, d, z, e1, e2, e3, e4, e5, e6, e7⟩ := (hT _ _ h1).get;refine ⟨_, _, h2, U4 fun ρ a w rel hF => ⟨.pointer (some ⟨w.heap.size, 0, none⟩), (ρ.push ⟨w.heap.size, 0, 0, z.cells.size⟩), { w with heap := w.heap.push (.cells z.cells t) }, ?_, Le.push _ _, xN rel rfl, rel.new (ys := []) (e6 ρ) (by simp) rfl, rel.new_frm rfl⟩⟩
  simp only [execOp, hop, Instr.alloc, Hz, Ue e1 e5, Hy, VQ, HD]
 case box t x =>
  simp only [UA, Hv] at hr;obtain ⟨v, h1, cs, h2, h3⟩ := hr;refine ⟨_, _, h3, U4 fun ρ a w rel hF => ?_⟩
  have hx := (QK hF h1).cells h2;refine ⟨.pointer (some ⟨w.heap.size, 0, none⟩), (ρ.push ⟨w.heap.size, 0, 0, (a.eval x).cells.size⟩), { w with heap := w.heap.push (.cells (a.eval x).cells t) }, ?_, Le.push _ _, xN rel rfl, rel.new (ys := []) hx (by simp) rfl, rel.new_frm rfl⟩
  simp only [execOp, hop, Instr.box, Hz, Hy, VQ, HD]
 case buildSlice t len ps =>
  rw [Hv] at hr;obtain ⟨ti, h1, h2⟩ := hr
  split at h2
  ·rename_i e hd
   rw [Hv] at h2;obtain ⟨te, h3, h4⟩ := h2
   split at h4
   ·rename_i hc
    rw [YN, Hv] at h4;obtain ⟨cs, h5, h6⟩ := h4;obtain ⟨i, d, z, e1, e2, e3, e4, e5, e6, e7⟩ := (hT _ _ h3).get;refine ⟨_, _, h6, U4 fun ρ a w rel hF => ?_⟩
    have hzl := (e6 ρ).length;have hzz := (hT _ _ h3).small.2;have hzs : z.cells.size = te.z := by rw [<- FU, hzl, hzz]
    have hrow : SRs ρ (HY len te.zero).flatten ((EX (len * te.z)).map (fun i => z.cells[i % z.cells.size]!)).toList := by
     rw [<- hzs, TW z.cells (by omega) len]
     exact (e6 ρ).rep len
    obtain ⟨cs', m1, c', m2, m3⟩ := Ti (pc := fun i => some (i * te.z, te.z)) (fun i p hp => hp) hF ps.toList _ _ some cs hrow h5
    cases m1
    have m2' : Instr.fill (fun i => some (i * te.z, te.z)) ((EX (len * te.z)).map (fun i => z.cells[i % z.cells.size]!)) (ps.map fun p => (p.1, a.eval p.2)).toList = some c' := by rw [Array.toList_map]; exact m2
    have hcl : cs.length = len * te.z := by
     have : ∀ (ps : List (Nat × Operand)) (cs cs' : List S), Jm (fun i => some (i * te.z, te.z)) F ps cs some = some cs' -> cs'.length = cs.length := by
      intro ps
      induction ps with
      | nil => intro cs cs' hh; cases hh; rfl
      | cons p ps ih =>
       intro cs cs' hh;obtain ⟨i, x⟩ := p;simp only [Jm, UA, Hv] at hh;obtain ⟨v, _, q, hq, xs, _, hh⟩ := hh
       split at hh
       ·rename_i hcc
        rw [ih _ _ hh, NG (by omega)]
       · cases hh
     rw [this _ _ _ h5];simp [AS, hzz]
    refine ⟨.slice (some ⟨w.heap.size, 0, none⟩) len len, (ρ.push ⟨w.heap.size, 0, te.z, c'.size⟩), { w with heap := w.heap.push (.cells c' e) }, ?_, Le.push _ _, NV rel rfl (Hx _) ?_, rel.new (ys := []) m3 (by simp) rfl, rel.new_frm rfl⟩
    ·simp only [execOp, hop, Instr.buildSlice, Hz, QJ ((hT _ _ h1).slice hd), Hy, (hT _ _ h3).size]
     rw [if_neg (by omega)]
     simp only [Hz, HD, Hy]
     by_cases h0 : len * te.z = 0
     ·have hl0 : len = 0 := by
       rcases Nat.mul_eq_zero.1 h0 with h | h
       · exact h
       · omega
      subst hl0;simp only [Nat.zero_mul] at m2' ⊢;simp only [if_true, Hz, HD, Hy];rw [Q1N _ (fun i => z.cells[i % z.cells.size]!), m2']
      simp only [Hz, YE, Hy, HD]
     ·rw [if_neg h0]
      simp only [Hz, Ue e1 e5, Hy, HD, m2', YE]
    · have := m3.length; simp at this; omega
   · cases h4
  · cases h2
 case makeSlice t l c =>
  simp only [Hv] at hr;obtain ⟨ti, h1, l', h2, c', h3, h4⟩ := hr
  split at h4
  ·rename_i e hd
   simp only [Hv] at h4;obtain ⟨te, h5, p, h6, h7⟩ := h4;unfold Mp at h6
   split at h6
   ·rename_i k1 n k2 m
    split at h6
    ·rename_i hc
     cases h6
     obtain ⟨i, d, z, e1, e2, e3, e4, e5, e6, e7⟩ := (hT _ _ h5).get;obtain ⟨c1, c2, c3, c4, c5⟩ := hc;subst c2;refine ⟨_, _, h7, U4 fun ρ a w rel hF => ?_⟩
     have hl := (QK hF h2).int;have hc := (QK hF h3).int;have hsm := (hT _ _ h5).small;have hzs : z.cells.size = te.z := by rw [<- FU, (e6 ρ).length, c5]
     have hrow : SRs ρ (HY n.toNat te.zero).flatten ((EX (n.toNat * te.z)).map (fun i => z.cells[i % z.cells.size]!)).toList := by
      rw [<- hzs, TW z.cells (by omega) n.toNat]
      exact (e6 ρ).rep n.toNat
     refine ⟨.slice (some ⟨w.heap.size, 0, none⟩) n.toNat n.toNat, (ρ.push ⟨w.heap.size, 0, te.z, ((EX (n.toNat * te.z)).map (fun i => z.cells[i % z.cells.size]!)).size⟩), { w with heap := w.heap.push (.cells ((EX (n.toNat * te.z)).map (fun i => z.cells[i % z.cells.size]!)) e) }, ?_, Le.push _ _, NV rel rfl (Hx _) (by simp), rel.new (ys := []) hrow (by rw [<- Array.toList_inj]; simp) rfl, rel.new_frm rfl⟩
     have hw : IntKind.i64.wrap n = n := by
      unfold lim at c3;rw [IntKind.wrap_i64]; omega
     have hb : ((i.bytes : Int) * n > 2 ^ 48) = False := by
      unfold lim at c3;rw [e4];have : (te.bytes : Int) * n <= 255 * 68719476736 := Int.mul_le_mul (by omega) (by omega) c1 (by omega)
      simp only [eq_iff_iff, iff_false];omega
     have hn0 : ¬ (n < 0) := by omega
     simp only [execOp, hop, Instr.makeSlice, Hz, QJ ((hT _ _ h1).slice hd), Hy, hl, hc, asInt, asIntOf, HD, VM e1, hw, hb, hn0, decide_false, Bool.or_false, FD, if_false, run_askRoom, (hT _ _ h5).size, Int.lt_irrefl, gt_iff_lt]
     by_cases h0 : n.toNat * te.z = 0
     ·rw [if_pos h0]
      simp only [Hz, HD, Hy, YE, h0];rw [Q1N (fun x => (#[] : Array Value)[x % (#[] : Array Value).size]!) (fun i => z.cells[i % z.cells.size]!)]
     ·rw [if_neg h0]
      simp only [Hz, Ue e1 e5, Hy, HD, YE]
    · cases h6
   · cases h6
  · cases h4
 case store t p x =>
  simp only [qp, Hv] at hr;obtain ⟨ti, h1, pv, h2, v, h3, h4⟩ := hr;have key : ∀ (b o : Nat) (e : Nat) (cs ys : List S), opd F p = some (.s (.ptr (some (b, o)))) -> h.g b = .rw e cs -> cellsOf v = some ys -> ys.length = ti.z -> o + ys.length <= cs.length ->
    EOK P W0 base o' F h (.s .no) (h.put b (.rw e (setAt cs o ys))) := by
   intro b o e cs ys q1 q3 q4 q5 q6 ρ a w rel hF next Q hn;obtain ⟨i, p1, p2⟩ := (QK hF q1).ptr;have hx := (QK hF h3).cells q4;obtain ⟨w', g1, g2, g3⟩ := BS (P := P) rel p1 q3 hx q6;have hsz : (a.eval x).cells.size = ti.z := by rw [<- FU, hx.length, q5]
   unfold Oper.wp;have : (execOp a.eval o').run P w = .ok .skip w' := by
    simp only [execOp, hop, Instr.storeAt, p2, Instr.sureAddr, storeVar, Hz, HD, Hy, (hT _ _ h1).size, hsz];simp only [ne_eq, not_true_eq_false, if_false, g1, Hz, HD, Hy]
   rw [this];exact hn _ ρ w' (Le.refl _) (fun hh => by cases hh) g2 g3
  obtain ⟨h', h5, h6⟩ := h4;unfold stV at h5
  split at h5
  ·rename_i y
   split at h5
   ·rename_i hz
    unfold vC at h5
    split at h5
    ·rename_i b o
     split at h5
     ·rename_i hb
      split at h5
      ·rename_i e cs hg
       split at h5
       ·rename_i ho
        cases h5
        refine ⟨_, _, h6, ?_⟩;rw [jP ho];refine key b o e cs [y] h2 hg ?_ (by simp [hz]) (by simp; omega)
        have := hb.2
        cases y <;> first | rfl | (simp [isNo] at this)
       · cases h5
      · cases h5
     · cases h5
    · cases h5
   · cases h5
  ·rename_i ys
   unfold vB at h5
   split at h5
   ·rename_i b o
    split at h5
    ·rename_i hb
     split at h5
     ·rename_i e cs hg
      split at h5
      ·rename_i ho
       cases h5
       exact ⟨_, _, h6, key b o e cs ys h2 hg rfl hb.2 (by omega)⟩
      · cases h5
     · cases h5
    · cases h5
   · cases h5
  · cases h5
end Vm
