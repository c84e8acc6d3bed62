/-
  What both ways of the law come to, and that the law returns true.
-/
import Derived.Sort.LotD6
import Derived.Sort.LotD7
import Derived.Sort.LotB
import Derived.Sort.LotD3
import Derived.Sort.LotD5
import Derived.Sort.LotD4
import Derived.Sort.LotA
import Derived.Sort.LotC
import Derived.Test.YtmenpfhpflnbnaaGreatTyp
import Derived.Test.YtmenpfhpflnbnaaGreatEqs
import Derived.Test.YtmenpfhpflnbnaaGreatVmR
import Derived.Test.YtmenpfhpflnbnaaGreatVmN
import Derived.Test.YtmenpfhpflnbnaaGreatDataFnDeletes2
set_option linter.unusedVariables false
set_option maxRecDepth 100000
set_option linter.unusedSimpArgs false
set_option linter.unusedSectionVars false
set_option maxHeartbeats 1000000
open Bool renaming and_eq_true->HE,and_true->Ds,eq_false_iff->Dt,eq_false_or_eq_true->EO
open ByteArray.toList renaming loop->AJ
open Int renaming emod_lt_of_pos->DN,emod_nonneg->DM,toNat_natCast->HQ
open List renaming all_cons->HG,all_eq_true->Fw,all_nil->AK,dropWhile_cons->OT,drop_zero->HX,flatten_append->EJ,flatten_cons->FC,getElem?_append_left->HZ,getElem?_append_right->FM,getElem?_cons_succ->FP,getElem?_eq_getElem->HI,getElem?_eq_some_iff->HF,getElem?_set_ne->EN,getElem?_set_self->Dc,getElem_mem->DW,length->EB,length_append->HO,length_cons->HM,length_nil->FY,length_set->HN,map_cons->HS,map_nil->EF,mem_append->HK,mem_cons->HH,mem_flatten->DB,mem_map->HR,mem_of_find?_eq_some->ER,mem_of_getElem?->HU,mem_or_eq_of_mem_set->EU,mem_singleton->HT,nodup_append->Da,not_mem_nil->EL,replicate->HY,takeWhile_append_dropWhile->AF,takeWhile_cons->OS,take_add_one->Dj,take_of_length_le->Fz
open List.cons renaming injEq->OZ
open Nat renaming le_refl->Hx,le_trans->HL,lt_of_lt_of_le->HJ,reduceAdd->HA,succ_mul->Ew,zero_add->Hw
open Option renaming bind_some->HC,getD_none->OV,getD_some->FI,isSome_none->OW,isSome_some->OX,toList_some->AH
open UInt8 renaming ofNat->HB
open Go.IntKind renaming i64->Ly,u8->LA
namespace Vm
open Go
theorem xV {R : Type} {t : VT} {ti : TI} {h : H} {b o : Nat} {cs : List S} {k : V -> Option R} (ha : ti.agg = true) (hl : Qp ti.z h (pv b o) = some cs) : ldK t ti h (pv b o) k = k (.agg cs) := by
 simp only [ldK, ldT, ha, cond_true]; rw [hl, ob]
theorem uc {h : H} {b : Nat} {cs : List S} {n : Nat} (hb : b < h.n) (hc : h.cells b = cs) (hn : cs.length = n) : Qp n h (pv b 0) = some cs := by
 simp only [Qp];rw [if_pos ⟨hb, by rw [hc]; omega⟩, hc, HX, Fz (by omega)]
def WS (r : RowD) (ks : List RowD) : List RowD := ks.takeWhile (ZJ · r) ++ r :: ks.dropWhile (ZJ · r)
theorem Br {r : RowD} {ks : List RowD} : (WS r ks).length = ks.length + 1 := by
 unfold WS;have := congrArg EB (AF (p := (ZJ · r)) (l := ks))
 simp only [HO, HM] at *; omega
theorem zp {h : H} {b : Nat} {cs : List S} (hb : b < h.n) (hg : h.g b = .rw 0 cs) (hc : ∀ s ∈ cs, Cl s) : QL h (pv b 0) = some (fv cs 0) := by
 have h7 : mapO (Qy h 7) cs = some cs := Bp hc;simp only [QL, Qy, hb, if_true, hg, h7, HC]
structure FlS (z : Nat) (h : H) (v : V) (rows : List (List S)) (b : Nat) : Prop where
 v : v = sv b 0 rows.length
 n : b < h.n
 g : h.g b = .rw z rows.flatten
 z : ∀ r ∈ rows, r.length = z
theorem FlS.cells {z b : Nat} {h : H} {v : V} {rows : List (List S)} (w : FlS z h v rows b) : Z6 z h v = some rows.flatten := by
 have hc : h.cells b = rows.flatten := by unfold H.cells; rw [if_pos w.n, w.g]; rfl
 have hl := JU w.z;rw [w.v];simp only [Z6, hc];rw [if_pos ⟨w.n, by omega⟩, HX, Fz (by omega)]
theorem Pq {z : Nat} {h : H} {rows : List (List S)} (hz : ∀ r ∈ rows, r.length = z) : Z6 z h (lv rows) = some rows.flatten := by
 simp only [Z6, if_pos hz]
theorem jz {z : Nat} {h : H} {row : List S} (hz : row.length = z) : Z6 z (h.new z row) (sv h.n 0 1) = some row := by
 have c2 : (h.new z row).cells h.n = row := by unfold H.cells; rw [if_pos (by simp), QI]; rfl
 simp only [Z6, c2];rw [if_pos ⟨by simp, by omega⟩, HX, Fz (by omega)]
theorem zV {z b : Nat} {h : H} {v y : V} {rows more : List (List S)} (w : FlS z h v rows b) (hm : ∀ r ∈ more, r.length = z) (hc : Z6 z h y = some more.flatten) (hy : Uh y = some more.length) (hz0 : 0 < z) (hl : rows.length + more.length <= lim) :
  ∃ v' h', Zm z h v y = some (v', h') /\ FlS z h' v' (rows ++ more) h.n /\ h'.n = h.n + 1 /\ ∀ c, c < h.n -> c ≠ b -> h'.g c = h.g c := by
 have h1 := w.cells;obtain ⟨rfl, w2, w3, w4⟩ := w;refine ⟨sv h.n 0 (rows.length + more.length), (h.put b .dead).new z (rows.flatten ++ more.flatten), ?_, ⟨by rw [HO], by simp, ?_, ?_⟩, by simp, fun c hc hcb => ?_⟩
 ·simp only [Zm, h1, hc, hy, HC]
  rw [if_pos ⟨w2, hl, hz0⟩, w3];simp
 · rw [EJ]; exact QI (h.put b .dead) _ _
 ·intro r hr
  rcases HK.1 hr with hr | hr
  · exact w4 r hr
  · exact hm r hr
 · rw [QO (by simp; omega), QG hcb]
theorem FlS.nil {z : Nat} {h : H} : FlS z (h.new z []) (sv h.n 0 0) [] h.n := ⟨rfl, by simp, QI _ _ _, by simp⟩
theorem FlS.keep {z b : Nat} {h h' : H} {v : V} {rows : List (List S)} (w : FlS z h v rows b) (hn : h.n <= h'.n) (hg : h'.g b = h.g b) : FlS z h' v rows b := ⟨w.v, by have := w.n; omega, by rw [hg]; exact w.g, w.z⟩
theorem FlS.own {z b n : Nat} {h : H} {y : S} {rows : List (List S)} (w : FlS z h (.s y) rows b) (hz0 : 0 < z) (hn : n <= b) (hs : ∀ r ∈ rows, ∀ s ∈ r, Sc s) : Ku 1 y (.fs rows) n h.n h := by
 have hv := w.v
 injection hv with hv
 subst hv;refine ⟨[b], ?_, by simp, by simpa using ⟨hn, w.n⟩⟩
 exact Rep.sl (bss := []) w.n hz0 w.g w.z (RepL.sc fun s hs' => by
  obtain ⟨r, h1, h2⟩ := DB.1 hs';exact hs r h1 s h2)
theorem FlS.frz {b z : Nat} {h : H} {v : V} {rows : List (List S)} (w : FlS z h v rows b) (hz0 : 0 < z) (hs : ∀ r ∈ rows, ∀ s ∈ r, Sc s) : QL h v = some (lv rows) := by
 rw [w.v]; exact Q13 w.n hz0 w.g w.z fun r hr s h => (hs r hr s h).cl
theorem Ku.fl {z lo hi : Nat} {h : H} {y : S} {rows : List (List S)} (w : Ku 1 y (.fs rows) lo hi h) (hz : ∀ r ∈ rows, r.length = z) (hs : ∀ r ∈ rows, ∀ s ∈ r, Sc s) (hne : rows ≠ []) : ∃ b, FlS z h (.s y) rows b /\ lo <= b /\ b < hi := by
 obtain ⟨bs, w1, w2, w3⟩ := w
 rcases w1 with ⟨⟨h1, h2⟩ | ⟨h1, h2⟩, h3⟩ | ⟨b, z', cs, rows', bss, h1, h0, h2, h3, h4, h5, h6, h7⟩
 · rw [<- h2] at h1; exact h1.elim
 · injection h2 with h2; exact absurd h2 hne
 ·injection h0 with h0
  subst h0;obtain ⟨rfl, rfl⟩ := h7.of_sc fun s hs' => by
   obtain ⟨r, h8, h9⟩ := DB.1 hs';exact hs r h8 s h9
  obtain ⟨r, rows', rfl⟩ := List.exists_cons_of_ne_nil hne;have : z' = z := by rw [<- h6 r (by simp), hz r (by simp)]
  subst this;exact ⟨b, ⟨by rw [h1], h3, h5, h6⟩, w3 b (by rw [h2]; simp)⟩
theorem zt {z : Nat} : ∀ {rows : List (List S)} {i j : Nat} {r : List S}, (∀ r ∈ rows, r.length = z) -> rows[i]? = some r -> j < z -> rows.flatten[i * z + j]? = r[j]?
 | [], i, j, r, _, h, _ => by simp at h
 | q :: rows, 0, j, r, hz, h, hj => by
  simp only [List.getElem?_cons_zero, Option.some.injEq] at h;subst h;rw [FC, Nat.zero_mul, Hw, HZ (by rw [hz q (by simp)]; exact hj)]
 | q :: rows, i + 1, j, r, hz, h, hj => by
  rw [FP] at h;have hq := hz q (by simp)
  rw [FC, FM (by rw [hq, Ew]; omega), hq, show (i + 1) * z + j - z = i * z + j from by rw [Ew]; omega]
  exact zt (fun r hr => hz r (by simp [hr])) h hj
theorem xd {h : H} {b : Nat} {k r : RowD} (hb : b < h.n) (hg : h.g b = .rw 0 r.cs) : (Qt h [fv k.cs 0, pv b 0]).bind (fun l203 => some (Qr [4, 4] l203)) = some [fv k.cs 0, fv r.cs 0] := by
 have e1 : QL h (fv k.cs 0) = some (fv k.cs 0) := by simp
 rw [Qa e1 (Qa (zp hb hg qE) QE), Vm.ob]; rfl
theorem xB {rs : List RowD} {k : Nat} {R : Type} {f : List (List S) -> Option R} (hk : k <= rs.length) : slF 4 (rws rs) none (some (iv Ly (k : Int))) f = f (rws (rs.take k)) /\ slF 4 (rws rs) (some (iv Ly (k : Int))) none f = f (rws (rs.drop k)) := by
 have hb : bnd (rws rs).length (iv Ly (k : Int)) = some k := by rw [YD]; exact ML hk
 unfold slF;refine ⟨?_, ?_⟩
 ·simp only [HC, hb]
  rw [if_pos Us, HX]; simp [rws, List.map_take]
 ·simp only [HC, hb]
  rw [if_pos Us, List.take_length]; simp [rws, List.map_drop]
theorem qh {k r : RowD} {ks : List RowD} (h : ZJ k r = true) : (k :: ks).takeWhile (ZJ · r) = k :: ks.takeWhile (ZJ · r) /\ (k :: ks).dropWhile (ZJ · r) = ks.dropWhile (ZJ · r) := by
 rw [OS, OT]; simp [h]
theorem qi {k r : RowD} {ks : List RowD} (h : ZJ k r = false) : (k :: ks).takeWhile (ZJ · r) = [] /\ (k :: ks).dropWhile (ZJ · r) = k :: ks := by
 rw [OS, OT]; simp [h]
theorem uQ {r : RowD} : ∀ (ks : List RowD), ks.take (ks.takeWhile (ZJ · r)).length = ks.takeWhile (ZJ · r) /\ ks.drop (ks.takeWhile (ZJ · r)).length = ks.dropWhile (ZJ · r)
 | [] => ⟨rfl, rfl⟩
 | k :: ks => by
  obtain ⟨i1, i2⟩ := uQ (r := r) ks
  cases hb : ZJ k r with
  | true => rw [(qh hb).1, (qh hb).2]; exact ⟨by rw [HM, List.take_succ_cons, i1], by rw [HM, List.drop_succ_cons, i2]⟩
  | false => rw [(qi hb).1, (qi hb).2]; exact ⟨rfl, rfl⟩
end Vm
namespace Vm
open Go
theorem Rep.stay {h : H} {d n : Nat} {y f : S} {bs : List Nat} (w : Rep h d y f bs) (hb : ∀ b ∈ bs, n <= b) (hy : QR n y = true) : bs = [] /\ ∀ h', Rep h' d y f [] := by
 cases d with
 | zero => obtain ⟨w1, rfl⟩ := w; exact ⟨rfl, fun _ => ⟨w1, rfl⟩⟩
 | succ d =>
  rcases w with ⟨w1, rfl⟩ | ⟨b, z, cs, rows, bss, rfl, rfl, rfl, h1⟩
  · exact ⟨rfl, fun _ => .inl ⟨w1, rfl⟩⟩
  ·have := hb b (by simp)
   simp [QR] at hy; omega
theorem Q0f {h h' : H} {l : List V} (u : Up h h') : Up h (tidy h l h') := by
 unfold tidy
 split
 · exact ⟨Hx _, fun b hb => by simp only [if_pos hb]; exact u.g b hb⟩
 · exact u
theorem Ku.len {d lo hi t : Nat} {y : S} {rows : List (List S)} {h : H} (w : Ku d y (.fs rows) lo hi h) : Xi (.sl t) (.s y) = some (iv Ly (rows.length : Int)) := by
 obtain ⟨bs, w1, _⟩ := w
 cases d with
 | zero =>
  obtain ⟨⟨h1, h2⟩ | ⟨rfl, h2⟩, _⟩ := w1
  · rw [<- h2] at h1; exact h1.elim
  · injection h2 with h2; subst h2; rfl
 | succ d =>
  rcases w1 with ⟨⟨h1, h2⟩ | ⟨rfl, h2⟩, _⟩ | ⟨b, z, cs, rows', bss, rfl, h0, _⟩
  · rw [<- h2] at h1; exact h1.elim
  · injection h2 with h2; subst h2; rfl
  · injection h0 with h0; subst h0; rfl
theorem K6.up {h h' : H} (x : K6 h h') : Up h h' := ⟨x.1, fun b hb => (x.2 b hb).1⟩
end Vm
namespace Vm
open Go Go.Sort
theorem kl {ks : List RowD} {r : RowD} (hl : ks.length + 1 <= lim) (n : Nat) : ∃ y h', call Ev Fn.XC [lv (rws ks), .agg r.cs] (D n) = some (.s y, h') /\ n <= h'.n /\ Ku 1 y (.fs (rws (WS r ks))) n h'.n h' := by
 have hl' := hl;unfold lim at hl';have loop : ∀ (q : List RowD) (i : Nat), ks.drop i = q -> Lp.XC 0 [lv (rws ks), pv n 0, iv Ly i] ((D n).new 0 r.cs) = some (.done [lv (rws ks), pv n 0, iv Ly ((i + (q.takeWhile (ZJ · r)).length : Nat) : Int)] ((D n).new 0 r.cs)) := by
  intro q
  induction q with
  | nil =>
   intro i hi;have := Zn hi;rw [GL, Q1, if_neg (by simp; omega), Q6]; simp
  | cons k q ih =>
   intro i hi;obtain ⟨g1, g2, g3⟩ := Zf hi;rw [GL, Q1, if_pos (by simp; omega), Yd g1]
   have e := xd (h := (D n).new 0 r.cs) (b := n) (k := k) (r := r) (by simp) (by exact QI (D n) _ _)
   obtain ⟨l, e1, e2⟩ : ∃ l, Qt ((D n).new 0 r.cs) [fv k.cs 0, pv n 0] = some l /\ Qr [4, 4] l = [fv k.cs 0, fv r.cs 0] := by
    cases hf : Qt ((D n).new 0 r.cs) [fv k.cs 0, pv n 0] with
    | none => rw [hf] at e; cases e
    | some l => rw [hf, Vm.ob] at e; exact ⟨l, rfl, by injection e⟩
   rw [e1, ob, e2, pc (j7 k r) rfl];simp only [Q3, QW, Q1, Q6];rw [w64 (by omega) (by omega), show (i : Int) + 1 = ((i + 1 : Nat) : Int) from by omega]
   cases hb : ZJ k r with
   | true =>
    rw [if_pos rfl, ih (i + 1) g2, (qh hb).1, HM, Nat.add_assoc i 1, Nat.add_comm 1]
   | false => rw [if_neg (by simp), (qi hb).1]; simp
 have htl : (ks.takeWhile (ZJ · r)).length <= ks.length := by
  have := congrArg EB (AF (p := (ZJ · r)) (l := ks))
  rw [HO] at this; omega
 have hdl : (ks.takeWhile (ZJ · r)).length + (ks.dropWhile (ZJ · r)).length = ks.length := by
  have := congrArg EB (AF (p := (ZJ · r)) (l := ks))
  rw [HO] at this; omega
 obtain ⟨t1, t2⟩ := uQ (r := r) ks;rw [PI, D_n, show iv Ly 0 = iv Ly ((0 : Nat) : Int) from rfl, loop ks 0 rfl, ob, Qc]
 simp only [gx0, gx1, ob, Q3, QY, Q2, Hw];rw [(xB htl).1, t1];obtain ⟨v1, h1, e1, w1, n1, k1⟩ := zV (z := 4) (h := ((D n).new 0 r.cs).new 4 []) (y := lv (rws (ks.takeWhile (ZJ · r)))) (more := rws (ks.takeWhile (ZJ · r))) FlS.nil Us (Pq Us) rfl (by omega) (by simp; unfold lim; omega)
 rw [e1, ob];have gr : h1.g n = .rw 0 r.cs := by rw [k1 n (by simp; omega) (by simp), QO (by simp)]; exact QI (D n) _ _
 have cr : h1.cells n = r.cs := by unfold H.cells; rw [if_pos (by rw [n1]; simp; omega), gr]; rfl
 rw [xV rfl (uc (by rw [n1]; simp; omega) cr rfl)]
 simp only [Zb, ob, gx0, gx1, Q2, Z8, ln0, ln1, Hw, HA, if_true];rw [(xB htl).2, t2, ZB (K6.refl h1).new.ext];have w1' : FlS 4 (h1.new 4 r.cs) v1 ([] ++ rws (ks.takeWhile (ZJ · r))) _ := w1.keep (by simp) (QO (by have := w1.n; omega))
 obtain ⟨v2, h2, e2, w2, n2, k2⟩ := zV (z := 4) (h := h1.new 4 r.cs) (y := sv h1.n 0 1) (more := [r.cs]) w1' (by simp) (by simpa using jz (h := h1) (z := 4) (row := r.cs) rfl) rfl (by omega) (by simp; unfold lim; omega)
 rw [e2, ob];obtain ⟨v3, h3, e3, w3, n3, k3⟩ := zV (z := 4) (h := h2) (y := lv (rws (ks.dropWhile (ZJ · r)))) (more := rws (ks.dropWhile (ZJ · r))) w2 Us (Pq Us) rfl (by omega) (by simp; unfold lim; omega)
 rw [e3, ob];have hr : ([] ++ rws (ks.takeWhile (ZJ · r)) ++ [r.cs] ++ rws (ks.dropWhile (ZJ · r))) = rws (WS r ks) := by simp [WS, rws]
 rw [hr] at w3;have hv := w3.v;subst hv;refine ⟨_, h3, rfl, by rw [n3, n2]; simp; rw [n1]; simp; omega, w3.own (by omega) ?_ Mw⟩
 rw [n2]; simp; rw [n1]; simp; omega
theorem Q0D {ks : List RowD} {r : RowD} (hl : ks.length + 1 <= lim) : Q8 (call Ev) Fn.XC [lv (rws ks), .agg r.cs] = some (lv (rws (WS r ks))) := by
 obtain ⟨y, h', e, n1, w⟩ := kl (r := r) hl 0;unfold Q8;rw [e, ob];exact w.frz
theorem xf {all : List SpotD} (hl : all.length <= 1000) {n : Nat} : ∀ (q : List SpotD) (i : Nat) (ks : List RowD) (v : V) (b : Nat) (h : H), all.drop i = q -> FlS 4 h v (rws ks) b -> n <= b -> ks.length + q.length <= 2000 ->
  ∃ v' ks' b' h', Lp.Xz 0 [v, lv (sps all), iv Ly i] h = some (.done [v'] h') /\ FlS 4 h' v' (rws ks') b' /\ n <= b' /\ h.n <= h'.n /\ ks'.length <= 2000 := by
 intro q
 induction q with
 | nil =>
  intro i ks v b h hi w hb hk;have := Zn hi;refine ⟨v, ks, b, h, ?_, w, hb, Hx _, by simpa using hk⟩
  rw [UR, Q1, if_neg (by simp; omega), Q6]
 | cons x q ih =>
  intro i ks v b h hi w hb hk;rw [HM] at hk;obtain ⟨g1, g2, g3⟩ := Zf hi;rw [UR, Q1, if_pos (by simp; omega), YM g1, show JP 4 (spc x) 6 = some x.c.row.cs from rfl]
  simp only [gx0, gx1, ob, Q2, Z8, ln0, ln1, Hw, HA, if_true];have ea : QL h (.agg x.c.row.cs) = some (.agg x.c.row.cs) := by simp
  rw [Qa (w.frz (by omega) Mw) (Qa ea QE), ob, Z2]
  obtain ⟨y, hp, e1, n1, w1⟩ := kl (ks := ks) (r := x.c.row) (by unfold lim; omega) h.n
  obtain ⟨K, e2, u2, n2, w2⟩ := pV (h := h) (n := h.n) (off := [v, V.agg x.c.row.cs].all Z5) rfl e1 n1 w1;have e2' := e2 LOut;rw [e2'];obtain ⟨b2, w3, b3, b4⟩ := w2.now.fl Us Mw (by
   intro hh;have := congrArg EB hh;rw [YD, Br] at this; simp at this)
  have hv := w3.v
  injection hv with hv
  subst hv;rw [B0 (h := h) (m := b2) (k := (rws (WS x.c.row ks)).length) b3 (by simp), w64 (n := (i : Int) + 1) (by omega) (by omega), show (i : Int) + 1 = ((i + 1 : Nat) : Int) from by omega]
  have hbn := w.n;obtain ⟨v', ks', b', h', a1, a2, a3, a4, a5⟩ := ih (i + 1) (WS x.c.row ks) _ b2 K g2 w3 (by omega) (by rw [Br]; omega)
  exact ⟨v', ks', b', h', a1, a2, a3, by have := u2.n; omega, a5⟩
theorem jw {ps : List (List S)} {all : List SpotD} (hs : Q8 (call Ev) Fn.ZD [lv ps] = some (lv (sps all))) (hl : all.length <= 1000) (n : Nat) :
  ∃ y ks b h', call Ev Fn.Xz [lv ps] (D n) = some (.s y, h') /\ n <= h'.n /\ FlS 4 h' (.s y) (rws ks) b /\ n <= b /\ ks.length <= 2000 := by
 rw [Vp, hs];simp only [ob, Q3, QY];have w : FlS 4 ((D n).new 4 []) (sv n 0 0) (rws []) n := FlS.nil (h := D n);obtain ⟨v', ks', b', h', a1, a2, a3, a4, a5⟩ := xf hl (n := n) all 0 [] _ n _ rfl w (Hx _) (by simp; omega)
 rw [D_n, show iv Ly 0 = iv Ly ((0 : Nat) : Int) from rfl, a1, ob, Qc]
 simp only [gx0, ob];have hv := a2.v;subst hv;exact ⟨_, ks', b', h', rfl, by rw [Xf, D_n] at a4; omega, a2, a3, a5⟩
noncomputable def riL (ps : List (List UInt8)) : List RowD := (Ji ps).map SeenD.r
theorem xF (ps : List (List UInt8)) : (riL ps).length <= 192 := by
 unfold riL; rw [List.length_map]; exact GX ps
theorem Q1y {ps : List (List UInt8)} (h : ZF ps ≠ 0) : riL ps = [] := by
 unfold riL Ji; rw [if_neg h]; rfl
theorem vp (rs : List RowD) (r : RowD) : rws (rs ++ [r]) = rws rs ++ [r.cs] := by simp [rws]
theorem Q15 {all : List SeenD} (hl : all.length <= 1000) (n : Nat) : ∃ y h', call Ev Fn.KF [lv (snl all)] (D n) = some (.s y, h') /\ n <= h'.n /\ Ku 1 y (.fs (rws (all.map SeenD.r))) n h'.n h' := by
 have loop : ∀ (rs : List SeenD) (i : Nat) (y : S) (out : List RowD) (h : H), all.drop i = rs -> out.length <= i -> Gr 4 n (D n) y (rws out) h ->
   ∃ y' h', Lp.KF 0 [.s y, lv (snl all), iv Ly (all.length : Int), iv Ly i] h = some (.done [.s y'] h') /\ Gr 4 n (D n) y' (rws (out ++ rs.map SeenD.r)) h' := by
  intro rs
  induction rs with
  | nil =>
   intro i y out h hi ho w;have := Zn hi;refine ⟨y, h, ?_, by simpa using w⟩
   rw [GP, Q1, if_neg (by simp; omega), Q6]
  | cons x rs ih =>
   intro i y out h hi ho w;obtain ⟨g1, g2, g3⟩ := Zf hi;rw [GP, Q1, if_pos (by simp; omega), ke g1, Uf (n := 9) rfl, w64 (by omega) (by omega), show (i : Int) + 1 = ((i + 1 : Nat) : Int) from by omega]
   simp only [ob, gx0, gx1, Q2, Z8, QW, ln0, ln1, Hw, HA, if_true];rw [K4 (z := 9) rfl rfl, YH (r := x.r.cs) (by simp) rfl]
   simp only [ob, gx0, gx1, Q2, Z8, ln0, ln1, Hw, HA, if_true];obtain ⟨h', e, w', hn⟩ := (w.keep (ZE h z9 x.cs)).app (row := x.r.cs) jU rfl (by omega) (by rw [YD]; unfold lim; omega)
   have e' : Zm 4 ((Zl h [.int Ly 0, .int Ly 0, .int Ly 0, .str (⟨#[]⟩), .int Ly 0, .int Ly 0, .bool false, .int Ly 0, .int Ly 0] [.int Ly x.r.tab, .int Ly x.r.key, .int Ly x.r.val, .str x.r.text, .int Ly x.page, .int Ly x.slot, .bool x.moved, .int Ly x.at_, .int Ly x.place]).new 4 [.int Ly x.r.tab, .int Ly x.r.key, .int Ly x.r.val, .str x.r.text]) (.s y) (sv (Zl h [.int Ly 0, .int Ly 0, .int Ly 0, .str (⟨#[]⟩), .int Ly 0, .int Ly 0, .bool false, .int Ly 0, .int Ly 0] [.int Ly x.r.tab, .int Ly x.r.key, .int Ly x.r.val, .str x.r.text, .int Ly x.page, .int Ly x.slot, .bool x.moved, .int Ly x.at_, .int Ly x.place]).n 0 1) = _ := e;rw [e', ob];dsimp only;rw [B0 (m := (Zl h z9 x.cs).n + 1) (k := (rws out).length + 1) (by rw [XK]; omega) (by simp)]
   rw [<- vp] at w';obtain ⟨y', h2, e2, w2⟩ := ih (i + 1) _ (out ++ [x.r]) h' g2 (by simp; omega) w'
   refine ⟨y', h2, e2, by simpa using w2⟩
 obtain ⟨y', h', e, w⟩ := loop all 0 _ [] _ rfl (by simp) (Gr.none (z := 4) (n := n) (h := D n) (by simp))
 rw [PM, xz, show iv Ly 0 = iv Ly ((0 : Nat) : Int) from rfl, e, ob, Qc]
 simp only [gx0, ob];exact ⟨y', h', rfl, w.1, w.own⟩
theorem uw {ps : List (List UInt8)} (hl : ps.length <= maxLen) (n : Nat) : ∃ y h', call Ev Fn.Yc [lv (bss ps)] (D n) = some (.agg [.int Ly (ZF ps), y], h') /\ NewC 5 [.int Ly (ZF ps), y] [.int Ly (ZF ps), .fs (rws (riL ps))] n h' := by
 rw [TA, yf hl];simp only [Za, gx0, gx1, ob, Zc, Q2, QY, ln0, ln1, Hw, HA, if_true, D_n];rw [Q1];have hlen := GX ps
 by_cases hc : ZF ps = 0
 case neg =>
  rw [if_pos (by simpa using hc), Q1y hc]
  obtain ⟨h', e, w⟩ := Q4K n 5 (ZF ps);rw [D_n] at e;exact ⟨_, h', e, w⟩
 rw [if_neg (by simpa using hc), hc]
 obtain ⟨y, h2, e2, n2, w2⟩ := Q15 (all := Ji ps) (by omega) (n + 1)
 obtain ⟨h', e, w⟩ := Q5g (off := true) e2 n2 (w2.lift (k := 5) (by omega))
 rw [D_n] at e;exact ⟨y, h', e, w⟩
end Vm
namespace Vm
open Go
theorem Bk {h : H} {a : Int} {l : List UInt8} {b N : Nat} {k : Nat} (w : BysW h (sv b 0 k) l b) : RepL (Rep h 1) [.int Ly a, .sl (some (b, 0)) k] (RunD.cs ⟨a, l⟩) [b] := by
 have hk := w.len;have h1 : Rep h 1 (.sl (some (b, 0)) k) (.fs (bys l)) [b] := Own.rep (d := 0) (ob := some b) w;exact RepL.cons (bs := []) (Rep.sc trivial) (RepL.cons (bs := [b]) h1 .nil)
theorem M1 (rs : List RunD) (r : RunD) : Z1 (rs ++ [r]) = Z1 rs ++ [r.cs] := by simp [Z1]
theorem Jh {g : Nat} {xs : List V} {h h1 : H} {v : V} {m : List UInt8} (e1 : call Ev g xs (D h.n) = some (v, h1)) (w1 : NewB h.n h1 v m (some (h.n + 1))) (nn : h1.n = h.n + 2) :
  (∀ (R : Type) (off : Bool) (k : V -> H -> Option R), Qj (call Ev) g off xs h k = k (sv (h.n + 1) 0 m.length) (h.over h1)) /\ BysW (h.over h1) (sv (h.n + 1) 0 m.length) m (h.n + 1) /\ Up h (h.over h1) /\ (h.over h1).n = h.n + 2 /\ Zj h (h.over h1) := by
 have hv := (show BysW h1 v m (h.n + 1) from w1.own).v
 have hle := w1.le;refine ⟨fun R off k => ?_, ⟨rfl, by rw [Xb hle]; omega, ?_⟩, Je hle, by rw [Xb hle, nn], ⟨by rw [Xb hle]; omega, fun b hb => .inr (Jg hb)⟩⟩
 · rw [pF (h := h) (h1 := h1) (v := v) e1 ⟨by rw [hv]; rfl, w1.z⟩, hv]
 · rw [KL (by omega)]; exact (show BysW h1 v m (h.n + 1) from w1.own).g
theorem Rx {R : Type} {a : Int} {y : S} (hy : isNo y = false) {k : Int -> S -> Option R} :
  (X1 (.s y) fun c217 =>
   if c217.length = 1 /\ 1 + 1 <= ([.int Ly a, .sl none 0] : List S).length then
   ((setAt ([.int Ly a, .sl none 0] : List S) 1 c217)[0]?).bind fun x218 =>
   gI Ly x218 fun i219 =>
   ((setAt ([.int Ly a, .sl none 0] : List S) 1 c217)[1]?).bind fun x220 =>
   if (setAt ([.int Ly a, .sl none 0] : List S) 1 c217).length = 2 then k i219 x220 else none else none) = k a y := by
 simp only [X1, hy, cond_false, ln0, ln1, Hw, HA, Hx, and_self, if_true];rw [show setAt [.int Ly a, .sl none 0] 1 [y] = [.int Ly a, y] from rfl]
 simp only [gx0, gx1, ob, Q2, ln0, ln1, Hw, HA, if_true]
end Vm
namespace Vm
open Go
end Vm
namespace Vm
open Go
theorem uq {z : Nat} {rows : List (List S)} {i : Nat} {fr : List S} (hi : i < rows.length) : (rows.set i fr).flatten = (rows.take i).flatten ++ (fr ++ (rows.drop (i + 1)).flatten) := by
 rw [List.set_eq_take_append_cons_drop, if_pos hi, EJ, FC]
theorem ur {rows : List (List S)} {i : Nat} (hi : i < rows.length) : rows.flatten = (rows.take i).flatten ++ (rows[i] ++ (rows.drop (i + 1)).flatten) := by
 conv => lhs; rw [<- List.take_append_drop i rows, EJ, List.drop_eq_getElem_cons hi, FC]
theorem Q0m {z d : Nat} {y : S} {rows : List (List S)} {bs : List Nat} {h : H} {row fr : List S} {br : List Nat} {i : Nat} (w : OutS z d y rows bs h) (hi : i < rows.length) (wr : RepL (Rep h d) row fr br) (hz : fr.length = z) (hd : br.Nodup) (hdis : ∀ a ∈ bs, a ∉ br) :
  ∃ b cs, y = .sl (some (b, 0)) rows.length /\ b ∈ bs /\ b < h.n /\ h.g b = .rw z cs /\ i * z + z <= cs.length /\
   ∃ bs', OutS z d y (rows.set i fr) bs' (h.put b (.rw z (setAt cs (i * z) row))) /\ ∀ c ∈ bs', c ∈ bs \/ c ∈ br := by
 have hrow : row.length = z := wr.len.trans hz
 rcases w.rep with ⟨⟨h3, h4⟩ | ⟨h3, h4⟩, h5⟩ | ⟨b, z', cs, rows', bss, h3, h4, h5, h6, h7, h8, h9, h10⟩
 · rw [<- h4] at h3; exact h3.elim
 ·injection h4 with h4
  subst h4;simp at hi
 ·injection h4 with h4
  subst h4;subst h3;subst h5;have hzz : z' = z := by
   rcases w.ty with hh | ⟨b', cs', hh, hg⟩
   · cases hh
   ·injection hh with hh _
    injection hh with hh
    injection hh with hh _
    subst hh;rw [h8] at hg
    injection hg
  subst hzz;have hcl := h10.len;rw [JU h9] at hcl;have hiz : i * z' + z' <= cs.length := by rw [hcl, <- Ew]; exact Nat.mul_le_mul_right _ hi
  refine ⟨b, cs, rfl, by simp, h6, h8, hiz, ?_⟩
  have hd2 := List.nodup_cons.1 w.nd;have w10 := h10;rw [ur hi] at w10;obtain ⟨a1, a2, b1, b2, e1, e2, w1, w2⟩ := w10.split;obtain ⟨a3, a4, b3, b4, e3, e4, w3, w4⟩ := w2.split;subst e3; subst e4; subst e1; subst e2;have l1 : a1.length = i * z' := by
   rw [w1.len, JU (z := z') (fun r hr => h9 r (List.mem_of_mem_take hr)), List.length_take, Nat.min_eq_left (by omega)]
  have l3 : a3.length = z' := w3.len.trans (h9 _ (DW hi));have hset : setAt (a1 ++ (a3 ++ a4)) (i * z') row = a1 ++ (row ++ a4) := by
   rw [V1 l1 hrow, <- l3, List.drop_left, List.append_assoc]
  rw [hset];have hnd := Da.1 hd2.2;have hnd2 := Da.1 hnd.2.1;have hg : ∀ c, c ≠ b -> (h.put b (.rw z' (a1 ++ (row ++ a4)))).g c = h.g c := fun c hc => QG hc
  have hlt := w.rep.lt;have fr1 : ∀ c, c ∈ b1 \/ c ∈ b4 -> c < (h.put b (.rw z' (a1 ++ (row ++ a4)))).n /\ (h.put b (.rw z' (a1 ++ (row ++ a4)))).g c = h.g c := fun c hc => by
   have hm : c ∈ b1 ++ (b3 ++ b4) := by rcases hc with hc | hc <;> simp [hc]
   exact ⟨by rw [Qq]; exact hlt c (by simp [hm]), hg c (fun hh => hd2.1 (hh ▸ hm))⟩
  refine ⟨b :: (b1 ++ (br ++ b4)), ⟨?_, ?_, ?_, ?_⟩, ?_⟩
  ·have := Rep.sl (d := d) (h := h.put b (.rw z' (a1 ++ (row ++ a4)))) (b := b) (z := z') (cs := a1 ++ (row ++ a4)) (rows := rows.set i fr) (bss := b1 ++ (br ++ b4)) (by rw [Qq]; exact h6) h7 (Z9 _ _ _) (by
    intro r hr
    rcases EU hr with hr | rfl
    · exact h9 r hr
    · exact hz) (by
    rw [uq (z := z') hi];refine (w1.frame fun c hc => fr1 c (.inl hc)).append ((wr.frame fun c hc => ⟨by rw [Qq]; exact wr.lt c hc, hg c (fun hh => hdis b (by simp) (hh ▸ hc))⟩).append (w4.frame fun c hc => fr1 c (.inr hc))))
   simpa using this
  ·refine List.nodup_cons.2 ⟨fun hh => ?_, ?_⟩
   ·rcases HK.1 hh with hh | hh
    · exact hd2.1 (by simp [hh])
    rcases HK.1 hh with hh | hh
    · exact hdis b (by simp) hh
    · exact hd2.1 (by simp [hh])
   ·refine Da.2 ⟨hnd.1, Da.2 ⟨hd, hnd2.2.1, fun x hx x' hx' hh => hdis x' (by simp [hx']) (hh ▸ hx)⟩, fun x hx x' hx' hh => ?_⟩
    rcases HK.1 hx' with hx' | hx'
    · exact hdis x (by simp [hx]) (hh ▸ hx')
    · exact hnd.2.2 x hx x' (by simp [hx']) hh
  · exact .inr ⟨b, a1 ++ (row ++ a4), by simp, Z9 _ _ _⟩
  ·intro r hr
   rcases EU hr with hr | rfl
   · exact w.len r hr
   · exact hz
  ·intro c hc
   rcases HH.1 hc with rfl | hc
   · exact .inl (by simp)
   rcases HK.1 hc with hc | hc
   · exact .inl (by simp [hc])
   rcases HK.1 hc with hc | hc
   · exact .inr hc
   · exact .inl (by simp [hc])
end Vm
namespace Vm
open Go
theorem Np (ps : List (List UInt8)) (l : List UInt8) : bss (ps ++ [l]) = bss ps ++ [pgr l] := by simp [bss]
theorem Q1e (ps : List (List UInt8)) (i : Nat) (l : List UInt8) : bss (ps.set i l) = (bss ps).set i (pgr l) := by simp [bss, List.map_set]
theorem Rb {h : H} {l : List UInt8} {b : Nat} {k : Nat} (w : BysW h (sv b 0 k) l b) : RepL (Rep h 1) [.sl (some (b, 0)) k] (pgr l) [b] := by
 have hk := w.len;have h1 : Rep h 1 (.sl (some (b, 0)) k) (.fs (bys l)) [b] := Own.rep (d := 0) (ob := some b) w;exact RepL.cons (bs := [b]) h1 .nil
theorem JW {R : Type} {y : S} (hy : isNo y = false) {k : List S -> Option R} : X1 (.s y) k = k [y] := by
 simp only [X1, hy, cond_false]
theorem kV {x y : S} : setAt [x] 0 [y] = [y] := id rfl
section
variable {all : List (List UInt8)} (hl : all.length <= lim) (hr : ∀ l ∈ all, l.length <= lim)
include hl hr
theorem yI : ∀ (rs : List (List UInt8)) (i : Nat) (h : H) (y : S) (bs : List Nat) (n0 : Nat), all.drop i = rs -> OutS 1 1 y (bss (all.take i)) bs h -> (∀ c ∈ bs, n0 <= c) -> n0 <= h.n ->
  ∃ h' y' bs', Lp.XY 0 [.s y, lv (bss all), iv Ly all.length, iv Ly i] h = some (.done [.s y'] h') /\ OutS 1 1 y' (bss all) bs' h' /\ (∀ c ∈ bs', n0 <= c) /\ h.n <= h'.n /\ ∀ c, c < n0 -> h'.g c = h.g c := by
 intro rs
 induction rs with
 | nil =>
  intro i h y bs n0 hi w hb hn;have := Zn hi;rw [G3, Q1, if_neg (by simp; omega), Q6]
  rw [Fz this] at w;exact ⟨h, y, bs, rfl, w, hb, Hx _, fun _ _ => rfl⟩
 | cons r rs ih =>
  intro i h y bs n0 hi w hb hn;have hl' := hl;unfold lim at hl';obtain ⟨g1, g2, g3⟩ := Zf hi;rw [G3, Q1, if_pos (by simp; omega), J3 g1]
  simp only [gx0, ob, QY];obtain ⟨v, h1, e1, w1, nn⟩ := Yt (m := r) (hr r (HU g1)) h.n;obtain ⟨e2, w2, u2, n2, x2⟩ := Jh e1 w1 nn;rw [e2];generalize h.over h1 = K at w2 u2 n2 x2 ⊢;rw [JW rfl, if_pos (by simp), kV]
  have wk : OutS 1 1 y (bss (all.take i)) bs K := w.frame fun c hc => by
   have := w.rep.lt c hc;exact ⟨by omega, u2.g c (by omega)⟩
  obtain ⟨h2, bs2, e3, w3, n3, f3, o3, q3, _⟩ := YS wk (Rb w2) rfl (by omega) (by simp) (fun c hc hh => by have := w.rep.lt c hc; have := HT.1 hh; omega) (by simp; unfold lim; omega)
  rw [e3, ob];dsimp only;rw [w64 (n := (i : Int) + 1) (by omega) (by omega), show (i : Int) + 1 = ((i + 1 : Nat) : Int) from by omega]
  rw [Kr (by simp [ZM, QR]; omega)]
  have hrow : bss (all.take (i + 1)) = bss (all.take i) ++ [pgr r] := by
   rw [Dj, g1, AH, Np]
  rw [<- hrow] at w3;have hb3 : ∀ c ∈ bs2, n0 <= c := fun c hc => by
   rcases f3 c hc with h1 | h1 | h1
   · omega
   · exact hb c h1
   · have := HT.1 h1; omega
  obtain ⟨h', y', bs', e4, w4, b4, n4, o4⟩ := ih (i + 1) h2 _ bs2 n0 g2 w3 hb3 (by omega)
  refine ⟨h', y', bs', e4, w4, b4, by omega, fun c hc => ?_⟩
  rw [o4 c hc, o3 c (by omega) (fun hh => by have := hb c hh; omega), u2.g c (by omega)]
theorem zx (n : Nat) : ∃ y h' bs, call Ev Fn.XY [lv (bss all)] (D n) = some (.s y, h') /\ OutS 1 1 y (bss all) bs h' /\ (∀ c ∈ bs, n <= c) /\ n <= h'.n := by
 obtain ⟨h', y', bs', e4, w4, b4, n4, o4⟩ := yI hl hr all 0 (D n) (.sl none 0) [] n (by simp) (by simpa [bss] using OutS.none) (by simp) (by simp)
 rw [Tz, XP, show iv Ly 0 = iv Ly ((0 : Nat) : Int) from rfl, e4, ob, Qc]
 simp only [gx0, ob];exact ⟨y', h', bs', rfl, w4, b4, n4⟩
theorem yE : ∀ (rs : List (List UInt8)) (i : Nat) (h : H) (y : S) (bs : List Nat) (n0 : Nat), all.drop i = rs -> OutS 1 1 y (bss (all.take i)) bs h -> (∀ c ∈ bs, n0 <= c) -> n0 <= h.n ->
  ∃ h' y' bs', Lp.Kf 0 [lv (bss all), .s y, iv Ly i] h = some (.done [.s y'] h') /\ OutS 1 1 y' (bss all) bs' h' /\ (∀ c ∈ bs', n0 <= c) /\ h.n <= h'.n /\ ∀ c, c < n0 -> h'.g c = h.g c := by
 intro rs
 induction rs with
 | nil =>
  intro i h y bs n0 hi w hb hn;have := Zn hi;rw [WV, Q1, if_neg (by simp; omega), Q6]
  rw [Fz this] at w;exact ⟨h, y, bs, rfl, w, hb, Hx _, fun _ _ => rfl⟩
 | cons r rs ih =>
  intro i h y bs n0 hi w hb hn;have hl' := hl;unfold lim at hl';obtain ⟨g1, g2, g3⟩ := Zf hi;rw [WV, Q1, if_pos (by simp; omega), J3 g1]
  simp only [gx0, ob, QY];obtain ⟨v, h1, e1, w1, nn⟩ := W6 (m := r) (hr r (HU g1)) h.n;obtain ⟨e2, w2, u2, n2, x2⟩ := Jh e1 w1 nn;rw [e2];generalize h.over h1 = K at w2 u2 n2 x2 ⊢;rw [JW rfl, if_pos (by simp), kV]
  have wk : OutS 1 1 y (bss (all.take i)) bs K := w.frame fun c hc => by
   have := w.rep.lt c hc;exact ⟨by omega, u2.g c (by omega)⟩
  obtain ⟨h2, bs2, e3, w3, n3, f3, o3, q3, _⟩ := YS wk (Rb w2) rfl (by omega) (by simp) (fun c hc hh => by have := w.rep.lt c hc; have := HT.1 hh; omega) (by simp; unfold lim; omega)
  rw [e3, ob];dsimp only;rw [w64 (n := (i : Int) + 1) (by omega) (by omega), show (i : Int) + 1 = ((i + 1 : Nat) : Int) from by omega]
  rw [Kr (by simp [ZM, QR]; omega)]
  have hrow : bss (all.take (i + 1)) = bss (all.take i) ++ [pgr r] := by
   rw [Dj, g1, AH, Np]
  rw [<- hrow] at w3;have hb3 : ∀ c ∈ bs2, n0 <= c := fun c hc => by
   rcases f3 c hc with h1 | h1 | h1
   · omega
   · exact hb c h1
   · have := HT.1 h1; omega
  obtain ⟨h', y', bs', e4, w4, b4, n4, o4⟩ := ih (i + 1) h2 _ bs2 n0 g2 w3 hb3 (by omega)
  refine ⟨h', y', bs', e4, w4, b4, by omega, fun c hc => ?_⟩
  rw [o4 c hc, o3 c (by omega) (fun hh => by have := hb c hh; omega), u2.g c (by omega)]
theorem uu (n : Nat) : ∃ y h' bs, call Ev Fn.Kf [lv (bss all)] (D n) = some (.s y, h') /\ OutS 1 1 y (bss all) bs h' /\ (∀ c ∈ bs, n <= c) /\ n <= h'.n := by
 have w0 : OutS 1 1 (.sl (some (n, 0)) 0) (bss ([] : List (List UInt8))) [n] ((D n).new 1 []) := ⟨by
  have := Rep.sl (d := 1) (h := (D n).new 1 []) (b := n) (z := 1) (cs := []) (rows := []) (bss := []) (by simp) (by omega) (QI (D n) _ _) (by simp) .nil
  exact this, by simp, .inr ⟨n, [], rfl, QI (D n) _ _⟩, by simp [bss]⟩
 obtain ⟨h', y', bs', e4, w4, b4, n4, o4⟩ := yE hl hr all 0 ((D n).new 1 []) (.sl (some (n, 0)) 0) [n] n (by simp) (by simpa using w0) (by simp) (by simp)
 rw [Tm, D_n, show iv Ly 0 = iv Ly ((0 : Nat) : Int) from rfl, e4, ob, Qc]
 simp only [gx0, ob];exact ⟨y', h', bs', rfl, w4, b4, by simp at n4; omega⟩
end
theorem pO {cl : Nat -> List V -> H -> Option (V × H)} {g : Nat} {off : Bool} {xs : List V} {h : H} {z d n : Nat} {y : S} {rows : List (List S)} {bs : List Nat} {h1 : H} (hn : h.n = n) (hc : cl g xs (D n) = some (.s y, h1)) (w : OutS z d y rows bs h1) (hb : ∀ c ∈ bs, n <= c) (hle : n <= h1.n) :
  ∃ h', (∀ (R : Type) (k : V -> H -> Option R), Qj cl g off xs h k = k (.s y) h') /\ Up h h' /\ h'.n = h1.n /\ OutS z d y rows bs h' /\ Zj h h' := by
 subst hn;have ov : ∀ h2 : H, h2.n = h1.n -> (∀ b, (h1.g b).cells.all ZL = true -> h2.g b = h1.g b) -> Up h (h.over h2) /\ (h.over h2).n = h1.n /\ OutS z d y rows bs (h.over h2) /\ Zj h (h.over h2) := fun h2 hn2 hg2 => by
  have hle2 : h.n <= h2.n := by omega
  refine ⟨Je hle2, by rw [Xb hle2, hn2], w.frame fun c hc => ?_, ⟨by rw [Xb hle2]; omega, fun b hb => .inr (Jg hb)⟩⟩
  have := w.rep.lt c hc;exact ⟨by rw [Xb hle2]; omega, by rw [KL (hb c hc)]; exact hg2 c (w.rep.scaB c hc)⟩
 cases off with
 | true =>
  obtain ⟨a1, a2, a3, a4⟩ := ov h1 rfl (fun _ _ => rfl)
  refine ⟨h.over h1, fun R k => ?_, a1, a2, a3, a4⟩
  unfold Qj;rw [hc, Vm.ob];unfold YV;rw [if_pos (.inl rfl)]; rfl
 | false =>
  obtain ⟨a1, a2, a3, a4⟩ := ov (Kk h.n h1) rfl (fun b hb => RL hb)
  refine ⟨h.over (Kk h.n h1), fun R k => ?_, a1, a2, a3, a4⟩
  unfold Qj;rw [hc, Vm.ob];unfold YV;rw [if_pos (.inr w.rep.sca)]; rfl
end Vm
namespace Vm
open Go
end Vm
namespace Vm
open Go
def edP (ps : List (List UInt8)) (e : RunD) : List (List UInt8) := if e.at_ = ps.length then ps ++ [e.l] else ps.set e.at_.toNat e.l
def edG : List (List UInt8) -> List RunD -> Int × List (List UInt8)
 | ps, [] => (0, ps)
 | ps, e :: es => if e.l.length ≠ 64 \/ inB e.at_ 0 ps.length = false then (1, []) else if e.at_ = 12 then (2, []) else edG (edP ps e) es
def edF (ps : List (List UInt8)) (es : List RunD) : Int × List RunD × List (List UInt8) := if 12 < ps.length then (2, [], []) else ((edG ps es).1, (if (edG ps es).1 = 0 then es else []), (edG ps es).2)
theorem Q19 {ps : List (List UInt8)} {e : RunD} (h1 : ps.length <= 12) (h2 : e.at_ ≠ 12) : (edP ps e).length <= 12 := by
 unfold edP
 split
 · rw [HO]; simp; omega
 · rw [HN]; exact h1
section
variable {all : List RunD} (hl : all.length <= maxLen) (hr : ∀ e ∈ all, e.l.length <= lim)
include hl hr
theorem xe : ∀ (rs : List RunD) (i : Nat) (h : H) (y : S) (bs : List Nat) (n0 : Nat), all.drop i = rs -> OutS 2 1 y (Z1 (all.take i)) bs h -> (∀ c ∈ bs, n0 <= c) -> n0 <= h.n -> all.length + 1 <= lim ->
  ∃ h' y' bs', Lp.XA 0 [.s y, lv (Z1 all), iv Ly all.length, iv Ly i] h = some (.done [.s y'] h') /\ OutS 2 1 y' (Z1 all) bs' h' /\ (∀ c ∈ bs', n0 <= c) /\ h.n <= h'.n /\ ∀ c, c < n0 -> h'.g c = h.g c := by
 intro rs
 induction rs with
 | nil =>
  intro i h y bs n0 hi w hb hn _;have := Zn hi;rw [US, Q1, if_neg (by simp; omega), Q6]
  rw [Fz this] at w;exact ⟨h, y, bs, rfl, w, hb, Hx _, fun _ _ => rfl⟩
 | cons r rs ih =>
  intro i h y bs n0 hi w hb hn hlm;have hlm' := hlm;unfold lim at hlm';obtain ⟨g1, g2, g3⟩ := Zf hi;rw [US, Q1, if_pos (by simp; omega), zj g1, qF]
  simp only [gx0, gx1, ob, Q2, QY];rw [if_pos (show ([_, _] : List S).length = 2 from rfl), RJ]
  have u1 : Up h ((h.new 0 [.int Ly 0, .sl none 0]).put h.n (.rw 0 [.int Ly r.at_, .fs (bys r.l)])) := uM;have gn : ((h.new 0 [.int Ly 0, .sl none 0]).put h.n (.rw 0 [.int Ly r.at_, .fs (bys r.l)])).n = h.n + 1 := Q1K;have gg : ((h.new 0 [.int Ly 0, .sl none 0]).put h.n (.rw 0 [.int Ly r.at_, .fs (bys r.l)])).g h.n = .rw 0 [.int Ly r.at_, .fs (bys r.l)] := zo;generalize (h.new 0 [.int Ly 0, .sl none 0]).put h.n (.rw 0 [.int Ly r.at_, .fs (bys r.l)]) = G at u1 gn gg ⊢;have ld : ∀ {o : Nat}, Qb G (pv h.n o) = ([.int Ly r.at_, .fs (bys r.l)] : List S)[o]? := fun {o} => by simp [Qb, H.cells, gn, gg, Blk.cells]
  simp only [ld, gx0, gx1, ob, Q2];rw [Qa Xc QE, ob, Z2];obtain ⟨v, h1, e1, w1, nn⟩ := Yt (m := r.l) (hr r (HU g1)) G.n;obtain ⟨e2, w2, u2, n2, x2⟩ := Jh e1 w1 nn;rw [e2];generalize G.over h1 = K at w2 u2 n2 x2 ⊢;rw [ZB x2];simp only [GZ, ZL, cond_true];rw [Rx rfl];rw [ZB (Zj.new x2)];have wk : OutS 2 1 y (Z1 (all.take i)) bs K := w.frame fun c hc => by
   have := w.rep.lt c hc;exact ⟨by omega, (u2.g c (by omega)).trans (u1.g c this)⟩
  have wr := Bk (a := r.at_) (N := 0) w2;obtain ⟨h2, bs2, e3, w3, n3, f3, o3, q3, _⟩ := YS wk wr rfl (by omega) (by simp) (fun c hc hh => by have := w.rep.lt c hc; have := HT.1 hh; omega) (by simp; unfold lim; omega)
  rw [e3, ob];dsimp only;rw [w64 (n := (i : Int) + 1) (by omega) (by omega), show (i : Int) + 1 = ((i + 1 : Nat) : Int) from by omega]
  rw [Kr (by simp [ZM, QR]; omega)]
  have hrow : Z1 (all.take (i + 1)) = Z1 (all.take i) ++ [RunD.cs ⟨r.at_, r.l⟩] := by
   rw [Dj, g1, AH, M1]
  rw [<- hrow] at w3;have hb3 : ∀ c ∈ bs2, n0 <= c := fun c hc => by
   rcases f3 c hc with h1 | h1 | h1
   · omega
   · exact hb c h1
   · have := HT.1 h1; omega
  obtain ⟨h', y', bs', e4, w4, b4, n4, o4⟩ := ih (i + 1) h2 _ bs2 n0 g2 w3 hb3 (by omega) hlm
  refine ⟨h', y', bs', e4, w4, b4, by omega, fun c hc => ?_⟩
  rw [o4 c hc, o3 c (by omega) (fun hh => by have := hb c hh; omega), u2.g c (by omega), u1.g c (by omega)]
theorem jr (hlm : all.length + 1 <= lim) (n : Nat) : ∃ y h' bs, call Ev Fn.XA [lv (Z1 all)] (D n) = some (.s y, h') /\ OutS 2 1 y (Z1 all) bs h' /\ (∀ c ∈ bs, n <= c) /\ n <= h'.n := by
 obtain ⟨h', y', bs', e4, w4, b4, n4, o4⟩ := xe hl hr all 0 (D n) (.sl none 0) [] n (by simp) (by simpa [Z1] using OutS.none) (by simp) (by simp) hlm
 rw [Vs, GC, show iv Ly 0 = iv Ly ((0 : Nat) : Int) from rfl, e4, ob, Qc]
 simp only [gx0, ob];exact ⟨y', h', bs', rfl, w4, b4, n4⟩
end
theorem Gp {z d t : Nat} {y : S} {rows : List (List S)} {bs : List Nat} {h : H} (w : OutS z d y rows bs h) : Xi (.sl t) (.s y) = some (iv Ly (rows.length : Int)) := by
 rcases w.rep with ⟨⟨h1, h2⟩ | ⟨h1, h2⟩, _⟩ | ⟨b, z', cs, rows', bss, h1, h2, _⟩
 · rw [<- h2] at h1; exact h1.elim
 · injection h2 with h2; subst h1; subst h2; rfl
 · injection h2 with h2; subst h1; subst h2; rfl
theorem VK {R : Type} {y : S} {ps : List (List UInt8)} {bs : List Nat} {h : H} {l : List UInt8} {c : Nat} {i : Nat} {f : H -> Option R} (w : OutS 1 1 y (bss ps) bs h) (hi : i < ps.length) (wb : BysW h (sv c 0 l.length) l c) (hc : c ∉ bs) :
  ∃ h' bs', (Qd 1 (.s y) (iv Ly (i : Int)) fun v => stK 1 h v (sv c 0 l.length) f) = f h' /\ OutS 1 1 y (bss (ps.set i l)) bs' h' /\ h'.n = h.n /\ (∀ a ∈ bs', a ∈ bs \/ a = c) /\ (∀ a, a ∉ bs -> h'.g a = h.g a) /\ ∃ b cs, b ∈ bs /\ b < h.n /\ h.g b = .rw 1 cs /\ h'.g b = .rw 1 (setAt cs (i * 1) [.sl (some (c, 0)) l.length]) /\ i < cs.length := by
 obtain ⟨b, cs, rfl, hb, hbn, hg, hle, bs', w2, hm⟩ := Q0m w (by simpa using hi) (Rb wb) rfl (by simp) (fun a ha hh => hc (by rw [<- HT.1 hh]; exact ha))
 rw [XP, Z3 hi, Zq (z := 1) (e := 1) (o := i * 1) (b := b) (cs := cs) (r := [.sl (some (c, 0)) l.length]) hbn hg (.inl ⟨_, rfl, rfl, rfl⟩) rfl (by omega)]
 refine ⟨_, bs', rfl, by rw [Q1e, <- XP ps]; exact w2, Qq _ _ _, fun a ha => ?_, fun a ha => QG (fun hh => ha (hh ▸ hb)), b, cs, hb, hbn, hg, Z9 _ _ _, by omega⟩
 rcases hm a ha with h1 | h1
 · exact .inl h1
 · exact .inr (HT.1 h1)
theorem zZ {h h' : H} {l : List V} {b c k i : Nat} {cs : List S} (hb : b < h.n) (hX : (h.g b).cells.all (QR h.n) = true) (hg : h'.g b = .rw 1 (setAt cs (i * 1) [.sl (some (c, 0)) k])) (hi : i < cs.length) (hc : h.n <= c) : tidy h l h' = h' := Gl hb hg (by
 rw [Dt];intro hh;have := Fw.1 hh (.sl (some (c, 0)) k) (by unfold setAt; simp)
 simp [QR] at this; omega) hX
end Vm
namespace Vm
open Go
theorem Q0e (s : ByteArray) : ∀ (q i : Nat) (r : List UInt8), i + q = s.size -> AJ s i r = r.reverse ++ s.data.toList.drop i := by
 intro q
 induction q with
 | zero =>
  intro i r hi;rw [AJ, if_neg (by omega), List.drop_of_length_le (by simp; omega)]
  simp
 | succ q ih =>
  intro i r hi;rw [AJ, if_pos (by omega), ih (i + 1) _ (by omega), qm (i := i) (by omega)]
  simp
theorem xu (s : ByteArray) : s.toList = s.data.toList := by
 unfold ByteArray.toList;rw [Q0e s s.size 0 [] (by omega)]
 simp
theorem PO {a b : List UInt8} : ((⟨a.toArray⟩ : ByteArray).toList == (⟨b.toArray⟩ : ByteArray).toList) = decide (a = b) := by
 rw [xu, xu]
 by_cases h : a = b <;> simp [h]
end Vm
namespace Vm
open Go
theorem Gs {h : H} {v : V} {l : List UInt8} {b : Nat} (w : BysW h v l b) (hl : l.length <= lim) : Mg h v = some (.s (.str ⟨l.toArray⟩)) := by
 obtain ⟨rfl, w2, w3⟩ := w;have h1 : Z6 1 h (sv b 0 l.length) = some (l.map QA) := by
  have hc : h.cells b = l.map QA := by unfold H.cells; rw [if_pos w2, w3]; rfl
  simp only [Z6, hc];rw [if_pos ⟨w2, by simp⟩, HX, Fz (by simp)]
 simp only [Mg, h1, HC, Ry];rw [if_pos hl]
theorem RepL.get {R : S -> S -> List Nat -> Prop} {ys fs : List S} {bs : List Nat} (w : RepL R ys fs bs) : ∀ {i : Nat} {f : S}, fs[i]? = some f -> ∃ y b, ys[i]? = some y /\ R y f b /\ ∀ a ∈ b, a ∈ bs := by
 induction w with
 | nil => intro i f h; simp at h
 | @cons y f0 b0 ys fs bss h1 h2 ih =>
  intro i f h
  cases i with
  | zero =>
   simp at h; subst h;exact ⟨y, b0, rfl, h1, fun a ha => by simp [ha]⟩
  | succ i =>
   rw [FP] at h;obtain ⟨y', b', e1, e2, e3⟩ := ih h;exact ⟨y', b', by rw [FP]; exact e1, e2, fun a ha => by simp [e3 a ha]⟩
theorem zT (ps : List (List UInt8)) : (bss ps).flatten = ps.map fun l => S.fs (bys l) := by
 induction ps with
 | nil => rfl
 | cons l ps ih =>
  show pgr l ++ (bss ps).flatten = _;rw [ih]; rfl
theorem B2 {R : Type} {y : S} {ps : List (List UInt8)} {bs : List Nat} {h : H} {i : Nat} {l : List UInt8} (w : OutS 1 1 y (bss ps) bs h) (hi : ps[i]? = some l) (hne : l ≠ []) :
  ∃ c, c ∈ bs /\ BysW h (sv c 0 l.length) l c /\ ∀ {w0 : Nat} {zz : List S} {dd : TD} {bb : Bool} {kd : IntKind} {f : V -> Option R}, (Qd 1 (.s y) (iv kd (i : Int)) fun v => ldK (.one .f) ⟨1, w0, zz, false, dd, bb⟩ h v f) = f (sv c 0 l.length) := by
 have hil : i < ps.length := (HF.1 hi).1
 rcases w.rep with ⟨⟨h3, h4⟩ | ⟨h3, h4⟩, h5⟩ | ⟨b, z', cs, rows', bss', h3, h4, h5, h6, h7, h8, h9, h10⟩
 · rw [<- h4] at h3; exact h3.elim
 ·injection h4 with h4
  have := congrArg EB h4;simp at this;subst this;simp at hil
 ·injection h4 with h4
  subst h4;subst h3;rw [zT] at h10;obtain ⟨yp, bp, g1, g2, g3⟩ := h10.get (i := i) (f := .fs (bys l)) (by simp [hi])
  rcases g2.of_bys with ⟨h1, _⟩ | ⟨c, h1, h2⟩
  · exact absurd h1 hne
  ·have hv := h1.v
   injection hv with hv
   subst hv;refine ⟨c, by rw [h5]; simp [g3 c (by rw [h2]; simp)], h1, ?_⟩
   intro w0 zz dd bb kd f;rw [XP, Z3 hil];show ldT _ h (pv b (i * 1)) f = _;unfold ldT;have : Qb h (pv b (i * 1)) = some (.sl (some (c, 0)) l.length) := by
    simp [Qb, H.cells, h6, h8, Blk.cells, g1]
   simp only [cond_false];rw [this, ob]
structure Dk (n0 q : Nat) (y1 y2 : S) (ps : List (List UInt8)) (es : List RunD) (b1 b2 : List Nat) (h : H) : Prop where
 p : OutS 1 1 y1 (bss ps) b1 h
 e : OutS 2 1 y2 (Z1 es) b2 h
 d : ∀ a ∈ b1, a ∉ b2
 l1 : ∀ a ∈ b1, a ≠ q /\ n0 <= a
 l2 : ∀ a ∈ b2, a ≠ q /\ n0 <= a
 qn : n0 <= q /\ q < h.n
 g : h.g q = .rw 0 [y1, y2]
theorem Dk.ld {n0 q : Nat} {y1 y2 : S} {ps : List (List UInt8)} {es : List RunD} {b1 b2 : List Nat} {h : H} (w : Dk n0 q y1 y2 ps es b1 b2 h) {o : Nat} : Qb h (pv q o) = ([y1, y2] : List S)[o]? := by
 simp [Qb, H.cells, w.qn.2, w.g, Blk.cells]
theorem Dk.bel {n0 q : Nat} {y1 y2 : S} {ps : List (List UInt8)} {es : List RunD} {b1 b2 : List Nat} {h : H} (w : Dk n0 q y1 y2 ps es b1 b2 h) : (h.g q).cells.all (QR h.n) = true := by
 rw [w.g];simp only [Blk.cells, HG, AK, Ds];rw [w.e.rep.top w.e.rep.lt, w.p.rep.top w.p.rep.lt]; rfl
theorem Dk.frame {n0 q : Nat} {y1 y2 : S} {ps : List (List UInt8)} {es : List RunD} {b1 b2 : List Nat} {h h' : H} (w : Dk n0 q y1 y2 ps es b1 b2 h) (hn : h.n <= h'.n) (hg : ∀ a, a < h.n -> (a ∈ b1 \/ a ∈ b2 \/ a = q) -> h'.g a = h.g a) : Dk n0 q y1 y2 ps es b1 b2 h' :=
 ⟨w.p.frame fun a ha => by have := w.p.rep.lt a ha; exact ⟨by omega, hg a this (.inl ha)⟩, w.e.frame fun a ha => by have := w.e.rep.lt a ha; exact ⟨by omega, hg a this (.inr (.inl ha))⟩, w.d, w.l1, w.l2, ⟨w.qn.1, HJ w.qn.2 hn⟩, (hg q w.qn.2 (.inr (.inr rfl))).trans w.g⟩
theorem Q1D {n0 q : Nat} {h : H} {y1 y2 : S} {ps : List (List UInt8)} {es : List RunD} {b1 b2 : List Nat} (w : Dk n0 q y1 y2 ps es b1 b2 h) {p c : Nat} {l m : List UInt8} (hp : ps[p]? = some l) (hl : l ≠ []) (hll : l.length <= lim) (wm : BysW h (sv c 0 m.length) m c) (hm : m.length <= lim) (hcq : c ≠ q) (hc1 : c ∉ b1) (hc2 : c ∉ b2) (hes : es.length <= 1000) (hpl : ps.length <= 1000) (hne : l ≠ m) :
  ∃ h' y2' b1' b2', call Ev Fn.UY [pv q 0, iv Ly p, sv c 0 m.length] h = some (.tup [], h') /\ Dk n0 q y1 y2' (ps.set p m) (es ++ [⟨p, m⟩]) b1' b2' h' /\ h.n <= h'.n /\ (∀ a, a < h.n -> a ∉ b1 -> a ∉ b2 -> a ≠ q -> h'.g a = h.g a) /\ h'.g q = .rw 0 [y1, y2'] /\ (∀ N, N <= h.n -> QR N y2' = false) /\ (∀ a, a ∈ b1' \/ a ∈ b2' -> a ∈ b1 \/ a ∈ b2 \/ h.n <= a) := by
 have hpn : p < ps.length := (HF.1 hp).1;rw [BG];simp only [Hw, w.ld, gx0, ob];rw [Gp w.p, ob, XP];simp only [Q3, Q2];rw [Q1, if_neg (by simp; omega)]
 obtain ⟨cp, hcp, wp, gp⟩ := B2 w.p hp hl;rw [gp, Gs wp hll, ob];simp only [Q3, Z8];rw [Gs wm hm, ob];simp only [Q3, Z8];rw [Q1, PO, if_neg (by simpa using hne)]
 rw [Qa (Jd (ob := some c) wm) QE, ob, Z2];obtain ⟨v, k1, e1, w1, nn⟩ := Yt (m := m) hm h.n;obtain ⟨e3, wb, u2, n2, x2⟩ := Jh e1 w1 nn;rw [e3];generalize h.over k1 = K at wb u2 n2 x2 ⊢;rw [ZB x2];simp only [GZ, ZL, cond_true];have hqn := w.qn;have wk : OutS 1 1 y1 (bss ps) b1 K := w.p.frame fun a ha => by
  have := w.p.rep.lt a ha;exact ⟨by omega, u2.g a this⟩
 obtain ⟨h3, bs3, e4, w4, n4, m4, o4, _⟩ := VK (R := V × H) (i := p) (f := fun h128 => Jn.JR h128 q 0 (sv c 0 m.length) (p : Int)) wk hpn wb (fun hh => by have := w.p.rep.lt _ hh; omega)
 rw [e4];unfold Jn.JR;have g3 : ∀ a, a < h.n -> a ∉ b1 -> h3.g a = h.g a := fun a ha hb => (o4 a hb).trans (u2.g a ha)
 have hq3 : h3.g q = .rw 0 [y1, y2] := (g3 q hqn.2 (fun hh => (w.l1 q hh).1 rfl)).trans w.g
 have ld3 : ∀ {o : Nat}, Qb h3 (pv q o) = ([y1, y2] : List S)[o]? := fun {o} => by
  have : q < h3.n := by omega
  simp [Qb, H.cells, this, hq3, Blk.cells]
 simp only [Hw, ld3, gx0, gx1, ob];have wm3 : BysW h3 (sv c 0 m.length) m c := ⟨rfl, by have := wm.n; omega, (g3 c wm.n hc1).trans wm.g⟩
 rw [Qa (Jd (ob := some c) wm3) QE, ob, Z2];obtain ⟨v, k5, e5, w5, nn5⟩ := Yt (m := m) hm h3.n;obtain ⟨e6, wb6, u6, n6, x6⟩ := Jh e5 w5 nn5;rw [e6];generalize h3.over k5 = K2 at wb6 u6 n6 x6 ⊢;rw [ZB x6, Rx rfl, ZB (Zj.new x6)];have wk6 : OutS 2 1 y2 (Z1 es) b2 K2 := w.e.frame fun a ha => by
  have := w.e.rep.lt a ha;exact ⟨by omega, (u6.g a (by omega)).trans (g3 a this (fun hh => w.d a hh ha))⟩
 have wr := Bk (a := (p : Int)) (N := 0) wb6;obtain ⟨h7, bs7, e7, w7, n7, f7, o7, q7, _⟩ := YS wk6 wr rfl (by omega) (by simp) (fun a ha hh => by have := w.e.rep.lt a ha; have := HT.1 hh; omega) (by simp; unfold lim; omega)
 rw [e7, ob];dsimp only;have kq : h7.g q = .rw 0 [y1, y2] := by rw [o7 q (by omega) (fun hh => (w.l2 q hh).1 rfl), u6.g q (by omega)]; exact hq3
 rw [Zq (z := 1) (e := 0) (o := 1) (b := q) (cs := [y1, y2]) (r := [.sl (some (K2.n + 1, 0)) ((Z1 es).length + 1)]) (by omega) kq (.inl ⟨_, rfl, rfl, rfl⟩) rfl (by simp)]
 rw [show setAt [y1, y2] 1 [S.sl (some (K2.n + 1, 0)) ((Z1 es).length + 1)] = [y1, .sl (some (K2.n + 1, 0)) ((Z1 es).length + 1)] from rfl]
 rw [<- M1] at w7;have f7' : ∀ a ∈ bs7, a ∈ b2 \/ h3.n <= a := fun a ha => by
  rcases f7 a ha with h1 | h1 | h1
  · right; omega
  · exact .inl h1
  · have := HT.1 h1; right; omega
 have m4' : ∀ a ∈ bs3, a ∈ b1 \/ (h.n <= a /\ a < h3.n) := fun a ha => by
  rcases m4 a ha with h1 | h1
  · exact .inl h1
  · right; omega
 refine ⟨_, _, bs3, bs7, rfl, ⟨w4.frame fun a ha => ?_, w7.frame fun a ha => ⟨by rw [Qq]; exact w7.rep.lt a ha, QG ?_⟩, fun a ha hh => ?_, fun a ha => ?_, fun a ha => ?_, ⟨hqn.1, by rw [Qq]; omega⟩, Z9 _ _ _⟩, by rw [Qq]; omega, fun a ha h1 h2 h3' => ?_, Z9 _ _ _, fun N hN => by simp [QR]; omega, fun a ha => ?_⟩
 ·have hlt := w4.rep.lt a ha
  have haq : a ≠ q := by
   rcases m4' a ha with h1 | h1
   · exact (w.l1 a h1).1
   · omega
  have hab : a ∉ b2 := by
   rcases m4' a ha with h1 | h1
   · exact w.d a h1
   · intro hh; have := w.e.rep.lt a hh; omega
  exact ⟨by rw [Qq]; omega, by rw [QG haq, o7 a (by omega) hab, u6.g a (by omega)]⟩
 ·rcases f7' a ha with h1 | h1
  · exact (w.l2 a h1).1
  · omega
 ·rcases m4' a ha with h1 | h1
  ·rcases f7' a hh with h2 | h2
   · exact w.d a h1 h2
   · have := w.p.rep.lt a h1; omega
  ·rcases f7' a hh with h2 | h2
   · have := w.e.rep.lt a h2; omega
   · omega
 ·rcases m4' a ha with h1 | h1
  · exact w.l1 a h1
  · have := w.qn; omega
 ·rcases f7' a ha with h1 | h1
  · exact w.l2 a h1
  · have := w.qn; omega
 ·rw [QG h3', o7 a (by omega) h2, u6.g a (by omega)]
  exact g3 a ha h1
 ·rcases ha with ha | ha
  ·rcases m4' a ha with h1 | h1
   · exact .inl h1
   · exact .inr (.inr h1.1)
  ·rcases f7' a ha with h1 | h1
   · exact .inr (.inl h1)
   · right; right; omega
theorem jV {n0 q : Nat} {h : H} {y1 y2 : S} {ps : List (List UInt8)} {es : List RunD} {b1 b2 : List Nat} (w : Dk n0 q y1 y2 ps es b1 b2 h) {p c : Nat} {l m : List UInt8} (hp : ps[p]? = some l) (hl : l ≠ []) (hll : l.length <= lim) (wm : BysW h (sv c 0 m.length) m c) (hm : m.length <= lim) (hcq : c ≠ q) (hc1 : c ∉ b1) (hc2 : c ∉ b2) (hes : es.length <= 1000) (hpl : ps.length <= 1000) (hne : l ≠ m) :
  ∃ h' y2' b1' b2', call Ev Fn.Xy [pv q 0, iv Ly p, sv c 0 m.length] h = some (.tup [], h') /\ Dk n0 q y1 y2' (ps.set p m) (es ++ [⟨p, m⟩]) b1' b2' h' /\ h.n <= h'.n /\ (∀ a, a < h.n -> a ∉ b1 -> a ∉ b2 -> a ≠ q -> h'.g a = h.g a) /\ h'.g q = .rw 0 [y1, y2'] /\ (∀ N, N <= h.n -> QR N y2' = false) /\ (∀ a, a ∈ b1' \/ a ∈ b2' -> a ∈ b1 \/ a ∈ b2 \/ h.n <= a) := by
 have hpn : p < ps.length := (HF.1 hp).1;rw [W7];simp only [Hw, w.ld, gx0, ob];rw [Gp w.p, ob, XP];simp only [Q3, Q2];rw [Q1, if_neg (by simp; omega)]
 obtain ⟨cp, hcp, wp, gp⟩ := B2 w.p hp hl;rw [gp, Gs wp hll, ob];simp only [Q3, Z8];rw [Gs wm hm, ob];simp only [Q3, Z8];rw [Q1, PO, if_neg (by simpa using hne)]
 rw [Qa (Jd (ob := some c) wm) QE, ob, Z2];obtain ⟨v, k1, e1, w1, nn⟩ := W6 (m := m) hm h.n;obtain ⟨e3, wb, u2, n2, x2⟩ := Jh e1 w1 nn;rw [e3];generalize h.over k1 = K at wb u2 n2 x2 ⊢;rw [ZB x2];simp only [GZ, ZL, cond_true];have hqn := w.qn;have wk : OutS 1 1 y1 (bss ps) b1 K := w.p.frame fun a ha => by
  have := w.p.rep.lt a ha;exact ⟨by omega, u2.g a this⟩
 obtain ⟨h3, bs3, e4, w4, n4, m4, o4, _⟩ := VK (R := V × H) (i := p) (f := fun h128 => Jn.JX h128 q 0 (sv c 0 m.length) (p : Int)) wk hpn wb (fun hh => by have := w.p.rep.lt _ hh; omega)
 rw [e4];unfold Jn.JX;have g3 : ∀ a, a < h.n -> a ∉ b1 -> h3.g a = h.g a := fun a ha hb => (o4 a hb).trans (u2.g a ha)
 have hq3 : h3.g q = .rw 0 [y1, y2] := (g3 q hqn.2 (fun hh => (w.l1 q hh).1 rfl)).trans w.g
 have ld3 : ∀ {o : Nat}, Qb h3 (pv q o) = ([y1, y2] : List S)[o]? := fun {o} => by
  have : q < h3.n := by omega
  simp [Qb, H.cells, this, hq3, Blk.cells]
 simp only [Hw, ld3, gx0, gx1, ob];have wm3 : BysW h3 (sv c 0 m.length) m c := ⟨rfl, by have := wm.n; omega, (g3 c wm.n hc1).trans wm.g⟩
 rw [Qa (Jd (ob := some c) wm3) QE, ob, Z2];obtain ⟨v, k5, e5, w5, nn5⟩ := W6 (m := m) hm h3.n;obtain ⟨e6, wb6, u6, n6, x6⟩ := Jh e5 w5 nn5;rw [e6];generalize h3.over k5 = K2 at wb6 u6 n6 x6 ⊢;rw [ZB x6, Rx rfl, ZB (Zj.new x6)];have wk6 : OutS 2 1 y2 (Z1 es) b2 K2 := w.e.frame fun a ha => by
  have := w.e.rep.lt a ha;exact ⟨by omega, (u6.g a (by omega)).trans (g3 a this (fun hh => w.d a hh ha))⟩
 have wr := Bk (a := (p : Int)) (N := 0) wb6;obtain ⟨h7, bs7, e7, w7, n7, f7, o7, q7, _⟩ := YS wk6 wr rfl (by omega) (by simp) (fun a ha hh => by have := w.e.rep.lt a ha; have := HT.1 hh; omega) (by simp; unfold lim; omega)
 rw [e7, ob];dsimp only;have kq : h7.g q = .rw 0 [y1, y2] := by rw [o7 q (by omega) (fun hh => (w.l2 q hh).1 rfl), u6.g q (by omega)]; exact hq3
 rw [Zq (z := 1) (e := 0) (o := 1) (b := q) (cs := [y1, y2]) (r := [.sl (some (K2.n + 1, 0)) ((Z1 es).length + 1)]) (by omega) kq (.inl ⟨_, rfl, rfl, rfl⟩) rfl (by simp)]
 rw [show setAt [y1, y2] 1 [S.sl (some (K2.n + 1, 0)) ((Z1 es).length + 1)] = [y1, .sl (some (K2.n + 1, 0)) ((Z1 es).length + 1)] from rfl]
 rw [<- M1] at w7;have f7' : ∀ a ∈ bs7, a ∈ b2 \/ h3.n <= a := fun a ha => by
  rcases f7 a ha with h1 | h1 | h1
  · right; omega
  · exact .inl h1
  · have := HT.1 h1; right; omega
 have m4' : ∀ a ∈ bs3, a ∈ b1 \/ (h.n <= a /\ a < h3.n) := fun a ha => by
  rcases m4 a ha with h1 | h1
  · exact .inl h1
  · right; omega
 refine ⟨_, _, bs3, bs7, rfl, ⟨w4.frame fun a ha => ?_, w7.frame fun a ha => ⟨by rw [Qq]; exact w7.rep.lt a ha, QG ?_⟩, fun a ha hh => ?_, fun a ha => ?_, fun a ha => ?_, ⟨hqn.1, by rw [Qq]; omega⟩, Z9 _ _ _⟩, by rw [Qq]; omega, fun a ha h1 h2 h3' => ?_, Z9 _ _ _, fun N hN => by simp [QR]; omega, fun a ha => ?_⟩
 ·have hlt := w4.rep.lt a ha
  have haq : a ≠ q := by
   rcases m4' a ha with h1 | h1
   · exact (w.l1 a h1).1
   · omega
  have hab : a ∉ b2 := by
   rcases m4' a ha with h1 | h1
   · exact w.d a h1
   · intro hh; have := w.e.rep.lt a hh; omega
  exact ⟨by rw [Qq]; omega, by rw [QG haq, o7 a (by omega) hab, u6.g a (by omega)]⟩
 ·rcases f7' a ha with h1 | h1
  · exact (w.l2 a h1).1
  · omega
 ·rcases m4' a ha with h1 | h1
  ·rcases f7' a hh with h2 | h2
   · exact w.d a h1 h2
   · have := w.p.rep.lt a h1; omega
  ·rcases f7' a hh with h2 | h2
   · have := w.e.rep.lt a h2; omega
   · omega
 ·rcases m4' a ha with h1 | h1
  · exact w.l1 a h1
  · have := w.qn; omega
 ·rcases f7' a ha with h1 | h1
  · exact w.l2 a h1
  · have := w.qn; omega
 ·rw [QG h3', o7 a (by omega) h2, u6.g a (by omega)]
  exact g3 a ha h1
 ·rcases ha with ha | ha
  ·rcases m4' a ha with h1 | h1
   · exact .inl h1
   · exact .inr (.inr h1.1)
  ·rcases f7' a ha with h1 | h1
   · exact .inr (.inl h1)
   · right; right; omega
end Vm
namespace Vm
open Go
theorem kz {ps : List (List UInt8)} {p k : Nat} {l : List UInt8} (w : CellAt ps p k l) : l ≠ Z4 l k := by
 intro e;have := (Bx w.l w.len.2.2.1).2.2;rw [<- e, w.h] at this
 cases this
theorem CellAt.drop {ps : List (List UInt8)} {p k a b : Nat} {l l2 : List UInt8} (w : CellAt ps p k l) (w2 : CellAt ps a b l2) (hne : ¬ (a = p /\ b = k)) : ∃ l3, CellAt (ps.set p (Z4 l k)) a b l3 := by
 by_cases hap : a = p
 ·subst hap
  have : l2 = l := by have h1 := w.p; rw [w2.p] at h1; injection h1
  subst this;obtain ⟨d1, d2, d3⟩ := Bx w.l w.len.2.2.1;have hlt : a < ps.length := (HF.1 w.p).1;refine ⟨Z4 l2 k, by rw [List.getElem?_set]; simp [hlt], d1, ?_⟩
  rw [(d2 b w2.len.2.2.2 (by omega)).1]; exact w2.h
 · exact ⟨l2, by rw [List.getElem?_set]; rw [if_neg (fun e => hap e.symm)]; exact w2.p, w2.l, w2.h⟩
end Vm
namespace Vm
open Go
theorem MD {e b : Nat} {h : H} {x y z : S} (hb : b < h.n) (hg : h.g b = .rw e [x, y, z]) : Qp 3 h (pv b 0) = some [x, y, z] := Xh hb hg (by simp)
theorem uS {R : Type} {h : H} {x y z a b c : S} {k : H -> Option R} : stK 3 (h.new 0 [a, b, c]) (pv h.n 0) (.agg [x, y, z]) k = k ((h.new 0 [a, b, c]).put h.n (.rw 0 [x, y, z])) :=
 Zq (z := 3) (e := 0) (o := 0) (b := h.n) (cs := [a, b, c]) (r := [x, y, z]) (by simp) (QI _ _ _) (.inr rfl) rfl (by simp)
end Vm
namespace Vm
open Go
structure Src (b : Nat) (l : List UInt8) (a : Nat) (h : H) : Prop where
 n : b < h.n
 g : h.g b = .rw 0 [.fs (bys l), .int Ly a]
structure Dr (b : Nat) (l : List UInt8) (a N : Nat) (h h' : H) : Prop where
 ex : ∃ a', Src b l a' h' /\ a' <= a + N
 n : h.n <= h'.n
 o : ∀ c, c < h.n -> c ≠ b -> h'.g c = h.g c
theorem Src.mono {b : Nat} {l : List UInt8} {a : Nat} {h h' : H} (w : Src b l a h) (hn : h.n <= h'.n) (hg : h'.g b = h.g b) : Src b l a h' := ⟨by have := w.n; omega, hg.trans w.g⟩
theorem Src.up {b : Nat} {l : List UInt8} {a : Nat} {h h' : H} (w : Src b l a h) (u : Up h h') : Src b l a h' := w.mono u.n (u.g b w.n)
theorem Dr.tidy {b : Nat} {l : List UInt8} {a N : Nat} {h h' : H} (hb : b < h.n) (w : Dr b l a N h h') (vs : List V) : Dr b l a N h (Vm.tidy h vs h') := by
 unfold Vm.tidy
 split
 ·obtain ⟨a', w1, w2⟩ := w.ex
  exact ⟨⟨a', ⟨hb, by simp only [if_pos hb]; exact w1.g⟩, w2⟩, Hx _, fun c hc hcb => by simp only [if_pos hc]; exact w.o c hc hcb⟩
 · exact w
theorem Dr.refl {b : Nat} {l : List UInt8} {a : Nat} {h : H} (w : Src b l a h) : Dr b l a 0 h h := ⟨⟨a, w, by omega⟩, Hx _, fun _ _ _ => rfl⟩
theorem Dr.up {b : Nat} {l : List UInt8} {a N : Nat} {h h' h'' : H} (w : Dr b l a N h h') (u : Up h' h'') : Dr b l a N h h'' := by
 obtain ⟨a', w1, w2⟩ := w.ex;exact ⟨⟨a', w1.up u, w2⟩, HL w.n u.n, fun c hc hcb => (u.g c (HJ hc w.n)).trans (w.o c hc hcb)⟩
theorem Gu {t : Nat} {a b : Int} (ha : 0 <= a) (hb : 0 < b) : bin Ev .rem t (iv Ly a) (iv Ly b) = some (iv Ly (a % b)) := by
 simp only [bin, Ns, if_true];rw [if_neg (by omega), Int.tmod_eq_emod_of_nonneg ha]
theorem kK {t : Nat} {a b : Int} (ha : 0 <= a) (hb : 0 < b) (h : a < 9223372036854775808) : bin Ev .quo t (iv Ly a) (iv Ly b) = some (iv Ly (a / b)) := by
 have h1 : a / b <= a := Int.ediv_le_self _ ha;have h2 : 0 <= a / b := Int.ediv_nonneg ha (by omega)
 simp only [bin, Ns, if_true];rw [if_neg (by omega), Int.tdiv_eq_ediv_of_nonneg ha, w64 (by omega) (by omega)]
theorem Tb {R : Type} {z : Nat} {rows : List (List S)} {k : IntKind} {j : Int} {f : V -> Option R} : Qd z (.s (.fs rows)) (iv k j) f = QB z rows j fun r => f (fv r 0) := id rfl
theorem yM {R : Type} {h : H} {x : Int} {ti : TI} {f : V -> Option R} (hz : ti.agg = false) : ldK (.one (.i LA)) ti h (fv [.int LA x] 0) f = f (iv LA x) := by
 simp only [ldK, ldT, hz, cond_false, Qb, gx0, ob, tyV, Q3, tyS, Q2]
theorem Bm {b : Nat} {l : List UInt8} {a : Nat} {h : H} {n : Int} (w : Src b l a h) (hl : l.length <= 1048576) (ha : a < 1099511627776) (h1 : 1 <= n) (hn : n <= 1048576) :
  ∃ r h', call Ev Fn.QN [pv b 0, iv Ly n] h = some (iv Ly r, h') /\ 0 <= r /\ r < n /\ Src b l (a + 1) h' /\ h'.n = h.n /\ (∀ c, c ≠ b -> h'.g c = h.g c) /\ (∀ vs, Vm.tidy h vs h' = h') /\ h' = h.put b (.rw 0 [.fs (bys l), .int Ly ((a + 1 : Nat) : Int)]) := by
 have hb := w.n;have ld : ∀ {K : H} {o m : Nat}, K.n = h.n -> K.g b = .rw 0 [.fs (bys l), .int Ly m] -> Qb K (pv b o) = ([.fs (bys l), .int Ly (m : Int)] : List S)[o]? := fun {K o m} hk hg => by simp [Qb, H.cells, hk, hb, hg, Blk.cells]
 rw [Tu, ld rfl w.g];simp only [Hw, gx0, gx1, ob, Q2];rw [w64 (n := (a : Int) + 1) (by omega) (by omega), show (a : Int) + 1 = ((a + 1 : Nat) : Int) from by omega]
 rw [Zq (z := 1) (e := 0) (o := 1) (b := b) (cs := [.fs (bys l), .int Ly a]) (r := [.int Ly ((a + 1 : Nat) : Int)]) hb w.g (.inl ⟨_, rfl, rfl, rfl⟩) rfl (by simp)]
 rw [show setAt [.fs (bys l), .int Ly (a : Int)] 1 [S.int Ly ((a + 1 : Nat) : Int)] = [.fs (bys l), .int Ly ((a + 1 : Nat) : Int)] from rfl]
 generalize hK : h.put b (.rw 0 [.fs (bys l), .int Ly ((a + 1 : Nat) : Int)]) = K;have kn : K.n = h.n := by rw [<- hK, Qq]
 have kg : K.g b = .rw 0 [.fs (bys l), .int Ly ((a + 1 : Nat) : Int)] := by rw [<- hK]; exact Z9 _ _ _
 have ko : ∀ c, c ≠ b -> K.g c = h.g c := fun c hc => by rw [<- hK]; exact QG hc
 have kt : ∀ vs, Vm.tidy h vs K = K := fun vs => by rw [<- hK]; exact Gx hb
 have fin : ∀ {r : Int}, 0 <= r -> r < n -> ∃ r' h', (some (iv Ly r, K) : Option (V × H)) = some (iv Ly r', h') /\ 0 <= r' /\ r' < n /\ Src b l (a + 1) h' /\ h'.n = h.n /\ (∀ c, c ≠ b -> h'.g c = h.g c) /\ (∀ vs, Vm.tidy h vs h' = h') /\ h' = K := fun h0 h1 => ⟨_, K, rfl, h0, h1, ⟨by omega, kg⟩, kn, ko, kt, rfl⟩
 rw [Q1, if_neg (by simp; omega), ld kn kg]
 simp only [gx0, gx1, ob, Q2, ld kn kg, Xi, Q3, Xe];rw [w64 (n := ((a + 1 : Nat) : Int) - 1) (by omega) (by omega), show ((a + 1 : Nat) : Int) - 1 = (a : Int) from by omega, Q1]
 by_cases hl0 : l.length = 0
 ·rw [if_pos (by simp [hl0]), w64 (n := (a : Int) * 7) (by omega) (by omega), Gu (by omega) (by omega)]
  simp only [ob, Q3, Q2];exact fin (DM _ (by omega)) (DN _ (by omega))
 rw [if_neg (by simpa using hl0)]
 have hlp : (0 : Int) < (l.length : Int) := by omega
 have m1 := DM (a : Int) (show (l.length : Int) ≠ 0 by omega)
 have m2 := DN (a : Int) hlp;rw [Gu (by omega) hlp]
 simp only [ob, Q3, Q2];rw [Tb, ZA m1 m2, yM rfl];simp only [Q3, Q2];have d1 : (a : Int) / (l.length : Int) <= a := Int.ediv_le_self _ (by omega)
 have d2 : 0 <= (a : Int) / (l.length : Int) := Int.ediv_nonneg (by omega) (by omega)
 rw [kK (by omega) hlp (by omega)]
 simp only [ob, Q3, Q2];generalize (a : Int) / (l.length : Int) = q at d1 d2 ⊢;have x1 := Xa l ((a : Int) % (l.length : Int));have x2 := Jy l ((a : Int) % (l.length : Int));generalize bt l ((a : Int) % (l.length : Int)) = x at x1 x2 ⊢;rw [w64 (n := x) (by omega) (by omega), w64 (n := q * 37) (by omega) (by omega), w64 (n := x + q * 37) (by omega) (by omega), Q1]
 by_cases h2 : n > 200
 ·rw [if_pos (by simpa using h2)]
  have m3 := DM ((a : Int) + 1) (show (l.length : Int) ≠ 0 by omega)
  have m4 := DN ((a : Int) + 1) hlp;rw [w64 (n := (a : Int) + 1) (by omega) (by omega), Gu (by omega) hlp]
  simp only [ob, Q3, Q2];rw [Tb, ZA m3 m4, yM rfl];simp only [Q3, Q2];have y1 := Xa l (((a : Int) + 1) % (l.length : Int));have y2 := Jy l (((a : Int) + 1) % (l.length : Int));generalize bt l (((a : Int) + 1) % (l.length : Int)) = y at y1 y2 ⊢;rw [w64 (n := (x + q * 37) * 251) (by omega) (by omega), w64 (n := y) (by omega) (by omega), w64 (n := y * 13) (by omega) (by omega), w64 (n := (x + q * 37) * 251 + y * 13) (by omega) (by omega), w64 (n := (x + q * 37) * 251 + y * 13 + (a : Int)) (by omega) (by omega), Gu (by omega) (by omega)]
  simp only [ob, Q3, Q2];exact fin (DM _ (by omega)) (DN _ (by omega))
 ·rw [if_neg (by simpa using h2), Gu (by omega) (by omega)]
  simp only [ob, Q3, Q2];exact fin (DM _ (by omega)) (DN _ (by omega))
theorem XJ {b : Nat} {l : List UInt8} {a : Nat} {h : H} {n : Int} (w : Src b l a h) (hl : l.length <= 1048576) (ha : a < 1099511627776) (h1 : 1 <= n) (hn : n <= 1048576) :
  ∃ r h', call Ev Fn.QN [pv b 0, iv Ly n] h = some (iv Ly r, h') /\ 0 <= r /\ r < n /\ Src b l (a + 1) h' /\ h'.n = h.n /\ (∀ c, c ≠ b -> h'.g c = h.g c) /\ ∀ vs, Vm.tidy h vs h' = h' := by
 obtain ⟨r, h', e, r0, r1, w1, w2, w3, w4, _⟩ := Bm w hl ha h1 hn;exact ⟨r, h', e, r0, r1, w1, w2, w3, w4⟩
theorem GF {b : Nat} {l : List UInt8} {a : Nat} {h : H} {n : Int} (w : Src b l a h) (hl : l.length <= 1048576) (ha : a < 1099511627776) (h1 : 1 <= n) (hn : n <= 1048576) :
  ∃ r h', call Ev Fn.KO [pv b 0, iv Ly n] h = some (bv r, h') /\ Src b l (a + 1) h' /\ h'.n = h.n /\ (∀ c, c ≠ b -> h'.g c = h.g c) /\ ∀ vs, Vm.tidy h vs h' = h' := by
 obtain ⟨r, h', e, _, _, w1, w2, w3, w4⟩ := XJ w hl ha h1 hn;rw [Vr, e];simp only [ob, Q3, Q2];rw [w4];exact ⟨_, h', rfl, w1, w2, w3, w4⟩
theorem Q1B {b : Nat} {l : List UInt8} {a : Nat} {h : H} {xs : List Int} (w : Src b l a h) (hl : l.length <= 1048576) (ha : a < 1099511627776) (h1 : 1 <= xs.length) (hn : xs.length <= 1000) {q : Nat} (hq : q < h.n) (hqb : q ≠ b) (hg : h.g q = .rw 1 (xs.map fun x => .int Ly x)) :
  ∃ x h', call Ev Fn.J0 [pv b 0, sv q 0 xs.length] h = some (iv Ly x, h') /\ x ∈ xs /\ Src b l (a + 1) h' /\ h'.n = h.n /\ (∀ c, c ≠ b -> h'.g c = h.g c) /\ ∀ vs, Vm.tidy h vs h' = h' := by
 obtain ⟨r, h', e, r0, r1, w1, w2, w3, w4⟩ := XJ w hl ha (n := (xs.length : Int)) (by omega) (by omega)
 obtain ⟨i, rfl⟩ : ∃ i : Nat, r = i := ⟨r.toNat, by omega⟩
 have hi : i < xs.length := by omega
 rw [Tt];simp only [Xi, ob, Q3, Q2];rw [e];simp only [ob, Q3, Q2];rw [w4, Z3 hi, Nat.mul_one];have ld : Qb h' (pv q i) = some (.int Ly xs[i]) := by
  simp only [Qb, H.cells, w2, hq, if_true, w3 q hqb, hg, Blk.cells];rw [List.getElem?_map, HI hi]; rfl
 simp only [ldK, ldT, cond_false, ld, ob, Q3, Q2];exact ⟨_, h', rfl, DW hi, w1, w2, w3, w4⟩
theorem Mx {b : Nat} {l : List UInt8} {a : Nat} {h : H} {xs : List Int} (w : Src b l a h) (hl : l.length <= 1048576) (ha : a < 1099511627776) (h1 : 1 <= xs.length) (hn : xs.length <= 1000) :
  ∃ x h', call Ev Fn.J0 [pv b 0, sv h.n 0 xs.length] (h.new 1 (xs.map fun x => .int Ly x)) = some (iv Ly x, h') /\ x ∈ xs /\ Src b l (a + 1) h' /\ h.n <= h'.n /\ (∀ c, c < h.n -> c ≠ b -> h'.g c = h.g c) /\ ∀ vs, Vm.tidy (h.new 1 (xs.map fun x => .int Ly x)) vs h' = h' := by
 have hb := w.n;obtain ⟨x, h', e, hx, w1, w2, w3, w4⟩ := Q1B (h := h.new 1 (xs.map fun x => .int Ly x)) (w.up Yl) hl ha h1 hn (q := h.n) (by simp) (by omega) (QI _ _ _)
 exact ⟨x, h', e, hx, w1, by rw [w2]; simp, fun c hc hcb => by rw [w3 c hcb, QO (by omega)], w4⟩
theorem u8i {x : Int} (hx : 0 <= x /\ x < 256) : S.int LA x = .int LA ((HB x.toNat).toNat : Int) := by
 congr 1
 simp; omega
theorem Q1l {h : H} {q k : Nat} {ms : List UInt8} {x : Int} (w : BysW h (sv q 0 k) ms q) (hx : 0 <= x /\ x < 256) (hl : ms.length + 1 <= lim) :
  ∃ h', Zm 1 (h.new 1 [.int LA x]) (sv q 0 k) (sv h.n 0 1) = some (sv (h.n + 1) 0 (k + 1), h') /\ BysW h' (sv (h.n + 1) 0 (k + 1)) (ms ++ [HB x.toNat]) (h.n + 1) /\ h'.n = h.n + 2 /\ ∀ c, c < h.n -> c ≠ q -> h'.g c = h.g c := by
 have hk := w.len;have hq := w.n;have hqn : q ≠ h.n := by omega
 have cy : Z6 1 (h.new 1 [.int LA x]) (sv h.n 0 1) = some [.int LA x] := by
  simp only [Z6, H.cells, Xf, QI, Blk.cells];rw [if_pos ⟨by omega, by simp⟩]; simp
 have cx : Z6 1 (h.new 1 [.int LA x]) (sv q 0 k) = some (ms.map QA) := by
  have hc : (h.new 1 [.int LA x]).cells q = ms.map QA := by unfold H.cells; rw [if_pos (by simp; omega), QO hqn, w.g]; rfl
  simp only [Z6, hc];rw [if_pos ⟨by simp; omega, by simp; omega⟩, HX, Fz (by simp; omega)]
 refine ⟨((h.new 1 [.int LA x]).put q .dead).new 1 (ms.map QA ++ [.int LA x]), ?_, ⟨by simp [hk], by simp, ?_⟩, by simp, fun c hc hcq => ?_⟩
 ·simp only [Zm, cx, cy, HC, Uh]
  rw [if_pos ⟨by rw [Xf]; omega, by omega, by omega⟩, QO hqn, w.g]
  simp only [if_true];rfl
 ·have := QI ((h.new 1 [.int LA x]).put q .dead) 1 (ms.map QA ++ [.int LA x])
  rw [show ((h.new 1 [.int LA x]).put q .dead).n = h.n + 1 from rfl] at this
  rw [this, List.map_append, List.map_singleton]
  congr 3
  unfold QA;rw [u8i hx]
 · rw [QO (by simp; omega), QG hcq, QO (by omega)]
end Vm
namespace Vm
open Go
theorem Q0N {b : Nat} {l : List UInt8} (hl : l.length <= 1048576) : ∀ (k : Nat) (a j q n0 : Nat) (ms : List UInt8) (h : H), Src b l a h -> a + k < 1099511627776 -> b < n0 -> n0 <= q -> BysW h (sv q 0 j) ms q -> j + k <= 100000 ->
  ∃ q' ms' h', Lp.Kh 0 [pv b 0, iv Ly k, sv q 0 j] h = some (.done [sv q' 0 (j + k)] h') /\ BysW h' (sv q' 0 (j + k)) ms' q' /\ n0 <= q' /\ Src b l (a + k) h' /\ h.n <= h'.n /\ ∀ c, c < n0 -> c ≠ b -> h'.g c = h.g c := by
 intro k
 induction k with
 | zero =>
  intro a j q n0 ms h w ha hb hq hm hj;refine ⟨q, ms, h, ?_, hm, hq, w, Hx _, fun _ _ _ => rfl⟩
  rw [G1, Q1, if_neg (by simp), Q6]
  rfl
 | succ k ih =>
  intro a j q n0 ms h w ha hb hq hm hj;have hk := hm.len;rw [G1, Q1, if_pos (by simp)]
  obtain ⟨r, h1, e1, r0, r1, w1, n1, o1, t1⟩ := XJ w hl (by omega) (n := 256) (by omega) (by omega)
  rw [e1];simp only [ob, Q3, Q2];rw [t1, w8 r0 r1];have hm1 : BysW h1 (sv q 0 j) ms q := ⟨hm.v, by have := hm.n; omega, by rw [o1 q (by omega)]; exact hm.g⟩
  obtain ⟨h2, e2, w2, n2, o2⟩ := Q1l hm1 ⟨r0, r1⟩ (by unfold lim; omega)
  rw [e2, ob];dsimp only;rw [Kr (by simp [ZM, QR]; omega), w64 (n := ((k + 1 : Nat) : Int) - 1) (by omega) (by omega), show ((k + 1 : Nat) : Int) - 1 = (k : Int) from by omega]
  have w3 : Src b l (a + 1) h2 := ⟨by have := w.n; omega, by rw [o2 b (by have := w.n; omega) (by omega)]; exact w1.g⟩
  have hqn := hm.n;obtain ⟨q', ms', h', e3, w4, q4, s4, n4, o4⟩ := ih (a + 1) (j + 1) (h1.n + 1) n0 _ h2 w3 (by omega) hb (by omega) w2 (by omega)
  rw [e3];refine ⟨q', ms', h', by rw [show j + 1 + k = j + (k + 1) from by omega], by rw [<- show j + 1 + k = j + (k + 1) from by omega]; exact w4, q4, by rw [<- show a + 1 + k = a + (k + 1) from by omega]; exact s4, by omega, fun c hc hcb => ?_⟩
  rw [o4 c hc hcb, o2 c (by omega) (by omega), o1 c hcb]
theorem Q1A {b : Nat} {l : List UInt8} {a : Nat} {h : H} {m : Nat} (w : Src b l a h) (hl : l.length <= 1048576) (ha : a + m < 1099511627776) (hm : m <= 1000) :
  ∃ q ms h', call Ev Fn.Kh [pv b 0, iv Ly (m : Int)] h = some (sv q 0 m, h') /\ BysW h' (sv q 0 m) ms q /\ ms.length = m /\ h.n <= q /\ Dr b l a m h h' := by
 have hb := w.n;rw [Ts];have w0 : BysW (h.new 1 []) (sv h.n 0 0) [] h.n := ⟨rfl, by simp, QI _ _ _⟩
 obtain ⟨q, ms, h', e, w1, hq, s1, n1, o1⟩ := Q0N hl m a 0 h.n h.n [] (h.new 1 []) (w.up Yl) ha hb (Hx _) w0 (by omega)
 rw [e, ob, Qc];simp only [gx0, ob, Hw] at w1 ⊢;refine ⟨q, ms, h', rfl, w1, w1.len.symm, hq, ⟨⟨_, s1, Hx _⟩, by simp at n1; omega, fun c hc hcb => by rw [o1 c hc hcb, QO (by omega)]⟩⟩
end Vm
namespace Vm
open Go
def XE (c : Int) : List UInt8 := ((HY 64 (HB c.toNat)).set 0 0).set 1 64
theorem vP (c : Int) : (XE c).length = 64 := by simp [XE]
theorem xO (c : Int) (j : Nat) : bt (XE c) (j : Int) = if j = 1 then 64 else if j = 0 then 0 else bt (HY 64 (HB c.toNat)) (j : Int) := by
 unfold XE;rw [Y8 (by simp), Y8 (by simp)]; rfl
theorem MC (c : Int) : QH (XE c) = 0 := by
 have h0 : bt (XE c) 0 = (0 : Nat) := by have := xO c 0; simpa using this
 have h1 : bt (XE c) 1 = 64 := by have := xO c 1; simpa using this
 have hc := WJ h0;exact (Pg.ok ⟨vP c, ⟨by omega, by omega, by omega⟩, fun i hi => by omega, fun i k hi => by omega, fun hh => by omega⟩)
theorem Q5f (x : S) : ((List.range 64).map fun _ => [x]).flatten = HY 64 x := rfl
theorem Bw {c : Int} (h0 : 0 <= c) (h1 : c < 256) (n : Nat) : ∃ h', call Ev Fn.X7 [iv LA c] (D n) = some (sv n 0 64, h') /\ NewB n h' (sv n 0 64) (XE c) (some n) := by
 rw [PL, Q1L, ob];obtain ⟨h', e1, n1, g1, _⟩ := yV (z := 1) (n := 64) (b := n) (T := fun _ => [S.int LA c]) (L := fun i h => Lp.X7 0 [iv LA c, sv n 0 64, iv Ly i] h) (fin := [sv n 0 64]) (fun _ _ => rfl)
  (fun i h hi hb => by
   refine ⟨iv LA c, [iv LA c, sv n 0 64, iv Ly ((i + 1 : Nat) : Int)], .inl ⟨_, rfl, rfl, rfl⟩, ?_⟩;show Lp.X7 0 _ h = _;rw [GM, Q1, if_pos (by simp; omega), Z3 hi, w64 (by omega) (by omega), show (i : Int) + 1 = ((i + 1 : Nat) : Int) from by omega])
  (fun h => by
   show Lp.X7 0 _ h = _;rw [GM, Q1, if_neg (by simp), Q6])
  64 0 ((D n).new 1 (Jv.map QA)) (Jv.map QA) (by omega) (by simp) (by rw [List.range_zero]; exact QI (D n) _ _) (by simp [Jv])
 rw [D_n, show iv Ly 0 = iv Ly ((0 : Nat) : Int) from rfl, e1]
 simp only [ob, Qc, gx0];have hc : (HY 64 (S.int LA c)) = (HY 64 (HB c.toNat)).map QA := by
  rw [List.map_replicate]
  congr 1
  exact u8i ⟨h0, h1⟩
 rw [Q5f, hc] at g1;simp at n1;have w : BysW h' (sv n 0 64) (HY 64 (HB c.toNat)) n := ⟨by simp, by omega, g1⟩
 rw [Z3 (by omega), w.set (c := 0) (x := 0) (by simp) rfl, show iv Ly 1 = iv Ly ((1 : Nat) : Int) from rfl, Z3 (by omega), (w.set_w).set (c := 64) (x := 64) (by simp) rfl]
 have w2 := (w.set_w (i := 0) (c := 0)).set_w (i := 1) (c := 64);refine ⟨_, rfl, w2, by rw [Qq, Qq]; omega, fun b hb => by cases hb; exact Hx _, fun b h2 h3 s hs => ?_⟩
 rw [Qq, Qq, n1] at h3;have hbn : b = n := by omega
 rw [hbn] at hs;have hs' := (congrArg (fun x => s ∈ Blk.cells x) w2.g).mp hs
 obtain ⟨c, _, rfl⟩ := HR.1 hs';rfl
theorem NewB.over {h h1 : H} {v : V} {m : List UInt8} {c : Nat} (w : NewB h.n h1 v m (some c)) : Up h (h.over h1) /\ BysW (h.over h1) v m c /\ h.n <= c := by
 have hle := w.le;have hc := w.new c rfl;exact ⟨Je hle, ⟨(show BysW h1 v m c from w.own).v, by rw [Xb hle]; exact (show BysW h1 v m c from w.own).n, by rw [KL hc]; exact (show BysW h1 v m c from w.own).g⟩, hc⟩
theorem NewB.some_of {n : Nat} {h : H} {v : V} {l : List UInt8} {o : Option Nat} (w : NewB n h v l o) (hl : l ≠ []) : ∃ c, NewB n h v l (some c) := by
 cases o with
 | some c => exact ⟨c, w⟩
 | none => exact absurd w.own.2 hl
theorem BysW.dr {q b k : Nat} {ms : List UInt8} {l : List UInt8} {a N : Nat} {h h' : H} (w : BysW h (sv q 0 k) ms q) (r : Dr b l a N h h') (hq : q ≠ b) : BysW h' (sv q 0 k) ms q := ⟨w.v, by have := w.n; have := r.n; omega, by rw [r.o q w.n hq]; exact w.g⟩
theorem BysW.fr {q k : Nat} {ms : List UInt8} {h h' : H} (w : BysW h (sv q 0 k) ms q) (hn : h.n <= h'.n) (hg : h'.g q = h.g q) : BysW h' (sv q 0 k) ms q := ⟨w.v, by have := w.n; omega, hg.trans w.g⟩
theorem vT {b : Nat} {l : List UInt8} (hl : l.length <= 1048576) : ∀ (k : Nat) (a q n0 : Nat) (p : List UInt8) (h : H), Src b l a h -> a + 40 * k < 1099511627776 -> b < n0 -> n0 <= q -> BysW h (sv q 0 64) p q -> QH p = 0 ->
  ∃ q' p' h', Lp.Zd 0 [pv b 0, sv q 0 64, iv Ly k] h = some (.done [sv q' 0 64] h') /\ BysW h' (sv q' 0 64) p' q' /\ QH p' = 0 /\ n0 <= q' /\ (∃ a', Src b l a' h' /\ a' <= a + 40 * k) /\ h.n <= h'.n /\ ∀ c, c < n0 -> c ≠ b -> h'.g c = h.g c := by
 intro k
 induction k with
 | zero =>
  intro a q n0 p h w ha hb hq wp hp;refine ⟨q, p, h, ?_, wp, hp, hq, ⟨a, w, by omega⟩, Hx _, fun _ _ _ => rfl⟩
  rw [WC, Q1, if_neg (by simp), Q6]
 | succ k ih =>
  intro a q n0 p h w ha hb hq wp hp;have hqn := wp.n;have hbn := w.n;have hqb : q ≠ b := by omega
  rw [WC, Q1, if_pos (by simp)]
  rw [w64 (n := ((k + 1 : Nat) : Int) - 1) (by omega) (by omega), show ((k + 1 : Nat) : Int) - 1 = (k : Int) from by omega]
  have old : ∀ {N : Nat} {X : H} (vs : List V), Dr b l a N h X -> N <= 40 -> ∃ q' p' h', Lp.Zd 0 [pv b 0, sv q 0 64, iv Ly k] (Vm.tidy h vs X) = some (.done [sv q' 0 64] h') /\ BysW h' (sv q' 0 64) p' q' /\ QH p' = 0 /\ n0 <= q' /\ (∃ a', Src b l a' h' /\ a' <= a + 40 * (k + 1)) /\ h.n <= h'.n /\ ∀ c, c < n0 -> c ≠ b -> h'.g c = h.g c := fun {N X} vs r hN => by
   have r' := r.tidy hbn vs;obtain ⟨a', w1, w2⟩ := r'.ex;obtain ⟨q', p', h', e, x1, x2, x3, ⟨a2, x4, x5⟩, x6, x7⟩ := ih a' q n0 p _ w1 (by omega) hb hq (wp.dr r' hqb) hp
   exact ⟨q', p', h', e, x1, x2, x3, ⟨a2, x4, by omega⟩, HL r'.n x6, fun c hc hcb => (x7 c hc hcb).trans (r'.o c (by omega) hcb)⟩
  have new : ∀ {N : Nat} {X : H} {q2 : Nat} {p2 : List UInt8} (vs : List V), sv q2 0 64 ∈ vs -> Dr b l a N h X -> N <= 40 -> h.n <= q2 -> BysW X (sv q2 0 64) p2 q2 -> QH p2 = 0 -> ∃ q' p' h', Lp.Zd 0 [pv b 0, sv q2 0 64, iv Ly k] (Vm.tidy h vs X) = some (.done [sv q' 0 64] h') /\ BysW h' (sv q' 0 64) p' q' /\ QH p' = 0 /\ n0 <= q' /\ (∃ a', Src b l a' h' /\ a' <= a + 40 * (k + 1)) /\ h.n <= h'.n /\ ∀ c, c < n0 -> c ≠ b -> h'.g c = h.g c := fun {N X q2 p2} vs hv r hN hq2 wq hp2 => by
   have ht : Vm.tidy h vs X = X := Kr (by
    rw [Dt];intro hh;have := Fw.1 hh _ hv;simp [ZM, QR] at this; omega)
   rw [ht];obtain ⟨a', w1, w2⟩ := r.ex;obtain ⟨q', p', h', e, x1, x2, x3, ⟨a2, x4, x5⟩, x6, x7⟩ := ih a' q2 n0 p2 X w1 (by omega) hb (by omega) wq hp2
   exact ⟨q', p', h', e, x1, x2, x3, ⟨a2, x4, by omega⟩, HL r.n x6, fun c hc hcb => (x7 c hc hcb).trans (r.o c (by omega) hcb)⟩
  obtain ⟨x1, h1, e1, r1, b1, w1, n1, o1, t1⟩ := XJ w hl (by omega) (n := 14) (by omega) (by omega)
  rw [e1]; simp only [ob, Q3, Q2]; rw [t1];obtain ⟨m, hm⟩ : ∃ m : Nat, 1 + x1 = m := ⟨(1 + x1).toNat, by omega⟩
  rw [hm, w64 (by omega) (by omega)]
  obtain ⟨q2, ms, h2, e2, w2, hms, hq2, d2⟩ := Q1A (m := m) w1 hl (by omega) (by omega)
  rw [e2, ob];dsimp only;rw [Kr (h := h1) (h' := h2) (by simp [ZM, QR]; omega)]
  obtain ⟨a2, s2, ha2⟩ := d2.ex;have hd2n := d2.n;obtain ⟨x3, h3, e3, r3, b3, w3, n3, o3, t3⟩ := XJ s2 hl (by omega) (n := 5) (by omega) (by omega)
  rw [e3]; simp only [ob, Q3, Q2]; rw [t3];have dr3 : Dr b l a 20 h h3 := ⟨⟨_, w3, by omega⟩, by omega, fun c hc hcb => by rw [o3 c hcb, d2.o c (by omega) hcb, o1 c hcb]⟩
  have wp3 := wp.dr dr3 hqb;have wm3 : BysW h3 (sv q2 0 m) ms q2 := w2.fr (by omega) (o3 q2 (by omega))
  have hq2b : q2 ≠ b := by omega
  rw [Q1]
  by_cases c0 : x3 = 0
  ·rw [if_pos (by simp [c0])]
   obtain ⟨x4, h4, e4, r4, b4, w4, n4, o4, t4⟩ := XJ w3 hl (by omega) (n := 6) (by omega) (by omega)
   rw [e4]; simp only [ob, Q3, Q2]; rw [t4];have dr4 : Dr b l a 21 h h4 := ⟨⟨_, w4, by omega⟩, by omega, fun c hc hcb => by rw [o4 c hcb, dr3.o c hc hcb]⟩
   have wp4 := wp.dr dr4 hqb;have fz : Qt h4 [sv q 0 64, iv Ly x4] = some [lv (bys p), iv Ly x4] := Qa (Jd (ob := some q) wp4) (Qa XG QE);rw [fz, ob, Z2, pc (T6 hp (by omega) (by omega)) rfl]
   simp only [Q3, QW];rw [Q1]
   cases hh : Z7 p x4
   ·rw [if_neg (by simp)]
    exact old _ dr4 (by omega)
   ·rw [if_pos rfl, ob, Z2]
    obtain ⟨i, rfl, hi, _⟩ := J6 hh;obtain ⟨h64, ⟨g1, _, _⟩, _⟩ := Qv hp;have hc := Xd p;obtain ⟨h5, e5, w5, _⟩ := zv h64 (by omega) hi h4.n
    rw [pF (h := h4) e5 ⟨rfl, w5.z⟩];obtain ⟨u5, w5', hc5⟩ := w5.over;exact new _ (by simp) (dr4.up u5) (by omega) (by omega) w5' (Bx hp hi).1
  rw [if_neg (by simpa using c0), Q1]
  by_cases c1 : x3 = 1
  ·rw [if_pos (by simp [c1])]
   obtain ⟨x4, h4, e4, r4, b4, w4, n4, o4, t4⟩ := XJ w3 hl (by omega) (n := 6) (by omega) (by omega)
   rw [e4]; simp only [ob, Q3, Q2]; rw [t4];have dr4 : Dr b l a 21 h h4 := ⟨⟨_, w4, by omega⟩, by omega, fun c hc hcb => by rw [o4 c hcb, dr3.o c hc hcb]⟩
   have wp4 := wp.dr dr4 hqb;have wm4 : BysW h4 (sv q2 0 m) ms q2 := wm3.fr (by omega) (o4 q2 hq2b)
   have fz : Qt h4 [sv q 0 64, iv Ly x4] = some [lv (bys p), iv Ly x4] := Qa (Jd (ob := some q) wp4) (Qa XG QE);have fz3 : Qt h4 [sv q 0 64, iv Ly x4, sv q2 0 m] = some [lv (bys p), iv Ly x4, lv (bys ms)] := Qa (Jd (ob := some q) wp4) (Qa XG (Qa (Jd (ob := some q2) wm4) QE));rw [fz, ob, Z2, pc (T6 hp (by omega) (by omega)) rfl]
   simp only [Q3, QW];rw [Q1]
   cases hh : Z7 p x4
   ·rw [if_neg (by simp)]
    exact old _ dr4 (by omega)
   ·rw [if_pos rfl, fz3, ob, Z2]
    obtain ⟨i, rfl, hi, _⟩ := J6 hh;obtain ⟨y, h5, o5, e5, w5⟩ := km (m := ms) hp hi (X4.2 (by omega)) hh h4.n
    rw [pF (h := h4) e5 ⟨by simp [w5.own.sca], w5.z⟩]
    have u5 : Up h4 (h4.over h5) := Je w5.le;simp only [Za, gx0, gx1, ob, Zc, Q2, ln0, ln1, Hw, HA, if_true];rw [Q1]
    by_cases hz : (Jb p i ms).1 = 0
    ·rw [if_pos (by simp [hz])]
     obtain ⟨s1, _⟩ := qz hz;have s64 := (Qv s1).1;obtain ⟨c, w6⟩ := w5.some_of (fun hn => by rw [hn] at s64; simp at s64)
     obtain ⟨_, w6', hc6⟩ := w6.over;have hv := w6'.v;rw [s64] at hv
     injection hv with hv
     subst hv;exact new _ (by simp) (dr4.up u5) (by omega) (by omega) w6' s1
    ·rw [if_neg (by simpa using hz)]
     exact old _ (dr4.up u5) (by omega)
  rw [if_neg (by simpa using c1), Q1]
  by_cases c2 : x3 = 2
  ·rw [if_pos (by simp [c2])]
   obtain ⟨x4, h4, e4, w4, n4, o4, t4⟩ := GF w3 hl (by omega) (n := 3) (by omega) (by omega)
   rw [e4]; simp only [ob, Q3, QW]; rw [t4];have dr4 : Dr b l a 21 h h4 := ⟨⟨_, w4, by omega⟩, by omega, fun c hc hcb => by rw [o4 c hcb, dr3.o c hc hcb]⟩
   have wp4 := wp.dr dr4 hqb;have fz : Qt h4 [sv q 0 64] = some [lv (bys p)] := Qa (Jd (ob := some q) wp4) QE;rw [Q1]
   cases x4
   ·rw [if_neg (by simp)]
    exact old _ dr4 (by omega)
   ·rw [if_pos rfl, fz, ob, Z2]
    obtain ⟨h5, e5, w5⟩ := BO hp h4.n;rw [pF (h := h4) e5 ⟨rfl, w5.z⟩];obtain ⟨u5, w5', hc5⟩ := w5.over;exact new _ (by simp) (dr4.up u5) (by omega) (by omega) w5' (kD hp).1
  rw [if_neg (by simpa using c2)]
  have fz : Qt h3 [sv q 0 64, sv q2 0 m] = some [lv (bys p), lv (bys ms)] := Qa (Jd (ob := some q) wp3) (Qa (Jd (ob := some q2) wm3) QE);rw [fz, ob, Z2];obtain ⟨y, h5, o5, e5, w5⟩ := Bv (m := ms) hp (X4.2 (by omega)) h3.n
  rw [pF (h := h3) e5 ⟨by simp [w5.own.sca], w5.z⟩]
  have u5 : Up h3 (h3.over h5) := Je w5.le;simp only [Za, gx0, gx1, ob, Zc, Q2, ln0, ln1, Hw, HA, if_true];rw [Q1]
  by_cases hz : (pu0 p ms).1 = 0
  ·rw [if_pos (by simp [hz])]
   obtain ⟨s1, _⟩ := NL hp (X4.2 (by omega)) hz
   have s64 := (Qv s1).1;obtain ⟨c, w6⟩ := w5.some_of (fun hn => by rw [hn] at s64; simp at s64)
   obtain ⟨_, w6', hc6⟩ := w6.over;have hv := w6'.v;rw [s64] at hv
   injection hv with hv
   subst hv;exact new _ (by simp) (dr3.up u5) (by omega) (by omega) w6' s1
  ·rw [if_neg (by simpa using hz)]
   exact old _ (dr3.up u5) (by omega)
end Vm
namespace Vm
open Go
structure Edd (n0 q : Nat) (y1 : S) (ps' : List (List UInt8)) (es' : List RunD) (b1 b2 : List Nat) (h h' : H) (y2' : S) (b1' b2' : List Nat) : Prop where
 w : Dk n0 q y1 y2' ps' es' b1' b2' h'
 n : h.n <= h'.n
 f : ∀ a, a < h.n -> a ∉ b1 -> a ∉ b2 -> a ≠ q -> h'.g a = h.g a
 b : ∀ N, N <= h.n -> QR N y2' = false
 m : ∀ a, a ∈ b1' \/ a ∈ b2' -> a ∈ b1 \/ a ∈ b2 \/ h.n <= a
theorem Edd.tidy {n0 q : Nat} {y1 : S} {ps' : List (List UInt8)} {es' : List RunD} {b1 b2 : List Nat} {h h' h0 : H} {y2' : S} {b1' b2' : List Nat} {l : List V} (e : Edd n0 q y1 ps' es' b1 b2 h h' y2' b1' b2') (hn : h0.n <= h.n) (hq : q < h0.n) (hX : (h0.g q).cells.all (QR h0.n) = true) : Vm.tidy h0 l h' = h' :=
 Gl (b := q) hq e.w.g (by rw [HG, HG, e.b _ hn]; simp) hX
theorem y8 {n0 q : Nat} {h : H} {y1 y2 : S} {ps : List (List UInt8)} {es : List RunD} {b1 b2 : List Nat} (w : Dk n0 q y1 y2 ps es b1 b2 h) {p k : Nat} {l : List UInt8} (ca : CellAt ps p k l) (hes : es.length <= 1000) (hpl : ps.length <= 1000) :
  ∃ h' y2' b1' b2', call Ev Fn.YL [pv q 0, iv Ly p, iv Ly k] h = some (.tup [], h') /\ Edd n0 q y1 (ps.set p (Z4 l k)) (es ++ [⟨p, Z4 l k⟩]) b1 b2 h h' y2' b1' b2' := by
 obtain ⟨h64, hne, hk, hk16⟩ := ca.len;have hm64 : (Z4 l k).length = 64 := by rw [KK, h64]
 rw [BH];simp only [Hw, w.ld, gx0, ob];obtain ⟨cp, hcp, wp, gp⟩ := B2 (R := V × H) w.p ca.p hne;rw [gp, Qa (Jd (ob := some cp) wp) (Qa XG QE), ob, Z2];obtain ⟨y, h1, oc, e1, w1⟩ := jx (l := l) (i := (k : Int)) (by unfold lim; omega) h.n
 have hc0 : drC l (k : Int) = 0 := by unfold drC slC; rw [if_pos ca.l, ca.h]; rfl
 have hdl : drL l (k : Int) = Z4 l k := by unfold drL; rw [if_pos ⟨ca.l, ca.h⟩, HQ]
 rw [hdl] at w1;obtain ⟨c, w1⟩ := w1.some_of (fun e => by rw [e] at hm64; cases hm64)
 have hcn := w1.new c rfl;have wc1 : BysW h1 (.s y) (Z4 l k) c := w1.own;have hy := wc1.v
 injection hy with hy
 subst hy;rw [pF (h := h) (h1 := h1) e1 ⟨by rfl, w1.z⟩]
 have uK := Je (h := h) (h1 := h1) w1.le;have wc : BysW (h.over h1) (sv c 0 (Z4 l k).length) (Z4 l k) c := ⟨rfl, by have := wc1.n; have := w1.le; rw [Xb w1.le]; exact wc1.n, by rw [KL hcn]; exact wc1.g⟩
 generalize h.over h1 = K at uK wc ⊢;simp only [Zb, gx0, gx1, ob, Q2, ln0, ln1, Hw, HA, if_true];rw [hm64];have hqn := w.qn;have wK := w.frame (h' := K) uK.n (fun a ha _ => uK.g a ha)
 obtain ⟨h2, y2', b1', b2', e2, w2, n2, f2, g2, be2, m2⟩ := Q1D wK ca.p hne (by unfold lim; omega) (m := Z4 l k) (c := c) (by rw [hm64]; rw [hm64] at wc; exact wc) (by unfold lim; omega) (by omega) (fun hh => by have := w.p.rep.lt _ hh; omega) (fun hh => by have := w.e.rep.lt _ hh; omega) hes hpl (kz ca)
 rw [hm64] at e2;have un := uK.n;have ed : Edd n0 q y1 (ps.set p (Z4 l k)) (es ++ [⟨p, Z4 l k⟩]) b1 b2 h h2 y2' b1' b2' := ⟨w2, by omega, fun a ha h1 h2 h3 => (f2 a (by omega) h1 h2 h3).trans (uK.g a ha), fun N hN => be2 N (by omega), fun a ha => by rcases m2 a ha with h1 | h1 | h1; exact .inl h1; exact .inr (.inl h1); exact .inr (.inr (by omega))⟩
 rw [e2, ob];dsimp only;rw [Gl (b := q) (by omega) g2 (by rw [HG, HG, be2 _ (Hx _)]; simp) wK.bel]
 exact ⟨h2, y2', b1', b2', rfl, ed⟩
theorem RP {n0 q : Nat} {h : H} {y1 y2 : S} {ps : List (List UInt8)} {es : List RunD} {b1 b2 : List Nat} (w : Dk n0 q y1 y2 ps es b1 b2 h) {p k : Nat} {l : List UInt8} (ca : CellAt ps p k l) (hes : es.length <= 1000) (hpl : ps.length <= 1000) :
  ∃ h' y2' b1' b2', call Ev Fn.Y9 [pv q 0, iv Ly p, iv Ly k] h = some (.tup [], h') /\ Edd n0 q y1 (ps.set p (Z4 l k)) (es ++ [⟨p, Z4 l k⟩]) b1 b2 h h' y2' b1' b2' := by
 obtain ⟨h64, hne, hk, hk16⟩ := ca.len;have hm64 : (Z4 l k).length = 64 := by rw [KK, h64]
 rw [Tk];simp only [Hw, w.ld, gx0, ob];obtain ⟨cp, hcp, wp, gp⟩ := B2 (R := V × H) w.p ca.p hne;rw [gp, Qa (Jd (ob := some cp) wp) (Qa XG QE), ob, Z2];obtain ⟨h1, e1, w1, nn⟩ := zv (l := l) (k := k) h64 (by have := Xd l; have := (Qv ca.l).2.1.1; omega) hk h.n
 obtain ⟨e3, wc, uK, nK, xK⟩ := Jh e1 w1 nn;rw [e3];generalize hc : h.n + 1 = c at wc ⊢;generalize h.over h1 = K at uK wc nK ⊢;rw [hm64];have hqn := w.qn;have wK := w.frame (h' := K) uK.n (fun a ha _ => uK.g a ha)
 obtain ⟨h2, y2', b1', b2', e2, w2, n2, f2, g2, be2, m2⟩ := jV wK ca.p hne (by unfold lim; omega) (m := Z4 l k) (c := c) (by rw [hm64]; rw [hm64] at wc; exact wc) (by unfold lim; omega) (by omega) (fun hh => by have := w.p.rep.lt _ hh; omega) (fun hh => by have := w.e.rep.lt _ hh; omega) hes hpl (kz ca)
 rw [hm64] at e2;have un := uK.n;have ed : Edd n0 q y1 (ps.set p (Z4 l k)) (es ++ [⟨p, Z4 l k⟩]) b1 b2 h h2 y2' b1' b2' := ⟨w2, by omega, fun a ha h1 h2 h3 => (f2 a (by omega) h1 h2 h3).trans (uK.g a ha), fun N hN => be2 N (by omega), fun a ha => by rcases m2 a ha with h1 | h1 | h1; exact .inl h1; exact .inr (.inl h1); exact .inr (.inr (by omega))⟩
 rw [e2, ob];dsimp only;rw [Gl (b := q) (by omega) g2 (by rw [HG, HG, be2 _ (Hx _)]; simp) wK.bel]
 exact ⟨h2, y2', b1', b2', rfl, ed⟩
def Ng (ps : List (List UInt8)) (p k : Nat) (l : List UInt8) (mv : Bool) (a b : Nat) (l2 : List UInt8) : List (List UInt8) := if mv = true then (ps.set p (Z4 l k)).set a (Z4 l2 b) else ps.set p (Z4 l k)
def Vv (p k : Nat) (l : List UInt8) (mv : Bool) (a b : Nat) (l2 : List UInt8) : List RunD := if mv = true then [⟨p, Z4 l k⟩, ⟨a, Z4 l2 b⟩] else [⟨p, Z4 l k⟩]
theorem vA {n0 q : Nat} {h : H} {y1 y2 : S} {ps : List (List UInt8)} {b1 b2 : List Nat} (w : Dk n0 q y1 y2 ps [] b1 b2 h) {p k a b : Nat} {l l2 : List UInt8} {x : SeenD} (hp : x.page = p) (hk : x.slot = k) (ca : CellAt ps p k l) (h2 : x.moved = true -> x.at_ = a /\ x.place = b /\ CellAt (ps.set p (Z4 l k)) a b l2) (hpl : ps.length <= 1000) :
  ∃ h' y2' b1' b2', call Ev Fn.J5 [pv q 0, .agg x.cs] h = some (.tup [], h') /\ Edd n0 q y1 (Ng ps p k l x.moved a b l2) (Vv p k l x.moved a b l2) b1 b2 h h' y2' b1' b2' := by
 refine (fun (e : call Ev Fn.J5 [pv q 0, .agg x.cs] h = _) => ?_) (Ny q 0 x.r.tab x.r.key x.r.val x.r.text x.page x.slot x.moved x.at_ x.place h)
 rw [e];clear e;generalize hG : h.new 0 [S.int Ly x.r.tab, .int Ly x.r.key, .int Ly x.r.val, .str x.r.text, .int Ly x.page, .int Ly x.slot, .bool x.moved, .int Ly x.at_, .int Ly x.place] = G;have gn : G.n = h.n + 1 := by rw [<- hG]; simp
 have gg : G.g h.n = .rw 0 x.cs := by rw [<- hG]; exact QI _ _ _
 have go : ∀ c, c < h.n -> G.g c = h.g c := fun c hc => by rw [<- hG]; exact QO (by omega)
 have hqn := w.qn;have wG := w.frame (h' := G) (by omega) (fun c hc _ => go c hc)
 have ldG : ∀ {K : H} {o : Nat}, h.n < K.n -> K.g h.n = .rw 0 x.cs -> Qb K (pv h.n o) = x.cs[o]? := fun {K o} h1 h2 => by simp [Qb, H.cells, h1, h2, Blk.cells]
 rw [ldG (by omega) gg]
 simp only [gx0, gx1, ob, Q2];rw [ldG (by omega) gg]
 simp only [gx0, gx1, ob, Q2];rw [hp, hk];obtain ⟨h1, z2, c1, c2, e1, d1⟩ := y8 wG ca (by simp) hpl
 rw [e1, ob];dsimp only;rw [d1.tidy (Hx _) (by omega) wG.bel]
 have g1 : h1.g h.n = .rw 0 x.cs := (d1.f h.n (by omega) (fun hh => by have := w.p.rep.lt _ hh; omega) (fun hh => by have := w.e.rep.lt _ hh; omega) (by omega)).trans gg
 have n1 := d1.n;rw [ldG (by omega) g1]
 simp only [gx0, gx1, ob, QW];rw [Q1];unfold Ng Vv;have base : ∀ {ps' es' h' y' a1 a2}, Edd n0 q y1 ps' es' b1 b2 G h' y' a1 a2 -> Edd n0 q y1 ps' es' b1 b2 h h' y' a1 a2 := fun d => ⟨d.w, by have := d.n; omega, fun c hc q1 q2 q3 => (d.f c (by omega) q1 q2 q3).trans (go c hc), fun N hN => d.b N (by omega), fun c hc => by
  rcases d.m c hc with h1 | h1 | h1
  · exact .inl h1
  · exact .inr (.inl h1)
  · exact .inr (.inr (by omega))⟩
 cases hm : x.moved with
 | false =>
  rw [if_neg (by simp), if_neg (by simp), if_neg (by simp)]
  exact ⟨h1, z2, c1, c2, rfl, base d1⟩
 | true =>
  rw [if_pos rfl, if_pos rfl, if_pos rfl];obtain ⟨ha, hb, ca2⟩ := h2 hm;rw [ldG (by omega) g1]
  simp only [gx0, gx1, ob, Q2];rw [ldG (by omega) g1]
  simp only [gx0, gx1, ob, Q2];rw [ha, hb];obtain ⟨h3, z3, c3, c4, e3, d3⟩ := y8 d1.w ca2 (by simp) (by rw [HN]; exact hpl)
  rw [e3, ob];dsimp only;rw [d3.tidy (Hx _) (by omega) d1.w.bel]
  have n3 := d3.n;refine ⟨h3, z3, c3, c4, rfl, base ⟨by simpa using d3.w, by omega, fun c hc q1 q2 q3 => (d3.f c (by omega) (fun hh => ?_) (fun hh => ?_) q3).trans (d1.f c hc q1 q2 q3), fun N hN => d3.b N (by omega), fun c hc => ?_⟩⟩
  ·rcases d1.m c (.inl hh) with h | h | h
   · exact q1 h
   · exact q2 h
   · omega
  ·rcases d1.m c (.inr hh) with h | h | h
   · exact q1 h
   · exact q2 h
   · omega
  ·rcases d3.m c hc with h | h | h
   · exact d1.m c (.inl h)
   · exact d1.m c (.inr h)
   · exact .inr (.inr (by omega))
theorem uv {ps : List (List UInt8)} (hl : ps.length <= lim) (hr : ∀ l ∈ ps, l.length <= lim) (n : Nat) : ∃ q y bs h', call Ev Fn.Wd [lv (bss ps)] (D n) = some (pv q 0, h') /\ Dk n q y (.sl none 0) ps [] bs [] h' /\ n <= h'.n := by
 rw [Ty];obtain ⟨y, h1, bs, e1, w1, b1, n1⟩ := zx hl hr n;obtain ⟨K, e2, u2, n2, w2, x2⟩ := pO (h := D n) (off := true) (n := n) (by simp) e1 w1 b1 n1
 rw [e2, JW w2.rep.isNo];rw [show setAt [S.sl none 0, .sl none 0] 0 [y] = [y, .sl none 0] from rfl, if_pos (by simp)]
 simp only [gx0, gx1, ob, ln0, ln1, Hw, HA, if_true];refine ⟨K.n, y, bs, _, rfl, ⟨w2.frame fun c hc => ?_, OutS.none, by simp, fun c hc => ?_, by simp, ⟨by omega, by simp⟩, QI _ _ _⟩, by rw [Xf]; omega⟩
 ·have := w2.rep.lt c hc
  exact ⟨by rw [Xf]; omega, QO (by omega)⟩
 ·have := w2.rep.lt c hc
  exact ⟨by omega, b1 c hc⟩
theorem Pk {ps : List (List UInt8)} (hl : ps.length <= lim) (hr : ∀ l ∈ ps, l.length <= lim) (n : Nat) : ∃ q y bs h', call Ev Fn.Jz [lv (bss ps)] (D n) = some (pv q 0, h') /\ Dk n q y (.sl none 0) ps [] bs [] h' /\ n <= h'.n := by
 rw [Rk];obtain ⟨y, h1, bs, e1, w1, b1, n1⟩ := uu hl hr n;obtain ⟨K, e2, u2, n2, w2, x2⟩ := pO (h := D n) (off := true) (n := n) (by simp) e1 w1 b1 n1
 rw [e2, JW w2.rep.isNo];rw [show setAt [S.sl none 0, .sl none 0] 0 [y] = [y, .sl none 0] from rfl, if_pos (by simp)]
 simp only [gx0, gx1, ob, ln0, ln1, Hw, HA, if_true];refine ⟨K.n, y, bs, _, rfl, ⟨w2.frame fun c hc => ?_, OutS.none, by simp, fun c hc => ?_, by simp, ⟨by omega, by simp⟩, QI _ _ _⟩, by rw [Xf]; omega⟩
 ·have := w2.rep.lt c hc
  exact ⟨by rw [Xf]; omega, QO (by omega)⟩
 ·have := w2.rep.lt c hc
  exact ⟨by omega, b1 c hc⟩
theorem RepL.ed {h : H} {c : Int} {y z : S} {f g : S} {b1 b2 : List Nat} (wy : Rep h 4 y f b1) (wz : Rep h 4 z g b2) : RepL (Rep h 4) [.int Ly c, y, z] [.int Ly c, f, g] (b1 ++ b2) := by
 have := RepL.cons (bs := []) (Rep.sc (h := h) (d := 4) (s := .int Ly c) trivial) (RepL.cons wy (RepL.cons wz .nil));simpa using this
theorem jq {n q n0 : Nat} {K : H} {y1 y2 : S} {ps : List (List UInt8)} {es : List RunD} {b1 b2 : List Nat} (w : Dk n0 q y1 y2 ps es b1 b2 K) (hn : n < n0) (g : K.g n = .rw 0 [.int Ly 0, .sl none 0, .sl none 0]) {c : Int} :
  ∃ h', (stK 3 K (pv n 0) (.agg [.int Ly c, y2, y1]) fun h116 => (Qp 3 h116 (pv n 0)).bind fun c117 => some (V.agg c117, h116)) = some (.agg [.int Ly c, y2, y1], h') /\ NewC 4 [.int Ly c, y2, y1] [.int Ly c, .fs (Z1 es), .fs (bss ps)] n h' := by
 have hqn := w.qn;rw [Zq (z := 3) (e := 0) (o := 0) (b := n) (cs := [.int Ly 0, .sl none 0, .sl none 0]) (r := [.int Ly c, y2, y1]) (by omega) g (.inr rfl) rfl (by simp)]
 rw [show setAt [.int Ly 0, .sl none 0, .sl none 0] 0 [.int Ly c, y2, y1] = [.int Ly c, y2, y1] from rfl]
 rw [MD (b := n) (e := 0) (by rw [Qq]; omega) (Z9 _ _ _), ob]
 refine ⟨_, rfl, by rw [Qq]; omega, b2 ++ b1, ?_, ?_, fun b hb => ?_⟩
 ·refine RepL.ed ?_ ?_
  · exact (w.e.frame fun a ha => by have := w.e.rep.lt a ha; have := w.l2 a ha; exact ⟨by rw [Qq]; omega, QG (by omega)⟩).rep.lifts (by omega)
  · exact (w.p.frame fun a ha => by have := w.p.rep.lt a ha; have := w.l1 a ha; exact ⟨by rw [Qq]; omega, QG (by omega)⟩).rep.lifts (by omega)
 · exact Da.2 ⟨w.e.nd, w.p.nd, fun a ha a' ha' hh => w.d a' ha' (hh ▸ ha)⟩
 ·rw [Qq]
  rcases HK.1 hb with hb | hb
  · have := w.e.rep.lt b hb; have := w.l2 b hb; omega
  · have := w.p.rep.lt b hb; have := w.l1 b hb; omega
theorem jD {n : Nat} {K : H} (hn : n < K.n) (g : K.g n = .rw 0 [.int Ly 0, .sl none 0, .sl none 0]) {c : Int} :
  ∃ h', (stK 3 K (pv n 0) (.agg [.int Ly c, .sl none 0, .sl none 0]) fun h116 => (Qp 3 h116 (pv n 0)).bind fun c117 => some (V.agg c117, h116)) = some (.agg [.int Ly c, .sl none 0, .sl none 0], h') /\ NewC 4 [.int Ly c, .sl none 0, .sl none 0] [.int Ly c, .fs (Z1 []), .fs (bss [])] n h' := by
 rw [Zq (z := 3) (e := 0) (o := 0) (b := n) (cs := [.int Ly 0, .sl none 0, .sl none 0]) (r := [.int Ly c, .sl none 0, .sl none 0]) hn g (.inr rfl) rfl (by simp)]
 rw [show setAt [.int Ly 0, .sl none 0, .sl none 0] 0 [S.int Ly c, .sl none 0, .sl none 0] = [.int Ly c, .sl none 0, .sl none 0] from rfl]
 rw [MD (b := n) (e := 0) (by rw [Qq]; omega) (Z9 _ _ _), ob]
 refine ⟨_, rfl, by rw [Qq]; omega, [], ?_, by simp, by simp⟩
 exact RepL.ed (b1 := []) (b2 := []) Rep.nil Rep.nil
theorem vx {n0 q : Nat} {K : H} {y1 y2 : S} {ps : List (List UInt8)} {es : List RunD} {b1 b2 : List Nat} (w : Dk n0 q y1 y2 ps es b1 b2 K) : ∃ h', call Ev Fn.Uk [pv q 0] K = some (.agg [.int Ly 0, y2, y1], h') /\ tidy K [.agg [.int Ly 0, y2, y1]] h' = K := by
 rw [Nx];have hqn := w.qn;have gq : (K.new 0 [.int Ly 0, .sl none 0, .sl none 0]).g q = .rw 0 [y1, y2] := by rw [QO (by omega)]; exact w.g
 have ld : ∀ {o : Nat}, Qb (K.new 0 [.int Ly 0, .sl none 0, .sl none 0]) (pv q o) = ([y1, y2] : List S)[o]? := fun {o} => by
  have : q < (K.new 0 [.int Ly 0, .sl none 0, .sl none 0]).n := by rw [Xf]; omega
  simp only [Qb, H.cells, this, if_true, gq, Blk.cells]
 simp only [Hw, ld, gx0, gx1, ob];rw [w.e.rep.isNo, w.p.rep.isNo, cond_false, cond_false, K4 (z := 3) rfl rfl, YH (r := [.int Ly 0, y2, y1]) (by simp) rfl, ob]
 refine ⟨_, rfl, Uv ?_⟩;have h1 := w.e.rep.top w.e.rep.lt;have h2 := w.p.rep.top w.p.rep.lt;simp only [HG, AK, Ds, ZM, h1, h2];rfl
theorem V7 {n0 q : Nat} {K : H} {y1 y2 : S} {ps : List (List UInt8)} {es : List RunD} {b1 b2 : List Nat} (w : Dk n0 q y1 y2 ps es b1 b2 K) : ∃ h', call Ev Fn.Ke [pv q 0] K = some (.agg [.int Ly 0, y2, y1], h') /\ tidy K [.agg [.int Ly 0, y2, y1]] h' = K := by
 rw [Tl];have hqn := w.qn;have gq : (K.new 0 [.int Ly 0, .sl none 0, .sl none 0]).g q = .rw 0 [y1, y2] := by rw [QO (by omega)]; exact w.g
 have ld : ∀ {o : Nat}, Qb (K.new 0 [.int Ly 0, .sl none 0, .sl none 0]) (pv q o) = ([y1, y2] : List S)[o]? := fun {o} => by
  have : q < (K.new 0 [.int Ly 0, .sl none 0, .sl none 0]).n := by rw [Xf]; omega
  simp only [Qb, H.cells, this, if_true, gq, Blk.cells]
 simp only [Hw, ld, gx0, gx1, ob];rw [w.e.rep.isNo, w.p.rep.isNo, cond_false, cond_false, K4 (z := 3) rfl rfl, YH (r := [.int Ly 0, y2, y1]) (by simp) rfl, ob]
 refine ⟨_, rfl, Uv ?_⟩;have h1 := w.e.rep.top w.e.rep.lt;have h2 := w.p.rep.top w.p.rep.lt;simp only [HG, AK, Ds, ZM, h1, h2];rfl
end Vm
namespace Vm
open Go
abbrev z3' : List S := [.int Ly 0, .sl none 0, .sl none 0]
theorem WP (c : Int) : Q8 (call Ev) Fn.KE [iv Ly c] = some (.agg [.int Ly c, .fs [], .fs []]) := by
 unfold Q8;rw [Nv, uS, MD (e := 0) (by rw [Qq, Xf]; omega) (Z9 _ _ _), ob, ob]
 simp
theorem Dk.over {q : Nat} {y1 y2 : S} {ps : List (List UInt8)} {es : List RunD} {b1 b2 : List Nat} {h h1 : H} (w : Dk h.n q y1 y2 ps es b1 b2 h1) (hle : h.n <= h1.n) : Dk h.n q y1 y2 ps es b1 b2 (h.over h1) :=
 w.frame (by rw [Xb hle]; omega) fun a ha hb => KL (by
  rcases hb with hb | hb | hb
  · exact (w.l1 a hb).2
  · exact (w.l2 a hb).2
  · rw [hb]; exact w.qn.1)
def dlL (ps : List (List UInt8)) (z : SpotD) : List UInt8 := (ps[z.p]?).getD []
def Ms (ps : List (List UInt8)) (z : SpotD) : List UInt8 := ((ps.set z.p (Z4 (dlL ps z) z.s))[z.c.page.toNat]?).getD []
def dlP (ps : List (List UInt8)) (z : SpotD) : List (List UInt8) := Ng ps z.p z.s (dlL ps z) (z.c.flag == 1) z.c.page.toNat z.c.slot.toNat (Ms ps z)
def dlE (ps : List (List UInt8)) (z : SpotD) : List RunD := Vv z.p z.s (dlL ps z) (z.c.flag == 1) z.c.page.toNat z.c.slot.toNat (Ms ps z)
theorem jy {ps : List (List UInt8)} (h : ZF ps = 0) {z : SpotD} (hz : z ∈ Zg ps) : CellAt ps z.p z.s (dlL ps z) /\ ((z.c.flag == 1) = true -> z.c.page = (z.c.page.toNat : Nat) /\ z.c.slot = (z.c.slot.toNat : Nat) /\ CellAt (ps.set z.p (Z4 (dlL ps z) z.s)) z.c.page.toNat z.c.slot.toNat (Ms ps z)) := by
 obtain ⟨⟨l, w⟩, h2, _⟩ := qB h hz;have hl : dlL ps z = l := by unfold dlL; rw [w.p]; rfl
 refine ⟨by rw [hl]; exact w, fun hf => ?_⟩
 obtain ⟨a, b, l2, q1, q2, w2, hne⟩ := h2 (by simpa using hf)
 obtain ⟨l3, w3⟩ := w.drop w2 hne;have e1 : z.c.page.toNat = a := by omega
 have e2 : z.c.slot.toNat = b := by omega
 refine ⟨by omega, by omega, ?_⟩
 have : Ms ps z = l3 := by unfold Ms; rw [hl, e1, w3.p]; rfl
 rw [this, hl, e1, e2];exact w3
theorem Q1a {ps : List (List UInt8)} (h : ZF ps = 0) {z : SpotD} (hz : z ∈ Zg ps) : (dlE ps z).length <= 2 /\ (dlP ps z).length <= 12 /\ (∀ r ∈ dlE ps z, r.l.length <= 64) /\ ∀ l ∈ dlP ps z, l.length <= 64 := by
 obtain ⟨w1, w2⟩ := jy h hz;obtain ⟨h1, hr, _⟩ := Yk h;have l64 := w1.len.1;have pl : ∀ l ∈ ps, l.length <= 64 := fun l hl => by have := (Qv (hr l hl).1).1; omega
 unfold dlE dlP Vv Ng
 by_cases hf : (z.c.flag == 1) = true
 ·obtain ⟨_, _, w3⟩ := w2 hf
  have l64' := w3.len.1;rw [if_pos hf, if_pos hf];refine ⟨by simp, by simpa using h1, fun r hr => ?_, fun l hl => ?_⟩
  ·simp only [HH, List.mem_nil_iff, or_false] at hr
   rcases hr with rfl | rfl
   · show (Z4 _ _).length <= 64; rw [KK]; omega
   · show (Z4 _ _).length <= 64; rw [KK]; omega
  ·rcases EU hl with hl | rfl
   ·rcases EU hl with hl | rfl
    · exact pl l hl
    · rw [KK]; omega
   · rw [KK]; omega
 ·rw [if_neg hf, if_neg hf]
  refine ⟨by simp, by simpa using h1, fun r hr => ?_, fun l hl => ?_⟩
  ·simp only [HH, List.mem_nil_iff, or_false] at hr
   subst hr;show (Z4 _ _).length <= 64; rw [KK]; omega
  ·rcases EU hl with hl | rfl
   · exact pl l hl
   · rw [KK]; omega
theorem Rj {ps : List (List UInt8)} (hl : ps.length <= 12) (hr : ∀ l ∈ ps, l.length <= lim) {z : SpotD} (w1 : CellAt ps z.p z.s (dlL ps z)) (w2 : (z.c.flag == 1) = true -> z.c.page = (z.c.page.toNat : Nat) /\ z.c.slot = (z.c.slot.toNat : Nat) /\ CellAt (ps.set z.p (Z4 (dlL ps z) z.s)) z.c.page.toNat z.c.slot.toNat (Ms ps z)) (n : Nat) :
  ∃ y u h', call Ev Fn.Jf [lv (bss ps), fv (spc z) 0] (D n) = some (.agg [.int Ly 0, y, u], h') /\ NewC 4 [.int Ly 0, y, u] [.int Ly 0, .fs (Z1 (dlE ps z)), .fs (bss (dlP ps z))] n h' := by
 refine (fun (e : call Ev Fn.Jf [lv (bss ps), fv (spc z) 0] (D n) = _) => ?_) (Vo (bss ps) z.p z.s z.c.code z.c.flag z.c.page z.c.slot z.c.row.tab z.c.row.key z.c.row.val z.c.row.text n)
 rw [e];clear e;generalize hG : (D n).new 0 z3' = G;have gn : G.n = n + 1 := by rw [<- hG]; simp
 have gg : G.g n = .rw 0 z3' := by rw [<- hG]; exact QI (D n) _ _
 obtain ⟨q, y1, bs, h1, e1, d0, n1⟩ := Pk (by unfold lim; omega) hr G.n
 rw [pFt (h := G) e1];have dG := d0.over n1;have kg : (G.over h1).g n = .rw 0 z3' := (Jg (by omega)).1.trans gg
 have kn : G.n <= (G.over h1).n := by rw [Xb n1]; exact n1
 generalize G.over h1 = K at dG kg kn ⊢;clear hG;obtain ⟨h2, v2, b1', b2', e2, d2⟩ := RP dG w1 (by simp) (by omega)
 rw [e2, ob];dsimp only;rw [d2.tidy (Hx _) dG.qn.2 dG.bel];have nn := d2.n;have ng : ∀ a ∈ bs, a ≠ n := fun a ha hh => by have := (dG.l1 a ha).2; omega
 have g2 : h2.g n = .rw 0 z3' := (d2.f n (by omega) (fun hh => ng n hh rfl) (by simp) (fun hh => by have := dG.qn.1; omega)).trans kg
 rw [Q1];unfold dlE dlP Vv Ng
 by_cases hf : (z.c.flag == 1) = true
 ·obtain ⟨q1, q2, w3⟩ := w2 hf
  rw [if_pos hf, if_pos hf, if_pos hf];obtain ⟨h3, v3, b3, b4, e3, d3⟩ := RP d2.w w3 (by simp) (by rw [HN]; omega)
  rw [<- q1, <- q2] at e3;rw [e3, ob];dsimp only;rw [d3.tidy (Hx _) d2.w.qn.2 d2.w.bel];have g3 : h3.g n = .rw 0 z3' := (d3.f n (by omega) (fun hh => by
   have := (d2.w.l1 n hh).2; omega) (fun hh => by have := (d2.w.l2 n hh).2; omega) (fun hh => by have := dG.qn.1; omega)).trans g2
  obtain ⟨h4, e4, t4⟩ := V7 d3.w;rw [e4, ob];dsimp only;rw [t4];simp only [Zb, gx0, gx1, ob, Q2, ln0, ln1, Hw, HA, if_true];obtain ⟨h5, e5, w5⟩ := jq (c := 0) d3.w (by omega) g3
  exact ⟨_, _, h5, e5, w5⟩
 ·rw [if_neg hf, if_neg hf, if_neg hf]
  obtain ⟨h4, e4, t4⟩ := V7 d2.w;rw [e4, ob];dsimp only;rw [t4];simp only [Zb, gx0, gx1, ob, Q2, ln0, ln1, Hw, HA, if_true];obtain ⟨h5, e5, w5⟩ := jq (c := 0) d2.w (by omega) g2
  exact ⟨_, _, h5, e5, w5⟩
noncomputable def deM (ps : List (List UInt8)) (t k : Int) : List RunD × List (List UInt8) := if Ys ps t k = 0 then match (Zg ps).find? (fun x => isK t k x.c.row) with | some z => (dlE ps z, dlP ps z) | none => ([], []) else ([], [])
theorem Vj {ps : List (List UInt8)} {t k : Int} (hc : ZF ps = 0) : (Ji ps).find? (fun x => isK t k x.r) = ((Zg ps).find? fun x => isK t k x.c.row).map QT := by
 obtain ⟨v1, v2⟩ := MO hc;rw [v1, yU (Wi _) v2, us]
theorem NO {ps : List (List UInt8)} {t k : Int} (hl : ps.length <= lim) (hr : ∀ l ∈ ps, l.length <= lim) : Q8 (call Ev) Fn.Ud [lv (bss ps), iv Ly t, iv Ly k] = some (.agg [.int Ly (Ys ps t k), .fs (Z1 (deM ps t k).1), .fs (bss (deM ps t k).2)]) := by
 have hm : ps.length <= maxLen := by unfold lim at hl; unfold maxLen; omega
 have jt : Jn.KI true (bss ps) t k = some (.agg [.int Ly 3, .fs [], .fs []]) := by
  unfold Jn.KI;rw [Q1, if_pos rfl, WP];simp only [Zb, gx0, gx1, ob, Q2, QY, ln0, ln1, Hw, HA, if_true]
 rw [Nw, pc (P3 hm) rfl];simp only [Q3, Q2];rw [Q1];unfold deM Ys
 by_cases hc : ZF ps = 0
 case neg =>
  rw [if_pos (by simpa using hc), if_pos hc, if_neg hc, WP]
  simp only [Zb, gx0, gx1, ob, Q2, QY, ln0, ln1, Hw, HA, if_true];rfl
 rw [if_neg (by simpa using hc), if_neg (by simpa using hc), pc (MB _ _ _) rfl]
 simp only [Q3, QW];rw [Q1, pc (MB _ _ _) rfl];simp only [Q3, QW];rw [jt]
 rcases EO (inB t 0 3) with h1 | h1
 case inr =>
  rw [h1, if_pos (by simp), Bool.false_and, if_pos rfl, if_neg (by decide)]; rfl
 rcases EO (inB k 1 99) with h2 | h2
 case inr =>
  rw [h1, h2, if_neg (by simp), Bool.and_false, if_pos rfl, if_neg (by decide)]
  exact jt
 rw [h1, h2, if_neg (by simp), Bool.and_self, if_neg (by simp)]
 unfold Jn.KI;rw [Q1, if_neg (by simp), pc (qT (xJ hc) (by have := NI hc; unfold maxLen; omega)) (by simp), Vj hc]
 cases hz : (Zg ps).find? (fun x => isK t k x.c.row) with
 | none =>
  simp only [Za, Zb, KM, Zc, QW, gx0, gx1, ob, Q2, Z8, ln0, ln1, Hw, HA, if_true, OV, OW, Option.map_none];rw [Q1, if_pos (show (!false) = true from rfl), WP]
  simp only [Zb, gx0, gx1, ob, Q2, QY, ln0, ln1, Hw, HA, if_true];rfl
 | some z =>
  obtain ⟨d1, d2⟩ := jy hc (ER hz);simp only [Za, Zb, KM, Zc, QW, gx0, gx1, ob, Q2, Z8, ln0, ln1, Hw, HA, if_true, FI, OX, Option.map_some];rw [Q1, if_neg (by simp)]
  generalize hG : (((D 0).new 0 [S.int Ly 0, .sl none 0, .sl none 0]).new 0 [S.int Ly 0, .int Ly 0, .int Ly 0, .int Ly 0, .int Ly 0, .int Ly 0, .int Ly 0, .int Ly 0, .int Ly 0, .str (⟨#[]⟩)]).put 1 (.rw 0 [S.int Ly z.p, .int Ly z.s, .int Ly z.c.code, .int Ly z.c.flag, .int Ly z.c.page, .int Ly z.c.slot, .int Ly z.c.row.tab, .int Ly z.c.row.key, .int Ly z.c.row.val, .str z.c.row.text]) = G;have gn : G.n = 2 := by rw [<- hG]; simp
  have gg : G.g 0 = .rw 0 z3' := by
   rw [<- hG, QG (by decide), QO (by simp)]; exact QI (D 0) _ _
  obtain ⟨y, u, h1, e1, w1⟩ := Rj (Yk hc).1 hr d1 d2 G.n;obtain ⟨K, e2, uK, nK, wK⟩ := pC (off := false) rfl e1 w1;refine (congrArg (fun (o : Option V) => o = _) (e2 V _)).mpr ?_
  simp only [Zb, gx0, gx1, ob, Q2, ln0, ln1, Hw, HA, if_true];have kg : K.g 0 = .rw 0 z3' := (uK.g 0 (by omega)).trans gg
  rw [Zq (z := 3) (e := 0) (o := 0) (b := 0) (cs := z3') (r := [.int Ly 0, y, u]) (by omega) kg (.inr rfl) rfl (by simp)]
  rw [show setAt z3' 0 [S.int Ly 0, y, u] = [S.int Ly 0, y, u] from rfl]
  rw [MD (b := 0) (e := 0) (by rw [Qq]; omega) (Z9 _ _ _), ob]
  obtain ⟨bs, r1, r2, r3⟩ := wK.now;have own : YW 4 [.int Ly 0, y, u] [.int Ly 0, .fs (Z1 (dlE ps z)), .fs (bss (dlP ps z))] G.n K.n (K.put 0 (.rw 0 [.int Ly 0, y, u])) := ⟨bs, r1.frame fun b hb => by
   have := r3 b hb;exact ⟨by rw [Qq]; omega, QG (by omega)⟩, r2, r3⟩
  rw [own.frz]
theorem PG {ps : List (List UInt8)} {t k : Int} (hl : ps.length <= lim) (hr : ∀ l ∈ ps, l.length <= lim) (n : Nat) :
  ∃ y u h', call Ev Fn.JT [lv (bss ps), iv Ly t, iv Ly k] (D n) = some (.agg [.int Ly (Ys ps t k), y, u], h') /\ NewC 4 [.int Ly (Ys ps t k), y, u] [.int Ly (Ys ps t k), .fs (Z1 (deM ps t k).1), .fs (bss (deM ps t k).2)] n h' := by
 have hm : ps.length <= maxLen := by unfold lim at hl; unfold maxLen; omega
 rw [Nz];generalize hG : (D n).new 0 [S.int Ly 0, .sl none 0, .sl none 0] = G;have gn : G.n = n + 1 := by rw [<- hG]; simp
 have gg : G.g n = .rw 0 z3' := by rw [<- hG]; exact QI (D n) _ _
 obtain ⟨y, h1, o, e1, w1, g1⟩ := we hm G.n;rw [pFt (h := G) e1];have kg : (G.over h1).g n = .rw 0 z3' := (Jg (by omega)).1.trans gg
 have kn : n + 1 <= (G.over h1).n := by simp only [H.over]; omega
 have wK : Ls (G.over h1) y (Ji ps) o := w1.frame fun c hc => by
  have h2 := g1 c hc;subst hc;have := w1.lt;exact ⟨by simp only [H.over]; omega, KL h2⟩
 generalize G.over h1 = K at kg kn wK ⊢;simp only [Za, gx0, gx1, ob, Zc, Q2, QY, ln0, ln1, Hw, HA, if_true, D_n];rw [Q1];unfold deM Ys
 by_cases hc : ZF ps = 0
 case neg =>
  rw [if_pos (by simpa using hc), if_pos hc, if_neg hc]
  obtain ⟨h5, e5, w5⟩ := jD (c := ZF ps) (by omega : n < K.n) kg
  exact ⟨_, _, h5, e5, w5⟩
 rw [if_neg (by simpa using hc), if_neg (by simpa using hc), pc (xL t k) rfl]
 simp only [Q3, QW];rw [Q1]
 rcases EO (inB t 0 3 && inB k 1 99) with hk | hk
 case inr =>
  rw [hk, if_pos (by simp), if_pos rfl, if_neg (by decide)]
  obtain ⟨h5, e5, w5⟩ := jD (c := 3) (by omega : n < K.n) kg
  exact ⟨_, _, h5, e5, w5⟩
 rw [hk, if_neg (by simp), if_neg (by simp)]
 rw [Qa (by rw [Y1, wK.frz (d := 7)]; rfl) (Qa XG (Qa XG QE)), ob, Z2, pc (yt (by have := GX ps; unfold maxLen; omega)) (by simp), Vj hc]
 cases hz : (Zg ps).find? (fun x => isK t k x.c.row) with
 | none =>
  simp only [Za, Zb, KM, Zc, QW, gx0, gx1, ob, Q2, Z8, ln0, ln1, Hw, HA, if_true, OV, OW, Option.map_none];rw [K4 (z := 9) rfl rfl, Q1, if_pos (show (!false) = true from rfl)]
  have xg : (Zl K z9 noS.cs).g n = .rw 0 z3' := (Gi (by omega)).trans kg
  obtain ⟨h5, e5, w5⟩ := jD (c := 4) (by rw [XK]; omega : n < (Zl K z9 noS.cs).n) xg
  exact ⟨_, _, h5, e5, w5⟩
 | some z =>
  obtain ⟨d1, d2⟩ := jy hc (ER hz);have hfl := (qB hc (ER hz)).2.2;simp only [Za, Zb, KM, Zc, QW, gx0, gx1, ob, Q2, Z8, ln0, ln1, Hw, HA, if_true, FI, OX, Option.map_some];rw [K4 (z := 9) rfl rfl, Q1, if_neg (by simp)]
  have xg : (Zl K z9 (QT z).cs).g n = .rw 0 z3' := (Gi (by omega)).trans kg
  have xx : (Zl K z9 (QT z).cs).g K.n = .rw 0 (QT z).cs := JZ _ _ _;have xn : (Zl K z9 (QT z).cs).n = K.n + 1 := XK _ _ _
  change ∃ y u h', Qj (call Ev) Fn.Wd true [lv (bss ps)] (Zl K z9 (QT z).cs) _ = _ /\ _
  generalize Zl K z9 (QT z).cs = X at xg xx xn ⊢;obtain ⟨q, y1, bs, h2, e2, dd, n2⟩ := uv hl hr X.n;rw [pFt (h := X) e2];have dG := dd.over n2;have mg : (X.over h2).g n = .rw 0 z3' := (Jg (by omega)).1.trans xg
  have mx : (X.over h2).g K.n = .rw 0 (QT z).cs := (Jg (by omega)).1.trans xx
  have mn : X.n <= (X.over h2).n := by rw [Xb n2]; exact n2
  generalize X.over h2 = M at dG mg mx mn ⊢;rw [Xh (n := 9) (e := 0) (b := K.n) (cs := (QT z).cs) (by omega) mx (by simp), HX, show List.take 9 (QT z).cs = (QT z).cs from rfl, ob]
  simp only [gx0, gx1, ob, Q2, Z8, QW, ln0, ln1, Hw, HA, if_true];have hp := jL z;have hmv : (QT z).moved = (z.c.flag == 1) := by
   unfold QT; split
   · rename_i h; simp [h]
   · rename_i h; simp [h, N3]
  have hpt : (QT z).moved = true -> (QT z).at_ = z.c.page /\ (QT z).place = z.c.slot := fun h => by
   rw [hmv] at h;unfold QT;rw [if_pos (by simpa using h)]
   exact ⟨rfl, rfl⟩
  obtain ⟨h3, v3, b3, b4, e3, d3⟩ := vA (x := QT z) (a := z.c.page.toNat) (b := z.c.slot.toNat) (l2 := Ms ps z) dG hp.1 hp.2 d1 (fun h => by
   obtain ⟨a1, a2⟩ := hpt h;obtain ⟨a3, a4, a5⟩ := d2 (by rw [<- hmv]; exact h)
   exact ⟨a1.trans a3, a2.trans a4, a5⟩) (by have := (Yk hc).1; omega)
  change ∃ y u h', ((call Ev Fn.J5 [pv q 0, .agg (QT z).cs] M).bind _) = _ /\ _
  rw [e3, ob];dsimp only;rw [d3.tidy (Hx _) dG.qn.2 dG.bel];obtain ⟨h4, e4, t4⟩ := vx d3.w;rw [e4, ob];dsimp only;rw [t4];simp only [Zb, gx0, gx1, ob, Q2, ln0, ln1, Hw, HA, if_true];have hn3 := d3.n;have g3 : h3.g n = .rw 0 z3' := (d3.f n (by omega) (fun hh => by
   have := (dG.l1 n hh).2; omega) (by simp) (fun hh => by have := dG.qn.1; omega)).trans mg
  obtain ⟨h5, e5, w5⟩ := jq (c := 0) d3.w (by omega) g3
  rw [hmv] at w5;exact ⟨_, _, h5, e5, w5⟩
end Vm
namespace Vm
open Go
theorem Q0s {b : Nat} {l : List UInt8} {a : Nat} {h : H} (w : Src b l a h) (hl : l.length <= 1048576) (ha : a + 1000 < 1099511627776) :
  ∃ q p h', call Ev Fn.Zd [pv b 0] h = some (sv q 0 64, h') /\ BysW h' (sv q 0 64) p q /\ QH p = 0 /\ h.n <= q /\ Dr b l a 600 h h' := by
 have hb := w.n;rw [Rr];obtain ⟨x1, h1, e1, m1, w1, n1, o1, t1⟩ := Mx w hl (by omega) (xs := [0, 0, 7]) (by simp) (by simp)
 simp only [HM, FY, Hw, HA, HS, EF] at e1 t1;rw [e1]; simp only [ob, Q3, Q2]; rw [t1];have hx : 0 <= x1 /\ x1 < 256 := by
  simp only [HH, EL, or_false] at m1;omega
 rw [w8 hx.1 hx.2];obtain ⟨h2, e2, w2⟩ := Bw hx.1 hx.2 h1.n;rw [pF (h := h1) e2 ⟨rfl, w2.z⟩];obtain ⟨u2, wp, hq⟩ := w2.over;generalize h1.over h2 = K at u2 wp ⊢;obtain ⟨x3, h3, e3, r3, b3, w3, n3, o3, t3⟩ := XJ (w1.up u2) hl (by omega) (n := 14) (by omega) (by omega)
 rw [e3]; simp only [ob, Q3, Q2]; rw [t3];obtain ⟨k, rfl⟩ : ∃ k : Nat, x3 = k := ⟨x3.toNat, by omega⟩
 have hb1 := w1.n;have wp3 : BysW h3 (sv h1.n 0 64) (XE x1) h1.n := wp.fr (by omega) (o3 h1.n (by omega))
 have hu := u2.n;obtain ⟨q', p', h', e4, w4, p4, q4, ⟨a', s4, ha'⟩, n4, o4⟩ := vT hl k (a + 1 + 1) h1.n h.n (XE x1) h3 w3 (by omega) hb n1 wp3 (MC x1)
 rw [e4, ob, Qc];simp only [gx0, ob];exact ⟨q', p', h', rfl, w4, p4, q4, ⟨⟨a', s4, by omega⟩, by omega, fun c hc hcb => by rw [o4 c hc hcb, o3 c hcb, u2.g c (by omega), o1 c hc hcb]⟩⟩
theorem Q5h {h : H} {q : Nat} {p : List UInt8} (w : BysW h (sv q 0 64) p q) (h64 : p.length = 64) {R : Type} {k : V -> Option R} : slK 1 h (sv q 0 64) (some (iv Ly 1)) none k = k (sv q 1 63) := by
 have := uV (R := R) (kd := Ly) (k := k) w (a := 1) (by omega)
 rw [show iv Ly 1 = iv Ly ((1 : Nat) : Int) from rfl, this, h64]
theorem Q12 {h : H} {q d : Nat} {p : List UInt8} (w : BysW h (sv q 0 64) p q) (h64 : p.length = 64) : Qy h (d + 1) (.sl (some (q, 1)) 63) = some (.fs (bys (p.drop 1))) := by
 have hg := w.g;have hn := w.n;simp only [Qy];rw [if_neg (by omega)]
 simp only [hn, if_true, hg];rw [if_pos ⟨by omega, by simp [h64]⟩]
 have e : ((p.map QA).drop 1).take (63 * 1) = (bys (p.drop 1)).flatten := by
  rw [Un, <- List.map_drop, Fz (by simp [h64])]
 rw [e, Bp (fun s hs => by
  obtain ⟨r, h1, h2⟩ := DB.1 hs;exact wT r h1 s h2)]
 have hc := Gd (z := 1) (rows := bys (p.drop 1)) YR;rw [Xe, show (p.drop 1).length = 63 from by simp [h64]] at hc
 rw [ob, hc]
theorem Q0w {b : Nat} {l : List UInt8} {a : Nat} {h : H} (w : Src b l a h) (hl : l.length <= 1048576) (ha : a + 1000 < 1099511627776) :
  ∃ y q p h', call Ev Fn.Mm [pv b 0] h = some (.s y, h') /\ p.length <= 64 /\ ZL y = true /\ h.n <= q /\ q < h'.n /\ (∀ vs, .s y ∈ vs -> Vm.tidy h vs h' = h') /\ Dr b l a 700 h h' /\ (∀ h'' d, h'.n <= h''.n -> h''.g q = h'.g q -> Qy h'' (d + 1) y = some (.fs (bys p))) := by
 have hb := w.n;rw [Tr];obtain ⟨q, p, h1, e1, wp, hp, hq, d1⟩ := Q0s w hl ha;have h64 := (Qv hp).1;rw [e1, ob];dsimp only;rw [Kr (h := h) (h' := h1) (by simp [ZM, QR]; omega)]
 obtain ⟨a1, s1, ha1⟩ := d1.ex;have hd1 := d1.n;have hqb : q ≠ b := by omega
 obtain ⟨x2, h2, e2, r2, b2, w2, n2, o2, t2⟩ := XJ s1 hl (by omega) (n := 12) (by omega) (by omega)
 rw [e2]; simp only [ob, Q3, Q2]; rw [t2];have wp2 : BysW h2 (sv q 0 64) p q := wp.fr (by omega) (o2 q hqb)
 have dr2 : Dr b l a 601 h h2 := ⟨⟨_, w2, by omega⟩, by omega, fun c hc hcb => by rw [o2 c hcb, d1.o c hc hcb]⟩
 have nt : ∀ {o k : Nat} {X : H} (vs : List V), V.s (.sl (some (q, o)) k) ∈ vs -> Vm.tidy h vs X = X := fun vs hv => Kr (by
  rw [Dt];intro hh;have := Fw.1 hh _ hv;simp [ZM, QR] at this; omega)
 have fz : ∀ {X : H} {p : List UInt8}, BysW X (sv q 0 64) p q -> p.length = 64 -> ∀ h'' d, X.n <= h''.n -> h''.g q = X.g q -> Qy h'' (d + 1) (.sl (some (q, 0)) 64) = some (.fs (bys p)) := fun {X p} wx hx h'' d hn hg => by
  have := ((wx.fr hn hg).frz (d := d)).2;rwa [hx] at this
 rw [Q1]
 by_cases c0 : x2 = 0
 ·rw [if_pos (by simp [c0]), Q5h wp2 h64]
  exact ⟨_, q, p.drop 1, h2, rfl, by simp [h64], rfl, hq, wp2.n, fun vs hv => nt vs hv, ⟨⟨_, w2, by omega⟩, dr2.n, dr2.o⟩, fun h'' d hn hg => Q12 (wp2.fr hn hg) h64⟩
 rw [if_neg (by simpa using c0), Q1]
 by_cases c1 : x2 = 1
 ·rw [if_pos (by simp [c1])]
  obtain ⟨x3, h3, e3, r3, b3, w3, n3, o3, t3⟩ := XJ w2 hl (by omega) (n := 12) (by omega) (by omega)
  rw [e3]; simp only [ob, Q3, Q2]; rw [t3];obtain ⟨x4, h4, e4, r4, b4, w4, n4, o4, t4⟩ := XJ w3 hl (by omega) (n := 70) (by omega) (by omega)
  rw [e4]; simp only [ob, Q3, Q2]; rw [t4];obtain ⟨i, rfl⟩ : ∃ i : Nat, x3 = i := ⟨x3.toNat, by omega⟩
  have wp4 : BysW h4 (sv q 0 64) p q := wp2.fr (by omega) (by rw [o4 q hqb, o3 q hqb])
  rw [Z3 (by omega), wp4.set (c := HB x4.toNat) (by omega) (by rw [w8 (by omega) (by omega)]; simp; omega)]
  have wp5 := wp4.set_w (i := i) (c := HB x4.toNat);have hg5 : ∀ c, c ≠ q -> (h4.put q (.rw 1 ((p.set i (HB x4.toNat)).map QA))).g c = h4.g c := fun c hc => QG hc
  have hn5 : (h4.put q (.rw 1 ((p.set i (HB x4.toNat)).map QA))).n = h4.n := Qq _ _ _;generalize h4.put q (.rw 1 ((p.set i (HB x4.toNat)).map QA)) = X at wp5 hg5 hn5 ⊢;have hb4 := w4.n;exact ⟨_, q, p.set i (HB x4.toNat), X, rfl, by simp [h64], rfl, hq, wp5.n, fun vs hv => nt vs hv, ⟨⟨_, ⟨by omega, by rw [hg5 b (by omega)]; exact w4.g⟩, by omega⟩, by omega, fun c hc hcb => by rw [hg5 c (by omega), o4 c hcb, o3 c hcb, dr2.o c hc hcb]⟩, fz wp5 (by simp [h64])⟩
 rw [if_neg (by simpa using c1)]
 exact ⟨_, q, p, h2, rfl, by omega, rfl, hq, wp2.n, fun vs hv => nt vs hv, ⟨⟨_, w2, by omega⟩, dr2.n, dr2.o⟩, fz wp2 h64⟩
theorem vw {l : List UInt8} (h : H) : ∃ K : H, (∀ (R : Type) (k : V -> H -> Option R), Qj (call Ev) Fn.WM true [lv (bys l)] h k = k (pv h.n 0) K) /\ Src h.n l 0 K /\ Up h K /\ K.n = h.n + 1 := by
 have hle : h.n <= ((D h.n).new 0 [.fs (bys l), .int Ly 0]).n := by simp
 refine ⟨h.over ((D h.n).new 0 [.fs (bys l), .int Ly 0]), fun R k => ?_, ⟨by rw [Xb hle]; simp, by rw [KL (Hx _)]; exact QI (D h.n) _ _⟩, Je hle, by rw [Xb hle]; simp⟩
 unfold Qj;rw [Vq, Vm.ob];unfold YV;rw [if_pos (.inl rfl)]; rfl
end Vm
namespace Vm
open Go
theorem Q0C {l : List UInt8} : Q8 (call Ev) Fn.N7 [lv (bys l)] = some (bv (decide ((l.length : Int) > 1048576))) := by
 rw [PA, Xe]
end Vm
namespace Vm
open Go
def pgC (l : List UInt8) (b : Int) : Option CellD := if Z7 l b = true then some (QS (Qm l b.toNat)) else none
theorem Xp {ps : List (List UInt8)} {a : Nat} {l : List UInt8} (h : ps[a]? = some l) (b : Int) : Qg ps (a : Int) b = pgC l b := by
 have hl := (HF.1 h).1;unfold Qg pgC;rw [if_pos (by omega), HQ, h]
theorem Yv {ps : List (List UInt8)} {a b : Int} (h : ¬ (0 <= a /\ a < ps.length)) : Qg ps a b = none := by
 unfold Qg; rw [if_neg h]
theorem Ge {ps : List (List UInt8)} {p : Nat} {m : List UInt8} (hp : p < ps.length) (a b : Int) : Qg (ps.set p m) a b = if a = (p : Int) then pgC m b else Qg ps a b := by
 by_cases ha : 0 <= a /\ a < ps.length
 ·obtain ⟨k, rfl⟩ : ∃ k : Nat, a = k := ⟨a.toNat, by omega⟩
  have hk : k < ps.length := by omega
  by_cases hkp : k = p
  ·subst hkp
   rw [if_pos rfl];exact Xp (by rw [Dc hk]) b
  ·rw [if_neg (by omega), Xp (l := ps[k]) (HI hk) b]
   exact Xp (by rw [EN (fun e => hkp e.symm), HI hk]) b
 · rw [if_neg (by omega), Yv ha, Yv (by rw [HN]; exact ha)]
theorem jB {ps : List (List UInt8)} {m : List UInt8} (a b : Int) : Qg (ps ++ [m]) a b = if a = (ps.length : Int) then pgC m b else Qg ps a b := by
 by_cases ha : 0 <= a /\ a < ps.length
 ·obtain ⟨k, rfl⟩ : ∃ k : Nat, a = k := ⟨a.toNat, by omega⟩
  have hk : k < ps.length := by omega
  rw [if_neg (by omega), Xp (l := ps[k]) (HI hk) b]
  exact Xp (by rw [HZ hk, HI hk]) b
 ·by_cases he : a = (ps.length : Int)
  ·subst he
   rw [if_pos rfl];exact Xp (by rw [FM (Hx _)]; simp) b
  · rw [if_neg he, Yv ha, Yv (by rw [HO]; simp; omega)]
theorem Vb {l : List UInt8} {b : Int} {c : CellD} (h : pgC l b = some c) : ∃ k : Nat, b = k /\ Z7 l (k : Int) = true /\ c = QS (Qm l k) := by
 unfold pgC at h
 split at h
 ·rename_i h1
  obtain ⟨k, rfl, h2, h3⟩ := J6 h1
  injection h with h
  exact ⟨k, rfl, h1, by rw [<- h, HQ]⟩
 · cases h
theorem Gj {l : List UInt8} {k : Nat} (h : Z7 l (k : Int) = true) : pgC l (k : Int) = some (QS (Qm l k)) := by
 unfold pgC; rw [if_pos h, HQ]
theorem NN {l : List UInt8} {b : Int} (h : Z7 l b = false) : pgC l b = none := by
 unfold pgC; rw [h]; rfl
theorem zk {l : List UInt8} (hp : QH l = 0) {k : Nat} (h : Z7 l (k : Int) = true) : k < 16 := by
 obtain ⟨_, ⟨q1, _⟩, _⟩ := Qv hp;have := (Ka.1 h).1;have := Xd l;omega
theorem MF {l m : List UInt8} {s : Int} (hl : QH l = 0) (hm : QH m = 0) (w : VB l m s) {b : Int} (hb : b ≠ s) : pgC m b = pgC l b := by
 cases hc : pgC l b with
 | some c =>
  obtain ⟨k, rfl, h1, h2⟩ := Vb hc;obtain ⟨w1, w2⟩ := w k (zk hl h1) hb;rw [Gj (w1.trans h1), w2 h1, h2]
 | none =>
  cases hc2 : pgC m b with
  | none => rfl
  | some c =>
   obtain ⟨k, rfl, h1, h2⟩ := Vb hc2;obtain ⟨w1, w2⟩ := w k (zk hm h1) hb;rw [Gj (w1.symm.trans h1)] at hc; cases hc
abbrev CF := Int -> Int -> Option CellD
structure OkF (F : CF) : Prop where
 c : ∀ a b c, F a b = some c -> c.code = 0
 m : ∀ a b c, F a b = some c -> c.flag = 1 -> ∃ d, F c.page c.slot = some d /\ d.flag = 2
 u : ∀ a b c a' b' c', F a b = some c -> F a' b' = some c' -> c.flag = 1 -> c'.flag = 1 -> c.page = c'.page -> c.slot = c'.slot -> a = a' /\ b = b'
def upd (F : CF) (p s : Int) (v : Option CellD) : CF := fun a b => if a = p /\ b = s then v else F a b
theorem XQ {F : CF} {p s : Int} {v : Option CellD} : upd F p s v p s = v := if_pos ⟨rfl, rfl⟩
theorem Zp {F : CF} {p s a b : Int} {v : Option CellD} (h : ¬ (a = p /\ b = s)) : upd F p s v a b = F a b := if_neg h
theorem OkF.put {F : CF} (w : OkF F) {p s : Int} {c : CellD} (hc : c.code = 0) (hf : c.flag ≠ 1) (ho : F p s = none \/ ∃ d, F p s = some d /\ (d.flag = 2 -> c.flag = 2)) : OkF (upd F p s (some c)) := by
 refine ⟨fun a b d h => ?_, fun a b d h h1 => ?_, fun a b d a' b' d' h h' h1 h1' e1 e2 => ?_⟩
 ·by_cases hab : a = p /\ b = s
  ·obtain ⟨rfl, rfl⟩ := hab
   rw [XQ] at h
   injection h with h
   rw [<- h]; exact hc
  · rw [Zp hab] at h; exact w.c a b d h
 ·by_cases hab : a = p /\ b = s
  ·obtain ⟨rfl, rfl⟩ := hab
   rw [XQ] at h
   injection h with h
   rw [<- h] at h1; exact absurd h1 hf
  ·rw [Zp hab] at h
   obtain ⟨e, g1, g2⟩ := w.m a b d h h1
   by_cases ht : d.page = p /\ d.slot = s
   ·rw [ht.1, ht.2] at g1 ⊢
    rcases ho with ho | ⟨d2, ho, k⟩
    · rw [ho] at g1; cases g1
    ·rw [ho] at g1
     injection g1 with g1
     exact ⟨c, XQ, k (by rw [g1]; exact g2)⟩
   · exact ⟨e, by rw [Zp ht]; exact g1, g2⟩
 ·have k1 : ¬ (a = p /\ b = s) := fun hh => by
   rw [hh.1, hh.2, XQ] at h
   injection h with h
   rw [<- h] at h1; exact hf h1
  have k2 : ¬ (a' = p /\ b' = s) := fun hh => by
   rw [hh.1, hh.2, XQ] at h'
   injection h' with h'
   rw [<- h'] at h1'; exact hf h1'
  rw [Zp k1] at h;rw [Zp k2] at h';exact w.u a b d a' b' d' h h' h1 h1' e1 e2
theorem OkF.drop {F : CF} (w : OkF F) {p s : Int} (hn : ∀ a b c, F a b = some c -> c.flag = 1 -> ¬ (a = p /\ b = s) -> ¬ (c.page = p /\ c.slot = s)) : OkF (upd F p s none) := by
 have old : ∀ {a b c}, upd F p s none a b = some c -> ¬ (a = p /\ b = s) /\ F a b = some c := fun {a b c} h => by
  by_cases hab : a = p /\ b = s
  · rw [hab.1, hab.2, XQ] at h; cases h
  · rw [Zp hab] at h; exact ⟨hab, h⟩
 refine ⟨fun a b d h => w.c a b d (old h).2, fun a b d h h1 => ?_, fun a b d a' b' d' h h' h1 h1' e1 e2 => w.u a b d a' b' d' (old h).2 (old h').2 h1 h1' e1 e2⟩
 obtain ⟨k, h2⟩ := old h;obtain ⟨e, g1, g2⟩ := w.m a b d h2 h1;exact ⟨e, by rw [Zp (hn a b d h2 h1 k)]; exact g1, g2⟩
theorem OkF.stub {F : CF} (w : OkF F) {p s : Int} {c d0 e : CellD} (hc : c.code = 0) (hf : c.flag = 1) (h0 : F p s = some d0) (hd0 : d0.flag ≠ 2) (he : F c.page c.slot = some e) (he2 : e.flag = 2) (hn : ∀ a b d, F a b = some d -> d.flag = 1 -> ¬ (d.page = c.page /\ d.slot = c.slot)) : OkF (upd F p s (some c)) := by
 have hne : ¬ (c.page = p /\ c.slot = s) := fun hh => by
  rw [hh.1, hh.2, h0] at he
  injection he with he
  rw [he] at hd0; exact hd0 he2
 refine ⟨fun a b d h => ?_, fun a b d h h1 => ?_, fun a b d a' b' d' h h' h1 h1' e1 e2 => ?_⟩
 ·by_cases hab : a = p /\ b = s
  ·rw [hab.1, hab.2, XQ] at h
   injection h with h
   rw [<- h]; exact hc
  · rw [Zp hab] at h; exact w.c a b d h
 ·by_cases hab : a = p /\ b = s
  ·rw [hab.1, hab.2, XQ] at h
   injection h with h
   rw [<- h, Zp hne];exact ⟨e, he, he2⟩
  ·rw [Zp hab] at h
   obtain ⟨g, g1, g2⟩ := w.m a b d h h1;have hx : ¬ (d.page = p /\ d.slot = s) := fun hh => by
    rw [hh.1, hh.2, h0] at g1
    injection g1 with g1
    rw [g1] at hd0; exact hd0 g2
   exact ⟨g, by rw [Zp hx]; exact g1, g2⟩
 ·by_cases hab : a = p /\ b = s
  ·by_cases hab' : a' = p /\ b' = s
   · exact ⟨hab.1.trans hab'.1.symm, hab.2.trans hab'.2.symm⟩
   ·rw [hab.1, hab.2, XQ] at h
    rw [Zp hab'] at h'
    injection h with h
    exact absurd ⟨by rw [<- e1, h], by rw [<- e2, h]⟩ (hn a' b' d' h' h1')
  ·by_cases hab' : a' = p /\ b' = s
   ·rw [hab'.1, hab'.2, XQ] at h'
    rw [Zp hab] at h
    injection h' with h'
    exact absurd ⟨by rw [e1, h'], by rw [e2, h']⟩ (hn a b d h h1)
   ·rw [Zp hab] at h
    rw [Zp hab'] at h';exact w.u a b d a' b' d' h h' h1 h1' e1 e2
structure Okp (ps : List (List UInt8)) : Prop where
 n : ps.length <= 12
 p : ∀ l ∈ ps, QH l = 0
 f : OkF (Qg ps)
theorem Okp.right {ps : List (List UInt8)} (w : Okp ps) : Yj ps := fun l hl => ⟨w.p l hl, fun s hs => by
 obtain ⟨i, hi⟩ := List.getElem?_of_mem hl;exact w.f.c i s _ ((Xp hi s).trans (Gj hs))⟩
theorem Okp.spot {ps : List (List UInt8)} (w : Okp ps) : ∀ x ∈ Qh 0 ps, Qg ps (x.p : Int) (x.s : Int) = some x.c :=
 Wj (Q := fun x => Qg ps (x.p : Int) (x.s : Int) = some x.c) ps 0 fun i l hi s hs => by
  have : ((0 + i : Nat) : Int) = (i : Int) := by omega
  show Qg ps ((0 + i : Nat) : Int) (s : Int) = some (QS (Qm l s));rw [this];exact (Xp hi s).trans (Gj hs)
theorem T8 {ms : List SpotD} : ∀ {sp : List SpotD}, (∀ x ∈ sp, x.c.flag = 1 -> (mvF ms x.c.page x.c.slot).isSome = true) -> KW ms (QF sp) = false
 | [], _ => rfl
 | y :: sp, h => by
  by_cases hy : y.c.flag = 1
  ·rw [Ym hy, Wo, T8 fun x hx => h x (by simp [hx]), Bool.or_false]
   have := h y (by simp) hy
   change (mvF ms y.c.page y.c.slot).isNone = false
   cases hm : mvF ms y.c.page y.c.slot with
   | none => rw [hm] at this; cases this
   | some r => rfl
  · rw [Jq hy]; exact T8 fun x hx => h x (by simp [hx])
theorem Okp.miss {ps : List (List UInt8)} (w : Okp ps) : KW (QZ (Qh 0 ps)) (QF (Qh 0 ps)) = false :=
 T8 fun x hx hf => by
  obtain ⟨d, g1, g2⟩ := w.f.m _ _ _ (w.spot x hx) hf;rw [Gm, g1, HC, if_pos g2]; rfl
theorem Okp.seen {ps : List (List UInt8)} (w : Okp ps) : Q8 (call Ev) Fn.ZD [lv (bss ps)] = some (lv (sps (Zg ps))) := Vc w.right w.n w.miss
theorem Okp.len {ps : List (List UInt8)} (w : Okp ps) : (Zg ps).length <= 192 := by
 have := Yw (all := ps) ps 0 (fun l hl => w.right.cnt hl)
 have := NH (QZ (Qh 0 ps)) (Qh 0 ps);have := w.n;unfold Zg;omega
theorem Okp.at {ps : List (List UInt8)} (w : Okp ps) {z : SpotD} (hz : z ∈ Zg ps) : ∃ c, Qg ps (z.p : Int) (z.s : Int) = some c /\ c.flag = z.c.flag /\ c.page = z.c.page /\ c.slot = z.c.slot /\ z.c.flag ≠ 2 := by
 unfold Zg JO at hz;obtain ⟨x, hx, rfl⟩ := HR.1 hz;obtain ⟨hxs, hxf⟩ := List.mem_filter.1 hx;obtain ⟨e1, e2, e3, e4, e5⟩ := qA (QZ (Qh 0 ps)) x;refine ⟨x.c, by rw [e1, e2]; exact w.spot x hxs, e3.symm, e4.symm, e5.symm, ?_⟩
 rw [e3];simpa using hxf
theorem J1 {ps : List (List UInt8)} (hp : ∀ l ∈ ps, QH l = 0) {a b : Int} {c : CellD} (h : Qg ps a b = some c) : ∃ (i k : Nat) (l : List UInt8), a = i /\ b = k /\ CellAt ps i k l /\ c = QS (Qm l k) := by
 obtain ⟨i, k, l, h1, h2, h3, h4, h5⟩ := WK h;exact ⟨i, k, l, h1, h2, ⟨h3, hp l (HU h3), h4⟩, h5⟩
theorem wQ {ps : List (List UInt8)} {p : Nat} {l m : List UInt8} (hl : ps[p]? = some l) (hp : QH l = 0) (hm : inB m.length 1 20 = true) (hc : (pu0 l m).1 = 0) :
  Qg (ps.set p (pu0 l m).2.2) = upd (Qg ps) p (pu0 l m).2.1 (some (QS m)) /\ Qg ps p (pu0 l m).2.1 = none /\ QH (pu0 l m).2.2 = 0 := by
 obtain ⟨s1, s2, s3, s4, s5, _, s6, s7⟩ := NL hp hm hc;have hlt := (HF.1 hl).1;refine ⟨?_, (Xp hl _).trans (NN s5), s1⟩
 funext a b
 rw [Ge hlt]
 by_cases ha : a = (p : Int)
 ·rw [if_pos ha]
  by_cases hb : b = (pu0 l m).2.1
  ·subst ha; subst hb
   rw [XQ];unfold pgC;rw [if_pos s3, s4]
  · rw [Zp (fun hh => hb hh.2), MF hp s1 s2 hb, ha, Xp hl]
 · rw [if_neg ha, Zp (fun hh => ha hh.1)]
theorem kH {ps : List (List UInt8)} {p : Nat} {l : List UInt8} (hl : ps[p]? = some l) (hp : QH l = 0) : Qg (ps.set p (KZ l)) = Qg ps /\ QH (KZ l) = 0 := by
 obtain ⟨s1, s2, _⟩ := kD hp;have hlt := (HF.1 hl).1;refine ⟨?_, s1⟩
 funext a b
 rw [Ge hlt]
 by_cases ha : a = (p : Int)
 ·rw [if_pos ha, ha, Xp hl]
  by_cases hb : b = -1
  ·subst hb
   have : ∀ l : List UInt8, Z7 l (-1) = false := fun l => by
    cases hh : Z7 l (-1) with
    | false => rfl
    | true => obtain ⟨k, h1, _⟩ := J6 hh; omega
   rw [NN (this _), NN (this _)]
  · exact MF hp s1 s2 hb
 · rw [if_neg ha]
theorem wP {ps : List (List UInt8)} {p k : Nat} {l m : List UInt8} (hl : ps[p]? = some l) (hp : QH l = 0) (hc : (Jb l (k : Int) m).1 = 0) :
  Qg (ps.set p (Jb l (k : Int) m).2.2) = upd (Qg ps) p k (some (QS m)) /\ QH (Jb l (k : Int) m).2.2 = 0 := by
 obtain ⟨s1, s2, s3, s4, s5⟩ := qz hc;have hlt := (HF.1 hl).1;refine ⟨?_, s1⟩
 funext a b
 rw [Ge hlt]
 by_cases ha : a = (p : Int)
 ·rw [if_pos ha]
  by_cases hb : b = (k : Int)
  ·subst ha; subst hb
   rw [XQ];unfold pgC;rw [if_pos s3, s4]
  · rw [Zp (fun hh => hb hh.2), MF hp s1 s2 hb, ha, Xp hl]
 · rw [if_neg ha, Zp (fun hh => ha hh.1)]
theorem MK {ps : List (List UInt8)} {p k : Nat} {l : List UInt8} (ca : CellAt ps p k l) : Qg (ps.set p (Z4 l k)) = upd (Qg ps) p k none /\ QH (Z4 l k) = 0 := by
 obtain ⟨s1, s2, s3⟩ := Bx ca.l ca.len.2.2.1;have hlt := (HF.1 ca.p).1;refine ⟨?_, s1⟩
 funext a b
 rw [Ge hlt]
 by_cases ha : a = (p : Int)
 ·rw [if_pos ha]
  by_cases hb : b = (k : Int)
  ·subst ha; subst hb
   rw [XQ, NN s3]
  · rw [Zp (fun hh => hb hh.2), MF ca.l s1 s2 hb, ha, Xp ca.p]
 · rw [if_neg ha, Zp (fun hh => ha hh.1)]
theorem Q2y {ps : List (List UInt8)} {m : List UInt8} (hm : inB m.length 1 20 = true) (hc : (pu0 (XE 0) m).1 = 0) :
  Qg (ps ++ [(pu0 (XE 0) m).2.2]) = upd (Qg ps) ps.length (pu0 (XE 0) m).2.1 (some (QS m)) /\ Qg ps ps.length (pu0 (XE 0) m).2.1 = none /\ QH (pu0 (XE 0) m).2.2 = 0 := by
 have hn : QH (XE 0) = 0 := MC _;obtain ⟨s1, s2, s3, s4, s5, _, s6, s7⟩ := NL hn hm hc;have h0 : ∀ b : Int, pgC (XE 0) b = none := fun b => NN (by
  cases hh : Z7 (XE 0) b with
  | false => rfl
  | true =>
   obtain ⟨k, rfl, h1, h2⟩ := J6 hh;have := (Ka.1 hh).1;have : cnt (XE 0) = 0 := by decide
   omega)
 refine ⟨?_, Yv (by omega), s1⟩
 funext a b
 rw [jB]
 by_cases ha : a = (ps.length : Int)
 ·rw [if_pos ha]
  by_cases hb : b = (pu0 (XE 0) m).2.1
  ·subst ha; subst hb
   rw [XQ];unfold pgC;rw [if_pos s3, s4]
  · rw [Zp (fun hh => hb hh.2), MF hn s1 s2 hb, h0, ha, Yv (by omega)]
 · rw [if_neg ha, Zp (fun hh => ha hh.1)]
end Vm
namespace Vm
open Go
theorem qq {R : Type} {K : H} {n : Nat} {a b c d : S} {x y z u : S} {f : H -> Option R} (hn : n < K.n) (hg : K.g n = .rw 0 [a, b, c, d]) : stK 4 K (pv n 0) (.agg [x, y, z, u]) f = f (K.put n (.rw 0 [x, y, z, u])) := by
 rw [Zq (z := 4) (e := 0) (o := 0) (b := n) (cs := [a, b, c, d]) (r := [x, y, z, u]) hn hg (.inr rfl) rfl (by simp)]
 rfl
theorem zh {K : H} {n : Nat} {x y z u : S} (hn : n < K.n) (hg : K.g n = .rw 0 [x, y, z, u]) : Qp 4 K (pv n 0) = some [x, y, z, u] := Xh hn hg (by simp)
theorem yL {R : Type} {K : H} {q i : Nat} {ts : List ByteArray} {ti : TI} {f : V -> Option R} (hq : q < K.n) (hg : K.g q = .rw 1 (ts.map fun t => .str t)) (hi : i < ts.length) (hz : ti.agg = false) : ldK (.one (.s)) ti K (pv q (i * 1)) f = f (.s (.str ts[i])) := by
 have ld : Qb K (pv q (i * 1)) = some (.str ts[i]) := by
  simp only [Qb, H.cells, hq, if_true, hg, Blk.cells, Nat.mul_one];rw [List.getElem?_map, HI hi]; rfl
 simp only [ldK, ldT, hz, cond_false, ld, ob]
def drT : List ByteArray := [⟨#[]⟩, ⟨#[97]⟩, ⟨#[97, 98, 99]⟩, ⟨#[97, 98, 99, 100, 101, 102, 103, 104]⟩]
theorem Q2x {t : ByteArray} (h : t ∈ drT) : t.size <= 8 /\ Jo t 0 = true := by
 simp only [drT, HH, EL, or_false] at h
 rcases h with rfl | rfl | rfl | rfl <;> exact ⟨by decide, by decide⟩
theorem VU {b : Nat} {l : List UInt8} {a : Nat} {h : H} (w : Src b l a h) (hl : l.length <= 1048576) (ha : a + 10 < 1099511627776) :
  ∃ r h', call Ev Fn.Js [pv b 0] h = some (.agg r.cs, h') /\ XW r = 0 /\ Dr b l a 5 h h' := by
 have hb := w.n;rw [Tv];have w0 : Src b l a (h.new 0 [.int Ly 0, .int Ly 0, .int Ly 0, .str ⟨#[]⟩]) := w.up Yl;have g0 : (h.new 0 [.int Ly 0, .int Ly 0, .int Ly 0, .str ⟨#[]⟩]).g h.n = .rw 0 [.int Ly 0, .int Ly 0, .int Ly 0, .str ⟨#[]⟩] := QI _ _ _;have k0 : ∀ c, c < h.n -> c ≠ b -> (h.new 0 [.int Ly 0, .int Ly 0, .int Ly 0, .str ⟨#[]⟩]).g c = h.g c := fun c hc _ => QO (by omega)
 have n0 : (h.new 0 [.int Ly 0, .int Ly 0, .int Ly 0, .str ⟨#[]⟩]).n = h.n + 1 := Xf _ _ _;generalize h.new 0 [.int Ly 0, .int Ly 0, .int Ly 0, .str ⟨#[]⟩] = A at w0 g0 k0 n0 ⊢;obtain ⟨x1, h1, e1, a1, b1, w1, n1, o1, t1⟩ := XJ w0 hl (by omega) (n := 3) (by omega) (by omega)
 rw [e1]; simp only [ob, Q3, Q2]; rw [t1];obtain ⟨x2, h2, e2, a2, b2, w2, n2, o2, t2⟩ := XJ w1 hl (by omega) (n := 6) (by omega) (by omega)
 rw [e2]; simp only [ob, Q3, Q2]; rw [t2];obtain ⟨x3, h3, e3, a3, b3, w3, n3, o3, t3⟩ := XJ w2 hl (by omega) (n := 9) (by omega) (by omega)
 rw [e3]; simp only [ob, Q3, Q2]; rw [t3];obtain ⟨x4, h4, e4, m4, w4, n4, o4, t4⟩ := Mx w3 hl (by omega) (xs := [x3, 300, 999]) (by simp) (by simp)
 simp only [HM, FY, Hw, HA, HS, EF] at e4 t4;rw [e4]; simp only [ob, Q3, Q2]; rw [t4];have w4' : Src b l (a + 1 + 1 + 1 + 1) (h4.new 1 [.str ⟨#[]⟩, .str ⟨#[97]⟩, .str ⟨#[97, 98, 99]⟩, .str ⟨#[97, 98, 99, 100, 101, 102, 103, 104]⟩]) := w4.up Yl;obtain ⟨x5, h5, e5, a5, b5, w5, n5, o5, t5⟩ := XJ w4' hl (by omega) (n := 4) (by omega) (by omega)
 rw [e5]; simp only [ob, Q3, Q2]; rw [t5];obtain ⟨i, rfl⟩ : ∃ i : Nat, x5 = i := ⟨x5.toNat, by omega⟩
 have hb4 := w4.n;have gs : h5.g h4.n = .rw 1 (drT.map fun t => .str t) := by rw [o5 h4.n (by omega)]; exact QI _ _ _
 rw [Z3 (by omega), yL (by rw [n5, Xf]; omega) gs (by simp [drT]; omega) rfl]
 simp only [Q3, Z8];have gr : h5.g h.n = .rw 0 [.int Ly 0, .int Ly 0, .int Ly 0, .str ⟨#[]⟩] := by
  rw [o5 h.n (by omega), QO (by omega), o4 h.n (by omega) (by omega), o3 h.n (by omega), o2 h.n (by omega), o1 h.n (by omega)]; exact g0
 have hn5 : h.n < h5.n := by rw [n5, Xf]; omega
 rw [qq hn5 gr, zh (by rw [Qq]; exact hn5) (Z9 _ _ _), ob]
 have ht := Q2x (DW (show i < drT.length by simp [drT]; omega))
 refine ⟨⟨x1, Ly.wrap (1 + x2), x4, drT[i]'(by simp [drT]; omega)⟩, _, rfl, ?_, ⟨⟨_, ⟨by rw [Qq]; omega, by rw [QG (by omega)]; exact w5.g⟩, by omega⟩, by rw [Qq]; omega, fun c hc hcb => ?_⟩⟩
 ·rw [w64 (by omega) (by omega)]
  have hv : 0 <= x4 /\ x4 <= 999 := by
   simp only [HH, EL, or_false] at m4;omega
  unfold XW;rw [if_pos (by simp [inB]; omega), if_pos (by simp [ht])]
 · rw [QG (by omega), o5 c hcb, QO (by omega), o4 c (by omega) hcb, o3 c hcb, o2 c hcb, o1 c hcb, k0 c hc hcb]
end Vm
namespace Vm
open Go
def o8 (x : Int) : UInt8 := HB x.toNat
theorem N1 {x : Int} (h0 : 0 <= x) (h1 : x < 256) : ((o8 x).toNat : Int) = x := by
 unfold o8; simp; omega
theorem N2 {x : Int} (h0 : 0 <= x) (h1 : x < 256) : S.int LA x = QA (o8 x) := by
 unfold QA; rw [N1 h0 h1]
theorem VS {r : RowD} (h : XW r = 0) : (0 <= r.tab /\ r.tab <= 3) /\ (1 <= r.key /\ r.key <= 99) /\ (0 <= r.val /\ r.val <= 999) /\ r.text.size <= 8 /\ Jo r.text 0 = true := by
 unfold XW at h
 cases a : inB r.tab 0 3 <;> cases b : inB r.key 1 99 <;> cases c : inB r.val 0 999 <;> simp [a, b, c] at h
 exact ⟨X4.1 a, X4.1 b, X4.1 c, h⟩
def X9 (f : Int) (r : RowD) : List UInt8 := [o8 f, o8 r.tab, o8 r.key, o8 (r.val / 256), o8 (r.val % 256), o8 r.text.size] ++ r.text.data.toList
theorem TZ (f : Int) (r : RowD) : (X9 f r).length = 6 + r.text.size := by
 simp [X9]; omega
theorem w8m {n : Int} (h : 0 <= n) : LA.wrap n = n % 256 := by
 simp [IntKind.wrap, IntKind.signed, IntKind.bits]
theorem Q2F {h : H} {v u : V} {l m : List UInt8} {b c : Nat} (w : BysW h v l b) (w' : BysW h u m c) (hm : l.length + m.length <= lim) :
  Zm 1 h v u = some (sv h.n 0 (l ++ m).length, (h.put b .dead).new 1 ((l ++ m).map QA)) := by
 have h1 := Vy w;have h2 := Vy w';obtain ⟨rfl, w2, w3⟩ := w;have h3 : Uh u = some m.length := by rw [w'.v]; rfl
 simp only [Zm, h1, h2, HC, h3];rw [if_pos ⟨w2, hm, by omega⟩, w3]
 simp
section
variable {f : Int} {r : RowD} (h0 : 0 <= f) (h1 : f < 256) (hr : XW r = 0)
include h0 h1 hr
theorem six : [S.int LA (LA.wrap f), .int LA (LA.wrap r.tab), .int LA (LA.wrap r.key), .int LA (LA.wrap (r.val / 256)), .int LA (LA.wrap r.val), .int LA (LA.wrap (r.text.size : Int))] = [o8 f, o8 r.tab, o8 r.key, o8 (r.val / 256), o8 (r.val % 256), o8 r.text.size].map QA := by
 obtain ⟨a, b, c, d, _⟩ := VS hr;rw [w8 h0 h1, w8 (n := r.tab) (by omega) (by omega), w8 (n := r.key) (by omega) (by omega), w8 (n := r.val / 256) (by omega) (by omega), w8m (n := r.val) (by omega), w8 (n := (r.text.size : Int)) (by omega) (by omega)]
 rw [N2 h0 h1, N2 (x := r.tab) (by omega) (by omega), N2 (x := r.key) (by omega) (by omega), N2 (x := r.val / 256) (by omega) (by omega), N2 (x := r.val % 256) (by omega) (by omega), N2 (x := (r.text.size : Int)) (by omega) (by omega)]
 rfl
theorem zw (n : Nat) : ∃ h', call Ev Fn.Xm [iv Ly f, fv r.cs 0] (D n) = some (sv (n + 2) 0 (X9 f r).length, h') /\ NewB n h' (sv (n + 2) 0 (X9 f r).length) (X9 f r) (some (n + 2)) := by
 obtain ⟨a, b, c, d, _⟩ := VS hr;rw [Tw, kK (by omega) (by omega) (by omega), ob]
 simp only [Q3, Q2];rw [Gu (by omega) (by omega), ob]
 simp only [Q3, Q2];have e : LA.wrap (r.val % 256) = LA.wrap r.val := by rw [w8m (by omega), w8m (by omega)]; omega
 rw [ZB ((Zj.refl _).new), e, six h0 h1 hr];generalize hl6 : [o8 f, o8 r.tab, o8 r.key, o8 (r.val / 256), o8 (r.val % 256), o8 r.text.size] = l6;have n6 : l6.length = 6 := by rw [<- hl6]; rfl
 have hp : X9 f r = l6 ++ r.text.data.toList := by unfold X9; rw [hl6]
 have e2 : MJ ((D n).new 1 (l6.map QA)) (.s (.str r.text)) = some (sv (n + 1) 0 r.text.size, ((D n).new 1 (l6.map QA)).new 1 (r.text.data.toList.map QA)) := by
  simp only [MJ];rw [if_pos (by unfold lim; omega)]
  rfl
 rw [e2, ob];dsimp only;have wa : BysW (((D n).new 1 (l6.map QA)).new 1 (r.text.data.toList.map QA)) (sv n 0 6) l6 n := ⟨by rw [n6], by simp; omega, by rw [QO (by simp)]; exact QI (D n) _ _⟩
 have wb : BysW (((D n).new 1 (l6.map QA)).new 1 (r.text.data.toList.map QA)) (sv (n + 1) 0 r.text.size) r.text.data.toList (n + 1) := ⟨by simp, by simp, QI ((D n).new 1 (l6.map QA)) _ _⟩
 rw [D_n, Q2F wa wb (by rw [n6]; unfold lim; simp; omega), ob, hp]
 have wo := Q1k (h := ((D n).new 1 (l6.map QA)).new 1 (r.text.data.toList.map QA)) (b := n) (l := l6) (m := r.text.data.toList);refine ⟨_, rfl, wo, by simp; omega, fun b hb => by cases hb; omega, fun b h2 h3 s hs => ?_⟩
 have key : ∀ (x : List UInt8), s ∈ x.map QA -> ZL s = true := fun x hx => by
  obtain ⟨c, _, rfl⟩ := HR.1 hx;rfl
 simp only [Xf, Qq, D_n] at h3
 by_cases b2 : b = n + 2
 ·subst b2
  have hs' := (congrArg (fun x => s ∈ Blk.cells x) wo.g).mp hs
  exact key _ hs'
 ·rw [QO (by simp; omega)] at hs
  by_cases b0 : b = n
  ·subst b0
   rw [Z9] at hs;simp [Blk.cells] at hs
  ·have b1 : b = n + 1 := by omega
   rw [QG b0, b1] at hs;have hs' := (congrArg (fun x => s ∈ Blk.cells x) wb.g).mp hs
   exact key _ hs'
end
theorem Q1u {a b : Int} (h : (inB a 0 11 && inB b 0 15) = true) : [[S.int LA 1], [.int LA (LA.wrap a)], [.int LA (LA.wrap b)]] = bys [1, o8 a, o8 b] := by
 rw [HE, X4, X4] at h;rw [w8 (n := a) (by omega) (by omega), w8 (n := b) (by omega) (by omega), N2 (x := a) (by omega) (by omega), N2 (x := b) (by omega) (by omega)]
 rfl
theorem MP {f : Int} {r : RowD} (hf : f = 0 \/ f = 2) (hr : XW r = 0) : QS (X9 f r) = ⟨0, f, 0, 0, r⟩ := by
 obtain ⟨a, b, c, d, _⟩ := VS hr;have hl := TZ f r;have b0 : bt (X9 f r) 0 = f := by
  show ((o8 f).toNat : Int) = f;exact N1 (by omega) (by omega)
 have b1 : bt (X9 f r) 1 = r.tab := N1 (x := r.tab) (by omega) (by omega)
 have b2 : bt (X9 f r) 2 = r.key := N1 (x := r.key) (by omega) (by omega)
 have b3 : bt (X9 f r) 3 = r.val / 256 := N1 (x := r.val / 256) (by omega) (by omega)
 have b4 : bt (X9 f r) 4 = r.val % 256 := N1 (x := r.val % 256) (by omega) (by omega)
 have b5 : bt (X9 f r) 5 = (r.text.size : Int) := N1 (x := (r.text.size : Int)) (by omega) (by omega)
 have hc : ZO (X9 f r) = r := by
  unfold ZO;rw [b1, b2, b3, b4, show r.val / 256 * 256 + r.val % 256 = r.val from by omega]
  have : (X9 f r).drop 6 = r.text.data.toList := by simp [X9]
  rw [this]
 unfold QS;have hs : Jl (X9 f r) = false := by unfold Jl; simp; intro hh; omega
 have hi : Kn (X9 f r) = true := by
  unfold Kn;rw [b0, b5, hl]
  rcases hf with rfl | rfl <;> simp
 rw [hs, hi, hc, hr, b0];simp
theorem qf {a b : Int} (h : (inB a 0 11 && inB b 0 15) = true) : QS [1, o8 a, o8 b] = ⟨0, 1, a, b, noR⟩ := by
 rw [HE, X4, X4] at h;have b0 : bt [1, o8 a, o8 b] 0 = 1 := rfl;have b1 : bt [1, o8 a, o8 b] 1 = a := N1 (x := a) (by omega) (by omega)
 have b2 : bt [1, o8 a, o8 b] 2 = b := N1 (x := b) (by omega) (by omega)
 unfold QS Jl;rw [b0, b1, b2, if_pos (by simp; omega)]
theorem G8 {l : List UInt8} {i : Nat} (h : i < l.length) : o8 (bt l (i : Int)) = l[i] := by
 unfold o8 bt;simp only [HQ, List.getD, HI h, FI];simp
theorem vE {l : List UInt8} (h : (QS l).code = 0) : ((QS l).flag = 1 /\ (inB (QS l).page 0 11 && inB (QS l).slot 0 15) = true /\ l = [1, o8 (QS l).page, o8 (QS l).slot]) \/ ((QS l).flag ≠ 1 /\ ((QS l).flag = 0 \/ (QS l).flag = 2) /\ XW (QS l).row = 0 /\ l = X9 (QS l).flag (QS l).row) := by
 unfold QS at h ⊢
 by_cases h1 : (Jl l && (decide (bt l 1 <= 11) && decide (bt l 2 <= 15))) = true
 ·rw [if_pos h1]
  simp only [HE, decide_eq_true_eq, Jl, beq_iff_eq] at h1;obtain ⟨⟨h3, h0⟩, h11, h15⟩ := h1;have n1 := Xa l 1;have n2 := Xa l 2;refine .inl ⟨rfl, by simp [inB]; omega, ?_⟩
  match l, h3 with
  | [x, y, z], _ =>
   have e0 : x = 1 := by
    have := G8 (l := [x, y, z]) (i := 0) (by simp)
    rw [show ((0 : Nat) : Int) = 0 from rfl, h0] at this
    exact this.symm
   have e1 := G8 (l := [x, y, z]) (i := 1) (by simp)
   have e2 := G8 (l := [x, y, z]) (i := 2) (by simp)
   simp only [OZ, and_true];exact ⟨e0, e1.symm, e2.symm⟩
 ·rw [if_neg h1] at h ⊢
  by_cases h2 : (Kn l && XW (ZO l) == 0) = true
  ·rw [if_pos h2] at h ⊢
   simp only [HE, beq_iff_eq, Kn, decide_eq_true_eq, Bool.or_eq_true] at h2;obtain ⟨⟨⟨h6, h0⟩, hl⟩, hr⟩ := h2;refine .inr ⟨by dsimp only; omega, h0, hr, ?_⟩
   dsimp only
   match l, h6 with
   | x0 :: x1 :: x2 :: x3 :: x4 :: x5 :: t, _ =>
    have e0 := G8 (l := x0 :: x1 :: x2 :: x3 :: x4 :: x5 :: t) (i := 0) (by simp)
    have e1 := G8 (l := x0 :: x1 :: x2 :: x3 :: x4 :: x5 :: t) (i := 1) (by simp)
    have e2 := G8 (l := x0 :: x1 :: x2 :: x3 :: x4 :: x5 :: t) (i := 2) (by simp)
    have e3 := G8 (l := x0 :: x1 :: x2 :: x3 :: x4 :: x5 :: t) (i := 3) (by simp)
    have e4 := G8 (l := x0 :: x1 :: x2 :: x3 :: x4 :: x5 :: t) (i := 4) (by simp)
    have e5 := G8 (l := x0 :: x1 :: x2 :: x3 :: x4 :: x5 :: t) (i := 5) (by simp)
    have n3 := Jy (x0 :: x1 :: x2 :: x3 :: x4 :: x5 :: t) 4;have m3 := Xa (x0 :: x1 :: x2 :: x3 :: x4 :: x5 :: t) 4;have m4 := Xa (x0 :: x1 :: x2 :: x3 :: x4 :: x5 :: t) 3;unfold X9 ZO;dsimp only;have q1 : (bt (x0 :: x1 :: x2 :: x3 :: x4 :: x5 :: t) 3 * 256 + bt (x0 :: x1 :: x2 :: x3 :: x4 :: x5 :: t) 4) / 256 = bt (x0 :: x1 :: x2 :: x3 :: x4 :: x5 :: t) 3 := by omega
    have q2 : (bt (x0 :: x1 :: x2 :: x3 :: x4 :: x5 :: t) 3 * 256 + bt (x0 :: x1 :: x2 :: x3 :: x4 :: x5 :: t) 4) % 256 = bt (x0 :: x1 :: x2 :: x3 :: x4 :: x5 :: t) 4 := by omega
    have q3 : (((⟨((x0 :: x1 :: x2 :: x3 :: x4 :: x5 :: t).drop 6).toArray⟩ : ByteArray).size : Nat) : Int) = bt (x0 :: x1 :: x2 :: x3 :: x4 :: x5 :: t) 5 := by
     have : (⟨((x0 :: x1 :: x2 :: x3 :: x4 :: x5 :: t).drop 6).toArray⟩ : ByteArray).size = t.length := by simp [ByteArray.size]
     rw [this];simp only [HM] at hl;omega
    rw [q1, q2, q3];simp only [List.cons_append, List.nil_append, OZ];exact ⟨e0.symm, e1.symm, e2.symm, e3.symm, e4.symm, e5.symm, by simp⟩
  · rw [if_neg h2] at h; simp at h
end Vm
namespace Vm
open Go
theorem Dr.weak {b : Nat} {l : List UInt8} {a N M : Nat} {h h1 : H} (w : Dr b l a N h h1) (hk : N <= M) : Dr b l a M h h1 := by
 obtain ⟨a1, s1, l1⟩ := w.ex;exact ⟨⟨a1, s1, by omega⟩, w.n, w.o⟩
theorem Q1J {ks : List RowD} {t k : Int} (hl : ks.length <= 1000) : ∃ j : Int, Q8 (call Ev) Fn.Kq [lv (rws ks), iv Ly t, iv Ly k] = some (iv Ly j) := by
 have loop : ∀ (q : List RowD) (i : Nat), ks.drop i = q -> (∃ j, Lp.Kq 0 [lv (rws ks), iv Ly t, iv Ly k, iv Ly i] (D 0) = some (.ret (iv Ly j) (D 0))) \/ Lp.Kq 0 [lv (rws ks), iv Ly t, iv Ly k, iv Ly i] (D 0) = some (.done [] (D 0)) := by
  intro q
  induction q with
  | nil =>
   intro i hi;have := Zn hi
   right
   rw [M7, Q1, if_neg (by simp; omega), Q6]
  | cons r q ih =>
   intro i hi;obtain ⟨g1, g2, g3⟩ := Zf hi;rw [M7, Q1, if_pos (by simp; omega), Yd g1]
   simp only [gx0, gx1, ob, Q2, Q6];rw [Q1, Yd g1];simp only [gx0, gx1, ob, Q2, Q6];rw [Q1, w64 (by omega) (by omega), show (i : Int) + 1 = ((i + 1 : Nat) : Int) from by omega]
   have := ih (i + 1) g2
   by_cases h1 : (r.tab == t) = true
   ·rw [if_pos h1]
    by_cases h2 : (r.key == k) = true
    · rw [if_pos h2]; exact .inl ⟨_, rfl⟩
    · rw [if_neg h2]; exact this
   · rw [if_neg h1]; exact this
 rw [qL];have := loop ks 0 rfl;rw [show ((0 : Nat) : Int) = 0 from rfl] at this
 rcases this with ⟨j, e⟩ | e
 · rw [e, ob, Zx, XG]; exact ⟨j, rfl⟩
 · rw [e, ob, Qc]; exact ⟨_, rfl⟩
def RwV (v : V) (ks : List RowD) : Prop := v = lv (rws ks) \/ (ks = [] /\ ∃ q, v = sv q 0 0)
theorem RwV.frz {h : H} {v : V} {ks : List RowD} (w : RwV v ks) : QL h v = some (lv (rws ks)) := by
 rcases w with rfl | ⟨rfl, q, rfl⟩
 · exact Xc
 · rw [Y1]; simp only [Qy, if_true]; rfl
theorem RwV.off {v : V} {ks : List RowD} (w : RwV v ks) : Z5 v = true := by
 rcases w with rfl | ⟨rfl, q, rfl⟩ <;> rfl
theorem RwV.len {v : V} {ks : List RowD} {t : Nat} (w : RwV v ks) : Xi (.sl t) v = some (iv Ly (ks.length : Int)) := by
 rcases w with rfl | ⟨rfl, q, rfl⟩
 · simp [Xi]
 · rfl
theorem xo {b : Nat} {l : List UInt8} (hl : l.length <= 1048576) : ∀ (k : Nat) (a : Nat) (ks : List RowD) (v : V) (h : H), Src b l a h -> a + 5 * k < 1099511627000 -> RwV v ks -> ks.length + k <= 100 -> (∀ r ∈ ks, XW r = 0) ->
  ∃ v' ks' h', Lp.ZQ 0 [pv b 0, v, iv Ly k] h = some (.done [v'] h') /\ RwV v' ks' /\ ks'.length <= ks.length + k /\ (∀ r ∈ ks', XW r = 0) /\ Dr b l a (5 * k) h h' := by
 intro k
 induction k with
 | zero =>
  intro a ks v h w ha wv hk hr;refine ⟨v, ks, h, ?_, wv, by omega, hr, (Dr.refl w).weak (by omega)⟩
  rw [Uy, Q1, if_neg (by simp), Q6]
 | succ k ih =>
  intro a ks v h w ha wv hk hr;have hb := w.n;rw [Uy, Q1, if_pos (by simp)]
  rw [w64 (n := ((k + 1 : Nat) : Int) - 1) (by omega) (by omega), show ((k + 1 : Nat) : Int) - 1 = (k : Int) from by omega]
  obtain ⟨r, h1, e1, hr0, d1⟩ := VU w hl (by omega)
  rw [e1, ob];simp only [Zb, gx0, gx1, ob, Q2, Z8, ln0, ln1, Hw, HA, if_true];have d1' := d1.tidy hb [V.agg r.cs]
  change ∃ v' ks' h', stK 4 ((tidy h [V.agg r.cs] h1).new 0 [.int Ly 0, .int Ly 0, .int Ly 0, .str (⟨#[]⟩)]) (pv (tidy h [V.agg r.cs] h1).n 0) (.agg r.cs) _ = _ /\ _
  generalize tidy h [V.agg r.cs] h1 = K at d1' ⊢;rw [K4 (z := 4) rfl rfl, Xg (o := 0) (x := .int Ly r.tab) rfl];simp only [ob, Q2];rw [Xg (o := 1) (x := .int Ly r.key) rfl];simp only [ob, Q2];rw [Qa wv.frz (Qa XG (Qa XG QE)), ob, Z2];obtain ⟨j, ej⟩ := Q1J (ks := ks) (t := r.tab) (k := r.key) (by omega)
  rw [pc ej rfl];simp only [Q3, Q2];rw [Q1];have xk := ZE K [.int Ly 0, .int Ly 0, .int Ly 0, .str (⟨#[]⟩)] r.cs;have d2 : Dr b l a 5 h (Zl K [.int Ly 0, .int Ly 0, .int Ly 0, .str (⟨#[]⟩)] r.cs) := d1'.up ⟨xk.1, fun c hc => (xk.2 c hc).1⟩
  rw [YH (n := 4) (o := 0) (r := r.cs) (by simp) rfl]
  simp only [Zb, gx0, gx1, ob, Q2, Z8, ln0, ln1, Hw, HA, if_true];have ho : ([v, V.agg [S.int Ly r.tab, .int Ly r.key, .int Ly r.val, .str r.text]].all Z5) = true := by
   rw [HG, wv.off]; rfl
  rw [ho, cond_true, Qa wv.frz (Qa (show QL _ (V.agg [S.int Ly r.tab, .int Ly r.key, .int Ly r.val, .str r.text]) = some (V.agg [S.int Ly r.tab, .int Ly r.key, .int Ly r.val, .str r.text]) from by simp) QE), ob, Z2]
  have ep := Q0D (ks := ks) (r := r) (by unfold lim; omega)
  have ep' : Q8 (call Ev) Fn.XC [lv (rws ks), V.agg [S.int Ly r.tab, .int Ly r.key, .int Ly r.val, .str r.text]] = _ := ep;rw [ep', ob];simp only [Q3, QY]
  by_cases hj : j < 0
  ·rw [if_pos (by simpa using hj)]
   have d3 := d2.tidy hb [pv b 0, lv (rws (WS r ks)), iv Ly k];obtain ⟨a', s', la⟩ := d3.ex;obtain ⟨v', ks', h', e4, w4, l4, r4, d4⟩ := ih a' (WS r ks) (lv (rws (WS r ks))) _ s' (by omega) (.inl rfl) (by rw [Br]; omega) (fun x hx => by
    unfold WS at hx;rw [HK, HH] at hx
    rcases hx with hx | rfl | hx
    · exact hr x ((List.takeWhile_sublist _).subset hx)
    · exact hr0
    · exact hr x ((List.dropWhile_sublist _).subset hx))
   refine ⟨v', ks', h', e4, w4, by rw [Br] at l4; omega, r4, ?_⟩
   obtain ⟨a2, s2, la2⟩ := d4.ex;exact ⟨⟨a2, s2, by omega⟩, HL d3.n d4.n, fun c hc hcb => (d4.o c (HJ hc d3.n) hcb).trans (d3.o c hc hcb)⟩
  ·rw [if_neg (by simpa using hj)]
   have d3 := d2.tidy hb [pv b 0, v, iv Ly k];obtain ⟨a', s', la⟩ := d3.ex;obtain ⟨v', ks', h', e4, w4, l4, r4, d4⟩ := ih a' ks v _ s' (by omega) wv (by omega) hr
   refine ⟨v', ks', h', e4, w4, by omega, r4, ?_⟩
   obtain ⟨a2, s2, la2⟩ := d4.ex;exact ⟨⟨a2, s2, by omega⟩, HL d3.n d4.n, fun c hc hcb => (d4.o c (HJ hc d3.n) hcb).trans (d3.o c hc hcb)⟩
theorem kZ {b : Nat} {l : List UInt8} {a : Nat} {h : H} (w : Src b l a h) (hl : l.length <= 1048576) (ha : a + 100 < 1099511627000) :
  ∃ v ks h', call Ev Fn.ZQ [pv b 0] h = some (v, h') /\ RwV v ks /\ ks.length <= 6 /\ (∀ r ∈ ks, XW r = 0) /\ Dr b l a 31 h h' := by
 have hb := w.n;rw [B4];have w0 : Src b l a (h.new 4 []) := w.up Yl;obtain ⟨x1, h1, e1, a1, b1, w1, n1, o1, t1⟩ := XJ w0 hl (by omega) (n := 7) (by omega) (by omega)
 rw [e1]; simp only [ob, Q3, Q2]; rw [t1];obtain ⟨k, rfl⟩ : ∃ k : Nat, x1 = k := ⟨x1.toNat, by omega⟩
 obtain ⟨v, ks, h', e2, w2, l2, r2, d2⟩ := xo hl k (a + 1) [] (sv h.n 0 0) h1 w1 (by omega) (.inr ⟨rfl, _, rfl⟩) (by simp; omega) (by simp)
 rw [e2, ob, Qc];simp only [gx0, ob];refine ⟨v, ks, h', rfl, w2, by simp at l2; omega, r2, ?_⟩
 obtain ⟨a2, s2, la2⟩ := d2.ex;have hn : h.n <= h1.n := by rw [n1, Xf]; omega
 exact ⟨⟨a2, s2, by omega⟩, HL hn d2.n, fun c hc hcb => by rw [d2.o c (by omega) hcb, o1 c hcb, QO (by omega)]⟩
end Vm
namespace Vm
open Go
theorem qJ {h : H} {x : Blk} {b c : Nat} (hb : c ≠ b) : (h.put b x).v c = h.v c := by simp [H.put, hb]
theorem Zj.over {h h1 : H} (hle : h.n <= h1.n) : Zj h (h.over h1) := ⟨by rw [Xb hle]; exact hle, fun c hc => .inr (Jg hc)⟩
theorem Zj.kill {A B : H} {b : Nat} (hn : A.n <= B.n) (ho : ∀ c, c < A.n -> c ≠ b -> B.g c = A.g c /\ B.v c = A.v c) : Zj (A.put b .dead) B := ⟨hn, fun c hc => by
 by_cases hcb : c = b
 · subst hcb; exact .inl (Z9 _ _ _)
 ·right
  rw [QG hcb, qJ hcb];exact ho c hc hcb⟩
section
variable {f : Int} {r : RowD} (h0 : 0 <= f) (h1 : f < 256) (hr : XW r = 0)
include h0 h1 hr
theorem Wn : Q8 (call Ev) Fn.Xm [iv Ly f, fv r.cs 0] = some (lv (bys (X9 f r))) := by
 obtain ⟨h', e, w⟩ := zw h0 h1 hr 0;unfold Q8;rw [e, ob];exact Jd w.own
omit h0 h1 in
theorem Yn : inB (X9 f r).length 1 20 = true := by
 have := VS hr;rw [TZ];exact X4.2 (by omega)
end
theorem P4 {a c : Int} : ∃ m : List UInt8, m.length = 3 /\ Q8 (call Ev) Fn.Jr [iv Ly a, iv Ly c] = some (lv (bys m)) := by
 have u8 : ∀ x : Int, S.int LA (LA.wrap x) = QA (o8 (LA.wrap x)) := fun x => by
  have : LA.wrap x = x % 256 := by simp [IntKind.wrap, IntKind.signed, IntKind.bits]
  refine N2 ?_ ?_ <;> rw [this] <;> omega
 refine ⟨[1, o8 (LA.wrap a), o8 (LA.wrap c)], rfl, ?_⟩;rw [My, u8 a, u8 c]; rfl
theorem NK {h : H} {q : Nat} {p m : List UInt8} {vm : V} (wp : BysW h (sv q 0 64) p q) (hp : QH p = 0) (hm : inB m.length 1 20 = true) (hf : QL h vm = some (lv (bys m))) :
  ∃ (y : S) (h1 : H) (i c : Int), (∀ (R : Type) (off : Bool) (k : V -> H -> Option R), ((Qt h [sv q 0 64, vm]).bind fun l => Qj (call Ev) Fn.Xq off (Qr [] l) h k) = k (.tup [.s y, .s (.int Ly i), .s (.int Ly c)]) h1) /\ Up h h1 /\ Zj h h1 /\ ZL y = true /\ (c = 0 -> ∃ d p2, y = .sl (some (d, 0)) 64 /\ BysW h1 (sv d 0 64) p2 d /\ h.n <= d /\ QH p2 = 0) := by
 obtain ⟨y, h5, o5, e5, w5⟩ := Bv (m := m) hp hm h.n;have u5 : Up h (h.over h5) := Je w5.le;refine ⟨y, h.over h5, (pu0 p m).2.1, (pu0 p m).1, fun R off k => ?_, u5, Zj.over w5.le, by simpa using w5.own.sca, fun hz => ?_⟩
 ·rw [Qa (Jd (ob := some q) wp) (Qa hf QE), ob, Z2]
  exact pF (h := h) e5 ⟨by simp [w5.own.sca], w5.z⟩
 ·obtain ⟨s1, _⟩ := NL hp hm hz
  have s64 := (Qv s1).1;obtain ⟨c, w6⟩ := w5.some_of (fun hn => by rw [hn] at s64; simp at s64)
  obtain ⟨_, w6', hc6⟩ := w6.over;have hv := w6'.v;rw [s64] at hv
  injection hv with hv
  subst hv;exact ⟨c, _, rfl, w6', hc6, s1⟩
structure Two (n0 P : Nat) (qs : List Nat) (ps : List (List UInt8)) (h : H) : Prop where
 n : P < h.n
 lq : qs.length = 2
 lp : ps.length = 2
 g : h.g P = .rw 1 (qs.map fun q => .sl (some (q, 0)) 64)
 w : ∀ (j q : Nat) (p : List UInt8), qs[j]? = some q -> ps[j]? = some p -> BysW h (sv q 0 64) p q /\ QH p = 0
 l : n0 <= P /\ ∀ q ∈ qs, n0 <= q /\ q ≠ P
theorem Two.mem {n0 P : Nat} {qs : List Nat} {ps : List (List UInt8)} {h : H} (w : Two n0 P qs ps h) {q : Nat} (hq : q ∈ qs) : q < h.n := by
 obtain ⟨j, hj, rfl⟩ := List.getElem_of_mem hq;have h2 := w.lq;have h3 := w.lp;exact (w.w j qs[j] (ps[j]'(by omega)) (HI hj) (HI (by omega))).1.n
theorem Two.fr {n0 P : Nat} {qs : List Nat} {ps : List (List UInt8)} {h h' : H} (w : Two n0 P qs ps h) (hn : h.n <= h'.n) (hg : ∀ c, n0 <= c -> c < h.n -> h'.g c = h.g c) : Two n0 P qs ps h' :=
 ⟨by have := w.n; omega, w.lq, w.lp, (hg P w.l.1 w.n).trans w.g, fun j q p h1 h2 => ⟨(w.w j q p h1 h2).1.fr hn (hg q (w.l.2 q (HU h1)).1 (w.mem (HU h1))), (w.w j q p h1 h2).2⟩, w.l⟩
theorem Two.up {n0 P : Nat} {qs : List Nat} {ps : List (List UInt8)} {h h' : H} (w : Two n0 P qs ps h) (u : Up h h') : Two n0 P qs ps h' := w.fr u.n fun c _ hc => u.g c hc
theorem Two.dr {n0 P b a N : Nat} {l : List UInt8} {qs : List Nat} {ps : List (List UInt8)} {h h' : H} (w : Two n0 P qs ps h) (d : Dr b l a N h h') (hb : b < n0) : Two n0 P qs ps h' := w.fr d.n fun c h1 hc => d.o c hc (by omega)
theorem Two.ld {n0 P : Nat} {qs : List Nat} {ps : List (List UInt8)} {h : H} (w : Two n0 P qs ps h) {j : Nat} (hj : j < 2) :
  ∃ q p, qs[j]? = some q /\ ps[j]? = some p /\ BysW h (sv q 0 64) p q /\ QH p = 0 /\ ∀ {K : H} {R : Type} {w0 : Nat} {zz : List S} {dd : TD} {bb : Bool} {kd : IntKind} {f : V -> Option R}, P < K.n -> K.g P = h.g P -> (Qd 1 (sv P 0 2) (iv kd (j : Int)) fun v => ldK (.one .f) ⟨1, w0, zz, false, dd, bb⟩ K v f) = f (sv q 0 64) := by
 have h2 := w.lq;have h3 := w.lp;obtain ⟨q, hq⟩ : ∃ q, qs[j]? = some q := ⟨qs[j]'(by omega), HI (by omega)⟩
 obtain ⟨p, hp⟩ : ∃ p, ps[j]? = some p := ⟨ps[j]'(by omega), HI (by omega)⟩
 obtain ⟨w1, w2⟩ := w.w j q p hq hp;refine ⟨q, p, hq, hp, w1, w2, ?_⟩;intro K R w0 zz dd bb kd f hn hg;rw [Z3 hj];show ldT _ K (pv P (j * 1)) f = _;unfold ldT;have : Qb K (pv P (j * 1)) = some (.sl (some (q, 0)) 64) := by
  simp [Qb, H.cells, hn, hg, w.g, Blk.cells, hq]
 simp only [cond_false];rw [this, ob]
theorem Two.st {n0 P : Nat} {qs : List Nat} {ps : List (List UInt8)} {K : H} (w : Two n0 P qs ps K) {j d : Nat} {p2 : List UInt8} (hj : j < 2) (wd : BysW K (sv d 0 64) p2 d) (hp : QH p2 = 0) (hd : n0 <= d) (hdP : d ≠ P) :
  ∃ K', (∀ (R : Type) (f : H -> Option R), (Qd 1 (sv P 0 2) (iv Ly (j : Int)) fun v => stK 1 K v (.s (.sl (some (d, 0)) 64)) f) = f K') /\ Two n0 P (qs.set j d) (ps.set j p2) K' /\ K'.n = K.n /\ ∀ c, c ≠ P -> K'.g c = K.g c := by
 have h2 := w.lq;have h3 := w.lp;have eg : setAt (qs.map fun q => S.sl (some (q, 0)) 64) (j * 1) [.sl (some (d, 0)) 64] = (qs.set j d).map fun q => .sl (some (q, 0)) 64 := by
  match qs, h2 with
  | [q0, q1], _ =>
   match j, hj with
   | 0, _ => rfl
   | 1, _ => rfl
 refine ⟨K.put P (.rw 1 ((qs.set j d).map fun q => .sl (some (q, 0)) 64)), fun R f => ?_, ⟨by rw [Qq]; exact w.n, by simpa using h2, by simpa using h3, Z9 _ _ _, fun i q p h4 h5 => ?_, w.l.1, fun q hq => ?_⟩, Qq _ _ _, fun c hc => QG hc⟩
 · rw [Z3 hj, Zq (z := 1) (e := 1) (o := j * 1) (b := P) (cs := qs.map fun q => .sl (some (q, 0)) 64) (r := [.sl (some (d, 0)) 64]) w.n w.g (.inl ⟨_, rfl, rfl, rfl⟩) rfl (by simp; omega), eg]
 ·have key : BysW K (sv q 0 64) p q /\ QH p = 0 := by
   by_cases hij : i = j
   ·subst hij
    rw [Dc (by omega)] at h4 h5
    injection h4 with h4; injection h5 with h5
    subst h4; subst h5;exact ⟨wd, hp⟩
   ·rw [EN (fun e => hij e.symm)] at h4 h5
    exact w.w i q p h4 h5
  have hqP : q ≠ P := by
   rcases EU (HU h4) with h6 | h6
   · exact (w.l.2 q h6).2
   · omega
  exact ⟨key.1.fr (by rw [Qq]; exact Hx _) (QG hqP), key.2⟩
 ·rcases EU hq with h6 | h6
  · exact w.l.2 q h6
  · omega
theorem Two.tidy {n0 P : Nat} {qs : List Nat} {ps : List (List UInt8)} {h h' : H} (w : Two n0 P qs ps h) {qs' : List Nat} {ps' : List (List UInt8)} (w' : Two n0 P qs' ps' h') {d : Nat} (hd : d ∈ qs') (hdn : h.n <= d) (vs : List V) : Vm.tidy h vs h' = h' :=
 Gl (b := P) w.n w'.g (by
  rw [Dt];intro hh;have := Fw.1 hh (.sl (some (d, 0)) 64) (HR.2 ⟨d, hd, rfl⟩);simp [QR] at this; omega) (by
  rw [w.g];simp only [Blk.cells];rw [Fw];intro s hs;obtain ⟨q, hq, rfl⟩ := HR.1 hs;simp [QR, w.mem hq])
theorem Two.frz {n0 P : Nat} {qs : List Nat} {ps : List (List UInt8)} {h : H} (w : Two n0 P qs ps h) : Qy h 8 (.sl (some (P, 0)) 2) = some (.fs (bss ps)) := by
 have h2 := w.lq;have h3 := w.lp;have hg := w.g;have hn := w.n
 match qs, h2, ps, h3, w.w with
 | [q0, q1], _, [p0, p1], _, ww =>
  have w0 := (ww 0 q0 p0 rfl rfl);have w1 := (ww 1 q1 p1 rfl rfl);have f0 := (w0.1.frz (d := 6)).2;have f1 := (w1.1.frz (d := 6)).2;rw [(Qv w0.2).1] at f0;rw [(Qv w1.2).1] at f1;rw [Qy];rw [if_neg (by omega), if_pos hn, hg]
  simp only [HS, EF, HM, FY, HX];rw [if_pos (by omega)]
  rw [show List.take (2 * 1) [S.sl (some (q0, 0)) 64, .sl (some (q1, 0)) 64] = [S.sl (some (q0, 0)) 64, .sl (some (q1, 0)) 64] from rfl]
  simp only [mapO, f0, f1, HC];rfl
end Vm
namespace Vm
open Go
def Wk (n0 q : Nat) (ps : List (List UInt8)) (k : Nat) (h : H) : Prop := ∃ y1 y2 es b1 b2, Dk n0 q y1 y2 ps es b1 b2 h /\ es.length <= k
theorem Wk.up {n0 q k : Nat} {ps : List (List UInt8)} {h h' : H} (w : Wk n0 q ps k h) (u : Up h h') : Wk n0 q ps k h' := by
 obtain ⟨y1, y2, es, b1, b2, d, hk⟩ := w;exact ⟨y1, y2, es, b1, b2, d.frame u.n fun a ha _ => u.g a ha, hk⟩
theorem Wk.weak {n0 q k k' : Nat} {ps : List (List UInt8)} {h : H} (w : Wk n0 q ps k h) (hk : k <= k') : Wk n0 q ps k' h := by
 obtain ⟨y1, y2, es, b1, b2, d, h1⟩ := w;exact ⟨y1, y2, es, b1, b2, d, by omega⟩
theorem Wk.q {n0 q k : Nat} {ps : List (List UInt8)} {h : H} (w : Wk n0 q ps k h) : n0 <= q /\ q < h.n := by
 obtain ⟨y1, y2, es, b1, b2, d, hk⟩ := w;exact d.qn
theorem Wk.bel {n0 q k : Nat} {ps : List (List UInt8)} {h : H} (w : Wk n0 q ps k h) : (h.g q).cells.all (QR h.n) = true := by
 obtain ⟨y1, y2, es, b1, b2, d, hk⟩ := w;exact d.bel
structure Stp (n0 q : Nat) (ps : List (List UInt8)) (h : H) (ps' : List (List UInt8)) (k' : Nat) (h' : H) : Prop where
 w : (ps' = ps /\ Up h h') \/ ∃ y1 y2 es b1 b2, Dk n0 q y1 y2 ps' es b1 b2 h' /\ es.length <= k' /\ QR h.n y2 = false
 n : h.n <= h'.n
 f : ∀ a, a < n0 -> h'.g a = h.g a
theorem wV {n m : Nat} {s : S} (h : QR m s = false) (hn : n <= m) : QR n s = false := by
 cases hh : QR n s with
 | false => rfl
 | true => rw [uG hn hh] at h; cases h
theorem Stp.wk {n0 q k k' : Nat} {ps ps' : List (List UInt8)} {h h' : H} (s : Stp n0 q ps h ps' k' h') (w : Wk n0 q ps k h) (hk : k <= k') : Wk n0 q ps' k' h' := by
 rcases s.w with ⟨rfl, u⟩ | ⟨y1, y2, es, b1, b2, d, h1, _⟩
 · exact (w.up u).weak hk
 · exact ⟨y1, y2, es, b1, b2, d, h1⟩
theorem Stp.same {n0 q k' : Nat} {ps : List (List UInt8)} {h h' : H} (u : Up h h') (hq : n0 <= h.n) : Stp n0 q ps h ps k' h' := ⟨.inl ⟨rfl, u⟩, u.n, fun a ha => u.g a (by omega)⟩
theorem Stp.weak {n0 q k1 k2 : Nat} {ps ps' : List (List UInt8)} {h h' : H} (s : Stp n0 q ps h ps' k1 h') (hk : k1 <= k2) : Stp n0 q ps h ps' k2 h' := by
 refine ⟨?_, s.n, s.f⟩
 rcases s.w with a | ⟨y1, y2, es, b1, b2, d, h1, h2⟩
 · exact .inl a
 · exact .inr ⟨y1, y2, es, b1, b2, d, by omega, h2⟩
theorem Stp.trans {n0 q k1 k2 : Nat} {ps ps1 ps2 : List (List UInt8)} {h h1 h2 : H} (s : Stp n0 q ps h ps1 k1 h1) (t : Stp n0 q ps1 h1 ps2 k2 h2) (hk : k1 <= k2) : Stp n0 q ps h ps2 k2 h2 := by
 refine ⟨?_, HL s.n t.n, fun a ha => (t.f a ha).trans (s.f a ha)⟩
 rcases t.w with ⟨rfl, u⟩ | ⟨y1, y2, es, b1, b2, d, h3, h4⟩
 ·rcases s.w with ⟨rfl, u'⟩ | ⟨y1, y2, es, b1, b2, d, h3, h4⟩
  · exact .inl ⟨rfl, u'.trans u⟩
  · exact .inr ⟨y1, y2, es, b1, b2, d.frame u.n fun a ha _ => u.g a ha, by omega, h4⟩
 · exact .inr ⟨y1, y2, es, b1, b2, d, h3, wV h4 s.n⟩
theorem Stp.pre {n0 q k2 : Nat} {ps ps2 : List (List UInt8)} {h h1 h2 : H} (u : Up h h1) (t : Stp n0 q ps h1 ps2 k2 h2) (hq : n0 <= h.n) : Stp n0 q ps h ps2 k2 h2 := (Stp.same (k' := 0) u hq).trans t (Nat.zero_le _)
theorem Stp.tidy {n0 q k k' : Nat} {ps ps' : List (List UInt8)} {h h' : H} (s : Stp n0 q ps h ps' k' h') (w : Wk n0 q ps k h) (vs : List V) : Stp n0 q ps h ps' k' (Vm.tidy h vs h') := by
 have hq := w.q
 rcases s.w with ⟨rfl, u⟩ | ⟨y1, y2, es, b1, b2, d, h1, h2⟩
 · exact Stp.same (Q0f u) (by omega)
 ·rw [Gl (b := q) hq.2 d.g (by rw [HG, HG, h2]; simp) w.bel]
  exact s
theorem Bi {n0 q k : Nat} {ps : List (List UInt8)} {h0 h : H} (w : Wk n0 q ps k h0) (u : Up h0 h) (hk : k <= 1000) (hpl : ps.length <= 1000) {p c : Nat} {l m : List UInt8} (hp : ps[p]? = some l) (hl : l.length = 64) (hm : m.length = 64) (wm : BysW h (sv c 0 64) m c) (hc : h0.n <= c) :
  ∃ h', call Ev Fn.Xy [pv q 0, iv Ly p, sv c 0 64] h = some (.tup [], h') /\ Stp n0 q ps h (ps.set p m) (k + 1) h' := by
 obtain ⟨y1, y2, es, b1, b2, d0, h1⟩ := w;have d := d0.frame u.n fun a ha _ => u.g a ha
 have hne : l ≠ [] := fun e => by rw [e] at hl; cases hl
 have hq := d0.qn;have c1 : c ∉ b1 := fun hh => by have := d0.p.rep.lt c hh; omega
 have c2 : c ∉ b2 := fun hh => by have := d0.e.rep.lt c hh; omega
 by_cases he : l = m
 ·subst he
  have hpn := (HF.1 hp).1;have hs : ps.set p l = ps := by
   refine List.ext_getElem? fun i => ?_
   by_cases hi : i = p
   · subst hi; rw [Dc hpn, hp]
   · rw [EN (fun e => hi e.symm)]
  have hun := u.n;refine ⟨h, ?_, by rw [hs]; exact Stp.same (Up.refl h) (by omega)⟩
  rw [W7];simp only [Hw, d.ld, gx0, ob];rw [Gp d.p, ob, XP];simp only [Q3, Q2];rw [Q1, if_neg (by simp; omega)]
  obtain ⟨cp, hcp, wp, gp⟩ := B2 d.p hp hne;rw [gp, Gs wp (by unfold lim; omega), ob]
  simp only [Q3, Z8];have wm' : BysW h (sv c 0 l.length) l c := by rw [hl]; exact wm
  rw [<- hl, Gs wm' (by unfold lim; omega), ob]
  simp only [Q3, Z8];rw [Q1, PO, if_pos (by simp)]
 ·obtain ⟨h', y2', b1', b2', e, w2, n2, f2, g2, be2, m2⟩ := jV d hp hne (by unfold lim; omega) (m := m) (c := c) (by rw [hm]; exact wm) (by unfold lim; omega) (by omega) c1 c2 (by omega) hpl he
  rw [hm] at e;have un := u.n;refine ⟨h', e, .inr ⟨_, _, _, _, _, w2, by rw [HO]; simp; omega, be2 _ (Hx _)⟩, by omega, fun a ha => ?_⟩
  rw [f2 a (by omega) (fun hh => by have := (d0.l1 a hh).2; omega) (fun hh => by have := (d0.l2 a hh).2; omega) (by omega)]
theorem Q39 {n0 q k : Nat} {ps : List (List UInt8)} {h : H} (w : Wk n0 q ps k h) (hk : k <= 1000) (hpl : ps.length <= 1000) {m : List UInt8} (hm : m.length = 64) :
  ∃ h', call Ev Fn.Xy [pv q 0, iv Ly (ps.length : Int), lv (bys m)] h = some (.tup [], h') /\ Stp n0 q ps h (ps ++ [m]) (k + 1) h' := by
 obtain ⟨y1, y2, es, b1, b2, d, h1⟩ := w;have hq := d.qn;have hml : m.length <= lim := by unfold lim; omega
 rw [W7];simp only [Hw, d.ld, gx0, ob];rw [Gp d.p, ob, XP];simp only [Q3, Q2];rw [Q1, if_pos (by simp), Qa Xc QE, ob, Z2]
 obtain ⟨v, k1, e1, w1, nn⟩ := W6 (m := m) hml h.n;obtain ⟨e2, w2, u2, n2, x2⟩ := Jh e1 w1 nn;rw [e2];generalize h.over k1 = K at w2 u2 n2 x2 ⊢;rw [ZB x2, JW rfl, if_pos (by simp), kV, ZB (Zj.new x2)]
 have wk : OutS 1 1 y1 (bss ps) b1 K := d.p.frame fun c hc => by
  have := d.p.rep.lt c hc;exact ⟨by omega, u2.g c (by omega)⟩
 obtain ⟨h3, bs3, e3, w3, n3, f3, o3, q3, _⟩ := YS wk (Rb w2) rfl (by omega) (by simp) (fun c hc hh => by have := d.p.rep.lt c hc; have := HT.1 hh; omega) (by simp; unfold lim; omega)
 rw [e3, ob];dsimp only;have kq : h3.g q = .rw 0 [y1, y2] := by
  rw [o3 q (by omega) (fun hh => (d.l1 q hh).1 rfl), u2.g q (by omega)]
  exact d.g
 rw [Zq (z := 1) (e := 0) (o := 0) (b := q) (cs := [y1, y2]) (r := [.sl (some (K.n + 1, 0)) ((bss ps).length + 1)]) (by omega) kq (.inl ⟨_, rfl, rfl, rfl⟩) rfl (by simp)]
 rw [show setAt [y1, y2] 0 [S.sl (some (K.n + 1, 0)) ((bss ps).length + 1)] = [.sl (some (K.n + 1, 0)) ((bss ps).length + 1), y2] from rfl]
 rw [<- Np] at w3;have pn : (h3.put q (.rw 0 [.sl (some (K.n + 1, 0)) ((bss ps).length + 1), y2])).n = h3.n := Qq _ _ _;have pq : (h3.put q (.rw 0 [.sl (some (K.n + 1, 0)) ((bss ps).length + 1), y2])).g q = .rw 0 [.sl (some (K.n + 1, 0)) ((bss ps).length + 1), y2] := Z9 _ _ _;have po : ∀ a, a ≠ q -> (h3.put q (.rw 0 [.sl (some (K.n + 1, 0)) ((bss ps).length + 1), y2])).g a = h3.g a := fun a ha => QG ha
 generalize h3.put q (.rw 0 [.sl (some (K.n + 1, 0)) ((bss ps).length + 1), y2]) = P at pn pq po ⊢;generalize S.sl (some (K.n + 1, 0)) ((bss ps).length + 1) = z at pq w3;unfold Jn.JX;have ldP : ∀ {o : Nat}, Qb P (pv q o) = ([z, y2] : List S)[o]? := fun {o} => by
  have : q < P.n := by omega
  simp [Qb, H.cells, this, pq, Blk.cells]
 simp only [Hw, ldP, gx0, gx1, ob];rw [Qa Xc QE, ob, Z2];obtain ⟨v, k5, e5, w5, nn5⟩ := W6 (m := m) hml P.n;obtain ⟨e6, wb6, u6, n6, x6⟩ := Jh e5 w5 nn5;rw [e6];generalize P.over k5 = K2 at wb6 u6 n6 x6 ⊢;rw [ZB x6, Rx rfl, ZB (Zj.new x6)];have f3' : ∀ a ∈ bs3, a ∈ b1 \/ (h.n <= a /\ a < h3.n) := fun a ha => by
  have hlt := w3.rep.lt a ha
  rcases f3 a ha with h1 | h1 | h1
  · right; omega
  · exact .inl h1
  · have := HT.1 h1; right; omega
 have hb2 : ∀ a ∈ b2, P.g a = h.g a := fun a ha => by
  have := d.e.rep.lt a ha;rw [po a (d.l2 a ha).1, o3 a (by omega) (fun hh => d.d a hh ha), u2.g a this]
 have wk6 : OutS 2 1 y2 (Z1 es) b2 K2 := d.e.frame fun a ha => by
  have := d.e.rep.lt a ha;exact ⟨by omega, (u6.g a (by omega)).trans (hb2 a ha)⟩
 have wr := Bk (a := (ps.length : Int)) (N := 0) wb6;obtain ⟨h7, bs7, e7, w7, n7, f7, o7, q7, _⟩ := YS wk6 wr rfl (by omega) (by simp) (fun a ha hh => by have := d.e.rep.lt a ha; have := HT.1 hh; omega) (by simp; unfold lim; omega)
 rw [e7, ob];dsimp only;have q7' : h7.g q = .rw 0 [z, y2] := by rw [o7 q (by omega) (fun hh => (d.l2 q hh).1 rfl), u6.g q (by omega)]; exact pq
 rw [Zq (z := 1) (e := 0) (o := 1) (b := q) (cs := [z, y2]) (r := [.sl (some (K2.n + 1, 0)) ((Z1 es).length + 1)]) (by omega) q7' (.inl ⟨_, rfl, rfl, rfl⟩) rfl (by simp)]
 rw [show setAt [z, y2] 1 [S.sl (some (K2.n + 1, 0)) ((Z1 es).length + 1)] = [z, .sl (some (K2.n + 1, 0)) ((Z1 es).length + 1)] from rfl]
 rw [<- M1] at w7;have f7' : ∀ a ∈ bs7, a ∈ b2 \/ h3.n <= a := fun a ha => by
  rcases f7 a ha with h1 | h1 | h1
  · right; omega
  · exact .inl h1
  · have := HT.1 h1; right; omega
 refine ⟨_, rfl, .inr ⟨z, _, _, bs3, bs7, ⟨w3.frame fun a ha => ?_, w7.frame fun a ha => ⟨by rw [Qq]; exact w7.rep.lt a ha, QG ?_⟩, fun a ha hh => ?_, fun a ha => ?_, fun a ha => ?_, ⟨hq.1, by rw [Qq]; omega⟩, Z9 _ _ _⟩, by rw [HO]; simp; omega, by simp [QR]; omega⟩, by rw [Qq]; omega, fun a ha => ?_⟩
 ·have hlt := w3.rep.lt a ha
  have haq : a ≠ q := by
   rcases f3' a ha with h1 | h1
   · exact (d.l1 a h1).1
   · omega
  have hab : a ∉ b2 := by
   rcases f3' a ha with h1 | h1
   · exact d.d a h1
   · intro hh; have := d.e.rep.lt a hh; omega
  exact ⟨by rw [Qq]; omega, by rw [QG haq, o7 a (by omega) hab, u6.g a (by omega), po a haq]⟩
 ·rcases f7' a ha with h1 | h1
  · exact (d.l2 a h1).1
  · omega
 ·rcases f3' a ha with h1 | h1
  ·rcases f7' a hh with h2 | h2
   · exact d.d a h1 h2
   · have := d.p.rep.lt a h1; omega
  ·rcases f7' a hh with h2 | h2
   · have := d.e.rep.lt a h2; omega
   · omega
 ·rcases f3' a ha with h1 | h1
  · exact d.l1 a h1
  · omega
 ·rcases f7' a ha with h1 | h1
  · exact d.l2 a h1
  · omega
 · rw [QG (by omega), o7 a (by omega) (fun hh => by have := (d.l2 a hh).2; omega), u6.g a (by omega), po a (by omega), o3 a (by omega) (fun hh => by have := (d.l1 a hh).2; omega), u2.g a (by omega)]
end Vm
namespace Vm
open Go
theorem jZ {h : H} {q : Nat} {p m : List UInt8} {vm : V} (wp : BysW h (sv q 0 64) p q) (hp : QH p = 0) (hm : inB m.length 1 20 = true) (hf : QL h vm = some (lv (bys m))) :
  ∃ (y : S) (h1 : H), (∀ (R : Type) (off : Bool) (k : V -> H -> Option R), ((Qt h [sv q 0 64, vm]).bind fun l => Qj (call Ev) Fn.Xq off (Qr [] l) h k) = k (.tup [.s y, .s (.int Ly (pu0 p m).2.1), .s (.int Ly (pu0 p m).1)]) h1) /\ Up h h1 /\ ((pu0 p m).1 = 0 -> ∃ d, y = .sl (some (d, 0)) 64 /\ BysW h1 (sv d 0 64) (pu0 p m).2.2 d /\ h.n <= d) := by
 obtain ⟨y, h5, o5, e5, w5⟩ := Bv (m := m) hp hm h.n;have u5 : Up h (h.over h5) := Je w5.le;refine ⟨y, h.over h5, fun R off k => ?_, u5, fun hz => ?_⟩
 ·rw [Qa (Jd (ob := some q) wp) (Qa hf QE), ob, Z2]
  exact pF (h := h) e5 ⟨by simp [w5.own.sca], w5.z⟩
 ·obtain ⟨s1, _⟩ := NL hp hm hz
  have s64 := (Qv s1).1;obtain ⟨c, w6⟩ := w5.some_of (fun hn => by rw [hn] at s64; simp at s64)
  obtain ⟨_, w6', hc6⟩ := w6.over;have hv := w6'.v;rw [s64] at hv
  injection hv with hv
  subst hv;exact ⟨c, rfl, w6', hc6⟩
theorem jX {h : H} {q k : Nat} {p m : List UInt8} {vm : V} (wp : BysW h (sv q 0 64) p q) (hp : QH p = 0) (hb : Z7 p (k : Int) = true) (hm : inB m.length 1 20 = true) (hf : QL h vm = some (lv (bys m))) :
  ∃ (y : S) (h1 : H), (∀ (R : Type) (off : Bool) (f : V -> H -> Option R), ((Qt h [sv q 0 64, iv Ly (k : Int), vm]).bind fun l => Qj (call Ev) Fn.Yy off (Qr [] l) h f) = f (.tup [.s y, .s (.int Ly (Jb p k m).1)]) h1) /\ Up h h1 /\ ((Jb p k m).1 = 0 -> ∃ d, y = .sl (some (d, 0)) 64 /\ BysW h1 (sv d 0 64) (Jb p k m).2.2 d /\ h.n <= d) := by
 obtain ⟨y, h5, o5, e5, w5⟩ := km (m := m) hp (Ka.1 hb).1 hm hb h.n;have u5 : Up h (h.over h5) := Je w5.le;refine ⟨y, h.over h5, fun R off f => ?_, u5, fun hz => ?_⟩
 ·rw [Qa (Jd (ob := some q) wp) (Qa XG (Qa hf QE)), ob, Z2]
  exact pF (h := h) e5 ⟨by simp [w5.own.sca], w5.z⟩
 ·obtain ⟨s1, _⟩ := qz hz
  have s64 := (Qv s1).1;obtain ⟨c, w6⟩ := w5.some_of (fun hn => by rw [hn] at s64; simp at s64)
  obtain ⟨_, w6', hc6⟩ := w6.over;have hv := w6'.v;rw [s64] at hv
  injection hv with hv
  subst hv;exact ⟨c, rfl, w6', hc6⟩
theorem y9 {h : H} {q : Nat} {p : List UInt8} (wp : BysW h (sv q 0 64) p q) (hp : QH p = 0) :
  ∃ (h1 : H) (d : Nat), (∀ (R : Type) (off : Bool) (f : V -> H -> Option R), ((Qt h [sv q 0 64]).bind fun l => Qj (call Ev) Fn.Zy off (Qr [] l) h f) = f (sv d 0 64) h1) /\ Up h h1 /\ BysW h1 (sv d 0 64) (KZ p) d /\ h.n <= d := by
 obtain ⟨h5, e5, w5⟩ := BO hp h.n;obtain ⟨u, w6, hc⟩ := w5.over;refine ⟨h.over h5, h.n, fun R off f => ?_, u, w6, hc⟩
 rw [Qa (Jd (ob := some q) wp) QE, ob, Z2];exact pF (h := h) e5 ⟨rfl, w5.z⟩
def Pgs (ps : List (List UInt8)) : Prop := ∀ l ∈ ps, QH l = 0
theorem Pgs.set {ps : List (List UInt8)} {p : Nat} {m : List UInt8} (w : Pgs ps) (hm : QH m = 0) : Pgs (ps.set p m) := fun l hl => by
 rcases EU hl with h | h
 · exact w l h
 · rw [h]; exact hm
theorem Pgs.at {ps : List (List UInt8)} (w : Pgs ps) {p : Nat} {l : List UInt8} (h : ps[p]? = some l) : QH l = 0 /\ l.length = 64 /\ l ≠ [] := by
 have h1 := w l (HU h);have h2 := (Qv h1).1;exact ⟨h1, h2, fun e => by rw [e] at h2; cases h2⟩
theorem Q0X {y : S} {ps : List (List UInt8)} {bs : List Nat} {h : H} {i : Nat} {l : List UInt8} (w : OutS 1 1 y (bss ps) bs h) (hi : ps[i]? = some l) (hne : l ≠ []) :
  ∃ c, c ∈ bs /\ BysW h (sv c 0 l.length) l c /\ ∀ {R : Type} {w0 : Nat} {zz : List S} {dd : TD} {bb : Bool} {kd : IntKind} {f : V -> Option R}, (Qd 1 (.s y) (iv kd (i : Int)) fun v => ldK (.one .f) ⟨1, w0, zz, false, dd, bb⟩ h v f) = f (sv c 0 l.length) := by
 have hil : i < ps.length := (HF.1 hi).1
 rcases w.rep with ⟨⟨h3, h4⟩ | ⟨h3, h4⟩, h5⟩ | ⟨b, z', cs, rows', bss', h3, h4, h5, h6, h7, h8, h9, h10⟩
 · rw [<- h4] at h3; exact h3.elim
 ·injection h4 with h4
  have := congrArg EB h4;simp at this;subst this;simp at hil
 ·injection h4 with h4
  subst h4;subst h3;rw [zT] at h10;obtain ⟨yp, bp, g1, g2, g3⟩ := h10.get (i := i) (f := .fs (bys l)) (by simp [hi])
  rcases g2.of_bys with ⟨h1, _⟩ | ⟨c, h1, h2⟩
  · exact absurd h1 hne
  ·have hv := h1.v
   injection hv with hv
   subst hv;refine ⟨c, by rw [h5]; simp [g3 c (by rw [h2]; simp)], h1, ?_⟩
   intro R w0 zz dd bb kd f;rw [XP, Z3 hil];show ldT _ h (pv b (i * 1)) f = _;unfold ldT;have : Qb h (pv b (i * 1)) = some (.sl (some (c, 0)) l.length) := by
    simp [Qb, H.cells, h6, h8, Blk.cells, g1]
   simp only [cond_false];rw [this, ob]
section
variable {n0 q k : Nat} {ps : List (List UInt8)} {h : H} {m : List UInt8}
theorem Wk.rd (w : Wk n0 q ps k h) {p : Nat} {l : List UInt8} (hl : ps[p]? = some l) (h64 : l.length = 64) : ∃ y1 c, Qb h (pv q 0) = some y1 /\ BysW h (sv c 0 64) l c /\ ∀ {R : Type} {w0 : Nat} {zz : List S} {dd : TD} {bb : Bool} {f : V -> Option R}, (Qd 1 (.s y1) (iv Ly (p : Int)) fun v => ldK (.one .f) ⟨1, w0, zz, false, dd, bb⟩ h v f) = f (sv c 0 64) := by
 obtain ⟨y1, y2, es, b1, b2, d, hk⟩ := w;have hne : l ≠ [] := fun e => by rw [e] at h64; cases h64
 obtain ⟨c, hc, wc, g⟩ := Q0X d.p hl hne;rw [h64] at wc;refine ⟨y1, c, by rw [d.ld]; rfl, wc, ?_⟩
 intro R w0 zz dd bb f;rw [<- h64]; exact g
theorem Wk.rn (w : Wk n0 q ps k h) : ∃ y1, Qb h (pv q 0) = some y1 /\ ∀ t, Xi (.sl t) (.s y1) = some (iv Ly (ps.length : Int)) := by
 obtain ⟨y1, y2, es, b1, b2, d, hk⟩ := w;exact ⟨y1, by rw [d.ld]; rfl, fun t => by rw [Gp d.p, XP]⟩
theorem Q0x (w : Wk n0 q ps k h) (hk : k <= 900) (hpl : ps.length <= 12) (hp : Pgs ps) {p : Nat} (hpn : p < ps.length) (hm : inB m.length 1 20 = true) :
  ∃ (s : Int) (ok : Bool) (ps' : List (List UInt8)) (h' : H), call Ev Fn.Gz [pv q 0, iv Ly (p : Int), lv (bys m)] h = some (.tup [.s (.int Ly s), .s (.bool ok)], h') /\ Stp n0 q ps h ps' (k + 2) h' /\ ps'.length = ps.length /\ Pgs ps' /\
   (ok = true -> Qg ps p s = none /\ Qg ps' = upd (Qg ps) p s (some (QS m))) /\ (ok = false -> Qg ps' = Qg ps) := by
 obtain ⟨l, hl⟩ : ∃ l, ps[p]? = some l := ⟨ps[p], HI hpn⟩;obtain ⟨hl0, h64, hne⟩ := hp.at hl;have hq := w.q;rw [Rl];obtain ⟨y1, c, l1, wc, g1⟩ := w.rd hl h64;rw [Hw, l1, ob, g1];obtain ⟨y, H1, e1, u1, z1⟩ := jZ (vm := lv (bys m)) wc hl0 hm Xc;rw [e1];simp only [Za, Zc, gx0, gx1, ob, Q2, ln0, ln1, Hw, HA, if_true];rw [Q1]
 by_cases c8 : (pu0 l m).1 = 8
 case neg =>
  rw [if_neg (by simpa using c8), Q1]
  by_cases c0 : (pu0 l m).1 = 0
  case neg =>
   rw [if_pos (by simpa using c0)]
   exact ⟨0, false, ps, H1, rfl, Stp.same u1 (by omega), rfl, hp, fun hh => by (cases hh), fun _ => rfl⟩
  rw [if_neg (by simp [c0])]
  obtain ⟨d, rfl, wd, hd⟩ := z1 c0;obtain ⟨f1, f2, f3⟩ := wQ hl hl0 hm c0;obtain ⟨h2, e2, s2⟩ := Bi w u1 (by omega) (by omega) hl h64 (Qv f3).1 wd hd
  rw [e2, ob];dsimp only;exact ⟨(pu0 l m).2.1, true, _, _, rfl, ((s2.tidy (w.up u1) _).pre u1 (by omega)).weak (by omega), HN, hp.set f3, fun _ => ⟨f2, f1⟩, fun hh => by cases hh⟩
 rw [if_pos (by simpa using c8)]
 have W1 := w.up u1;obtain ⟨y2, c2, l2, wc2, g2⟩ := W1.rd hl h64;rw [l2, ob, g2];obtain ⟨H2, d, e2, u2, wd, hd⟩ := y9 wc2 hl0;rw [e2];obtain ⟨f1, f2⟩ := kH hl hl0;have hd' : h.n <= d := by have := u1.n; omega
 obtain ⟨h3, e3, s3⟩ := Bi w (u1.trans u2) (by omega) (by omega) hl h64 (Qv f2).1 wd hd'
 rw [e3, ob];dsimp only;have W2 := W1.up u2;have s3' := s3.tidy W2 [.tup []];have W3 := s3'.wk W2 (by omega)
 generalize tidy H2 [.tup []] h3 = X at s3' W3 ⊢;have hl' : (ps.set p (KZ l))[p]? = some (KZ l) := by rw [Dc hpn]
 have hp' := hp.set (p := p) f2;obtain ⟨y4, c4, l4, wc4, g4⟩ := W3.rd hl' (Qv f2).1;rw [l4, ob, g4];obtain ⟨y5, H5, e5, u5, z5⟩ := jZ (vm := lv (bys m)) wc4 f2 hm Xc;rw [e5];simp only [Za, Zc, gx0, gx1, ob, Q2, ln0, ln1, Hw, HA, if_true];rw [Q1];have hXq := W3.q;have sX := s3'.pre (u1.trans u2) (by omega)
 by_cases c0 : (pu0 (KZ l) m).1 = 0
 case neg =>
  rw [if_pos (by simpa using c0)]
  exact ⟨0, false, _, H5, rfl, sX.trans (Stp.same u5 (by omega)) (by omega), HN, hp', fun hh => by (cases hh), fun _ => f1⟩
 rw [if_neg (by simp [c0])]
 obtain ⟨d6, rfl, wd6, hd6⟩ := z5 c0;obtain ⟨g1', g2', g3'⟩ := wQ hl' f2 hm c0;obtain ⟨h7, e7, s7⟩ := Bi W3 u5 (by omega) (by rw [HN]; omega) hl' (Qv f2).1 (Qv g3').1 wd6 hd6
 rw [e7, ob];dsimp only;refine ⟨(pu0 (KZ l) m).2.1, true, _, _, rfl, sX.trans (((s7.tidy (W3.up u5) _).pre u5 (by omega)).weak (k2 := k + 2) (by omega)) (by omega), by rw [HN, HN], hp'.set g3', fun _ => ⟨by rw [<- f1]; exact g2', by rw [g1', f1]⟩, fun hh => by cases hh⟩
theorem PQ (w : Wk n0 q ps k h) (hk : k <= 900) (hpl : ps.length <= 12) (hp : Pgs ps) {p j : Nat} {l : List UInt8} (ca : CellAt ps p j l) (hm : inB m.length 1 20 = true) :
  ∃ (ok : Bool) (ps' : List (List UInt8)) (h' : H), call Ev Fn.Yx [pv q 0, iv Ly (p : Int), iv Ly (j : Int), lv (bys m)] h = some (bv ok, h') /\ Stp n0 q ps h ps' (k + 2) h' /\ ps'.length = ps.length /\ Pgs ps' /\
   (ok = true -> Qg ps' = upd (Qg ps) p j (some (QS m))) /\ (ok = false -> Qg ps' = Qg ps) /\ (m.length <= (Qm l j).length -> ok = true) := by
 have hl := ca.p;have hpn := (HF.1 hl).1;obtain ⟨hl0, h64, hne⟩ := hp.at hl;have hq := w.q;have hcl : ((Qm l j).length : Int) = siz l j := by
  have hb := (Pg.of hl0).bd ca.len.2.2.1 (Ka.1 ca.h).2;have q1 := Xl l j;rw [W9 (by omega)]
  omega
 have hsz : m.length <= (Qm l j).length -> (Jb l (j : Int) m).1 = 0 := fun hh => by
  unfold Jb;rw [if_neg (by simp [hl0]), if_neg (by simp [hm]), if_neg (by simp [ca.h]), HQ, if_pos (by omega)]
 rw [PH];obtain ⟨y1, c, l1, wc, g1⟩ := w.rd hl h64;rw [Hw, l1, ob, g1];obtain ⟨y, H1, e1, u1, z1⟩ := jX (vm := lv (bys m)) wc hl0 ca.h hm Xc;rw [e1];simp only [Za, Zc, gx0, gx1, ob, Q2, ln0, ln1, Hw, HA, if_true];rw [Q1]
 by_cases c8 : (Jb l (j : Int) m).1 = 8
 case neg =>
  rw [if_neg (by simpa using c8), Q1]
  by_cases c0 : (Jb l (j : Int) m).1 = 0
  case neg =>
   rw [if_pos (by simpa using c0)]
   exact ⟨false, ps, H1, rfl, Stp.same u1 (by omega), rfl, hp, fun hh => by (cases hh), fun _ => rfl, fun hh => absurd (hsz hh) c0⟩
  rw [if_neg (by simp [c0])]
  obtain ⟨d, rfl, wd, hd⟩ := z1 c0;obtain ⟨f1, f3⟩ := wP hl hl0 c0;obtain ⟨h2, e2, s2⟩ := Bi w u1 (by omega) (by omega) hl h64 (Qv f3).1 wd hd
  rw [e2, ob];dsimp only;exact ⟨true, _, _, rfl, ((s2.tidy (w.up u1) _).pre u1 (by omega)).weak (by omega), HN, hp.set f3, fun _ => f1, fun hh => by (cases hh), fun _ => rfl⟩
 rw [if_pos (by simpa using c8)]
 have W1 := w.up u1;obtain ⟨y2, c2, l2, wc2, g2⟩ := W1.rd hl h64;rw [l2, ob, g2];obtain ⟨H2, d, e2, u2, wd, hd⟩ := y9 wc2 hl0;rw [e2];obtain ⟨f1, f2⟩ := kH hl hl0;have hd' : h.n <= d := by have := u1.n; omega
 obtain ⟨h3, e3, s3⟩ := Bi w (u1.trans u2) (by omega) (by omega) hl h64 (Qv f2).1 wd hd'
 rw [e3, ob];dsimp only;have W2 := W1.up u2;have s3' := s3.tidy W2 [.tup []];have W3 := s3'.wk W2 (by omega)
 generalize tidy H2 [.tup []] h3 = X at s3' W3 ⊢;have hl' : (ps.set p (KZ l))[p]? = some (KZ l) := by rw [Dc hpn]
 have hp' := hp.set (p := p) f2;have hb' : Z7 (KZ l) (j : Int) = true := by
  have e := congrFun (congrFun f1 (p : Int)) (j : Int);rw [Xp hl', Xp hl, Gj ca.h] at e;obtain ⟨j', hj, hh, _⟩ := Vb e;rw [hj]; exact hh
 obtain ⟨y4, c4, l4, wc4, g4⟩ := W3.rd hl' (Qv f2).1;rw [l4, ob, g4];obtain ⟨y5, H5, e5, u5, z5⟩ := jX (vm := lv (bys m)) wc4 f2 hb' hm Xc;rw [e5];simp only [Za, Zc, gx0, gx1, ob, Q2, ln0, ln1, Hw, HA, if_true];rw [Q1];have hXq := W3.q;have sX := s3'.pre (u1.trans u2) (by omega)
 by_cases c0 : (Jb (KZ l) (j : Int) m).1 = 0
 case neg =>
  rw [if_pos (by simpa using c0)]
  exact ⟨false, _, H5, rfl, sX.trans (Stp.same u5 (by omega)) (by omega), HN, hp', fun hh => by (cases hh), fun _ => f1, fun hh => by rw [hsz hh] at c8; cases c8⟩
 rw [if_neg (by simp [c0])]
 obtain ⟨d6, rfl, wd6, hd6⟩ := z5 c0;obtain ⟨g1', g3'⟩ := wP hl' f2 c0;obtain ⟨h7, e7, s7⟩ := Bi W3 u5 (by omega) (by rw [HN]; omega) hl' (Qv f2).1 (Qv g3').1 wd6 hd6
 rw [e7, ob];dsimp only;exact ⟨true, _, _, rfl, sX.trans (((s7.tidy (W3.up u5) _).pre u5 (by omega)).weak (k2 := k + 2) (by omega)) (by omega), by rw [HN, HN], hp'.set g3', fun _ => by rw [g1', f1], fun hh => by (cases hh), fun _ => rfl⟩
end
end Vm
namespace Vm
open Go
theorem NY {R : Type} {h : H} {q : Nat} {y : S} {w0 : Nat} {zz : List S} {dd : TD} {bb : Bool} {f : V -> Option R} (hl : Qb h (pv q 0) = some y) : ldK (.one .f) ⟨1, w0, zz, false, dd, bb⟩ h (pv q 0) f = f (.s y) := by
 show ldT _ h (pv q 0) f = _;unfold ldT;simp only [cond_false];rw [hl, ob]
theorem PU {q : Nat} : JC 0 (pv q 0) = some (pv q 0) := rfl
theorem je {q : Nat} : GH (pv q 0) = some (pv q 0) := rfl
section
variable {n0 q : Nat} {m : List UInt8} {nt : Int}
theorem u7 (hm : inB m.length 1 20 = true) : ∀ (f i k : Nat) (ps : List (List UInt8)) (h : H), ps.length - i = f -> Wk n0 q ps k h -> k + 2 * f <= 900 -> ps.length <= 12 -> Pgs ps ->
  (∃ (p : Nat) (s : Int) (ps' : List (List UInt8)) (h' : H), Lp.ZP 0 [pv q 0, iv Ly nt, lv (bys m), iv Ly (i : Int)] h = some (.ret (.tup [.s (.int Ly (p : Int)), .s (.int Ly s), .s (.bool true)]) h') /\ Stp n0 q ps h ps' (k + 2 * f) h' /\ ps'.length = ps.length /\ Pgs ps' /\ Qg ps p s = none /\ Qg ps' = upd (Qg ps) p s (some (QS m))) \/
  (∃ (ps' : List (List UInt8)) (h' : H), Lp.ZP 0 [pv q 0, iv Ly nt, lv (bys m), iv Ly (i : Int)] h = some (.done [pv q 0, lv (bys m)] h') /\ Stp n0 q ps h ps' (k + 2 * f) h' /\ ps'.length = ps.length /\ Pgs ps' /\ Qg ps' = Qg ps) := by
 intro f
 induction f with
 | zero =>
  intro i k ps h hf w hk hpl hp;have hq := w.q;obtain ⟨y1, l1, len⟩ := w.rn
  right
  refine ⟨ps, h, ?_, Stp.same (Up.refl h) (by omega), rfl, hp, rfl⟩
  rw [Wq, je, ob, PU, ob, NY l1, len, ob];simp only [Q3, Q2];rw [Q1, if_neg (by simp; omega), Q6]
 | succ f ih =>
  intro i k ps h hf w hk hpl hp;have hq := w.q;obtain ⟨y1, l1, len⟩ := w.rn;rw [Wq, je, ob, PU, ob, NY l1, len, ob];simp only [Q3, Q2];rw [Q1, if_pos (by simp; omega), Q1, w64 (by omega) (by omega), show (i : Int) + 1 = ((i + 1 : Nat) : Int) from by omega]
  by_cases hi : (i : Int) = nt
  ·rw [if_pos (by simpa using hi), Q6]
   rcases ih (i + 1) k ps h (by omega) w (by omega) hpl hp with ⟨p, s, ps', h', e, s1, s2, s3, s4, s5⟩ | ⟨ps', h', e, s1, s2, s3, s4⟩
   · exact .inl ⟨p, s, ps', h', e, s1.weak (by omega), s2, s3, s4, s5⟩
   · exact .inr ⟨ps', h', e, s1.weak (by omega), s2, s3, s4⟩
  rw [if_neg (by simpa using hi)]
  obtain ⟨s, ok, ps1, h1, e1, s1, n1, p1, o1, o2⟩ := Q0x w (by omega) hpl hp (p := i) (by omega) hm
  rw [e1, ob];simp only [Za, Zc, gx0, gx1, ob, Q2, QW, ln0, ln1, Hw, HA, if_true];rw [Q1]
  cases ok with
  | true =>
   obtain ⟨z1, z2⟩ := o1 rfl;rw [if_pos rfl];exact .inl ⟨i, s, ps1, _, rfl, (s1.tidy w _).weak (by omega), n1, p1, z1, z2⟩
  | false =>
   have z := o2 rfl;rw [if_neg (by simp)]
   have s2 := (s1.tidy w [.tup [.s (.int Ly s), .s (.bool false)]]).tidy w [pv q 0, iv Ly nt, lv (bys m), iv Ly ((i + 1 : Nat) : Int)];have w2 := s2.wk w (by omega)
   rcases ih (i + 1) (k + 2) ps1 _ (by omega) w2 (by omega) (by omega) p1 with ⟨p, s', ps', h', e, t1, t2, t3, t4, t5⟩ | ⟨ps', h', e, t1, t2, t3, t4⟩
   · exact .inl ⟨p, s', ps', h', e, (s2.trans t1 (by omega)).weak (by omega), by omega, t3, by rw [<- z]; exact t4, by rw [t5, z]⟩
   · exact .inr ⟨ps', h', e, (s2.trans t1 (by omega)).weak (by omega), by omega, t3, by rw [t4, z]⟩
end
theorem vG : Q8 (call Ev) Fn.X7 [iv LA 0] = some (lv (bys (XE 0))) := by
 obtain ⟨h', e, w⟩ := Bw (c := 0) (by omega) (by omega) 0
 unfold Q8;rw [e, ob];exact Jd w.own
theorem Q1F {m : List UInt8} (hm : inB m.length 1 20 = true) : (pu0 (XE 0) m).1 = 0 := by
 have hm' := X4.1 hm;have e1 : Kd (XE 0) = 0 := by decide
 have e2 : cnt (XE 0) = 0 := by decide
 have e3 : KP (XE 0) = 62 := by decide
 have e4 : bt (XE 0) 1 = 64 := by decide
 unfold pu0 puN puM;rw [e1, e2, e3, e4];rw [if_neg (by omega), if_neg (by simp; omega), if_neg (by simp; omega)]
section
variable {n0 q k : Nat} {ps : List (List UInt8)} {h : H} {m : List UInt8} {nt : Int}
theorem RQ (w : Wk n0 q ps k h) (hk : k <= 800) (hpl : ps.length <= 12) (hp : Pgs ps) (hm : inB m.length 1 20 = true) :
  ∃ (a b : Int) (ok : Bool) (ps' : List (List UInt8)) (h' : H), call Ev Fn.ZP [pv q 0, iv Ly nt, lv (bys m)] h = some (.tup [.s (.int Ly a), .s (.int Ly b), .s (.bool ok)], h') /\ Stp n0 q ps h ps' (k + 30) h' /\ ps'.length <= 12 /\ Pgs ps' /\
   (ok = true -> Qg ps a b = none /\ Qg ps' = upd (Qg ps) a b (some (QS m))) /\ (ok = false -> Qg ps' = Qg ps) := by
 have hq := w.q;rw [Rm, show iv Ly 0 = iv Ly ((0 : Nat) : Int) from rfl]
 rcases u7 (nt := nt) hm ps.length 0 k ps h rfl w (by omega) hpl hp with ⟨p, s, ps', h', e, t1, t2, t3, t4, t5⟩ | ⟨ps', h', e, t1, t2, t3, t4⟩
 ·rw [e, ob, Zx]
  exact ⟨p, s, true, ps', h', rfl, t1.weak (by omega), by omega, t3, fun _ => ⟨t4, t5⟩, fun hh => by cases hh⟩
 rw [e, ob, Qc];have w1 := t1.wk w (by omega)
 obtain ⟨y1, l1, len⟩ := w1.rn;simp only [gx0, gx1, ob];rw [je, ob, PU, ob, NY l1, len, ob];simp only [Q3, Q2];rw [Q1]
 by_cases h12 : 12 <= ps'.length
 ·rw [if_pos (by simp; omega)]
  exact ⟨0, 0, false, ps', h', rfl, t1.weak (by omega), by omega, t3, fun hh => by (cases hh), fun _ => t4⟩
 rw [if_neg (by simp; omega), vG, ob]
 simp only [Q3, QY];rw [show ([lv (bys (XE 0)), lv (bys m)].all Z5) = true from rfl, cond_true, Qa Xc (Qa Xc QE), ob, Z2, Q0E (MC _) hm, ob]
 simp only [Za, Zc, gx0, gx1, ob, Q2, QY, ln0, ln1, Hw, HA, if_true];rw [PU, ob, NY l1, len, ob];simp only [Q3, Q2];obtain ⟨f1, f2, f3⟩ := Q2y (ps := ps') hm (Q1F hm);obtain ⟨h2, e2, s2⟩ := Q39 w1 (by omega) (by omega) (m := (pu0 (XE 0) m).2.2) (Qv f3).1
 rw [e2, ob];dsimp only;have s2' := s2.tidy w1 [.tup []];have w2 := s2'.wk w1 (by omega)
 obtain ⟨y2, l2, len2⟩ := w2.rn;rw [ob, NY l2, len2, ob];simp only [Q3, Q2];refine ⟨_, (pu0 (XE 0) m).2.1, true, _, _, rfl, (t1.trans s2' (by omega)).weak (by omega), by rw [HO]; simp; omega, fun l hl => ?_, fun _ => ?_, fun hh => by cases hh⟩
 ·rcases HK.1 hl with hl | hl
  · exact t3 l hl
  · rw [HT.1 hl]; exact f3
 ·rw [w64 (by rw [HO]; simp <;> omega) (by rw [HO]; simp <;> omega), show (((ps' ++ [(pu0 (XE 0) m).2.2]).length : Nat) : Int) - 1 = (ps'.length : Int) from by rw [HO]; simp]
  rw [<- t4];exact ⟨f2, f1⟩
theorem Q1s (w : Wk n0 q ps k h) (hk : k <= 900) (hpl : ps.length <= 12) {p j : Nat} {l : List UInt8} (ca : CellAt ps p j l) :
  ∃ h', call Ev Fn.Y9 [pv q 0, iv Ly (p : Int), iv Ly (j : Int)] h = some (.tup [], h') /\ Stp n0 q ps h (ps.set p (Z4 l j)) (k + 1) h' := by
 obtain ⟨y1, y2, es, b1, b2, d, h1⟩ := w;have hq := d.qn;obtain ⟨h', y2', b1', b2', e, ed⟩ := RP d ca (by omega) (by omega)
 exact ⟨h', e, .inr ⟨_, _, _, _, _, ed.w, by rw [HO]; simp; omega, ed.b _ (Hx _)⟩, ed.n, fun a ha => ed.f a (by omega) (fun hh => by have := (d.l1 a hh).2; omega) (fun hh => by have := (d.l2 a hh).2; omega) (by omega)⟩
end
theorem yh {a b : Int} (h : (inB a 0 11 && inB b 0 15) = true) : Q8 (call Ev) Fn.Jr [iv Ly a, iv Ly b] = some (lv (bys [1, o8 a, o8 b])) := by
 rw [My, Q1u h]
theorem kI {ps : List (List UInt8)} (hp : Pgs ps) (hl : ps.length <= 12) {a b : Int} {c : CellD} (h : Qg ps a b = some c) : (inB a 0 11 && inB b 0 15) = true := by
 obtain ⟨i, k, l, rfl, rfl, ca, _⟩ := J1 hp h;have := (HF.1 ca.p).1;have := ca.len.2.2.2;rw [HE, X4, X4];omega
theorem OkF.lead {F : CF} (w : OkF F) {p s : Int} (hn : F p s = none) {a b : Int} {d : CellD} (h : F a b = some d) (h1 : d.flag = 1) : ¬ (d.page = p /\ d.slot = s) := fun hh => by
 obtain ⟨e, g1, g2⟩ := w.m a b d h h1;rw [hh.1, hh.2, hn] at g1; cases g1
theorem BT {F : CF} {p s a b : Int} {v c : CellD} (h : upd F p s (some v) a b = some c) : (a = p /\ b = s /\ c = v) \/ (¬ (a = p /\ b = s) /\ F a b = some c) := by
 by_cases hab : a = p /\ b = s
 ·rw [hab.1, hab.2, XQ] at h
  injection h with h
  exact .inl ⟨hab.1, hab.2, h.symm⟩
 · rw [Zp hab] at h; exact .inr ⟨hab, h⟩
theorem OkF.move {F : CF} (w : OkF F) {p s a b : Int} {mv st d0 : CellD} (hn : F a b = none) (h0 : F p s = some d0) (hd : d0.flag ≠ 2) (hm : mv.code = 0 /\ mv.flag = 2) (hs : st.code = 0 /\ st.flag = 1 /\ st.page = a /\ st.slot = b) :
  OkF (upd F a b (some mv)) /\ OkF (upd (upd F a b (some mv)) p s (some st)) := by
 obtain ⟨s1, s2, s3, s4⟩ := hs;have w1 := w.put (p := a) (s := b) (c := mv) hm.1 (by rw [hm.2]; decide) (.inl hn)
 have hne : ¬ (p = a /\ s = b) := fun hh => by rw [hh.1, hh.2, hn] at h0; cases h0
 refine ⟨w1, w1.stub s1 s2 (d0 := d0) (by rw [Zp hne]; exact h0) hd (e := mv) (by rw [s3, s4]; exact XQ) hm.2 fun x y d hd1 hf => ?_⟩
 rw [s3, s4]
 rcases BT hd1 with ⟨_, _, rfl⟩ | ⟨_, h2⟩
 · rw [hm.2] at hf; cases hf
 · exact w.lead hn h2 hf
theorem OkF.gone {F : CF} (w : OkF F) {p s a b a' b' : Int} {mv st d0 e : CellD} (hn : F a b = none) (h0 : F p s = some d0) (hd : d0.flag = 1) (ht : d0.page = a' /\ d0.slot = b') (he : F a' b' = some e) (hm : mv.code = 0 /\ mv.flag = 2) (hs : st.code = 0 /\ st.flag = 1 /\ st.page = a /\ st.slot = b) :
  OkF (upd (upd (upd F a b (some mv)) p s (some st)) a' b' none) := by
 have w2 := (w.move hn h0 (by rw [hd]; decide) hm hs).2
 obtain ⟨s1, s2, s3, s4⟩ := hs;refine w2.drop fun x y c hc hf _ hh => ?_
 rcases BT hc with ⟨_, _, rfl⟩ | ⟨k1, hc⟩
 ·rw [s3, s4] at hh
  rw [<- hh.1, <- hh.2, hn] at he; cases he
 ·rcases BT hc with ⟨_, _, rfl⟩ | ⟨_, hc⟩
  · rw [hm.2] at hf; cases hf
  · exact k1 (w.u x y c p s d0 hc h0 hf hd (by rw [hh.1, ht.1]) (by rw [hh.2, ht.2]))
end Vm
namespace Vm
open Go
theorem Okp.of {ps' : List (List UInt8)} (hl : ps'.length <= 12) (hp : Pgs ps') (hf : OkF (Qg ps')) : Okp ps' := ⟨hl, hp, hf⟩
section
variable {n0 q k : Nat} {ps : List (List UInt8)} {h : H} {z : SpotD} {r : RowD}
theorem Q1E (w : Wk n0 q ps k h) (hk : k <= 500) (ok : Okp ps) (hz : z ∈ Zg ps) (hf : z.c.flag = 1) (hr : XW r = 0) :
  ∃ (b : Bool) (ps' : List (List UInt8)) (h' : H), call Ev Fn.YY [pv q 0, fv (spc z) 0, fv r.cs 0] h = some (bv b, h') /\ Stp n0 q ps h ps' (k + 60) h' /\ Okp ps' := by
 have hq := w.q;obtain ⟨c0, a1, a2, a3, a4, a5⟩ := ok.at hz;obtain ⟨d, g1, g2⟩ := ok.f.m _ _ c0 a1 (by rw [a2]; exact hf)
 obtain ⟨ia, ib, l2, b1, b2, b3, b4⟩ := J1 ok.p g1;have hu := MP (f := 2) (.inr rfl) hr;refine (fun (e : call Ev Fn.YY [pv q 0, fv (spc z) 0, fv r.cs 0] h = _) => ?_) (Tj q 0 z.p z.s z.c.code z.c.flag z.c.page z.c.slot z.c.row.tab z.c.row.key z.c.row.val z.c.row.text r.tab r.key r.val r.text h)
 rw [e];clear e;rw [show Q8 (call Ev) Fn.Xm [iv Ly 2, fv [S.int Ly r.tab, .int Ly r.key, .int Ly r.val, .str r.text] 0] = some (lv (bys (X9 2 r))) from Wn (by omega) (by omega) hr, ob]
 simp only [Q3, QY];have e1 : z.c.page = (ia : Int) := by rw [<- a3]; exact b1
 have e2 : z.c.slot = (ib : Int) := by rw [<- a4]; exact b2
 rw [e1, e2];obtain ⟨o1, ps1, h1, x1, s1, n1, p1, t1, f1, _⟩ := PQ w (by omega) ok.n ok.p b3 (m := X9 2 r) (Yn hr)
 rw [x1, ob];simp only [Q3, QW];rw [Q1]
 cases o1 with
 | true =>
  rw [if_pos rfl];refine ⟨true, ps1, _, rfl, (s1.tidy w _).weak (by omega), Okp.of (by rw [n1]; exact ok.n) p1 ?_⟩
  rw [t1 rfl, hu];exact ok.f.put rfl (show (2 : Int) ≠ 1 by decide) (.inr ⟨d, by rw [<- b1, <- b2]; exact g1, fun _ => rfl⟩)
 | false =>
  rw [if_neg (by simp)]
  have s1' := s1.tidy w [bv false];have w1 := s1'.wk w (by omega)
  have F1 := f1 rfl;have n1' : ps1.length <= 12 := by rw [n1]; exact ok.n
  generalize tidy h [bv false] h1 = X at s1' w1 ⊢;obtain ⟨a, b, o2, ps2, h2, x2, s2, n2, p2, t2, f2⟩ := RQ (nt := (ia : Int)) w1 (by omega) n1' p1 (m := X9 2 r) (Yn hr)
  rw [x2, ob];simp only [Za, Zc, gx0, gx1, ob, Q2, QW, ln0, ln1, Hw, HA, if_true];rw [Q1]
  cases o2 with
  | false =>
   rw [if_pos (show (!false) = true from rfl)]
   refine ⟨false, ps2, _, rfl, (s1'.trans (s2.tidy w1 _) (by omega)).weak (by omega), Okp.of n2 p2 ?_⟩
   rw [f2 rfl, F1]; exact ok.f
  | true =>
   obtain ⟨z1, z2⟩ := t2 rfl;rw [F1] at z1 z2;rw [hu] at z2;rw [if_neg (by simp)]
   have hin := kI p2 n2 (a := a) (b := b) (c := ⟨0, 2, 0, 0, r⟩) (by rw [z2]; exact XQ)
   rw [yh hin, ob];simp only [Q3, QY, Qu];have s2' := s2.tidy w1 [.tup [.s (.int Ly a), .s (.int Ly b), .s (.bool true)]];have w2 := s2'.wk w1 (by omega)
   generalize tidy X [.tup [.s (.int Ly a), .s (.int Ly b), .s (.bool true)]] h2 = Y at s2' w2 ⊢;have hne : ¬ ((z.p : Int) = a /\ (z.s : Int) = b) := fun hh => by rw [hh.1, hh.2, z1] at a1; cases a1
   have a1' : Qg ps2 (z.p : Int) (z.s : Int) = some c0 := by rw [z2, Zp hne]; exact a1
   obtain ⟨jp, js, l3, q1, q2, q3, q4⟩ := J1 p2 a1';obtain rfl : z.p = jp := by omega
   obtain rfl : z.s = js := by omega
   have hlen : (Qm l3 z.s).length = 3 := by
    have hc0 := ok.f.c _ _ _ a1;rw [q4] at hc0
    rcases vE hc0 with ⟨_, _, hl⟩ | ⟨hf2, _⟩
    · rw [hl]; rfl
    ·rw [<- q4] at hf2
     rw [a2, hf] at hf2;exact absurd rfl hf2
   obtain ⟨o3, ps3, h3, x3, s3, n3, p3, t3, f3, k3⟩ := PQ w2 (by omega) n2 p2 q3 (m := [1, o8 a, o8 b]) (by rfl)
   rw [x3, ob];simp only [Q3, QW];have ho3 := k3 (by rw [hlen]; exact Hx _)
   subst ho3;have z3 := t3 rfl;rw [qf hin] at z3;have s3' := s3.tidy w2 [bv true];have w3 := s3'.wk w2 (by omega)
   generalize tidy Y [bv true] h3 = Z at s3' w3 ⊢;have n3' : ps3.length <= 12 := by rw [n3]; exact n2
   have hg : Qg ps (ia : Int) (ib : Int) = some d := by rw [<- b1, <- b2]; exact g1
   have k1 : ¬ ((ia : Int) = a /\ (ib : Int) = b) := fun hh => by rw [hh.1, hh.2, z1] at hg; cases hg
   have k2 : ¬ ((ia : Int) = (z.p : Int) /\ (ib : Int) = (z.s : Int)) := fun hh => by
    rw [hh.1, hh.2, a1] at hg
    injection hg with hg
    rw [<- hg, a2, hf] at g2; cases g2
   have c3 : Qg ps3 (ia : Int) (ib : Int) = some d := by rw [z3, Zp k2, z2, Zp k1]; exact hg
   obtain ⟨jp, js, l4, r1, r2, r3, r4⟩ := J1 p3 c3;obtain rfl : ia = jp := by omega
   obtain rfl : ib = js := by omega
   obtain ⟨h4, x4, s4⟩ := Q1s w3 (by omega) n3' r3
   rw [x4, ob];dsimp only;obtain ⟨v1, v2⟩ := MK r3;refine ⟨true, _, _, rfl, (((s1'.trans s2' (by omega)).trans s3' (by omega)).trans (s4.tidy w3 _) (by omega)).weak (by omega), Okp.of (by rw [HN]; exact n3') (Pgs.set p3 v2) ?_⟩
   rw [v1, z3, z2];exact ok.f.gone z1 a1 (by rw [a2]; exact hf) ⟨by rw [a3]; exact e1, by rw [a4]; exact e2⟩ hg ⟨rfl, rfl⟩ ⟨rfl, rfl, rfl, rfl⟩
end
structure EdA (n : Nat) (c : Int) (y u : S) (es : List RunD) (ps : List (List UInt8)) (h : H) : Prop where
 w : NewC 4 [.int Ly c, y, u] [.int Ly c, .fs (Z1 es), .fs (bss ps)] n h
 ok : c = 0 -> Okp ps
abbrev z3z : List S := [.int Ly 0, .sl none 0, .sl none 0]
theorem Q16 (c : Int) (n : Nat) : ∃ h', call Ev Fn.KE [iv Ly c] (D n) = some (.agg [.int Ly c, .sl none 0, .sl none 0], h') /\ n <= h'.n := by
 rw [Nv, uS, MD (e := 0) (by rw [Qq, Xf]; omega) (Z9 _ _ _), ob]
 exact ⟨_, rfl, by rw [Qq, Xf, D_n]; omega⟩
theorem TL {n : Nat} {K : H} (hn : n < K.n) (g : K.g n = .rw 0 z3z) : ∃ y u es ps h', (Qj (call Ev) Fn.KE true [iv Ly 9] K fun v118 h119 =>
 gVA v118 fun c120 =>
 (c120[0]?).bind fun x121 =>
 gI Ly x121 fun i122 =>
 (c120[1]?).bind fun x123 =>
 (c120[2]?).bind fun x124 =>
 if c120.length = 3 then
 stK 3 h119 (pv n 0) (.agg [.int Ly i122, x123, x124]) fun h125 =>
 (Qp 3 h125 (pv n 0)).bind fun c126 =>
 some (V.agg c126, h125)
 else none) = some (.agg [.int Ly 9, y, u], h') /\ EdA n 9 y u es ps h' := by
 obtain ⟨h1, e1, n1⟩ := Q16 9 K.n;rw [pFt (h := K) e1];have kg : (K.over h1).g n = .rw 0 z3z := (Jg hn).1.trans g;have kn : n < (K.over h1).n := by rw [Xb n1]; omega
 generalize K.over h1 = X at kg kn ⊢;simp only [Zb, gx0, gx1, ob, Q2, ln0, ln1, Hw, HA, if_true];obtain ⟨h', e, w⟩ := jD (c := 9) kn kg;exact ⟨_, _, [], [], h', e, w, fun hh => by cases hh⟩
theorem GQ {n n0 q k : Nat} {ps : List (List UInt8)} {K : H} (w : Wk n0 q ps k K) (hn : n < n0) (g : K.g n = .rw 0 z3z) (ok : Okp ps) : ∃ y u es h', ((call Ev Fn.Ke [pv q 0] K).bind fun p127 =>
 gVA p127.1 fun c128 =>
 (c128[0]?).bind fun x129 =>
 gI Ly x129 fun i130 =>
 (c128[1]?).bind fun x131 =>
 (c128[2]?).bind fun x132 =>
 if c128.length = 3 then
 stK 3 (tidy K [p127.1] p127.2) (pv n 0) (.agg [.int Ly i130, x131, x132]) fun h133 =>
 (Qp 3 h133 (pv n 0)).bind fun c134 =>
 some (V.agg c134, h133)
 else none) = some (.agg [.int Ly 0, y, u], h') /\ EdA n 0 y u es ps h' := by
 obtain ⟨y1, y2, es, b1, b2, d, hk⟩ := w;obtain ⟨h4, e4, t4⟩ := V7 d;rw [e4, ob];dsimp only;rw [t4];simp only [Zb, gx0, gx1, ob, Q2, ln0, ln1, Hw, HA, if_true];obtain ⟨h5, e5, w5⟩ := jq (c := 0) d hn g;exact ⟨_, _, es, h5, e5, w5, fun _ => ok⟩
theorem qo {ps : List (List UInt8)} (ok : Okp ps) (n : Nat) : ∃ q K, (∀ (R : Type) (f : V -> H -> Option R), Qj (call Ev) Fn.Jz true [lv (bss ps)] ((D n).new 0 z3z) f = f (pv q 0) K) /\ Wk (n + 1) q ps 0 K /\ K.g n = .rw 0 z3z /\ n < K.n := by
 generalize hG : (D n).new 0 z3z = G;have gn : G.n = n + 1 := by rw [<- hG]; simp
 have gg : G.g n = .rw 0 z3z := by rw [<- hG]; exact QI (D n) _ _
 obtain ⟨q, y1, bs, h1, e1, d0, n1⟩ := Pk (ps := ps) (by have := ok.n; unfold lim; omega) (fun l hl => by have := (Qv (ok.p l hl)).1; unfold lim; omega) G.n
 have dG := d0.over n1;refine ⟨q, G.over h1, fun R f => pFt (h := G) e1, ?_, (Jg (by omega)).1.trans gg, by rw [Xb n1]; omega⟩
 rw [gn] at dG;exact ⟨_, _, _, _, _, dG, by simp⟩
theorem jv {ps : List (List UInt8)} {r : RowD} (ok : Okp ps) (hr : XW r = 0) (n : Nat) :
  ∃ (c : Int) (y u : S) (es : List RunD) (ps' : List (List UInt8)) (h' : H), call Ev Fn.U7 [lv (bss ps), fv r.cs 0] (D n) = some (.agg [.int Ly c, y, u], h') /\ EdA n c y u es ps' h' := by
 refine (fun (e : call Ev Fn.U7 [lv (bss ps), fv r.cs 0] (D n) = _) => ?_) (Vn (bss ps) r.tab r.key r.val r.text n)
 rw [e];clear e;obtain ⟨q, K, e1, w, g, hn⟩ := qo ok n;rw [e1];rw [show Q8 (call Ev) Fn.Xm [iv Ly 0, fv [S.int Ly r.tab, .int Ly r.key, .int Ly r.val, .str r.text] 0] = some (lv (bys (X9 0 r))) from Wn (by omega) (by omega) hr, ob]
 simp only [Q3, QY];obtain ⟨a, b, o2, ps2, h2, x2, s2, n2, p2, t2, f2⟩ := RQ (nt := -1) w (by omega) ok.n ok.p (m := X9 0 r) (Yn hr)
 rw [x2, ob];simp only [Za, Zc, gx0, gx1, ob, Q2, QW, ln0, ln1, Hw, HA, if_true];rw [Q1];have s2' := s2.tidy w [.tup [.s (.int Ly a), .s (.int Ly b), .s (.bool o2)]];have w2 := s2'.wk w (by omega)
 have g2 := (s2'.f n (by omega)).trans g
 have n2' := s2'.n
 cases o2 with
 | false =>
  rw [if_pos (show (!false) = true from rfl), D_n]
  obtain ⟨y, u, es, ps', h', e, ww⟩ := TL (n := n) (by omega) g2
  exact ⟨9, y, u, es, ps', h', e, ww⟩
 | true =>
  obtain ⟨z1, z2⟩ := t2 rfl;rw [if_neg (by simp), D_n]
  have ok2 : Okp ps2 := Okp.of n2 p2 (by
   rw [z2, MP (f := 0) (.inl rfl) hr];exact ok.f.put rfl (show (0 : Int) ≠ 1 by decide) (.inl z1))
  obtain ⟨y, u, es, h', e, ww⟩ := GQ (n := n) w2 (by omega) g2 ok2
  exact ⟨0, y, u, es, ps2, h', e, ww⟩
theorem ju {ps : List (List UInt8)} {z : SpotD} {r : RowD} (ok : Okp ps) (hz : z ∈ Zg ps) (hr : XW r = 0) (n : Nat) :
  ∃ (c : Int) (y u : S) (es : List RunD) (ps' : List (List UInt8)) (h' : H), call Ev Fn.U6 [lv (bss ps), fv (spc z) 0, fv r.cs 0] (D n) = some (.agg [.int Ly c, y, u], h') /\ EdA n c y u es ps' h' := by
 refine (fun (e : call Ev Fn.U6 [lv (bss ps), fv (spc z) 0, fv r.cs 0] (D n) = _) => ?_) (Vl (bss ps) z.p z.s z.c.code z.c.flag z.c.page z.c.slot z.c.row.tab z.c.row.key z.c.row.val z.c.row.text r.tab r.key r.val r.text n)
 rw [e];clear e;obtain ⟨q, K, e1, w, g, hn⟩ := qo ok n;rw [e1, Q1, D_n];obtain ⟨c0, a1, a2, a3, a4, a5⟩ := ok.at hz;generalize (((z.c.row.tab : Int) == r.tab) && (((z.c.row.key : Int) == r.key) && (((z.c.row.val : Int) == r.val) && (((z.c.row.text : ByteArray).toList == (r.text : ByteArray).toList) && true)))) = same
 cases same with
 | true =>
  rw [if_pos rfl];obtain ⟨y, u, es, h', e, ww⟩ := GQ (n := n) w (by omega) g ok
  exact ⟨0, y, u, es, ps, h', e, ww⟩
 | false =>
 rw [if_neg (by simp), Q1]
 by_cases hf : z.c.flag = 1
 ·rw [if_pos (by simpa using hf)]
  obtain ⟨b, ps1, h1, x1, s1, ok1⟩ := Q1E w (by omega) ok hz hf hr
  refine (fun (e : call Ev Fn.YY [pv q 0, fv [S.int Ly z.p, .int Ly z.s, .int Ly z.c.code, .int Ly z.c.flag, .int Ly z.c.page, .int Ly z.c.slot, .int Ly z.c.row.tab, .int Ly z.c.row.key, .int Ly z.c.row.val, .str z.c.row.text] 0, fv [S.int Ly r.tab, .int Ly r.key, .int Ly r.val, .str r.text] 0] K = _) => ?_) x1
  rw [e, ob];clear e;simp only [Q3, QW];rw [Q1];have s1' := s1.tidy w [bv b];have w1 := s1'.wk w (by omega)
  have g1 := (s1'.f n (by omega)).trans g
  have n1 := s1'.n
  cases b with
  | false =>
   rw [if_pos (show (!false) = true from rfl)]
   obtain ⟨y, u, es, ps', h', e, ww⟩ := TL (n := n) (by omega) g1
   exact ⟨9, y, u, es, ps', h', e, ww⟩
  | true =>
   rw [if_neg (by simp)]
   obtain ⟨y, u, es, h', e, ww⟩ := GQ (n := n) w1 (by omega) g1 ok1
   exact ⟨0, y, u, es, ps1, h', e, ww⟩
 rw [if_neg (by simpa using hf)]
 have hcr : ∀ f : Int, 0 <= f -> f < 256 -> Q8 (call Ev) Fn.Xm [iv Ly f, fv [S.int Ly r.tab, .int Ly r.key, .int Ly r.val, .str r.text] 0] = some (lv (bys (X9 f r))) := fun f h1 h2 => Wn h1 h2 hr
 rw [hcr 0 (by omega) (by omega), ob]
 simp only [Q3, QY, Qu];obtain ⟨jp, js, l3, q1, q2, q3, q4⟩ := J1 ok.p a1;obtain rfl : z.p = jp := by omega
 obtain rfl : z.s = js := by omega
 obtain ⟨o1, ps1, h1, x1, s1, n1, p1, t1, f1, _⟩ := PQ w (by omega) ok.n ok.p q3 (m := X9 0 r) (Yn hr)
 rw [x1, ob];simp only [Q3, QW];rw [Q1];have s1' := s1.tidy w [bv o1];have w1 := s1'.wk w (by omega)
 have g1 := (s1'.f n (by omega)).trans g
 have m1 := s1'.n;have n1' : ps1.length <= 12 := by rw [n1]; exact ok.n
 have hflag : c0.flag ≠ 2 := by rw [a2]; exact a5
 cases o1 with
 | true =>
  rw [if_pos rfl];have ok1 : Okp ps1 := Okp.of n1' p1 (by
   rw [t1 rfl, MP (f := 0) (.inl rfl) hr];exact ok.f.put rfl (show (0 : Int) ≠ 1 by decide) (.inr ⟨c0, a1, fun hh => absurd hh hflag⟩))
  obtain ⟨y, u, es, h', e, ww⟩ := GQ (n := n) w1 (by omega) g1 ok1
  exact ⟨0, y, u, es, ps1, h', e, ww⟩
 | false =>
 rw [if_neg (by simp), hcr 2 (by omega) (by omega), ob]
 simp only [Q3, QY, Qu];have F1 := f1 rfl;generalize tidy K [bv false] h1 = X at s1' w1 g1 m1 ⊢;obtain ⟨a, b, o2, ps2, h2, x2, s2, n2, p2, t2, f2⟩ := RQ (nt := (z.p : Int)) w1 (by omega) n1' p1 (m := X9 2 r) (Yn hr)
 rw [x2, ob];simp only [Za, Zc, gx0, gx1, ob, Q2, QW, ln0, ln1, Hw, HA, if_true];rw [Q1];have s2' := s2.tidy w1 [.tup [.s (.int Ly a), .s (.int Ly b), .s (.bool o2)]];have w2 := s2'.wk w1 (by omega)
 have g2 := (s2'.f n (by omega)).trans g1
 have m2 := s2'.n
 cases o2 with
 | false =>
  rw [if_pos (show (!false) = true from rfl)]
  obtain ⟨y, u, es, ps', h', e, ww⟩ := TL (n := n) (by omega) g2
  exact ⟨9, y, u, es, ps', h', e, ww⟩
 | true =>
 obtain ⟨z1, z2⟩ := t2 rfl;rw [F1] at z1 z2;rw [MP (f := 2) (.inr rfl) hr] at z2;rw [if_neg (by simp)]
 have hin := kI p2 n2 (a := a) (b := b) (c := ⟨0, 2, 0, 0, r⟩) (by rw [z2]; exact XQ)
 rw [yh hin, ob];simp only [Q3, QY, Qu];generalize tidy X [.tup [.s (.int Ly a), .s (.int Ly b), .s (.bool true)]] h2 = Y at s2' w2 g2 m2 ⊢;have hne : ¬ ((z.p : Int) = a /\ (z.s : Int) = b) := fun hh => by rw [hh.1, hh.2, z1] at a1; cases a1
 have a1' : Qg ps2 (z.p : Int) (z.s : Int) = some c0 := by rw [z2, Zp hne]; exact a1
 obtain ⟨jp, js, l4, r1, r2, r3, r4⟩ := J1 p2 a1';obtain rfl : z.p = jp := by omega
 obtain rfl : z.s = js := by omega
 obtain ⟨o3, ps3, h3, x3, s3, n3, p3, t3, f3, k3⟩ := PQ w2 (by omega) n2 p2 r3 (m := [1, o8 a, o8 b]) (by rfl)
 rw [x3, ob];simp only [Q3, QW];have s3' := s3.tidy w2 [bv o3];have w3 := s3'.wk w2 (by omega)
 have g3 := (s3'.f n (by omega)).trans g2
 have m3 := s3'.n;have mv := ok.f.move (mv := ⟨0, 2, 0, 0, r⟩) (st := ⟨0, 1, a, b, noR⟩) z1 a1 hflag ⟨rfl, rfl⟩ ⟨rfl, rfl, rfl, rfl⟩;have ok3 : Okp ps3 := Okp.of (by rw [n3]; exact n2) p3 (by
  cases o3 with
  | true => rw [t3 rfl, qf hin, z2]; exact mv.2
  | false => rw [f3 rfl, z2]; exact mv.1)
 obtain ⟨y, u, es, h', e, ww⟩ := GQ (n := n) w3 (by omega) g3 ok3
 exact ⟨0, y, u, es, ps3, h', e, ww⟩
theorem Okp.dl {ps : List (List UInt8)} (ok : Okp ps) {z : SpotD} (hz : z ∈ Zg ps) : CellAt ps z.p z.s (dlL ps z) /\ ((z.c.flag == 1) = true -> z.c.page = (z.c.page.toNat : Nat) /\ z.c.slot = (z.c.slot.toNat : Nat) /\ CellAt (ps.set z.p (Z4 (dlL ps z) z.s)) z.c.page.toNat z.c.slot.toNat (Ms ps z)) /\ Okp (dlP ps z) := by
 obtain ⟨c0, a1, a2, a3, a4, a5⟩ := ok.at hz;obtain ⟨jp, js, l, q1, q2, ca, q4⟩ := J1 ok.p a1;obtain rfl : z.p = jp := by omega
 obtain rfl : z.s = js := by omega
 have hl : dlL ps z = l := by unfold dlL; rw [ca.p]; rfl
 obtain ⟨v1, v2⟩ := MK ca;have p1 : Pgs (ps.set z.p (Z4 l z.s)) := Pgs.set ok.p v2;rw [hl];unfold dlP Ms Ng;rw [hl]
 by_cases hf : z.c.flag = 1
 ·obtain ⟨d, g1, g2⟩ := ok.f.m _ _ c0 a1 (by rw [a2]; exact hf)
  rw [a3, a4] at g1;have k2 : ¬ (z.c.page = (z.p : Int) /\ z.c.slot = (z.s : Int)) := fun hh => by
   rw [hh.1, hh.2, a1] at g1
   injection g1 with g1
   rw [<- g1, a2, hf] at g2; cases g2
  have g1' : Qg (ps.set z.p (Z4 l z.s)) z.c.page z.c.slot = some d := by rw [v1, Zp k2]; exact g1
  obtain ⟨ia, ib, l2, b1, b2, b3, b4⟩ := J1 p1 g1';have e1 : z.c.page.toNat = ia := by omega
  have e2 : z.c.slot.toNat = ib := by omega
  rw [if_pos (by simpa using hf), e1, e2, b3.p, FI]
  refine ⟨ca, fun _ => ⟨b1, b2, b3⟩, ?_⟩
  obtain ⟨v3, v4⟩ := MK b3;refine Okp.of (by rw [HN, HN]; exact ok.n) (Pgs.set p1 v4) ?_
  rw [v3, v1];have w1 : OkF (upd (Qg ps) z.p z.s none) := ok.f.drop fun a b c hc h1 _ hh => by
   obtain ⟨e, g3, g4⟩ := ok.f.m a b c hc h1;rw [hh.1, hh.2, a1] at g3
   injection g3 with g3
   rw [<- g3, a2, hf] at g4; cases g4
  refine w1.drop fun a b c hc h1 _ hh => ?_
  have hc' : ¬ (a = (z.p : Int) /\ b = (z.s : Int)) /\ Qg ps a b = some c := by
   by_cases hab : a = (z.p : Int) /\ b = (z.s : Int)
   · rw [hab.1, hab.2, XQ] at hc; cases hc
   · rw [Zp hab] at hc; exact ⟨hab, hc⟩
  exact hc'.1 (ok.f.u a b c z.p z.s c0 hc'.2 a1 h1 (by rw [a2]; exact hf) (by rw [hh.1, a3]; exact b1.symm) (by rw [hh.2, a4]; exact b2.symm))
 ·rw [if_neg (by simpa using hf)]
  refine ⟨ca, fun hh => absurd (by simpa using hh) hf, Okp.of (by rw [HN]; exact ok.n) p1 ?_⟩
  rw [v1];exact ok.f.drop fun a b c hc h1 _ hh => by
   obtain ⟨e, g3, g4⟩ := ok.f.m a b c hc h1;rw [hh.1, hh.2, a1] at g3
   injection g3 with g3
   rw [<- g3, a2] at g4; exact a5 g4
theorem wg {ps : List (List UInt8)} {z : SpotD} (ok : Okp ps) (hz : z ∈ Zg ps) (n : Nat) :
  ∃ (y u : S) (h' : H), call Ev Fn.Jf [lv (bss ps), fv (spc z) 0] (D n) = some (.agg [.int Ly 0, y, u], h') /\ EdA n 0 y u (dlE ps z) (dlP ps z) h' := by
 obtain ⟨d1, d2, d3⟩ := ok.dl hz;obtain ⟨y, u, h', e, w⟩ := Rj ok.n (fun l hl => by have := (Qv (ok.p l hl)).1; unfold lim; omega) d1 d2 n
 exact ⟨y, u, h', e, w, fun _ => d3⟩
end Vm
