/-
  What both ways of the law come to, and that the law returns true.
-/
import Derived.Sort.LotD6
import Derived.Sort.LotD7
import Derived.Sort.LotB
import Derived.Sort.LotD3
import Derived.Sort.LotD5
import Derived.Sort.LotD4
import Derived.Sort.LotA
import Derived.Sort.LotC
import Derived.Test.YtmenpfhpflnbnaaGreatTyp
import Derived.Test.YtmenpfhpflnbnaaGreatEqs
import Derived.Test.YtmenpfhpflnbnaaGreatVmR
import Derived.Test.YtmenpfhpflnbnaaGreatVmN
import Derived.Test.YtmenpfhpflnbnaaGreatDataFnDeletes3
set_option linter.unusedVariables false
set_option maxRecDepth 100000
set_option linter.unusedSimpArgs false
set_option linter.unusedSectionVars false
set_option maxHeartbeats 1000000
open Bool renaming and_eq_false_iff->Cv
open Decidable renaming not_not->SQ
open List.Pairwise renaming filter->D4,nil->D1
open List.Perm renaming of_eq->SP,trans->OC
open List renaming filter->SO,filter_filter->OB,filter_map->SN,getElem?_eq_getElem->HI,getElem?_eq_none->EH,getElem?_eq_some_iff->HF,length_cons->HM,length_nil->FY,map->FK,map_cons->HS,map_nil->EF,mem_append->HK,mem_cons->HH,mem_filter->FJ,mem_iff_getElem->Oz,mem_of_find?_eq_some->ER,mem_of_getElem?->HU,mem_singleton->HT,pairwise_cons->SM,pairwise_map->D3,replicate->HY
open Nat renaming le_refl->Hx,le_trans->HL,reduceAdd->HA,zero_add->Hw
open Option renaming bind_some->HC
open Go.IntKind renaming i64->Ly
namespace Vm
open Go
theorem u9 {b : Nat} {l : List UInt8} (hl : l.length <= 1048576) {n0 P : Nat} (hb0 : b < n0) {v : V} {ks : List RowD} (wv : RwV v ks) (hks : ks.length <= 100) (hr : ∀ r ∈ ks, XW r = 0) : ∀ (rs : List RowD) (i a : Nat) (qs : List Nat) (ps : List (List UInt8)) (h : H), ks.drop i = rs -> Src b l a h -> a + 3 * rs.length < 1099511627000 -> n0 <= h.n -> Two n0 P qs ps h ->
  ∃ qs' ps' h', Lp.ZG 0 [pv b 0, sv P 0 2, v, iv Ly i] h = some (.done [sv P 0 2] h') /\ Two n0 P qs' ps' h' /\ (∃ a', Src b l a' h' /\ a' <= a + 3 * rs.length) /\ h.n <= h'.n /\ ∀ c, c < n0 -> c ≠ b -> h'.g c = h.g c := by
 intro rs
 induction rs with
 | nil =>
  intro i a qs ps h hi w ha hn wt;have := Zn hi;refine ⟨qs, ps, h, ?_, wt, ⟨a, w, by omega⟩, Hx _, fun _ _ _ => rfl⟩
  rw [Wx, wv.len, ob];simp only [Q3, Q2];rw [Q1, if_neg (by simp; omega), Q6]
 | cons r rs ih =>
  intro i a qs ps h hi w ha hn wt;obtain ⟨g1, g2, g3⟩ := Zf hi;have hr0 : XW r = 0 := hr r (HU g1);have hv : v = lv (rws ks) := by
   rcases wv with h1 | ⟨h1, _⟩
   · exact h1
   · rw [h1] at g3; simp at g3
  have hb := w.n;rw [Wx, wv.len, ob];simp only [Q3, Q2];rw [Q1, if_pos (by simp; omega)]
  rw [w64 (n := (i : Int) + 1) (by omega) (by omega), show (i : Int) + 1 = ((i + 1 : Nat) : Int) from by omega]
  rw [HM] at ha;have old : ∀ {N : Nat} {X : H} (vs : List V), Dr b l a N h X -> N <= 3 -> ∃ qs' ps' h', Lp.ZG 0 [pv b 0, sv P 0 2, v, iv Ly ((i + 1 : Nat) : Int)] (Vm.tidy h vs X) = some (.done [sv P 0 2] h') /\ Two n0 P qs' ps' h' /\ (∃ a', Src b l a' h' /\ a' <= a + 3 * (r :: rs).length) /\ h.n <= h'.n /\ ∀ c, c < n0 -> c ≠ b -> h'.g c = h.g c := fun {N X} vs d hN => by
   have d' := d.tidy hb vs;obtain ⟨a', w1, w2⟩ := d'.ex;obtain ⟨qs', ps', h', e, x1, ⟨a2, x2, x3⟩, x4, x5⟩ := ih (i + 1) a' qs ps _ g2 w1 (by omega) (HL hn d'.n) (wt.dr d' hb0)
   exact ⟨qs', ps', h', e, x1, ⟨a2, x2, by rw [HM]; omega⟩, HL d'.n x4, fun c hc hcb => (x5 c hc hcb).trans (d'.o c (by omega) hcb)⟩
  have new : ∀ {N : Nat} {X : H} {qs2 : List Nat} {ps2 : List (List UInt8)} {d : Nat} (vs : List V), Two n0 P qs2 ps2 X -> d ∈ qs2 -> h.n <= d -> (∃ a', Src b l a' X /\ a' <= a + N) -> h.n <= X.n -> (∀ c, c < n0 -> c ≠ b -> X.g c = h.g c) -> N <= 3 -> ∃ qs' ps' h', Lp.ZG 0 [pv b 0, sv P 0 2, v, iv Ly ((i + 1 : Nat) : Int)] (Vm.tidy h vs X) = some (.done [sv P 0 2] h') /\ Two n0 P qs' ps' h' /\ (∃ a', Src b l a' h' /\ a' <= a + 3 * (r :: rs).length) /\ h.n <= h'.n /\ ∀ c, c < n0 -> c ≠ b -> h'.g c = h.g c := fun {N X qs2 ps2 d} vs w2 hd hdn hs hXn hXg hN => by
   rw [wt.tidy w2 hd hdn vs];obtain ⟨a', w1, l1⟩ := hs;obtain ⟨qs', ps', h', e, x1, ⟨a2, x2, x3⟩, x4, x5⟩ := ih (i + 1) a' qs2 ps2 X g2 w1 (by omega) (HL hn hXn) w2
   exact ⟨qs', ps', h', e, x1, ⟨a2, x2, by rw [HM]; omega⟩, HL hXn x4, fun c hc hcb => (x5 c hc hcb).trans (hXg c hc hcb)⟩
  obtain ⟨q1, h1, e1, w1, n1, o1, t1⟩ := GF w hl (by omega) (n := 3) (by omega) (by omega)
  rw [e1]; simp only [ob, Q3, QW]; rw [t1];have d1 : Dr b l a 1 h h1 := ⟨⟨_, w1, by omega⟩, by omega, fun c hc hcb => o1 c hcb⟩
  have wt1 := wt.dr d1 hb0;have hb1 := w1.n;rw [Q1];have gr : ∀ {R : Type} {f : V -> Option R}, Qd 4 v (iv Ly (i : Int)) f = f (fv r.cs 0) := fun {R f} => by rw [hv, Tb, Yd g1]
  cases q1 with
  | true =>
   rw [if_pos rfl];obtain ⟨qa, pa, ia, ja, wa, fa, la⟩ := wt1.ld (j := 1) (by omega)
   rw [show iv Ly 1 = iv Ly ((1 : Nat) : Int) from rfl, la wt1.n rfl, gr]
   rw [show ([iv Ly 2, fv r.cs 0].all Z5) = true from rfl, cond_true, Qa XG (Qa (w := fv r.cs 0) (by simp) QE), ob]
   rw [show Qr [0, 4] [iv Ly 2, fv r.cs 0] = [iv Ly 2, fv r.cs 0] from rfl, Wn (f := 2) (by omega) (by omega) hr0, ob]
   simp only [Q3, QY, Qu];obtain ⟨y, h2, i2, c2, e2, u2, x2, sy, k2⟩ := NK wa fa (Yn (f := 2) hr0) (Xc (h := h1));rw [e2];simp only [Za, gx0, gx1, ob, Zc, Q2, ln0, ln1, Hw, HA, if_true];rw [ZB x2, Q1];have d2 : Dr b l a 1 h h2 := d1.up u2;have wt2 := wt1.up u2
   by_cases hc2 : c2 = 0
   case neg => rw [if_neg (by simpa using hc2)]; exact old _ d2 (by omega)
   rw [if_pos (by simpa using hc2)]
   obtain ⟨d, p2, rfl, wd, hdn, fd⟩ := k2 hc2;obtain ⟨qb, pb, ib, jb, wb, fb, lb⟩ := wt2.ld (j := 0) (by omega)
   rw [show iv Ly 0 = iv Ly ((0 : Nat) : Int) from rfl, lb wt2.n rfl]
   obtain ⟨m, hm, em⟩ := P4 (a := 1) (c := i2);rw [show iv Ly ((1 : Nat) : Int) = iv Ly 1 from rfl, em, ob]
   simp only [Q3, QY, Qu];obtain ⟨y3, h3, i3, c3, e3, u3, x3, sy3, k3⟩ := NK wb fb (m := m) (by rw [hm]; rfl) (Xc (h := h2))
   rw [e3];simp only [Za, gx0, gx1, ob, Zc, Q2, ln0, ln1, Hw, HA, if_true];rw [ZB x3, Q1];have d3 : Dr b l a 1 h h3 := d2.up u3;have wt3 := wt2.up u3
   by_cases hc3 : c3 = 0
   case neg => rw [if_neg (by simpa using hc3)]; exact old _ d3 (by omega)
   rw [if_pos (by simpa using hc3)]
   obtain ⟨d', p3, rfl, wd', hdn', fd'⟩ := k3 hc3;have hP1 := wt1.n;have hP2 := wt2.n;have un2 := u2.n;have un3 := u3.n;obtain ⟨K1, s1, t1', kn1, kg1⟩ := wt3.st (j := 1) (d := d) (p2 := p2) (by omega) (wd.fr un3 (u3.g d wd.n)) fd (by omega) (by omega)
   rw [show iv Ly 1 = iv Ly ((1 : Nat) : Int) from rfl, s1]
   obtain ⟨K2, s2, t2', kn2, kg2⟩ := t1'.st (j := 0) (d := d') (p2 := p3) (by omega) (wd'.fr (by omega) (kg1 d' (by omega))) fd' (by omega) (by omega)
   rw [s2];obtain ⟨a3, sr3, la3⟩ := d3.ex;have hPl := t1'.l.1;refine new _ t2' (d := d') ?_ (by have := d2.n; omega) ⟨a3, ⟨by have := sr3.n; omega, by rw [kg2 b (by omega), kg1 b (by omega)]; exact sr3.g⟩, la3⟩ (by have := d3.n; omega) (fun c hc hcb => by rw [kg2 c (by omega), kg1 c (by omega)]; exact d3.o c (by omega) hcb) (by omega)
   have lq := wt3.lq;rw [Oz];exact ⟨0, by simp; omega, by simp⟩
  | false =>
   rw [if_neg (by simp)]
   obtain ⟨x4, h4, e4, r4, b4, w4, n4, o4, t4⟩ := XJ w1 hl (by omega) (n := 2) (by omega) (by omega)
   rw [e4]; simp only [ob, Q3, Q2]; rw [t4];obtain ⟨j, rfl⟩ : ∃ j : Nat, x4 = j := ⟨x4.toNat, by omega⟩
   have d4 : Dr b l a 2 h h4 := ⟨⟨_, w4, by omega⟩, by omega, fun c hc hcb => by rw [o4 c hcb, o1 c hcb]⟩
   have wt4 := wt.dr d4 hb0;obtain ⟨qa, pa, ia, ja, wa, fa, la⟩ := wt4.ld (j := j) (by omega)
   rw [la wt4.n rfl, gr];rw [show ([iv Ly 0, fv r.cs 0].all Z5) = true from rfl, cond_true, Qa XG (Qa (w := fv r.cs 0) (by simp) QE), ob]
   rw [show Qr [0, 4] [iv Ly 0, fv r.cs 0] = [iv Ly 0, fv r.cs 0] from rfl, Wn (f := 0) (by omega) (by omega) hr0, ob]
   simp only [Q3, QY, Qu];obtain ⟨y, h2, i2, c2, e2, u2, x2, sy, k2⟩ := NK wa fa (Yn (f := 0) hr0) (Xc (h := h4));rw [e2];simp only [Za, gx0, gx1, ob, Zc, Q2, ln0, ln1, Hw, HA, if_true];rw [ZB x2, Q1];have d2 : Dr b l a 2 h h2 := d4.up u2;have wt2 := wt4.up u2
   by_cases hc2 : c2 = 0
   case neg => rw [if_neg (by simpa using hc2)]; exact old _ d2 (by omega)
   rw [if_pos (by simpa using hc2)]
   obtain ⟨d, p2, rfl, wd, hdn, fd⟩ := k2 hc2;have hP1 := wt4.n;obtain ⟨K1, s1, t1', kn1, kg1⟩ := wt2.st (j := j) (d := d) (p2 := p2) (by omega) wd fd (by omega) (by omega)
   rw [s1];obtain ⟨a3, sr3, la3⟩ := d2.ex;have hPl := t1'.l.1;refine new _ t1' (d := d) ?_ (by have := d4.n; omega) ⟨a3, ⟨by have := sr3.n; omega, by rw [kg1 b (by omega)]; exact sr3.g⟩, la3⟩ (by have := d2.n; omega) (fun c hc hcb => by rw [kg1 c (by omega)]; exact d2.o c (by omega) hcb) (by omega)
   have lq := wt2.lq;rw [Oz];exact ⟨j, by simp; omega, by simp⟩
theorem Q0y {b : Nat} {l : List UInt8} {a : Nat} {h : H} (w : Src b l a h) (hl : l.length <= 1048576) (ha : a + 100 < 1099511627000) :
  ∃ P qs ps h', call Ev Fn.ZG [pv b 0] h = some (sv P 0 2, h') /\ Two h.n P qs ps h' /\ Dr b l a 60 h h' := by
 have hb := w.n;rw [Ro];obtain ⟨h1, e1, w1⟩ := Bw (c := 0) (by omega) (by omega) h.n
 rw [pF (h := h) e1 ⟨rfl, w1.z⟩];obtain ⟨u1, wp1, hq1⟩ := w1.over;generalize h.over h1 = A at u1 wp1 ⊢;obtain ⟨h2, e2, w2⟩ := Bw (c := 0) (by omega) (by omega) A.n
 rw [pF (h := A) e2 ⟨rfl, w2.z⟩];obtain ⟨u2, wp2, hq2⟩ := w2.over;generalize A.over h2 = B at u2 wp2 ⊢;have hA := wp1.n;have hB := wp2.n;have un1 := u1.n;have un2 := u2.n;rw [JW rfl, if_pos (by simp), JW rfl, if_pos (by simp [setAt])]
 rw [show setAt (setAt [S.sl none 0, .sl none 0] 0 [.sl (some (h.n, 0)) 64]) 1 [.sl (some (A.n, 0)) 64] = [h.n, A.n].map fun q => .sl (some (q, 0)) 64 from rfl]
 have uC : Up B (B.new 1 ([h.n, A.n].map fun q => .sl (some (q, 0)) 64)) := Yl
 have gC : (B.new 1 ([h.n, A.n].map fun q => .sl (some (q, 0)) 64)).g B.n = .rw 1 ([h.n, A.n].map fun q => .sl (some (q, 0)) 64) := QI _ _ _
 have nC : (B.new 1 ([h.n, A.n].map fun q => S.sl (some (q, 0)) 64)).n = B.n + 1 := Xf _ _ _
 generalize B.new 1 ([h.n, A.n].map fun q => S.sl (some (q, 0)) 64) = C at uC gC nC ⊢
 have wt : Two h.n B.n [h.n, A.n] [XE 0, XE 0] C := ⟨by omega, rfl, rfl, gC, fun j q p h4 h5 => by
  match j, h4, h5 with
  | 0, h4, h5 =>
   injection h4 with h4; injection h5 with h5
   subst h4; subst h5;exact ⟨wp1.fr (by omega) (by rw [uC.g _ (by omega), u2.g _ (by omega)]), MC _⟩
  | 1, h4, h5 =>
   injection h4 with h4; injection h5 with h5
   subst h4; subst h5;exact ⟨wp2.fr (by omega) (uC.g _ (by omega)), MC _⟩
  | j + 2, h4, _ => simp at h4, ⟨by omega, fun q hq => by
  simp only [HH, List.mem_nil_iff, or_false] at hq;omega⟩⟩
 have sC : Src b l a C := ((w.up u1).up u2).up uC;obtain ⟨v, ks, h3, e3, wv, lk, rk, d3⟩ := kZ sC hl (by omega)
 rw [e3, ob];dsimp only;have d3' := d3.tidy (by omega) [v]
 generalize Vm.tidy C [v] h3 = K at d3' ⊢;obtain ⟨a3, s3, la3⟩ := d3'.ex;obtain ⟨qs', ps', h', e4, w4, ⟨a4, s4, la4⟩, n4, o4⟩ := u9 hl (n0 := h.n) (P := B.n) hb wv (by omega) rk ks 0 a3 [h.n, A.n] [XE 0, XE 0] K rfl s3 (by omega) (by have := d3'.n; omega) (wt.dr d3' hb)
 rw [show iv Ly 0 = iv Ly ((0 : Nat) : Int) from rfl, e4, ob, Qc]
 simp only [gx0, ob];refine ⟨B.n, qs', ps', h', rfl, w4, ⟨a4, s4, by omega⟩, by have := d3'.n; omega, fun c hc hcb => ?_⟩
 rw [o4 c hc hcb, d3'.o c (by omega) hcb, uC.g c (by omega), u2.g c (by omega), u1.g c hc]
end Vm
namespace Vm
open Go
structure Drn (n0 : Nat) (yv : S) (ps : List (List UInt8)) (h : H) : Prop where
 y : ∃ P k, yv = .sl (some (P, 0)) k /\ n0 <= P
 l : ps.length = 2 \/ ps.length = 13
 s : ∀ l ∈ ps, l.length <= 64
 f : ∀ h'', h.n <= h''.n -> (∀ c, n0 <= c -> c < h.n -> h''.g c = h.g c) -> Qy h'' 8 yv = some (.fs (bss ps))
theorem Two.drn {n0 P : Nat} {qs : List Nat} {ps : List (List UInt8)} {h : H} (w : Two n0 P qs ps h) : Drn n0 (.sl (some (P, 0)) 2) ps h :=
 ⟨⟨P, 2, rfl, w.l.1⟩, .inl w.lp, fun l hl => by
  obtain ⟨j, hj, rfl⟩ := List.getElem_of_mem hl;have h2 := w.lq;have h3 := w.lp;have := (w.w j (qs[j]'(by omega)) ps[j] (HI (by omega)) (HI hj)).2
  rw [(Qv this).1]; exact Hx _, fun h'' hn hg => (w.fr hn hg).frz⟩
theorem Q0v {b : Nat} {l : List UInt8} {a : Nat} {h : H} (w : Src b l a h) (hl : l.length <= 1048576) (ha : a + 1200 < 1099511627000) :
  ∃ y ps h', call Ev Fn.Mk [pv b 0] h = some (.s y, h') /\ Drn h.n y ps h' /\ Dr b l a 900 h h' := by
 have hb := w.n;rw [To];obtain ⟨P, qs, ps, h1, e1, wt, d1⟩ := Q0y w hl (by omega)
 rw [e1, ob];dsimp only;have hPn := wt.l.1;rw [Kr (h := h) (h' := h1) (l := [sv P 0 2]) (by simp [ZM, QR]; omega)]
 obtain ⟨a1, s1, l1⟩ := d1.ex;have hd1 := d1.n;obtain ⟨x2, h2, e2, r2, b2, w2, n2, o2, t2, _⟩ := Bm s1 hl (by omega) (n := 14) (by omega) (by omega)
 rw [e2]; simp only [ob, Q3, Q2]; rw [t2];have d2 : Dr b l a 61 h h2 := ⟨⟨_, w2, by omega⟩, by omega, fun c hc hcb => by rw [o2 c hcb, d1.o c hc hcb]⟩
 have wt2 : Two h.n P qs ps h2 := wt.fr (by omega) fun c h1 _ => o2 c (by omega)
 have hb2 := w2.n;have hP2 := wt2.n;rw [Q1]
 by_cases c0 : x2 = 0
 ·rw [if_pos (by simp [c0])]
  obtain ⟨y, q, p, h3, e3, pl, sy, q3, qn3, t3, d3, fy⟩ := Q0w w2 hl (by omega)
  rw [e3, ob];dsimp only;rw [t3 _ (by simp)]
  have wt3 := wt2.dr d3 hb;have iy : isNo y = false := by
   cases y with
   | no => have := fy h3 7 (Hx _) rfl; simp [Qy] at this
   | _ => rfl
  have hP3 := wt3.n;have g3 := wt3.g;have hq2 := wt3.lq;rw [show iv Ly 0 = iv Ly ((0 : Nat) : Int) from rfl, Z3 (by omega), Zq (z := 1) (e := 1) (o := 0 * 1) (b := P) (cs := qs.map fun q => .sl (some (q, 0)) 64) (r := [y]) wt3.n wt3.g (.inl ⟨_, rfl, rfl, iy⟩) rfl (by simp; omega)]
  have d4 : Dr b l a 900 h (h3.put P (.rw 1 (setAt (qs.map fun q => .sl (some (q, 0)) 64) (0 * 1) [y]))) := by
   obtain ⟨a3, s3, l3⟩ := d3.ex;exact ⟨⟨a3, ⟨by rw [Qq]; exact s3.n, by rw [QG (by omega)]; exact s3.g⟩, by omega⟩, by rw [Qq]; have := d3.n; omega, fun c hc hcb => by rw [QG (by omega), d3.o c (by omega) hcb, d2.o c hc hcb]⟩
  have hpl := wt3.lp
  match qs, hq2, ps, hpl, wt3.w with
  | [q0, q1], _, [p0, p1], _, ww =>
   obtain ⟨w1, f1⟩ := ww 1 q1 p1 rfl rfl;have h64 := (Qv f1).1;refine ⟨.sl (some (P, 0)) 2, [p, p1], _, rfl, ⟨⟨P, 2, rfl, hPn⟩, .inl rfl, fun l hl => ?_, fun h'' hn hg => ?_⟩, d4⟩
   ·simp only [HH, List.mem_nil_iff, or_false] at hl
    rcases hl with rfl | rfl
    · exact pl
    · omega
   ·rw [Qq] at hn
    have gP : h''.g P = .rw 1 [y, .sl (some (q1, 0)) 64] := (hg P hPn (by rw [Qq]; exact hP3)).trans (Z9 _ _ _)
    have fy' := fy h'' 6 hn ((hg q (by have := d2.n; omega) (by rw [Qq]; exact qn3)).trans (QG (by omega)))
    have hq1n := w1.n;have hq1l := (wt3.l.2 q1 (by simp))
    have f1' := ((w1.fr (h' := h'') hn ((hg q1 hq1l.1 (by rw [Qq]; exact hq1n)).trans (QG hq1l.2))).frz (d := 6)).2
    rw [h64] at f1';rw [Qy];rw [if_neg (by omega), if_pos (by omega), gP]
    simp only [HM, FY, List.drop_zero];rw [if_pos (by omega)]
    rw [show List.take (2 * 1) [y, S.sl (some (q1, 0)) 64] = [y, S.sl (some (q1, 0)) 64] from rfl]
    simp only [mapO, fy', f1', HC];rfl
 rw [if_neg (by simpa using c0), Q1]
 by_cases c1 : x2 = 1
 ·rw [if_pos (by simp [c1])]
  have em : Mp 1 [.sl none 0] h2 (iv Ly 13) (iv Ly 13) = some (sv h2.n 0 13, h2.new 1 ((HY 13 [S.sl none 0]).flatten)) := by
   simp only [Mp];rw [if_pos (by unfold lim; simp)]; rfl
  rw [em, ob];refine ⟨.sl (some (h2.n, 0)) 13, HY 13 [], _, rfl, ⟨⟨h2.n, 13, rfl, by omega⟩, .inr rfl, fun l hl => ?_, fun h'' hn hg => ?_⟩, (d2.up Yl).weak (by omega)⟩
  · rw [List.eq_of_mem_replicate hl]; simp
  ·rw [Xf] at hn
   have gP : h''.g h2.n = .rw 1 ((HY 13 [S.sl none 0]).flatten) := (hg h2.n (by omega) (by rw [Xf]; omega)).trans (QI _ _ _)
   rw [Qy];rw [if_neg (by omega), if_pos (by omega), gP]
   rfl
 rw [if_neg (by simpa using c1), Q1]
 by_cases c2 : x2 = 2
 ·rw [if_pos (by simp [c2])]
  obtain ⟨qa, pa, ia, ja, wa, fa, la⟩ := wt2.ld (j := 0) (by omega)
  rw [show iv Ly 0 = iv Ly ((0 : Nat) : Int) from rfl, la (K := h2.put b .dead) (by rw [Qq]; exact wt2.n) (QG (by omega))]
  obtain ⟨x3, h3, e3, r3, b3, w3, n3, o3, t3, p3⟩ := Bm w2 hl (by omega) (n := 2) (by omega) (by omega)
  rw [e3]; simp only [ob, Q3, Q2]; rw [t3];have k3 : ∀ c, c < h2.n -> c ≠ b -> h3.g c = h2.g c /\ h3.v c = h2.v c := fun c hc hcb => by rw [p3, QG hcb, qJ hcb]; exact ⟨rfl, rfl⟩
  rw [ZB (Zj.kill (by omega) k3)]
  obtain ⟨x4, h4, e4, r4, b4, w4, n4, o4, t4, p4⟩ := Bm w3 hl (by omega) (n := 3) (by omega) (by omega)
  rw [e4]; simp only [ob, Q3, Q2]; rw [t4];have k4 : ∀ c, c < h2.n -> c ≠ b -> h4.g c = h2.g c /\ h4.v c = h2.v c := fun c hc hcb => by rw [p4, QG hcb, qJ hcb]; exact k3 c hc hcb
  have x4e := Zj.kill (A := h2) (B := h4) (by omega) k4
  rw [ZB x4e];obtain ⟨m, hm, em⟩ := P4 (a := x3) (c := x4);rw [em, ob];simp only [Q3, QY];rw [ZB x4e];have d4 : Dr b l a 63 h h4 := ⟨⟨_, w4, by omega⟩, by have := d2.n; omega, fun c hc hcb => by rw [o4 c hcb, o3 c hcb, d2.o c hc hcb]⟩
  have wt4 : Two h.n P qs ps h4 := wt2.fr (by omega) fun c h1 _ => by rw [o4 c (by omega), o3 c (by omega)]
  have wa4 : BysW h4 (sv qa 0 64) pa qa := wa.fr (by omega) (by
   have hqa := (wt2.l.2 qa (HU ia)).1;rw [o4 qa (by omega), o3 qa (by omega)])
  obtain ⟨y, h5, i5, c5, e5, u5, x5, sy, k5⟩ := NK wa4 fa (m := m) (by rw [hm]; rfl) (Xc (h := h4))
  rw [e5];simp only [Za, gx0, gx1, ob, Zc, Q2, ln0, ln1, Hw, HA, if_true];rw [ZB (x4e.trans x5), Q1];have d5 := d4.up u5;have wt5 := wt4.up u5
  by_cases hc5 : c5 = 0
  case neg =>
   rw [if_neg (by simpa using hc5)]
   exact ⟨_, ps, h5, rfl, wt5.drn, d5.weak (by omega)⟩
  rw [if_pos (by simpa using hc5)]
  obtain ⟨d, p2, rfl, wd, hdn, fd⟩ := k5 hc5;have hP4 := wt4.n;have hd4 := d4.n;obtain ⟨K, s6, t6, kn, kg⟩ := wt5.st (j := 0) (d := d) (p2 := p2) (by omega) wd fd (by omega) (by omega)
  rw [s6];obtain ⟨a6, sr6, la6⟩ := d5.ex;exact ⟨_, _, K, rfl, t6.drn, ⟨⟨a6, ⟨by have := sr6.n; omega, by rw [kg b (by omega)]; exact sr6.g⟩, by omega⟩, by have := d5.n; omega, fun c hc hcb => by rw [kg c (by omega)]; exact d5.o c hc hcb⟩⟩
 rw [if_neg (by simpa using c2), Q1]
 by_cases c3 : x2 = 3
 ·rw [if_pos (by simp [c3])]
  obtain ⟨r, h3, e3, hr0, d3⟩ := VU w2 hl (by omega)
  rw [e3, ob];simp only [Zb, gx0, gx1, ob, Q2, Z8, ln0, ln1, Hw, HA, if_true];have d3' := d3.tidy hb2 [V.agg r.cs]
  change ∃ y ps h', stK 4 ((tidy h2 [V.agg r.cs] h3).new 0 [.int Ly 0, .int Ly 0, .int Ly 0, .str (⟨#[]⟩)]) (pv (tidy h2 [V.agg r.cs] h3).n 0) (.agg r.cs) _ = _ /\ _
  generalize tidy h2 [V.agg r.cs] h3 = K at d3' ⊢;rw [K4 (z := 4) rfl rfl];have xk := ZE K [.int Ly 0, .int Ly 0, .int Ly 0, .str (⟨#[]⟩)] r.cs;have xg : (Zl K [.int Ly 0, .int Ly 0, .int Ly 0, .str (⟨#[]⟩)] r.cs).g K.n = .rw 0 r.cs := JZ _ _ _;have xn : (Zl K [.int Ly 0, .int Ly 0, .int Ly 0, .str (⟨#[]⟩)] r.cs).n = K.n + 1 := XK _ _ _;have uX : Up K (Zl K [.int Ly 0, .int Ly 0, .int Ly 0, .str (⟨#[]⟩)] r.cs) := ⟨xk.1, fun c hc => (xk.2 c hc).1⟩
  generalize Zl K [.int Ly 0, .int Ly 0, .int Ly 0, .str (⟨#[]⟩)] r.cs = X at xk xg xn uX ⊢;have dX : Dr b l (a1 + 1) 5 h2 X := d3'.up uX;have wtX := wt2.dr dX hb;obtain ⟨qa, pa, ia, ja, wa, fa, la⟩ := wtX.ld (j := 1) (by omega)
  rw [show iv Ly 1 = iv Ly ((1 : Nat) : Int) from rfl, la wtX.n rfl]
  rw [Qa XG (Qa (zp (b := K.n) (by omega) xg qE) QE), ob]
  rw [show Qr [0, 4] [iv Ly 0, fv r.cs 0] = [iv Ly 0, fv r.cs 0] from rfl]
  obtain ⟨h5, e5, w5⟩ := zw (f := 0) (by omega) (by omega) hr0 X.n
  rw [pF (h := X) e5 ⟨rfl, w5.z⟩];obtain ⟨u5, wm, hm5⟩ := w5.over;have x5 : Zj X (X.over h5) := Zj.over w5.le;generalize X.over h5 = Y at u5 wm x5 ⊢;rw [ZB x5, show scaV (sv (X.n + 2) 0 (X9 0 r).length) = true from rfl, cond_true]
  have wtY := wtX.up u5;have waY : BysW Y (sv qa 0 64) pa qa := wa.fr u5.n (u5.g qa wa.n);obtain ⟨y, h6, i6, c6, e6, u6, x6, sy, k6⟩ := NK waY fa (m := X9 0 r) (Yn (f := 0) hr0) (Jd (ob := some _) wm);rw [e6];simp only [Za, gx0, gx1, ob, Zc, Q2, ln0, ln1, Hw, HA, if_true];rw [ZB (x5.trans x6), show scaV (.tup [.s y, .s (.int Ly i6), .s (.int Ly c6)]) = true from by simp [sy], cond_true, Q1]
  have d6 : Dr b l (a1 + 1) 5 h2 h6 := (dX.up u5).up u6;have D6 : Dr b l a 66 h h6 := by
   obtain ⟨a6, s6, l6⟩ := d6.ex;exact ⟨⟨a6, s6, by omega⟩, by have := d6.n; have := d2.n; omega, fun c hc hcb => by rw [d6.o c (by have := d2.n; omega) hcb, d2.o c hc hcb]⟩
  have wt6 := wtY.up u6
  by_cases hc6 : c6 = 0
  case neg =>
   rw [if_neg (by simpa using hc6)]
   exact ⟨_, ps, h6, rfl, wt6.drn, D6.weak (by omega)⟩
  rw [if_pos (by simpa using hc6)]
  obtain ⟨d, p2, rfl, wd, hdn, fd⟩ := k6 hc6;have hPY := wtY.n;have hXY := u5.n;have hKX := dX.n;obtain ⟨Z, s7, t7, kn, kg⟩ := wt6.st (j := 1) (d := d) (p2 := p2) (by omega) wd fd (by omega) (by omega)
  rw [s7];obtain ⟨a6, sr6, la6⟩ := D6.ex;exact ⟨_, _, Z, rfl, t7.drn, ⟨⟨a6, ⟨by have := sr6.n; omega, by rw [kg b (by omega)]; exact sr6.g⟩, by omega⟩, by have := D6.n; omega, fun c hc hcb => by rw [kg c (by omega)]; exact D6.o c hc hcb⟩⟩
 rw [if_neg (by simpa using c3)]
 exact ⟨_, ps, h2, rfl, wt2.drn, d2.weak (by omega)⟩
end Vm
namespace Vm
open Go
theorem Q0r {r : RowD} (h : XW r = 0) : r.text.size <= 9 := by
 unfold XW at h
 cases a : inB r.tab 0 3 <;> cases b : inB r.key 1 99 <;> cases c : inB r.val 0 999 <;> simp [a, b, c] at h
 have := h.1;omega
abbrev z4' : List S := [.int Ly 0, .int Ly 0, .int Ly 0, .str (⟨#[]⟩)]
theorem uF {Z : H} {n m : Nat} {r : RowD} (hn : n < Z.n) (hm : m < Z.n) (gn : Z.g n = .rw 0 r.cs) (gm : Z.g m = .rw 0 z4') :
  ((Qp 4 Z (pv n 0)).bind fun c => (c[0]?).bind fun x1 => gI Ly x1 fun i1 => (c[1]?).bind fun x2 => gI Ly x2 fun i2 => (c[2]?).bind fun x3 => gI Ly x3 fun i3 => (c[3]?).bind fun x4 => gS x4 fun y =>
   if c.length = 4 then stK 4 Z (pv m 0) (.agg [.int Ly i1, .int Ly i2, .int Ly i3, .str y]) fun h => (Qp 4 h (pv m 0)).bind fun c => some (V.agg c, h) else none) = some (.agg r.cs, Z.put m (.rw 0 r.cs)) := by
 rw [zh hn gn, ob];simp only [gx0, gx1, ob, Q2, Z8, ln0, ln1, Hw, HA, if_true];rw [qq hm gm, zh (by rw [Qq]; exact hm) (Z9 _ _ _), ob]
theorem Q1t {R : Type} {Z : H} {n o : Nat} {cs : List S} {v : V} {x : S} {f : H -> Option R} (hn : n < Z.n) (gn : Z.g n = .rw 0 cs) (hv : v = .s x) (hx : isNo x = false) (ho : o + 1 <= cs.length) : stK 1 Z (pv n o) v f = f (Z.put n (.rw 0 (setAt cs o [x]))) :=
 Zq (z := 1) (e := 0) (o := o) (b := n) (cs := cs) (r := [x]) hn gn (.inl ⟨_, hv, rfl, hx⟩) rfl ho
theorem Q0t {b : Nat} {l : List UInt8} {a : Nat} {h : H} (w : Src b l a h) (hl : l.length <= 1048576) (ha : a + 100 < 1099511627000) :
  ∃ (r : RowD) (h' : H), call Ev Fn.Mn [pv b 0] h = some (.agg r.cs, h') /\ r.text.size <= 9 /\ Dr b l a 20 h h' := by
 have hb := w.n;rw [Tx];have w0 : Src b l a (h.new 0 z4') := w.up Yl;have g0 : (h.new 0 z4').g h.n = .rw 0 z4' := QI _ _ _;have k0 : ∀ c, c < h.n -> (h.new 0 z4').g c = h.g c := fun c hc => QO (by omega)
 have n0 : (h.new 0 z4').n = h.n + 1 := Xf _ _ _
 change ∃ (r : RowD) (h' : H), ((call Ev Fn.Js [pv b 0] (h.new 0 z4')).bind _) = _ /\ _
 generalize h.new 0 z4' = A at w0 g0 k0 n0 ⊢;obtain ⟨r1, h1, e1, f1, d1⟩ := VU w0 hl (by omega)
 have ht := (Q0r f1);rw [e1, ob];simp only [Zb, gx0, gx1, ob, Q2, Z8, ln0, ln1, Hw, HA, if_true];have d1' := d1.tidy (by omega) [V.agg r1.cs]
 change ∃ (r : RowD) (h' : H), stK 4 ((tidy A [V.agg r1.cs] h1).new 0 z4') (pv (tidy A [V.agg r1.cs] h1).n 0) (.agg r1.cs) _ = _ /\ _
 generalize tidy A [V.agg r1.cs] h1 = K at d1' ⊢;have hK := d1'.n;obtain ⟨a1, s1, l1⟩ := d1'.ex;rw [qq (n := K.n) (by simp) (QI K 0 z4')]
 have uX : Up K ((K.new 0 z4').put K.n (.rw 0 r1.cs)) := ⟨by simp, fun c hc => by rw [QG (by omega), QO (by omega)]⟩
 have gX : ((K.new 0 z4').put K.n (.rw 0 r1.cs)).g K.n = .rw 0 r1.cs := Z9 _ _ _;have nX : ((K.new 0 z4').put K.n (.rw 0 r1.cs)).n = K.n + 1 := by simp
 change ∃ (r : RowD) (h' : H), ((call Ev Fn.QN [pv b 0, iv Ly 12] ((K.new 0 z4').put K.n (.rw 0 r1.cs))).bind _) = _ /\ _
 generalize (K.new 0 z4').put K.n (.rw 0 r1.cs) = X at uX gX nX ⊢;obtain ⟨x2, h2, e2, a2, b2, w2, n2, o2, t2⟩ := XJ (s1.up uX) hl (by omega) (n := 12) (by omega) (by omega)
 rw [e2]; simp only [ob, Q3, Q2]; rw [t2];have bK : b < K.n := by omega
 have g2K : h2.g K.n = .rw 0 r1.cs := (o2 K.n (by omega)).trans gX
 have g2h : h2.g h.n = .rw 0 z4' := by rw [o2 h.n (by omega), uX.g h.n (by omega), d1'.o h.n (by omega) (by omega)]; exact g0
 have kp : ∀ c, c < h.n -> c ≠ b -> h2.g c = h.g c := fun c hc hcb => by rw [o2 c hcb, uX.g c (by omega), d1'.o c (by omega) hcb, k0 c hc]
 have fin : ∀ {Z : H} (r : RowD), r.text.size <= 9 -> (∃ a', Src b l a' Z /\ a' <= a + 20) -> h2.n <= Z.n -> Z.g K.n = .rw 0 r.cs -> Z.g h.n = .rw 0 z4' -> (∀ c, c < h.n -> c ≠ b -> Z.g c = h.g c) ->
   ∃ (r' : RowD) (h' : H), ((Qp 4 Z (pv K.n 0)).bind fun c => (c[0]?).bind fun x1 => gI Ly x1 fun i1 => (c[1]?).bind fun x2 => gI Ly x2 fun i2 => (c[2]?).bind fun x3 => gI Ly x3 fun i3 => (c[3]?).bind fun x4 => gS x4 fun y =>
    if c.length = 4 then stK 4 Z (pv h.n 0) (.agg [.int Ly i1, .int Ly i2, .int Ly i3, .str y]) fun hh => (Qp 4 hh (pv h.n 0)).bind fun c => some (V.agg c, hh) else none) = some (.agg r'.cs, h') /\ r'.text.size <= 9 /\ Dr b l a 20 h h' := fun {Z} r hr hs hn gn gm go => by
  obtain ⟨a', sr, la⟩ := hs;refine ⟨r, Z.put h.n (.rw 0 r.cs), uF (by omega) (by omega) gn gm, hr, ⟨a', ⟨by rw [Qq]; exact sr.n, by rw [QG (by omega)]; exact sr.g⟩, by omega⟩, by rw [Qq]; omega, fun c hc hcb => by rw [QG (by omega)]; exact go c hc hcb⟩
 have fld : ∀ {Z : H} {o : Nat} {x : S} (r : RowD), setAt r1.cs o [x] = r.cs -> isNo x = false -> o < 4 -> r.text.size <= 9 -> (∃ a', Src b l a' Z /\ a' <= a + 20) -> h2.n <= Z.n -> (∀ c, c < h2.n -> c ≠ b -> Z.g c = h2.g c) ->
   ∃ (r' : RowD) (h' : H), (stK 1 Z (pv K.n o) (.s x) fun h120 => ((Qp 4 h120 (pv K.n 0)).bind fun c => (c[0]?).bind fun x1 => gI Ly x1 fun i1 => (c[1]?).bind fun x2 => gI Ly x2 fun i2 => (c[2]?).bind fun x3 => gI Ly x3 fun i3 => (c[3]?).bind fun x4 => gS x4 fun y =>
    if c.length = 4 then stK 4 h120 (pv h.n 0) (.agg [.int Ly i1, .int Ly i2, .int Ly i3, .str y]) fun hh => (Qp 4 hh (pv h.n 0)).bind fun c => some (V.agg c, hh) else none)) = some (.agg r'.cs, h') /\ r'.text.size <= 9 /\ Dr b l a 20 h h' := fun {Z o x} r he hx ho hr hs hn go => by
  obtain ⟨a', sr, la⟩ := hs;rw [Q1t (by omega) ((go K.n (by omega) (by omega)).trans g2K) rfl hx (by simp; omega), he]
  exact fin r hr ⟨a', ⟨by rw [Qq]; exact sr.n, by rw [QG (by omega)]; exact sr.g⟩, la⟩ (by rw [Qq]; exact hn) (Z9 _ _ _) (by rw [QG (by omega), go h.n (by omega) (by omega)]; exact g2h) (fun c hc hcb => by rw [QG (by omega), go c (by omega) hcb]; exact kp c hc hcb)
 rw [Q1]
 by_cases c0 : x2 = 0
 ·rw [if_pos (by simp [c0])]
  obtain ⟨x3, h3, e3, m3, w3, n3, o3, t3⟩ := Mx w2 hl (by omega) (xs := [-1, 3, 4]) (by simp) (by simp)
  simp only [HM, FY, Hw, HA, HS, EF] at e3 t3;rw [e3]; simp only [ob, Q3, Q2]; rw [t3];exact fld (o := 0) { r1 with tab := x3 } rfl rfl (by omega) ht ⟨_, w3, by omega⟩ n3 o3
 rw [if_neg (by simpa using c0), Q1]
 by_cases c1 : x2 = 1
 ·rw [if_pos (by simp [c1])]
  obtain ⟨x3, h3, e3, m3, w3, n3, o3, t3⟩ := Mx w2 hl (by omega) (xs := [0, 99, 100]) (by simp) (by simp)
  simp only [HM, FY, Hw, HA, HS, EF] at e3 t3;rw [e3]; simp only [ob, Q3, Q2]; rw [t3];exact fld (o := 1) { r1 with key := x3 } rfl rfl (by omega) ht ⟨_, w3, by omega⟩ n3 o3
 rw [if_neg (by simpa using c1), Q1]
 by_cases c2 : x2 = 2
 ·rw [if_pos (by simp [c2])]
  obtain ⟨x3, h3, e3, m3, w3, n3, o3, t3⟩ := Mx w2 hl (by omega) (xs := [-1, 1000]) (by simp) (by simp)
  simp only [HM, FY, Hw, HA, HS, EF] at e3 t3;rw [e3]; simp only [ob, Q3, Q2]; rw [t3];exact fld (o := 2) { r1 with val := x3 } rfl rfl (by omega) ht ⟨_, w3, by omega⟩ n3 o3
 rw [if_neg (by simpa using c2), Q1]
 by_cases c3 : x2 = 3
 ·rw [if_pos (by simp [c3])]
  have w2' : Src b l (a1 + 1) (h2.new 1 [.str ⟨#[65]⟩, .str ⟨#[97, 98, 99, 100, 101, 102, 103, 104, 105]⟩, .str ⟨#[97, 32, 98]⟩]) := w2.up Yl;have gs : (h2.new 1 [.str ⟨#[65]⟩, .str ⟨#[97, 98, 99, 100, 101, 102, 103, 104, 105]⟩, .str ⟨#[97, 32, 98]⟩]).g h2.n = .rw 1 [.str ⟨#[65]⟩, .str ⟨#[97, 98, 99, 100, 101, 102, 103, 104, 105]⟩, .str ⟨#[97, 32, 98]⟩] := QI _ _ _;have go : ∀ c, c < h2.n -> (h2.new 1 [.str ⟨#[65]⟩, .str ⟨#[97, 98, 99, 100, 101, 102, 103, 104, 105]⟩, .str ⟨#[97, 32, 98]⟩]).g c = h2.g c := fun c hc => QO (by omega)
  have ng : (h2.new 1 [S.str ⟨#[65]⟩, .str ⟨#[97, 98, 99, 100, 101, 102, 103, 104, 105]⟩, .str ⟨#[97, 32, 98]⟩]).n = h2.n + 1 := Xf _ _ _;generalize h2.new 1 [S.str ⟨#[65]⟩, .str ⟨#[97, 98, 99, 100, 101, 102, 103, 104, 105]⟩, .str ⟨#[97, 32, 98]⟩] = Y at w2' gs go ng ⊢;obtain ⟨x3, h3, e3, a3, b3, w3, n3, o3, t3⟩ := XJ w2' hl (by omega) (n := 3) (by omega) (by omega)
  rw [e3]; simp only [ob, Q3, Q2]; rw [t3];obtain ⟨i, rfl⟩ : ∃ i : Nat, x3 = i := ⟨x3.toNat, by omega⟩
  have hb2 := w2.n;have gs3 : h3.g h2.n = .rw 1 (([⟨#[65]⟩, ⟨#[97, 98, 99, 100, 101, 102, 103, 104, 105]⟩, ⟨#[97, 32, 98]⟩] : List ByteArray).map fun t => .str t) := by rw [o3 h2.n (by omega)]; exact gs
  rw [Z3 (by omega), yL (by omega) gs3 (show i < 3 by omega) rfl]
  simp only [Q3, Z8];have hsz : ∀ x ∈ ([⟨#[65]⟩, ⟨#[97, 98, 99, 100, 101, 102, 103, 104, 105]⟩, ⟨#[97, 32, 98]⟩] : List ByteArray), x.size <= 9 := by decide +kernel
  have hi := hsz _ (List.getElem_mem (show i < ([⟨#[65]⟩, ⟨#[97, 98, 99, 100, 101, 102, 103, 104, 105]⟩, ⟨#[97, 32, 98]⟩] : List ByteArray).length from by show i < 3; omega))
  exact fld (o := 3) { r1 with text := _ } rfl rfl (by omega) hi ⟨_, w3, by omega⟩ (by omega) (fun c hc hcb => (o3 c hcb).trans (go c hc))
 rw [if_neg (by simpa using c3)]
 exact fin r1 ht ⟨_, w2, by omega⟩ (Hx _) g2K g2h kp
end Vm
namespace Vm
open Go
structure PgV (b lo : Nat) (v : V) (ps : List (List UInt8)) (h : H) : Prop where
 ex : ∃ y bs, v = .s y /\ Rep h 4 y (.fs (bss ps)) bs /\ ∀ a ∈ bs, lo <= a /\ a ≠ b
section
variable {b lo : Nat} {v : V} {ps : List (List UInt8)} {h h' : H}
theorem PgV.dr {l : List UInt8} {a N : Nat} (w : PgV b lo v ps h) (d : Dr b l a N h h') : PgV b lo v ps h' := by
 obtain ⟨y, bs, w1, w2, w3⟩ := w.ex;exact ⟨y, bs, w1, w2.frame fun c hc => by
  have := w2.lt c hc;have hn := d.n;exact ⟨by omega, d.o c this (w3 c hc).2⟩, w3⟩
theorem PgV.weak {lo' : Nat} (w : PgV b lo v ps h) (hl : lo' <= lo) : PgV b lo' v ps h := by
 obtain ⟨y, bs, w1, w2, w3⟩ := w.ex;exact ⟨y, bs, w1, w2, fun a ha => ⟨HL hl (w3 a ha).1, (w3 a ha).2⟩⟩
theorem PgV.frz (w : PgV b lo v ps h) : QL h v = some (lv (bss ps)) := by
 obtain ⟨y, bs, rfl, w2, w3⟩ := w.ex;rw [Y1, w2.frz (k := 8) (by omega)]; rfl
theorem PgV.tidyN (w : PgV b h.n v ps h') {vs : List V} (hv : v ∈ vs) : PgV b h.n v ps (Vm.tidy h vs h') := by
 unfold Vm.tidy
 split
 ·rename_i ht
  obtain ⟨y, bs, rfl, w2, w3⟩ := w.ex;have hb : ZM h.n (.s y) = true := by
   have := ht.2.1;rw [List.all_eq_true] at this;exact this _ hv
  obtain ⟨rfl, a⟩ := w2.stay (fun c hc => (w3 c hc).1) hb
  exact ⟨y, [], rfl, a _, by simp⟩
 · exact w
end
theorem EdA.pg {b n : Nat} {c : Int} {y u : S} {es : List RunD} {ps : List (List UInt8)} {h : H} (w : YW 4 [.int Ly c, y, u] [.int Ly c, .fs (Z1 es), .fs (bss ps)] n h.n h) (hb : b < n) : PgV b n (.s u) ps h := by
 obtain ⟨bs, w1, w2, w3⟩ := w
 cases w1 with
 | @cons _ _ b0 _ _ bs' x0 w1 =>
  cases w1 with
  | @cons _ _ b1 _ _ bs'' x1 w1 =>
   cases w1 with
   | @cons _ _ b2 _ _ bs3 x2 w1 =>
    exact ⟨u, b2, rfl, x2, fun a ha => by
     have := w3 a (by simp [ha])
     omega⟩
def L7 (b lo : Nat) (l : List UInt8) (k : Nat) : Prop := ∀ (a : Nat) (ps : List (List UInt8)) (v : V) (h : H), Src b l a h -> a + 10 * k < 1099511627000 -> PgV b lo v ps h -> lo <= h.n -> Okp ps ->
  ∃ v' ps' h', Lp.Zr 0 [pv b 0, v, iv Ly k] h = some (.done [v'] h') /\ PgV b lo v' ps' h' /\ Okp ps' /\ Dr b l a (10 * k) h h'
theorem jl {b lo : Nat} {l : List UInt8} {k a : Nat} (ih : L7 b lo l k) {ps : List (List UInt8)} {v : V} {h W : H} (hb : b < h.n) (d : Dr b l a 10 h W) (wv : PgV b lo v ps h) (ok : Okp ps) (hlo : lo <= h.n) {f yn : Nat} {off : Bool} {xs : List V} (hy : h.n <= yn /\ yn < W.n) (gy : W.g yn = .rw 0 z3z) {c : Int} {y u : S} {es : List RunD} {ps' : List (List UInt8)} {h1 : H} (e : call Ev f xs (D W.n) = some (.agg [.int Ly c, y, u], h1)) (w : EdA W.n c y u es ps' h1) (ha : a + 10 * (k + 1) < 1099511627000) :
  ∃ v' ps'' h', (Qj (call Ev) f off xs W fun v251 h252 =>
 gVA v251 fun c253 =>
 (c253[0]?).bind fun x254 =>
 gI Ly x254 fun i255 =>
 (c253[1]?).bind fun x256 =>
 (c253[2]?).bind fun x257 =>
 if c253.length = 3 then
 stK 3 h252 (pv yn 0) (.agg [.int Ly i255, x256, x257]) fun h258 =>
 (Qb h258 (pv yn 0)).bind fun x281 =>
 gI Ly x281 fun i282 =>
 vcase (bv (i282 == 0))
 ((Qb h258 (pv yn 2)).bind fun x284 =>
 Lp.Zr 0 [pv b 0, .s x284, iv Ly (k : Int)] (tidy h [pv b 0, .s x284, iv Ly (k : Int)] h258))
 (Lp.Zr 0 [pv b 0, v, iv Ly (k : Int)] (tidy h [pv b 0, v, iv Ly (k : Int)] h258))
 else none) = some (.done [v'] h') /\ PgV b lo v' ps'' h' /\ Okp ps'' /\ Dr b l a (10 * (k + 1)) h h' := by
 obtain ⟨K, e2, uK, nK, wK⟩ := pC (h := W) (off := off) rfl e w.w;rw [e2];simp only [Zb, gx0, gx1, ob, Q2, ln0, ln1, Hw, HA, if_true];have kn := uK.n;have kg : K.g yn = .rw 0 z3z := (uK.g yn hy.2).trans gy;rw [Zq (z := 3) (e := 0) (o := 0) (b := yn) (cs := z3z) (r := [.int Ly c, y, u]) (by omega) kg (.inr rfl) rfl (by simp)]
 rw [show setAt z3z 0 [S.int Ly c, y, u] = [S.int Ly c, y, u] from rfl]
 have dn := d.n;have pg : PgV b W.n (.s u) ps' (K.put yn (.rw 0 [.int Ly c, y, u])) := by
  obtain ⟨y0, bs, w1, w2, w3⟩ := (EdA.pg wK.now (b := b) (by omega)).ex
  exact ⟨y0, bs, w1, w2.frame fun a ha => by
   have := w2.lt a ha;have := (w3 a ha).1;exact ⟨by rw [Qq]; omega, QG (by omega)⟩, w3⟩
 have dP : Dr b l a 10 h (K.put yn (.rw 0 [.int Ly c, y, u])) := by
  have d1 := d.up uK;obtain ⟨a', s', la⟩ := d1.ex;have := d1.n;exact ⟨⟨a', ⟨by rw [Qq]; exact s'.n, by rw [QG (by omega)]; exact s'.g⟩, la⟩, by rw [Qq]; exact d1.n, fun c hc hcb => by rw [QG (by omega)]; exact d1.o c hc hcb⟩
 have pl : ∀ o : Nat, Qb (K.put yn (.rw 0 [.int Ly c, y, u])) (pv yn o) = ([.int Ly c, y, u] : List S)[o]? := fun o => by
  have h1 : yn < (K.put yn (.rw 0 [.int Ly c, y, u])).n := by rw [Qq]; omega
  have h2 : (K.put yn (.rw 0 [.int Ly c, y, u])).g yn = .rw 0 [.int Ly c, y, u] := Z9 _ _ _;simp only [Qb, H.cells, h1, if_true, h2, Blk.cells]
 generalize K.put yn (.rw 0 [.int Ly c, y, u]) = P at pg dP pl ⊢;rw [pl];simp only [gx0, gx1, ob, Q2];rw [Q1, pl];simp only [gx0, gx1, ob]
 by_cases hc : c = 0
 ·rw [if_pos (by simp [hc])]
  have pg' : PgV b h.n (.s u) ps' P := pg.weak dn;have t := pg'.tidyN (vs := [pv b 0, .s u, iv Ly (k : Int)]) (by simp)
  have dT := dP.tidy hb [pv b 0, .s u, iv Ly (k : Int)];obtain ⟨a', s', la⟩ := dT.ex;obtain ⟨v', ps'', h', e4, w4, o4, d4⟩ := ih a' ps' (.s u) _ s' (by omega) (t.weak hlo) (by have := dT.n; omega) (w.ok hc)
  obtain ⟨a2, s2, la2⟩ := d4.ex;exact ⟨v', ps'', h', e4, w4, o4, ⟨a2, s2, by omega⟩, HL dT.n d4.n, fun c hc hcb => (d4.o c (Nat.lt_of_lt_of_le hc dT.n) hcb).trans (dT.o c hc hcb)⟩
 ·rw [if_neg (by simpa using hc)]
  have dT := dP.tidy hb [pv b 0, v, iv Ly (k : Int)];obtain ⟨a', s', la⟩ := dT.ex;obtain ⟨v', ps'', h', e4, w4, o4, d4⟩ := ih a' ps v _ s' (by omega) (wv.dr dT) (by have := dT.n; omega) ok
  obtain ⟨a2, s2, la2⟩ := d4.ex;exact ⟨v', ps'', h', e4, w4, o4, ⟨a2, s2, by omega⟩, HL dT.n d4.n, fun c hc hcb => (d4.o c (Nat.lt_of_lt_of_le hc dT.n) hcb).trans (dT.o c hc hcb)⟩
theorem Bt {h : H} {b : Nat} {cs : List S} (hb : b < h.n) (hg : h.g b = .rw 0 cs) (hc : ∀ s ∈ cs, Cl s) : QL h (pv b 0) = some (fv cs 0) := zp hb hg hc
theorem jg {b lo : Nat} {l : List UInt8} (hl : l.length <= 1048576) : ∀ k : Nat, L7 b lo l k := by
 intro k
 induction k with
 | zero =>
  intro a ps v h w ha wv hlo ok;refine ⟨v, ps, h, ?_, wv, ok, (Dr.refl w).weak (by omega)⟩
  rw [Wr, Q1, if_neg (by simp), Q6]
 | succ k ih =>
  intro a ps v h w ha wv hlo ok;have hb := w.n;rw [Wr, Q1, if_pos (by simp)]
  rw [w64 (n := ((k + 1 : Nat) : Int) - 1) (by omega) (by omega), show ((k + 1 : Nat) : Int) - 1 = (k : Int) from by omega]
  obtain ⟨r, h1, e1, hr0, d1⟩ := VU w hl (by omega)
  rw [e1, ob];simp only [Zb, gx0, gx1, ob, Q2, Z8, ln0, ln1, Hw, HA, if_true];have d1' := d1.tidy hb [V.agg r.cs];have hK : ∃ K, tidy h [V.agg r.cs] h1 = K := ⟨_, rfl⟩;obtain ⟨K, hK⟩ := hK;refine (?_ : ∃ v' ps' h', stK 4 ((tidy h [V.agg r.cs] h1).new 0 [.int Ly 0, .int Ly 0, .int Ly 0, .str (⟨#[]⟩)]) (pv (tidy h [V.agg r.cs] h1).n 0) (.agg r.cs) _ = _ /\ _);rw [hK] at d1' ⊢;rw [K4 (z := 4) rfl rfl, Xg (o := 0) (x := .int Ly r.tab) rfl];simp only [ob, Q2];rw [Xg (o := 1) (x := .int Ly r.key) rfl];simp only [ob, Q2];have kn := d1'.n;have xg := JZ K [.int Ly 0, .int Ly 0, .int Ly 0, .str (⟨#[]⟩)] r.cs;have xn := XK K [.int Ly 0, .int Ly 0, .int Ly 0, .str (⟨#[]⟩)] r.cs;have dX : Dr b l a 5 h (Zl K [.int Ly 0, .int Ly 0, .int Ly 0, .str (⟨#[]⟩)] r.cs) := d1'.up (ZE _ _ _).up;generalize Zl K [.int Ly 0, .int Ly 0, .int Ly 0, .str (⟨#[]⟩)] r.cs = X at xg xn dX ⊢;rw [Qa (wv.dr dX).frz (Qa XG (Qa XG QE)), ob, Z2];have hlen := ok.len;rw [pc (qT (t := r.tab) (k := r.key) ok.seen (by unfold maxLen; omega)) (by simp)]
  have hz0 : ∀ z, (Zg ps).find? (fun x => isK r.tab r.key x.c.row) = some z -> z ∈ Zg ps := fun z hz => ER hz
  generalize (Zg ps).find? (fun x => isK r.tab r.key x.c.row) = oz at hz0 ⊢
  have hzz : ∃ z, oz.getD noP = z := ⟨_, rfl⟩;obtain ⟨z, hzz⟩ := hzz;rw [hzz];simp only [Za, Zb, KM, Zc, QW, gx0, gx1, ob, Q2, Z8, ln0, ln1, Hw, HA, if_true];refine (?_ : ∃ v' ps' h', stK 10 (X.new 0 [.int Ly 0, .int Ly 0, .int Ly 0, .int Ly 0, .int Ly 0, .int Ly 0, .int Ly 0, .int Ly 0, .int Ly 0, .str (⟨#[]⟩)]) (pv X.n 0) (.agg (spc z)) _ = _ /\ _);rw [K4 (z := 10) rfl rfl];have yg := JZ X [.int Ly 0, .int Ly 0, .int Ly 0, .int Ly 0, .int Ly 0, .int Ly 0, .int Ly 0, .int Ly 0, .int Ly 0, .str (⟨#[]⟩)] (spc z);have yn := XK X [.int Ly 0, .int Ly 0, .int Ly 0, .int Ly 0, .int Ly 0, .int Ly 0, .int Ly 0, .int Ly 0, .int Ly 0, .str (⟨#[]⟩)] (spc z);have uY := (ZE X [.int Ly 0, .int Ly 0, .int Ly 0, .int Ly 0, .int Ly 0, .int Ly 0, .int Ly 0, .int Ly 0, .int Ly 0, .str (⟨#[]⟩)] (spc z)).up;generalize Zl X [.int Ly 0, .int Ly 0, .int Ly 0, .int Ly 0, .int Ly 0, .int Ly 0, .int Ly 0, .int Ly 0, .int Ly 0, .str (⟨#[]⟩)] (spc z) = Y at yg yn uY ⊢;rw [K4 (z := 3) rfl rfl];have zg := JZ Y [.int Ly 0, .sl none 0, .sl none 0] [.int Ly 0, .sl none 0, .sl none 0];have zn := XK Y [.int Ly 0, .sl none 0, .sl none 0] [.int Ly 0, .sl none 0, .sl none 0];have uZ := (ZE Y [.int Ly 0, .sl none 0, .sl none 0] [.int Ly 0, .sl none 0, .sl none 0]).up;generalize Zl Y [.int Ly 0, .sl none 0, .sl none 0] [.int Ly 0, .sl none 0, .sl none 0] = Z at zg zn uZ ⊢;have dZ := (dX.up uY).up uZ;have zX : Z.g X.n = .rw 0 (spc z) := (uZ.g X.n (by omega)).trans yg
  have zK : Z.g K.n = .rw 0 r.cs := (uZ.g K.n (by omega)).trans ((uY.g K.n (by omega)).trans xg)
  have hcr : ∀ s ∈ r.cs, Cl s := qE;have hcz : ∀ s ∈ spc z, Cl s := qx (sp := [z]) (spc z) (by simp [sps])
  rw [Q1]
  cases oz with
  | none =>
   rw [if_pos (show (!(none : Option SpotD).isSome) = true from rfl)]
   rw [Qa (wv.dr dZ).frz (Qa (Bt (by omega) zK hcr) QE), ob, show Qr [0, 4] [lv (bss ps), fv r.cs 0] = [lv (bss ps), fv r.cs 0] from rfl]
   obtain ⟨c, y, u, es, ps', h5, e5, w5⟩ := jv ok hr0 Z.n;exact jl (yn := Y.n) ih hb (dZ.weak (by omega)) wv ok hlo ⟨by omega, by omega⟩ zg e5 w5 ha
  | some z' =>
   have hzs := hz0 z' rfl;obtain rfl : z' = z := hzz;rw [if_neg (by simp)]
   obtain ⟨aZ, sZ, laZ⟩ := dZ.ex;obtain ⟨q, h4, e4, w4, n4, o4, t4⟩ := GF sZ hl (by omega) (n := 4) (by omega) (by omega)
   rw [e4, ob];simp only [Q3, QW];rw [t4, Q1];have d4 : Dr b l a 6 h h4 := ⟨⟨_, w4, by omega⟩, by have := dZ.n; omega, fun c hc hcb => by rw [o4 c hcb]; exact dZ.o c hc hcb⟩
   have qX : h4.g X.n = .rw 0 (spc z') := (o4 X.n (by omega)).trans zX
   have qK : h4.g K.n = .rw 0 r.cs := (o4 K.n (by omega)).trans zK
   have qY : h4.g Y.n = .rw 0 [.int Ly 0, .sl none 0, .sl none 0] := (o4 Y.n (by omega)).trans zg
   cases q with
   | true =>
    rw [if_pos rfl, Qa (wv.dr d4).frz (Qa (Bt (by omega) qX hcz) QE), ob, show Qr [0, 10] [lv (bss ps), fv (spc z') 0] = [lv (bss ps), fv (spc z') 0] from rfl]
    obtain ⟨y, u, h5, e5, w5⟩ := wg ok hzs h4.n;exact jl (yn := Y.n) ih hb (d4.weak (by omega)) wv ok hlo ⟨by omega, by omega⟩ qY e5 w5 ha
   | false =>
    rw [if_neg (by simp), Qa (wv.dr d4).frz (Qa (Bt (by omega) qX hcz) (Qa (Bt (by omega) qK hcr) QE)), ob, show Qr [0, 10, 4] [lv (bss ps), fv (spc z') 0, fv r.cs 0] = [lv (bss ps), fv (spc z') 0, fv r.cs 0] from rfl]
    obtain ⟨c, y, u, es, ps', h5, e5, w5⟩ := ju ok hzs hr0 h4.n;exact jl (yn := Y.n) ih hb (d4.weak (by omega)) wv ok hlo ⟨by omega, by omega⟩ qY e5 w5 ha
end Vm
namespace Vm
open Go
theorem Q0G : Okp [] := by
 have no : ∀ {a b : Int} {c : CellD}, Qg [] a b = some c -> False := fun {a b c} h => by
  rw [Yv (by simp <;> omega)] at h; cases h
 exact ⟨by simp, by simp, ⟨fun a b c h => (no h).elim, fun a b c h => (no h).elim, fun a b c a' b' c' h => (no h).elim⟩⟩
theorem y7 {b : Nat} {l : List UInt8} {a : Nat} {h : H} (w : Src b l a h) (hl : l.length <= 1048576) (ha : a + 400 < 1099511627000) :
  ∃ v ps h', call Ev Fn.Zr [pv b 0] h = some (v, h') /\ PgV b h.n v ps h' /\ Okp ps /\ Dr b l a 200 h h' := by
 have hb := w.n;rw [Rn];have w0 : Src b l a (h.new 1 []) := w.up Yl;obtain ⟨x1, h1, e1, a1, b1, w1, n1, o1, t1⟩ := XJ w0 hl (by omega) (n := 16) (by omega) (by omega)
 rw [e1]; simp only [ob, Q3, Q2]; rw [t1];obtain ⟨k, rfl⟩ : ∃ k : Nat, x1 = k := ⟨x1.toNat, by omega⟩
 have g0 : h1.g h.n = .rw 1 [] := by rw [o1 h.n (by omega)]; exact QI _ _ _
 have p0 : PgV b h.n (sv h.n 0 0) [] h1 := ⟨_, [h.n], rfl, by
  have := Rep.sl (d := 3) (h := h1) (b := h.n) (z := 1) (cs := []) (rows := []) (bss := []) (by rw [n1, Xf]; omega) (by omega) g0 (by simp) .nil
  exact this, by simp; omega⟩
 obtain ⟨v', ps', h', e4, w4, o4, d4⟩ := jg (lo := h.n) hl k (a + 1) [] (sv h.n 0 0) h1 w1 (by omega) p0 (by rw [n1, Xf]; omega) Q0G
 rw [e4, ob, Qc];simp only [gx0, ob];obtain ⟨a2, s2, la2⟩ := d4.ex;have hn : h.n <= h1.n := by rw [n1, Xf]; omega
 exact ⟨v', ps', h', rfl, w4, o4, ⟨a2, s2, by omega⟩, HL hn d4.n, fun c hc hcb => by rw [d4.o c (by omega) hcb, o1 c hcb, QO (by omega)]⟩
structure DrP (n0 : Nat) (y : S) (ps : List (List UInt8)) (h : H) : Prop where
 l : ps.length <= 13
 s : ∀ l ∈ ps, l.length <= 64
 f : ∀ h'', h.n <= h''.n -> (∀ c, n0 <= c -> c < h.n -> h''.g c = h.g c) -> Qy h'' 8 y = some (.fs (bss ps))
 t : QR n0 y = true -> ∀ h'', Qy h'' 8 y = some (.fs (bss ps))
theorem DrP.tidy {y : S} {ps : List (List UInt8)} {h h' : H} (w : DrP h.n y ps h') {vs : List V} (hv : V.s y ∈ vs) : DrP h.n y ps (Vm.tidy h vs h') := by
 unfold Vm.tidy
 split
 ·rename_i ht
  have hb : ZM h.n (.s y) = true := by
   have := ht.2.1;rw [List.all_eq_true] at this;exact this _ hv
  exact ⟨w.l, w.s, fun h'' _ _ => w.t hb h'', w.t⟩
 · exact w
theorem vz {b : Nat} {l : List UInt8} {a : Nat} {h : H} (w : Src b l a h) (hl : l.length <= 1048576) (ha : a + 2000 < 1099511627000) :
  ∃ y ps h', call Ev Fn.Mj [pv b 0] h = some (.s y, h') /\ DrP h.n y ps h' /\ Dr b l a 1000 h h' := by
 have hb := w.n;rw [Tn];obtain ⟨x, h1, e1, w1, n1, o1, t1⟩ := GF w hl (by omega) (n := 6) (by omega) (by omega)
 rw [e1]; simp only [ob, Q3, QW]; rw [t1, Q1];have up : ∀ {N : Nat} {h2 : H}, Dr b l (a + 1) N h1 h2 -> N <= 999 -> Dr b l a 1000 h h2 := fun {N h2} d hN => by
  obtain ⟨a2, s2, la2⟩ := d.ex;have := d.n;exact ⟨⟨a2, s2, by omega⟩, by omega, fun c hc hcb => by rw [d.o c (by omega) hcb, o1 c hcb]⟩
 cases x with
 | true =>
  rw [if_pos rfl];obtain ⟨y, ps, h2, e2, dd, d2⟩ := Q0v w1 hl (by omega)
  rw [e2, ob];dsimp only;obtain ⟨P, k, rfl, hP⟩ := dd.y;rw [Kr (h := h1) (h' := h2) (by simp [ZM, QR]; omega)]
  rw [n1] at dd hP;exact ⟨_, ps, h2, rfl, ⟨by rcases dd.l with h | h <;> omega, dd.s, dd.f, fun hh => by simp [QR] at hh; omega⟩, up d2 (by omega)⟩
 | false =>
  rw [if_neg (by simp)]
  obtain ⟨v, ps, h2, e2, pg, ok, d2⟩ := y7 w1 hl (by omega)
  rw [e2, ob];dsimp only;have d2' := d2.tidy w1.n [v];obtain ⟨y, bs, rfl, w2, w3⟩ := (pg.tidyN (vs := [v]) (by simp)).ex
  rw [n1] at w3;generalize tidy h1 [V.s y] h2 = X at d2' w2;exact ⟨y, ps, X, rfl, ⟨by have := ok.n; omega, fun l hl => by rw [(Qv (ok.p l hl)).1]; exact Hx _, fun h'' hn hg => (w2.frame fun c hc => by
   have := w2.lt c hc;exact ⟨by omega, hg c (w3 c hc).1 this⟩).frz (k := 8) (by omega), fun hh h'' => by
   obtain ⟨_, q⟩ := w2.stay (fun c hc => (w3 c hc).1) hh
   exact (q h'').frz (k := 8) (by omega)⟩, up d2' (by omega)⟩
theorem FlS.ldN {b i : Nat} {h : H} {v : V} {rs : List RowD} {r : RowD} (w : FlS 4 h v (rws rs) b) (hr : rs[i]? = some r) : Qp 4 h (pv b (i * 4)) = some r.cs := by
 have hi := (HF.1 hr).1;have hcl : h.cells b = (rws rs).flatten := by unfold H.cells; rw [if_pos w.n, w.g]; rfl
 have hfl := JU w.z;rw [YD] at hfl;simp only [Qp];have := Nat.mul_le_mul_right 4 (show i + 1 <= rs.length from hi)
 rw [if_pos ⟨w.n, by rw [hcl, hfl]; omega⟩, hcl]
 congr 1
 refine List.ext_getElem? fun j => ?_
 by_cases hj : j < 4
 · rw [List.getElem?_take_of_lt hj, List.getElem?_drop, zt w.z (xC hr) hj]
 · rw [EH (by simp; omega), EH (by simp; omega)]
theorem Re {Z : H} {n : Nat} {r : RowD} (hn : n < Z.n) (gn : Z.g n = .rw 0 r.cs) : Qp 4 Z (pv n 0) = some r.cs := by
 rw [Xh hn gn (by simp)]; rfl
theorem RF {n0 : Nat} {y : S} {ps : List (List UInt8)} {X W : H} {r : RowD} (w : DrP n0 y ps X) (h0 : 0 < n0) (hX : 0 < X.n) (hn : X.n <= W.n) (hg : ∀ c, n0 <= c -> c < X.n -> W.g c = X.g c) (g0 : W.g 0 = .rw 0 z4') :
  (stK 4 W (pv 0 0) (.agg r.cs) fun h252 => (V.toA (.s y)).bind fun t253 => (Qp 4 h252 (pv 0 0)).bind fun c254 => QL h252 (.tup [t253, .agg c254])) = some (.tup [.s (.fs (bss ps)), .agg r.cs]) := by
 rw [Zq (z := 4) (e := 0) (o := 0) (b := 0) (cs := z4') (r := r.cs) (by omega) g0 (.inr rfl) rfl (by simp)]
 rw [show setAt z4' 0 r.cs = r.cs from rfl]
 have hf := w.f (W.put 0 (.rw 0 r.cs)) (by rw [Qq]; omega) (fun c h1 h2 => by rw [QG (by omega)]; exact hg c h1 h2)
 rw [Re (by rw [Qq]; omega) (Z9 _ _ _)]
 simp [V.toA, KY, Yf, hf]
theorem BD {l : List UInt8} (hl : l.length <= 1048576) : ∃ (ps : List (List UInt8)) (r : RowD), Q8 (call Ev) Fn.JL [lv (bys l)] = some (.tup [.s (.fs (bss ps)), .agg r.cs]) /\ ps.length <= 13 /\ ∀ l ∈ ps, l.length <= 64 := by
 rw [GT];obtain ⟨K, e1, s1, u1, n1⟩ := vw (l := l) ((D 0).new 0 z4');have g1 : K.g 0 = .rw 0 z4' := by rw [u1.g 0 (by simp)]; exact QI (D 0) _ _
 simp only [Xf, D_n, Hw] at e1 s1 n1;rw [e1];obtain ⟨y, ps, h2, e2, dd, d2⟩ := vz s1 hl (by omega)
 rw [e2, ob];dsimp only;have d2' := d2.tidy s1.n [V.s y];have dd' := dd.tidy (vs := [V.s y]) (by simp)
 have hX : ∃ X, tidy K [V.s y] h2 = X := ⟨_, rfl⟩;obtain ⟨X, hX⟩ := hX;rw [hX] at d2' dd' ⊢;have xn := d2'.n;obtain ⟨a2, s2, la2⟩ := d2'.ex;obtain ⟨r, h3, e3, hr9, d3⟩ := Q0t s2 hl (by omega)
 rw [e3, ob];simp only [Zb, gx0, gx1, ob, Q2, Z8, ln0, ln1, Hw, HA, if_true];have d3' := d3.tidy s2.n [V.agg r.cs];have hY : ∃ Y, tidy X [V.agg r.cs] h3 = Y := ⟨_, rfl⟩;obtain ⟨Y, hY⟩ := hY;refine (?_ : ∃ ps r', stK 4 ((tidy X [V.agg r.cs] h3).new 0 z4') (pv (tidy X [V.agg r.cs] h3).n 0) (.agg r.cs) _ = _ /\ _);rw [hY] at d3' ⊢;rw [K4 (z := 4) rfl rfl];have yn := d3'.n;have zg := JZ Y z4' r.cs;have zn := XK Y z4' r.cs;have uZ := (ZE Y z4' r.cs).up;generalize Zl Y z4' r.cs = Z at zg zn uZ ⊢;have keepZ : ∀ c, 2 <= c -> c < X.n -> Z.g c = X.g c := fun c h1 h2 => by rw [uZ.g c (by omega), d3'.o c h2 (by omega)]
 have g0Z : Z.g 0 = .rw 0 z4' := by rw [uZ.g 0 (by omega), d3'.o 0 (by omega) (by omega), d2'.o 0 (by omega) (by omega)]; exact g1
 rw [n1] at dd';have fz : ∀ W : H, Z.n <= W.n -> (∀ c, 2 <= c -> c < Z.n -> W.g c = Z.g c) -> QL W (.s y) = some (lv (bss ps)) := fun W hn hg => by
  rw [Y1, dd'.f W (by omega) (fun c h1 h2 => by rw [hg c h1 (by omega), keepZ c h1 h2])]; rfl
 have hlm : ps.length <= maxLen := by have := dd.l; unfold maxLen; omega
 rw [Qa (fz Z (Hx _) (fun _ _ _ => rfl)) QE, ob, Z2, pc (P3 hlm) rfl]
 simp only [Q3, Q2];rw [Q1];have no : ∀ W : H, Z.n <= W.n -> (∀ c, c ≠ 1 -> c < Z.n -> W.g c = Z.g c) -> ∃ (ps' : List (List UInt8)) (r' : RowD), Jn.Xn false W (V.s y, h2) (pv 1 0) K (V.agg r.cs, h3) = some (.tup [.s (.fs (bss ps')), .agg r'.cs]) /\ ps'.length <= 13 /\ ∀ l ∈ ps', l.length <= 64 := fun W hn hg => by
  unfold Jn.Xn;rw [Q1, if_neg (by simp)]
  dsimp only;refine (?_ : ∃ (ps' : List (List UInt8)) (r' : RowD), (Qp 4 W (pv (tidy (tidy K [V.s y] h2) [V.agg r.cs] h3).n 0)).bind _ = _ /\ _);rw [hX, hY, Re (r := r) (by omega) ((hg Y.n (by omega) (by omega)).trans zg)]
  simp only [gx0, gx1, ob, Q2, Z8, ln0, ln1, Hw, HA, if_true];refine ⟨ps, r, RF dd' (by omega) (by omega) (by omega) (fun c h1 h2 => by rw [hg c (by omega) (by omega), keepZ c h1 h2]) ((hg 0 (by omega) (by omega)).trans g0Z), dd.l, dd.s⟩
 by_cases hc : ZF ps = 0
 case neg =>
  rw [if_neg (by simpa using hc)]
  exact no Z (Hx _) (fun _ _ _ => rfl)
 rw [if_pos (by simpa using hc)]
 obtain ⟨a3, s3, la3⟩ := (d3'.up uZ).ex;obtain ⟨q, h4, e4, w4, n4, o4, t4⟩ := GF s3 hl (by omega) (n := 4) (by omega) (by omega)
 rw [e4, ob];simp only [Q3, QW];rw [t4]
 cases q with
 | true => exact no h4 (by omega) (fun c h1 h2 => o4 c h1)
 | false =>
 show ∃ (ps' : List (List UInt8)) (r' : RowD), Jn.Xn true h4 (V.s y, h2) (pv 1 0) K (V.agg r.cs, h3) = _ /\ _;unfold Jn.Xn;rw [Q1, if_pos rfl];dsimp only;rw [Qa (fz h4 (by omega) (fun c h1 h2 => o4 c (by omega))) QE, ob, Z2]
 obtain ⟨y2, ks, b2, h5, e5, n5, f5, b5, k5⟩ := jw (xJ hc) (by have := NI hc; omega) h4.n
 have own5 : Ku 1 y2 (.fs (rws ks)) h4.n h5.n h5 := FlS.own (by have hv := f5.v; exact f5) (by omega) b5 Mw
 obtain ⟨M, e6, u6, n6, w6⟩ := pV (h := h4) (n := h4.n) (off := [V.s y].all Z5) rfl e5 n5 own5;rw [e6];have l6 := fun t => w6.now.len (t := t)
 rw [l6, ob];simp only [Q3, Q2, YD];rw [Q1];have hM := u6.n;have s6 : Src 1 l (a3 + 1) M := w4.up u6;have gM : ∀ c, c ≠ 1 -> c < Z.n -> M.g c = Z.g c := fun c h1 h2 => by rw [u6.g c (by omega), o4 c h1]
 by_cases hk : (ks.length : Int) > 0
 case neg =>
  rw [if_neg (by simpa using hk)]
  refine (?_ : ∃ (ps' : List (List UInt8)) (r' : RowD), (Qp 4 _ (pv (tidy (tidy K [V.s y] h2) [V.agg r.cs] h3).n 0)).bind _ = _ /\ _);rw [hX, hY, Re (r := r) (by omega) ((gM Y.n (by omega) (by omega)).trans zg)]
  simp only [gx0, gx1, ob, Q2, Z8, ln0, ln1, Hw, HA, if_true];refine ⟨ps, r, RF dd' (by omega) (by omega) (by omega) (fun c h1 h2 => by rw [gM c (by omega) (by omega), keepZ c h1 h2]) ((gM 0 (by omega) (by omega)).trans g0Z), dd.l, dd.s⟩
 rw [if_pos (by simpa using hk), ob]
 simp only [Q3, Q2, YD];obtain ⟨b7, f7, b8, b9⟩ := w6.now.fl Us Mw (by
  intro hh;have := congrArg List.length hh;rw [YD, FY] at this; omega)
 obtain ⟨x8, h8, e8, m8, k8, w8, n8, o8, t8⟩ := XJ s6 hl (by omega) (n := (ks.length : Int)) (by omega) (by omega)
 rw [e8, ob];simp only [Q3, Q2];rw [t8];obtain ⟨j, rfl⟩ : ∃ j : Nat, x8 = j := ⟨x8.toNat, by omega⟩
 obtain ⟨q8, hq8⟩ : ∃ q, ks[j]? = some q := ⟨_, HI (by omega)⟩
 have f8 : FlS 4 h8 (.s y2) (rws ks) b7 := f7.keep (by omega) (o8 b7 (by omega))
 have hv := f8.v;rw [hv, Z3 (by rw [YD]; omega), xV rfl (f8.ldN hq8)]
 simp only [Zb, gx0, gx1, ob, Q2, Z8, ln0, ln1, Hw, HA, if_true];refine (?_ : ∃ (ps' : List (List UInt8)) (r' : RowD), stK 4 (h8.new 0 z4') (pv h8.n 0) (.agg q8.cs) _ = _ /\ _);rw [K4 (z := 4) rfl rfl];have ag := JZ h8 z4' q8.cs;have an := XK h8 z4' q8.cs;have uA := (ZE h8 z4' q8.cs).up;generalize Zl h8 z4' q8.cs = A at ag an uA ⊢;have sA : Src 1 l (a3 + 1 + 1) A := w8.up uA;have gA' : ∀ c, c ≠ 1 -> c < Z.n -> A.g c = Z.g c := fun c h1 h2 => by rw [uA.g c (by omega), o8 c h1]; exact gM c h1 h2
 generalize hT : A.new 1 [S.str (⟨#[]⟩), .str (⟨#[97, 98]⟩), .str (⟨#[97, 98, 99, 100, 101, 102, 103, 104]⟩)] = T;have tn : T.n = A.n + 1 := by rw [<- hT]; simp
 have tg : T.g A.n = .rw 1 [S.str (⟨#[]⟩), .str (⟨#[97, 98]⟩), .str (⟨#[97, 98, 99, 100, 101, 102, 103, 104]⟩)] := by rw [<- hT]; exact QI _ _ _
 have uT : Up A T := by rw [<- hT]; exact Yl
 have sT : Src 1 l (a3 + 1 + 1) T := sA.up uT;obtain ⟨x9, h9, e9, m9, k9, w9, n9, o9, t9⟩ := XJ sT hl (by omega) (n := 3) (by omega) (by omega)
 rw [e9, ob];simp only [Q3, Q2];rw [t9];obtain ⟨i, rfl⟩ : ∃ i : Nat, x9 = i := ⟨x9.toNat, by omega⟩
 rw [Z3 (by omega)]
 have g9 : h9.g A.n = .rw 1 [S.str (⟨#[]⟩), .str (⟨#[97, 98]⟩), .str (⟨#[97, 98, 99, 100, 101, 102, 103, 104]⟩)] := (o9 A.n (by omega)).trans tg
 obtain ⟨tx, htx⟩ : ∃ tx : ByteArray, Qb h9 (pv A.n (i * 1)) = some (.str tx) := by
  have : A.n < h9.n := by omega
  simp only [Qb, H.cells, this, if_true, g9, Blk.cells, Nat.mul_one]
  match i, (show i < 3 from by omega) with
  | 0, _ => exact ⟨_, rfl⟩
  | 1, _ => exact ⟨_, rfl⟩
  | 2, _ => exact ⟨_, rfl⟩
 have hld : ∀ f : V -> Option V, ldK (.one .s) ⟨1, 16, [.str ⟨#[]⟩], false, .str, false⟩ h9 (pv A.n (i * 1)) f = f (.s (.str tx)) := fun f => by
  simp only [ldK, ldT, cond_false, htx, HC, tyV]
 rw [hld];simp only [Q3, Z8];have g9' : h9.g h8.n = .rw 0 q8.cs := by rw [o9 h8.n (by omega), uT.g h8.n (by omega)]; exact ag
 rw [Zq (z := 1) (e := 0) (o := 3) (b := h8.n) (cs := q8.cs) (r := [.str tx]) (by omega) g9' (.inl ⟨_, rfl, rfl, rfl⟩) rfl (by simp)]
 rw [show setAt q8.cs 3 [S.str tx] = ({ q8 with text := tx } : RowD).cs from rfl]
 have bg : (h9.put h8.n (.rw 0 ({ q8 with text := tx } : RowD).cs)).g h8.n = .rw 0 ({ q8 with text := tx } : RowD).cs := Z9 _ _ _
 have bn : (h9.put h8.n (.rw 0 ({ q8 with text := tx } : RowD).cs)).n = h9.n := Qq _ _ _
 have bo : ∀ c, c ≠ h8.n -> (h9.put h8.n (.rw 0 ({ q8 with text := tx } : RowD).cs)).g c = h9.g c := fun c hc => QG hc
 generalize h9.put h8.n (.rw 0 ({ q8 with text := tx } : RowD).cs) = B at bg bn bo ⊢
 rw [Re (r := { q8 with text := tx }) (by omega) bg]
 simp only [gx0, gx1, ob, Q2, Z8, ln0, ln1, Hw, HA, if_true];have gB' : ∀ c, c ≠ 1 -> c < Z.n -> B.g c = Z.g c := fun c h1 h2 => by rw [bo c (by omega), o9 c h1, uT.g c (by omega)]; exact gA' c h1 h2
 exact ⟨ps, { q8 with text := tx }, RF (r := { q8 with text := tx }) dd' (by omega) (by omega) (by omega) (fun c h1 h2 => by rw [gB' c (by omega) (by omega), keepZ c h1 h2]) ((gB' 0 (by omega) (by omega)).trans g0Z), dd.l, dd.s⟩
theorem BE {l : List UInt8} (hl : l.length <= 1048576) : ∃ (ps : List (List UInt8)) (t k : Int), Q8 (call Ev) Fn.JM [lv (bys l)] = some (.tup [.s (.fs (bss ps)), .s (.int Ly t), .s (.int Ly k)]) /\ ps.length <= 13 /\ ∀ l ∈ ps, l.length <= 64 := by
 obtain ⟨ps, r, e, h1, h2⟩ := BD hl;refine ⟨ps, r.tab, r.key, ?_, h1, h2⟩;rw [GU, e];simp only [Za, Zc, KM, gx0, gx1, ob, Q2, Z8, QY, ln0, ln1, Hw, HA, if_true]
end Vm
namespace Vm
open Go
theorem qv {p : Nat} {l : List UInt8} {s : Nat} (h : Z7 l (s : Int) = true) : ∀ (n i : Nat), i <= s -> s < i + n -> (⟨p, s, QS (Qm l s)⟩ : SpotD) ∈ QQ p l i n
 | 0, i, h1, h2 => by omega
 | n + 1, i, h1, h2 => by
  rw [QQ]
  by_cases hi : i = s
  ·subst hi
   rw [if_pos h]; simp
  ·have ih := qv (p := p) h n (i + 1) (by omega) (by omega)
   split
   · exact List.mem_cons_of_mem _ ih
   · exact ih
theorem qw : ∀ {rs : List (List UInt8)} {q i s : Nat} {l : List UInt8}, rs[i]? = some l -> Z7 l (s : Int) = true -> (⟨q + i, s, QS (Qm l s)⟩ : SpotD) ∈ Qh q rs
 | [], q, i, s, l, h, _ => by simp at h
 | r :: rs, q, i, s, l, h, hb => by
  rw [Qh, HK]
  cases i with
  | zero =>
   simp at h; subst h;exact .inl (qv hb (cnt r) 0 (Nat.zero_le _) (by have := (Ka.1 hb).1; omega))
  | succ i =>
   rw [List.getElem?_cons_succ] at h;have := qw (q := q + 1) h hb;rw [show q + 1 + i = q + (i + 1) from by omega] at this
   exact .inr this
theorem Gg {ps : List (List UInt8)} {x : SpotD} : x ∈ Qh 0 ps ↔ Qg ps (x.p : Int) (x.s : Int) = some x.c := by
 constructor
 · exact Wj (Q := fun x => Qg ps (x.p : Int) (x.s : Int) = some x.c) ps 0 (fun i l hi s hs => by
   have : ((0 + i : Nat) : Int) = (i : Int) := by omega
   show Qg ps ((0 + i : Nat) : Int) (s : Int) = some (QS (Qm l s));rw [this];exact (Xp hi s).trans (Gj hs)) x
 ·intro h
  obtain ⟨i, k, l, h1, h2, h3, h4, h5⟩ := WK h;have e1 : x.p = i := by omega
  have e2 : x.s = k := by omega
  have := qw (q := 0) h3 h4;rw [Hw] at this;obtain ⟨p, s, c⟩ := x;simp only at e1 e2 h5;subst e1; subst e2; subst h5;exact this
theorem qu {p : Nat} {l : List UInt8} : ∀ (n i : Nat), (QQ p l i n).Pairwise (fun x y => x.s < y.s) /\ ∀ x ∈ QQ p l i n, i <= x.s
 | 0, i => ⟨D1, by simp [QQ]⟩
 | n + 1, i => by
  obtain ⟨h1, h2⟩ := qu (p := p) (l := l) n (i + 1);rw [QQ]
  split
  ·refine ⟨SM.2 ⟨fun x hx => by have := h2 x hx; show i < x.s; omega, h1⟩, fun x hx => ?_⟩
   rcases HH.1 hx with rfl | hx
   · exact Hx _
   · have := h2 x hx; omega
  · exact ⟨h1, fun x hx => by have := h2 x hx; omega⟩
def Bf (x y : SpotD) : Prop := ¬ (x.p = y.p /\ x.s = y.s)
theorem YX : ∀ (rs : List (List UInt8)) (q : Nat), (Qh q rs).Pairwise Bf /\ ∀ x ∈ Qh q rs, q <= x.p
 | [], q => ⟨D1, by simp [Qh]⟩
 | r :: rs, q => by
  obtain ⟨h1, h2⟩ := YX rs (q + 1);have h3 := qu (p := q) (l := r) (cnt r) 0;rw [Qh];refine ⟨List.pairwise_append.2 ⟨h3.1.imp fun {x y} h hh => by omega, h1, fun x hx y hy hh => ?_⟩, fun x hx => ?_⟩
  ·have := Uc _ _ x hx
   have := h2 y hy;omega
  ·rcases HK.1 hx with hx | hx
   · rw [Uc _ _ x hx]; exact Hx _
   · have := h2 x hx; omega
theorem PS {α : Type} {R : α -> α -> Prop} (hs : ∀ x y, R x y -> R y x) : ∀ {l : List α}, l.Pairwise R -> ∀ x ∈ l, ∀ y ∈ l, x ≠ y -> R x y
 | [], _, x, hx, _, _, _ => by simp at hx
 | a :: l, h, x, hx, y, hy, hne => by
  obtain ⟨h1, h2⟩ := SM.1 h
  rcases HH.1 hx with e1 | m1
  ·rcases HH.1 hy with e2 | m2
   · exact absurd (e1.trans e2.symm) hne
   · rw [e1]; exact h1 y m2
  ·rcases HH.1 hy with e2 | m2
   · rw [e2]; exact hs _ _ (h1 x m1)
   · exact PS hs h2 x m1 y m2 hne
theorem BP {l : List SpotD} (h : l.Pairwise Bf) : l.Nodup := h.imp fun {x y} h hh => h (by rw [hh]; exact ⟨rfl, rfl⟩)
abbrev tgt (x : SeenD) : Int × Int := (x.at_, x.place)
theorem TC : ∀ {l : List SeenD} {d : List (Int × Int)}, JD d l = false ↔ (l.Pairwise fun x y => tgt x ≠ tgt y) /\ ∀ x ∈ l, tgt x ∉ d
 | [], d => by simp [JD]
 | x :: l, d => by
  rw [JD, Bool.or_eq_false_iff, decide_eq_false_iff_not, TC, SM];constructor
  ·rintro ⟨h1, h2, h3⟩
   refine ⟨⟨fun y hy hh => h3 y hy (HK.2 (.inr (by rw [HT]; exact hh.symm))), h2⟩, fun y hy => ?_⟩
   rcases HH.1 hy with rfl | hy
   · exact h1
   · exact fun hh => h3 y hy (HK.2 (.inl hh))
  ·rintro ⟨⟨h1, h2⟩, h3⟩
   refine ⟨h3 x (by simp), h2, fun y hy hh => ?_⟩
   rcases HK.1 hh with hh | hh
   · exact h3 y (by simp [hy]) hh
   ·rw [HT] at hh
    exact h1 y hy hh.symm
theorem v8 {ps : List (List UInt8)} (h : ZF ps = 0) : JD [] (QF (Qh 0 ps)) = false := by
 unfold ZF at h
 by_cases h12 : 12 < ps.length
 · rw [if_pos h12] at h; cases h
 rw [if_neg h12] at h
 by_cases hc : XL ps = 0
 case neg => rw [if_pos hc] at h; exact absurd h hc
 rw [if_neg (by simpa using hc)] at h
 unfold G9 at h
 by_cases hm : KW (QZ (Qh 0 ps)) (QF (Qh 0 ps)) = true
 · rw [if_pos hm] at h; cases h
 rw [if_neg hm] at h
 by_cases hd : JD [] (QF (Qh 0 ps)) = true
 · rw [if_pos hd] at h; cases h
 simpa using hd
theorem v7 {ps : List (List UInt8)} (h : ZF ps = 0) : Okp ps := by
 obtain ⟨h1, h2, h3, h4⟩ := Yk h;have hd := (TC.1 (v8 h)).1;have sp : ∀ {a b : Int} {c : CellD}, Qg ps a b = some c -> ∃ x ∈ Qh 0 ps, (x.p : Int) = a /\ (x.s : Int) = b /\ x.c = c := fun {a b c} hc => by
  obtain ⟨i, k, l, q1, q2, q3, q4, q5⟩ := WK hc;refine ⟨⟨i, k, c⟩, ?_, q1.symm, q2.symm, rfl⟩;rw [Gg];show Qg ps (i : Int) (k : Int) = some c;rw [<- q1, <- q2]; exact hc
 refine ⟨h1, fun l hl => (h2 l hl).1, fun a b c hc => ?_, fun a b c hc hf => ?_, fun a b c a' b' c' hc hc' hf hf' e1 e2 => ?_⟩
 ·obtain ⟨i, k, l, q1, q2, q3, q4, q5⟩ := WK hc
  rw [q5]; exact (h2 l (HU q3)).2 k q4
 ·obtain ⟨x, hx, _, _, rfl⟩ := sp hc
  have hm := N4 h3 x hx hf;rw [Gm] at hm
  cases hq : Qg ps x.c.page x.c.slot with
  | none => rw [hq] at hm; cases hm
  | some d =>
   rw [hq, HC] at hm
   by_cases h2c : d.flag = 2
   · exact ⟨d, rfl, h2c⟩
   · rw [if_neg h2c] at hm; cases hm
 ·obtain ⟨x, hx, x1, x2, rfl⟩ := sp hc
  obtain ⟨y, hy, y1, y2, rfl⟩ := sp hc'
  by_cases hxy : x = y
  · subst hxy; exact ⟨x1.symm.trans y1, x2.symm.trans y2⟩
  ·exfalso
   unfold QF at hd;rw [D3] at hd;exact PS (R := fun a b => tgt (UE a) ≠ tgt (UE b)) (fun a b hh e => hh e.symm) hd x (FJ.2 ⟨hx, by simp [hf]⟩) y (FJ.2 ⟨hy, by simp [hf']⟩) hxy (by
    show (x.c.page, x.c.slot) = (y.c.page, y.c.slot);rw [e1, e2])
theorem kL {l : List UInt8} : ∀ (k s : Nat), (∀ t : Nat, Z7 l t = true -> (QS (Qm l t)).code = 0) -> UQ l s k = false
 | 0, s, _ => rfl
 | k + 1, s, h => by
  rw [Be, kL k (s + 1) h, Bool.or_false]
  cases hb : Z7 l (s : Int) with
  | false => rfl
  | true => simp [h s hb]
theorem zJ : ∀ {ps : List (List UInt8)}, Yj ps -> XL ps = 0
 | [], _ => rfl
 | l :: r, h => by
  have h1 := h l (by simp)
  rw [Vz h1.1 (by rw [kL _ _ h1.2]; simp)]
  exact zJ fun m hm => h m (by simp [hm])
theorem vN {ps : List (List UInt8)} (ok : Okp ps) (hk : ¬ K3 ((Zg ps).map QT)) : ZF ps = 0 := by
 have hd : JD [] (QF (Qh 0 ps)) = false := TC.2 ⟨by
  unfold QF;rw [D3];refine List.Pairwise.imp_of_mem (fun {x y} hx hy h e => ?_) (D4 _ (YX ps 0).1)
  obtain ⟨hx1, hx2⟩ := FJ.1 hx;obtain ⟨hy1, hy2⟩ := FJ.1 hy;have e' : (x.c.page, x.c.slot) = (y.c.page, y.c.slot) := e
  injection e' with e1 e2
  have := ok.f.u _ _ _ _ _ _ (Gg.1 hx1) (Gg.1 hy1) (by simpa using hx2) (by simpa using hy2) e1 e2
  exact h ⟨by omega, by omega⟩, by simp⟩
 have hn := ok.n;unfold ZF;rw [if_neg (by omega), zJ ok.right, if_neg (by simp)]
 unfold G9;rw [ok.miss, if_neg (by simp), hd, if_neg (by simp), if_neg]
 rw [Bj];exact hk
def vu (F : CF) (a b : Int) : RowD := ((F a b).bind fun c => if c.flag = 2 then some c.row else none).getD noR
def G5 (F : CF) (x : SpotD) : SpotD := if x.c.flag = 1 then { x with c := { x.c with row := vu F x.c.page x.c.slot } } else x
theorem V3 (ps : List (List UInt8)) : Zg ps = ((Qh 0 ps).filter fun x => !(x.c.flag == 2)).map (G5 (Qg ps)) := by
 unfold Zg JO;refine congrArg (fun f => FK f _) ?_
 funext x
 unfold YB G5 vu;rw [Gm]
theorem V2 (F : CF) (x : SpotD) : (G5 F x).p = x.p /\ (G5 F x).s = x.s := by unfold G5; split <;> exact ⟨rfl, rfl⟩
def here (p s : Nat) (x : SpotD) : Bool := decide (x.p = p) && decide (x.s = s)
theorem TR {ps ps' : List (List UInt8)} {p s : Nat} (hF : Qg ps' = upd (Qg ps) p s none) (hn : ∀ a b c, Qg ps a b = some c -> c.flag = 1 -> ¬ (a = (p : Int) /\ b = (s : Int)) -> ¬ (c.page = p /\ c.slot = s)) :
  (Zg ps').Perm ((Zg ps).filter fun x => !here p s x) := by
 have hsp : (Qh 0 ps').Perm ((Qh 0 ps).filter fun x => !here p s x) := by
  rw [List.perm_ext_iff_of_nodup (BP (YX ps' 0).1) (BP (D4 _ (YX ps 0).1))];intro x;rw [Gg, FJ, Gg, hF];unfold here
  by_cases hx : (x.p : Int) = (p : Int) /\ (x.s : Int) = (s : Int)
  ·rw [hx.1, hx.2, XQ]
   constructor
   · intro h; cases h
   ·rintro ⟨_, h⟩
    have e1 : x.p = p := by omega
    have e2 : x.s = s := by omega
    simp [e1, e2] at h
  ·rw [Zp hx]
   constructor
   ·intro h
    refine ⟨h, ?_⟩;simp only [Bool.not_eq_true', Cv, decide_eq_false_iff_not];omega
   · exact fun h => h.1
 rw [V3, V3];have h1 := (hsp.filter fun x => !(x.c.flag == 2)).map (G5 (Qg ps'))
 refine h1.trans ?_;rw [OB, SN, OB];have e : ((fun x => !here p s x) ∘ G5 (Qg ps)) = fun x => !here p s x := by
  funext x
  obtain ⟨a, b⟩ := V2 (Qg ps) x;show (!here p s (G5 (Qg ps) x)) = _;unfold here;rw [a, b]
 rw [e];rw [show (SO (fun a => (!(a.c.flag == 2)) && !here p s a) (Qh 0 ps)) = SO (fun a => (!here p s a) && !(a.c.flag == 2)) (Qh 0 ps) from by
  refine congrArg (fun f => SO f _) ?_
  funext x; exact Bool.and_comm _ _]
 refine SP (List.map_congr_left fun x hx => ?_)
 obtain ⟨hx1, hx2⟩ := FJ.1 hx;have hx3 := Gg.1 hx1;unfold G5
 by_cases hf : x.c.flag = 1
 ·rw [if_pos hf, if_pos hf]
  have hne : ¬ ((x.p : Int) = (p : Int) /\ (x.s : Int) = (s : Int)) := fun hh => by
   have e1 : x.p = p := by omega
   have e2 : x.s = s := by omega
   simp [here, e1, e2] at hx2
  unfold vu;rw [hF, Zp (hn _ _ _ hx3 hf hne)]
 · rw [if_neg hf, if_neg hf]
theorem kW (ps : List (List UInt8)) : (Zg ps).Pairwise Bf := by
 rw [V3, D3];refine (D4 _ (YX ps 0).1).imp fun {x y} h => ?_
 obtain ⟨a, b⟩ := V2 (Qg ps) x;obtain ⟨c, d⟩ := V2 (Qg ps) y;unfold Bf at h ⊢;rw [a, b, c, d]; exact h
theorem vj {ps : List (List UInt8)} {x y : SpotD} (hx : x ∈ Zg ps) (hy : y ∈ Zg ps) (h : x.p = y.p /\ x.s = y.s) : x = y := by
 by_cases e : x = y
 · exact e
 · exact absurd h (PS (R := Bf) (fun a b hh e => hh ⟨e.1.symm, e.2.symm⟩) (kW ps) x hx y hy e)
theorem vk {ps : List (List UInt8)} (ok : Okp ps) {z : SpotD} (hz : z ∈ Zg ps) :
  (Zg (ps.set z.p (Z4 (dlL ps z) z.s))).Perm ((Zg ps).filter fun x => !here z.p z.s x) /\ (Zg (dlP ps z)).Perm ((Zg ps).filter fun x => !here z.p z.s x) /\ Okp (ps.set z.p (Z4 (dlL ps z) z.s)) := by
 obtain ⟨ca, h2, ok2⟩ := ok.dl hz;obtain ⟨c0, a1, a2, a3, a4, a5⟩ := ok.at hz;obtain ⟨v1, v2⟩ := MK ca;have hn1 : ∀ a b c, Qg ps a b = some c -> c.flag = 1 -> ¬ (a = (z.p : Int) /\ b = (z.s : Int)) -> ¬ (c.page = z.p /\ c.slot = z.s) := fun a b c hc h1 _ hh => by
  obtain ⟨e, g3, g4⟩ := ok.f.m a b c hc h1;rw [hh.1, hh.2, a1] at g3
  injection g3 with g3
  rw [<- g3, a2] at g4;exact a5 g4
 have P1 := TR v1 hn1;have ok1 : Okp (ps.set z.p (Z4 (dlL ps z) z.s)) := Okp.of (by rw [List.length_set]; exact ok.n) (Pgs.set ok.p v2) (by rw [v1]; exact ok.f.drop hn1)
 refine ⟨P1, ?_, ok1⟩;unfold dlP Ng
 by_cases hf : z.c.flag = 1
 case neg => rw [if_neg (by simpa using hf)]; exact P1
 obtain ⟨e1, e2, cb⟩ := h2 (by simpa using hf)
 rw [if_pos (by simpa using hf)]
 obtain ⟨v3, v4⟩ := MK cb;have hc0 : c0.flag = 1 := by rw [a2]; exact hf
 have P2 := TR v3 (fun a b c hc h1 _ hh => by
  rw [v1] at hc
  by_cases hab : a = (z.p : Int) /\ b = (z.s : Int)
  · rw [hab.1, hab.2, XQ] at hc; cases hc
  ·rw [Zp hab] at hc
   exact hab (ok.f.u a b c z.p z.s c0 hc a1 h1 hc0 (by rw [hh.1, a3]; exact e1.symm) (by rw [hh.2, a4]; exact e2.symm)))
 refine P2.trans (OC (SP ?_) P1);rw [List.filter_eq_self];intro x hx;obtain ⟨c1, b1, b2, b3, b4, b5⟩ := ok1.at hx;obtain ⟨d, g1, g2⟩ := ok.f.m _ _ c0 a1 hc0;rw [a3, a4] at g1;unfold here
 by_cases hh : x.p = z.c.page.toNat /\ x.s = z.c.slot.toNat
 ·exfalso
  rw [hh.1, hh.2, <- e1, <- e2, v1, Zp, g1] at b1
  ·injection b1 with b1
   rw [<- b1] at b2;exact b5 (b2.symm.trans g2)
  ·rintro ⟨k1, k2⟩
   rw [k1, k2, a1] at g1
   injection g1 with g1
   rw [<- g1, hc0] at g2; cases g2
 ·simp only [Bool.not_eq_true', Cv, decide_eq_false_iff_not]
  omega
theorem xp {l : List SpotD} {q : SpotD -> Bool} (h : ¬ K3 (l.map QT)) : ¬ K3 ((l.filter q).map QT) := by
 unfold K3 at h ⊢;rw [SQ] at h ⊢;rw [D3] at h ⊢;exact D4 _ h
theorem qe {ps ps' : List (List UInt8)} {z : SpotD} {t k : Int} (hv : ZF ps = 0) (hz : (Zg ps).find? (fun x => isK t k x.c.row) = some z) (ok' : Okp ps') (hp : (Zg ps').Perm ((Zg ps).filter fun x => !here z.p z.s x)) :
  ZF ps' = 0 /\ riL ps' = (riL ps).filter fun r => !isK t k r := by
 obtain ⟨v1, v2⟩ := MO hv;have hzm := ER hz;have hzk : isK t k z.c.row = true := by simpa using List.find?_some hz
 have hk' : ¬ K3 ((Zg ps').map QT) := by
  rw [WI (hp.map QT)];exact xp v2
 have hv' := vN ok' hk';refine ⟨hv', ?_⟩;obtain ⟨w1, w2⟩ := MO hv';have key : ∀ x ∈ Zg ps, (!here z.p z.s x) = !isK t k (QT x).r := fun x hx => by
  rw [UV]
  by_cases hh : x = z
  ·subst hh
   rw [hzk];simp [here]
  ·have h1 : here z.p z.s x = false := by
    cases hb : here z.p z.s x with
    | false => rfl
    | true =>
     unfold here at hb;simp only [Bool.and_eq_true, decide_eq_true_eq] at hb;exact absurd (vj hx hzm hb) hh
   have h2 : isK t k x.c.row = false := by
    cases hb : isK t k x.c.row with
    | false => rfl
    | true =>
     exfalso;unfold K3 at v2;rw [SQ, D3] at v2;have := PS (R := fun a b => YC (QT a) (QT b) = false) (fun a b hh => by
      unfold YC at hh ⊢;rw [<- hh]
      congr 1 <;> exact decide_eq_decide.2 ⟨Eq.symm, Eq.symm⟩) v2 x hx z hzm hh
     unfold YC at this;rw [UV, UV] at this;unfold isK at hb hzk;simp only [Bool.and_eq_true, beq_iff_eq] at hb hzk;simp [hb.1, hb.2, hzk.1, hzk.2] at this
   rw [h1, h2]
 have e : Ji ps' = (Ji ps).filter fun x => !isK t k x.r := by
  rw [w1, v1];refine TV (NC w2) (D4 _ (NC v2)) ?_;refine (Wi _).trans ((hp.map QT).trans ?_);refine OC (SP ?_) ((Wi ((Zg ps).map QT)).symm.filter fun x => !isK t k x.r)
  rw [SN];refine congrArg (FK QT) (List.filter_congr fun x hx => ?_)
  exact key x hx
 unfold riL;rw [e, SN];rfl
end Vm
namespace Vm
open Go
theorem Vd {ps : List (List UInt8)} (hl : ps.length <= maxLen) : Q8 (call Ev) Fn.Yc [lv (bss ps)] = some (.agg [.int Ly (ZF ps), .fs (rws (riL ps))]) := by
 obtain ⟨y, h', e, w⟩ := uw hl 0;exact NewC.p (by omega) e w
theorem BL {ks : List RowD} (hl : ks.length <= 1000) : Q8 (call Ev) Fn.Xo [lv (rws ks), lv (rws ks)] = some (bv true) := by
 have loop : ∀ (rs : List RowD) (i : Nat), ks.drop i = rs -> Lp.Xo 0 [lv (rws ks), lv (rws ks), iv Ly i] (D 0) = some (.done [] (D 0)) := by
  intro rs
  induction rs with
  | nil =>
   intro i hi;have := Zn hi;rw [G2, Q1, if_neg (by simp; omega), Q6]
  | cons r rs ih =>
   intro i hi;obtain ⟨g1, g2, g3⟩ := Zf hi;rw [G2, Q1, if_pos (by simp; omega), Yd g1, Bl]
   simp only [ob, gx0, gx1, Q2, Z8, ln0, ln1, Hw, HA, if_true];rw [Yd g1, Bl];simp only [ob, gx0, gx1, Q2, Z8, ln0, ln1, Hw, HA, if_true];rw [Q1, if_neg (by simp), Q6, w64 (by omega) (by omega), show (i : Int) + 1 = ((i + 1 : Nat) : Int) from by omega]
   exact ih (i + 1) g2
 rw [T1, Q1, if_neg (by simp), show iv Ly 0 = iv Ly ((0 : Nat) : Int) from rfl, loop ks 0 rfl]
 simp
end Vm
namespace Vm
open Go
theorem qr {R : Type} {K : H} {n : Nat} {a b c : S} {x y z : S} {f : H -> Option R} (hn : n < K.n) (hg : K.g n = .rw 0 [a, b, c]) : stK 3 K (pv n 0) (.agg [x, y, z]) f = f (K.put n (.rw 0 [x, y, z])) := by
 rw [Zq (z := 3) (e := 0) (o := 0) (b := n) (cs := [a, b, c]) (r := [x, y, z]) hn hg (.inr rfl) rfl (by simp)]
 rfl
theorem yN {R : Type} {K : H} {n : Nat} {x y z : S} {bt : Nat} {zz : List S} {d : TD} {cm : Bool} {f : V -> Option R} (hn : n < K.n) (hg : K.g n = .rw 0 [x, y, z]) : ldT ⟨3, bt, zz, true, d, cm⟩ K (pv n 0) f = f (.agg [x, y, z]) := by
 simp only [ldT, cond_true];rw [show Qp 3 K (pv n 0) = some [x, y, z] from Xh hn hg (by simp), ob]
theorem jh {all : List RunD} (hl : all.length <= maxLen) (hr : ∀ e ∈ all, e.l.length <= lim) {n : Nat} : ∀ (es : List RunD) (i : Nat) (ps : List (List UInt8)) (h : H) (y : S) (bs : List Nat), all.drop i = es -> OutS 1 1 y (bss ps) bs h -> (∀ c ∈ bs, n < c) -> n < h.n -> h.g n = .rw 0 [.int Ly 0, .sl none 0, .sl none 0] -> ps.length <= 12 ->
  ((edG ps es).1 = 0 /\ ∃ h' y' bs', Lp.Zh 0 [lv (Z1 all), pv n 0, .s y, lv (Z1 all), iv Ly all.length, iv Ly i] h = some (.done [lv (Z1 all), pv n 0, .s y'] h') /\ OutS 1 1 y' (bss (edG ps es).2) bs' h' /\ (∀ c ∈ bs', n < c) /\ n < h'.n /\ h'.g n = .rw 0 [.int Ly 0, .sl none 0, .sl none 0]) \/
  ((edG ps es).1 ≠ 0 /\ (edG ps es).2 = [] /\ ∃ h', Lp.Zh 0 [lv (Z1 all), pv n 0, .s y, lv (Z1 all), iv Ly all.length, iv Ly i] h = some (.ret (.agg [.int Ly (edG ps es).1, .sl none 0, .sl none 0]) h') /\ n <= h'.n) := by
 intro es
 induction es with
 | nil =>
  intro i ps h y bs hi w hb hn hg hp;have := Zn hi;refine .inl ⟨rfl, h, y, bs, ?_, w, hb, hn, hg⟩;rw [Uz, Q1, if_neg (by simp; omega), Q6]
 | cons r es ih =>
  intro i ps h y bs hi w hb hn hg hp;unfold maxLen at hl;obtain ⟨g1, g2, g3⟩ := Zf hi;have hrl := hr r (HU g1);rw [Uz, Q1, if_pos (by simp; omega), zj g1, qF]
  simp only [gx0, gx1, ob, Q2, QY];rw [if_pos (show ([_, _] : List S).length = 2 from rfl), RJ]
  have u1 : Up h ((h.new 0 [.int Ly 0, .sl none 0]).put h.n (.rw 0 [.int Ly r.at_, .fs (bys r.l)])) := uM;have gn : ((h.new 0 [.int Ly 0, .sl none 0]).put h.n (.rw 0 [.int Ly r.at_, .fs (bys r.l)])).n = h.n + 1 := Q1K;have gg : ((h.new 0 [.int Ly 0, .sl none 0]).put h.n (.rw 0 [.int Ly r.at_, .fs (bys r.l)])).g h.n = .rw 0 [.int Ly r.at_, .fs (bys r.l)] := zo;generalize (h.new 0 [.int Ly 0, .sl none 0]).put h.n (.rw 0 [.int Ly r.at_, .fs (bys r.l)]) = G at u1 gn gg ⊢;have ldX : ∀ {K : H} {o : Nat}, h.n < K.n -> K.g h.n = G.g h.n -> Qb K (pv h.n o) = ([.int Ly r.at_, .fs (bys r.l)] : List S)[o]? := fun {K o} hk hkg => by simp [Qb, H.cells, hk, hkg, gg, Blk.cells]
  have ld : ∀ {o : Nat}, Qb G (pv h.n o) = ([.int Ly r.at_, .fs (bys r.l)] : List S)[o]? := fun {o} => ldX (by omega) rfl
  have gG : G.g n = .rw 0 [.int Ly 0, .sl none 0, .sl none 0] := (u1.g n hn).trans hg;have wG : OutS 1 1 y (bss ps) bs G := w.frame fun c hc => by
   have := w.rep.lt c hc;exact ⟨by omega, u1.g c this⟩
  have bad : ∀ c : Int, (stK 3 G (pv n 0) (.agg [.int Ly c, .sl none 0, .sl none 0]) fun h261 =>
    ldT ⟨3, 56, [.int Ly 0, .sl none 0, .sl none 0], true, .st [(0, 2), (1, 27), (2, 24)], false⟩ h261 (pv n 0) fun v262 => some (LOut.ret v262 h261)) = some (.ret (.agg [.int Ly c, .sl none 0, .sl none 0]) (G.put n (.rw 0 [.int Ly c, .sl none 0, .sl none 0]))) := fun c => by
   rw [qr (by omega) gG, yN (by rw [Qq]; omega) (Z9 _ _ _)]
  have eL : Xi (.sl 5) (.s (.fs (bys r.l))) = some (iv Ly (r.l.length : Int)) := by simp [Xi]
  have eY : ∀ t, Xi (.sl t) (.s y) = some (iv Ly (ps.length : Int)) := fun t => by rw [Gp w, XP]
  simp only [ld, gx0, gx1, ob, eL, Q3, Q2];rw [Q1]
  by_cases h64 : r.l.length = 64
  case neg =>
   have hE : edG ps (r :: es) = (1, []) := by simp only [edG]; rw [if_pos (.inl h64)]
   right
   rw [if_pos (by simp; omega), hE]
   refine ⟨by simp, rfl, G.put n (.rw 0 [.int Ly 1, .sl none 0, .sl none 0]), ?_, ?_⟩
   ·unfold Jn.KX
    rw [Q1, if_pos rfl];exact bad 1
   · rw [Qq]; omega
  rw [if_neg (by simp; omega), eY, ob]
  simp only [Q3, Q2];rw [pc (j8 _ _ _) rfl];simp only [Q3, QW];unfold Jn.KX;rw [Q1]
  cases hin : inB r.at_ 0 (ps.length : Int)
  ·have hE : edG ps (r :: es) = (1, []) := by simp only [edG]; rw [if_pos (.inr hin)]
   right
   rw [if_pos (by simp), hE]
   refine ⟨by simp, rfl, _, bad 1, ?_⟩
   rw [Qq]; omega
  rw [if_neg (by simp)]
  have hin' := X4.1 hin;simp only [ld, gx0, ob, Q2];rw [Q1]
  by_cases h12 : r.at_ = 12
  ·have hE : edG ps (r :: es) = (2, []) := by simp only [edG]; rw [if_neg (by simp [h64, hin]), if_pos h12]
   right
   rw [if_pos (by simp [h12]), hE]
   refine ⟨by simp, rfl, _, bad 2, ?_⟩
   rw [Qq]; omega
  have hE : edG ps (r :: es) = edG (edP ps r) es := by simp only [edG]; rw [if_neg (by simp [h64, hin]), if_neg h12]
  rw [if_neg (by simp [h12]), eY, ob, hE]
  simp only [Q3, Q2];rw [Q1];have hpl := Q19 (e := r) hp h12
  by_cases ha : r.at_ = ps.length
  ·rw [if_pos (by simp [ha])]
   have wn : RepL (Rep G 1) [.sl none 0] (pgr []) [] := RepL.cons (bs := []) Rep.nil .nil;obtain ⟨h2, bs2, e3, w3, n3, f3, o3, q3, _⟩ := YS wG wn rfl (by omega) (by simp) (fun c hc => by simp) (by simp; unfold lim; omega)
   rw [e3, ob];dsimp only;have k2 : h2.g h.n = G.g h.n := o3 h.n (by omega) (fun hh => by have := w.rep.lt _ hh; omega)
   simp only [ldX (K := h2) (by omega) k2, gx0, gx1, ob, Q2]
   rw [Qa Xc QE, ob, Z2];obtain ⟨v, h1, e1, w1, nn⟩ := Yt (m := r.l) hrl h2.n;obtain ⟨e2, w2, u2, n2, x2⟩ := Jh e1 w1 nn;rw [e2];generalize h2.over h1 = K at w2 u2 n2 x2 ⊢;rw [ZB x2];simp only [GZ, ZL, cond_true];rw [XP] at w3;rw [<- Np, XP] at *
   have wK : OutS 1 1 (.sl (some (G.n + 1, 0)) (ps.length + 1)) (bss (ps ++ [[]])) bs2 K := w3.frame fun c hc => by
    have := w3.rep.lt c hc;exact ⟨by omega, u2.g c this⟩
   obtain ⟨h3, bs3, e4, w4, n4, m4, o4, _⟩ := VK (R := LOut) (i := ps.length) (f := fun h282 => Lp.Zh 0 [lv (Z1 all), pv n 0, sv (G.n + 1) 0 (ps.length + 1), lv (Z1 all), iv Ly all.length, iv Ly (Ly.wrap ((i : Int) + 1))] (tidy h [lv (Z1 all), pv n 0, sv (G.n + 1) 0 (ps.length + 1), lv (Z1 all), iv Ly all.length, iv Ly (Ly.wrap ((i : Int) + 1))] h282)) wK (by simp) w2 (fun hh => by have := w3.rep.lt _ hh; omega)
   rw [ha, e4];rw [Kr (by simp [ZM, QR]; omega), w64 (n := (i : Int) + 1) (by omega) (by omega), show (i : Int) + 1 = ((i + 1 : Nat) : Int) from by omega]
   have hps : (ps ++ [[]]).set ps.length r.l = edP ps r := by
    unfold edP;rw [if_pos ha, List.set_append_right _ _ (Hx _), Nat.sub_self]; rfl
   rw [hps] at w4;have hb2 : ∀ c ∈ bs2, n < c := fun c hc => by
    rcases f3 c hc with h1 | h1 | h1
    · omega
    · exact hb c h1
    · simp at h1
   refine ih (i + 1) (edP ps r) h3 _ bs3 g2 w4 (fun c hc => ?_) (by omega) ?_ hpl
   ·rcases m4 c hc with h1 | h1
    · exact hb2 c h1
    · omega
   ·rw [o4 n (fun hh => by have := hb2 n hh; omega), u2.g n (by omega), o3 n (by omega) (fun hh => by have := hb n hh; omega)]
    exact gG
  ·rw [if_neg (by simpa using ha)]
   obtain ⟨a, hA⟩ : ∃ a : Nat, r.at_ = a := ⟨r.at_.toNat, by omega⟩
   simp only [ld, gx0, gx1, ob, Q2];rw [Qa Xc QE, ob, Z2];obtain ⟨v, h1, e1, w1, nn⟩ := Yt (m := r.l) hrl G.n;obtain ⟨e2, w2, u2, n2, x2⟩ := Jh e1 w1 nn;rw [e2];generalize G.over h1 = K at w2 u2 n2 x2 ⊢;rw [ZB x2];simp only [GZ, ZL, cond_true];have wK : OutS 1 1 y (bss ps) bs K := wG.frame fun c hc => by
    have := wG.rep.lt c hc;exact ⟨by omega, u2.g c this⟩
   obtain ⟨h3, bs3, e4, w4, n4, m4, o4, b, cs, hbb, hbn, hgb, hgb', hic⟩ := VK (R := LOut) (i := a) (f := fun h282 => Lp.Zh 0 [lv (Z1 all), pv n 0, .s y, lv (Z1 all), iv Ly all.length, iv Ly (Ly.wrap ((i : Int) + 1))] (tidy h [lv (Z1 all), pv n 0, .s y, lv (Z1 all), iv Ly all.length, iv Ly (Ly.wrap ((i : Int) + 1))] h282)) wK (by omega) w2 (fun hh => by have := wG.rep.lt _ hh; omega)
   rw [hA, e4];rw [zZ (h := h) (w.rep.lt b hbb) (w.rep.bel w.rep.lt b hbb) hgb' hic (by omega), w64 (n := (i : Int) + 1) (by omega) (by omega), show (i : Int) + 1 = ((i + 1 : Nat) : Int) from by omega]
   have hps : ps.set a r.l = edP ps r := by
    unfold edP;rw [if_neg ha, hA]; rfl
   rw [hps] at w4;refine ih (i + 1) (edP ps r) h3 _ bs3 g2 w4 (fun c hc => ?_) (by omega) ?_ hpl
   ·rcases m4 c hc with h1 | h1
    · exact hb c h1
    · omega
   ·rw [o4 n (fun hh => by have := hb n hh; omega), u2.g n (by omega)]
    exact gG
end Vm
namespace Vm
open Go
theorem OutS.isNo {z d : Nat} {y : S} {rows : List (List S)} {bs : List Nat} {h : H} (w : OutS z d y rows bs h) : isNo y = false := w.rep.isNo
theorem Q57 {h : H} {z1 d1 z2 d2 n d : Nat} {y1 y2 : S} {r1 r2 : List (List S)} {b1 b2 : List Nat} {c : Int} (w1 : OutS z1 d1 y1 r1 b1 h) (w2 : OutS z2 d2 y2 r2 b2 h) (hd : ∀ a ∈ b1, a ∉ b2) (h1 : ∀ a ∈ b1, n <= a) (h2 : ∀ a ∈ b2, n <= a) (hd1 : d1 + 1 <= d) (hd2 : d2 + 1 <= d) :
  YW d [.int Ly c, y1, y2] [.int Ly c, .fs r1, .fs r2] n h.n h := by
 refine ⟨b1 ++ (b2 ++ []), RepL.cons (bs := []) (Rep.sc trivial) (RepL.cons (w1.rep.lifts hd1) (RepL.cons (w2.rep.lifts hd2) .nil)), ?_, fun b hb => ?_⟩
 ·rw [List.append_nil]
  exact List.nodup_append.2 ⟨w1.nd, w2.nd, fun a ha a' ha' hh => hd a ha (hh ▸ ha')⟩
 ·rw [List.append_nil] at hb
  rcases HK.1 hb with hb | hb
  · exact ⟨h1 b hb, w1.rep.lt b hb⟩
  · exact ⟨h2 b hb, w2.rep.lt b hb⟩
theorem Q04 {h : H} {n d : Nat} {c : Int} : YW d [.int Ly c, .sl none 0, .sl none 0] [.int Ly c, .fs [], .fs []] n h.n h :=
 ⟨[], RepL.cons (bs := []) (Rep.sc trivial) (RepL.cons (bs := []) Rep.nil (RepL.cons (bs := []) Rep.nil .nil)), by simp, by simp⟩
theorem zy {ps : List (List UInt8)} {es : List RunD} (hp : ps.length <= lim) (hpl : ∀ l ∈ ps, l.length <= lim) (he : es.length <= maxLen) (hel : ∀ e ∈ es, e.l.length <= lim) (hlm : es.length + 1 <= lim) (n : Nat) :
  ∃ y z h', call Ev Fn.Zh [lv (bss ps), lv (Z1 es)] (D n) = some (.agg [.int Ly (edF ps es).1, y, z], h') /\ NewC 4 [.int Ly (edF ps es).1, y, z] [.int Ly (edF ps es).1, .fs (Z1 (edF ps es).2.1), .fs (bss (edF ps es).2.2)] n h' := by
 rw [B5, Q1, XP];unfold edF
 by_cases h12 : 12 < ps.length
 ·rw [if_pos (by simp; omega), if_pos h12]
  rw [D_n, qr (K := (D n).new 0 [.int Ly 0, .sl none 0, .sl none 0]) (n := n) (by simp) (QI (D n) _ _)]
  rw [show Qp 3 (((D n).new 0 [.int Ly 0, .sl none 0, .sl none 0]).put n (.rw 0 [.int Ly 2, .sl none 0, .sl none 0])) (pv n 0) = some [.int Ly 2, .sl none 0, .sl none 0] from Xh (by simp) (Z9 _ _ _) (by simp), ob]
  exact ⟨_, _, _, rfl, by simp, by simp only [Z1, bss, EF]; exact Q04⟩
 rw [if_neg (by simp; omega), if_neg h12]
 generalize hG : (D n).new 0 [.int Ly 0, .sl none 0, .sl none 0] = G;have gn : G.n = n + 1 := by rw [<- hG]; simp
 have gg : G.g n = .rw 0 [.int Ly 0, .sl none 0, .sl none 0] := by rw [<- hG]; exact QI (D n) _ _
 obtain ⟨y1, k1, b1, e1, w1, f1, n1⟩ := zx hp hpl G.n;obtain ⟨K, e2, u2, n2, w2, _⟩ := pO (h := G) (off := true) rfl e1 w1 f1 n1;rw [e2, D_n, GC, show iv Ly 0 = iv Ly ((0 : Nat) : Int) from rfl]
 have gK : K.g n = .rw 0 [.int Ly 0, .sl none 0, .sl none 0] := (u2.g n (by omega)).trans gg
 rcases jh he hel es 0 ps K y1 b1 (by simp) w2 (fun c hc => by have := f1 c hc; omega) (by omega) gK (by omega) with ⟨hc, h', y', bs', e3, w3, f3, n3, g3⟩ | ⟨hc, hc2, h', e3, n3⟩
 ·rw [e3, ob, Qc]
  simp only [gx0, gx1, ob, Q3, QY];obtain ⟨y4, k4, b4, e4, w4, f4, n4⟩ := jr he hel hlm h'.n;obtain ⟨M, e5, u5, n5, w5, _⟩ := pO (h := h') (off := true) rfl e4 w4 f4 n4;rw [e5, JW w5.isNo, if_pos (by simp), JW w3.isNo, show setAt [.int Ly 0, .sl none 0, .sl none 0] 1 [y4] = [.int Ly 0, y4, .sl none 0] from rfl, if_pos (by simp), show setAt [.int Ly 0, y4, .sl none 0] 2 [y'] = [.int Ly 0, y4, y'] from rfl]
  simp only [gx0, gx1, ob, Q2, ln0, ln1, Hw, HA, if_true];have gM : M.g n = .rw 0 [.int Ly 0, .sl none 0, .sl none 0] := (u5.g n n3).trans g3;have hM := u5.n;rw [qr (by omega) gM, yN (by rw [Qq]; omega) (Z9 _ _ _), hc, if_pos rfl]
  have w3M : OutS 1 1 y' (bss (edG ps es).2) bs' (M.put n (.rw 0 [.int Ly 0, y4, y'])) := w3.frame fun c hc => by
   have a := w3.rep.lt c hc;have b := f3 c hc;exact ⟨by rw [Qq]; omega, (QG (by omega)).trans (u5.g c a)⟩
  have w5M : OutS 2 1 y4 (Z1 es) b4 (M.put n (.rw 0 [.int Ly 0, y4, y'])) := w5.frame fun c hc => by
   have a := w5.rep.lt c hc;have b := f4 c hc;exact ⟨by rw [Qq]; omega, QG (by omega)⟩
  refine ⟨_, _, _, rfl, by rw [Qq]; omega, Q57 w5M w3M (fun a ha hh => by have := f4 a ha; have := w3.rep.lt a hh; omega) (fun a ha => by have := f4 a ha; omega) (fun a ha => by have := f3 a ha; omega) (by omega) (by omega)⟩
 ·rw [e3, ob, Zx, if_neg hc, hc2]
  exact ⟨_, _, _, rfl, n3, by simp only [Z1, bss, EF]; exact Q04⟩
end Vm
namespace Vm
open Go
theorem PF {ps : List (List UInt8)} {t k : Int} (hl : ps.length <= lim) (hr : ∀ l ∈ ps, l.length <= lim) : Q8 (call Ev) Fn.JT [lv (bss ps), iv Ly t, iv Ly k] = some (.agg [.int Ly (Ys ps t k), .fs (Z1 (deM ps t k).1), .fs (bss (deM ps t k).2)]) := by
 obtain ⟨y, u, h', e, w⟩ := PG (t := t) (k := k) hl hr 0;exact NewC.p (by omega) e w
theorem jd {ps : List (List UInt8)} {e : RunD} {j : Nat} (hl : ps.length <= 12) (hr : ∀ l ∈ ps, l.length <= lim) (hj : j < ps.length) (he : e.at_ = j) (h64 : e.l.length = 64) : Q8 (call Ev) Fn.Zh [lv (bss ps), lv (Z1 [e])] = some (.agg [.int Ly 0, .fs (Z1 [e]), .fs (bss (ps.set j e.l))]) := by
 obtain ⟨y, u, h', e1, w⟩ := zy (ps := ps) (es := [e]) (by unfold lim; omega) hr (by unfold maxLen; simp) (by simp [h64, lim]) (by simp [lim]) 0
 have hE : edF ps [e] = (0, [e], ps.set j e.l) := by
  have hg : edG ps [e] = (0, ps.set j e.l) := by
   rw [edG, if_neg (by
    rw [he, not_or];refine ⟨by simp [h64], ?_⟩
    have : inB (j : Int) 0 (ps.length : Int) = true := X4.2 (by omega)
    rw [this]; simp), if_neg (by rw [he]; omega), edG]
   unfold edP;rw [he, if_neg (by omega)]
   simp
  unfold edF;rw [if_neg (by omega), hg]
  simp
 rw [hE] at e1 w;exact NewC.p (by omega) e1 w
theorem yi {a b : List UInt8} (ha : a.length <= lim) (hb : b.length <= lim) : Q8 (call Ev) Fn.Mr [lv (bys a), lv (bys b)] = some (bv (decide (a = b))) := by
 rw [T0, Nd ha, ob];simp only [Q3, Z8];rw [Nd hb, ob];simp only [Q3, Z8];rw [PO]
theorem z7 {ps : List (List UInt8)} (hl : ps.length <= 1000) (hr : ∀ l ∈ ps, l.length <= lim) : Q8 (call Ev) Fn.XX [lv (bss ps), lv (bss ps)] = some (bv true) := by
 have loop : ∀ (rs : List (List UInt8)) (i : Nat), ps.drop i = rs -> Lp.XX 0 [lv (bss ps), lv (bss ps), iv Ly i] (D 0) = some (.done [] (D 0)) := by
  intro rs
  induction rs with
  | nil =>
   intro i hi;have := Zn hi;rw [WH, Q1, if_neg (by simp; omega), Q6]
  | cons r rs ih =>
   intro i hi;obtain ⟨g1, g2, g3⟩ := Zf hi;rw [WH, Q1, if_pos (by simp; omega), J3 g1]
   simp only [gx0, ob, QY];rw [J3 g1];simp only [gx0, ob, QY];have hrl := hr r (HU g1);rw [pc (yi hrl hrl) rfl];simp only [Q3, QW, Qu];rw [Q1, if_neg (by simp), Q6, w64 (by omega) (by omega), show (i : Int) + 1 = ((i + 1 : Nat) : Int) from by omega]
   exact ih (i + 1) g2
 rw [R7, Q1, if_neg (by simp), show iv Ly 0 = iv Ly ((0 : Nat) : Int) from rfl, loop ps 0 rfl]
 simp
theorem Q0B {ks : List RowD} {t k : Int} (hl : ks.length <= 1000) : Q8 (call Ev) Fn.XF [lv (rws ks), iv Ly t, iv Ly k] = some (lv (rws (ks.filter fun r => !isK t k r))) := by
 have loop : ∀ (q : List RowD) (i : Nat) (y : S) (out : List RowD) (h : H), ks.drop i = q -> out.length <= i -> Gr 4 0 (D 0) y (rws out) h ->
   ∃ y' h', Lp.XF 0 [lv (rws ks), iv Ly t, iv Ly k, .s y, iv Ly i] h = some (.done [.s y'] h') /\ Gr 4 0 (D 0) y' (rws (out ++ q.filter fun r => !isK t k r)) h' := by
  intro q
  induction q with
  | nil =>
   intro i y out h hi ho w;have := Zn hi;refine ⟨y, h, ?_, by simpa using w⟩
   rw [GO, Q1, if_neg (by simp; omega), Q6]
  | cons r q ih =>
   intro i y out h hi ho w;obtain ⟨g1, g2, g3⟩ := Zf hi;have app : isK t k r = false -> ∃ y' h', ((Zm 4 (h.new 4 [.int Ly r.tab, .int Ly r.key, .int Ly r.val, .str r.text]) (.s y) (sv h.n 0 1)).bind fun p223 =>
     Lp.XF 0 [lv (rws ks), iv Ly t, iv Ly k, p223.1, iv Ly ((i + 1 : Nat) : Int)] (tidy h [lv (rws ks), iv Ly t, iv Ly k, p223.1, iv Ly ((i + 1 : Nat) : Int)] p223.2)) = some (.done [.s y'] h') /\ Gr 4 0 (D 0) y' (rws (out ++ (r :: q).filter fun r => !isK t k r)) h' := fun hk => by
    obtain ⟨h2, e, g', hn⟩ := w.app (row := r.cs) (fun s hs => Mw (rs := [r]) r.cs (by simp [rws]) s hs) rfl (by omega) (by rw [YD]; unfold lim; omega)
    have e' : Zm 4 (h.new 4 [S.int Ly r.tab, .int Ly r.key, .int Ly r.val, .str r.text]) (.s y) (sv h.n 0 1) = some (sv (h.n + 1) 0 ((rws out).length + 1), h2) := e;rw [e', ob];dsimp only;rw [B0 (m := h.n + 1) (k := (rws out).length + 1) (by omega) (by simp)]
    have hr : rws out ++ [r.cs] = rws (out ++ [r]) := by simp [rws]
    rw [hr] at g';obtain ⟨y3, h3, e3, w3⟩ := ih (i + 1) _ (out ++ [r]) h2 g2 (by simp; omega) g'
    refine ⟨y3, h3, e3, ?_⟩;rw [List.filter_cons, hk];simpa using w3
   rw [GO, Q1, if_pos (by simp; omega), Yd g1]
   simp only [gx0, ob, Q2];rw [Q1, w64 (n := (i : Int) + 1) (by omega) (by omega), show (i : Int) + 1 = ((i + 1 : Nat) : Int) from by omega]
   by_cases h1 : r.tab = t
   ·rw [if_neg (by simp [h1]), Yd g1]
    simp only [gx0, gx1, ob, Q2];rw [Q1]
    by_cases h2 : r.key = k
    ·rw [if_neg (by simp [h2]), Q6]
     obtain ⟨y3, h3, e3, w3⟩ := ih (i + 1) y out h g2 (by omega) w
     refine ⟨y3, h3, e3, ?_⟩;rw [List.filter_cons, show isK t k r = true from by simp [isK, h1, h2]]
     simpa using w3
    ·rw [if_pos (by simpa using h2), Yd g1, Bl]
     simp only [ob, gx0, gx1, Q2, Z8, ln0, ln1, Hw, HA, if_true];exact app (by simp [isK, h2])
   ·rw [if_pos (by simpa using h1), Yd g1, Bl]
    simp only [ob, gx0, gx1, Q2, Z8, ln0, ln1, Hw, HA, if_true];exact app (by simp [isK, h1])
 obtain ⟨y', h', e, w⟩ := loop ks 0 _ [] _ rfl (by simp) (Gr.new (z := 4) (h := D 0) (by omega))
 rw [Pz];rw [D_n] at e;rw [show iv Ly 0 = iv Ly ((0 : Nat) : Int) from rfl, e, ob, Qc]
 simp only [gx0, ob];rw [List.nil_append] at w;exact w.frz
def Way (after : List RowD) : List (List UInt8) -> List RunD -> List (List UInt8) -> Prop
 | ps, [], ps' => ps = ps'
 | ps, e :: es, ps' => ps.length <= 12 /\ (∀ l ∈ ps, l.length <= lim) /\ e.l.length = 64 /\ ∃ j : Nat, j < ps.length /\ e.at_ = j /\ ZF (ps.set j e.l) = 0 /\ riL (ps.set j e.l) = after /\ Way after (ps.set j e.l) es ps'
theorem jk {R : Type} {h : H} {o w0 : Nat} {cs : List S} {rows : List (List S)} {zz : List S} {dd : TD} {bb : Bool} {f : V -> Option R} (hn : 0 < h.n) (hg : h.g 0 = .rw 0 cs) (hc : cs[o]? = some (.fs rows)) : ldK (.one .f) ⟨1, w0, zz, false, dd, bb⟩ h (pv 0 o) f = f (lv rows) := by
 have : Qb h (pv 0 o) = some (.fs rows) := by simp only [Qb, H.cells, hn, if_true, hg, Blk.cells, hc]
 show ldT _ h (pv 0 o) f = _;unfold ldT;simp only [cond_false];rw [this, ob]
theorem Q1Y {before after : List RowD} {es : List RunD} {P : List (List S)} (hes : es.length <= 100) (ha : after.length <= 192) {h : H} (hn : 0 < h.n) (hg : h.g 0 = .rw 0 [.int Ly 0, .fs (Z1 es), .fs P]) :
  ∀ (q : List RunD) (i : Nat) (ps ps' : List (List UInt8)) (tu : Bool), es.drop i = q -> Way after ps q ps' -> Lp.Km 0 [lv (rws before), lv (rws after), pv 0 0, lv (bss ps), bv tu, iv Ly i] h = some (.done [lv (rws before), lv (rws after), pv 0 0, lv (bss ps'), bv (tu || !q.isEmpty)] h) := by
 intro q
 induction q with
 | nil =>
  intro i ps ps' tu hi w;have := Zn hi
  cases w
  rw [GN, show JC 1 (pv 0 0) = some (pv 0 1) from rfl, ob, jk hn hg rfl]
  simp only [Xi, ob, Q3, Q2, GC];rw [Q1, if_neg (by simp; omega), Q6]
  simp
 | cons e q ih =>
  intro i ps ps' tu hi w;obtain ⟨g1, g2, g3⟩ := Zf hi;obtain ⟨w1, w2, w3, j, w4, w5, w6, w7, w8⟩ := w;rw [GN, show JC 1 (pv 0 0) = some (pv 0 1) from rfl, ob, jk hn hg rfl]
  simp only [Xi, ob, Q3, Q2, GC];rw [Q1, if_pos (by simp; omega), jk hn hg rfl, w64 (n := (i : Int) + 1) (by omega) (by omega), show (i : Int) + 1 = ((i + 1 : Nat) : Int) from by omega]
  have hz : ∀ r ∈ Z1 es, r.length = 2 := fun r hr => by
   obtain ⟨x, _, rfl⟩ := List.mem_map.1 hr;rfl
  have hsl : ∀ f : V -> Option LOut, slK 2 h (lv (Z1 es)) (some (iv Ly (i : Int))) (some (iv Ly ((i + 1 : Nat) : Int))) f = f (lv (Z1 [e])) := fun f => by
   show slF 2 (Z1 es) (some (iv Ly (i : Int))) (some (iv Ly ((i + 1 : Nat) : Int))) (fun l => f (lv l)) = _
   unfold slF;have b1 : bnd (Z1 es).length (iv Ly ((i + 1 : Nat) : Int)) = some (i + 1) := by
    unfold bnd;rw [GC];simp; omega
   have b2 : bnd (i + 1) (iv Ly (i : Int)) = some i := by
    unfold bnd;simp; omega
   simp only [HC, b1, b2];rw [if_pos hz]
   congr 2
   have : es.take (i + 1) = es.take i ++ [e] := by rw [List.take_add_one, g1]; rfl
   show ((FK RunD.cs es).take (i + 1)).drop i = FK RunD.cs [e];rw [<- List.map_take, <- List.map_drop, this, List.drop_left' (by rw [List.length_take]; omega)]
  rw [hsl];rw [show ([lv (bss ps), lv (Z1 [e])].all Z5) = true from rfl, cond_true, Qa Xc (Qa Xc QE), ob, Z2, jd w1 w2 w4 w5 w3, ob]
  simp only [Zb, gx0, gx1, ob, Q2, QY, ln0, ln1, Hw, HA, if_true];rw [K4 (z := 3) rfl rfl, Xg (o := 0) (x := .int Ly 0) rfl];simp only [ob, Q2];rw [Q1, if_neg (by simp), Xg (o := 2) (x := .fs (bss (ps.set j e.l))) rfl]
  simp only [ob];rw [show ([V.s (.fs (bss (ps.set j e.l)))].all Z5) = true from rfl, cond_true, Qa Xc QE, ob, Z2, Vd (by rw [List.length_set]; unfold maxLen; omega), ob, w6, w7]
  simp only [Zb, gx0, gx1, ob, Q2, QY, ln0, ln1, Hw, HA, if_true];have k1 := ZE h [.int Ly 0, .sl none 0, .sl none 0] [.int Ly 0, .fs (Z1 [e]), .fs (bss (ps.set j e.l))];generalize Zl h [.int Ly 0, .sl none 0, .sl none 0] [.int Ly 0, .fs (Z1 [e]), .fs (bss (ps.set j e.l))] = X at k1 ⊢;rw [K4 (z := 2) rfl rfl, Xg (o := 1) (x := .fs (rws after)) rfl];simp only [ob];rw [Qa Xc (Qa Xc QE), ob, Z2, pc (BL (by omega)) rfl]
  simp only [Q3, QW];rw [Xg (o := 0) (x := .int Ly 0) rfl];simp only [ob, Q2];rw [Q1, if_neg (by simp), Q1, if_neg (by simp)]
  have k2 := k1.trans (ZE X [.int Ly 0, .sl none 0] [.int Ly 0, .fs (rws after)]);rw [BZ k2 (by simp [ZM, QR, hn])]
  have := ih (i + 1) (ps.set j e.l) ps' true g2 w8;rw [this];simp
theorem Q0A {before after : List RowD} {es : List RunD} {ps ps' : List (List UInt8)} (hes : es.length <= 100) (hne : es ≠ []) (ha : after.length <= 192) (hl : ps'.length <= 1000) (hr : ∀ l ∈ ps', l.length <= lim) (w : Way after ps es ps') : Q8 (call Ev) Fn.Km [lv (bss ps), .agg [.int Ly 0, .fs (Z1 es), .fs (bss ps')], lv (rws before), lv (rws after)] = some (bv true) := by
 rw [Py];generalize hG : (D 0).new 0 [S.int Ly 0, .fs (Z1 es), .fs (bss ps')] = G;have gn : G.n = 1 := by rw [<- hG]; simp
 have gg : G.g 0 = .rw 0 [S.int Ly 0, .fs (Z1 es), .fs (bss ps')] := by rw [<- hG]; exact QI (D 0) _ _
 rw [show iv Ly 0 = iv Ly ((0 : Nat) : Int) from rfl, Q1Y (before := before) hes ha (by omega) gg es 0 ps ps' false rfl w, ob, Qc]
 simp only [gx0, gx1, ob, Q3, QY, QW];rw [show JC 2 (pv 0 0) = some (pv 0 2) from rfl, ob, jk (by omega) gg rfl, Qa Xc (Qa Xc QE), ob, Z2, pc (z7 hl hr) rfl]
 simp only [Q3, QW];rw [Q1, if_pos rfl, Q1, if_pos (by
  cases es with
  | nil => exact absurd rfl hne
  | cons e es => rfl)]
theorem run_FnDeletes (xs : List V) (hx : RD PR [T.S_uint8] xs) : ∃ h', call Ev Fn.ME xs (D 0) = some (bv true, h') := by
 match xs, hx with
 | [x0], ⟨h0, _⟩ =>
  obtain ⟨l, rfl, hl⟩ := wW h0;refine Q23 ?_;rw [BB, pc Q0C rfl];simp only [Q3, QW];rw [Q1]
  by_cases hq : (l.length : Int) > 1048576
  · rw [if_pos (by simpa using hq)]
  rw [if_neg (by simpa using hq)]
  obtain ⟨ps, t, k, e, hps, hpl⟩ := BE (l := l) (by omega)
  have hlim : ps.length <= lim := by unfold lim; omega
  have hmax : ps.length <= maxLen := by unfold maxLen; omega
  have hrl : ∀ l ∈ ps, l.length <= lim := fun l hl => by have := hpl l hl; unfold lim; omega
  rw [e];simp only [ob, Za, Zc, gx0, gx1, Q2, QY, ln0, ln1, Hw, HA, if_true];rw [PF hlim hrl];simp only [ob, Zb, gx0, gx1, Q2, QY, ln0, ln1, Hw, HA, if_true];rw [Q1]
  by_cases hc : Ys ps t k = 0
  case neg =>
   rw [if_pos (by simpa using hc), NO hlim hrl]
   simp only [ob, Zb, gx0, gx1, Q2, QY, ln0, ln1, Hw, HA, if_true, Qu];simp
  rw [if_neg (by simp [hc])]
  have hv : ZF ps = 0 := by
   by_cases hv : ZF ps = 0
   · exact hv
   · unfold Ys at hc; rw [if_pos hv] at hc; exact absurd hc hv
  have hkey : (inB t 0 3 && inB k 1 99) = true := by
   cases hb : (inB t 0 3 && inB k 1 99) with
   | true => rfl
   | false => unfold Ys at hc; rw [if_neg (by simp [hv]), if_pos hb] at hc; cases hc
  obtain ⟨z, hz⟩ : ∃ z, (Zg ps).find? (fun x => isK t k x.c.row) = some z := by
   cases hz : (Zg ps).find? (fun x => isK t k x.c.row) with
   | some z => exact ⟨z, rfl⟩
   | none =>
    unfold Ys at hc;rw [if_neg (by simp [hv]), if_neg (by rw [hkey]; simp), Vj hv, hz] at hc
    cases hc
  have hzm := ER hz;have hd : deM ps t k = (dlE ps z, dlP ps z) := by
   unfold deM;rw [if_pos hc, hz]
  have ok := v7 hv;obtain ⟨P1, P2, ok1⟩ := vk ok hzm;obtain ⟨ca, hst, ok2⟩ := ok.dl hzm;obtain ⟨v1, r1⟩ := qe hv hz ok1 P1;obtain ⟨v2, r2⟩ := qe hv hz ok2 P2;obtain ⟨z1, z2, z3, z4⟩ := Q1a hv hzm;have hrl2 : ∀ l ∈ dlP ps z, l.length <= lim := fun l hl => by have := z4 l hl; unfold lim; omega
  have hmax2 : (dlP ps z).length <= maxLen := by unfold maxLen; omega
  have hri := xF ps;have hri2 := xF (dlP ps z);have hne : dlE ps z ≠ [] := by unfold dlE Vv; split <;> simp
  have way : Way (riL (dlP ps z)) ps (dlE ps z) (dlP ps z) := by
   have l64 : (Z4 (dlL ps z) z.s).length = 64 := by rw [KK]; exact ca.len.1
   have hlt := (HF.1 ca.p).1;have e1 : riL (ps.set z.p (Z4 (dlL ps z) z.s)) = riL (dlP ps z) := by rw [r1, r2]
   unfold dlE Vv
   by_cases hf : (z.c.flag == 1) = true
   ·obtain ⟨q1, q2, cb⟩ := hst hf
    rw [if_pos hf];have hlt2 := (HF.1 cb.p).1;have eP : dlP ps z = (ps.set z.p (Z4 (dlL ps z) z.s)).set z.c.page.toNat (Z4 (Ms ps z) z.c.slot.toNat) := by
     unfold dlP Ng; rw [if_pos hf]
    refine ⟨ok.n, hrl, l64, z.p, hlt, rfl, v1, e1, ok1.n, fun l hl => by have := (Qv (ok1.p l hl)).1; unfold lim; omega, by rw [KK]; exact cb.len.1, z.c.page.toNat, hlt2, rfl, ?_, ?_, ?_⟩
    · rw [<- eP]; exact v2
    · rw [<- eP]
    · exact eP.symm
   ·rw [if_neg hf]
    have eP : dlP ps z = ps.set z.p (Z4 (dlL ps z) z.s) := by
     unfold dlP Ng; rw [if_neg hf]
    exact ⟨ok.n, hrl, l64, z.p, hlt, rfl, v1, e1, eP.symm⟩
  rw [hd, hc, Vd hmax, hv];simp only [ob, Zb, gx0, gx1, Q2, QY, ln0, ln1, Hw, HA, if_true];rw [Vd hmax2, v2];simp only [ob, Zb, gx0, gx1, Q2, QY, ln0, ln1, Hw, HA, if_true];rw [Q1, if_pos (by rfl)]
  have hf4 : Ys (dlP ps z) t k = 4 := by
   unfold Ys;rw [if_neg (by simp [v2]), if_neg (by rw [hkey]; simp), if_neg]
   intro hh;obtain ⟨x, hx⟩ := Option.isSome_iff_exists.1 hh;have hxm := ER hx;have hxk : isK t k x.r = true := by simpa using List.find?_some hx
   have : x.r ∈ riL (dlP ps z) := by unfold riL; exact List.mem_map.2 ⟨x, hxm, rfl⟩
   rw [r2, FJ, hxk] at this
   cases this.2
  rw [pc (yu hmax2) rfl, hf4];unfold yd;simp only [Zb, gx0, gx1, ob, Q2, Z8, ln0, ln1, Hw, HA, if_true, Qu];unfold Jn.Ui;rw [Q1, if_pos (by rfl), Q0B (by omega)]
  simp only [ob, Q3, QY, Qu];rw [<- r2, pc (BL (by omega)) rfl]
  simp only [Q3, QW, Qu];unfold Jn.Uj;rw [Q1, if_pos rfl, pc (Q0A (before := riL ps) (by omega) hne (by omega) (by omega) hrl2 way) rfl]
  simp only [Q3, QW, Qu];rw [Q1, if_pos rfl];have hpos : 0 < (dlE ps z).length := List.length_pos_iff.2 hne;simp [hpos]
end Vm
