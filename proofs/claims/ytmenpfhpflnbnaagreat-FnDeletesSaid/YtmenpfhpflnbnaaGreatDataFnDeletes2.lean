/-
  What both ways of the law come to, and that the law returns true.
-/
import Derived.Sort.LotD6
import Derived.Sort.LotD7
import Derived.Sort.LotB
import Derived.Sort.LotD3
import Derived.Sort.LotD5
import Derived.Sort.LotD4
import Derived.Sort.LotA
import Derived.Sort.LotC
import Derived.Test.YtmenpfhpflnbnaaGreatTyp
import Derived.Test.YtmenpfhpflnbnaaGreatEqs
import Derived.Test.YtmenpfhpflnbnaaGreatVmR
import Derived.Test.YtmenpfhpflnbnaaGreatVmN
import Derived.Test.YtmenpfhpflnbnaaGreatDataFnDeletes1
set_option linter.unusedVariables false
set_option maxRecDepth 100000
set_option linter.unusedSimpArgs false
set_option linter.unusedSectionVars false
set_option maxHeartbeats 1000000
open Bool renaming and_eq_true->HE,eq_false_or_eq_true->EO,eq_iff_iff->Cz,false_or->EM,or_eq_false_iff->D2
open Classical renaming byContradiction->Db,not_not->DE
open Int renaming toNat_natCast->HQ
open List renaming all_cons->HG,any_cons->AD,append_assoc->FA,drop_eq_getElem_cons->Dl,drop_of_length_le->ET,drop_set_of_lt->CH,drop_zero->HX,eq_nil_of_length_eq_zero->FS,filter_cons->FQ,find?_eq_none->Dd,getD->FT,getElem?_append_left->HZ,getElem?_append_right->FM,getElem?_drop->FO,getElem?_eq_getElem->HI,getElem?_eq_some_iff->HF,getElem?_set_ne->EN,getElem?_take->FG,getElem?_take_of_lt->DX,length_append->HO,length_cons->HM,length_drop->EK,length_filter_le->AB,length_map->DG,length_set->HN,length_singleton->CE,length_take->HV,map->FK,map_append->Dm,map_cons->HS,mem_append->HK,mem_cons->HH,mem_map->HR,mem_of_getElem?->HU,mem_singleton->HT,nil_append->EI,nodup_cons->DH,not_mem_nil->EL,pairwise_append->DZ,set_append_left->OQ,set_comm->CI,set_getElem_self->OO,take_of_length_le->Fz,take_zero->CG
open Nat renaming add_zero->DI,le_refl->Hx,le_trans->HL,lt_of_lt_of_le->HJ,min_eq_left->Ey,reduceAdd->HA,zero_add->Hw
open Option renaming bind_some->HC,map_eq_none_iff->Aw
open UInt8 renaming ofNat->HB
open Go.IntKind renaming i64->Ly,u8->LA
namespace Vm
open Go Go.Sort
theorem jT (a b : List SpotD) : Xr (a ++ b) = Xr a ++ Xr b := by simp [Xr]
theorem VI (a b : List SpotD) : QF (a ++ b) = QF a ++ QF b := by simp [QF]
theorem yz (a b : List SpotD) : QZ (a ++ b) = QZ a ++ QZ b := by simp [QZ]
theorem Q0q {x : SpotD} {a : List SpotD} (h : x.c.flag = 0) : Xr (x :: a) = N3 x :: Xr a := by simp [Xr, h]
theorem xE {x : SpotD} {a : List SpotD} (h : x.c.flag ≠ 0) : Xr (x :: a) = Xr a := by simp [Xr, FQ, h]
theorem Ym {x : SpotD} {a : List SpotD} (h : x.c.flag = 1) : QF (x :: a) = UE x :: QF a := by simp [QF, h]
theorem Jq {x : SpotD} {a : List SpotD} (h : x.c.flag ≠ 1) : QF (x :: a) = QF a := by simp [QF, FQ, h]
theorem Q0J {x : SpotD} {a : List SpotD} (h : x.c.flag = 2) : QZ (x :: a) = x :: QZ a := by simp [QZ, h]
theorem xP {x : SpotD} {a : List SpotD} (h : x.c.flag ≠ 2) : QZ (x :: a) = QZ a := by simp [QZ, FQ, h]
theorem Ls.bel {h : H} {y : S} {l : List SeenD} {o : Option Nat} (w : Ls h y l o) : QR h.n y = true := by
 cases o with
 | none => obtain ⟨rfl, rfl⟩ := w; rfl
 | some b => obtain ⟨rfl, h2, _⟩ := w; simpa [QR] using h2
structure StV (n0 : Nat) (h : H) (y1 y2 : S) (b : Nat) (l1 l2 : List SeenD) (ms : List SpotD) (o1 o2 : Option Nat) : Prop where
 w1 : Ls h y1 l1 o1
 w2 : Ls h y2 l2 o2
 hb : b < h.n
 hg : h.g b = .mp (mvE ms)
 n1 : o1 ≠ some b
 n2 : o2 ≠ some b
 n12 : ∀ c, o1 = some c -> o2 ≠ some c
 g1 : ∀ c, o1 = some c -> n0 <= c
 g2 : ∀ c, o2 = some c -> n0 <= c
 le : n0 <= h.n
theorem StV.frame {n0 : Nat} {h h' : H} {y1 y2 : S} {b : Nat} {l1 l2 : List SeenD} {ms : List SpotD} {o1 o2 : Option Nat} (w : StV n0 h y1 y2 b l1 l2 ms o1 o2) (hn : h.n <= h'.n) (hf : ∀ c, c < h.n -> h'.g c = h.g c) : StV n0 h' y1 y2 b l1 l2 ms o1 o2 :=
  ⟨w.w1.frame fun c hc => by
      have := w.w1; subst hc; have := this.lt; exact ⟨by omega, hf c this⟩,
   w.w2.frame fun c hc => by
      have := w.w2; subst hc; have := this.lt; exact ⟨by omega, hf c this⟩,
   HJ w.hb hn, (hf b w.hb).trans w.hg, w.n1, w.n2, w.n12, w.g1, w.g2, HL w.le hn⟩
theorem StV.kb {n0 : Nat} {h h' : H} {y1 y2 : S} {b : Nat} {l1 l2 : List SeenD} {ms ms' : List SpotD} {o1 o2 : Option Nat} (w : StV n0 h y1 y2 b l1 l2 ms o1 o2) (k : Kb b h h') (hg : h'.g b = .mp (mvE ms')) : StV n0 h' y1 y2 b l1 l2 ms' o1 o2 :=
  ⟨w.w1.frame fun c hc => by
      have := w.w1; have hne := w.n1; subst hc; have := this.lt;exact ⟨by rw [k.n]; omega, (k.o c this (fun e => hne (by rw [e]))).1⟩,
   w.w2.frame fun c hc => by
      have := w.w2; have hne := w.n2; subst hc; have := this.lt;exact ⟨by rw [k.n]; omega, (k.o c this (fun e => hne (by rw [e]))).1⟩,
   by rw [k.n]; exact w.hb, hg, w.n1, w.n2, w.n12, w.g1, w.g2, by rw [k.n]; exact w.le⟩
theorem StV.app1 {n0 : Nat} {h h' : H} {y1 y2 : S} {b e : Nat} {l1 l2 l1' : List SeenD} {ms : List SpotD} {o1 o2 : Option Nat} (w : StV n0 h y1 y2 b l1 l2 ms o1 o2) {y1' : S} (w' : Ls h' y1' l1' (some e)) (he : h.n <= e) (hn : h.n <= h'.n) (hf : ∀ c, c < h.n -> o1 ≠ some c -> h'.g c = h.g c) : StV n0 h' y1' y2 b l1' l2 ms (some e) o2 :=
  ⟨w', w.w2.frame fun c hc => by
      have := w.w2; have hne := w.n12 c; subst hc; have := this.lt;exact ⟨by omega, hf c this (fun e => hne e rfl)⟩,
   HJ w.hb hn, (hf b w.hb w.n1).trans w.hg, fun e' => by cases e'; have := w.hb; omega, w.n2, fun c hc hc2 => by
      have := w.w2; subst hc2; have := this.lt; cases hc; omega, fun c hc => by cases hc; have := w.le; omega, w.g2, HL w.le hn⟩
theorem StV.app2 {n0 : Nat} {h h' : H} {y1 y2 : S} {b e : Nat} {l1 l2 l2' : List SeenD} {ms : List SpotD} {o1 o2 : Option Nat} (w : StV n0 h y1 y2 b l1 l2 ms o1 o2) {y2' : S} (w' : Ls h' y2' l2' (some e)) (he : h.n <= e) (hn : h.n <= h'.n) (hf : ∀ c, c < h.n -> o2 ≠ some c -> h'.g c = h.g c) : StV n0 h' y1 y2' b l1 l2' ms o1 (some e) :=
  ⟨w.w1.frame fun c hc => by
      have := w.w1; have hne := w.n12 c hc; subst hc; have := this.lt;exact ⟨by omega, hf c this (fun e => hne e)⟩,
   w', HJ w.hb hn, (hf b w.hb w.n2).trans w.hg, w.n1, fun e' => by cases e'; have := w.hb; omega, fun c hc hc2 => by
      have := w.w1; subst hc; have := this.lt; cases hc2; omega, w.g1, fun c hc => by cases hc; have := w.le; omega, HL w.le hn⟩
theorem Q0I {ms : List SpotD} {p s : Nat} (h : ∀ x ∈ ms, x.p < p \/ (x.p = p /\ x.s < s)) : mvF ms p s = none := by
 unfold mvF;rw [Aw, Dd];intro x hx;have := h x hx;simp; omega
theorem Gi {h : H} {zs cs : List S} {c : Nat} (hc : c < h.n) : (Zl h zs cs).g c = h.g c := ((ZE h zs cs).2 c hc).1
abbrev z8 : List S := [.int Ly 0, .int Ly 0, .int Ly 0, .int Ly 0, .int Ly 0, .int Ly 0, .int Ly 0, .str (⟨#[]⟩)]
theorem vX {P : List (List S)} {m : Int} {l : List UInt8} {p b n0 : Nat} (hp : QH l = 0) (hc : ∀ s : Nat, Z7 l s = true -> (QS (Qm l s)).code = 0) :
  ∀ (k s : Nat) (h : H) (y1 y2 : S) (l1 l2 : List SeenD) (ms : List SpotD) (o1 o2 : Option Nat), s + k = cnt l -> StV n0 h y1 y2 b l1 l2 ms o1 o2 -> l1.length + k <= 1000 -> l2.length + k <= 1000 -> (∀ x ∈ ms, x.p < p \/ (x.p = p /\ x.s < s)) ->
  ∃ h' y1' y2' o1' o2', Lp.QM 2 [.s y1, .s y2, .s (.mp (some b)), iv Ly p, lv (bys l), lv P, iv Ly m, iv Ly p, iv Ly (bt l 0), iv Ly s] h = some (.done [.s y1', .s y2', .s (.mp (some b)), lv P, iv Ly m, iv Ly p] h') /\
   StV n0 h' y1' y2' b (l1 ++ Xr (QQ p l s k)) (l2 ++ QF (QQ p l s k)) (ms ++ QZ (QQ p l s k)) o1' o2' := by
 obtain ⟨h64, ⟨q1, q2, q3⟩, _⟩ := Qv hp;have hcn := Xd l;intro k
 induction k with
 | zero =>
  intro s h y1 y2 l1 l2 ms o1 o2 hs w _ _ _;rw [Mc, Q1, if_neg (by simp; omega), Q6]
  exact ⟨h, y1, y2, o1, o2, rfl, by simpa [QQ, Xr, QF, QZ] using w⟩
 | succ k ih =>
  intro s h y1 y2 l1 l2 ms o1 o2 hs w hl1 hl2 hm;rw [Mc, Q1, if_pos (by simp; omega), pc (NQ hp) rfl]
  simp only [Q3, QW, Q1];rw [w64 (n := (s : Int) + 1) (by omega) (by omega), show (s : Int) + 1 = ((s + 1 : Nat) : Int) from by omega]
  by_cases hh : Z7 l (s : Int) = true
  case neg =>
   have hf : Z7 l (s : Int) = false := by simpa using hh
   rw [hf, if_pos (by simp), Q6]
   have e : QQ p l s (k + 1) = QQ p l (s + 1) k := by simp only [QQ]; rw [if_neg hh]
   rw [e];exact ih (s + 1) h y1 y2 l1 l2 ms o1 o2 (by omega) w (by omega) (by omega) (fun x hx => by have := hm x hx; omega)
  rw [hh, if_neg (by simp), qW hp (by omega)]
  have hcl : (Qm l s).length <= lim := by have := WL l s; unfold lim; omega
  simp only [ob, Q3, QY];rw [pc (NR hcl) (by simp)]
  have e : QQ p l s (k + 1) = ⟨p, s, QS (Qm l s)⟩ :: QQ p l (s + 1) k := by simp only [QQ]; rw [if_pos hh]
  rw [e];have h0 := hc s hh;have hfl := NA _ h0;generalize QS (Qm l s) = c at h0 hfl;simp only [Zb, gx0, gx1, ob, Q2, Z8, ln0, ln1, Hw, HA, if_true];rw [K4 (z := 8) rfl rfl, Xg (o := 0) (x := .int Ly c.code) rfl];simp only [ob, Q2, Q1];rw [if_neg (by simp [h0]), Xg (o := 1) (x := .int Ly c.flag) rfl]
  simp only [ob, Q2, Q1];have hkx := ZE h z8 c.cs;have wX := w.frame (h' := Zl h z8 c.cs) hkx.1 (fun c hc => Gi hc)
  by_cases f0 : c.flag = 0
  ·rw [if_pos (by simpa using f0), YH (r := c.row.cs) (by simp) rfl]
   simp only [gx0, gx1, ob, Q2, Z8, ln0, ln1, Hw, HA, if_true];obtain ⟨h', e1, w1, n1, f1⟩ := wX.w1.app (x := N3 ⟨p, s, c⟩) (by unfold lim; omega)
   have e1' : Zm 9 ((Zl h z8 c.cs).new 9 [.int Ly c.row.tab, .int Ly c.row.key, .int Ly c.row.val, .str c.row.text, .int Ly p, .int Ly s, .bool false, .int Ly p, .int Ly s]) (.s y1) (sv (Zl h z8 c.cs).n 0 1) = _ := e1;rw [e1', ob];dsimp only;rw [Gy (by simp [ZM, QR, XK]; omega)]
   have ws := wX.app1 w1 (by omega) (by omega) f1
   obtain ⟨h2, a1, a2, a3, a4, e2, w2⟩ := ih (s + 1) h' _ y2 _ l2 ms _ o2 (by omega) ws (by simp; omega) (by omega) (fun x hx => by have := hm x hx; omega)
   refine ⟨h2, a1, a2, a3, a4, e2, ?_⟩;rw [Q0q f0, Jq (by rw [f0]; decide), xP (by rw [f0]; decide)]
   simpa using w2
  rw [if_neg (by simpa using f0)]
  by_cases f2 : c.flag = 2
  ·rw [if_pos (by simpa using f2), YH (r := c.row.cs) (by simp) rfl]
   simp only [gx0, gx1, ob, Q2, Z8, ln0, ln1, Hw, HA, if_true];have hu := Q1n (h := Zl h z8 c.cs) (x := ⟨p, s, c⟩) wX.hb wX.hg (Q0I hm);have hu' : Gv Ev 109 (Zl h z8 c.cs) (.s (.mp (some b))) (.agg [.int Ly p, .int Ly s]) (.agg [.int Ly c.row.tab, .int Ly c.row.key, .int Ly c.row.val, .str c.row.text]) = _ := hu;rw [hu', ob];have tm := fun lst hl => Q0g (h := h) (h' := (Zl h z8 c.cs).put b (.mp (mvE (ms ++ [⟨p, s, c⟩])))) (l := lst) (by rw [Qq, XK]; omega) hl w.hb (Z9 _ _ _) (fun c' hc' hcb => by
    have h1 := hkx.2 c' hc';refine ⟨by rw [QG hcb]; exact h1.1, ?_⟩
    simp only [H.put, if_neg hcb]; exact h1.2)
   obtain ⟨t1, t2⟩ := tm [.s y1, .s y2, .s (.mp (some b)), iv Ly p, lv (bys l), lv P, iv Ly m, iv Ly p, iv Ly (bt l 0), iv Ly ((s + 1 : Nat) : Int)] (by
    have b3 := w.hb;rw [HG, HG, show ZM h.n (.s y1) = true from w.w1.bel, show ZM h.n (.s y2) = true from w.w2.bel]
    simp [ZM, QR, b3])
   obtain ⟨h2, a1, a2, a3, a4, e2, w2⟩ := ih (s + 1) _ y1 y2 l1 l2 (ms ++ [⟨p, s, c⟩]) o1 o2 (by omega) (w.kb t1 t2) (by omega) (by omega) (fun x hx => by
    rcases HK.1 hx with hx | hx
    · have := hm x hx; omega
    · rw [HT.1 hx]; exact .inr ⟨rfl, by simp⟩)
   refine ⟨h2, a1, a2, a3, a4, e2, ?_⟩;rw [xE (by rw [f2]; decide), Jq (by rw [f2]; decide), Q0J f2]
   simpa using w2
  have f1 : c.flag = 1 := by omega
  rw [if_neg (by simpa using f2), Xg (o := 2) (x := .int Ly c.page) rfl]
  simp only [ob, Q2];rw [Xg (o := 3) (x := .int Ly c.slot) rfl];simp only [ob, Q2];obtain ⟨h', e1, w1, n1, f1'⟩ := wX.w2.app (x := UE ⟨p, s, c⟩) (by unfold lim; omega)
  have e1' : Zm 9 ((Zl h z8 c.cs).new 9 [.int Ly 0, .int Ly 0, .int Ly 0, .str (⟨#[]⟩), .int Ly p, .int Ly s, .bool true, .int Ly c.page, .int Ly c.slot]) (.s y2) (sv (Zl h z8 c.cs).n 0 1) = _ := e1;rw [e1', ob];dsimp only;rw [Gy (by simp [ZM, QR, XK]; omega)]
  have ws := wX.app2 w1 (by omega) (by omega) f1'
  obtain ⟨h2, a1, a2, a3, a4, e2, w2⟩ := ih (s + 1) h' y1 _ l1 _ ms o1 _ (by omega) ws (by omega) (by simp; omega) (fun x hx => by have := hm x hx; omega)
  refine ⟨h2, a1, a2, a3, a4, e2, ?_⟩;rw [xE (by rw [f1]; decide), Ym f1, xP (by rw [f1]; decide)]
  simpa using w2
theorem G4 (p : Nat) (l : List UInt8) : ∀ (k s : Nat), (QQ p l s k).length <= k
 | 0, s => by simp [QQ]
 | k + 1, s => by
  have := G4 p l k (s + 1);simp only [QQ]
  split
  · simp; omega
  · omega
theorem TU (sp : List SpotD) : (Xr sp).length <= sp.length := by
 unfold Xr; rw [DG]; exact AB _ _
theorem VH (sp : List SpotD) : (QF sp).length <= sp.length := by
 unfold QF; rw [DG]; exact AB _ _
end Vm
namespace Vm
open Go
theorem uW {P : Program} {m : Nat} {e : TypeId} (he : P.underlying e = some (.int LA)) : ∀ rows : List (List S), (∀ r ∈ rows, r.length = P.cellsOf e /\ Rp P m e r) -> ∃ l : List UInt8, rows = bys l
 | [], _ => ⟨[], rfl⟩
 | r :: rows, hr => by
  obtain ⟨l, h1⟩ := uW he rows fun r hm => hr r (by simp [hm])
  obtain ⟨n, h3, h4⟩ := (hr r (by simp)).2.int he
  have hb := wf8 h4;refine ⟨HB n.toNat :: l, ?_⟩;have : QA (HB n.toNat) = .int LA n := by
   unfold QA
   congr 1
   simp;omega
  rw [h1, h3];simp only [bys, HS, this]
theorem Q2A {P : Program} {n : Nat} {t e : TypeId} {s : S} (ht : P.underlying t = some (.slice e)) (he : P.underlying e = some (.int LA)) (hr : Rp P n t [s]) : ∃ l, s = .fs (bys l) /\ l.length <= maxLen := by
 obtain ⟨m, rows, h1, h2, h3⟩ := hr.slice ht;obtain ⟨l, rfl⟩ := uW he rows h3
 cases h1
 exact ⟨l, rfl, by simpa using h2⟩
theorem vr {n : Nat} {s : S} (hr : Rp PR n T.S_uint8 [s]) : ∃ l, s = .fs (bys l) /\ l.length <= maxLen := Q2A BJ jK hr
theorem wW {x : V} (hr : Mi PR T.S_uint8 x) : ∃ l, x = lv (bys l) /\ l.length <= maxLen := by
 obtain ⟨s, n, rfl, h1⟩ := hr.slice BJ;obtain ⟨l, rfl, h2⟩ := vr h1;exact ⟨l, rfl, h2⟩
end Vm
namespace Vm
open Go
structure RunD where
 at_ : Int
 l : List UInt8
abbrev RunD.cs (r : RunD) : List S := [.int Ly r.at_, .fs (bys r.l)]
def Z1 (rs : List RunD) : List (List S) := rs.map RunD.cs
@[simp] theorem GC (rs : List RunD) : (Z1 rs).length = rs.length := by simp [Z1]
theorem vq {rs : List RunD} {i : Nat} {r : RunD} (h : rs[i]? = some r) : (Z1 rs)[i]? = some r.cs := by simp [Z1, h]
section
variable {R : Type}
theorem zj {rs : List RunD} {i : Nat} {r : RunD} {k : List S -> Option R} (h : rs[i]? = some r) : QB 2 (Z1 rs) (i : Int) k = k r.cs := UZ (vq h) rfl
end
theorem qF {r : RunD} : JP 2 r.cs 0 = some r.cs := Uf rfl
end Vm
namespace Vm
open Go
structure Sep (Q : H -> Prop) (lo hi : Nat) (h : H) : Prop where
 top : hi <= h.n
 q : ∀ h' : H, hi <= h'.n -> (∀ b, lo <= b -> b < hi -> h'.g b = h.g b) -> Q h'
section
variable {Q : H -> Prop} {lo hi : Nat} {h h' : H}
theorem Sep.now (w : Sep Q lo hi h) : Q h := w.q h w.top fun _ _ _ => rfl
end
end Vm
namespace Vm
open Go
def Sc : S -> Prop
 | .int _ _ => True
 | .bool _ => True
 | .str _ => True
 | _ => False
theorem Sc.cl {s : S} (h : Sc s) : Cl s := by cases s <;> first | exact h.elim | exact B8 | exact uz | exact zG
theorem Sc.sca {s : S} (h : Sc s) : ZL s = true := by cases s <;> first | exact h.elim | rfl
theorem Sc.no {s : S} (h : Sc s) : isNo s = false := by cases s <;> first | exact h.elim | rfl
inductive RepL (R : S -> S -> List Nat -> Prop) : List S -> List S -> List Nat -> Prop
 | nil : RepL R [] [] []
 | cons {y f : S} {bs : List Nat} {ys fs : List S} {bss : List Nat} : R y f bs -> RepL R ys fs bss -> RepL R (y :: ys) (f :: fs) (bs ++ bss)
def Rep (h : H) : Nat -> S -> S -> List Nat -> Prop
 | 0 => fun y f bs => (Sc y /\ f = y \/ y = .sl none 0 /\ f = .fs []) /\ bs = []
 | d + 1 => fun y f bs => ((Sc y /\ f = y \/ y = .sl none 0 /\ f = .fs []) /\ bs = []) \/ ∃ b z cs rows bss, y = .sl (some (b, 0)) rows.length /\ f = .fs rows /\ bs = b :: bss /\ b < h.n /\ 0 < z /\ h.g b = .rw z cs /\ (∀ r ∈ rows, r.length = z) /\ RepL (Rep h d) cs rows.flatten bss
section
variable {R R' : S -> S -> List Nat -> Prop}
theorem RepL.mono {cs fs : List S} {bss : List Nat} (w : RepL R cs fs bss) (hr : ∀ y f bs, (∀ b ∈ bs, b ∈ bss) -> R y f bs -> R' y f bs) : RepL R' cs fs bss := by
 induction w with
 | nil => exact .nil
 | @cons y f bs ys fs bss h1 h2 ih => exact .cons (hr _ _ _ (fun b hb => by simp [hb]) h1) (ih fun y f bs hb => hr y f bs fun b hh => by simp [hb b hh])
theorem RepL.len {cs fs : List S} {bss : List Nat} (w : RepL R cs fs bss) : cs.length = fs.length := by
 induction w with
 | nil => rfl
 | cons h1 h2 ih => simp [ih]
theorem RepL.append {cs fs cs' fs' : List S} {bss bss' : List Nat} (w : RepL R cs fs bss) (w' : RepL R cs' fs' bss') : RepL R (cs ++ cs') (fs ++ fs') (bss ++ bss') := by
 induction w with
 | nil => exact w'
 | cons h1 h2 ih => rw [List.cons_append, List.cons_append, FA]; exact .cons h1 ih
theorem RepL.split : ∀ {fs fs' : List S} {cs : List S} {bss : List Nat}, RepL R cs (fs ++ fs') bss -> ∃ a a' b b', cs = a ++ a' /\ bss = b ++ b' /\ RepL R a fs b /\ RepL R a' fs' b'
 | [], fs', cs, bss, w => ⟨[], cs, [], bss, rfl, rfl, .nil, w⟩
 | f :: fs, fs', cs, bss, w => by
  cases w with
  | @cons y f bs ys fs bss h1 h2 =>
   obtain ⟨a, a', b, b', rfl, rfl, w1, w2⟩ := RepL.split h2;exact ⟨y :: a, a', bs ++ b, b', rfl, by simp, .cons h1 w1, w2⟩
end
section
variable {h h' : H}
theorem Rep.sc {d : Nat} {s : S} (hs : Sc s) : Rep h d s s [] := by
 cases d with
 | zero => exact ⟨.inl ⟨hs, rfl⟩, rfl⟩
 | succ d => exact .inl ⟨.inl ⟨hs, rfl⟩, rfl⟩
theorem Rep.nil {d : Nat} : Rep h d (.sl none 0) (.fs []) [] := by
 cases d with
 | zero => exact ⟨.inr ⟨rfl, rfl⟩, rfl⟩
 | succ d => exact .inl ⟨.inr ⟨rfl, rfl⟩, rfl⟩
theorem Rep.sl {d b z : Nat} {cs : List S} {rows : List (List S)} {bss : List Nat} (hb : b < h.n) (hz : 0 < z) (hg : h.g b = .rw z cs) (hr : ∀ r ∈ rows, r.length = z) (w : RepL (Rep h d) cs rows.flatten bss) : Rep h (d + 1) (.sl (some (b, 0)) rows.length) (.fs rows) (b :: bss) :=
 .inr ⟨b, z, cs, rows, bss, rfl, rfl, rfl, hb, hz, hg, hr, w⟩
theorem RepL.sc {d : Nat} : ∀ {l : List S}, (∀ s ∈ l, Sc s) -> RepL (Rep h d) l l []
 | [], _ => .nil
 | s :: l, hl => RepL.cons (bs := []) (Rep.sc (hl s (by simp))) (RepL.sc fun s hs => hl s (by simp [hs]))
theorem Rep.of_sc {d : Nat} {y f : S} {bs : List Nat} (w : Rep h d y f bs) (hf : Sc f) : y = f /\ bs = [] := by
 cases d with
 | zero =>
  obtain ⟨⟨h1, rfl⟩ | ⟨rfl, rfl⟩, rfl⟩ := w
  · exact ⟨rfl, rfl⟩
  · exact hf.elim
 | succ d =>
  obtain ⟨⟨h1, rfl⟩ | ⟨rfl, rfl⟩, rfl⟩ | ⟨b, z, cs, rows, bss, rfl, rfl, rfl, h1⟩ := w
  · exact ⟨rfl, rfl⟩
  · exact hf.elim
  · exact hf.elim
theorem RepL.of_sc {d : Nat} : ∀ {cs fs : List S} {bss : List Nat}, RepL (Rep h d) cs fs bss -> (∀ s ∈ fs, Sc s) -> cs = fs /\ bss = []
 | _, _, _, .nil, _ => ⟨rfl, rfl⟩
 | _, _, _, .cons h1 h2, hs => by
  obtain ⟨rfl, rfl⟩ := Rep.of_sc h1 (hs _ (by simp))
  obtain ⟨rfl, rfl⟩ := RepL.of_sc h2 fun s hs' => hs s (by simp [hs'])
  exact ⟨rfl, rfl⟩
theorem Rep.frame : ∀ {d : Nat} {y f : S} {bs : List Nat}, Rep h d y f bs -> (∀ b ∈ bs, b < h'.n /\ h'.g b = h.g b) -> Rep h' d y f bs
 | 0, y, f, bs, w, _ => w
 | d + 1, y, f, bs, w, hb => by
  rcases w with w | ⟨b, z, cs, rows, bss, rfl, rfl, rfl, h1, h2, h3, h4, h5⟩
  · exact .inl w
  ·have := hb b (by simp)
   exact .inr ⟨b, z, cs, rows, bss, rfl, rfl, rfl, this.1, h2, this.2.trans h3, h4, h5.mono fun y f bs hs w => Rep.frame w fun b' hb' => hb b' (by simp [hs b' hb'])⟩
theorem RepL.frame {d : Nat} {cs fs : List S} {bss : List Nat} (w : RepL (Rep h d) cs fs bss) (hb : ∀ b ∈ bss, b < h'.n /\ h'.g b = h.g b) : RepL (Rep h' d) cs fs bss :=
 w.mono fun y f bs hs w => w.frame fun b hbb => hb b (hs b hbb)
theorem Rep.lift : ∀ {d : Nat} {y f : S} {bs : List Nat}, Rep h d y f bs -> Rep h (d + 1) y f bs
 | 0, y, f, bs, w => .inl w
 | d + 1, y, f, bs, w => by
  rcases w with w | ⟨b, z, cs, rows, bss, rfl, rfl, rfl, h1, h2, h3, h4, h5⟩
  · exact .inl w
  · exact .inr ⟨b, z, cs, rows, bss, rfl, rfl, rfl, h1, h2, h3, h4, h5.mono fun y f bs hs w => w.lift⟩
theorem Rep.lifts {d k : Nat} {y f : S} {bs : List Nat} (w : Rep h d y f bs) (hd : d <= k) : Rep h k y f bs := by
 obtain ⟨j, rfl⟩ := Nat.exists_eq_add_of_le hd
 induction j with
 | zero => exact w
 | succ j ih => exact (ih (by omega)).lift
theorem Rep.lt : ∀ {d : Nat} {y f : S} {bs : List Nat}, Rep h d y f bs -> ∀ b ∈ bs, b < h.n
 | 0, y, f, bs, w => by obtain ⟨_, rfl⟩ := w; simp
 | d + 1, y, f, bs, w => by
  rcases w with ⟨_, rfl⟩ | ⟨b, z, cs, rows, bss, rfl, rfl, rfl, h1, h2, h3, h4, h5⟩
  · simp
  ·intro c hc
   rcases HH.1 hc with rfl | hc
   · exact h1
   ·clear h3 h4
    generalize rows.flatten = fl at h5
    induction h5 with
    | nil => simp at hc
    | cons w1 w2 ih =>
     rcases HK.1 hc with hc | hc
     · exact w1.lt _ hc
     · exact ih (by simp [hc]) hc
theorem RepL.lt {d : Nat} {cs fs : List S} {bss : List Nat} (w : RepL (Rep h d) cs fs bss) : ∀ b ∈ bss, b < h.n := by
 induction w with
 | nil => simp
 | cons w1 w2 ih =>
  intro c hc
  rcases HK.1 hc with hc | hc
  · exact w1.lt _ hc
  · exact ih _ hc
theorem Rep.sca {d : Nat} {y f : S} {bs : List Nat} (w : Rep h d y f bs) : ZL y = true := by
 cases d with
 | zero =>
  obtain ⟨⟨h1, rfl⟩ | ⟨rfl, rfl⟩, rfl⟩ := w
  · exact h1.sca
  · rfl
 | succ d =>
  obtain ⟨⟨h1, rfl⟩ | ⟨rfl, rfl⟩, rfl⟩ | ⟨b, z, cs, rows, bss, rfl, rfl, rfl, h1⟩ := w
  · exact h1.sca
  · rfl
  · rfl
theorem Rep.isNo {d : Nat} {y f : S} {bs : List Nat} (w : Rep h d y f bs) : isNo y = false := by
 cases d with
 | zero =>
  obtain ⟨⟨h1, rfl⟩ | ⟨rfl, rfl⟩, rfl⟩ := w
  · exact h1.no
  · rfl
 | succ d =>
  obtain ⟨⟨h1, rfl⟩ | ⟨rfl, rfl⟩, rfl⟩ | ⟨b, z, cs, rows, bss, rfl, rfl, rfl, h1⟩ := w
  · exact h1.no
  · rfl
  · rfl
theorem Rep.frz : ∀ {d k : Nat} {y f : S} {bs : List Nat}, Rep h d y f bs -> d <= k -> Qy h k y = some f
 | 0, k, y, f, bs, w, _ => by
  obtain ⟨⟨h1, rfl⟩ | ⟨rfl, rfl⟩, rfl⟩ := w
  · exact h1.cl h k
  · exact jo
 | d + 1, 0, y, f, bs, w, hk => by omega
 | d + 1, k + 1, y, f, bs, w, hk => by
  rcases w with ⟨⟨h1, rfl⟩ | ⟨rfl, rfl⟩, rfl⟩ | ⟨b, z, cs, rows, bss, rfl, rfl, rfl, h1, h2, h3, h4, h5⟩
  · exact h1.cl h (k + 1)
  · exact jo
  ·have hl := JU h4
   have hc := h5.len;have hm : mapO (Qy h k) cs = some rows.flatten := by
    clear h3 h4 hl hc;generalize rows.flatten = fl at h5
    induction h5 with
    | nil => rfl
    | cons w1 w2 ih => simp only [mapO, Rep.frz w1 (show d <= k by omega), ih, HC]
   simp only [Qy]
   split
   · rename_i h0; rw [FS h0]
   ·rw [h3]
    simp only;rw [if_pos ⟨h2, by omega⟩, HX, Fz (by omega), hm]
    simp [Gd h4]
theorem RepL.mapO {d k : Nat} {cs fs : List S} {bss : List Nat} (w : RepL (Rep h d) cs fs bss) (hd : d <= k) : Vm.mapO (Qy h k) cs = some fs := by
 induction w with
 | nil => rfl
 | cons w1 w2 ih => simp only [Vm.mapO, w1.frz hd, ih, HC]
end
theorem wS {l : List UInt8} : ∀ s ∈ (bys l).flatten, Sc s := by
 rw [Un];intro s hs;obtain ⟨c, _, rfl⟩ := HR.1 hs
 trivial
theorem Rep.of_bys {h : H} {d : Nat} {y : S} {l : List UInt8} {bs : List Nat} (w : Rep h (d + 1) y (.fs (bys l)) bs) : (l = [] /\ ∃ o, y = .sl o 0) \/ ∃ b, BysW h (.s y) l b /\ bs = [b] := by
 rcases w with ⟨⟨h1, rfl⟩ | ⟨rfl, h2⟩, rfl⟩ | ⟨b, z, cs, rows, bss, rfl, h0, rfl, h1, h2, h3, h4, h5⟩
 · exact h1.elim
 ·injection h2 with h2
  exact .inl ⟨FS (by simpa using congrArg List.length h2), _, rfl⟩
 ·injection h0 with h0
  subst h0;obtain ⟨rfl, rfl⟩ := h5.of_sc wS
  by_cases hl : l = []
  · subst hl; exact .inl ⟨rfl, _, rfl⟩
  ·refine .inr ⟨b, ⟨by simp, h1, ?_⟩, rfl⟩
   have hh : (bys l) ≠ [] := by simp [bys, hl]
   have h6 := h4 _ (List.head_mem hh);have h7 : ((bys l).head hh).length = 1 := YR _ (List.head_mem hh);rw [h3, Un, <- h6, h7]
theorem Own.rep {h : H} {d : Nat} {y : S} {l : List UInt8} {ob : Option Nat} (h1 : Own h (.s y) l ob) : Rep h (d + 1) y (.fs (bys l)) ob.toList := by
 cases ob with
 | none => obtain ⟨h1, rfl⟩ := h1; cases h1; exact Rep.nil
 | some b =>
  have hv := h1.v
  injection hv with hv
  subst hv;have := Rep.sl (d := d) (h := h) (b := b) (z := 1) (rows := bys l) (bss := []) h1.n (by omega) (by rw [Un]; exact h1.g) YR (RepL.sc (by exact wS))
  rwa [Xe] at this
def Ku (d : Nat) (y f : S) (lo hi : Nat) (h : H) : Prop := ∃ bs, Rep h d y f bs /\ bs.Nodup /\ ∀ b ∈ bs, lo <= b /\ b < hi
theorem Ku.sep {d : Nat} {y f : S} {lo hi : Nat} {h : H} (w : Ku d y f lo hi h) (hn : hi <= h.n) : Sep (Ku d y f lo hi) lo hi h := ⟨hn, fun h' hn' hg => by
 obtain ⟨bs, h1, h2, h3⟩ := w;exact ⟨bs, h1.frame fun b hb => ⟨by have := h3 b hb; omega, hg b (h3 b hb).1 (h3 b hb).2⟩, h2, h3⟩⟩
theorem Ku.frz {d : Nat} {y f : S} {lo hi : Nat} {h : H} (w : Ku d y f lo hi h) (hd : d <= 8 := by omega) : QL h (.s y) = some (.s f) := by
 obtain ⟨bs, h1, _⟩ := w;simp only [QL, h1.frz hd, Vm.ob]
section
variable {α : Type} (cs : α -> List S) (mk : Nat -> α -> α) (sz : α -> Nat)
def uR : List α -> Nat
 | [] => 0
 | a :: xs => sz a + uR xs
variable {cs mk sz}
end
end Vm
namespace Vm
open Go
end Vm
namespace Vm
open Go
theorem jR {n : Nat} {s : S} (h : Sc s) : QR n s = true := by cases s <;> first | exact h.elim | rfl
theorem Rep.top {h : H} {d N : Nat} {y f : S} {bs : List Nat} (w : Rep h d y f bs) (hb : ∀ b ∈ bs, b < N) : QR N y = true := by
 cases d with
 | zero =>
  obtain ⟨⟨h1, rfl⟩ | ⟨rfl, rfl⟩, rfl⟩ := w
  · exact jR h1
  · rfl
 | succ d =>
  obtain ⟨⟨h1, rfl⟩ | ⟨rfl, rfl⟩, rfl⟩ | ⟨b, z, cs, rows, bss, rfl, rfl, rfl, h1⟩ := w
  · exact jR h1
  · rfl
  · simpa [QR] using hb b (by simp)
theorem RepL.top {h : H} {d N : Nat} {cs fs : List S} {bss : List Nat} (w : RepL (Rep h d) cs fs bss) (hb : ∀ b ∈ bss, b < N) : cs.all (QR N) = true := by
 induction w with
 | nil => rfl
 | cons w1 w2 ih =>
  rw [HG, w1.top fun b hh => hb b (by simp [hh]), ih fun b hh => hb b (by simp [hh])]; rfl
theorem Rep.bel {h : H} {N : Nat} : ∀ {d : Nat} {y f : S} {bs : List Nat}, Rep h d y f bs -> (∀ b ∈ bs, b < N) -> ∀ b ∈ bs, (h.g b).cells.all (QR N) = true
 | 0, y, f, bs, w, _ => by obtain ⟨_, rfl⟩ := w; simp
 | d + 1, y, f, bs, w, hb => by
  rcases w with ⟨_, rfl⟩ | ⟨b, z, cs, rows, bss, rfl, rfl, rfl, h1, h2, h3, h4, h5⟩
  · simp
  ·intro c hc
   rcases HH.1 hc with rfl | hc
   · rw [h3]; exact h5.top fun b hh => hb b (by simp [hh])
   ·have hb' : ∀ b ∈ bss, b < N := fun b hh => hb b (by simp [hh])
    clear h3 h4 hb;generalize rows.flatten = fl at h5
    induction h5 with
    | nil => simp at hc
    | cons w1 w2 ih =>
     rcases HK.1 hc with hc | hc
     · exact w1.bel (fun b hh => hb' b (by simp [hh])) _ hc
     · exact ih (by simp [hc]) hc fun b hh => hb' b (by simp [hh])
def YW (d : Nat) (ys fs : List S) (lo hi : Nat) (h : H) : Prop := ∃ bs, RepL (Rep h d) ys fs bs /\ bs.Nodup /\ ∀ b ∈ bs, lo <= b /\ b < hi
theorem YW.sep {d : Nat} {ys fs : List S} {lo hi : Nat} {h : H} (w : YW d ys fs lo hi h) (hn : hi <= h.n) : Sep (YW d ys fs lo hi) lo hi h := ⟨hn, fun h' hn' hg => by
 obtain ⟨bs, h1, h2, h3⟩ := w;exact ⟨bs, h1.frame fun b hb => ⟨by have := h3 b hb; omega, hg b (h3 b hb).1 (h3 b hb).2⟩, h2, h3⟩⟩
theorem YW.frz {d : Nat} {ys fs : List S} {lo hi : Nat} {h : H} (w : YW d ys fs lo hi h) (hd : d <= 8 := by omega) : QL h (.agg ys) = some (.agg fs) := by
 obtain ⟨bs, h1, _⟩ := w;simp only [QL, h1.mapO hd, Vm.ob]
theorem RepL.sca {h : H} {d : Nat} {cs fs : List S} {bss : List Nat} (w : RepL (Rep h d) cs fs bss) : cs.all ZL = true := by
 induction w with
 | nil => rfl
 | cons w1 w2 ih => rw [HG, w1.sca, ih]; rfl
theorem YW.scaV {d : Nat} {ys fs : List S} {lo hi : Nat} {h : H} (w : YW d ys fs lo hi h) : Vm.scaV (.agg ys) = true := by
 obtain ⟨bs, h1, _⟩ := w;exact h1.sca
theorem Ku.c {d : Nat} {pre : List S} {y f : S} {lo hi : Nat} {h : H} (hp : ∀ s ∈ pre, Sc s) (w : Ku d y f lo hi h) : YW d (pre ++ [y]) (pre ++ [f]) lo hi h := by
 obtain ⟨bs, h1, h2, h3⟩ := w;exact ⟨bs, by simpa using (RepL.sc (d := d) hp).append (.cons h1 .nil), h2, h3⟩
structure NewC (d : Nat) (ys fs : List S) (n : Nat) (h : H) : Prop where
 le : n <= h.n
 q : YW d ys fs n h.n h
theorem RL {n : Nat} {h : H} {b : Nat} (hb : (h.g b).cells.all ZL = true) : (Kk n h).g b = h.g b := by
 simp only [Kk];rw [if_neg (fun hh => by rw [hb] at hh; cases hh.2.2)]
theorem Rep.scaB {h : H} : ∀ {d : Nat} {y f : S} {bs : List Nat}, Rep h d y f bs -> ∀ b ∈ bs, (h.g b).cells.all ZL = true
 | 0, y, f, bs, w => by obtain ⟨_, rfl⟩ := w; simp
 | d + 1, y, f, bs, w => by
  rcases w with ⟨_, rfl⟩ | ⟨b, z, cs, rows, bss, rfl, rfl, rfl, h1, h2, h3, h4, h5⟩
  · simp
  ·intro c hc
   rcases HH.1 hc with rfl | hc
   · rw [h3]; exact h5.sca
   ·clear h3 h4
    generalize rows.flatten = fl at h5
    induction h5 with
    | nil => simp at hc
    | cons w1 w2 ih =>
     rcases HK.1 hc with hc | hc
     · exact w1.scaB _ hc
     · exact ih (by simp [hc]) hc
theorem RepL.scaB {h : H} {d : Nat} {cs fs : List S} {bss : List Nat} (w : RepL (Rep h d) cs fs bss) : ∀ b ∈ bss, (h.g b).cells.all ZL = true := by
 induction w with
 | nil => simp
 | cons w1 w2 ih =>
  intro c hc
  rcases HK.1 hc with hc | hc
  · exact w1.scaB _ hc
  · exact ih _ hc
theorem pC {cl : Nat -> List V -> H -> Option (V × H)} {g : Nat} {off : Bool} {xs : List V} {h : H} {n d : Nat} {ys fs : List S} {h1 : H} (hn : h.n = n) (hc : cl g xs (D n) = some (.agg ys, h1)) (w : NewC d ys fs n h1) :
  ∃ h', (∀ (R : Type) (k : V -> H -> Option R), Qj cl g off xs h k = k (.agg ys) h') /\ Up h h' /\ n <= h'.n /\ Sep (YW d ys fs n h'.n) n h'.n h' := by
 subst hn;have hle : h.n <= h1.n := w.le;have ov : ∀ h2 : H, h2.n = h1.n -> (∀ b, (h1.g b).cells.all ZL = true -> h2.g b = h1.g b) -> Up h (h.over h2) /\ h.n <= (h.over h2).n /\ Sep (YW d ys fs h.n (h.over h2).n) h.n (h.over h2).n (h.over h2) := fun h2 hn2 hg2 => by
  have hle2 : h.n <= h2.n := by omega
  refine ⟨Je hle2, by rw [Xb hle2]; omega, YW.sep ?_ (Hx _)⟩
  obtain ⟨bs, w1, w2, w3⟩ := w.q;rw [Xb hle2, hn2];refine ⟨bs, w1.frame fun b hb => ?_, w2, w3⟩
  have := w3 b hb;exact ⟨by rw [Xb hle2]; omega, by rw [KL this.1]; exact hg2 b (w1.scaB b hb)⟩
 cases off with
 | true =>
  obtain ⟨a1, a2, a3⟩ := ov h1 rfl (fun _ _ => rfl)
  refine ⟨h.over h1, fun R k => ?_, a1, a2, a3⟩
  unfold Qj;rw [hc, Vm.ob];unfold YV;rw [if_pos (.inl rfl)]; rfl
 | false =>
  obtain ⟨a1, a2, a3⟩ := ov (Kk h.n h1) rfl (fun b hb => RL hb)
  refine ⟨h.over (Kk h.n h1), fun R k => ?_, a1, a2, a3⟩
  unfold Qj;rw [hc, Vm.ob];unfold YV;rw [if_pos (.inr w.q.scaV)]; rfl
theorem pVx {cl : Nat -> List V -> H -> Option (V × H)} {g : Nat} {off : Bool} {xs : List V} {h : H} {n d : Nat} {y f : S} {h1 : H} (hn : h.n = n) (hc : cl g xs (D n) = some (.s y, h1)) (hle : n <= h1.n) (w : Ku d y f n h1.n h1) :
  ∃ h', (∀ (R : Type) (k : V -> H -> Option R), Qj cl g off xs h k = k (.s y) h') /\ Up h h' /\ n <= h'.n /\ Sep (Ku d y f n h'.n) n h'.n h' /\ Zj h h' := by
 subst hn;have ov : ∀ h2 : H, h2.n = h1.n -> (∀ b, (h1.g b).cells.all ZL = true -> h2.g b = h1.g b) -> Up h (h.over h2) /\ h.n <= (h.over h2).n /\ Sep (Ku d y f h.n (h.over h2).n) h.n (h.over h2).n (h.over h2) /\ Zj h (h.over h2) := fun h2 hn2 hg2 => by
  have hle2 : h.n <= h2.n := by omega
  refine ⟨Je hle2, by rw [Xb hle2]; omega, Ku.sep ?_ (Hx _), ⟨by rw [Xb hle2]; omega, fun b hb => .inr (Jg hb)⟩⟩
  obtain ⟨bs, w1, w2, w3⟩ := w;rw [Xb hle2, hn2];refine ⟨bs, w1.frame fun b hb => ?_, w2, w3⟩
  have := w3 b hb;exact ⟨by rw [Xb hle2]; omega, by rw [KL this.1]; exact hg2 b (w1.scaB b hb)⟩
 cases off with
 | true =>
  obtain ⟨a1, a2, a3⟩ := ov h1 rfl (fun _ _ => rfl)
  refine ⟨h.over h1, fun R k => ?_, a1, a2, a3⟩
  unfold Qj;rw [hc, Vm.ob];unfold YV;rw [if_pos (.inl rfl)]; rfl
 | false =>
  obtain ⟨a1, a2, a3⟩ := ov (Kk h.n h1) rfl (fun b hb => RL hb)
  refine ⟨h.over (Kk h.n h1), fun R k => ?_, a1, a2, a3⟩
  unfold Qj;rw [hc, Vm.ob];unfold YV;rw [if_pos (.inr (by obtain ⟨bs, w1, _⟩ := w; exact w1.sca))]; rfl
theorem pV {cl : Nat -> List V -> H -> Option (V × H)} {g : Nat} {off : Bool} {xs : List V} {h : H} {n d : Nat} {y f : S} {h1 : H} (hn : h.n = n) (hc : cl g xs (D n) = some (.s y, h1)) (hle : n <= h1.n) (w : Ku d y f n h1.n h1) :
  ∃ h', (∀ (R : Type) (k : V -> H -> Option R), Qj cl g off xs h k = k (.s y) h') /\ Up h h' /\ n <= h'.n /\ Sep (Ku d y f n h'.n) n h'.n h' := by
 obtain ⟨h', a, b, c, d, _⟩ := pVx (off := off) hn hc hle w;exact ⟨h', a, b, c, d⟩
theorem NewC.p {f d : Nat} {xs : List V} {h : H} {ys fs : List S} (hd : d <= 8) (hc : call Ev f xs (D 0) = some (.agg ys, h)) (w : NewC d ys fs 0 h) : Q8 (call Ev) f xs = some (.agg fs) := by
 unfold Q8;rw [hc, Vm.ob];exact w.q.frz hd
theorem uG {n m : Nat} (h : n <= m) {s : S} (hs : QR n s = true) : QR m s = true := by
 cases s with
 | ptr p => cases p <;> simp_all [QR]; omega
 | sl p k => cases p <;> simp_all [QR]; omega
 | mp p => cases p <;> simp_all [QR]; omega
 | fn f cap =>
  simp only [QR, List.all_eq_true, decide_eq_true_eq] at hs ⊢;intro x hx;have := hs x hx;omega
 | _ => exact hs
theorem Gl {h h' : H} {l : List V} {b e : Nat} {cs : List S} (hb : b < h.n) (hg : h'.g b = .rw e cs) (hc : cs.all (QR h.n) = false) (hX : (h.g b).cells.all (QR h.n) = true) : tidy h l h' = h' := by
 unfold tidy;rw [if_neg]
 rintro ⟨_, _, h3⟩
 rcases h3 b hb with ⟨h4, _⟩ | h4
 ·rw [<- h4, hg] at hX
  rw [show (Blk.rw e cs).cells = cs from rfl, hc] at hX
  cases hX
 ·rw [hg, show (Blk.rw e cs).cells = cs from rfl, hc] at h4
  cases h4
theorem Kr {h h' : H} {l : List V} (hl : l.all (ZM h.n) = false) : tidy h l h' = h' := by
 unfold tidy;rw [if_neg]
 rintro ⟨_, h2, _⟩
 rw [hl] at h2
 cases h2
section
variable {α : Type} {cs : α -> List S}
end
end Vm
namespace Vm
open Go
theorem sc1 {k : IntKind} {c : Int} : ∀ s ∈ [S.int k c], Sc s := by intro s hs; rw [HT.1 hs]; trivial
theorem Q4I {n d : Nat} {K : H} {y f : S} (hn : n < K.n) (g : K.g n = .rw 0 [.int Ly 0, .sl none 0]) (w : Ku d y f (n + 1) K.n K) {c : Int} :
  ∃ h', (stK 2 K (pv n 0) (.agg [.int Ly c, y]) fun h116 => (Qp 2 h116 (pv n 0)).bind fun c117 => some (V.agg c117, h116)) = some (.agg [.int Ly c, y], h') /\ NewC d [.int Ly c, y] [.int Ly c, f] n h' := by
 rw [Zq (z := 2) (e := 0) (o := 0) (b := n) (cs := [.int Ly 0, .sl none 0]) (r := [.int Ly c, y]) hn g (.inr rfl) rfl (by simp)]
 rw [show setAt [.int Ly 0, .sl none 0] 0 [.int Ly c, y] = [.int Ly c, y] from rfl]
 rw [xT (b := n) (e := 0) (by rw [Qq]; omega) (Z9 _ _ _), ob]
 obtain ⟨bs, w1, w2, w3⟩ := w;refine ⟨_, rfl, by rw [Qq]; omega, ?_⟩
 refine Ku.c (pre := [.int Ly c]) sc1 ⟨bs, w1.frame fun b hb => ?_, w2, fun b hb => ?_⟩
 ·have := w3 b hb
  exact ⟨by rw [Qq]; omega, QG (by omega)⟩
 ·have := w3 b hb
  rw [Qq]; omega
theorem Q2z {R : Type} {y : S} (hy : isNo y = false) {k : Int -> S -> Option R} :
  (X1 (.s y) fun c112 =>
   if c112.length = 1 /\ 1 + 1 <= ([.int Ly 0, .sl none 0] : List S).length then
   ((setAt ([.int Ly 0, .sl none 0] : List S) 1 c112)[0]?).bind fun x113 =>
   gI Ly x113 fun i114 =>
   ((setAt ([.int Ly 0, .sl none 0] : List S) 1 c112)[1]?).bind fun x115 =>
   if (setAt ([.int Ly 0, .sl none 0] : List S) 1 c112).length = 2 then k i114 x115 else none else none) = k 0 y := by
 simp only [X1, hy, cond_false, ln0, ln1, Hw, HA, Hx, and_self, if_true];rw [show setAt [.int Ly 0, .sl none 0] 1 [y] = [.int Ly 0, y] from rfl]
 simp only [gx0, gx1, ob, Q2, ln0, ln1, Hw, HA, if_true]
theorem Q5g {g n d : Nat} {xs : List V} {y f : S} {h1 : H} {off : Bool} (hc : call Ev g xs (D (n + 1)) = some (.s y, h1)) (hle : n + 1 <= h1.n) (w : Ku d y f (n + 1) h1.n h1) :
  ∃ h', (Qj (call Ev) g off xs ((D n).new 0 [.int Ly 0, .sl none 0]) fun v110 h111 =>
   X1 v110 fun c112 =>
   if c112.length = 1 /\ 1 + 1 <= ([.int Ly 0, .sl none 0] : List S).length then
   ((setAt ([.int Ly 0, .sl none 0] : List S) 1 c112)[0]?).bind fun x113 =>
   gI Ly x113 fun i114 =>
   ((setAt ([.int Ly 0, .sl none 0] : List S) 1 c112)[1]?).bind fun x115 =>
   if (setAt ([.int Ly 0, .sl none 0] : List S) 1 c112).length = 2 then
   stK 2 h111 (pv ((D n).n) 0) (.agg [.int Ly i114, x115]) fun h116 =>
   (Qp 2 h116 (pv ((D n).n) 0)).bind fun c117 =>
   some (V.agg c117, h116)
   else none
   else none) = some (.agg [.int Ly 0, y], h') /\ NewC d [.int Ly 0, y] [.int Ly 0, f] n h' := by
 obtain ⟨K, e, u, hn, w'⟩ := pV (h := (D n).new 0 [.int Ly 0, .sl none 0]) (off := off) (n := n + 1) (by simp) hc hle w
 have hy : isNo y = false := by obtain ⟨bs, w1, _⟩ := w; exact w1.isNo
 rw [e];rw [Q2z hy];exact Q4I (K := K) (by omega) (by rw [u.g n (by simp)]; exact QI (D n) _ _) w'.now
end Vm
namespace Vm
open Go
end Vm
namespace Vm
open Go
structure OutS (z d : Nat) (y : S) (rows : List (List S)) (bs : List Nat) (h : H) : Prop where
 rep : Rep h (d + 1) y (.fs rows) bs
 nd : bs.Nodup
 ty : y = .sl none 0 \/ ∃ b cs, y = .sl (some (b, 0)) rows.length /\ h.g b = .rw z cs
 len : ∀ r ∈ rows, r.length = z
theorem OutS.none {z d : Nat} {h : H} : OutS z d (.sl none 0) [] [] h := ⟨Rep.nil, by simp, .inl rfl, by simp⟩
theorem OutS.frame {z d : Nat} {y : S} {rows : List (List S)} {bs : List Nat} {h h' : H} (w : OutS z d y rows bs h) (hb : ∀ b ∈ bs, b < h'.n /\ h'.g b = h.g b) : OutS z d y rows bs h' := by
 refine ⟨w.rep.frame hb, w.nd, ?_, w.len⟩
 rcases w.ty with h1 | ⟨b, cs, h1, h2⟩
 · exact .inl h1
 ·refine .inr ⟨b, cs, h1, ?_⟩
  have hbb : b ∈ bs := by
   rcases w.rep with ⟨⟨h3, _⟩ | ⟨h3, _⟩, _⟩ | ⟨b', z', cs', rows', bss, h3, _, h4, _⟩
   · rw [h1] at h3; exact h3.elim
   · rw [h1] at h3; cases h3
   ·rw [h1] at h3
    injection h3 with h3 _
    injection h3 with h3
    injection h3 with h3 _
    rw [h4, h3]; simp
  rw [(hb b hbb).2]; exact h2
theorem YS {z d : Nat} {y : S} {rows : List (List S)} {bs : List Nat} {h : H} {row fr : List S} {br : List Nat} (w : OutS z d y rows bs h) (wr : RepL (Rep h d) row fr br) (hz : fr.length = z) (hz0 : 0 < z) (hd : br.Nodup) (hdis : ∀ a ∈ bs, a ∉ br) (hl : rows.length + 1 <= lim) :
  ∃ h' bs', Zm z (h.new z row) (.s y) (sv h.n 0 1) = some (sv (h.n + 1) 0 (rows.length + 1), h') /\ OutS z d (.sl (some (h.n + 1, 0)) (rows.length + 1)) (rows ++ [fr]) bs' h' /\ h'.n = h.n + 2 /\ (∀ c ∈ bs', c = h.n + 1 \/ c ∈ bs \/ c ∈ br) /\ (∀ c, c < h.n -> c ∉ bs -> h'.g c = h.g c) /\ (∀ c, c < h.n -> h'.g c = h.g c \/ (h'.g c = .dead /\ c ∈ bs)) /\ ∃ cs0, h'.g (h.n + 1) = .rw z (cs0 ++ row) := by
 have hrow : row.length = z := wr.len.trans hz;have hlt := w.rep.lt;have hlr := wr.lt;have cy : Z6 z (h.new z row) (sv h.n 0 1) = some row := by
  simp only [Z6, H.cells, Xf, QI, Blk.cells];rw [if_pos ⟨by omega, by simp; omega⟩]
  simp [<- hrow]
 have gn : (h.new z row).g h.n = .rw z row := QI _ _ _
 rcases w.rep with ⟨⟨h3, h4⟩ | ⟨h3, h4⟩, h5⟩ | ⟨b, z', cs, rows', bss, h3, h4, h5, h6, h7, h8, h9, h10⟩
 · rw [<- h4] at h3; exact h3.elim
 ·subst h3
  injection h4 with h4
  subst h4;subst h5;refine ⟨(h.new z row).new z row, (h.n + 1) :: br, ?_, ⟨?_, ?_, ?_, ?_⟩, by simp, ?_, fun c hc _ => ?_, fun c hc => .inl ?_, [], QI (h.new z row) z row⟩
  ·simp only [Zm, cy, HC, Uh]
   rw [if_pos ⟨trivial, by simpa using hl, hz0⟩, if_neg (by omega)]
   rfl
  ·have := Rep.sl (d := d) (h := (h.new z row).new z row) (b := h.n + 1) (z := z) (cs := row) (rows := [fr]) (bss := br) (by simp) hz0 (by exact QI (h.new z row) z row) (by simpa using hz) (by
    simpa using wr.frame fun c hc => ⟨by have := hlr c hc; simp; omega, by rw [QO (by have := hlr c hc; simp; omega), QO (by have := hlr c hc; omega)]⟩)
   simpa using this
  · exact DH.2 ⟨fun hh => by have := hlr _ hh; omega, hd⟩
  · exact .inr ⟨_, row, rfl, by exact QI (h.new z row) z row⟩
  · simpa using hz
  ·intro c hc
   rcases HH.1 hc with h1 | h1
   · exact .inl h1
   · exact .inr (.inr h1)
  · rw [QO (by simp; omega), QO (by omega)]
  · rw [QO (by simp; omega), QO (by omega)]
 ·injection h4 with h4
  subst h4;subst h3;subst h5;have hzz : z' = z := by
   rcases w.ty with hh | ⟨b', cs', hh, hg⟩
   · cases hh
   ·injection hh with hh _
    injection hh with hh
    injection hh with hh _
    subst hh;rw [h8] at hg
    injection hg
  subst hzz;have hcl := h10.len;rw [JU h9] at hcl;have hbn : b ≠ h.n := by omega
  have cx : Z6 z' (h.new z' row) (sv b 0 rows.length) = some cs := by
   have hc : (h.new z' row).cells b = cs := by unfold H.cells; rw [if_pos (by simp; omega), QO hbn, h8]; rfl
   simp only [Z6, hc];rw [if_pos ⟨by simp; omega, by omega⟩, HX, Fz (by omega)]
  have hd2 := DH.1 w.nd;refine ⟨((h.new z' row).put b .dead).new z' (cs ++ row), (h.n + 1) :: (bss ++ br), ?_, ⟨?_, ?_, ?_, ?_⟩, by simp, ?_, fun c hc hcb => ?_, fun c hc => ?_, cs, QI ((h.new z' row).put b .dead) z' (cs ++ row)⟩
  ·simp only [Zm, cx, cy, HC, Uh]
   rw [if_pos ⟨by rw [Xf]; omega, hl, hz0⟩, QO hbn, h8]
   simp only [if_true];rfl
  ·have fr1 : ∀ c, c < h.n -> c ≠ b -> (((h.new z' row).put b .dead).new z' (cs ++ row)).g c = h.g c := fun c hc hcb => by
    rw [QO (by simp; omega), QG hcb, QO (by omega)]
   have := Rep.sl (d := d) (h := ((h.new z' row).put b .dead).new z' (cs ++ row)) (b := h.n + 1) (z := z') (cs := cs ++ row) (rows := rows ++ [fr]) (bss := bss ++ br) (by simp) hz0 (by exact QI ((h.new z' row).put b .dead) z' (cs ++ row)) (by
     intro r hr
     rcases HK.1 hr with hr | hr
     · exact h9 r hr
     · rw [HT.1 hr]; exact hz) (by
    rw [List.flatten_append];have wr2 : RepL (Rep (((h.new z' row).put b .dead).new z' (cs ++ row)) d) row fr br := wr.frame fun c hc => by
     have := hlr c hc;exact ⟨by simp; omega, fr1 c this (fun hh => hdis b (by simp) (hh ▸ hc))⟩
    refine RepL.append (h10.frame fun c hc => ?_) (by simpa using wr2)
    have := hlt c (by simp [hc])
    exact ⟨by simp; omega, fr1 c this (fun hh => hd2.1 (hh ▸ hc))⟩)
   simpa using this
  ·refine DH.2 ⟨fun hh => ?_, List.nodup_append.2 ⟨hd2.2, hd, fun a ha a' ha' hh => hdis a (by simp [ha]) (hh ▸ ha')⟩⟩
   rcases HK.1 hh with hh | hh
   · have := hlt (h.n + 1) (by simp [hh]); omega
   · have := hlr _ hh; omega
  · exact .inr ⟨h.n + 1, cs ++ row, by simp, by exact QI ((h.new z' row).put b .dead) z' (cs ++ row)⟩
  ·intro r hr
   rcases HK.1 hr with hr | hr
   · exact h9 r hr
   · rw [HT.1 hr]; exact hz
  ·intro c hc
   rcases HH.1 hc with h1 | h1
   · exact .inl h1
   rcases HK.1 h1 with h1 | h1
   · exact .inr (.inl (by simp [h1]))
   · exact .inr (.inr h1)
  · rw [QO (by simp; omega), QG (fun hh => hcb (by simp [hh])), QO (by omega)]
  ·by_cases hcb : c = b
   ·subst hcb
    refine .inr ⟨?_, by simp⟩
    rw [QO (by simp; omega)]
    exact Z9 _ _ _
   ·refine .inl ?_
    rw [QO (by simp; omega), QG hcb, QO (by omega)]
end Vm
namespace Vm
open Go
theorem jU {r : RowD} : ∀ s ∈ r.cs, Sc s := by
 intro s hs;simp only [HH, EL, or_false] at hs
 rcases hs with rfl | rfl | rfl | rfl <;> trivial
theorem Mw {rs : List RowD} : ∀ r ∈ rws rs, ∀ s ∈ r, Sc s := by
 intro r hr;obtain ⟨c, _, rfl⟩ := HR.1 hr;exact jU
end Vm
namespace Vm
open Go
abbrev pgr (l : List UInt8) : List S := [.fs (bys l)]
def bss (ps : List (List UInt8)) : List (List S) := ps.map pgr
@[simp] theorem XP (ps : List (List UInt8)) : (bss ps).length = ps.length := by simp [bss]
theorem Q1f {ps : List (List UInt8)} {i : Nat} {l : List UInt8} (h : ps[i]? = some l) : (bss ps)[i]? = some (pgr l) := by simp [bss, h]
theorem J3 {R : Type} {ps : List (List UInt8)} {i : Nat} {l : List UInt8} {k : List S -> Option R} (h : ps[i]? = some l) : QB 1 (bss ps) (i : Int) k = k (pgr l) := UZ (Q1f h) rfl
def szP (l : List UInt8) : Nat := l.length
def psz (ps : List (List UInt8)) : Nat := uR szP ps
end Vm
namespace Vm
open Go Go.Sort
def Yj (ps : List (List UInt8)) : Prop := ∀ l ∈ ps, QH l = 0 /\ ∀ s : Nat, Z7 l s = true -> (QS (Qm l s)).code = 0
theorem Yj.cnt {ps : List (List UInt8)} (r : Yj ps) {l : List UInt8} (h : l ∈ ps) : cnt l <= 16 := by
 obtain ⟨_, ⟨q1, _⟩, _⟩ := Qv (r l h).1;have := Xd l;omega
theorem vY {all : List (List UInt8)} {b n0 : Nat} (hr : Yj all) (hl : all.length <= 12) :
  ∀ (rs : List (List UInt8)) (i : Nat) (h : H) (y1 y2 : S) (l1 l2 : List SeenD) (ms : List SpotD) (o1 o2 : Option Nat), all.drop i = rs -> StV n0 h y1 y2 b l1 l2 ms o1 o2 -> l1.length <= 16 * i -> l2.length <= 16 * i -> (∀ x ∈ ms, x.p < i) ->
  ∃ h' y1' y2' o1' o2', Lp.QM 0 [.s y1, .s y2, .s (.mp (some b)), lv (bss all), iv Ly all.length, iv Ly i] h = some (.done [.s y1', .s y2', .s (.mp (some b))] h') /\
   StV n0 h' y1' y2' b (l1 ++ Xr (Qh i rs)) (l2 ++ QF (Qh i rs)) (ms ++ QZ (Qh i rs)) o1' o2' := by
 intro rs
 induction rs with
 | nil =>
  intro i h y1 y2 l1 l2 ms o1 o2 hi w _ _ _;have := Zn hi;rw [Md, Q1, if_neg (by simp; omega), Q6]
  exact ⟨h, y1, y2, o1, o2, rfl, by simpa [Qh, Xr, QF, QZ] using w⟩
 | cons l rs ih =>
  intro i h y1 y2 l1 l2 ms o1 o2 hi w hl1 hl2 hm;obtain ⟨g1, g2, g3⟩ := Zf hi;have hmem := HU g1;obtain ⟨hp, hc⟩ := hr l hmem;have h16 := hr.cnt hmem;obtain ⟨h64, _⟩ := Qv hp;rw [Md, Q1, if_pos (by simp; omega), J3 g1]
  simp only [gx0, ob, QY];rw [pc (Bn (by omega)) rfl]
  simp only [Q3, Q2];obtain ⟨h1, a1, a2, a3, a4, e1, w1⟩ := vX (P := bss all) (m := (all.length : Int)) (p := i) (b := b) (n0 := n0) hp hc (Vm.cnt l) 0 h y1 y2 l1 l2 ms o1 o2 (by omega) w (by omega) (by omega) (fun x hx => .inl (hm x hx))
  rw [show iv Ly 0 = iv Ly ((0 : Nat) : Int) from rfl, e1, ob, Qc]
  simp only [gx0, gx1, ob, Q3, QY, Q2];rw [w64 (n := (i : Int) + 1) (by omega) (by omega), show (i : Int) + 1 = ((i + 1 : Nat) : Int) from by omega]
  have hle := G4 i l (Vm.cnt l) 0;have hr1 := TU (QQ i l 0 (Vm.cnt l));have hr2 := VH (QQ i l 0 (Vm.cnt l));have key : ∀ h2, StV n0 h2 a1 a2 b (l1 ++ Xr (QQ i l 0 (Vm.cnt l))) (l2 ++ QF (QQ i l 0 (Vm.cnt l))) (ms ++ QZ (QQ i l 0 (Vm.cnt l))) a3 a4 ->
    ∃ h' y1' y2' o1' o2', Lp.QM 0 [.s a1, .s a2, .s (.mp (some b)), lv (bss all), iv Ly all.length, iv Ly ((i + 1 : Nat) : Int)] h2 = some (.done [.s y1', .s y2', .s (.mp (some b))] h') /\
     StV n0 h' y1' y2' b (l1 ++ Xr (Qh i (l :: rs))) (l2 ++ QF (Qh i (l :: rs))) (ms ++ QZ (Qh i (l :: rs))) o1' o2' := by
   intro h2 w2;obtain ⟨h', c1, c2, c3, c4, e2, w3⟩ := ih (i + 1) h2 a1 a2 _ _ _ a3 a4 g2 w2 (by rw [HO]; omega) (by rw [HO]; omega) (fun x hx => by
    rcases HK.1 hx with hx | hx
    · have := hm x hx; omega
    ·have := Uc _ _ x (List.mem_filter.1 hx).1
     omega)
   refine ⟨h', c1, c2, c3, c4, e2, ?_⟩;rw [Qh, jT, VI, yz];simpa using w3
  by_cases ht : tidy h [.s a1, .s a2, .s (.mp (some b)), lv (bss all), iv Ly all.length, iv Ly ((i + 1 : Nat) : Int)] h1 = h1
  · rw [ht]; exact key h1 w1
  ·refine key _ ?_
   have hT : jF h [.s a1, .s a2, .s (.mp (some b)), lv (bss all), iv Ly all.length, iv Ly ((i + 1 : Nat) : Int)] h1 := Db fun hh => ht (by unfold tidy; rw [if_neg hh])
   have hbl := hT.2.1;rw [HG, HG, HG] at hbl;simp only [HE] at hbl;have hg : ∀ c, c < h.n -> (tidy h [.s a1, .s a2, .s (.mp (some b)), lv (bss all), iv Ly all.length, iv Ly ((i + 1 : Nat) : Int)] h1).g c = h1.g c := by
    intro c hc;unfold tidy;rw [if_pos hT];simp only [if_pos hc]
   have hn : (tidy h [.s a1, .s a2, .s (.mp (some b)), lv (bss all), iv Ly all.length, iv Ly ((i + 1 : Nat) : Int)] h1).n = h.n := by
    unfold tidy;rw [if_pos hT]
   have lt1 : ∀ c, a3 = some c -> c < h.n := by
    intro c hc;have := w1.w1;rw [hc] at this;have hy := this.1;have := hbl.1;rw [hy] at this;simpa [ZM, QR] using this
   have lt2 : ∀ c, a4 = some c -> c < h.n := by
    intro c hc;have := w1.w2;rw [hc] at this;have hy := this.1;have := hbl.2.1;rw [hy] at this;simpa [ZM, QR] using this
   have ltb : b < h.n := by simpa [ZM, QR] using hbl.2.2.1
   exact ⟨w1.w1.frame fun c hc => ⟨by rw [hn]; exact lt1 c hc, hg c (lt1 c hc)⟩, w1.w2.frame fun c hc => ⟨by rw [hn]; exact lt2 c hc, hg c (lt2 c hc)⟩, by rw [hn]; exact ltb, (hg b ltb).trans w1.hg, w1.n1, w1.n2, w1.n12, w1.g1, w1.g2, by rw [hn]; exact w.le⟩
theorem Ls.get {h : H} {y : S} {l : List SeenD} {o : Option Nat} {i : Nat} (w : Ls h y l o) (hi : i < l.length) : ∃ b, o = some b /\ y = .sl (some (b, 0)) l.length /\ Hs h b l.toArray := by
 cases o with
 | none => obtain ⟨_, rfl⟩ := w; simp at hi
 | some b => exact ⟨b, rfl, w.1, w.hs⟩
theorem kN {l : List SeenD} {i : Nat} {x : SeenD} (h : l[i]? = some x) : l.toArray[i]! = x := by
 rw [List.getElem!_toArray, List.getElem!_eq_getElem?_getD, h]; rfl
theorem Wo (ms : List SpotD) (x : SeenD) (l : List SeenD) : KW ms (x :: l) = ((mvF ms x.at_ x.place).isNone || KW ms l) := rfl
abbrev z9 : List S := [.int Ly 0, .int Ly 0, .int Ly 0, .str (⟨#[]⟩), .int Ly 0, .int Ly 0, .bool false, .int Ly 0, .int Ly 0]
abbrev z4 : List S := [.int Ly 0, .int Ly 0, .int Ly 0, .str (⟨#[]⟩)]
theorem vW {b n0 : Nat} {h : H} {y1 y2 : S} {l1 l2 : List SeenD} {ms : List SpotD} {o1 o2 : Option Nat} (w : StV n0 h y1 y2 b l1 l2 ms o1 o2) (hl : l2.length <= 1000) :
  ∀ (rs : List SeenD) (i : Nat), l2.drop i = rs -> ∃ h', Lp.QM 5 [.s y1, .s y2, .s (.mp (some b)), .s y2, iv Ly l2.length, iv Ly i] h = some (if KW ms rs = true then .ret (.tup [.s (.sl none 0), .s (.int Ly 4)]) h' else .done [.s y1, .s y2, .s (.mp (some b))] h) := by
 intro rs
 induction rs with
 | nil =>
  intro i hi;have := Zn hi;rw [Mb, Q1, if_neg (by simp; omega), Q6]
  exact ⟨h, rfl⟩
 | cons x rs ih =>
  intro i hi;obtain ⟨g1, g2, g3⟩ := Zf hi;obtain ⟨h', ih'⟩ := ih (i + 1) g2;obtain ⟨c2, rfl, hy, hs⟩ := w.w2.get g3;have hbel1 := w.w1.bel;have hbel2 := w.w2.bel;subst hy;rw [Mb, Q1, if_pos (by simp; omega), hs.ldG (by simp) (by simpa using g3), kN g1]
  rw [K4 (z := 9) rfl rfl, Xg (o := 7) (x := .int Ly x.at_) rfl];simp only [ob, Q2];rw [Xg (o := 8) (x := .int Ly x.place) rfl];simp only [ob, Q2];have hk1 := ZE h z9 x.cs;have w1 := w.frame (h' := Zl h z9 x.cs) hk1.1 (fun c hc => Gi hc)
  have hlk := Q0R w1.hb w1.hg x.at_ x.place;have hlk' : JQ Ev 109 true (Zl h z9 x.cs) (.s (.mp (some b))) (.agg [.int Ly x.at_, .int Ly x.place]) = _ := hlk;rw [hlk', ob, Wo];generalize hmv : mvF ms x.at_ x.place = r;simp only [Za, gx0, gx1, ob, KM, Zc, Q2, Z8, QW, ln0, ln1, Hw, HA, if_true];rw [K4 (z := 4) rfl rfl, Q1]
  cases r with
  | none => exact ⟨_, rfl⟩
  | some r =>
   rw [if_neg (by simp), w64 (n := (i : Int) + 1) (by omega) (by omega), show (i : Int) + 1 = ((i + 1 : Nat) : Int) from by omega, BZ (hk1.trans (ZE _ _ _)) (by
    have b3 := w.hb;rw [HG, HG, HG, HG, show ZM h.n (.s y1) = true from hbel1, show ZM h.n (.s (.sl (some (c2, 0)) l2.length)) = true from hbel2]
    simp [ZM, QR, b3])]
   refine ⟨h', ?_⟩;rw [show ((some r : Option RowD).isNone || KW ms rs) = KW ms rs from rfl]
   exact ih'
theorem yy (x y : SeenD) (l : List SeenD) : nbr (x :: y :: l) = (ltS x y && nbr (y :: l)) := rfl
theorem Q38 {l : List SeenD} {i : Nat} {x : SeenD} (h : l[i]? = some x) : (((l.map SeenD.cs).flatten).drop (i * 9)).take 4 = x.r.cs := by
 have := PP l i x h;have h2 : ((((l.map SeenD.cs).flatten).drop (i * 9)).take 9).take 4 = x.cs.take 4 := by rw [this]
 rw [List.take_take] at h2;exact h2
theorem Ls.row {R : Type} {h : H} {c n : Nat} {l : List SeenD} {i : Nat} {x : SeenD} {t : VT} {w : Nat} {zz : List S} {dd : TD} {bb : Bool} {kd : IntKind} {f : V -> Option R} (hs : Ls h (.sl (some (c, 0)) n) l (some c)) (hx : l[i]? = some x) :
  (Qd 9 (sv c 0 n) (iv kd (i : Int)) fun v => (JC 0 v).bind fun v => ldK t ⟨4, w, zz, true, dd, bb⟩ h v f) = f (.agg x.r.cs) := by
 obtain ⟨e, h1, h2⟩ := hs;have hi : i < l.length := (HF.1 hx).1;have hn : n = l.length := by injection e
 subst hn;rw [Z3 hi];rw [show JC 0 (pv c (i * 9)) = some (pv c (i * 9 + 0)) from rfl, ob]
 show ldT _ h (pv c (i * 9 + 0)) f = _;unfold ldT;simp only [cond_true];rw [DI, Xh h1 h2 (by rw [Ri]; omega), ob, Q38 hx]
theorem vU {h : H} {y : S} {l : List SeenD} {o : Option Nat} (w : Ls h y l o) (hl : l.length <= 1000) :
  ∀ (rs : List SeenD) (i : Nat), l.drop i = rs -> ∃ h', Lp.QM 9 [.s y, iv Ly ((i + 1 : Nat) : Int)] h = some (if nbr rs = true then .done [.s y] h else .ret (.tup [.s (.sl none 0), .s (.int Ly 8)]) h') := by
 intro rs
 induction rs with
 | nil =>
  intro i hi;have := Zn hi;rw [UJ, w.len, ob];simp only [Q3, Q2, Q1];rw [if_neg (by simp; omega), Q6]
  exact ⟨h, rfl⟩
 | cons x rs ih =>
  intro i hi;obtain ⟨g1, g2, g3⟩ := Zf hi
  cases rs with
  | nil =>
   have := Zn g2;rw [UJ, w.len, ob];simp only [Q3, Q2, Q1];rw [if_neg (by simp; omega), Q6]
   exact ⟨h, rfl⟩
  | cons z rs =>
   obtain ⟨k1, k2, k3⟩ := Zf g2;obtain ⟨h', ih'⟩ := ih (i + 1) g2;obtain ⟨c, rfl, hy, hs⟩ := w.get g3;subst hy;rw [UJ, w.len, ob];simp only [Q3, Q2, Q1];rw [if_pos (by simp; omega), w64 (n := ((i + 1 : Nat) : Int) - 1) (by omega) (by omega), show ((i + 1 : Nat) : Int) - 1 = (i : Int) from by omega, w.row g1]
   simp only [Zb, gx0, gx1, ob, Q2, Z8, ln0, ln1, Hw, HA, if_true];rw [w.row k1];simp only [Zb, gx0, gx1, ob, Q2, Z8, ln0, ln1, Hw, HA, if_true];rw [pc (MY x.r z.r) rfl];simp only [Q3, QW, Qu, Q1, Q6];rw [w64 (n := ((i + 1 : Nat) : Int) + 1) (by omega) (by omega), show ((i + 1 : Nat) : Int) + 1 = ((i + 1 + 1 : Nat) : Int) from by omega, yy, show ZJ x.r z.r = ltS x z from rfl]
   cases hq : ltS x z
   · exact ⟨h, rfl⟩
   · exact ⟨h', by rw [if_neg (by simp), Bool.true_and]; exact ih'⟩
end Vm
namespace Vm
open Go Go.Sort
theorem StV.but {n0 : Nat} {h h' : H} {y1 y2 : S} {b t : Nat} {l1 l2 : List SeenD} {ms : List SpotD} {o1 o2 : Option Nat} (w : StV n0 h y1 y2 b l1 l2 ms o1 o2) (hn : h.n <= h'.n) (hb : t ≠ b) (h1 : o1 ≠ some t) (h2 : o2 ≠ some t) (hf : ∀ c, c < h.n -> c ≠ t -> h'.g c = h.g c) : StV n0 h' y1 y2 b l1 l2 ms o1 o2 :=
  ⟨w.w1.frame fun c hc => by
      have := w.w1; subst hc; have := this.lt; exact ⟨by omega, hf c this (fun e => h1 (by rw [e]))⟩,
   w.w2.frame fun c hc => by
      have := w.w2; subst hc; have := this.lt; exact ⟨by omega, hf c this (fun e => h2 (by rw [e]))⟩,
   HJ w.hb hn, (hf b w.hb (fun e => hb e.symm)).trans w.hg, w.n1, w.n2, w.n12, w.g1, w.g2, HL w.le hn⟩
theorem kT (ms : List SpotD) (x : SeenD) : setAt x.cs 0 ((mvF ms x.at_ x.place).getD noR).cs = (KV ms x).cs := rfl
theorem vV {b t n0 : Nat} {y2 : S} {l2 : List SeenD} {ms : List SpotD} {o2 : Option Nat} (hl : l2.length <= 1000) (htb : t ≠ b) (ht2 : o2 ≠ some t) :
  ∀ (rs : List SeenD) (i : Nat) (h : H) (y1 : S) (l1 : List SeenD) (o1 : Option Nat) (d : List (Int × Int)), l2.drop i = rs -> StV n0 h y1 y2 b l1 l2 ms o1 o2 -> t < h.n -> h.g t = .mp (mtE d) -> o1 ≠ some t -> l1.length + rs.length <= 1000 ->
  ∃ h', (JD d rs = true /\ Lp.QM 7 [.s y1, .s (.mp (some b)), .s (.mp (some t)), .s y2, iv Ly l2.length, iv Ly i] h = some (.ret (.tup [.s (.sl none 0), .s (.int Ly 6)]) h')) \/
   (JD d rs = false /\ ∃ y1' o1', Lp.QM 7 [.s y1, .s (.mp (some b)), .s (.mp (some t)), .s y2, iv Ly l2.length, iv Ly i] h = some (.done [.s y1'] h') /\ Ls h' y1' (l1 ++ rs.map (KV ms)) o1' /\ (∀ c, o1' = some c -> n0 <= c) /\ n0 <= h'.n) := by
 intro rs
 induction rs with
 | nil =>
  intro i h y1 l1 o1 d hi w _ _ _ _;have := Zn hi;rw [Ma, Q1, if_neg (by simp; omega), Q6]
  exact ⟨h, .inr ⟨rfl, y1, o1, rfl, by simpa using w.w1, w.g1, w.le⟩⟩
 | cons x rs ih =>
  intro i h y1 l1 o1 d hi w htn htg ht1 hl1;obtain ⟨g1, g2, g3⟩ := Zf hi;obtain ⟨c2, rfl, hy, hs⟩ := w.w2.get g3;subst hy;rw [Ma, Q1, if_pos (by simp; omega), hs.ldG (by simp) (by simpa using g3), kN g1]
  rw [K4 (z := 9) rfl rfl, Xg (o := 7) (x := .int Ly x.at_) rfl];simp only [ob, Q2];rw [Xg (o := 8) (x := .int Ly x.place) rfl];simp only [ob, Q2];generalize hA : Zl h [S.int Ly 0, .int Ly 0, .int Ly 0, .str (⟨#[]⟩), .int Ly 0, .int Ly 0, .bool false, .int Ly 0, .int Ly 0] [S.int Ly x.r.tab, .int Ly x.r.key, .int Ly x.r.val, .str x.r.text, .int Ly x.page, .int Ly x.slot, .bool x.moved, .int Ly x.at_, .int Ly x.place] = A;have hkA : K6 h A := hA ▸ ZE h _ _;have nA : A.n = h.n + 1 := hA ▸ XK h _ _;have gA : A.g h.n = .rw 0 x.cs := hA ▸ JZ h _ _;rw [K4 (z := 2) (h := A) rfl rfl];generalize hB : Zl A [S.int Ly 0, .int Ly 0] [S.int Ly x.at_, .int Ly x.place] = B;have hkB : K6 A B := hB ▸ ZE A _ _;have nB : B.n = A.n + 1 := hB ▸ XK A _ _;have gB' : B.g A.n = .rw 0 (ptC x.at_ x.place) := hB ▸ JZ A _ _;have hkAB := hkA.trans hkB;have lB : Qp 2 B (pv A.n 0) = some (ptC x.at_ x.place) := Xh (by omega) gB' (by simp)
  rw [lB];simp only [gx0, gx1, ob, Q2, ln0, ln1, Hw, HA, if_true];have lk : JQ Ev 112 false B (.s (.mp (some t))) (.agg [.int Ly x.at_, .int Ly x.place]) = some (bv (decide ((x.at_, x.place) ∈ d))) := Q0S (by omega) ((hkAB.2 t htn).1.trans htg) _ _
  rw [lk];simp only [ob, Q3, QW, Q1]
  by_cases hd : (x.at_, x.place) ∈ d
  ·rw [if_pos (by simpa using hd)]
   exact ⟨_, .inl ⟨by simp [JD, hd], rfl⟩⟩
  rw [if_neg (by simpa using hd)]
  have up : Gv Ev 112 B (.s (.mp (some t))) (.agg [.int Ly x.at_, .int Ly x.place]) (bv true) = _ := Q1o (p := x.at_) (s := x.place) (by omega) ((hkAB.2 t htn).1.trans htg) hd
  rw [up, ob];generalize hC : B.put t (.mp (mtE (d ++ [(x.at_, x.place)]))) = C;have nC : C.n = B.n := hC ▸ Qq _ _ _;have gC : C.g t = .mp (mtE (d ++ [(x.at_, x.place)])) := hC ▸ Z9 _ _ _;have fC : ∀ c, c ≠ t -> C.g c = B.g c := fun c hc => hC ▸ QG hc
  have lC : Qp 2 C (pv A.n 0) = some (ptC x.at_ x.place) := Xh (by omega) ((fC _ (by omega)).trans gB') (by simp)
  rw [lC];simp only [gx0, gx1, ob, Q2, ln0, ln1, Hw, HA, if_true];have lm : JQ Ev 109 false C (.s (.mp (some b))) (.agg [.int Ly x.at_, .int Ly x.place]) = some (.agg ((mvF ms x.at_ x.place).getD noR).cs) := ua (by have := w.hb; omega) ((fC b (fun e => htb e.symm)).trans ((hkAB.2 b w.hb).1.trans w.hg)) _ _
  rw [lm];simp only [Zb, gx0, gx1, ob, Q2, Z8, ln0, ln1, Hw, HA, if_true];have gCn : C.g h.n = .rw 0 x.cs := (fC _ (by omega)).trans ((hkB.2 h.n (by omega)).1.trans gA)
  rw [Zq (z := 4) (e := 0) (o := 0) (b := h.n) (cs := x.cs) (r := ((mvF ms x.at_ x.place).getD noR).cs) (by omega) gCn (.inr rfl) rfl (by simp), kT]
  generalize hE : C.put h.n (.rw 0 (KV ms x).cs) = E;have nE : E.n = C.n := hE ▸ Qq _ _ _;have gE : E.g h.n = .rw 0 (KV ms x).cs := hE ▸ Z9 _ _ _;have fE : ∀ c, c ≠ h.n -> E.g c = C.g c := fun c hc => hE ▸ QG hc
  have lE : Qp 9 E (pv h.n 0) = some (KV ms x).cs := Xh (by omega) gE (by simp)
  rw [lE];simp only [gx0, gx1, ob, Q2, Z8, QW, ln0, ln1, Hw, HA, if_true];have wE : StV n0 E y1 (.sl (some (c2, 0)) l2.length) b l1 l2 ms o1 (some c2) := w.but (t := t) (by omega) htb ht1 ht2 (fun c hc hct => by
   rw [fE c (by omega), fC c hct]; exact (hkAB.2 c hc).1)
  have hrl : (x :: rs).length = rs.length + 1 := rfl;obtain ⟨h', e1, w1, n1, f1⟩ := wE.w1.app (x := KV ms x) (by unfold lim; omega)
  have e1' : Zm 9 (E.new 9 [.int Ly (KV ms x).r.tab, .int Ly (KV ms x).r.key, .int Ly (KV ms x).r.val, .str (KV ms x).r.text, .int Ly (KV ms x).page, .int Ly (KV ms x).slot, .bool (KV ms x).moved, .int Ly (KV ms x).at_, .int Ly (KV ms x).place]) (.s y1) (sv E.n 0 1) = _ := e1;rw [e1', ob];dsimp only;rw [Gy (by simp [ZM, QR]; omega), w64 (n := (i : Int) + 1) (by omega) (by omega), show (i : Int) + 1 = ((i + 1 : Nat) : Int) from by omega]
  have ws := wE.app1 w1 (by omega) (by omega) f1
  have hgt : h'.g t = .mp (mtE (d ++ [(x.at_, x.place)])) := by
   rw [f1 t (by omega) ht1, fE t (by omega), gC]
  obtain ⟨h2, hh⟩ := ih (i + 1) h' _ _ _ (d ++ [(x.at_, x.place)]) g2 ws (by omega) hgt (fun e => by cases e; omega) (by rw [HO, CE]; omega)
  have hdu : JD d (x :: rs) = JD (d ++ [(x.at_, x.place)]) rs := by simp [JD, hd]
  refine ⟨h2, ?_⟩;rw [hdu]
  rcases hh with hh | ⟨q1, a1, a2, q2, q3, q4⟩
  · exact .inl hh
  ·refine .inr ⟨q1, a1, a2, q2, ?_, q4⟩
   simpa using q3
theorem Rd (h : H) : h.newM.n = h.n + 1 := rfl
theorem yw (h : H) : h.newM.g h.n = .mp [] := by simp [H.newM]
theorem Q0H {h : H} {c : Nat} (hc : c < h.n) : h.newM.g c = h.g c := by
 simp only [H.newM]; rw [if_neg (by omega)]
noncomputable def G9 (sp : List SpotD) : Int := if KW (QZ sp) (QF sp) = true then 4 else if JD [] (QF sp) = true then 6 else if K3 (Kj (QZ sp) sp) then 8 else 0
noncomputable def ji (sp : List SpotD) : List SeenD := if G9 sp = 0 then MR (Kj (QZ sp) sp) else []
theorem Yw {all : List (List UInt8)} : ∀ (rs : List (List UInt8)) (p : Nat), (∀ l ∈ rs, cnt l <= 16) -> (Qh p rs).length <= 16 * rs.length
 | [], p, _ => by simp [Qh]
 | l :: rs, p, h => by
  have := Yw (all := all) rs (p + 1) fun l hl => h l (by simp [hl])
  have h1 := G4 p l (cnt l) 0;have h2 := h l (by simp)
  rw [Qh, HO, HM];omega
theorem qt {all : List (List UInt8)} : ∀ (rs : List (List UInt8)) (p : Nat), Yj rs -> ∀ x ∈ Qh p rs, x.c.flag = 0 \/ x.c.flag = 1 \/ x.c.flag = 2
 | [], p, _ => by simp [Qh]
 | l :: rs, p, h => by
  intro x hx;rw [Qh] at hx
  rcases HK.1 hx with hx | hx
  ·have : ∀ (k s : Nat), ∀ x ∈ QQ p l s k, x.c.flag = 0 \/ x.c.flag = 1 \/ x.c.flag = 2 := by
    intro k
    induction k with
    | zero => intro s x hx; simp [QQ] at hx
    | succ k ih =>
     intro s x hx;simp only [QQ] at hx
     split at hx
     ·rename_i hh
      rcases HH.1 hx with rfl | hx
      · exact NA _ ((h l (by simp)).2 s hh)
      · exact ih _ x hx
     · exact ih _ x hx
   exact this _ _ x hx
  · exact qt (all := all) rs (p + 1) (fun l hl => h l (by simp [hl])) x hx
theorem vD {n : Nat} {d d' : Array SeenD} (hn : n = d.size) (p : PermIn 0 n d d') : d'.toList.Perm d.toList /\ d'.size = n := by
 obtain ⟨p1, _, p3⟩ := p;subst hn;refine ⟨?_, p1⟩;have e1 : d.extract 0 d.size = d := by simp
 have e2 : d'.extract 0 d.size = d' := by rw [<- p1]; simp
 rw [e1, e2] at p3;exact p3
theorem kS {n : Nat} {d : Array SeenD} (hn : n = d.size) (s : SortedIn ltS 0 n d) : d.toList.Pairwise fun x y => ltS y x = false := by
 rw [List.pairwise_iff_getElem];intro i j hi hj hij;have := s i j (by omega) hij (by rw [hn]; simpa using hj)
 have hi' : i < d.size := by simpa using hi
 have hj' : j < d.size := by simpa using hj
 rw [getElem!_pos d j hj', getElem!_pos d i hi'] at this;simpa using this
theorem Q2v {all : List (List UInt8)} (hr : Yj all) (hl : all.length <= 12) (n : Nat) :
  ∃ y h' o, call Ev Fn.QM [lv (bss all)] (D n) = some (.tup [.s y, .s (.int Ly (G9 (Qh 0 all)))], h') /\ Ls h' y (ji (Qh 0 all)) o /\ ∀ c, o = some c -> n <= c := by
 rw [zB, D_n, XP];have w0 : StV n (D n).newM (.sl none 0) (.sl none 0) n [] [] [] none none := ⟨⟨rfl, rfl⟩, ⟨rfl, rfl⟩, by rw [Rd]; simp, yw (D n), by simp, by simp, by simp, by simp, by simp, by rw [Rd]; simp⟩
 obtain ⟨h1, y1, y2, o1, o2, e1, w1⟩ := vY hr hl all 0 _ _ _ [] [] [] none none rfl w0 (by simp) (by simp) (by simp)
 rw [show iv Ly 0 = iv Ly ((0 : Nat) : Int) from rfl, e1, ob, Qc]
 simp only [EI] at w1;have hsl := Yw (all := all) all 0 (fun l hl => hr.cnt hl)
 have hok := qt (all := all) all 0 hr;generalize Qh 0 all = sp at w1 hsl hok;have hs1 := TU sp;have hs2 := VH sp;simp only [gx0, gx1, ob];rw [w1.w2.len, ob];simp only [Q3, Q2];obtain ⟨h2, e2⟩ := vW w1 (by omega) (QF sp) 0 rfl
 rw [e2, ob];unfold ji G9
 by_cases hm : KW (QZ sp) (QF sp) = true
 ·rw [if_pos hm, if_pos hm, Zx, if_neg (by decide)]
  exact ⟨_, h2, none, rfl, ⟨rfl, rfl⟩, by simp⟩
 rw [if_neg hm, if_neg hm, Qc];simp only [gx0, gx1, ob];rw [w1.w2.len, ob];simp only [Q3, Q2];have wM : StV n h1.newM y1 y2 n (Xr sp) (QF sp) (QZ sp) o1 o2 := w1.frame (by rw [Rd]; omega) (fun c hc => Q0H hc)
 obtain ⟨h3, hh⟩ := vV (l2 := QF sp) (t := h1.n) (by omega) (by have := w1.hb; omega) (fun e => by have := w1.w2; rw [e] at this; have := this.lt; omega) (QF sp) 0 h1.newM y1 (Xr sp) o1 [] rfl wM (by rw [Rd]; omega) (yw h1) (fun e => by have := w1.w1; rw [e] at this; have := this.lt; omega) (by
  have : (Xr sp).length + (QF sp).length <= sp.length + sp.length := by omega
  omega)
 rcases hh with ⟨q1, e3⟩ | ⟨q1, y3, o3, e3, w3, g3, _⟩
 ·rw [e3, ob, Zx, if_pos q1, if_neg (by decide)]
  exact ⟨_, h3, none, rfl, ⟨rfl, rfl⟩, by simp⟩
 rw [e3, ob, Qc, if_neg (by simp [q1])]
 simp only [gx0, gx1, ob];have hp := TQ (QZ sp) sp hok;have hlen : (Xr sp ++ (QF sp).map (KV (QZ sp))).length <= 200 := by
  rw [hp.length_eq];have : ∀ (l : List SpotD), (Kj (QZ sp) l).length <= l.length := by
   intro l
   induction l with
   | nil => simp [Kj]
   | cons x l ih =>
    simp only [Kj]
    split
    · rw [HM]; omega
    · rw [HM, HM]; omega
  have := this sp;omega
 generalize Xr sp ++ (QF sp).map (KV (QZ sp)) = L at w3 hp hlen;have fin : ∀ (h4 : H) (l : List SeenD), Ls h4 y3 l o3 -> l.Perm (Kj (QZ sp) sp) -> (l.Pairwise fun x y => ltS y x = false) -> ∃ y h' o, ((Lp.QM 9 [.s y3, iv Ly 1] h4).bind fun o130 => Qz o130 (fun l131 h132 => (l131[0]?).bind fun w135 => (V.toA w135).bind fun t136 => some (V.tup [t136, .s (.int Ly 0)], h132)) (fun v133 h134 => some (v133, h134))) = some (.tup [.s y, .s (.int Ly (if K3 (Kj (QZ sp) sp) then 8 else 0))], h') /\
   Ls h' y (if (if K3 (Kj (QZ sp) sp) then (8 : Int) else 0) = 0 then MR (Kj (QZ sp) sp) else []) o /\ ∀ c, o = some c -> n <= c := by
  intro h4 l w4 hpl hsr;have hnb := kR hsr hpl;have hll : l.length <= 1000 := by rw [hpl.length_eq, <- hp.length_eq]; omega
  obtain ⟨h5, e5⟩ := vU w4 hll l 0 rfl;rw [show iv Ly 1 = iv Ly ((0 + 1 : Nat) : Int) from rfl, e5, ob]
  by_cases hd : K3 (Kj (QZ sp) sp)
  ·rw [if_neg (fun h => hnb.1 h hd), Zx, if_pos hd, if_neg (by decide)]
   exact ⟨_, h5, none, rfl, ⟨rfl, rfl⟩, by simp⟩
  ·rw [if_pos (hnb.2 hd), Qc, if_neg hd, if_pos rfl, <- ve (hnb.2 hd) hpl]
   exact ⟨y3, h4, o3, rfl, w4, g3⟩
 cases o3 with
 | none =>
  obtain ⟨rfl, rfl⟩ := w3;rw [kY, ob];dsimp only;rw [Q6];exact fin h3 [] ⟨rfl, rfl⟩ hp List.Pairwise.nil
 | some b3 =>
  obtain ⟨rfl, k2, k3⟩ := w3;obtain ⟨h4, d', e4, w4, o4, p4, s4⟩ := Q1z (b := b3) (n := L.length) (h := h3) (d := L.toArray) ⟨k2, by simpa using k3⟩ (by simp) hlen
  have hpa := vD (by simp) p4
  rw [e4, ob];dsimp only;rw [o4.tidy k2];refine fin h4 d'.toList ⟨by rw [show d'.toList.length = L.length from by simp [hpa.2]], w4.n, w4.g⟩ (hpa.1.trans (by simpa using hp)) (kS hpa.2.symm s4)
end Vm
namespace Vm
open Go Go.Sort
theorem GK {l : List UInt8} {i : Nat} : Z7 l (i : Int) = true ↔ i < cnt l /\ siz l i ≠ 0 := by
 have hc := Xd l;unfold Z7;simp only [HE, decide_eq_true_eq, bne_iff_ne, ne_eq, HQ];constructor
 · rintro ⟨h1, h2, h3⟩; exact ⟨by omega, h3⟩
 · rintro ⟨h1, h2⟩; exact ⟨by omega, by omega, h2⟩
def UQ (l : List UInt8) : Nat -> Nat -> Bool
 | _, 0 => false
 | s, k + 1 => (Z7 l (s : Int) && (QS (Qm l s)).code != 0) || UQ l (s + 1) k
theorem Be (l : List UInt8) (s k : Nat) : UQ l s (k + 1) = ((Z7 l (s : Int) && (QS (Qm l s)).code != 0) || UQ l (s + 1) k) := rfl
noncomputable def XL : List (List UInt8) -> Int
 | [] => 0
 | l :: r => if QH l ≠ 0 then QH l else if UQ l 0 (cnt l) = true then 5 else XL r
theorem zL {l : List UInt8} {r : List (List UInt8)} (h : QH l ≠ 0) : XL (l :: r) = QH l := if_pos h
theorem zM {l : List UInt8} {r : List (List UInt8)} (h : QH l = 0) (hb : UQ l 0 (cnt l) = true) : XL (l :: r) = 5 := by
 rw [XL, if_neg (by simpa using h), if_pos hb]
theorem Vz {l : List UInt8} {r : List (List UInt8)} (h : QH l = 0) (hb : ¬ UQ l 0 (cnt l) = true) : XL (l :: r) = XL r := by
 rw [XL, if_neg (by simpa using h), if_neg hb]
theorem kM {l : List UInt8} : ∀ (k s : Nat), UQ l s k = false -> ∀ t : Nat, s <= t -> t < s + k -> Z7 l t = true -> (QS (Qm l t)).code = 0
 | 0, s, _, t, h1, h2, _ => by omega
 | k + 1, s, h, t, h1, h2, h3 => by
  simp only [UQ, D2, Bool.and_eq_false_iff] at h
  by_cases he : t = s
  ·subst he
   rcases h.1 with h4 | h4
   · rw [h3] at h4; cases h4
   · simpa using h4
  · exact kM k (s + 1) h.2 t (by omega) (by omega) h3
theorem MV : ∀ {ps : List (List UInt8)}, XL ps = 0 -> Yj ps
 | [], _ => by intro l hl; simp at hl
 | l :: r, h => by
  unfold XL at h
  by_cases h1 : QH l = 0
  ·rw [if_neg (by simpa using h1)] at h
   by_cases h2 : UQ l 0 (cnt l) = true
   · rw [if_pos h2] at h; cases h
   ·rw [if_neg h2] at h
    intro l' hl'
    rcases HH.1 hl' with rfl | hl'
    ·refine ⟨h1, fun s hs => ?_⟩
     exact kM _ 0 (by simpa using h2) s (by omega) (by have := (GK.1 hs).1; omega) hs
    · exact MV h l' hl'
  · rw [if_pos h1] at h; exact absurd h h1
noncomputable def ZF (ps : List (List UInt8)) : Int := if 12 < ps.length then 2 else if XL ps ≠ 0 then XL ps else G9 (Qh 0 ps)
noncomputable def Ji (ps : List (List UInt8)) : List SeenD := if ZF ps = 0 then MR (Kj (QZ (Qh 0 ps)) (Qh 0 ps)) else []
theorem vR {P Q : List (List S)} {m i : Int} {l : List UInt8} {h : H} (hp : QH l = 0) : ∀ (k s : Nat), s + k = cnt l ->
  Lp.X0 2 [lv P, lv (bys l), lv Q, iv Ly m, iv Ly i, iv Ly (bt l 0), iv Ly s] h = some (if UQ l s k = true then .ret (.tup [.s (.sl none 0), .s (.int Ly 5)]) h else .done [lv P, lv Q, iv Ly m, iv Ly i] h) := by
 obtain ⟨h64, ⟨q1, q2, q3⟩, _⟩ := Qv hp;have hcn := Xd l;intro k
 induction k with
 | zero =>
  intro s hs;rw [M8, Q1, if_neg (by simp; omega), Q6]
  rfl
 | succ k ih =>
  intro s hs;have hcl : (Qm l s).length <= lim := by have := WL l s; unfold lim; omega
  rw [M8, Q1, if_pos (by simp; omega), pc (NQ hp) rfl]
  simp only [Q3, QW, Q1, Q6];rw [w64 (n := (s : Int) + 1) (by omega) (by omega), show (s : Int) + 1 = ((s + 1 : Nat) : Int) from by omega, ih (s + 1) (by omega)]
  rw [Be]
  rcases EO (Z7 l (s : Int)) with hh | hh
  case inr => rw [hh, if_neg (by simp)]; simp
  rw [hh, if_pos rfl, qW hp (by omega)]
  simp only [ob, Q3, QY];rw [pc (NR hcl) (by simp)]
  generalize QS (Qm l s) = c;simp only [Zb, gx0, gx1, ob, Q2, Z8, ln0, ln1, Hw, HA, if_true, Q1]
  rcases EO (c.code != 0) with hc | hc
  · rw [hc, if_pos rfl]; simp
  · rw [hc, if_neg (by simp)]; simp
theorem vS {all : List (List UInt8)} {h : H} (hl : all.length <= maxLen) : ∀ (rs : List (List UInt8)) (i : Nat), all.drop i = rs ->
  Lp.X0 0 [lv (bss all), lv (bss all), iv Ly all.length, iv Ly i] h = some (if XL rs ≠ 0 then .ret (.tup [.s (.sl none 0), .s (.int Ly (XL rs))]) h else .done [lv (bss all)] h) := by
 unfold maxLen at hl;intro rs
 induction rs with
 | nil =>
  intro i hi;have := Zn hi;rw [M9, Q1, if_neg (by simp; omega), Q6]
  rfl
 | cons l rs ih =>
  intro i hi;obtain ⟨g1, g2, g3⟩ := Zf hi;rw [M9, Q1, if_pos (by simp; omega), J3 g1]
  simp only [gx0, ob, QY];rw [pc BK rfl];simp only [Q3, Q2, Q1]
  by_cases hp : QH l = 0
  case neg =>
   rw [if_pos (by simpa using hp), zL hp, if_pos hp]
  rw [if_neg (by simpa using hp)]
  obtain ⟨h64, _⟩ := Qv hp;rw [pc (Bn (by omega)) rfl]
  simp only [Q3, Q2];rw [show iv Ly 0 = iv Ly ((0 : Nat) : Int) from rfl, vR hp (cnt l) 0 (by omega), ob]
  by_cases hb : UQ l 0 (cnt l) = true
  · rw [if_pos hb, Zx, zM hp hb]; rfl
  ·rw [if_neg hb, Qc, Vz hp hb]
   simp only [gx0, gx1, ob, Q3, QY, Q2, Q6];rw [w64 (n := (i : Int) + 1) (by omega) (by omega), show (i : Int) + 1 = ((i + 1 : Nat) : Int) from by omega]
   exact ih (i + 1) g2
theorem pFt {R : Type} {cl : Nat -> List V -> H -> Option (V × H)} {g : Nat} {xs : List V} {h h1 : H} {v : V} {k : V -> H -> Option R} (hc : cl g xs (D h.n) = some (v, h1)) : Qj cl g true xs h k = k v (h.over h1) := by
 unfold Qj;rw [hc, ob];unfold YV;rw [if_pos (.inl rfl)];rfl
theorem we {all : List (List UInt8)} (hl : all.length <= maxLen) (n : Nat) :
  ∃ y h' o, call Ev Fn.X0 [lv (bss all)] (D n) = some (.tup [.s y, .s (.int Ly (ZF all))], h') /\ Ls h' y (Ji all) o /\ ∀ c, o = some c -> n <= c := by
 rw [zA, XP, Q1];unfold Ji ZF
 by_cases h12 : 12 < all.length
 ·rw [if_pos (by simp; omega), if_pos h12, if_neg (by decide)]
  exact ⟨_, _, none, rfl, ⟨rfl, rfl⟩, by simp⟩
 rw [if_neg (by simp; omega), if_neg h12, show iv Ly 0 = iv Ly ((0 : Nat) : Int) from rfl, vS hl all 0 rfl, ob]
 by_cases hc : XL all = 0
 case neg =>
  rw [if_pos hc, if_pos hc, Zx, if_neg hc];exact ⟨_, _, none, rfl, ⟨rfl, rfl⟩, by simp⟩
 rw [if_neg (by simpa using hc), if_neg (by simpa using hc), Qc]
 simp only [gx0, ob, Q3, QY];obtain ⟨y, h', o, e1, w1, g1⟩ := Q2v (MV hc) (by omega) n
 rw [pFt (h := D n) e1];simp only [Za, gx0, gx1, ob, Zc, Q2, ln0, ln1, Hw, HA, if_true];refine ⟨y, _, o, rfl, ?_, g1⟩;have hL : (if G9 (Qh 0 all) = 0 then MR (Kj (QZ (Qh 0 all)) (Qh 0 all)) else []) = ji (Qh 0 all) := rfl;rw [hL];refine w1.frame fun c hc => ?_
 have hn := g1 c hc;subst hc;have := w1.lt;exact ⟨by simp only [H.over, D_n]; omega, KL (by rw [D_n]; exact hn)⟩
def snl (l : List SeenD) : List (List S) := l.map SeenD.cs
theorem Q0n {x : SeenD} : ∀ s ∈ x.cs, Cl s := by
 intro s hs;simp only [HH, List.mem_nil_iff, or_false] at hs
 rcases hs with rfl | rfl | rfl | rfl | rfl | rfl | rfl | rfl | rfl
 all_goals first
  | exact B8
  | exact zG
  | exact uz
theorem Ls.frz {h : H} {y : S} {l : List SeenD} {o : Option Nat} {d : Nat} (w : Ls h y l o) : Qy h (d + 1) y = some (.fs (snl l)) := by
 cases o with
 | none => obtain ⟨rfl, rfl⟩ := w; simp [snl]
 | some b =>
  obtain ⟨rfl, h2, h3⟩ := w;have := MG (d := d) (rows := snl l) h2 (by omega) h3 (by
   intro r hr;obtain ⟨x, _, rfl⟩ := HR.1 hr;rfl) (by
   intro r hr;obtain ⟨x, _, rfl⟩ := HR.1 hr;exact Q0n)
  simpa [snl] using this
theorem yf {all : List (List UInt8)} (hl : all.length <= maxLen) : Q8 (call Ev) Fn.X0 [lv (bss all)] = some (.tup [.s (.fs (snl (Ji all))), .s (.int Ly (ZF all))]) := by
 obtain ⟨y, h', o, e1, w1, g1⟩ := we hl 0;unfold Q8;rw [e1, ob];have := w1.frz (d := 7);simp [KY, Yf, this]
theorem qS {l : List UInt8} (hl : l.length <= lim) : ∃ c : CellD, Q8 (call Ev) Fn.Yb [lv (bys l)] = some (.tup [.agg c.cs, .s (.bool ((QS l).code == 0))]) /\ ((QS l).code = 0 -> c = QS l) := by
 obtain ⟨c, b, e1, e2, e3⟩ := vI hl;refine ⟨c, ?_, ?_⟩
 ·rw [e1, e2]
  cases b
  · rfl
  · rw [if_pos rfl, e3]; rfl
 ·intro h
  rw [e2] at h ⊢
  cases b
  · cases h
  · rfl
theorem xh {all : List (List UInt8)} {l : List UInt8} {i : Nat} {h : H} (hi : all[i]? = some l) (hp : QH l = 0) : ∀ (k s : Nat), s + k = cnt l ->
  ∃ h', Lp.ZH 2 [lv (bss all), iv Ly i, iv Ly s] h = some (if UQ l s k = true then .ret (iv Ly 5) h' else .done [lv (bss all), iv Ly i] h) := by
 obtain ⟨h64, ⟨q1, q2, q3⟩, _⟩ := Qv hp;have hcn := Xd l;intro k
 induction k with
 | zero =>
  intro s hs;rw [WA, J3 hi];simp only [gx0, ob, QY];rw [pc (Xx (by omega)) rfl]
  simp only [Q3, Q2];rw [Q1, if_neg (by simp; omega), Q6]
  exact ⟨h, rfl⟩
 | succ k ih =>
  intro s hs;have hcl : (Qm l s).length <= lim := by have := WL l s; unfold lim; omega
  obtain ⟨h', ih'⟩ := ih (s + 1) (by omega)
  rw [WA];simp only [J3 hi];simp only [gx0, ob, QY];rw [pc (Xx (by omega)) rfl]
  simp only [Q3, Q2];rw [Q1, if_pos (by simp; omega), pc (K9 (by omega) (by omega)) rfl]
  simp only [Q3, Q2, Q1, Q6];rw [w64 (n := (s : Int) + 1) (by omega) (by omega), show (s : Int) + 1 = ((s + 1 : Nat) : Int) from by omega]
  rw [Be];have hpl := (Xl l s).2.2.1
  by_cases hz : siz l s = 0
  ·have hh : Z7 l (s : Int) = false := by
    cases hq : Z7 l (s : Int)
    · rfl
    · exact absurd hz (GK.1 hq).2
   rw [if_neg (by simp; omega), ih', hh]
   exact ⟨h', by simp⟩
  have hh : Z7 l (s : Int) = true := GK.2 ⟨by omega, hz⟩
  rw [if_pos (by simp; omega), MX hp (by omega), hh]
  simp only [ob, Q3, QY];obtain ⟨c, e1, e2⟩ := qS hcl;rw [pc e1 (by simp)]
  generalize QS (Qm l s) = c' at e2;simp only [Za, Zb, KM, Zc, QW, gx0, gx1, ob, Q2, Z8, ln0, ln1, Hw, HA, if_true];rw [K4 (z := 8) rfl rfl, Uv (by simp [ZM, QR]), ih']
  rcases EO (c'.code == 0) with hc | hc
  ·have : (c'.code != 0) = false := by rw [bne, hc]; rfl
   rw [hc, if_neg (by simp), this]
   exact ⟨h', by simp⟩
  ·have : (c'.code != 0) = true := by rw [bne, hc]; rfl
   rw [hc, if_pos (show (!false) = true from rfl), this]
   exact ⟨_, rfl⟩
theorem yk {all : List (List UInt8)} (hl : all.length <= maxLen) : Q8 (call Ev) Fn.ZH [lv (bss all)] = some (iv Ly (XL all)) := by
 unfold maxLen at hl;have loop : ∀ (rs : List (List UInt8)) (i : Nat), all.drop i = rs -> ∃ h', Lp.ZH 0 [lv (bss all), iv Ly i] (D 0) = some (if XL rs ≠ 0 then .ret (iv Ly (XL rs)) h' else .done [] (D 0)) := by
  intro rs
  induction rs with
  | nil =>
   intro i hi;have := Zn hi;rw [WB, Q1, if_neg (by simp; omega), Q6]
   exact ⟨D 0, rfl⟩
  | cons l rs ih =>
   intro i hi;obtain ⟨g1, g2, g3⟩ := Zf hi;rw [WB, Q1, if_pos (by simp; omega), J3 g1]
   simp only [gx0, ob, QY];rw [pc yl rfl];simp only [Q3, Q2, Q1]
   by_cases hp : QH l = 0
   case neg =>
    rw [if_pos (by simpa using hp), zL hp]
    exact ⟨D 0, (congrArg some (if_pos hp)).symm⟩
   rw [if_neg (by simpa using hp)]
   obtain ⟨h1, e1⟩ := xh (h := D 0) g1 hp (cnt l) 0 (by omega)
   rw [show iv Ly 0 = iv Ly ((0 : Nat) : Int) from rfl, e1, ob]
   by_cases hb : UQ l 0 (cnt l) = true
   ·rw [if_pos hb, Zx, zM hp hb]
    exact ⟨_, rfl⟩
   ·rw [if_neg hb, Qc, Vz hp hb]
    simp only [gx0, gx1, ob, Q3, QY, Q2, Q6];rw [w64 (n := (i : Int) + 1) (by omega) (by omega), show (i : Int) + 1 = ((i + 1 : Nat) : Int) from by omega]
    exact ih (i + 1) g2
 obtain ⟨h', e⟩ := loop all 0 rfl;rw [VZ, show iv Ly 0 = iv Ly ((0 : Nat) : Int) from rfl, e, ob]
 by_cases hc : XL all = 0
 · rw [if_neg (by simpa using hc), Qc, hc]; rfl
 · rw [if_pos hc, Zx]; simp
end Vm
namespace Vm
open Go Go.Sort
structure Lz (z : Nat) (h : H) (y : S) (rows : List (List S)) (b : Nat) : Prop where
 y : y = .sl (some (b, 0)) rows.length
 n : b < h.n
 g : h.g b = .rw z rows.flatten
 z : ∀ r ∈ rows, r.length = z
theorem Lz.frame {z : Nat} {h h' : H} {y : S} {rows : List (List S)} {b : Nat} (w : Lz z h y rows b) (hn : b < h'.n) (hg : h'.g b = h.g b) : Lz z h' y rows b := ⟨w.y, hn, hg.trans w.g, w.z⟩
theorem Lz.app {z : Nat} {h : H} {y : S} {rows : List (List S)} {b : Nat} {r : List S} (w : Lz z h y rows b) (hr : r.length = z) (hz : 0 < z) (hl : rows.length + 1 <= lim) :
  ∃ h', Zm z (h.new z r) (.s y) (sv h.n 0 1) = some (sv (h.n + 1) 0 (rows.length + 1), h') /\ Lz z h' (.sl (some (h.n + 1, 0)) (rows.length + 1)) (rows ++ [r]) (h.n + 1) /\ h'.n = h.n + 2 := by
 obtain ⟨rfl, h2, h3, h4⟩ := w;have cy : Z6 z (h.new z r) (sv h.n 0 1) = some r := by
  simp only [Z6, H.cells, Xf, QI, Blk.cells];rw [if_pos ⟨by omega, by simp; omega⟩]
  simp [<- hr]
 have hbn : b ≠ h.n := by omega
 have cx : Z6 z (h.new z r) (sv b 0 rows.length) = some rows.flatten := by
  have hc : (h.new z r).cells b = rows.flatten := by unfold H.cells; rw [if_pos (by simp; omega), QO hbn, h3]; rfl
  have := JU h4;simp only [Z6, hc];rw [if_pos ⟨by simp; omega, by omega⟩, HX, Fz (by omega)]
 refine ⟨((h.new z r).put b .dead).new z (rows.flatten ++ r), ?_, ⟨by simp, by simp, ?_, ?_⟩, by simp⟩
 ·simp only [Zm, cx, cy, ob, Uh]
  rw [if_pos ⟨by rw [Xf]; omega, hl, hz⟩, QO hbn, h3]
  simp only [if_true];rfl
 ·have := QI ((h.new z r).put b .dead) z (rows.flatten ++ r)
  simpa using this
 ·intro q hq
  rcases HK.1 hq with hq | hq
  · exact h4 q hq
  · rw [HT.1 hq]; exact hr
theorem Lz.frz {z d : Nat} {h : H} {y : S} {rows : List (List S)} {b : Nat} (w : Lz z h y rows b) (hz : 0 < z) (hc : ∀ r ∈ rows, ∀ s ∈ r, Cl s) : Qy h (d + 1) y = some (.fs rows) := by
 rw [w.y];exact MG w.n hz w.g w.z hc
theorem Lz.bel {z : Nat} {h : H} {y : S} {rows : List (List S)} {b : Nat} (w : Lz z h y rows b) : ZM h.n (.s y) = true := by
 rw [w.y]; simpa [ZM, QR] using w.n
theorem Lz.tidy {z : Nat} {h h1 : H} {y : S} {rows : List (List S)} {b : Nat} {l : List V} (w : Lz z h1 y rows b) (hl : V.s y ∈ l) : Lz z (tidy h l h1) y rows b := by
 unfold Vm.tidy
 split
 ·rename_i ht
  have hb := List.all_eq_true.1 ht.2.1 _ hl;rw [w.y] at hb;have hlt : b < h.n := by simpa [ZM, QR] using hb
  exact ⟨w.y, hlt, by simp only [if_pos hlt]; exact w.g, w.z⟩
 · exact w
abbrev spc (x : SpotD) : List S := [.int Ly x.p, .int Ly x.s, .int Ly x.c.code, .int Ly x.c.flag, .int Ly x.c.page, .int Ly x.c.slot, .int Ly x.c.row.tab, .int Ly x.c.row.key, .int Ly x.c.row.val, .str x.c.row.text]
def sps (sp : List SpotD) : List (List S) := sp.map spc
@[simp] theorem RK (sp : List SpotD) : (sps sp).length = sp.length := by simp [sps]
theorem xy (a b : List SpotD) : sps (a ++ b) = sps a ++ sps b := by simp [sps]
theorem Q0j {sp : List SpotD} {i : Nat} {x : SpotD} (h : sp[i]? = some x) : (sps sp)[i]? = some (spc x) := by simp [sps, h]
theorem YM {R : Type} {sp : List SpotD} {i : Nat} {x : SpotD} {k : List S -> Option R} (h : sp[i]? = some x) : QB 10 (sps sp) (i : Int) k = k (spc x) := UZ (Q0j h) rfl
theorem qx {sp : List SpotD} : ∀ r ∈ sps sp, ∀ s ∈ r, Cl s := by
 intro r hr;obtain ⟨x, _, rfl⟩ := HR.1 hr;intro s hs;simp only [HH, List.mem_nil_iff, or_false] at hs
 rcases hs with rfl | rfl | rfl | rfl | rfl | rfl | rfl | rfl | rfl | rfl
 all_goals first
  | exact B8
  | exact zG
theorem yJ {all : List (List UInt8)} {l : List UInt8} {i : Nat} (hi : all[i]? = some l) (hp : QH l = 0) (hc : ∀ s : Nat, Z7 l s = true -> (QS (Qm l s)).code = 0) :
  ∀ (k s : Nat) (h : H) (y : S) (sp : List SpotD) (b : Nat), s + k = cnt l -> Lz 10 h y (sps sp) b -> sp.length + k <= 1000 ->
  ∃ h' y' b', Lp.Zs 2 [lv (bss all), .s y, iv Ly i, iv Ly s] h = some (.done [lv (bss all), .s y', iv Ly i] h') /\ Lz 10 h' y' (sps (sp ++ QQ i l s k)) b' := by
 obtain ⟨h64, ⟨q1, q2, q3⟩, _⟩ := Qv hp;have hcn := Xd l;intro k
 induction k with
 | zero =>
  intro s h y sp b hs w _;rw [Wv, J3 hi];simp only [gx0, ob, QY];rw [pc (Xx (by omega)) rfl]
  simp only [Q3, Q2];rw [Q1, if_neg (by simp; omega), Q6]
  exact ⟨h, y, b, rfl, by simpa [QQ] using w⟩
 | succ k ih =>
  intro s h y sp b hs w hl;have hcl : (Qm l s).length <= lim := by have := WL l s; unfold lim; omega
  rw [Wv];simp only [J3 hi];simp only [gx0, ob, QY];rw [pc (Xx (by omega)) rfl]
  simp only [Q3, Q2];rw [Q1, if_pos (by simp; omega), pc (K9 (by omega) (by omega)) rfl]
  simp only [Q3, Q2, Q1, Q6];rw [w64 (n := (s : Int) + 1) (by omega) (by omega), show (s : Int) + 1 = ((s + 1 : Nat) : Int) from by omega]
  have hpl := (Xl l s).2.2.1
  by_cases hz : siz l s = 0
  ·have hh : ¬ Z7 l (s : Int) = true := fun h => (GK.1 h).2 hz
   have e : QQ i l s (k + 1) = QQ i l (s + 1) k := by simp only [QQ]; rw [if_neg hh]
   rw [if_neg (by simp; omega), e]
   exact ih (s + 1) h y sp b (by omega) w (by omega)
  have hh : Z7 l (s : Int) = true := GK.2 ⟨by omega, hz⟩
  have e : QQ i l s (k + 1) = ⟨i, s, QS (Qm l s)⟩ :: QQ i l (s + 1) k := by simp only [QQ]; rw [if_pos hh]
  rw [if_pos (by simp; omega), MX hp (by omega), e]
  simp only [ob, Q3, QY];obtain ⟨c, e1, e2⟩ := qS hcl;have h0 := hc s hh;rw [pc e1 (by simp), <- e2 h0]
  simp only [Za, Zb, KM, Zc, QW, gx0, gx1, ob, Q2, Z8, ln0, ln1, Hw, HA, if_true];rw [K4 (z := 8) rfl rfl, YH (r := c.cs) (by simp) rfl]
  simp only [Za, Zb, KM, Zc, QW, gx0, gx1, ob, Q2, Z8, ln0, ln1, Hw, HA, if_true];have hkx := ZE h z8 c.cs;have wX : Lz 10 (Zl h z8 c.cs) y (sps sp) b := w.frame (HJ w.n hkx.1) (Gi w.n);obtain ⟨h', e3, w3, n3⟩ := wX.app (r := spc ⟨i, s, c⟩) rfl (by omega) (by rw [RK]; unfold lim; omega)
  have e3' : Zm 10 ((Zl h z8 c.cs).new 10 [.int Ly i, .int Ly s, .int Ly c.code, .int Ly c.flag, .int Ly c.page, .int Ly c.slot, .int Ly c.row.tab, .int Ly c.row.key, .int Ly c.row.val, .str c.row.text]) (.s y) (sv (Zl h z8 c.cs).n 0 1) = _ := e3;rw [e3', ob];dsimp only;rw [Gy (by simp [ZM, QR, XK]; omega)]
  obtain ⟨h4, y4, b4, e4, w4⟩ := ih (s + 1) h' _ (sp ++ [⟨i, s, c⟩]) _ (by omega) (by rw [xy]; exact w3) (by rw [HO, CE]; omega)
  exact ⟨h4, y4, b4, e4, by simpa using w4⟩
theorem P0 {all : List (List UInt8)} (hr : Yj all) (hl : all.length <= 12) : Q8 (call Ev) Fn.Zs [lv (bss all)] = some (lv (sps (Qh 0 all))) := by
 have loop : ∀ (rs : List (List UInt8)) (i : Nat) (h : H) (y : S) (sp : List SpotD) (b : Nat), all.drop i = rs -> Lz 10 h y (sps sp) b -> sp.length <= 16 * i ->
   ∃ h' y' b', Lp.Zs 0 [lv (bss all), .s y, iv Ly i] h = some (.done [.s y'] h') /\ Lz 10 h' y' (sps (sp ++ Qh i rs)) b' := by
  intro rs
  induction rs with
  | nil =>
   intro i h y sp b hi w _;have := Zn hi;rw [Ww, Q1, if_neg (by simp; omega), Q6]
   exact ⟨h, y, b, rfl, by simpa [Qh] using w⟩
  | cons l rs ih =>
   intro i h y sp b hi w hsp;obtain ⟨g1, g2, g3⟩ := Zf hi;have hm := HU g1;have h16 := hr.cnt hm;rw [Ww, Q1, if_pos (by simp; omega)]
   obtain ⟨h1, y1, b1, e1, w1⟩ := yJ g1 (hr l hm).1 (hr l hm).2 (Vm.cnt l) 0 h y sp b (by omega) w (by omega)
   rw [show iv Ly 0 = iv Ly ((0 : Nat) : Int) from rfl, e1, ob, Qc]
   simp only [gx0, gx1, ob, Q3, QY, Q2];rw [w64 (n := (i : Int) + 1) (by omega) (by omega), show (i : Int) + 1 = ((i + 1 : Nat) : Int) from by omega]
   have hle := G4 i l (Vm.cnt l) 0;obtain ⟨h2, y2, b2, e2, w2⟩ := ih (i + 1) _ y1 _ b1 g2 (w1.tidy (h := h) (l := [lv (bss all), .s y1, iv Ly ((i + 1 : Nat) : Int)]) (by simp)) (by rw [HO]; omega)
   exact ⟨h2, y2, b2, e2, by rw [Qh]; simpa using w2⟩
 have w0 : Lz 10 ((D 0).new 10 []) (.sl (some (0, 0)) 0) (sps []) 0 := ⟨rfl, by simp, QI (D 0) 10 [], by simp [sps]⟩
 obtain ⟨h', y, b, e, w⟩ := loop all 0 _ _ [] 0 rfl w0 (by simp)
 rw [VX, show iv Ly 0 = iv Ly ((0 : Nat) : Int) from rfl, e, ob, Qc]
 simp only [gx0, ob];have := w.frz (d := 7) (by omega) qx
 rw [Y1, this]; simp
theorem WK {all : List (List UInt8)} {a b : Int} {c : CellD} (h : Qg all a b = some c) : ∃ (i k : Nat) (l : List UInt8), a = i /\ b = k /\ all[i]? = some l /\ Z7 l (k : Int) = true /\ c = QS (Qm l k) := by
 unfold Qg at h
 split at h
 ·rename_i h1
  split at h
  ·rename_i l h2
   split at h
   ·rename_i h3
    obtain ⟨k, h4, h5, h6⟩ := J6 h3;subst h4
    cases h
    exact ⟨a.toNat, k, l, by omega, rfl, h2, h3, by rw [HQ]⟩
   · cases h
  · cases h
 · cases h
theorem qU {all : List (List UInt8)} (hr : Yj all) (hl : all.length <= 12) {a b : Int} (h1 : -9223372036854775808 <= b) (h2 : b < 9223372036854775808) :
  Q8 (call Ev) Fn.Wc [lv (bss all), iv Ly a, iv Ly b] = some (.tup [.agg ((Qg all a b).getD ⟨0, 0, 0, 0, noR⟩).cs, .s (.bool (Qg all a b).isSome)]) := by
 rw [RT, pc (MB _ _ _) rfl, XP, w64 (by omega) (by omega)]
 simp only [Q3, QW];rw [Q1];have jt : Jn.JY true (bss all) a b = some (.tup [.agg (CellD.cs ⟨0, 0, 0, 0, noR⟩), .s (.bool false)]) := by
  unfold Jn.JY; rfl
 by_cases hin : inB a 0 ((all.length : Int) - 1) = true
 case neg =>
  rw [if_pos (by simpa using hin), jt]
  have : Qg all a b = none := by
   unfold Qg;rw [if_neg];intro hh;exact hin (X4.2 ⟨by omega, by omega⟩)
  rw [this]; rfl
 rw [if_neg (by simpa using hin)]
 have hin' := X4.1 hin;obtain ⟨i, rfl⟩ : ∃ i : Nat, a = i := ⟨a.toNat, by omega⟩
 obtain ⟨l, hi⟩ : ∃ l, all[i]? = some l := ⟨_, HI (by omega)⟩
 obtain ⟨hp, hc⟩ := hr l (HU hi);rw [J3 hi];simp only [gx0, ob, QY];rw [pc (T6 hp h1 h2) rfl];simp only [Q3, QW];have e : Qg all (i : Int) b = if Z7 l b = true then some (QS (Qm l b.toNat)) else none := by
  unfold Qg;rw [if_pos ⟨by omega, by omega⟩, HQ, hi]
 rw [e]
 by_cases hh : Z7 l b = true
 case neg =>
  have hf : Z7 l b = false := by simpa using hh
  rw [hf];exact jt
 rw [if_pos hh, hh];obtain ⟨k, h4, h5, h6⟩ := J6 hh;subst h4;have hcl : (Qm l k).length <= lim := by
  have := WL l k;have := (Qv hp).1;unfold lim; omega
 obtain ⟨c, e1, e2⟩ := qS hcl;have h0 := hc k hh;unfold Jn.JY;rw [Q1, if_neg (by simp), J3 hi]
 simp only [gx0, ob, QY];rw [MX hp h5];simp only [ob, Q3, QY];rw [pc e1 (by simp), h0]
 simp only [Za, Zb, KM, Zc, QW, gx0, gx1, ob, Q2, Z8, ln0, ln1, Hw, HA, if_true];rw [HQ, <- e2 h0];rfl
end Vm
namespace Vm
open Go Go.Sort
structure SpOk (all : List (List UInt8)) (x : SpotD) : Prop where
 f : x.c.flag = 0 \/ x.c.flag = 1 \/ x.c.flag = 2
 b : -9223372036854775808 <= x.c.slot /\ x.c.slot < 9223372036854775808
theorem jJ (l : List UInt8) : -9223372036854775808 <= (QS l).slot /\ (QS l).slot < 9223372036854775808 := by
 have h1 := Xa l 2;have h2 := Jy l 2;unfold QS
 split
 · exact ⟨by show _ <= bt l 2; omega, by show bt l 2 < _; omega⟩
 ·split
  · exact ⟨by show _ <= (0 : Int); omega, by show (0 : Int) < _; omega⟩
  · exact ⟨by show _ <= (0 : Int); omega, by show (0 : Int) < _; omega⟩
theorem ND {p : Nat} {l : List UInt8} {Q : SpotD -> Prop} (hq : ∀ s : Nat, Z7 l s = true -> Q ⟨p, s, QS (Qm l s)⟩) : ∀ (k s : Nat), ∀ x ∈ QQ p l s k, Q x
 | 0, s, x, hx => by simp [QQ] at hx
 | k + 1, s, x, hx => by
  simp only [QQ] at hx
  split at hx
  ·rename_i hh
   rcases HH.1 hx with rfl | hx
   · exact hq s hh
   · exact ND hq k _ x hx
  · exact ND hq k _ x hx
theorem Wj {Q : SpotD -> Prop} : ∀ (rs : List (List UInt8)) (p : Nat), (∀ (i : Nat) (l : List UInt8), rs[i]? = some l -> ∀ s : Nat, Z7 l s = true -> Q ⟨p + i, s, QS (Qm l s)⟩) -> ∀ x ∈ Qh p rs, Q x
 | [], p, _, x, hx => by simp [Qh] at hx
 | l :: rs, p, h, x, hx => by
  rw [Qh] at hx
  rcases HK.1 hx with hx | hx
  · exact ND (fun s hs => h 0 l rfl s hs) _ _ x hx
  · exact Wj rs (p + 1) (fun i l' hi s hs => by
    have := h (i + 1) l' (by simpa using hi) s hs
    rw [show p + 1 + i = p + (i + 1) by omega]; exact this) x hx
theorem V0 {all : List (List UInt8)} (hr : Yj all) : ∀ x ∈ Qh 0 all, SpOk all x :=
 Wj all 0 fun i l hi s hs => ⟨NA _ ((hr l (HU hi)).2 s hs), jJ _⟩
def YZ (x y : SpotD) : Bool := (x.c.flag == 1) && ((y.c.flag == 1) && ((x.c.page == y.c.page) && (x.c.slot == y.c.slot)))
def zE : List SpotD -> List SpotD -> Bool
 | _, [] => false
 | pre, x :: l => (pre.any fun y => YZ x y) || zE (pre ++ [x]) l
theorem wH : ∀ (l pre : List SpotD), zE pre l = JD ((QF pre).map fun x => (x.at_, x.place)) (QF l)
 | [], pre => rfl
 | x :: l, pre => by
  rw [zE, wH l (pre ++ [x]), VI]
  by_cases hf : x.c.flag = 1
  ·rw [Ym hf, Ym hf, JD, Dm]
   congr 1
   induction pre with
   | nil => simp [QF]
   | cons y pre ih =>
    rw [AD, ih]
    by_cases hg : y.c.flag = 1
    ·rw [Ym hg, HS]
     have : YZ x y = decide ((x.c.page, x.c.slot) = (y.c.page, y.c.slot)) := by
      unfold YZ
      by_cases h1 : x.c.page = y.c.page <;> by_cases h2 : x.c.slot = y.c.slot <;> simp [hf, hg, h1, h2]
     rw [this];show _ = decide ((x.c.page, x.c.slot) ∈ (y.c.page, y.c.slot) :: _);simp only [HH, Bool.decide_or];rfl
    ·rw [Jq hg]
     have : YZ x y = false := by unfold YZ; simp [hg]
     rw [this, EM]
  ·rw [Jq hf, Jq hf]
   have : (pre.any fun y => YZ x y) = false := by
    rw [List.any_eq_false];intro y _;unfold YZ; simp [hf]
   rw [this, EM];simp [QF]
abbrev z10 : List S := [.int Ly 0, .int Ly 0, .int Ly 0, .int Ly 0, .int Ly 0, .int Ly 0, .int Ly 0, .int Ly 0, .int Ly 0, .str (⟨#[]⟩)]
theorem Gm {all : List (List UInt8)} (a b : Int) : mvF (QZ (Qh 0 all)) a b = (Qg all a b).bind fun c => if c.flag = 2 then some c.row else none := by
 by_cases ha : 0 <= a
 ·have := Q06 all 0 a b (by omega)
  rw [this]; simp
 ·have e : Qg all a b = none := by unfold Qg; rw [if_neg (by omega)]
  rw [e];unfold mvF;rw [Option.bind_none, Aw, Dd];intro x _;simp; omega
theorem yj {all : List (List UInt8)} (hr : Yj all) (hl : all.length <= 12) {sp : List SpotD} (hsp : ∀ x ∈ sp, SpOk all x) (hn : sp.length <= 1000) :
  Q8 (call Ev) Fn.QU [lv (sps sp), lv (bss all)] = some (iv Ly (if KW (QZ (Qh 0 all)) (QF sp) = true then 4 else if JD [] (QF sp) = true then 6 else 0)) := by
 have loop0 : ∀ (rs : List SpotD) (i : Nat), sp.drop i = rs -> ∃ h', Lp.QU 0 [lv (sps sp), lv (bss all), iv Ly i] (D 0) = some (if KW (QZ (Qh 0 all)) (QF rs) = true then .ret (iv Ly 4) h' else .done [lv (sps sp)] (D 0)) := by
  intro rs
  induction rs with
  | nil =>
   intro i hi;have := Zn hi;rw [Wu, Q1, if_neg (by simp; omega), Q6]
   exact ⟨D 0, rfl⟩
  | cons x rs ih =>
   intro i hi;obtain ⟨g1, g2, g3⟩ := Zf hi;obtain ⟨h', ih'⟩ := ih (i + 1) g2;have hx := hsp x (HU g1);rw [Wu, Q1, if_pos (by simp; omega)]
   simp only [YM g1];simp only [gx0, gx1, ob, Q2, Q1, Q6];rw [w64 (n := (i : Int) + 1) (by omega) (by omega), show (i : Int) + 1 = ((i + 1 : Nat) : Int) from by omega, ih']
   by_cases hf : x.c.flag = 1
   case neg =>
    rw [if_pos (by simpa using hf), Jq hf]
    exact ⟨h', rfl⟩
   rw [if_neg (by simpa using hf), Ym hf, Wo, pc (qU hr hl hx.b.1 hx.b.2) (by simp)]
   simp only [Za, Zb, KM, Zc, QW, gx0, gx1, ob, Q2, Z8, ln0, ln1, Hw, HA, if_true];rw [K4 (z := 8) rfl rfl, ZB (ZE _ _ _).ext, show (UE x).at_ = x.c.page from rfl, show (UE x).place = x.c.slot from rfl, Gm]
   cases hc : Qg all x.c.page x.c.slot with
   | none => exact ⟨_, rfl⟩
   | some c =>
    rw [if_neg (by simp), Xg (o := 1) (x := .int Ly c.flag) rfl]
    simp only [ob, Q2, Q1]
    by_cases h2 : c.flag = 2
    ·rw [if_neg (by simpa using h2), Uv (by simp [ZM, QR]), ih']
     refine ⟨h', ?_⟩;rw [if_pos h2];rfl
    ·rw [if_pos (by simpa using h2)]
     rw [if_neg h2];exact ⟨_, rfl⟩
 have loop4 : ∀ (i : Nat) (x : SpotD), sp[i]? = some x -> ∀ (k j : Nat), j + k = i -> Lp.QU 4 [lv (sps sp), iv Ly i, iv Ly j] (D 0) = some (if ((sp.take i).drop j).any (fun y => YZ x y) = true then .ret (iv Ly 6) (D 0) else .done [lv (sps sp), iv Ly i] (D 0)) := by
  intro i x hx k;have hi := (HF.1 hx).1
  induction k with
  | zero =>
   intro j hj;rw [Ws, Q1, if_neg (by simp; omega), Q6, ET (by rw [HV]; omega)]
   rfl
  | succ k ih =>
   intro j hj;obtain ⟨y, hy⟩ : ∃ y, sp[j]? = some y := ⟨_, HI (by omega)⟩
   have hd : (sp.take i).drop j = y :: (sp.take i).drop (j + 1) := by
    have : (sp.take i)[j]? = some y := by rw [FG]; rw [if_pos (by omega)]; exact hy
    obtain ⟨h1, h2⟩ := HF.1 this;rw [Dl h1, h2]
   rw [Ws, Q1, if_pos (by simp; omega), YM hx, YM hy, w64 (n := (j : Int) + 1) (by omega) (by omega), show (j : Int) + 1 = ((j + 1 : Nat) : Int) from by omega, Q6, ih (j + 1) (by omega), hd, AD]
   simp only [gx0, gx1, ob, Q2, Q1];unfold YZ
   by_cases h1 : x.c.flag = 1 <;> by_cases h2 : y.c.flag = 1 <;> by_cases h3 : x.c.page = y.c.page <;> by_cases h4 : x.c.slot = y.c.slot <;> simp [h1, h2, h3, h4]
 have loop2 : ∀ (rs : List SpotD) (i : Nat), sp.drop i = rs -> Lp.QU 2 [lv (sps sp), iv Ly i] (D 0) = some (if zE (sp.take i) rs = true then .ret (iv Ly 6) (D 0) else .done [] (D 0)) := by
  intro rs
  induction rs with
  | nil =>
   intro i hi;have := Zn hi;rw [Wt, Q1, if_neg (by simp; omega), Q6]
   rfl
  | cons x rs ih =>
   intro i hi;obtain ⟨g1, g2, g3⟩ := Zf hi;have ht : sp.take (i + 1) = sp.take i ++ [x] := by
    rw [List.take_add_one, g1]; rfl
   rw [Wt, Q1, if_pos (by simp; omega), show iv Ly 0 = iv Ly ((0 : Nat) : Int) from rfl, loop4 i x g1 i 0 (by omega), ob, HX, zE]
   rcases EO ((sp.take i).any fun y => YZ x y) with hq | hq
   · rw [hq, if_pos rfl, Zx]; rfl
   ·rw [hq, if_neg (by simp), Qc]
    simp only [gx0, gx1, ob, Q3, QY, Q2, Q6];rw [w64 (n := (i : Int) + 1) (by omega) (by omega), show (i : Int) + 1 = ((i + 1 : Nat) : Int) from by omega, ih (i + 1) g2, ht, EM]
 obtain ⟨h', e⟩ := loop0 sp 0 rfl;rw [VW, show iv Ly 0 = iv Ly ((0 : Nat) : Int) from rfl, e, ob]
 by_cases hm : KW (QZ (Qh 0 all)) (QF sp) = true
 · rw [if_pos hm, if_pos hm, Zx]; simp
 rw [if_neg hm, if_neg hm, Qc];simp only [gx0, ob, Q3, QY];rw [loop2 sp 0 rfl, ob, wH, CG];rw [show (FK (fun (x : SeenD) => (x.at_, x.place)) (QF [])) = [] from rfl]
 by_cases hd : JD [] (QF sp) = true
 · rw [if_pos hd, if_pos hd, Zx]; simp
 · rw [if_neg hd, if_neg hd, Qc]; simp
def YB (ms : List SpotD) (x : SpotD) : SpotD := if x.c.flag = 1 then { x with c := { x.c with row := (mvF ms x.c.page x.c.slot).getD noR } } else x
def JO (ms : List SpotD) (sp : List SpotD) : List SpotD := (sp.filter fun x => !(x.c.flag == 2)).map (YB ms)
theorem VL (ms : List SpotD) (x : SpotD) (sp : List SpotD) : JO ms (x :: sp) = if x.c.flag = 2 then JO ms sp else YB ms x :: JO ms sp := by
 unfold JO
 by_cases h : x.c.flag = 2
 · rw [FQ, if_neg (by simp [h]), if_pos h]
 · rw [FQ, if_pos (by simpa using h), if_neg h]; rfl
def QT (x : SpotD) : SeenD := if x.c.flag = 1 then ⟨x.c.row, x.p, x.s, true, x.c.page, x.c.slot⟩ else N3 x
theorem Bj (ms : List SpotD) : ∀ (sp : List SpotD), Kj ms sp = (JO ms sp).map QT
 | [] => rfl
 | x :: sp => by
  rw [Kj, VL, Bj ms sp]
  by_cases h : x.c.flag = 2
  · rw [if_pos h, if_pos h]
  ·rw [if_neg h, if_neg h, HS]
   congr 1
   unfold YB
   by_cases h1 : x.c.flag = 1
   ·rw [if_pos h1, if_pos h1]
    unfold QT;rw [if_pos h1];rfl
   ·rw [if_neg h1, if_neg h1]
    unfold QT;rw [if_neg h1]
theorem NH (ms : List SpotD) (sp : List SpotD) : (JO ms sp).length <= sp.length := by
 unfold JO; rw [DG]; exact AB _ _
theorem ka {all : List (List UInt8)} {h h1 : H} {y : S} {sp acc : List SpotD} {x : SpotD} {b i : Nat} (hn : h.n < h1.n) (hg : h1.g h.n = .rw 0 (spc x)) (w : Lz 10 h1 y (sps acc) b) (hl : acc.length <= 1000) (hi : i < 1000) :
  ∃ h2, Jn.J4 h1 h (.s y) (bss all) (sps sp) (i : Int) = Lp.ZD 0 [lv (bss all), .s (.sl (some (h1.n + 1, 0)) (acc.length + 1)), lv (sps sp), iv Ly ((i + 1 : Nat) : Int)] h2 /\ Lz 10 h2 (.sl (some (h1.n + 1, 0)) (acc.length + 1)) (sps (acc ++ [x])) (h1.n + 1) := by
 obtain ⟨h2, e, w2, n2⟩ := w.app (r := spc x) rfl (by omega) (by rw [RK]; unfold lim; omega)
 refine ⟨h2, ?_, by rw [xy, show sps [x] = [spc x] from rfl]; simpa using w2⟩
 unfold Jn.J4;rw [Xh (n := 10) hn hg (by simp)]
 simp only [HX, Za, Zb, KM, Zc, QW, gx0, gx1, ob, Q2, Z8, ln0, ln1, Hw, HA, if_true, List.take_succ_cons, CG];have e' : Zm 10 (h1.new 10 [.int Ly x.p, .int Ly x.s, .int Ly x.c.code, .int Ly x.c.flag, .int Ly x.c.page, .int Ly x.c.slot, .int Ly x.c.row.tab, .int Ly x.c.row.key, .int Ly x.c.row.val, .str x.c.row.text]) (.s y) (sv h1.n 0 1) = _ := e;rw [e', ob];dsimp only;rw [Gy (by simp [ZM, QR]; omega), w64 (n := (i : Int) + 1) (by omega) (by omega), show (i : Int) + 1 = ((i + 1 : Nat) : Int) from by omega, RK]
theorem Vc {all : List (List UInt8)} (hr : Yj all) (hl : all.length <= 12) (hm : KW (QZ (Qh 0 all)) (QF (Qh 0 all)) = false) :
  Q8 (call Ev) Fn.ZD [lv (bss all)] = some (lv (sps (JO (QZ (Qh 0 all)) (Qh 0 all)))) := by
 rw [RR, P0 hr hl];simp only [ob, Q3, QY];have hsp := V0 hr;have hlen := Yw (all := all) all 0 (fun l hl => hr.cnt hl)
 have hmv := fun a b => Gm (all := all) a b
 generalize hS : Qh 0 all = sp at hm hsp hlen;rw [hS] at hmv;generalize hM : QZ sp = ms at hm hmv;have loop : ∀ (rs : List SpotD) (i : Nat) (h : H) (y : S) (acc : List SpotD) (b : Nat), sp.drop i = rs -> Lz 10 h y (sps acc) b -> KW ms (QF rs) = false -> acc.length <= i ->
   ∃ h' y' b', Lp.ZD 0 [lv (bss all), .s y, lv (sps sp), iv Ly i] h = some (.done [.s y'] h') /\ Lz 10 h' y' (sps (acc ++ JO ms rs)) b' := by
  intro rs
  induction rs with
  | nil =>
   intro i h y acc b hi w _ _;have := Zn hi;rw [WW, Q1, if_neg (by simp; omega), Q6]
   exact ⟨h, y, b, rfl, by simpa [JO] using w⟩
  | cons x rs ih =>
   intro i h y acc b hi w hms hacc;obtain ⟨g1, g2, g3⟩ := Zf hi;have hx := hsp x (HU g1);rw [WW, Q1, if_pos (by simp; omega), YM g1, Uf (n := 10) rfl]
   simp only [Za, Zb, KM, Zc, QW, gx0, gx1, ob, Q2, Z8, ln0, ln1, Hw, HA, if_true];rw [K4 (z := 10) rfl rfl, Xg (o := 3) (x := .int Ly x.c.flag) rfl];simp only [ob, Q2, Q1];have hkx := ZE h z10 (spc x);have wX : Lz 10 (Zl h z10 (spc x)) y (sps acc) b := w.frame (HJ w.n hkx.1) (Gi w.n);rw [VL]
   by_cases f2 : x.c.flag = 2
   ·rw [if_pos (by simpa using f2), if_pos f2, Uv (by
     rw [HG, HG, w.bel]; simp [ZM, QR]), w64 (n := (i : Int) + 1) (by omega) (by omega), show (i : Int) + 1 = ((i + 1 : Nat) : Int) from by omega]
    exact ih (i + 1) h y acc b g2 w (by rw [Jq (by omega)] at hms; exact hms) (by omega)
   rw [if_neg (by simpa using f2), if_neg f2]
   by_cases f1 : x.c.flag = 1
   ·rw [Ym f1, Wo, D2] at hms
    have hmv1 : (mvF ms x.c.page x.c.slot).isNone = false := hms.1;rw [if_pos (by simpa using f1), Xg (o := 4) (x := .int Ly x.c.page) rfl]
    simp only [ob, Q2];rw [Xg (o := 5) (x := .int Ly x.c.slot) rfl];simp only [ob, Q2];rw [pc (qU hr hl hx.b.1 hx.b.2) (by simp)]
    rw [hmv] at hmv1;have hxe : YB ms x = { x with c := { x.c with row := ((Qg all x.c.page x.c.slot).getD ⟨0, 0, 0, 0, noR⟩).row } } := by
     unfold YB;rw [if_pos f1, hmv]
     cases hc : Qg all x.c.page x.c.slot with
     | none => rw [hc] at hmv1; cases hmv1
     | some c =>
      rw [hc] at hmv1
      by_cases h2 : c.flag = 2
      · rw [HC, if_pos h2]; rfl
      · rw [HC, if_neg h2] at hmv1; cases hmv1
    rw [hxe];generalize (Qg all x.c.page x.c.slot).getD ⟨0, 0, 0, 0, noR⟩ = c;simp only [Za, Zb, KM, Zc, QW, gx0, gx1, ob, Q2, Z8, ln0, ln1, Hw, HA, if_true];rw [K4 (z := 8) rfl rfl, YH (r := c.row.cs) (by simp) rfl]
    simp only [Za, Zb, KM, Zc, QW, gx0, gx1, ob, Q2, Z8, ln0, ln1, Hw, HA, if_true];generalize hA : Zl h [S.int Ly 0, .int Ly 0, .int Ly 0, .int Ly 0, .int Ly 0, .int Ly 0, .int Ly 0, .int Ly 0, .int Ly 0, .str (⟨#[]⟩)] [S.int Ly x.p, .int Ly x.s, .int Ly x.c.code, .int Ly x.c.flag, .int Ly x.c.page, .int Ly x.c.slot, .int Ly x.c.row.tab, .int Ly x.c.row.key, .int Ly x.c.row.val, .str x.c.row.text] = A;have wA : Lz 10 A y (sps acc) b := hA ▸ wX;have nA : A.n = h.n + 1 := hA ▸ XK h _ _;have gA : A.g h.n = .rw 0 (spc x) := hA ▸ JZ h _ _;generalize hB : Zl A [S.int Ly 0, .int Ly 0, .int Ly 0, .int Ly 0, .int Ly 0, .int Ly 0, .int Ly 0, .str (⟨#[]⟩)] [S.int Ly c.code, .int Ly c.flag, .int Ly c.page, .int Ly c.slot, .int Ly c.row.tab, .int Ly c.row.key, .int Ly c.row.val, .str c.row.text] = B;have kB : K6 A B := hB ▸ ZE A _ _;have nB : B.n = A.n + 1 := hB ▸ XK A _ _;have gB : B.g h.n = .rw 0 (spc x) := ((kB.2 h.n (by omega)).1).trans gA
    rw [Zq (z := 4) (e := 0) (o := 6) (b := h.n) (cs := spc x) (r := c.row.cs) (by omega) gB (.inr rfl) rfl (by simp)]
    rw [show setAt (spc x) 6 c.row.cs = spc { x with c := { x.c with row := c.row } } from rfl]
    have hwn := w.n;have wC : Lz 10 (B.put h.n (.rw 0 (spc { x with c := { x.c with row := c.row } }))) y (sps acc) b := wA.frame (by rw [Qq]; omega) (by rw [QG (by omega)]; exact (kB.2 b (by omega)).1)
    obtain ⟨h2, e2, w2⟩ := ka (all := all) (sp := sp) (h := h) (x := { x with c := { x.c with row := c.row } }) (i := i) (by rw [Qq]; omega) (Z9 _ _ _) wC (by omega) (by omega)
    rw [e2];obtain ⟨h3, y3, b3, e3, w3⟩ := ih (i + 1) h2 _ _ _ g2 w2 hms.2 (by rw [HO, CE]; omega)
    exact ⟨h3, y3, b3, e3, by simpa using w3⟩
   ·rw [Jq f1] at hms
    rw [if_neg (by simpa using f1), show YB ms x = x from if_neg f1]
    have hwn := w.n;obtain ⟨h2, e2, w2⟩ := ka (all := all) (sp := sp) (h := h) (h1 := Zl h z10 (spc x)) (x := x) (i := i) (by rw [XK]; omega) (JZ _ _ _) wX (by omega) (by omega)
    have e2' : Jn.J4 (Zl h [S.int Ly 0, .int Ly 0, .int Ly 0, .int Ly 0, .int Ly 0, .int Ly 0, .int Ly 0, .int Ly 0, .int Ly 0, .str (⟨#[]⟩)] [S.int Ly x.p, .int Ly x.s, .int Ly x.c.code, .int Ly x.c.flag, .int Ly x.c.page, .int Ly x.c.slot, .int Ly x.c.row.tab, .int Ly x.c.row.key, .int Ly x.c.row.val, .str x.c.row.text]) h (.s y) (bss all) (sps sp) (i : Int) = _ := e2;rw [e2'];obtain ⟨h3, y3, b3, e3, w3⟩ := ih (i + 1) h2 _ _ _ g2 w2 hms (by rw [HO, CE]; omega)
    exact ⟨h3, y3, b3, e3, by simpa using w3⟩
 have w0 : Lz 10 ((D 0).new 10 []) (.sl (some (0, 0)) 0) (sps []) 0 := ⟨rfl, by simp, QI (D 0) 10 [], by simp [sps]⟩
 obtain ⟨h', y, b, e, w⟩ := loop sp 0 _ _ [] 0 rfl w0 hm (by simp)
 rw [show iv Ly 0 = iv Ly ((0 : Nat) : Int) from rfl, e, ob, Qc]
 simp only [gx0, ob];have := w.frz (d := 7) (by omega) qx
 rw [Y1, this]; simp
end Vm
namespace Vm
open Go Go.Sort
def M0 (x y : SpotD) : Bool := (x.c.row.tab == y.c.row.tab) && (x.c.row.key == y.c.row.key)
def TE : List SpotD -> List SpotD -> Bool
 | _, [] => false
 | pre, x :: l => (pre.any fun y => M0 x y) || TE (pre ++ [x]) l
theorem UV (x : SpotD) : (QT x).r = x.c.row := by
 unfold QT; split <;> rfl
theorem wF : ∀ (l pre : List SpotD), ¬ K3 (pre.map QT) -> (TE pre l = true ↔ K3 ((pre ++ l).map QT))
 | [], pre, h => by
  rw [List.append_nil];exact ⟨fun hh => (by cases hh), fun hh => absurd hh h⟩
 | x :: l, pre, h => by
  rw [TE, Bool.or_eq_true];have hn := DE.1 h;have e : pre ++ x :: l = (pre ++ [x]) ++ l := by simp
  have hsym : ∀ y : SpotD, YC (QT y) (QT x) = M0 x y := fun y => by
   unfold YC M0;rw [UV, UV];rw [Cz];simp only [HE, decide_eq_true_eq, beq_iff_eq];exact ⟨fun h => ⟨h.1.symm, h.2.symm⟩, fun h => ⟨h.1.symm, h.2.symm⟩⟩
  by_cases hq : (pre.any fun y => M0 x y) = true
  ·refine ⟨fun _ => ?_, fun _ => .inl hq⟩
   obtain ⟨y, hy, hs⟩ := List.any_eq_true.1 hq;unfold K3;intro hp;rw [Dm] at hp;have := (DZ.1 hp).2.2 (QT y) (HR.2 ⟨y, hy, rfl⟩) (QT x) (by simp)
   rw [hsym, hs] at this
   cases this
  ·have hd : ¬ K3 ((pre ++ [x]).map QT) := by
    unfold K3;rw [DE, Dm];refine DZ.2 ⟨hn, by simp, ?_⟩
    intro a ha c hc;obtain ⟨y, hy, rfl⟩ := HR.1 ha;simp only [HS, List.map_nil, HT] at hc;subst hc;rw [hsym];have : ∀ y ∈ pre, ¬ M0 x y = true := by simpa using hq
    simpa using this y hy
   rw [e, <- wF l (pre ++ [x]) hd];simp [hq]
theorem P3 {all : List (List UInt8)} (hl : all.length <= maxLen) : Q8 (call Ev) Fn.Zt [lv (bss all)] = some (iv Ly (ZF all)) := by
 rw [VY, XP, Q1];unfold ZF
 by_cases h12 : 12 < all.length
 · rw [if_pos (by simp; omega), if_pos h12]
 rw [if_neg (by simp; omega), if_neg h12, pc (yk hl) rfl]
 simp only [Q3, Q2, Q1]
 by_cases hc : XL all = 0
 case neg => rw [if_pos (by simpa using hc), if_pos hc]
 rw [if_neg (by simpa using hc), if_neg (by simpa using hc)]
 have hr := MV hc;have hl12 : all.length <= 12 := by omega
 have hsp := V0 hr;have hlen := Yw (all := all) all 0 (fun l hl => hr.cnt hl)
 rw [P0 hr hl12];simp only [ob, Q3, QY];rw [pc (yj hr hl12 hsp (by omega)) rfl]
 simp only [Q3, Q2, Q1];unfold G9
 by_cases hm : KW (QZ (Qh 0 all)) (QF (Qh 0 all)) = true
 · rw [if_pos hm, if_pos hm, if_pos (by decide)]
 rw [if_neg hm, if_neg hm]
 by_cases hd : JD [] (QF (Qh 0 all)) = true
 · rw [if_pos hd, if_pos hd, if_pos (by decide)]
 rw [if_neg hd, if_neg hd, if_neg (by decide), Vc hr hl12 (by simpa using hm)]
 simp only [ob, Q3, QY];rw [Bj];have hpl := NH (QZ (Qh 0 all)) (Qh 0 all);generalize JO (QZ (Qh 0 all)) (Qh 0 all) = sp at hpl;have hn : sp.length <= 1000 := by omega
 have loop2 : ∀ (i : Nat) (x : SpotD), sp[i]? = some x -> ∀ (k j : Nat), j + k = i -> Lp.Zt 2 [lv (sps sp), iv Ly i, iv Ly j] (D 0) = some (if ((sp.take i).drop j).any (fun y => M0 x y) = true then .ret (iv Ly 8) (D 0) else .done [lv (sps sp), iv Ly i] (D 0)) := by
  intro i x hx k;have hi := (HF.1 hx).1
  induction k with
  | zero =>
   intro j hj;rw [Wy, Q1, if_neg (by simp; omega), Q6, ET (by rw [HV]; omega)]
   rfl
  | succ k ih =>
   intro j hj;obtain ⟨y, hy⟩ : ∃ y, sp[j]? = some y := ⟨_, HI (by omega)⟩
   have hd : (sp.take i).drop j = y :: (sp.take i).drop (j + 1) := by
    have : (sp.take i)[j]? = some y := by rw [FG]; rw [if_pos (by omega)]; exact hy
    obtain ⟨h1, h2⟩ := HF.1 this;rw [Dl h1, h2]
   rw [Wy, Q1, if_pos (by simp; omega)]
   simp only [YM hx, YM hy];rw [w64 (n := (j : Int) + 1) (by omega) (by omega), show (j : Int) + 1 = ((j + 1 : Nat) : Int) from by omega, Q6, ih (j + 1) (by omega), hd, AD]
   simp only [gx0, gx1, ob, Q2, Q1];unfold M0
   by_cases h3 : x.c.row.tab = y.c.row.tab <;> by_cases h4 : x.c.row.key = y.c.row.key <;> simp [h3, h4]
 have loop0 : ∀ (rs : List SpotD) (i : Nat), sp.drop i = rs -> Lp.Zt 0 [lv (sps sp), iv Ly i] (D 0) = some (if TE (sp.take i) rs = true then .ret (iv Ly 8) (D 0) else .done [] (D 0)) := by
  intro rs
  induction rs with
  | nil =>
   intro i hi;have := Zn hi;rw [Wz, Q1, if_neg (by simp; omega), Q6]
   rfl
  | cons x rs ih =>
   intro i hi;obtain ⟨g1, g2, g3⟩ := Zf hi;have ht : sp.take (i + 1) = sp.take i ++ [x] := by
    rw [List.take_add_one, g1]; rfl
   rw [Wz, Q1, if_pos (by simp; omega), show iv Ly 0 = iv Ly ((0 : Nat) : Int) from rfl, loop2 i x g1 i 0 (by omega), ob, HX, TE]
   rcases EO ((sp.take i).any fun y => M0 x y) with hq | hq
   · rw [hq, if_pos rfl, Zx]; rfl
   ·rw [hq, if_neg (by simp), Qc]
    simp only [gx0, gx1, ob, Q3, QY, Q2, Q6];rw [w64 (n := (i : Int) + 1) (by omega) (by omega), show (i : Int) + 1 = ((i + 1 : Nat) : Int) from by omega, ih (i + 1) g2, ht, EM]
 rw [show iv Ly 0 = iv Ly ((0 : Nat) : Int) from rfl, loop0 sp 0 rfl, ob, CG]
 have hk := wF sp [] (by unfold K3; simp)
 rw [EI] at hk
 by_cases hq : TE [] sp = true
 · rw [if_pos hq, if_pos (hk.1 hq), Zx]; simp
 · rw [if_neg hq, if_neg (fun h => hq (hk.2 h)), Qc]; simp
end Vm
namespace Vm
open Go Go.Sort
@[simp] theorem xz (l : List SeenD) : (snl l).length = l.length := by simp [snl]
theorem ke {R : Type} {l : List SeenD} {i : Nat} {x : SeenD} {k : List S -> Option R} (h : l[i]? = some x) : QB 9 (snl l) (i : Int) k = k x.cs := UZ (by simp [snl, h]) rfl
theorem ui {h : H} {x : SeenD} {b : Bool} : QL h (.tup [.agg x.cs, .s (.bool b)]) = some (.tup [.agg x.cs, .s (.bool b)]) := by simp [KY, Yf]
theorem uh {h : H} {x : SpotD} {b : Bool} : QL h (.tup [.agg (spc x), .s (.bool b)]) = some (.tup [.agg (spc x), .s (.bool b)]) := by simp [KY, Yf]
def isK (t k : Int) (r : RowD) : Bool := (r.tab == t) && (r.key == k)
def noS : SeenD := ⟨noR, 0, 0, false, 0, 0⟩
def noP : SpotD := ⟨0, 0, ⟨0, 0, 0, 0, noR⟩⟩
theorem Pj {x : SeenD} {l : List SeenD} {t k : Int} : (x :: l).find? (fun x => isK t k x.r) = if isK t k x.r = true then some x else l.find? (fun x => isK t k x.r) := by
 rw [List.find?_cons]; cases isK t k x.r <;> rfl
theorem yt {all : List SeenD} {t k : Int} (hl : all.length <= maxLen) : Q8 (call Ev) Fn.Ks [lv (snl all), iv Ly t, iv Ly k] = some (.tup [.agg ((all.find? fun x => isK t k x.r).getD noS).cs, .s (.bool (all.find? fun x => isK t k x.r).isSome)]) := by
 unfold maxLen at hl;rw [qO, xz];have hH0 : ((D 0).new 0 z9).g 0 = .rw 0 z9 := QI (D 0) 0 z9;have loop : ∀ (rs : List SeenD) (i : Nat), all.drop i = rs -> ∃ h', Lp.Ks 0 [iv Ly t, iv Ly k, pv 0 0, lv (snl all), iv Ly all.length, iv Ly i] ((D 0).new 0 z9) = some (match rs.find? (fun x => isK t k x.r) with | some x => .ret (.tup [.agg x.cs, .s (.bool true)]) h' | none => .done [pv 0 0] ((D 0).new 0 z9)) := by
  intro rs
  induction rs with
  | nil =>
   intro i hi;have := Zn hi;rw [Me, Q1, if_neg (by simp; omega), Q6]
   exact ⟨D 0, rfl⟩
  | cons x rs ih =>
   intro i hi;obtain ⟨g1, g2, g3⟩ := Zf hi;obtain ⟨h', ih'⟩ := ih (i + 1) g2;generalize hG : (D 0).new 0 z9 = G at hH0 ih' ⊢;have gn : G.n = 1 := by rw [<- hG]; simp
   rw [Me, Q1, if_pos (by simp; omega), ke g1, Uf (n := 9) rfl]
   simp only [Za, Zb, KM, Zc, QW, gx0, gx1, ob, Q2, Z8, ln0, ln1, Hw, HA, if_true];rw [K4 (z := 9) rfl rfl, Xg (o := 0) (x := .int Ly x.r.tab) rfl];simp only [ob, Q2];rw [Xg (o := 1) (x := .int Ly x.r.key) rfl];simp only [ob, Q2];have hk := ZE G z9 x.cs;have jn : ∀ q, ∃ h2, Jn.J2 q (Zl G z9 x.cs) G (pv 0 0) t k (snl all) (all.length : Int) (i : Int) = some (if q = true then .ret (.tup [.agg x.cs, .s (.bool true)]) h2 else (match rs.find? (fun x => isK t k x.r) with | some x => .ret (.tup [.agg x.cs, .s (.bool true)]) h' | none => .done [pv 0 0] G)) := by
    intro q;unfold Jn.J2;rw [Q1]
    cases q
    ·refine ⟨D 0, ?_⟩
     rw [if_neg (by simp), Uv (by simp [ZM, QR, gn]), w64 (n := (i : Int) + 1) (by omega) (by omega), show (i : Int) + 1 = ((i + 1 : Nat) : Int) from by omega, ih']
     rfl
    ·rw [if_pos rfl, YH (r := x.cs) (by simp) rfl]
     simp only [Za, Zb, KM, Zc, QW, gx0, gx1, ob, Q2, Z8, ln0, ln1, Hw, HA, if_true];have g0 : (Zl G z9 x.cs).g 0 = .rw 0 z9 := ((hk.2 0 (by omega)).1).trans hH0
     rw [Zq (z := 9) (e := 0) (o := 0) (b := 0) (cs := z9) (r := x.cs) (by rw [XK]; omega) g0 (.inr rfl) rfl (by simp)]
     unfold ldT;simp only [cond_true];rw [Xh (n := 9) (by rw [Qq, XK]; omega) (Z9 _ _ _) (by rw [show setAt z9 0 x.cs = x.cs from rfl]; simp), ob]
     exact ⟨_, rfl⟩
   rw [Pj];obtain ⟨h2, e2⟩ := jn (x.r.key == k);obtain ⟨h3, e3⟩ := jn false;have e2' : Jn.J2 (x.r.key == k) (Zl G [.int Ly 0, .int Ly 0, .int Ly 0, .str (⟨#[]⟩), .int Ly 0, .int Ly 0, .bool false, .int Ly 0, .int Ly 0] [.int Ly x.r.tab, .int Ly x.r.key, .int Ly x.r.val, .str x.r.text, .int Ly x.page, .int Ly x.slot, .bool x.moved, .int Ly x.at_, .int Ly x.place]) G (pv 0 0) t k (snl all) (all.length : Int) (i : Int) = _ := e2;have e3' : Jn.J2 false (Zl G [.int Ly 0, .int Ly 0, .int Ly 0, .str (⟨#[]⟩), .int Ly 0, .int Ly 0, .bool false, .int Ly 0, .int Ly 0] [.int Ly x.r.tab, .int Ly x.r.key, .int Ly x.r.val, .str x.r.text, .int Ly x.page, .int Ly x.slot, .bool x.moved, .int Ly x.at_, .int Ly x.place]) G (pv 0 0) t k (snl all) (all.length : Int) (i : Int) = _ := e3;rw [Q1, e2', e3'];unfold isK
   by_cases h1 : x.r.tab = t
   ·rw [if_pos (by simpa using h1)]
    by_cases h4 : x.r.key = k
    ·rw [if_pos (by simpa using h4)]
     refine ⟨h2, ?_⟩;rw [if_pos (by simp [h1, h4])]
    ·rw [if_neg (by simpa using h4)]
     refine ⟨h', ?_⟩;rw [if_neg (by simp [h1, h4])]
   ·rw [if_neg (by simpa using h1), if_neg (by simp)]
    refine ⟨h', ?_⟩;rw [if_neg (by simp [h1])]
 obtain ⟨h', e⟩ := loop all 0 rfl;have e' : Lp.Ks 0 [iv Ly t, iv Ly k, pv 0 0, lv (snl all), iv Ly all.length, iv Ly 0] ((D 0).new 0 [.int Ly 0, .int Ly 0, .int Ly 0, .str (⟨#[]⟩), .int Ly 0, .int Ly 0, .bool false, .int Ly 0, .int Ly 0]) = _ := e;rw [e', ob]
 cases all.find? (fun x => isK t k x.r) with
 | some x =>
  dsimp only;rw [Zx, ui]; rfl
 | none =>
  dsimp only;rw [Qc];simp only [gx0, ob];rw [Zq (z := 9) (e := 0) (o := 0) (b := 0) (cs := z9) (r := z9) (by simp) hH0 (.inr rfl) rfl (by simp)]
  unfold ldT;simp only [cond_true];rw [Xh (n := 9) (by simp) (Z9 _ _ _) (by rw [show setAt z9 0 z9 = z9 from rfl]; simp), ob]
  simp [KY, Yf, V.toA, noS, noR, setAt]
theorem qT {all : List SpotD} {ps : List (List S)} {t k : Int} (hs : Q8 (call Ev) Fn.ZD [lv ps] = some (lv (sps all))) (hl : all.length <= maxLen) : Q8 (call Ev) Fn.XR [lv ps, iv Ly t, iv Ly k] = some (.tup [.agg (spc ((all.find? fun x => isK t k x.c.row).getD noP)), .s (.bool (all.find? fun x => isK t k x.c.row).isSome)]) := by
 unfold maxLen at hl;rw [RS, hs];simp only [ob, Q3, QY];generalize hG : (D 0).new 0 [S.int Ly 0, .int Ly 0, .int Ly 0, .int Ly 0, .int Ly 0, .int Ly 0, .int Ly 0, .int Ly 0, .int Ly 0, .str (⟨#[]⟩)] = G;have hH0 : G.g 0 = .rw 0 z10 := hG ▸ QI (D 0) 0 z10;have gn : G.n = 1 := by rw [<- hG]; simp
 have loop : ∀ (rs : List SpotD) (i : Nat), all.drop i = rs -> ∃ h', Lp.XR 0 [iv Ly t, iv Ly k, pv 0 0, lv (sps all), iv Ly i] G = some (match rs.find? (fun x => isK t k x.c.row) with | some x => .ret (.tup [.agg (spc x), .s (.bool true)]) h' | none => .done [pv 0 0] G) := by
  intro rs
  induction rs with
  | nil =>
   intro i hi;have := Zn hi;rw [WX, Q1, if_neg (by simp; omega), Q6]
   exact ⟨D 0, rfl⟩
  | cons x rs ih =>
   intro i hi;obtain ⟨g1, g2, g3⟩ := Zf hi;obtain ⟨h', ih'⟩ := ih (i + 1) g2;rw [WX, Q1, if_pos (by simp; omega)]
   simp only [YM g1];simp only [gx0, gx1, ob, Q2];have jn : ∀ q, ∃ h2, Jn.JJ q (sps all) (i : Int) G (pv 0 0) t k = some (if q = true then .ret (.tup [.agg (spc x), .s (.bool true)]) h2 else (match rs.find? (fun x => isK t k x.c.row) with | some x => .ret (.tup [.agg (spc x), .s (.bool true)]) h' | none => .done [pv 0 0] G)) := by
    intro q;unfold Jn.JJ;rw [Q1]
    cases q
    ·refine ⟨D 0, ?_⟩
     rw [if_neg (by simp), Q6, w64 (n := (i : Int) + 1) (by omega) (by omega), show (i : Int) + 1 = ((i + 1 : Nat) : Int) from by omega, ih']
     rfl
    ·rw [if_pos rfl, YM g1, Uf (n := 10) rfl]
     simp only [Za, Zb, KM, Zc, QW, gx0, gx1, ob, Q2, Z8, ln0, ln1, Hw, HA, if_true];rw [Zq (z := 10) (e := 0) (o := 0) (b := 0) (cs := z10) (r := spc x) (by omega) hH0 (.inr rfl) rfl (by simp)]
     unfold ldT;simp only [cond_true];rw [Xh (n := 10) (by rw [Qq]; omega) (Z9 _ _ _) (by rw [show setAt z10 0 (spc x) = spc x from rfl]; simp), ob]
     exact ⟨_, rfl⟩
   obtain ⟨h2, e2⟩ := jn (x.c.row.key == k);obtain ⟨h3, e3⟩ := jn false;rw [Q1, e2, e3, List.find?_cons];unfold isK
   by_cases h1 : x.c.row.tab = t
   ·rw [if_pos (by simpa using h1)]
    by_cases h4 : x.c.row.key = k
    ·rw [if_pos (by simpa using h4)]
     refine ⟨h2, ?_⟩;rw [show ((x.c.row.tab == t) && (x.c.row.key == k)) = true by simp [h1, h4]]
    ·rw [if_neg (by simpa using h4)]
     refine ⟨h', ?_⟩;rw [show ((x.c.row.tab == t) && (x.c.row.key == k)) = false by simp [h4]]
   ·rw [if_neg (by simpa using h1), if_neg (by simp)]
    refine ⟨h', ?_⟩;rw [show ((x.c.row.tab == t) && (x.c.row.key == k)) = false by simp [h1]]
 obtain ⟨h', e⟩ := loop all 0 rfl;rw [show iv Ly 0 = iv Ly ((0 : Nat) : Int) from rfl, e, ob]
 cases all.find? (fun x => isK t k x.c.row) with
 | some x =>
  dsimp only;rw [Zx, uh]; rfl
 | none =>
  dsimp only;rw [Qc];simp only [gx0, ob];rw [Zq (z := 10) (e := 0) (o := 0) (b := 0) (cs := z10) (r := z10) (by omega) hH0 (.inr rfl) rfl (by simp)]
  unfold ldT;simp only [cond_true];rw [Xh (n := 10) (by rw [Qq]; omega) (Z9 _ _ _) (by rw [show setAt z10 0 z10 = z10 from rfl]; simp), ob]
  simp [KY, Yf, V.toA, noP, noR, setAt]
theorem Pi {t k : Int} : ∀ {l : List SeenD} {x : SeenD}, ¬ K3 l -> x ∈ l -> isK t k x.r = true -> l.find? (fun x => isK t k x.r) = some x
 | [], x, _, h, _ => by simp at h
 | y :: l, x, hd, h, hk => by
  have hp := DE.1 hd;rw [Pj]
  by_cases hy : isK t k y.r = true
  ·rw [if_pos hy]
   rcases HH.1 h with rfl | h
   · rfl
   ·have := List.rel_of_pairwise_cons hp h
    unfold isK at hk hy;unfold YC at this;simp at hk hy this;omega
  ·rw [if_neg hy]
   rcases HH.1 h with rfl | h
   · exact absurd hk hy
   · exact Pi (fun hh => hh (List.Pairwise.of_cons hp)) h hk
theorem yU {t k : Int} {l m : List SeenD} (hp : l.Perm m) (hd : ¬ K3 m) : l.find? (fun x => isK t k x.r) = m.find? (fun x => isK t k x.r) := by
 cases hm : m.find? (fun x => isK t k x.r) with
 | some x =>
  exact Pi (fun h => hd ((WI hp).1 h)) (hp.mem_iff.2 (List.mem_of_find?_eq_some hm)) (List.find?_some (p := fun x : SeenD => isK t k x.r) hm)
 | none =>
  rw [Dd] at hm ⊢;exact fun x hx => hm x (hp.mem_iff.1 hx)
theorem us {t k : Int} (sp : List SpotD) : (sp.map QT).find? (fun x => isK t k x.r) = (sp.find? fun x => isK t k x.c.row).map QT := by
 rw [List.find?_map]
 congr 2
 funext x
 simp only [Function.comp_apply, UV]
theorem Yk {ps : List (List UInt8)} (h : ZF ps = 0) : ps.length <= 12 /\ Yj ps /\ KW (QZ (Qh 0 ps)) (QF (Qh 0 ps)) = false /\ ¬ K3 (Kj (QZ (Qh 0 ps)) (Qh 0 ps)) := by
 unfold ZF at h
 by_cases h12 : 12 < ps.length
 · rw [if_pos h12] at h; cases h
 rw [if_neg h12] at h
 by_cases hc : XL ps = 0
 case neg => rw [if_pos hc] at h; exact absurd h hc
 rw [if_neg (by simpa using hc)] at h
 unfold G9 at h
 by_cases hm : KW (QZ (Qh 0 ps)) (QF (Qh 0 ps)) = true
 · rw [if_pos hm] at h; cases h
 rw [if_neg hm] at h
 by_cases hd : JD [] (QF (Qh 0 ps)) = true
 · rw [if_pos hd] at h; cases h
 rw [if_neg hd] at h
 by_cases hk : K3 (Kj (QZ (Qh 0 ps)) (Qh 0 ps))
 · rw [if_pos hk] at h; cases h
 exact ⟨by omega, MV hc, by simpa using hm, hk⟩
def Zg (ps : List (List UInt8)) : List SpotD := JO (QZ (Qh 0 ps)) (Qh 0 ps)
theorem NI {ps : List (List UInt8)} (h : ZF ps = 0) : (Zg ps).length <= 192 := by
 obtain ⟨h1, h2, _⟩ := Yk h;have := Yw (all := ps) ps 0 (fun l hl => h2.cnt hl)
 have := NH (QZ (Qh 0 ps)) (Qh 0 ps);unfold Zg;omega
theorem MO {ps : List (List UInt8)} (h : ZF ps = 0) : Ji ps = MR ((Zg ps).map QT) /\ ¬ K3 ((Zg ps).map QT) := by
 obtain ⟨h1, h2, h3, h4⟩ := Yk h;unfold Ji Zg;rw [if_pos h, <- Bj];exact ⟨rfl, h4⟩
theorem GX (ps : List (List UInt8)) : (Ji ps).length <= 192 := by
 by_cases h : ZF ps = 0
 ·rw [(MO h).1, (Wi _).length_eq, DG]
  exact NI h
 · unfold Ji; rw [if_neg h]; simp
theorem xJ {ps : List (List UInt8)} (h : ZF ps = 0) : Q8 (call Ev) Fn.ZD [lv (bss ps)] = some (lv (sps (Zg ps))) := by
 obtain ⟨h1, h2, h3, h4⟩ := Yk h;exact Vc h2 h1 h3
theorem jL (x : SpotD) : (QT x).page = x.p /\ (QT x).slot = x.s := by
 unfold QT; split <;> exact ⟨rfl, rfl⟩
def yd (c : Int) (x : SeenD) : List S := [.int Ly c, .int Ly x.page, .int Ly x.slot, .int Ly x.r.tab, .int Ly x.r.key, .int Ly x.r.val, .str x.r.text]
noncomputable def Ys (ps : List (List UInt8)) (t k : Int) : Int := if ZF ps ≠ 0 then ZF ps else if (inB t 0 3 && inB k 1 99) = false then 3 else if ((Ji ps).find? fun x => isK t k x.r).isSome then 0 else 4
noncomputable def Q2t (ps : List (List UInt8)) (t k : Int) : SeenD := if Ys ps t k = 0 then ((Ji ps).find? fun x => isK t k x.r).getD noS else noS
theorem xL (t k : Int) : Q8 (call Ev) Fn.Gb [iv Ly t, iv Ly k] = some (bv (inB t 0 3 && inB k 1 99)) := by
 rw [PD, pc (j8 _ _ _) rfl];simp only [Q3, QW];rw [Q1]
 cases inB t 0 3
 · rfl
 · rw [if_pos rfl, pc (j8 _ _ _) rfl]; simp
theorem yu {ps : List (List UInt8)} {t k : Int} (hl : ps.length <= maxLen) : Q8 (call Ev) Fn.GJ [lv (bss ps), iv Ly t, iv Ly k] = some (.agg (yd (Ys ps t k) (Q2t ps t k))) := by
 rw [R9, yf hl];simp only [Za, gx0, gx1, ob, Zc, Q2, QY, ln0, ln1, Hw, HA, if_true];rw [Q1];unfold Q2t Ys
 by_cases hc : ZF ps = 0
 case neg => rw [if_pos (by simpa using hc), if_pos hc, if_neg hc]; rfl
 rw [if_neg (by simpa using hc), if_neg (by simpa using hc), pc (xL t k) rfl]
 simp only [Q3, QW];rw [Q1]
 rcases EO (inB t 0 3 && inB k 1 99) with hk | hk
 case inr => rw [hk, if_pos (by simp), if_pos rfl, if_neg (by decide)]; rfl
 rw [hk, if_neg (by simp), if_neg (by simp), pc (yt (by have := GX ps; unfold maxLen; omega)) (by simp)]
 generalize (Ji ps).find? (fun x => isK t k x.r) = r
 simp only [Za, Zb, KM, Zc, QW, gx0, gx1, ob, Q2, Z8, ln0, ln1, Hw, HA, if_true];rw [Q1]
 cases r with
 | none => rfl
 | some x => rfl
end Vm
namespace Vm
open Go
def ctN (f : Nat -> Bool) : Nat -> Nat
 | 0 => 0
 | n + 1 => ctN f n + if f n then 1 else 0
theorem TF {f : Nat -> Bool} {low : Nat} (h : ∀ y, y < low -> f y = false) : ∀ n, ctN f n <= n - low
 | 0 => by simp [ctN]
 | n + 1 => by
  have ih := TF h n;unfold ctN
  by_cases hn : n < low
  · rw [h n hn]; simp; omega
  · split <;> omega
theorem TG {f g : Nat -> Bool} : ∀ n, (∀ y, y < n -> f y = g y) -> ctN f n = ctN g n
 | 0, _ => rfl
 | n + 1, h => by unfold ctN; rw [TG n fun y hy => h y (by omega), h n (by omega)]
theorem kC {f : Nat -> Bool} {x : Nat} (hx : f x = false) : ∀ n, ctN (fun y => f y || y == x) n = ctN f n + if x < n then 1 else 0
 | 0 => by simp [ctN]
 | n + 1 => by
  have ih := kC (f := f) hx n;unfold ctN;rw [ih]
  by_cases hn : n = x
  · subst hn; simp [hx]
  ·have : (n == x) = false := by simpa using hn
   rw [this];have e : (if x < n + 1 then 1 else 0) = (if x < n then 1 else 0 : Nat) := by
    by_cases hlt : x < n
    · rw [if_pos hlt, if_pos (by omega)]
    · rw [if_neg hlt, if_neg (by omega)]
   rw [e, Bool.or_false]; omega
theorem kA {f : Nat -> Bool} {P N : Nat} : ∀ Q, P + Q <= N -> (∀ y, P <= y -> y < P + Q -> f y = false) -> ctN (fun y => f y || (decide (P <= y) && decide (y < P + Q))) N = ctN f N + Q
 | 0, _, _ => by
  rw [DI, DI];exact TG N fun y _ => by
   have : (decide (P <= y) && decide (y < P)) = false := by simp
   rw [this, Bool.or_false]
 | Q + 1, h1, h2 => by
  have ih := kA (f := f) (P := P) (N := N) Q (by omega) fun y a b => h2 y a (by omega)
  have hx : (fun y => f y || (decide (P <= y) && decide (y < P + Q))) (P + Q) = false := by
   simp [h2 (P + Q) (by omega) (by omega)]
  have := kC (f := fun y => f y || (decide (P <= y) && decide (y < P + Q))) (x := P + Q) hx N
  rw [if_pos (by omega), ih] at this
  refine Eq.trans ?_ (this.trans (Nat.add_assoc _ _ _));exact TG N fun y _ => by
   by_cases hy : y = P + Q
   · subst hy; simp
   ·have e1 : (y == P + Q) = false := by simpa using hy
    have e2 : decide (y < P + (Q + 1)) = decide (y < P + Q) := by rw [Cz]; simp; omega
    rw [e1, e2]; simp
def QX (l : List UInt8) : Nat -> Nat
 | 0 => 0
 | i + 1 => QX l i + (siz l i).toNat
theorem Q0h {l : List UInt8} (hp : QH l = 0) : ∀ i, i <= cnt l -> ∃ f : Nat -> Bool, (∀ y, f y = true ↔ ∃ j, j < i /\ cov l j y) /\ ctN f 64 = QX l i := by
 obtain ⟨h64, ⟨g1, g2, g3⟩, h3, h4, _⟩ := Qv hp;intro i
 induction i with
 | zero =>
  intro _;refine ⟨fun _ => false, fun y => by simp, ?_⟩
  have := TF (f := fun _ => false) (low := 64) (fun _ _ => rfl) 64
  simp only [QX]; omega
 | succ i ih =>
  intro hi;obtain ⟨f, f1, f2⟩ := ih (by omega)
  have q := Xl l i;obtain ⟨s1, s2, s3, _, _⟩ := Gh hp (k := i) (by omega)
  obtain ⟨P, hP⟩ : ∃ P : Nat, plc l i = P := ⟨(plc l i).toNat, by omega⟩
  obtain ⟨Q, hQ⟩ : ∃ Q : Nat, siz l i = Q := ⟨(siz l i).toNat, by omega⟩
  refine ⟨fun y => f y || (decide (P <= y) && decide (y < P + Q)), fun y => ?_, ?_⟩
  ·simp only [Bool.or_eq_true, HE, decide_eq_true_eq]
   constructor
   ·rintro (hh | hh)
    · obtain ⟨j, hj, hc⟩ := (f1 y).1 hh; exact ⟨j, by omega, hc⟩
    · exact ⟨i, by omega, by unfold cov; omega⟩
   ·rintro ⟨j, hj, hc⟩
    by_cases hji : j = i
    · subst hji; right; unfold cov at hc; omega
    · left; exact (f1 y).2 ⟨j, by omega, hc⟩
  ·rw [kA Q (by omega) fun y a b => ?_, f2]
   · simp [QX, hQ]
   ·cases hf : f y with
    | false => rfl
    | true =>
     exfalso;obtain ⟨j, hj, hc⟩ := (f1 y).1 hf;have ha := h4 i j (by omega) hj
     unfold ZC at ha;unfold cov at hc;have qj := Xl l j;omega
theorem UW {l : List UInt8} (hp : QH l = 0) {i : Nat} (hi : i <= cnt l) : (QX l i : Int) <= 64 - bt l 1 := by
 obtain ⟨h64, ⟨g1, g2, g3⟩, h3, h4, _⟩ := Qv hp;have b1 := Xa l 1;obtain ⟨f, f1, f2⟩ := Q0h hp i hi;have hlow : ∀ y, y < (bt l 1).toNat -> f y = false := fun y hy => by
  cases hf : f y with
  | false => rfl
  | true =>
   exfalso;obtain ⟨j, hj, hc⟩ := (f1 y).1 hf;have hs := h3 j (by omega)
   unfold ZK at hs;unfold cov at hc;have qj := Xl l j
   split at hs <;> omega
 have := TF hlow 64;omega
end Vm
namespace Vm
open Go
def lay (out : List UInt8) (a : Nat) (m : List UInt8) : List UInt8 := out.take a ++ m ++ out.drop (a + m.length)
theorem YI {out m : List UInt8} {a : Nat} (h : a + m.length <= out.length) : (lay out a m).length = out.length := by
 unfold lay;simp only [HO, HV, EK]; omega
theorem xW {out m : List UInt8} {a j : Nat} (hj : j < a) (h : a + m.length <= out.length) : (lay out a m)[j]? = out[j]? := by
 unfold lay;rw [FA, HZ (by rw [HV]; omega), FG, if_pos hj]
theorem jQ {out m : List UInt8} {a : Nat} : setAt (out.map QA) a (m.map QA) = (lay out a m).map QA := by
 unfold setAt lay;simp [List.map_take, List.map_drop]
theorem uV {R : Type} {h : H} {N b a : Nat} {out : List UInt8} {kd : IntKind} {k : V -> Option R} (w : BysW h (sv b 0 N) out b) (ha : a <= out.length) : slK 1 h (sv b 0 N) (some (iv kd (a : Int))) none k = k (sv b a (out.length - a)) := by
 have hN := w.len;subst hN;have hok : okE h 1 b = true := by simp [okE, w.n, w.g]
 simp only [slK, slS, HC, ML ha, hok, if_true, Hw, Nat.mul_one]
theorem wJ {h : H} {N b a n : Nat} {out m : List UInt8} (w : BysW h (sv b 0 N) out b) (hn : a + n <= out.length) (hm : m.length <= n) : Vw 1 h (sv b a n) (lv (bys m)) = some (iv Ly m.length, h.put b (.rw 1 ((lay out a m).map QA))) := by
 have hb := w.n;have hg := w.g;simp only [Vw, Ps, HC, Uh, Xe, if_pos hb, hg, Nat.mul_one];rw [if_pos (by simpa using hn), show Nat.min m.length n = m.length from Ey hm, Fz (by simp), jQ]
theorem Q09 {h : H} {N b a : Nat} {out m : List UInt8} (w : BysW h (sv b 0 N) out b) (hm : a + m.length <= out.length) : BysW (h.put b (.rw 1 ((lay out a m).map QA))) (sv b 0 N) (lay out a m) b :=
 ⟨by rw [w.v, YI hm], w.n, Z9 _ _ _⟩
end Vm
namespace Vm
open Go
theorem W6 {m : List UInt8} (hm : m.length <= lim) (n : Nat) : ∃ v h', call Ev Fn.XV [lv (bys m)] (D n) = some (v, h') /\ NewB n h' v m (some (n + 1)) /\ h'.n = n + 2 := by
 have e : call Ev Fn.XV [lv (bys m)] (D n) = call Ev Fn.XZ [lv (bys m)] (D n) := by rw [Tq, MH]
 rw [e]; exact Yt hm n
end Vm
namespace Vm
open Go
theorem B7 {l : List UInt8} (hl : l.length <= lim) (n : Nat) : ∃ G : H, (∀ (R : Type) (off : Bool) (k : V -> H -> Option R), Qj (call Ev) Fn.XV off [lv (bys l)] (D n) k = k (sv (n + 1) 0 l.length) G) /\ G.n = n + 2 /\ (∀ s ∈ (G.g n).cells, ZL s = true) /\ BysW G (sv (n + 1) 0 l.length) l (n + 1) := by
 obtain ⟨v, h1, e1, w1, n1⟩ := W6 (m := l) hl n;have hv := (show BysW h1 v l (n + 1) from w1.own).v
 subst hv;have hle : (D n).n <= h1.n := w1.le;have z1 := w1.z;refine ⟨(D n).over h1, fun R off k => ?_, by rw [Xb hle, n1], fun s hs => ?_, ⟨rfl, by rw [Xb hle]; omega, by rw [KL (by simp)]; exact (show BysW h1 _ l (n + 1) from w1.own).g⟩⟩
 · rw [pF (h := D n) (h1 := h1) (v := sv (n + 1) 0 l.length) e1 ⟨rfl, w1.z⟩]
 ·rw [KL (by simp)] at hs
  exact z1 n (Hx _) (by omega) s hs
theorem NewB.of {G h' : H} {n : Nat} {v : V} {m : List UInt8} (gn : G.n = n + 2) (gz : ∀ s ∈ (G.g n).cells, ZL s = true) (o : Oth (n + 1) G h') (w : BysW h' v m (n + 1)) : NewB n h' v m (some (n + 1)) :=
 ⟨w, by rw [o.1]; omega, fun b hb => by cases hb; omega, fun b h2 h3 s hs => by
  rw [o.1, gn] at h3
  by_cases hb : b = n
  ·subst hb
   rw [(o.2 b (by omega)).1] at hs
   exact gz s hs
  ·have hb2 : b = n + 1 := by omega
   subst hb2;rw [w.g] at hs;obtain ⟨c, _, rfl⟩ := HR.1 hs;rfl⟩
theorem NewB.nil {G : H} {n : Nat} (gn : n <= G.n) (gz : ∀ b, n <= b -> b < G.n -> ∀ s ∈ (G.g b).cells, ZL s = true) : NewB n G (.s (.sl none 0)) [] none :=
 ⟨⟨rfl, rfl⟩, gn, fun b hb => (by cases hb), gz⟩
theorem BysW.scz {G : H} {n : Nat} {v : V} {m : List UInt8} (gn : G.n = n + 2) (gz : ∀ s ∈ (G.g n).cells, ZL s = true) (w : BysW G v m (n + 1)) : ∀ b, n <= b -> b < G.n -> ∀ s ∈ (G.g b).cells, ZL s = true :=
 (NewB.of gn gz (Oth.refl _ _) w).z
end Vm
namespace Vm
open Go
def Yg (l : List UInt8) : Nat -> Nat
 | 0 => 0
 | n + 1 => if siz l n = 0 then Yg l n else n + 1
theorem qk (l : List UInt8) : ∀ n, Yg l n <= n
 | 0 => Hx _
 | n + 1 => by unfold Yg; split <;> first | exact Hx _ | exact HL (qk l n) (Nat.le_succ _)
def J8 (l : List UInt8) (n : Nat) : List UInt8 := l.set 0 (HB n)
theorem Pt {l : List UInt8} {i j : Nat} {c : UInt8} (h : i ≠ j) : bt (l.set i c) (j : Int) = bt l (j : Int) := by
 unfold bt;rw [FT, EN (by simpa using h)]; rfl
theorem Pu {l : List UInt8} {i : Nat} {c : UInt8} (h : i < l.length) : bt (l.set i c) (i : Int) = (c.toNat : Int) := by
 unfold bt;rw [FT, HQ, List.getElem?_set_self h]; rfl
theorem Rv {l : List UInt8} {n : Nat} (hl : 0 < l.length) (hn : n < 256) : bt (J8 l n) 0 = n := by
 have := Pu (l := l) (i := 0) (c := HB n) hl;unfold J8;rw [show (0 : Int) = ((0 : Nat) : Int) from rfl, this]
 simp; omega
theorem Vx {l : List UInt8} {n k : Nat} : siz (J8 l n) k = siz l k := by
 unfold siz J8; exact Pt (by omega)
theorem KC {l : List UInt8} {n : Nat} : (J8 l n).length = l.length := by simp [J8]
theorem Pp {l : List UInt8} {n m : Nat} : (J8 l n).set 0 (HB m) = J8 l m := by simp [J8]
theorem yF {l : List UInt8} {b N : Nat} : ∀ (n : Nat) (h : H), n <= 16 -> 64 <= l.length -> BysW h (sv b 0 N) (J8 l n) b ->
  ∃ h', Lp.XU 0 [sv b 0 N] h = some (.done [sv b 0 N] h') /\ BysW h' (sv b 0 N) (J8 l (Yg l n)) b /\ Oth b h h' := by
 intro n
 induction n with
 | zero =>
  intro h hn hl w;have hN := w.len;have c0 := Rv (l := l) (n := 0) (by omega) (by omega)
  rw [KC] at hN;rw [WZ, show iv Ly 0 = iv Ly ((0 : Nat) : Int) from rfl, Z3 (by omega), w.get (by rw [KC]; omega) rfl]
  simp only [Q3, Q2, Q1];rw [show ((0 : Nat) : Int) = 0 from rfl, c0, if_neg (by simp), Q6]
  exact ⟨h, rfl, w, Oth.refl _ _⟩
 | succ n ih =>
  intro h hn hl w;have hN := w.len;have c0 := Rv (l := l) (n := n + 1) (by omega) (by omega)
  have w' := w;rw [KC] at hN;have g0 : ∀ {R : Type} {k : V -> Option R}, ldK (.one (.i LA)) ⟨1, 1, [.int LA 0], false, .int LA, false⟩ h (pv b (0 * 1)) k = k (iv LA ((n + 1 : Nat) : Int)) := fun {R k} => by
   rw [w.get (by rw [KC]; omega) rfl, show ((0 : Nat) : Int) = 0 from rfl, c0]
  rw [WZ, show iv Ly 0 = iv Ly ((0 : Nat) : Int) from rfl, Z3 (by omega), g0]
  simp only [Q3, Q2, Q1];rw [if_pos (by simp), Z3 (by omega), g0]
  simp only [Q3, Q2];rw [w64 (n := ((n + 1 : Nat) : Int)) (by omega) (by omega), w64 (by omega) (by omega), show ((n + 1 : Nat) : Int) - 1 = (n : Int) from by omega, Qa (Jd (ob := some b) w) (Qa XG QE), Vm.ob]
  rw [Z2, pc (K9 (by rw [KC]; omega) (by omega)) rfl, Vx]
  simp only [Q3, Q2, Q1];unfold Yg
  by_cases hs : siz l n = 0
  ·rw [if_pos (by simpa using hs), if_pos hs, Z3 (by omega), g0]
   simp only [Q3, Q2];rw [Z3 (by omega), show ((n + 1 : Nat) : Int) - 1 = (n : Int) from by omega, w.set (c := HB n) (by rw [KC]; omega) (by rw [w8 (by omega) (by omega)]; simp; omega), Gx w.n]
   have w2 := w.set_w (i := 0) (c := HB n);rw [Pp] at w2 ⊢;obtain ⟨h', e1, e2, e3⟩ := ih _ (by omega) hl w2
   exact ⟨h', e1, e2, Oth.put.trans e3⟩
  ·rw [if_neg (by simpa using hs), if_neg hs, Q6]
   exact ⟨h, rfl, w, Oth.refl _ _⟩
theorem Q0Q {l : List UInt8} {b N : Nat} {q : Int} {p : V} : ∀ (n : Nat) (h : H), n <= 16 -> 64 <= l.length -> BysW h (sv b 0 N) (J8 l n) b ->
  ∃ h', Lp.XB 0 [iv Ly q, p, sv b 0 N] h = some (.done [iv Ly q, p, sv b 0 N] h') /\ BysW h' (sv b 0 N) (J8 l (Yg l n)) b /\ Oth b h h' := by
 intro n
 induction n with
 | zero =>
  intro h hn hl w;have hN := w.len;have c0 := Rv (l := l) (n := 0) (by omega) (by omega)
  rw [KC] at hN;rw [UU, show iv Ly 0 = iv Ly ((0 : Nat) : Int) from rfl, Z3 (by omega), w.get (by rw [KC]; omega) rfl]
  simp only [Q3, Q2, Q1];rw [show ((0 : Nat) : Int) = 0 from rfl, c0, if_neg (by simp), Q6]
  exact ⟨h, rfl, w, Oth.refl _ _⟩
 | succ n ih =>
  intro h hn hl w;have hN := w.len;have c0 := Rv (l := l) (n := n + 1) (by omega) (by omega)
  rw [KC] at hN;have g0 : ∀ {R : Type} {k : V -> Option R}, ldK (.one (.i LA)) ⟨1, 1, [.int LA 0], false, .int LA, false⟩ h (pv b (0 * 1)) k = k (iv LA ((n + 1 : Nat) : Int)) := fun {R k} => by
   rw [w.get (by rw [KC]; omega) rfl, show ((0 : Nat) : Int) = 0 from rfl, c0]
  rw [UU, show iv Ly 0 = iv Ly ((0 : Nat) : Int) from rfl, Z3 (by omega), g0]
  simp only [Q3, Q2, Q1];rw [if_pos (by simp), Z3 (by omega), g0]
  simp only [Q3, Q2];rw [w64 (n := ((n + 1 : Nat) : Int)) (by omega) (by omega), w64 (n := 2 * ((n + 1 : Nat) : Int)) (by omega) (by omega), w64 (by omega) (by omega), show 2 * ((n + 1 : Nat) : Int) + 1 = ((3 + 2 * n : Nat) : Int) from by omega, Z3 (by omega), w.get (by rw [KC]; omega) rfl]
  have hz : bt (J8 l (n + 1)) ((3 + 2 * n : Nat) : Int) = siz l n := Vx;simp only [Q3, Q2, Q1, hz];unfold Yg
  by_cases hs : siz l n = 0
  ·rw [if_pos (by simpa using hs), if_pos hs, Z3 (by omega), g0]
   simp only [Q3, Q2];rw [Z3 (by omega), show ((n + 1 : Nat) : Int) - 1 = (n : Int) from by omega, w.set (c := HB n) (by rw [KC]; omega) (by rw [w8 (by omega) (by omega)]; simp; omega), Gx w.n]
   have w2 := w.set_w (i := 0) (c := HB n);rw [Pp] at w2 ⊢;obtain ⟨h', e1, e2, e3⟩ := ih _ (by omega) hl w2
   exact ⟨h', e1, e2, Oth.put.trans e3⟩
  ·rw [if_neg (by simpa using hs), if_neg hs, Q6]
   exact ⟨h, rfl, w, Oth.refl _ _⟩
def KN (l : List UInt8) (k : Nat) : List UInt8 := ((l.set (2 + 2 * k) 0).set (3 + 2 * k) 0)
def Z4 (l : List UInt8) (k : Nat) : List UInt8 := J8 (KN l k) (Yg (KN l k) (cnt l))
theorem Mf {l : List UInt8} {k : Nat} : (KN l k).length = l.length := by simp [KN]
theorem KK {l : List UInt8} {k : Nat} : (Z4 l k).length = l.length := by simp [Z4, KC, Mf]
theorem Pn {l : List UInt8} {k : Nat} (hl : 0 < l.length) : J8 (KN l k) (cnt l) = KN l k := by
 unfold J8;have h0 : (KN l k)[0]? = some (HB (cnt l)) := by
  unfold KN;rw [EN (by omega), EN (by omega), HI hl]
  congr 1
  have := Xd l;unfold bt at this;rw [FT, HI (by simpa using hl), Option.getD_some] at this
  have h2 : (l[0]).toNat = cnt l := by simp at this; omega
  rw [<- h2]; simp
 obtain ⟨h1, h2⟩ := HF.1 h0;rw [<- h2];exact OO h1
theorem zv {l : List UInt8} {k : Nat} (h64 : l.length = 64) (hc : cnt l <= 16) (hk : k < cnt l) (n : Nat) : ∃ h', call Ev Fn.XU [lv (bys l), iv Ly k] (D n) = some (sv (n + 1) 0 64, h') /\ NewB n h' (sv (n + 1) 0 64) (Z4 l k) (some (n + 1)) /\ h'.n = n + 2 := by
 obtain ⟨G, e1, gn, gz, w⟩ := B7 (l := l) (by unfold lim; omega) n
 rw [Tp, e1];rw [w64 (n := 2 * (k : Int)) (by omega) (by omega), w64 (by omega) (by omega), w64 (by omega) (by omega), show 2 + 2 * (k : Int) = ((2 + 2 * k : Nat) : Int) from by omega, show 3 + 2 * (k : Int) = ((3 + 2 * k : Nat) : Int) from by omega, Z3 (by omega), w.set (c := 0) (x := 0) (by omega) rfl, Z3 (by omega), (w.set_w).set (c := 0) (x := 0) (by simp; omega) rfl]
 have w3 := (w.set_w (i := 2 + 2 * k) (c := 0)).set_w (i := 3 + 2 * k) (c := 0);have o3 : Oth (n + 1) G ((G.put (n + 1) (Blk.rw 1 (FK QA (l.set (2 + 2 * k) 0)))).put (n + 1) (Blk.rw 1 (FK QA ((l.set (2 + 2 * k) 0).set (3 + 2 * k) 0)))) := Oth.put.trans Oth.put;generalize (G.put (n + 1) (Blk.rw 1 (FK QA (l.set (2 + 2 * k) 0)))).put (n + 1) (Blk.rw 1 (FK QA ((l.set (2 + 2 * k) 0).set (3 + 2 * k) 0))) = K at w3 o3 ⊢;have w4 : BysW K (sv (n + 1) 0 l.length) (J8 (KN l k) (cnt l)) (n + 1) := by rw [Pn (by omega)]; exact w3
 obtain ⟨h', e2, e3, e4⟩ := yF (cnt l) _ hc (by rw [Mf]; omega) w4
 rw [e2, Vm.ob, Qc];simp only [gx0, Vm.ob];rw [h64] at e3 ⊢;exact ⟨h', rfl, NewB.of gn gz (o3.trans e4) e3, by rw [(o3.trans e4).1, gn]⟩
end Vm
namespace Vm
open Go
theorem xS {e b : Nat} {h : H} {x y z : S} (hb : b < h.n) (hg : h.g b = .rw e [x, y, z]) : Qp 3 h (pv b 0) = some [x, y, z] := Xh hb hg (by simp)
theorem Q0i {R : Type} {h : H} {x y z a b c : S} {k : H -> Option R} : stK 3 (h.new 0 [a, b, c]) (pv h.n 0) (.agg [x, y, z]) k = k ((h.new 0 [a, b, c]).put h.n (.rw 0 [x, y, z])) :=
 Zq (z := 3) (e := 0) (o := 0) (b := h.n) (cs := [a, b, c]) (r := [x, y, z]) (by simp) (QI _ _ _) (.inr rfl) rfl (by simp)
theorem Q2D (n : Nat) (c : Int) : ∃ h', (stK 3 ((D n).new 0 [.int Ly 0, .int Ly 0, .sl none 0]) (pv ((D n).n) 0) (.agg [.int Ly c, .int Ly 0, .sl none 0]) fun h105 =>
   (Qp 3 h105 (pv ((D n).n) 0)).bind fun c106 => some (V.agg c106, h105)) = some (.agg [.int Ly c, .int Ly 0, .sl none 0], h') /\ NewB n h' (.s (.sl none 0)) [] none := by
 rw [Q0i, xS (by simp) (by exact zo), Vm.ob]
 refine ⟨_, rfl, ⟨rfl, rfl⟩, by simp, by simp, fun b h1 h2 s hs => ?_⟩
 have h3 : b = n := by simp at h2; omega
 subst h3;have e : (((D b).new 0 [.int Ly 0, .int Ly 0, .sl none 0]).put (D b).n (.rw 0 [.int Ly c, .int Ly 0, .sl none 0])).g b = .rw 0 [.int Ly c, .int Ly 0, .sl none 0] := zo;rw [e] at hs;simp only [Blk.cells, HH, EL, or_false] at hs
 rcases hs with rfl | rfl | rfl <;> rfl
end Vm
namespace Vm
open Go
def Mt (l : List UInt8) (i : Nat) (s : List UInt8 × Nat) : List UInt8 × Nat :=
 if siz l i = 0 then s else ((lay s.1 (s.2 - (Qm l i).length) (Qm l i)).set (2 + 2 * i) (HB (s.2 - (Qm l i).length)), s.2 - (Qm l i).length)
def cmp (l : List UInt8) : Nat -> Nat -> List UInt8 × Nat -> List UInt8 × Nat
 | 0, _, s => s
 | k + 1, i, s => cmp l k (i + 1) (Mt l i s)
theorem Nl {l : List UInt8} (hp : QH l = 0) {k : Nat} (hk : k < cnt l) : (Qm l k).length = (siz l k).toNat := by
 obtain ⟨s1, s2, s3, _, _⟩ := Gh hp hk;obtain ⟨h64, _⟩ := Qv hp;unfold Qm;rw [EK, HV]; omega
structure Cmp (l : List UInt8) (i : Nat) (s : List UInt8 × Nat) : Prop where
 len : s.1.length = 64
 low : s.2 + QX l i = 64
 sz : ∀ j, j < cnt l -> s.1[3 + 2 * j]? = l[3 + 2 * j]?
theorem Cmp.step {l : List UInt8} {i : Nat} {s : List UInt8 × Nat} (c : Cmp l i s) (hp : QH l = 0) (hi : i < cnt l) : Cmp l (i + 1) (Mt l i s) /\ (siz l i ≠ 0 -> (Qm l i).length <= s.2 /\ 2 + 2 * cnt l <= s.2 - (Qm l i).length /\ s.2 - (Qm l i).length + (Qm l i).length <= s.1.length) := by
 have hl := Nl hp hi;obtain ⟨s1, s2, s3, _, _⟩ := Gh hp hi;have hb := UW hp (i := i + 1) (by omega)
 obtain ⟨h64, ⟨g1, g2, g3⟩, _⟩ := Qv hp;have hlow := c.low;have hc := Xd l;have hlen := c.len;simp only [QX] at hb;unfold Mt
 by_cases hs : siz l i = 0
 ·rw [if_pos hs]
  exact ⟨⟨c.len, by simp only [QX, hs]; simpa using hlow, c.sz⟩, fun h => absurd hs h⟩
 ·rw [if_neg hs]
  have hle : s.2 - (Qm l i).length + (Qm l i).length <= s.1.length := by omega
  refine ⟨⟨by simp only [HN]; rw [YI hle, hlen], by simp only [QX]; omega, fun j hj => ?_⟩, fun _ => ⟨by omega, by omega, hle⟩⟩
  simp only;rw [EN (by omega), xW (by omega) hle]
  exact c.sz j hj
theorem kG {l : List UInt8} (hp : QH l = 0) : ∀ (k i : Nat) (s : List UInt8 × Nat), i + k = cnt l -> Cmp l i s -> Cmp l (cnt l) (cmp l k i s)
 | 0, i, s, hi, c => by
  obtain rfl : i = cnt l := by omega
  exact c
 | k + 1, i, s, hi, c => kG hp k (i + 1) _ (by omega) (c.step hp (by omega)).1
theorem M5 {h : H} {b i a : Nat} {out m : List UInt8} (w : BysW h (sv b 0 64) out b) (h64 : out.length = 64) (hi : i < 16) (ha : a + m.length <= 64) :
  ∃ h', call Ev Fn.JA [sv b 0 64, iv Ly i, iv Ly a, lv (bys m)] h = some (.tup [], h') /\ BysW h' (sv b 0 64) (((lay out a m).set (2 + 2 * i) (HB a)).set (3 + 2 * i) (HB m.length)) b /\ Oth b h h' := by
 rw [Rq, uV w (by omega), wJ w (by omega) (by omega), ob]
 simp only [Q3, Q2, Xi, Xe];have w2 := Q09 w (a := a) (m := m) (by omega)
 have hl := YI (out := out) (m := m) (a := a) (by omega)
 rw [w64 (n := 2 * (i : Int)) (by omega) (by omega), w64 (n := 2 + 2 * (i : Int)) (by omega) (by omega), w64 (n := 3 + 2 * (i : Int)) (by omega) (by omega), show 2 + 2 * (i : Int) = ((2 + 2 * i : Nat) : Int) from by omega, show 3 + 2 * (i : Int) = ((3 + 2 * i : Nat) : Int) from by omega, Z3 (by omega),
  w2.set (c := HB a) (by omega) (by rw [w8 (by omega) (by omega)]; simp; omega)]
 have w3 := w2.set_w (i := 2 + 2 * i) (c := HB a);have o3 : Oth b h ((h.put b (.rw 1 ((lay out a m).map QA))).put b (.rw 1 (((lay out a m).set (2 + 2 * i) (HB a)).map QA))) := Oth.put.trans Oth.put;generalize (h.put b (.rw 1 ((lay out a m).map QA))).put b (.rw 1 (((lay out a m).set (2 + 2 * i) (HB a)).map QA)) = K at w3 o3 ⊢;simp only [ob, Q3, Q2];rw [Z3 (by omega), w3.set (c := HB m.length) (by simp; omega) (by rw [w8 (by omega) (by omega)]; simp; omega)]
 exact ⟨_, rfl, w3.set_w, o3.trans Oth.put⟩
theorem yG {l : List UInt8} {b : Nat} (hp : QH l = 0) : ∀ (k i : Nat) (h : H) (s : List UInt8 × Nat), i + k = cnt l -> Cmp l i s -> BysW h (sv b 0 64) s.1 b ->
  ∃ h', Lp.Zy 0 [lv (bys l), iv Ly (cnt l), sv b 0 64, iv Ly s.2, iv Ly i] h = some (.done [sv b 0 64, iv Ly (cmp l k i s).2] h') /\ BysW h' (sv b 0 64) (cmp l k i s).1 b /\ Oth b h h' := by
 obtain ⟨h64, ⟨g1, g2, g3⟩, _⟩ := Qv hp;have hc := Xd l;intro k
 induction k with
 | zero =>
  intro i h s hi c w;obtain rfl : i = cnt l := by omega
  rw [UI, Q1, if_neg (by simp), Q6]
  exact ⟨h, rfl, w, Oth.refl _ _⟩
 | succ k ih =>
  intro i h s hi c w;obtain ⟨c', cb⟩ := c.step hp (by omega)
  have hlen := c.len;have hl64 : s.2 <= 64 := by have := c.low; omega
  rw [UI, Q1, if_pos (by simp; omega), pc (K9 (by omega) (by omega)) rfl]
  simp only [Q3, Q2, Q1];rw [w64 (n := (i : Int) + 1) (by omega) (by omega), show (i : Int) + 1 = ((i + 1 : Nat) : Int) from by omega]
  unfold cmp
  by_cases hs : siz l i = 0
  ·have e : Mt l i s = s := by unfold Mt; rw [if_pos hs]
   rw [e] at c' ⊢;rw [if_pos (by simp [hs]), Q6]
   exact ih (i + 1) h s (by omega) c' w
  ·obtain ⟨b1, b2, b3⟩ := cb hs
   have hl := Nl hp (k := i) (by omega)
   have e : Mt l i s = ((lay s.1 (s.2 - (Qm l i).length) (Qm l i)).set (2 + 2 * i) (HB (s.2 - (Qm l i).length)), s.2 - (Qm l i).length) := by unfold Mt; rw [if_neg hs]
   rw [if_neg (by simpa using hs), MX hp (by omega), ob]
   simp only [Q3, QY, Xe];rw [w64 (n := (s.2 : Int) - ((Qm l i).length : Int)) (by omega) (by omega), show (s.2 : Int) - ((Qm l i).length : Int) = ((s.2 - (Qm l i).length : Nat) : Int) from by omega]
   obtain ⟨K, e1, w3, o3⟩ := M5 (i := i) (a := s.2 - (Qm l i).length) (m := Qm l i) w hlen (by omega) (by omega)
   rw [e1, ob];have same : ((lay s.1 (s.2 - (Qm l i).length) (Qm l i)).set (2 + 2 * i) (HB (s.2 - (Qm l i).length))).set (3 + 2 * i) (HB (Qm l i).length) = (lay s.1 (s.2 - (Qm l i).length) (Qm l i)).set (2 + 2 * i) (HB (s.2 - (Qm l i).length)) := by
    have hg : ((lay s.1 (s.2 - (Qm l i).length) (Qm l i)).set (2 + 2 * i) (HB (s.2 - (Qm l i).length)))[3 + 2 * i]? = some (HB (Qm l i).length) := by
     rw [EN (by omega), xW (by omega) b3, c.sz i (by omega), HI (by omega)]
     congr 1
     have hz : siz l i = ((l[3 + 2 * i]'(by omega)).toNat : Int) := by
      unfold siz bt;rw [HQ, FT, HI (by omega)]; rfl
     rw [hl, hz, HQ]; simp
    obtain ⟨q1, q2⟩ := HF.1 hg;rw [<- q2];exact OO q1
   rw [same] at w3;dsimp only;rw [o3.tidy w.n, o3.tidy w.n];rw [e] at c' ⊢;obtain ⟨h', e1, e2, e3⟩ := ih (i + 1) K _ (by omega) c' w3
   exact ⟨h', e1, e2, o3.trans e3⟩
end Vm
namespace Vm
open Go
def KP (l : List UInt8) : Int := 62 - 2 * bt l 0 - QX l (cnt l)
section
variable {l : List UInt8} (hp : QH l = 0)
include hp
theorem kj : 0 <= KP l /\ KP l <= 62 := by
 have := UW hp (i := cnt l) (Hx _);obtain ⟨h64, ⟨g1, g2, g3⟩, _⟩ := Qv hp;have := Xa l 0;unfold KP; omega
theorem jM {i : Nat} (hi : i < cnt l) : (QX l (i + 1) : Int) = QX l i + siz l i := by
 have := (Xl l i).2.2.1;simp only [QX]; omega
theorem qV : Q8 (call Ev) Fn.XS [lv (bys l)] = some (iv Ly (KP l)) := by
 obtain ⟨h64, ⟨g1, g2, g3⟩, _⟩ := Qv hp;have b2 := Xa l 0;have hc := Xd l;have loop : ∀ (k i : Nat), i + k = cnt l -> Lp.XS 0 [lv (bys l), iv Ly (62 - 2 * bt l 0 - QX l i), iv Ly i] (D 0) = some (.done [iv Ly (KP l)] (D 0)) := by
  intro k
  induction k with
  | zero =>
   intro i hi;obtain rfl : i = cnt l := by omega
   rw [WY, pc (Xx (by omega)) rfl]
   simp only [Q3, Q2, Q1];rw [if_neg (by simp; omega), Q6]; rfl
  | succ k ih =>
   intro i hi;have h1 := jM hp (i := i) (by omega)
   have h2 := UW hp (i := i + 1) (by omega)
   have h3 := (Xl l i).2.2;have h4 := Xa l 1;rw [WY, pc (Xx (by omega)) rfl]
   simp only [Q3, Q2, Q1];rw [if_pos (by simp; omega), pc (K9 (by omega) (by omega)) rfl]
   simp only [Q3, Q2];rw [w64 (by omega) (by omega), w64 (by omega) (by omega), Q6, show (i : Int) + 1 = ((i + 1 : Nat) : Int) from by omega, show 62 - 2 * bt l 0 - (QX l i : Int) - siz l i = 62 - 2 * bt l 0 - (QX l (i + 1) : Int) from by omega]
   exact ih (i + 1) (by omega)
 have := loop (cnt l) 0 (by omega)
 simp only [QX, Int.sub_zero, Int.ofNat_zero, Int.natCast_zero] at this;rw [RW, pc (Xx (by omega)) rfl]
 simp only [Q3, Q2];rw [w64 (n := 2 * bt l 0) (by omega) (by omega), w64 (by omega) (by omega), this]
 simp
end
end Vm
namespace Vm
open Go
def wrC (l : List UInt8) (i a : Nat) (m : List UInt8) : List UInt8 := ((lay l a m).set (2 + 2 * i) (HB a)).set (3 + 2 * i) (HB m.length)
theorem Gf {l m : List UInt8} {i a : Nat} (h : a + m.length <= l.length) : (wrC l i a m).length = l.length := by
 unfold wrC; simp only [HN]; exact YI h
end Vm
namespace Vm
open Go
theorem PY {l m : List UInt8} {k a : Nat} {c : UInt8} (ha : 2 <= a) (hl : a <= l.length) : wrC (l.set 1 c) k a m = (wrC l k a m).set 1 c := by
 have e : lay (l.set 1 c) a m = (lay l a m).set 1 c := by
  unfold lay;rw [CH (by omega), List.take_set, FA, FA, OQ _ _ (by rw [HV]; omega)]
 unfold wrC;rw [e, CI c (HB a) (show 1 ≠ 2 + 2 * k by omega), CI c (HB m.length) (show 1 ≠ 3 + 2 * k by omega)]
noncomputable def Jb (l : List UInt8) (i : Int) (m : List UInt8) : Int × Int × List UInt8 :=
 if QH l ≠ 0 then (QH l, 0, []) else if inB m.length 1 20 = false then (1, 0, []) else if Z7 l i = false then (4, 0, []) else
 if (m.length : Int) <= siz l i.toNat then (0, i, wrC l i.toNat (plc l i.toNat + siz l i.toNat - m.length).toNat m) else
 if KP l + siz l i.toNat < m.length then (9, 0, []) else if bt l 1 - m.length < 2 + 2 * bt l 0 then (8, 0, []) else
 (0, i, (wrC l i.toNat (bt l 1 - m.length).toNat m).set 1 (HB (bt l 1 - m.length).toNat))
theorem km {l m : List UInt8} {k : Nat} (hp : QH l = 0) (hk : k < cnt l) (hs : inB m.length 1 20 = true) (hb : Z7 l (k : Int) = true) (n : Nat) :
  ∃ y h' o, call Ev Fn.Yy [lv (bys l), iv Ly k, lv (bys m)] (D n) = some (.tup [.s y, .s (.int Ly (Jb l k m).1)], h') /\ NewB n h' (.s y) (Jb l k m).2.2 o := by
 obtain ⟨h64, ⟨g1, g2, g3⟩, _⟩ := Qv hp;obtain ⟨s1, s2, s3, s4, s5⟩ := Gh hp hk;have hc := Xd l;have hm := X4.1 hs;have hf := kj hp;obtain ⟨G, e1, gn, gz, w⟩ := B7 (l := l) (by unfold lim; omega) n
 rw [PJ, pc (K9 s4 s5) rfl];simp only [Q3, Q2];rw [e1];rw [h64] at w;unfold Jb;rw [if_neg (by simp [hp]), if_neg (by simp [hs]), if_neg (by simp [hb]), HQ]
 simp only [Q1, Xe, h64]
 by_cases c1 : (m.length : Int) <= siz l k
 ·rw [if_pos (by simpa using c1), if_pos c1, pc (Yo (by omega) s5) rfl]
  simp only [Q3, Q2];rw [w64 (n := plc l k + siz l k) (by omega) (by omega), w64 (by omega) (by omega), show plc l k + siz l k - (m.length : Int) = ((plc l k + siz l k - (m.length : Int)).toNat : Int) from by omega]
  obtain ⟨K, e2, w3, o3⟩ := M5 (i := k) (a := (plc l k + siz l k - (m.length : Int)).toNat) (m := m) w h64 (by omega) (by omega)
  rw [e2, ob];dsimp only;rw [o3.tidy w.n];simp only [V.toA, ob];exact ⟨_, K, _, rfl, NewB.of gn gz o3 w3⟩
 rw [if_neg (by simpa using c1), if_neg c1, pc (qV hp) rfl]
 simp only [Q3, Q2, Q1];rw [w64 (n := KP l + siz l k) (by omega) (by omega)]
 by_cases c2 : KP l + siz l k < m.length
 ·rw [if_pos (by simpa using c2), if_pos c2]
  exact ⟨_, G, none, rfl, NewB.nil (by omega) (w.scz gn gz)⟩
 rw [if_neg (by simpa using c2), if_neg c2, pc (MA (by omega)) rfl]
 simp only [Q3, Q2];have b2 := Xa l 0;rw [pc (Xx (by omega)) rfl]
 simp only [Q3, Q2, Q1];rw [w64 (n := 2 * bt l 0) (by omega) (by omega), w64 (n := 2 + 2 * bt l 0) (by omega) (by omega), w64 (n := bt l 1 - (m.length : Int)) (by omega) (by omega)]
 by_cases c3 : bt l 1 - m.length < 2 + 2 * bt l 0
 ·rw [if_pos (by simpa using c3), if_pos c3]
  exact ⟨_, G, none, rfl, NewB.nil (by omega) (w.scz gn gz)⟩
 rw [if_neg (by simpa using c3), if_neg c3]
 rw [show bt l 1 - (m.length : Int) = ((bt l 1 - (m.length : Int)).toNat : Int) from by omega, show iv Ly 1 = iv Ly ((1 : Nat) : Int) from rfl, Z3 (by omega), w.set (c := HB (bt l 1 - (m.length : Int)).toNat) (by omega) (by rw [w8 (by omega) (by omega)]; simp; omega)]
 have w2 := w.set_w (i := 1) (c := HB (bt l 1 - (m.length : Int)).toNat);have o2 : Oth (n + 1) G (G.put (n + 1) (.rw 1 ((l.set 1 (HB (bt l 1 - (m.length : Int)).toNat)).map QA))) := Oth.put;generalize G.put (n + 1) (.rw 1 ((l.set 1 (HB (bt l 1 - (m.length : Int)).toNat)).map QA)) = F at w2 o2 ⊢;obtain ⟨K, e2, w3, o3⟩ := M5 (i := k) (a := (bt l 1 - (m.length : Int)).toNat) (m := m) w2 (by simp [h64]) (by omega) (by omega)
 rw [e2, ob];dsimp only;rw [o3.tidy w2.n];simp only [V.toA, ob];have e3 : ((lay (l.set 1 (HB (bt l 1 - (m.length : Int)).toNat)) (bt l 1 - (m.length : Int)).toNat m).set (2 + 2 * k) (HB (bt l 1 - (m.length : Int)).toNat)).set (3 + 2 * k) (HB m.length) = (wrC l k (bt l 1 - (m.length : Int)).toNat m).set 1 (HB (bt l 1 - (m.length : Int)).toNat) := PY (by omega) (by omega)
 rw [e3] at w3;exact ⟨_, K, _, rfl, NewB.of gn gz (o2.trans o3) (by simpa using w3)⟩
end Vm
namespace Vm
open Go
end Vm
namespace Vm
open Go
end Vm
namespace Vm
open Go
noncomputable def WT (l : List UInt8) : Nat -> Nat -> Nat
 | 0, i => i
 | q + 1, i => if siz l i = 0 then i else WT l q (i + 1)
theorem kw (l : List UInt8) : ∀ (q i : Nat), i <= WT l q i /\ WT l q i <= i + q
 | 0, i => ⟨Hx _, Hx _⟩
 | q + 1, i => by
  have := kw l q (i + 1);simp only [WT]
  split <;> omega
noncomputable def Kd (l : List UInt8) : Nat := WT l (cnt l) 0
theorem TB (l : List UInt8) : Kd l <= cnt l := by have := (kw l (cnt l) 0).2; unfold Kd; omega
noncomputable def puN (l : List UInt8) : Nat := if Kd l = cnt l then cnt l + 1 else cnt l
noncomputable def puM (l : List UInt8) : Int := if Kd l = cnt l then 2 else 0
noncomputable def puA (l m : List UInt8) : Nat := (bt l 1 - m.length).toNat
noncomputable def puL (l m : List UInt8) : List UInt8 := ((wrC l (Kd l) (puA l m) m).set 0 (HB (puN l))).set 1 (HB (puA l m))
noncomputable def pu0 (l m : List UInt8) : Int × Int × List UInt8 :=
 if Kd l = cnt l /\ 16 <= cnt l then (2, 0, []) else if KP l < m.length + puM l then (9, 0, []) else if bt l 1 - m.length < 2 + 2 * puN l then (8, 0, []) else (0, Kd l, puL l m)
section
variable {l : List UInt8} (hp : QH l = 0)
include hp
theorem ym : Q8 (call Ev) Fn.XT [lv (bys l)] = some (iv Ly (Kd l)) := by
 obtain ⟨h64, ⟨g1, g2, g3⟩, _⟩ := Qv hp;have hc := Xd l;have b2 := Xa l 0;have loop : ∀ (q i : Nat), i + q = cnt l ->
   (Lp.XT 0 [lv (bys l), iv Ly i] (D 0)).bind (fun o101 => Qz o101 (fun l102 h103 =>
    (l102[0]?).bind fun w106 =>
    gV1 w106 fun x107 =>
    gF x107 fun z108 =>
    Q9 (call Ev) Fn.ZR [lv z108] fun v109 =>
    gV1 v109 fun x110 =>
    gI Ly x110 fun i111 =>
    some (iv Ly i111)) (fun v104 h105 =>
    QL h105 v104)) = some (iv Ly (WT l q i)) := by
  intro q
  induction q with
  | zero =>
   intro i hi;rw [WG, pc (Xx (by omega)) rfl]
   simp only [Q3, Q2, Q1];rw [if_neg (by simp; omega), Q6]
   simp only [ob, Qc, gx0, Q3, QY];rw [pc (Xx (by omega)) rfl]
   simp only [Q3, Q2, WT];rw [show bt l 0 = (i : Int) from by omega]
  | succ q ih =>
   intro i hi;rw [WG, pc (Xx (by omega)) rfl]
   simp only [Q3, Q2, Q1];rw [if_pos (by simp; omega), pc (K9 (by omega) (by omega)) rfl]
   simp only [Q3, Q2, Q1, WT]
   by_cases h0 : siz l i = 0
   · rw [if_pos (by simpa using h0), if_pos h0]; simp
   ·rw [if_neg (by simpa using h0), if_neg h0, w64 (by omega) (by omega), Q6, show (i : Int) + 1 = ((i + 1 : Nat) : Int) from by omega]
    exact ih (i + 1) (by omega)
 rw [R2];exact loop (cnt l) 0 (by omega)
end
theorem v6 {l m : List UInt8} {k a : Nat} {c c' : UInt8} (ha : 2 <= a) (hl : a <= l.length) : wrC ((l.set 0 c).set 1 c') k a m = ((wrC l k a m).set 0 c).set 1 c' := by
 rw [PY ha (by simpa using hl)]
 congr 1
 have e : lay (l.set 0 c) a m = (lay l a m).set 0 c := by
  unfold lay;rw [CH (by omega), List.take_set, FA, FA, OQ _ _ (by rw [HV]; omega)]
 unfold wrC;rw [e, CI c (HB a) (show 0 ≠ 2 + 2 * k by omega), CI c (HB m.length) (show 0 ≠ 3 + 2 * k by omega)]
theorem yb {l : List UInt8} (h : cnt l <= 16) (hn : ¬ (Kd l = cnt l /\ 16 <= cnt l)) : puN l <= 16 /\ Kd l < puN l /\ Kd l < 16 /\ cnt l <= puN l := by
 have := TB l;unfold puN
 split <;> omega
theorem Bv {l m : List UInt8} (hp : QH l = 0) (hs : inB m.length 1 20 = true) (n : Nat) :
  ∃ y h' o, call Ev Fn.Xq [lv (bys l), lv (bys m)] (D n) = some (.tup [.s y, .s (.int Ly (pu0 l m).2.1), .s (.int Ly (pu0 l m).1)], h') /\ NewB n h' (.s y) (pu0 l m).2.2 o := by
 obtain ⟨h64, ⟨g1, g2, g3⟩, _⟩ := Qv hp;have hc := Xd l;have hm := X4.1 hs;have b2 := Xa l 0;have hf := kj hp;have he := TB l;have dz : ∀ b, n <= b -> b < (D n).n -> ∀ s ∈ ((D n).g b).cells, ZL s = true := fun b h1 h2 => by simp at h2; omega
 have J : ∀ (k : Nat) (q : Int), k = puN l -> q = puM l -> ¬ (Kd l = cnt l /\ 16 <= cnt l) -> ∃ y h' o, Jn.UB k q (bys l) (bys m) n (Kd l) = some (.tup [.s y, .s (.int Ly (pu0 l m).2.1), .s (.int Ly (pu0 l m).1)], h') /\ NewB n h' (.s y) (pu0 l m).2.2 o := by
  intro k q hk hq hn;subst hk; subst hq;obtain ⟨n1, n2, n3, n4⟩ := yb (by omega) hn
  have hM : puM l = 0 \/ puM l = 2 := by unfold puM; split <;> simp
  unfold Jn.UB pu0;rw [if_neg hn, pc (qV hp) rfl];simp only [Q3, Q2, Q1, Xe];rw [w64 (n := (m.length : Int) + puM l) (by omega) (by omega)]
  by_cases c2 : KP l < m.length + puM l
  · rw [if_pos (by simpa using c2), if_pos c2]; exact ⟨_, _, none, rfl, NewB.nil (by simp) dz⟩
  rw [if_neg (by simpa using c2), if_neg c2, pc (MA (by omega)) rfl]
  simp only [Q3, Q2, Q1];rw [w64 (n := bt l 1 - (m.length : Int)) (by omega) (by omega), w64 (n := 2 * (puN l : Int)) (by omega) (by omega), w64 (n := 2 + 2 * (puN l : Int)) (by omega) (by omega)]
  by_cases c3 : bt l 1 - m.length < 2 + 2 * puN l
  · rw [if_pos (by simpa using c3), if_pos c3]; exact ⟨_, _, none, rfl, NewB.nil (by simp) dz⟩
  rw [if_neg (by simpa using c3), if_neg c3]
  obtain ⟨G, e1, gn, gz, w⟩ := B7 (l := l) (by unfold lim; omega) n
  rw [e1];rw [h64] at w;rw [h64, show bt l 1 - (m.length : Int) = ((bt l 1 - (m.length : Int)).toNat : Int) from by omega]
  rw [show (bt l 1 - (m.length : Int)).toNat = puA l m from rfl]
  have hA : (puA l m : Int) = bt l 1 - m.length := by unfold puA; omega
  rw [show iv Ly 0 = iv Ly ((0 : Nat) : Int) from rfl, Z3 (by omega), w.set (c := HB (puN l)) (by omega) (by rw [w8 (by omega) (by omega)]; simp; omega)]
  have w2 := w.set_w (i := 0) (c := HB (puN l));have o2 : Oth (n + 1) G (G.put (n + 1) (.rw 1 ((l.set 0 (HB (puN l))).map QA))) := Oth.put;generalize G.put (n + 1) (.rw 1 ((l.set 0 (HB (puN l))).map QA)) = F at w2 o2 ⊢;rw [show iv Ly 1 = iv Ly ((1 : Nat) : Int) from rfl, Z3 (by omega), w2.set (c := HB (puA l m)) (by simp; omega) (by rw [w8 (by omega) (by omega)]; simp; omega)]
  have w3 := w2.set_w (i := 1) (c := HB (puA l m));have o3 : Oth (n + 1) F (F.put (n + 1) (.rw 1 (((l.set 0 (HB (puN l))).set 1 (HB (puA l m))).map QA))) := Oth.put;generalize F.put (n + 1) (.rw 1 (((l.set 0 (HB (puN l))).set 1 (HB (puA l m))).map QA)) = F2 at w3 o3 ⊢;obtain ⟨K, e2, w4, o4⟩ := M5 (i := Kd l) (a := puA l m) (m := m) w3 (by simp [h64]) (by omega) (by omega)
  rw [e2, ob];dsimp only;rw [o4.tidy w3.n];simp only [V.toA, ob];have w5 : BysW K (sv (n + 1) 0 64) (puL l m) (n + 1) := by
   have e3 : wrC ((l.set 0 (HB (puN l))).set 1 (HB (puA l m))) (Kd l) (puA l m) m = puL l m := v6 (by omega) (by omega)
   rw [<- e3]; exact w4
  exact ⟨_, K, _, rfl, NewB.of gn gz ((o2.trans o3).trans o4) w5⟩
 rw [PK, pc (ym hp) rfl];simp only [Q3, Q2];rw [pc (Xx (by omega)) rfl]
 simp only [Q3, Q2, Q1]
 by_cases h1 : Kd l = cnt l
 ·rw [if_pos (by simp; omega)]
  by_cases h2 : 16 <= cnt l
  ·rw [if_pos (by simp; omega)]
   unfold pu0;rw [if_pos ⟨h1, h2⟩]; exact ⟨_, _, none, rfl, NewB.nil (by simp) dz⟩
  ·rw [if_neg (by simp; omega), w64 (by omega) (by omega), show bt l 0 + 1 = ((cnt l + 1 : Nat) : Int) from by omega]
   exact J _ _ (by unfold puN; rw [if_pos h1]) (by unfold puM; rw [if_pos h1]) (by omega)
 ·rw [if_neg (by simp; omega), <- hc]
  exact J _ _ (by unfold puN; rw [if_neg h1]) (by unfold puM; rw [if_neg h1]) (by omega)
theorem Q0E {l m : List UInt8} (hp : QH l = 0) (hs : inB m.length 1 20 = true) :
  Q8 (call Ev) Fn.Xq [lv (bys l), lv (bys m)] = some (.tup [.s (.fs (bys (pu0 l m).2.2)), .s (.int Ly (pu0 l m).2.1), .s (.int Ly (pu0 l m).1)]) := by
 obtain ⟨y, h', o, e, w⟩ := Bv hp hs 0;unfold Q8;rw [e, Vm.ob];obtain ⟨s, h1, h2⟩ := w.own.frz (d := 7)
 cases h1
 simp [KY, Yf, h2]
end Vm
namespace Vm
open Go
end Vm
namespace Vm
open Go
noncomputable def drC (l : List UInt8) (i : Int) : Int := slC l i
noncomputable def drS (l : List UInt8) (i : Int) : Int := if QH l = 0 /\ Z7 l i = true then i else 0
noncomputable def drL (l : List UInt8) (i : Int) : List UInt8 := if QH l = 0 /\ Z7 l i = true then Z4 l i.toNat else []
theorem jx {l : List UInt8} {i : Int} (hl : l.length <= lim) (n : Nat) : ∃ y h' ob, call Ev Fn.XB [lv (bys l), iv Ly i] (D n) = some (.agg [.int Ly (drC l i), .int Ly (drS l i), y], h') /\ NewB n h' (.s y) (drL l i) ob := by
 rw [Vt, pc BK rfl];simp only [Q3, Q2, Q1];unfold drC slC drS drL
 by_cases hp : QH l = 0
 case neg =>
  obtain ⟨h', e1, e2⟩ := Q2D n (QH l);rw [if_pos (by simpa using hp), if_neg hp, if_neg (fun hh => hp hh.1), if_neg (fun hh => hp hh.1), e1]
  exact ⟨_, h', none, rfl, e2⟩
 rw [if_neg (by simp [hp]), pc (NQ hp) rfl]
 simp only [Q3, QW, Q1]
 cases hb : Z7 l i
 ·obtain ⟨h', e1, e2⟩ := Q2D n 4
  rw [if_pos (by simp), e1]
  exact ⟨.sl none 0, h', none, by simp [hp], by simpa [hp] using e2⟩
 obtain ⟨k, rfl, hk, _⟩ := J6 hb;obtain ⟨h64, ⟨g1, _, _⟩, _⟩ := Qv hp;have hc := Xd l;rw [if_neg (by simp)]
 obtain ⟨v, h1, e1, w1, n1⟩ := Yt hl (n + 1);have hn : ((D n).new 0 [.int Ly 0, .int Ly 0, .sl none 0]).n = n + 1 := by simp
 rw [pF (h := (D n).new 0 [.int Ly 0, .int Ly 0, .sl none 0]) (h1 := h1) (v := v) (by rw [hn]; exact e1) (by rw [hn]; exact ⟨by rw [(show BysW h1 v l (n + 2) from w1.own).v]; rfl, w1.z⟩)]
 have hv := (show BysW h1 v l (n + 2) from w1.own).v
 subst hv;have hle : ((D n).new 0 [.int Ly 0, .int Ly 0, .sl none 0]).n <= h1.n := by rw [hn]; omega
 generalize hG : ((D n).new 0 [.int Ly 0, .int Ly 0, .sl none 0]).over h1 = G;have gn : G.n = n + 3 := by rw [<- hG, Xb hle]; omega
 have g0 : G.g n = .rw 0 [.int Ly 0, .int Ly 0, .sl none 0] := by rw [<- hG, (Jg (by simp)).1]; exact QI (D n) _ _
 have gz : ∀ b, n + 1 <= b -> b < n + 3 -> b ≠ n + 2 -> ∀ s ∈ (G.g b).cells, ZL s = true := fun b h2 h3 _ s hs => by
  rw [<- hG, KL (by rw [hn]; omega)] at hs
  exact w1.z b h2 (by omega) s hs
 have w : BysW G (sv (n + 2) 0 l.length) l (n + 2) := ⟨rfl, by omega, by rw [<- hG, KL (by rw [hn]; omega)]; exact w1.own.g⟩
 rw [w64 (n := 2 * (k : Int)) (by omega) (by omega), w64 (by omega) (by omega), w64 (by omega) (by omega), show 2 + 2 * (k : Int) = ((2 + 2 * k : Nat) : Int) from by omega, show 3 + 2 * (k : Int) = ((3 + 2 * k : Nat) : Int) from by omega, Z3 (by omega), w.set (c := 0) (x := 0) (by omega) rfl, Z3 (by omega), (w.set_w).set (c := 0) (x := 0) (by simp; omega) rfl]
 have w3 := (w.set_w (i := 2 + 2 * k) (c := 0)).set_w (i := 3 + 2 * k) (c := 0);have o3 : Oth (n + 2) G ((G.put (n + 2) (Blk.rw 1 (FK QA (l.set (2 + 2 * k) 0)))).put (n + 2) (Blk.rw 1 (FK QA ((l.set (2 + 2 * k) 0).set (3 + 2 * k) 0)))) := Oth.put.trans Oth.put;generalize (G.put (n + 2) (Blk.rw 1 (FK QA (l.set (2 + 2 * k) 0)))).put (n + 2) (Blk.rw 1 (FK QA ((l.set (2 + 2 * k) 0).set (3 + 2 * k) 0))) = K at w3 o3 ⊢;have w4 : BysW K (sv (n + 2) 0 l.length) (J8 (KN l k) (cnt l)) (n + 2) := by rw [Pn (by omega)]; exact w3
 obtain ⟨h', e2, e3, e4⟩ := Q0Q (q := (k : Int)) (p := pv n 0) (cnt l) _ (by omega) (by rw [Mf]; omega) w4
 rw [D_n, e2, Vm.ob, Qc];simp only [gx0, gx1, Vm.ob, Q3, Q2, X1, isNo, cond_false, ln0, ln1, Hw, HA, Hx, and_self, if_true];have o4 := o3.trans e4;have gh : h'.g n = .rw 0 [.int Ly 0, .int Ly 0, .sl none 0] := (o4.2 n (by omega)).1.trans g0
 have hN : h'.n = n + 3 := by rw [o4.1, gn]
 rw [show setAt [.int Ly 0, .int Ly 0, .sl none 0] 2 [S.sl (some (n + 2, 0)) l.length] = [.int Ly 0, .int Ly 0, .sl (some (n + 2, 0)) l.length] from rfl]
 simp only [ln0, ln1, Hw, HA, Nat.reduceLeDiff, and_self, if_true];rw [show setAt [.int Ly 0, .int Ly 0, S.sl (some (n + 2, 0)) l.length] 1 [.int Ly (k : Int)] = [.int Ly 0, .int Ly k, .sl (some (n + 2, 0)) l.length] from rfl]
 simp only [gx0, gx1, Vm.ob, Q2, ln0, ln1, Hw, HA, if_true];rw [Zq (z := 3) (e := 0) (o := 0) (b := n) (cs := [.int Ly 0, .int Ly 0, .sl none 0]) (r := [.int Ly 0, .int Ly k, .sl (some (n + 2, 0)) l.length]) (by omega) gh (.inr rfl) rfl (by simp)]
 rw [show setAt [.int Ly 0, .int Ly 0, .sl none 0] 0 [.int Ly 0, .int Ly (k : Int), S.sl (some (n + 2, 0)) l.length] = [.int Ly 0, .int Ly k, .sl (some (n + 2, 0)) l.length] from rfl]
 simp only [ldT, cond_true];rw [xS (b := n) (e := 0) (by rw [Qq]; omega) (Z9 _ _ _), Vm.ob]
 refine ⟨.sl (some (n + 2, 0)) l.length, h'.put n (.rw 0 [.int Ly 0, .int Ly k, .sl (some (n + 2, 0)) l.length]), some (n + 2), by simp [hp], ?_⟩
 rw [if_pos ⟨hp, by simp⟩, HQ]
 have e3' : BysW h' (sv (n + 2) 0 l.length) (Z4 l k) (n + 2) := e3;refine ⟨⟨e3'.v, by rw [Qq]; omega, by rw [QG (by omega)]; exact e3'.g⟩, by rw [Qq]; omega, fun b hb => by cases hb; omega, fun b h2 h3 s hs => ?_⟩
 by_cases hbn : b = n
 ·subst hbn
  rw [Z9] at hs;simp only [Blk.cells, HH, EL, or_false] at hs
  rcases hs with rfl | rfl | rfl <;> rfl
 ·rw [QG hbn] at hs
  rw [Qq] at h3
  by_cases hb2 : b = n + 2
  ·subst hb2
   rw [e3'.g] at hs;obtain ⟨c, _, rfl⟩ := HR.1 hs;rfl
  ·rw [(o4.2 b hb2).1] at hs
   exact gz b (by omega) (by omega) hb2 s hs
end Vm
namespace Vm
open Go
def Jv : List UInt8 := List.replicate 64 0
def Ug (l : List UInt8) : List UInt8 := lay Jv 0 (l.take (2 + 2 * cnt l))
def uy (l : List UInt8) : List UInt8 × Nat := cmp l (cnt l) 0 (Ug l, 64)
def KZ (l : List UInt8) : List UInt8 := (uy l).1.set 1 (HB (uy l).2)
theorem Q1L {h : H} : Mp 1 [.int LA 0] h (iv Ly 64) (iv Ly 64) = some (sv h.n 0 64, h.new 1 (Jv.map QA)) := by
 have := Q0L (z := 1) (n := 64) (zero := [.int LA 0]) (h := h) (by unfold lim; omega) (by omega) rfl (k1 := Ly) (k2 := Ly)
 rw [show ((64 : Nat) : Int) = 64 from rfl] at this
 rw [this];rfl
section
variable {l : List UInt8} (hp : QH l = 0)
include hp
theorem vK : Cmp l 0 (Ug l, 64) /\ (l.take (2 + 2 * cnt l)).length = 2 + 2 * cnt l /\ 2 + 2 * cnt l <= 34 := by
 obtain ⟨h64, ⟨g1, g2, g3⟩, _⟩ := Qv hp;have hc := Xd l;have ht : (l.take (2 + 2 * cnt l)).length = 2 + 2 * cnt l := by rw [HV]; omega
 refine ⟨⟨?_, by simp [QX], fun j hj => ?_⟩, ht, by omega⟩
 ·show (lay Jv 0 _).length = 64
  rw [YI (by rw [ht]; simp [Jv]; omega)]; simp [Jv]
 ·show (lay Jv 0 _)[3 + 2 * j]? = _
  unfold lay;rw [CG, EI, HZ (by rw [ht]; omega), FG, if_pos (by omega)]
theorem BO (n : Nat) : ∃ h', call Ev Fn.Zy [lv (bys l)] (D n) = some (sv n 0 64, h') /\ NewB n h' (sv n 0 64) (KZ l) (some n) := by
 obtain ⟨h64, ⟨g1, g2, g3⟩, _⟩ := Qv hp;have hc := Xd l;obtain ⟨c0, ht, h34⟩ := vK hp;rw [BF, pc (Xx (by omega)) rfl]
 simp only [Q3, Q2];rw [Q1L, ob, <- hc, w64 (n := 2 * ((cnt l : Nat) : Int)) (by omega) (by omega), w64 (by omega) (by omega), show 2 + 2 * ((cnt l : Nat) : Int) = ((2 + 2 * cnt l : Nat) : Int) from by omega, Q1v (by omega)]
 have w0 : BysW ((D n).new 1 (Jv.map QA)) (sv (D n).n 0 64) Jv (D n).n := ⟨rfl, by simp, QI _ _ _⟩
 dsimp only;rw [wJ w0 (by simp [Jv]) (by rw [ht]; omega), ob]
 simp only [Q3, Q2];have w1 := Q09 w0 (a := 0) (m := l.take (2 + 2 * cnt l)) (by rw [ht]; simp [Jv]; omega)
 obtain ⟨h', e1, e2, e3⟩ := yG hp (cnt l) 0 _ (Ug l, 64) (by omega) c0 w1
 rw [show iv Ly 0 = iv Ly ((0 : Nat) : Int) from rfl, show iv Ly 64 = iv Ly ((64 : Nat) : Int) from rfl, e1, ob, Qc]
 have c1 := kG hp (cnt l) 0 (Ug l, 64) (by omega) c0
 have hl1 := c1.len;have hb := c1.low;simp only [gx0, gx1, ob, Q3, Q2];rw [show iv Ly 1 = iv Ly ((1 : Nat) : Int) from rfl, Z3 (by omega), e2.set (c := HB (cmp l (cnt l) 0 (Ug l, 64)).2) (by omega) (by rw [w8 (by omega) (by omega)]; simp; omega)]
 have w5 := e2.set_w (i := 1) (c := HB (cmp l (cnt l) 0 (Ug l, 64)).2);have hn : h'.n = n + 1 := by rw [e3.1]; simp
 refine ⟨_, rfl, w5, by rw [Qq]; omega, fun b hb => by cases hb; exact Hx _, fun b h2 h3 s hs => ?_⟩
 rw [Qq, hn] at h3;have hbn : b = n := by omega
 rw [hbn] at hs;have hs' := (congrArg (fun x => s ∈ Blk.cells x) w5.g).mp hs
 obtain ⟨c, _, rfl⟩ := HR.1 hs';rfl
end
end Vm
namespace Vm
structure Pg (l : List UInt8) : Prop where
 len : l.length = 64
 head : Yi l
 slots : ∀ i, i < cnt l -> ZK l i
 apart : ∀ i k, i < cnt l -> k < i -> ZC l i k
 last : ¬ (0 < cnt l /\ siz l (cnt l - 1) = 0)
theorem Pg.of {l : List UInt8} (h : QH l = 0) : Pg l := by
 obtain ⟨a, b, c, d, e⟩ := Qv h;exact ⟨a, b, c, d, e⟩
theorem Pg.ok {l : List UInt8} (p : Pg l) : QH l = 0 :=
 (JF.f (.inr (.inr (.inr (.inr (.inr ⟨p.len, p.head, p.slots, p.apart, p.last, rfl⟩)))))).symm
theorem jE {l : List UInt8} {i k : Nat} (h : ZC l i k) : ZC l k i := by
 unfold ZC at *; omega
theorem Pg.ap {l : List UInt8} (p : Pg l) {i k : Nat} (hi : i < cnt l) (hk : k < cnt l) (hne : i ≠ k) : ZC l i k := by
 rcases Nat.lt_or_gt_of_ne hne with h | h
 · exact jE (p.apart k i hk h)
 · exact p.apart i k hi h
theorem Y8 {l : List UInt8} {i j : Nat} {c : UInt8} (hi : i < l.length) : bt (l.set i c) (j : Int) = if j = i then (c.toNat : Int) else bt l (j : Int) := by
 split
 · rename_i h; subst h; exact Pu hi
 · rename_i h; exact Pt (fun e => h e.symm)
theorem zR {l m : List UInt8} {a j : Nat} (h : a + m.length <= l.length) : bt (lay l a m) (j : Int) = if a <= j /\ j < a + m.length then bt m ((j - a : Nat) : Int) else bt l (j : Int) := by
 unfold bt lay;simp only [HQ, FT]
 split
 ·rename_i hj
  rw [HZ (by simp; omega), FM (by simp; omega), HV, Ey (by omega)]
 ·rename_i hj
  by_cases h1 : j < a
  · rw [HZ (by simp; omega), HZ (by simp; omega), DX h1]
  · rw [FM (by simp; omega), FO, HO, HV, Ey (by omega), show a + m.length + (j - (a + m.length)) = j from by omega]
theorem u8n {n : Nat} (h : n < 256) : ((HB n).toNat : Int) = n := by
 simp; omega
theorem zQ {l m : List UInt8} {i a j : Nat} (h : a + m.length <= l.length) (hi : 3 + 2 * i < l.length) (ha : a < 256) (hm : m.length < 256) :
  bt (wrC l i a m) (j : Int) = if j = 3 + 2 * i then (m.length : Int) else if j = 2 + 2 * i then (a : Int) else if a <= j /\ j < a + m.length then bt m ((j - a : Nat) : Int) else bt l (j : Int) := by
 unfold wrC;have hl := YI h;rw [Y8 (by simp [hl]; omega), u8n hm, Y8 (by simp [hl]; omega), u8n ha, zR h]
theorem WJ {l : List UInt8} {n : Nat} (h : bt l 0 = n) : cnt l = n := by unfold cnt; omega
theorem Bz {l : List UInt8} {k j : Nat} (hl : plc l k + siz l k <= l.length) (hj : (j : Int) < siz l k) : bt (Qm l k) (j : Int) = bt l ((plc l k).toNat + j : Nat) := by
 obtain ⟨q1, q2, q3, q4⟩ := Xl l k;unfold bt Qm;simp only [HQ, FT, FO];rw [DX (by omega)]
theorem W9 {l : List UInt8} {k : Nat} (hl : plc l k + siz l k <= l.length) : (Qm l k).length = (siz l k).toNat := by
 obtain ⟨q1, q2, q3, q4⟩ := Xl l k;unfold Qm;rw [EK, HV]; omega
theorem Bb {l p : List UInt8} {i k : Nat} (hs : siz p k = siz l i) (hl : plc l i + siz l i <= l.length) (hp : plc p k + siz p k <= p.length)
  (hb : ∀ j : Nat, (j : Int) < siz l i -> bt p ((plc p k).toNat + j : Nat) = bt l ((plc l i).toNat + j : Nat)) : Qm p k = Qm l i := by
 refine zS (by rw [W9 hl, W9 hp, hs]) fun j hj => ?_
 rw [W9 hp, hs] at hj;rw [Bz hp (by omega), Bz hl (by omega)]
 exact hb j (by omega)
theorem TH {p m : List UInt8} {k a : Nat} (ha : plc p k = a) (hm : siz p k = m.length) (hp : a + m.length <= p.length) (hb : ∀ j : Nat, j < m.length -> bt p ((a + j : Nat) : Int) = bt m (j : Int)) : Qm p k = m := by
 have hl : plc p k + siz p k <= p.length := by omega
 refine zS (by rw [W9 hl, hm]; simp) fun j hj => ?_
 rw [W9 hl, hm] at hj;rw [Bz hl (by omega), ha]
 simpa using hb j (by omega)
def VB (l p : List UInt8) (s : Int) : Prop := ∀ i : Nat, i < 16 -> (i : Int) ≠ s -> Z7 p i = Z7 l i /\ (Z7 l i = true -> Qm p i = Qm l i)
theorem Ka {l : List UInt8} {i : Nat} : Z7 l (i : Int) = true ↔ i < cnt l /\ siz l i ≠ 0 := by
 have := Xd l;unfold Z7;simp only [HE, decide_eq_true_eq, bne_iff_ne, HQ];constructor
 · rintro ⟨a, b, c⟩; exact ⟨by omega, c⟩
 · rintro ⟨a, b⟩; exact ⟨by omega, by omega, b⟩
theorem zl {l p : List UInt8} {i : Nat} (h : (i < cnt p /\ siz p i ≠ 0) ↔ (i < cnt l /\ siz l i ≠ 0)) : Z7 p (i : Int) = Z7 l (i : Int) := by
 rw [Cz, Ka, Ka]; exact h
theorem Pg.bd {l : List UInt8} (p : Pg l) {k : Nat} (hk : k < cnt l) (hs : siz l k ≠ 0) : bt l 1 <= plc l k /\ plc l k + siz l k <= 64 := by
 have h := p.slots k hk;have q := Xl l k;unfold ZK at h
 split at h
 ·rename_i hh
  rcases hh with hh | hh <;> omega
 · exact h
theorem Pg.nums {l : List UInt8} (p : Pg l) : bt l 0 = cnt l /\ cnt l <= 16 /\ 2 + 2 * (cnt l : Int) <= bt l 1 /\ bt l 1 <= 64 := by
 have := Xd l;obtain ⟨h1, h2, h3⟩ := p.head;omega
theorem Ur {l p : List UInt8} : ∀ n, (∀ i, i < n -> siz p i = siz l i) -> QX p n = QX l n
 | 0, _ => rfl
 | n + 1, h => by
  simp only [QX];rw [Ur n fun i hi => h i (by omega), h n (by omega)]
theorem xw {l p : List UInt8} {s : Nat} : ∀ n, s < n -> (∀ i, i < n -> i ≠ s -> siz p i = siz l i) -> (QX p n : Int) + siz l s = QX l n + siz p s
 | 0, h, _ => by omega
 | n + 1, h, hn => by
  have q := Xl l n;have q' := Xl p n;simp only [QX]
  by_cases hs : s = n
  ·subst hs
   rw [Ur s fun i hi => hn i (by omega) (by omega)]
   omega
  ·have := xw n (by omega) fun i hi hne => hn i (by omega) hne
   have := hn n (by omega) (fun e => hs e.symm)
   omega
theorem RG {l p : List UInt8} (w : Pg l) {s n low a len : Nat} (hl : p.length = 64) (h0 : bt p 0 = n) (h1 : bt p 1 = low) (hn : n <= 16) (hlow : 2 + 2 * n <= low) (h64 : low <= 64) (hs : s < n) (hc : cnt l <= n) (hcs : n <= cnt l + 1) (hcs' : n = cnt l + 1 -> s = cnt l)
  (hP : plc p s = a) (hZ : siz p s = len) (hlen : 0 < len) (ha : low <= a) (hal : a + len <= 64) (hlowl : (low : Int) <= bt l 1)
  (ht : ∀ i, i < n -> i ≠ s -> plc p i = plc l i /\ siz p i = siz l i)
  (hf : ∀ i, i < cnt l -> i ≠ s -> siz l i ≠ 0 -> plc l i + siz l i <= a \/ (a : Int) + len <= plc l i)
  (hb : ∀ j : Nat, low <= j -> ¬ (a <= j /\ j < a + len) -> (bt l 1 : Int) <= j -> bt p j = bt l j) :
  Pg p /\ VB l p s := by
 have hcp := WJ h0;obtain ⟨w1, w2, w3, w4⟩ := w.nums;have hlt : ∀ i, i < n -> i ≠ s -> i < cnt l := fun i hi hne => by
  by_cases hh : n = cnt l + 1
  · have := hcs' hh; omega
  · omega
 refine ⟨⟨hl, ⟨by omega, by omega, by omega⟩, fun i hi => ?_, fun i k hi hk => ?_, ?_⟩, fun i hi hne => ?_⟩
 ·rw [hcp] at hi
  by_cases his : i = s
  ·subst his
   unfold ZK;rw [if_neg (by omega)]; omega
  ·obtain ⟨t1, t2⟩ := ht i hi his
   have := w.slots i (hlt i hi his);unfold ZK at this ⊢;rw [t1, t2]
   split at this
   · rename_i hh; rw [if_pos hh]; exact this
   · rename_i hh; rw [if_neg hh]; omega
 ·rw [hcp] at hi
  have hkn : k < n := by omega
  by_cases his : i = s
  ·subst his
   obtain ⟨t1, t2⟩ := ht k hkn (by omega)
   by_cases hz : siz l k = 0
   · exact .inr (.inl (by omega))
   ·have := hf k (hlt k hkn (by omega)) (by omega) hz
    unfold ZC; omega
  ·obtain ⟨t1, t2⟩ := ht i hi his
   by_cases hks : k = s
   ·subst hks
    by_cases hz : siz l i = 0
    · exact .inl (by omega)
    ·have := hf i (hlt i hi his) his hz
     unfold ZC; omega
   ·obtain ⟨t3, t4⟩ := ht k hkn hks
    have := w.apart i k (hlt i hi his) hk;unfold ZC at *; omega
 ·rw [hcp]
  rintro ⟨g1, g2⟩
  by_cases hns : n - 1 = s
  · rw [hns] at g2; omega
  ·have hh := hlt (n - 1) (by omega) hns
   have : n = cnt l := by
    by_cases hh : n = cnt l + 1
    · have := hcs' hh; omega
    · omega
   rw [(ht (n - 1) (by omega) hns).2, this] at g2
   exact w.last ⟨by omega, g2⟩
 ·have hne' : i ≠ s := by omega
  have e : (i < cnt p /\ siz p i ≠ 0) ↔ (i < cnt l /\ siz l i ≠ 0) := by
   rw [hcp];constructor
   ·rintro ⟨g1, g2⟩
    exact ⟨hlt i g1 hne', by rw [<- (ht i g1 hne').2]; exact g2⟩
   ·rintro ⟨g1, g2⟩
    exact ⟨by omega, by rw [(ht i (by omega) hne').2]; exact g2⟩
  refine ⟨zl e, fun hh => ?_⟩
  obtain ⟨g1, g2⟩ := Ka.1 hh;obtain ⟨t1, t2⟩ := ht i (by omega) hne'
  obtain ⟨b1, b2⟩ := w.bd g1 g2;have q := Xl l i;have := hf i g1 hne' g2;refine Bb t2 (by rw [w.len]; omega) (by rw [hl]; omega) fun j hj => ?_
  rw [t1];exact hb _ (by omega) (by omega) (by omega)
theorem ky (l : List UInt8) : ∀ (q i : Nat), WT l q i < i + q -> siz l (WT l q i) = 0
 | 0, i, h => by simp only [WT] at h; omega
 | q + 1, i, h => by
  simp only [WT] at h ⊢
  split
  · assumption
  ·rename_i hz
   rw [if_neg hz] at h;exact ky l q (i + 1) (by omega)
theorem ku {l : List UInt8} (h : Kd l < cnt l) : siz l (Kd l) = 0 := ky l _ _ (by unfold Kd at h; omega)
theorem NL {l m : List UInt8} (hp : QH l = 0) (hm : inB m.length 1 20 = true) (hc : (pu0 l m).1 = 0) :
  QH (pu0 l m).2.2 = 0 /\ VB l (pu0 l m).2.2 (pu0 l m).2.1 /\ Z7 (pu0 l m).2.2 (pu0 l m).2.1 = true /\ Qm (pu0 l m).2.2 (pu0 l m).2.1.toNat = m /\ Z7 l (pu0 l m).2.1 = false /\
  (KP l - KP (pu0 l m).2.2 = m.length \/ KP l - KP (pu0 l m).2.2 = m.length + 2) /\ 0 <= (pu0 l m).2.1 /\ (pu0 l m).2.1 < 16 := by
 have w := Pg.of hp;obtain ⟨w1, w2, w3, w4⟩ := w.nums;have hm' := X4.1 hm;have hE := TB l;unfold pu0 at hc ⊢
 by_cases c1 : Kd l = cnt l /\ 16 <= cnt l
 · rw [if_pos c1] at hc; simp at hc
 rw [if_neg c1] at hc ⊢
 by_cases c2 : KP l < m.length + puM l
 · rw [if_pos c2] at hc; simp at hc
 rw [if_neg c2] at hc ⊢
 by_cases c3 : bt l 1 - m.length < 2 + 2 * puN l
 · rw [if_pos c3] at hc; simp at hc
 rw [if_neg c3] at hc ⊢;simp only;obtain ⟨n1, n2, n3, n4⟩ := yb w2 c1;have hA : ((puA l m : Nat) : Int) = bt l 1 - m.length := by unfold puA; omega
 have wl : puA l m + m.length <= l.length := by rw [w.len]; omega
 have pb : ∀ j : Nat, bt (puL l m) (j : Int) = if j = 1 then (puA l m : Int) else if j = 0 then (puN l : Int) else bt (wrC l (Kd l) (puA l m) m) (j : Int) := fun j => by
  unfold puL;rw [Y8 (by simp only [HN]; rw [Gf wl, w.len]; omega), u8n (by omega), Y8 (by rw [Gf wl, w.len]; omega), u8n (by omega)]
 have wb : ∀ j : Nat, bt (wrC l (Kd l) (puA l m) m) (j : Int) = _ := fun j => zQ wl (by rw [w.len]; omega) (by omega) (by omega)
 have hlen : (puL l m).length = 64 := by
  unfold puL; simp only [HN]; rw [Gf wl, w.len]
 have h0 : bt (puL l m) 0 = puN l := by
  have := pb 0; simpa using this
 have h1 : bt (puL l m) 1 = puA l m := by
  have := pb 1; simpa using this
 have hP : plc (puL l m) (Kd l) = puA l m := by
  unfold plc; rw [pb, if_neg (by omega), if_neg (by omega), wb, if_neg (by omega), if_pos rfl]
 have hZ : siz (puL l m) (Kd l) = m.length := by
  unfold siz; rw [pb, if_neg (by omega), if_neg (by omega), wb, if_pos rfl]
 have ht : ∀ i, i < puN l -> i ≠ Kd l -> plc (puL l m) i = plc l i /\ siz (puL l m) i = siz l i := fun i hi hne => by
  unfold plc siz;refine ⟨?_, ?_⟩
  · rw [pb, if_neg (by omega), if_neg (by omega), wb, if_neg (by omega), if_neg (by omega), if_neg (by omega)]
  · rw [pb, if_neg (by omega), if_neg (by omega), wb, if_neg (by omega), if_neg (by omega), if_neg (by omega)]
 have hNc : puN l <= cnt l + 1 /\ (puN l = cnt l + 1 -> Kd l = cnt l) := by
  unfold puN; split <;> omega
 obtain ⟨g1, g2⟩ := RG w (p := puL l m) (s := Kd l) (n := puN l) (low := puA l m) (a := puA l m) (len := m.length) hlen h0 h1 n1 (by omega) (by omega) n2 n4 hNc.1 hNc.2 hP hZ (by omega) (Hx _) (by omega) (by omega) ht
  (fun i hi hne hz => by have := w.bd hi hz; omega)
  (fun j j1 j2 j3 => by rw [pb, if_neg (by omega), if_neg (by omega), wb, if_neg (by omega), if_neg (by omega), if_neg j2])
 have hcp := WJ h0;refine ⟨g1.ok, g2, Ka.2 ⟨by omega, by omega⟩, ?_, ?_, ?_, by omega, by omega⟩
 ·rw [HQ]
  refine TH hP hZ (by omega) fun j hj => ?_
  rw [pb, if_neg (by omega), if_neg (by omega), wb, if_neg (by omega), if_neg (by omega), if_pos (by omega)]
  congr 2; omega
 ·rw [Bool.eq_false_iff]
  intro hh;obtain ⟨a1, a2⟩ := Ka.1 hh;exact a2 (ku a1)
 ·have hcl := Xd l
  unfold KP;rw [h0, hcp, w1]
  by_cases he : Kd l = cnt l
  ·have : puN l = cnt l + 1 := by unfold puN; rw [if_pos he]
   rw [this];simp only [QX];rw [Ur (cnt l) fun i hi => (ht i (by omega) (by omega)).2, <- he, hZ]
   right; omega
  ·have : puN l = cnt l := by unfold puN; rw [if_neg he]
   rw [this];have s1 := xw (l := l) (p := puL l m) (s := Kd l) (cnt l) (by omega) fun i hi hne => (ht i (by omega) hne).2
   rw [ku (by omega), hZ] at s1
   left; omega
theorem qz {l m : List UInt8} {i : Int} (hc : (Jb l i m).1 = 0) :
  QH (Jb l i m).2.2 = 0 /\ VB l (Jb l i m).2.2 i /\ Z7 (Jb l i m).2.2 i = true /\ Qm (Jb l i m).2.2 i.toNat = m /\ (Jb l i m).2.1 = i := by
 unfold Jb at hc ⊢
 by_cases hp : QH l = 0
 case neg => rw [if_pos hp] at hc; exact absurd hc hp
 rw [if_neg (by simp [hp])] at hc ⊢
 cases hm : inB m.length 1 20
 · rw [if_pos hm] at hc; simp at hc
 rw [if_neg (by simp [hm])] at hc ⊢
 cases hb : Z7 l i
 · rw [if_pos hb] at hc; simp at hc
 rw [if_neg (by simp [hb])] at hc ⊢
 obtain ⟨k, rfl, hk, hz⟩ := J6 hb;have w := Pg.of hp;obtain ⟨w1, w2, w3, w4⟩ := w.nums;have hm' := X4.1 hm;obtain ⟨b1, b2⟩ := w.bd hk hz;have q := Xl l k;rw [HQ] at hc ⊢
 by_cases c1 : (m.length : Int) <= siz l k
 ·rw [if_pos c1] at hc ⊢
  simp only;generalize hA : (plc l k + siz l k - m.length).toNat = a;have ha : (a : Int) = plc l k + siz l k - m.length := by omega
  have wl : a + m.length <= l.length := by rw [w.len]; omega
  have wb : ∀ j : Nat, bt (wrC l k a m) (j : Int) = _ := fun j => zQ wl (by rw [w.len]; omega) (by omega) (by omega)
  have hlen : (wrC l k a m).length = 64 := by rw [Gf wl, w.len]
  have h0 : bt (wrC l k a m) 0 = cnt l := by
   have := wb 0;rw [if_neg (by omega), if_neg (by omega), if_neg (by omega)] at this
   rw [show (0 : Int) = ((0 : Nat) : Int) from rfl, this]; exact w1
  have h1 : bt (wrC l k a m) 1 = ((bt l 1).toNat : Nat) := by
   have := wb 1;rw [if_neg (by omega), if_neg (by omega), if_neg (by omega)] at this
   rw [show (1 : Int) = ((1 : Nat) : Int) from rfl, this]
   rw [show ((1 : Nat) : Int) = 1 from rfl]; omega
  have hP : plc (wrC l k a m) k = a := by unfold plc; rw [wb, if_neg (by omega), if_pos rfl]
  have hZ : siz (wrC l k a m) k = m.length := by unfold siz; rw [wb, if_pos rfl]
  have ht : ∀ i, i < cnt l -> i ≠ k -> plc (wrC l k a m) i = plc l i /\ siz (wrC l k a m) i = siz l i := fun i hi hne => by
   unfold plc siz;refine ⟨?_, ?_⟩
   · rw [wb, if_neg (by omega), if_neg (by omega), if_neg (by omega)]
   · rw [wb, if_neg (by omega), if_neg (by omega), if_neg (by omega)]
  obtain ⟨g1, g2⟩ := RG w (p := wrC l k a m) (s := k) (n := cnt l) (low := (bt l 1).toNat) (a := a) (len := m.length) hlen h0 h1 w2 (by omega) (by omega) hk (Hx _) (by omega) (by omega) hP hZ (by omega) (by omega) (by omega) (by omega) ht
   (fun i hi hne hz' => by
    have := w.ap hi hk hne;unfold ZC at this; omega)
   (fun j j1 j2 j3 => by rw [wb, if_neg (by omega), if_neg (by omega), if_neg j2])
  refine ⟨g1.ok, g2, Ka.2 ⟨by rw [WJ h0]; exact hk, by omega⟩, TH hP hZ (by omega) fun j hj => ?_, trivial⟩
  rw [wb, if_neg (by omega), if_neg (by omega), if_pos (by omega)]
  congr 2; omega
 rw [if_neg c1] at hc ⊢
 by_cases c2 : KP l + siz l k < m.length
 · rw [if_pos c2] at hc; simp at hc
 rw [if_neg c2] at hc ⊢
 by_cases c3 : bt l 1 - m.length < 2 + 2 * bt l 0
 · rw [if_pos c3] at hc; simp at hc
 rw [if_neg c3] at hc ⊢;simp only;generalize hA : (bt l 1 - m.length).toNat = a;have ha : (a : Int) = bt l 1 - m.length := by omega
 have wl : a + m.length <= l.length := by rw [w.len]; omega
 have wb : ∀ j : Nat, bt ((wrC l k a m).set 1 (HB a)) (j : Int) = if j = 1 then (a : Int) else if j = 3 + 2 * k then (m.length : Int) else if j = 2 + 2 * k then (a : Int) else if a <= j /\ j < a + m.length then bt m ((j - a : Nat) : Int) else bt l (j : Int) := fun j => by
  rw [Y8 (by rw [Gf wl, w.len]; omega), u8n (by omega), zQ wl (by rw [w.len]; omega) (by omega) (by omega)]
 have hlen : ((wrC l k a m).set 1 (HB a)).length = 64 := by rw [HN, Gf wl, w.len]
 generalize (wrC l k a m).set 1 (HB a) = p at wb hlen ⊢;have h0 : bt p 0 = cnt l := by
  have := wb 0;rw [if_neg (by omega), if_neg (by omega), if_neg (by omega), if_neg (by omega)] at this
  rw [show (0 : Int) = ((0 : Nat) : Int) from rfl, this]; exact w1
 have h1 : bt p 1 = a := by have := wb 1; simpa using this
 have hP : plc p k = a := by unfold plc; rw [wb, if_neg (by omega), if_neg (by omega), if_pos rfl]
 have hZ : siz p k = m.length := by unfold siz; rw [wb, if_neg (by omega), if_pos rfl]
 have ht : ∀ i, i < cnt l -> i ≠ k -> plc p i = plc l i /\ siz p i = siz l i := fun i hi hne => by
  unfold plc siz;refine ⟨?_, ?_⟩
  · rw [wb, if_neg (by omega), if_neg (by omega), if_neg (by omega), if_neg (by omega)]
  · rw [wb, if_neg (by omega), if_neg (by omega), if_neg (by omega), if_neg (by omega)]
 obtain ⟨g1, g2⟩ := RG w (p := p) (s := k) (n := cnt l) (low := a) (a := a) (len := m.length) hlen h0 h1 w2 (by omega) (by omega) hk (Hx _) (by omega) (by omega) hP hZ (by omega) (Hx _) (by omega) (by omega) ht
  (fun i hi hne hz' => by have := w.bd hi hz'; omega)
  (fun j j1 j2 j3 => by rw [wb, if_neg (by omega), if_neg (by omega), if_neg (by omega), if_neg j2])
 refine ⟨g1.ok, g2, Ka.2 ⟨by rw [WJ h0]; exact hk, by omega⟩, TH hP hZ (by omega) fun j hj => ?_, trivial⟩
 rw [wb, if_neg (by omega), if_neg (by omega), if_neg (by omega), if_pos (by omega)]
 congr 2; omega
theorem xt (l : List UInt8) : ∀ n, (∀ j, Yg l n <= j -> j < n -> siz l j = 0) /\ ¬ (0 < Yg l n /\ siz l (Yg l n - 1) = 0)
 | 0 => ⟨fun j _ h => by omega, fun h => by simp [Yg] at h⟩
 | n + 1 => by
  unfold Yg
  split
  ·rename_i hz
   obtain ⟨a, b⟩ := xt l n;refine ⟨fun j h1 h2 => ?_, b⟩
   by_cases hj : j = n
   · subst hj; exact hz
   · exact a j h1 (by omega)
  ·rename_i hz
   exact ⟨fun j h1 h2 => by omega, fun hh => hz hh.2⟩
theorem Bx {l : List UInt8} {k : Nat} (hp : QH l = 0) (hk : k < cnt l) : QH (Z4 l k) = 0 /\ VB l (Z4 l k) k /\ Z7 (Z4 l k) (k : Int) = false := by
 have w := Pg.of hp;obtain ⟨w1, w2, w3, w4⟩ := w.nums;have hn := qk (KN l k) (cnt l);obtain ⟨t1, t2⟩ := xt (KN l k) (cnt l);have db : ∀ j : Nat, bt (KN l k) (j : Int) = if j = 3 + 2 * k then 0 else if j = 2 + 2 * k then 0 else bt l (j : Int) := fun j => by
  unfold KN;rw [Y8 (by rw [HN, w.len]; omega), Y8 (by rw [w.len]; omega)]; rfl
 have hlen : (Z4 l k).length = 64 := by rw [KK, w.len]
 unfold Z4 at hlen ⊢;generalize hN : Yg (KN l k) (cnt l) = n at hn t1 t2 hlen ⊢;have pb : ∀ j : Nat, bt (J8 (KN l k) n) (j : Int) = if j = 0 then (n : Int) else bt (KN l k) (j : Int) := fun j => by
  unfold J8;rw [Y8 (by rw [Mf, w.len]; omega), u8n (by omega)]
 have ps : ∀ i, siz (J8 (KN l k) n) i = siz (KN l k) i := fun i => Vx
 generalize J8 (KN l k) n = p at pb ps hlen ⊢;have h0 : bt p 0 = n := by have := pb 0; simpa using this
 have h1 : bt p 1 = bt l 1 := by
  have := pb 1;rw [if_neg (by omega), db, if_neg (by omega), if_neg (by omega)] at this
  exact this
 have hk0 : plc p k = 0 /\ siz p k = 0 := by
  unfold plc siz;refine ⟨?_, ?_⟩
  · rw [pb, if_neg (by omega), db, if_neg (by omega), if_pos rfl]
  · rw [pb, if_neg (by omega), db, if_pos rfl]
 have ht : ∀ i, i ≠ k -> plc p i = plc l i /\ siz p i = siz l i := fun i hne => by
  unfold plc siz;refine ⟨?_, ?_⟩
  · rw [pb, if_neg (by omega), db, if_neg (by omega), if_neg (by omega)]
  · rw [pb, if_neg (by omega), db, if_neg (by omega), if_neg (by omega)]
 have hcp := WJ h0;have hg : Pg p := ⟨hlen, ⟨by omega, by omega, by omega⟩, fun i hi => by
   by_cases hik : i = k
   · subst hik; unfold ZK; rw [if_pos (.inl hk0.1)]; omega
   ·have := w.slots i (by omega)
    unfold ZK at this ⊢;rw [(ht i hik).1, (ht i hik).2, h1]; exact this,
  fun i j hi hj => by
   by_cases hik : i = k
   · subst hik; exact .inl hk0.2
   ·by_cases hjk : j = k
    · subst hjk; exact .inr (.inl hk0.2)
    ·have := w.apart i j (by omega) hj
     unfold ZC at this ⊢;rw [(ht i hik).1, (ht i hik).2, (ht j hjk).1, (ht j hjk).2]; exact this,
  by rw [hcp, ps]; exact t2⟩
 refine ⟨hg.ok, fun i hi hne => ?_, ?_⟩
 ·have hik : i ≠ k := by omega
  have e : (i < cnt p /\ siz p i ≠ 0) ↔ (i < cnt l /\ siz l i ≠ 0) := by
   rw [hcp, (ht i hik).2];constructor
   · rintro ⟨g1, g2⟩; exact ⟨by omega, g2⟩
   ·rintro ⟨g1, g2⟩
    refine ⟨?_, g2⟩;apply Db;intro hh;have := t1 i (by omega) g1
    rw [<- ps, (ht i hik).2] at this;exact g2 this
  refine ⟨zl e, fun hh => ?_⟩
  obtain ⟨g1, g2⟩ := Ka.1 hh;obtain ⟨b1, b2⟩ := w.bd g1 g2;have q := Xl l i;refine Bb (ht i hik).2 (by rw [w.len]; omega) (by rw [(ht i hik).1, (ht i hik).2, hlen]; omega) fun j hj => ?_
  rw [(ht i hik).1, pb, if_neg (by omega), db, if_neg (by omega), if_neg (by omega)]
 ·rw [Bool.eq_false_iff]
  intro hh;exact (Ka.1 hh).2 hk0.2
structure Den (l : List UInt8) (n i : Nat) (p : List UInt8) : Prop where
 len : p.length = 64
 cnt : bt p 0 = n
 siz : ∀ j, j < n -> Vm.siz p j = Vm.siz l j
 plc : ∀ j, j < i -> Vm.plc p j = if Vm.siz l j = 0 then 0 else 64 - (QX l (j + 1) : Int)
 old : ∀ j, i <= j -> j < n -> Vm.plc p j = Vm.plc l j
 cel : ∀ j, j < i -> ∀ y : Nat, (y : Int) < Vm.siz l j -> bt p ((64 - QX l (j + 1) + y : Nat) : Int) = bt (Qm l j) (y : Int)
 zer : ∀ y : Nat, 2 + 2 * n <= y -> y < 64 - QX l i -> bt p (y : Int) = 0
theorem Wh (l : List UInt8) {i j : Nat} (h : i <= j) : QX l i <= QX l j := by
 induction j with
 | zero => rw [Nat.le_zero.1 h]; exact Hx _
 | succ j ih =>
  by_cases hh : i = j + 1
  · rw [hh]; exact Hx _
  · have := ih (by omega); simp only [QX]; omega
theorem Den.step {l p : List UInt8} {i : Nat} (hp : QH l = 0) (hi : i < Vm.cnt l) (w : Den l (Vm.cnt l) i p) : Den l (Vm.cnt l) (i + 1) (Mt l i (p, 64 - QX l i)).1 /\ (Mt l i (p, 64 - QX l i)).2 = 64 - QX l (i + 1) := by
 have g := Pg.of hp;obtain ⟨w1, w2, w3, w4⟩ := g.nums;have hl := Nl hp hi;have q := Xl l i;have hb := UW hp (i := i + 1) (by omega)
 have hs : QX l (i + 1) = QX l i + (Vm.siz l i).toNat := rfl;unfold Mt
 by_cases hz : Vm.siz l i = 0
 ·rw [if_pos hz]
  have hs' : QX l (i + 1) = QX l i := by omega
  have := g.slots i hi;unfold ZK at this;rw [if_pos (.inr hz)] at this;refine ⟨⟨w.len, w.cnt, w.siz, fun j hj => ?_, fun j h1 h2 => w.old j (by omega) h2, fun j hj y hy => ?_, fun y h1 h2 => w.zer y h1 (by omega)⟩, by omega⟩
  ·by_cases hji : j = i
   · subst hji; rw [if_pos hz, w.old j (Hx _) hi]; omega
   · exact w.plc j (by omega)
  ·by_cases hji : j = i
   · subst hji; omega
   · exact w.cel j (by omega) y hy
 ·rw [if_neg hz]
  generalize hA : 64 - QX l i - (Qm l i).length = a;have ha : (a : Int) = 64 - QX l (i + 1) := by omega
  have wl : a + (Qm l i).length <= p.length := by rw [w.len]; omega
  have wb : ∀ j : Nat, bt ((lay p a (Qm l i)).set (2 + 2 * i) (HB a)) (j : Int) = if j = 2 + 2 * i then (a : Int) else if a <= j /\ j < a + (Qm l i).length then bt (Qm l i) ((j - a : Nat) : Int) else bt p (j : Int) := fun j => by
   rw [Y8 (by rw [YI wl, w.len]; omega), u8n (by omega), zR wl]
  have hlen : ((lay p a (Qm l i)).set (2 + 2 * i) (HB a)).length = 64 := by rw [HN, YI wl, w.len]
  simp only;generalize (lay p a (Qm l i)).set (2 + 2 * i) (HB a) = p' at wb hlen ⊢;refine ⟨⟨hlen, ?_, fun j hj => ?_, fun j hj => ?_, fun j h1 h2 => ?_, fun j hj y hy => ?_, fun y h1 h2 => ?_⟩, by omega⟩
  ·have := wb 0
   rw [if_neg (by omega), if_neg (by omega)] at this
   exact this.trans w.cnt
  ·have := wb (3 + 2 * j)
   rw [if_neg (by omega), if_neg (by omega)] at this
   exact this.trans (w.siz j hj)
  ·by_cases hji : j = i
   ·subst hji
    rw [if_neg hz];unfold Vm.plc;rw [wb, if_pos rfl]; omega
   ·rw [<- w.plc j (by omega)]
    unfold Vm.plc;rw [wb, if_neg (by omega), if_neg (by omega)]
  ·rw [<- w.old j (by omega) h2]
   unfold Vm.plc;rw [wb, if_neg (by omega), if_neg (by omega)]
  ·by_cases hji : j = i
   ·subst hji
    rw [wb, if_neg (by omega), if_pos (by omega)]
    congr 2; omega
   ·have hm := Wh l (i := j + 1) (j := i) (by omega)
    rw [<- w.cel j (by omega) y hy, wb, if_neg (by omega), if_neg (by omega)]
  ·rw [wb, if_neg (by omega), if_neg (by omega)]
   exact w.zer y h1 (by omega)
theorem Den.all {l : List UInt8} (hp : QH l = 0) : ∀ (k i : Nat) (p : List UInt8), i + k = Vm.cnt l -> Den l (Vm.cnt l) i p -> Den l (Vm.cnt l) (Vm.cnt l) (Vm.cmp l k i (p, 64 - QX l i)).1 /\ (Vm.cmp l k i (p, 64 - QX l i)).2 = 64 - QX l (Vm.cnt l)
 | 0, i, p, h, w => by
  have : i = Vm.cnt l := by omega
  subst this;exact ⟨w, rfl⟩
 | k + 1, i, p, h, w => by
  obtain ⟨a, b⟩ := w.step hp (by omega)
  have := Den.all hp k (i + 1) _ (by omega) a
  rw [<- b] at this;exact this
theorem wI {l : List UInt8} (hp : QH l = 0) : Den l (cnt l) (cnt l) (KZ l) /\ bt (KZ l) 1 = 64 - QX l (cnt l) := by
 have g := Pg.of hp;obtain ⟨w1, w2, w3, w4⟩ := g.nums;have hb := UW hp (Hx (cnt l));have ht : (l.take (2 + 2 * cnt l)).length = 2 + 2 * cnt l := by rw [HV, g.len]; omega
 have hz : Jv.length = 64 := by simp [Jv]
 have ob : ∀ j : Nat, bt (Ug l) (j : Int) = if j < 2 + 2 * cnt l then bt l (j : Int) else 0 := fun j => by
  unfold Ug;rw [zR (by rw [ht, hz]; omega), ht]
  by_cases hj : j < 2 + 2 * cnt l
  ·rw [if_pos (by omega), if_pos hj]
   unfold bt;simp only [HQ, FT, Nat.sub_zero];rw [DX hj]
  ·rw [if_neg (by omega), if_neg hj]
   unfold bt Jv;simp only [HQ, FT]
   by_cases h64 : j < 64
   · rw [List.getElem?_replicate, if_pos h64]; rfl
   · rw [List.getElem?_eq_none (by simp; omega)]; rfl
 have d0 : Den l (cnt l) 0 (Ug l) := ⟨by unfold Ug; rw [YI (by rw [ht, hz]; omega), hz],
  by have := ob 0; rw [if_pos (by omega)] at this; exact this.trans w1,
  fun j hj => by unfold siz; rw [ob, if_pos (by omega)],
  fun j hj => by omega, fun j _ hj => by unfold plc; rw [ob, if_pos (by omega)], fun j hj => by omega, fun y h1 h2 => by rw [ob, if_neg (by omega)]⟩
 obtain ⟨a, b⟩ := d0.all hp (cnt l) 0 (Ug l) (by omega)
 have e0 : QX l 0 = 0 := rfl;rw [e0] at a b;unfold KZ uy;rw [b];rw [show 64 - 0 = 64 from rfl] at a
 have wb : ∀ j : Nat, bt ((cmp l (cnt l) 0 (Ug l, 64)).1.set 1 (HB (64 - QX l (cnt l)))) (j : Int) = if j = 1 then ((64 - QX l (cnt l) : Nat) : Int) else bt (cmp l (cnt l) 0 (Ug l, 64)).1 (j : Int) := fun j => by
  rw [Y8 (by rw [a.len]; omega), u8n (by omega)]
 have hlen : ((cmp l (cnt l) 0 (Ug l, 64)).1.set 1 (HB (64 - QX l (cnt l)))).length = 64 := by rw [HN, a.len]
 generalize (cmp l (cnt l) 0 (Ug l, 64)).1.set 1 (HB (64 - QX l (cnt l))) = p at wb hlen ⊢;refine ⟨⟨hlen, ?_, fun j hj => ?_, fun j hj => ?_, fun j h1 h2 => ?_, fun j hj y hy => ?_, fun y h1 h2 => ?_⟩, ?_⟩
 · have := wb 0; rw [if_neg (by omega)] at this; exact this.trans a.cnt
 · rw [<- a.siz j hj]; unfold siz; rw [wb, if_neg (by omega)]
 · rw [<- a.plc j hj]; unfold plc; rw [wb, if_neg (by omega)]
 · rw [<- a.old j h1 h2]; unfold plc; rw [wb, if_neg (by omega)]
 ·have := Wh l (i := j + 1) (j := cnt l) (by omega)
  rw [<- a.cel j hj y hy, wb, if_neg (by omega)]
 · rw [<- a.zer y h1 h2, wb, if_neg (by omega)]
 ·have := wb 1; rw [if_pos rfl] at this
  rw [show (1 : Int) = ((1 : Nat) : Int) from rfl, this]; omega
theorem Den.pg {l p : List UInt8} (hp : QH l = 0) (w : Den l (Vm.cnt l) (Vm.cnt l) p) (h1 : bt p 1 = 64 - QX l (Vm.cnt l)) : Pg p /\ VB l p (-1) /\ KP p = KP l := by
 have g := Pg.of hp;obtain ⟨w1, w2, w3, w4⟩ := g.nums;have hb := UW hp (Hx (Vm.cnt l));have hcp := WJ w.cnt;have hlo : ∀ j, j < Vm.cnt l -> QX l (j + 1) <= QX l (Vm.cnt l) := fun j hj => Wh l (by omega)
 refine ⟨⟨w.len, ⟨by rw [w.cnt]; omega, by rw [w.cnt]; omega, by omega⟩, fun i hi => ?_, fun i k hi hk => ?_, ?_⟩, fun i hi hne => ?_, ?_⟩
 ·rw [hcp] at hi
  have := w.plc i hi;have h2 := w.siz i hi;have q := Xl l i;have := hlo i hi;have hs : QX l (i + 1) = QX l i + (Vm.siz l i).toNat := rfl;unfold ZK
  by_cases hz : Vm.siz l i = 0
  · rw [if_pos hz] at *; rw [if_pos (.inl (by assumption))]; omega
  · rw [if_neg hz] at *; rw [if_neg (by omega)]; omega
 ·rw [hcp] at hi
  have p1 := w.plc i hi;have s1 := w.siz i hi;have p2 := w.plc k (by omega)
  have s2 := w.siz k (by omega)
  have q := Xl l i;have q2 := Xl l k;have hm := Wh l (i := k + 1) (j := i) (by omega)
  have h3 := hlo i hi;have e1 : QX l (i + 1) = QX l i + (Vm.siz l i).toNat := rfl;unfold ZC
  by_cases hz : Vm.siz l i = 0
  · left; omega
  ·by_cases hz2 : Vm.siz l k = 0
   · right; left; omega
   ·rw [if_neg hz] at p1; rw [if_neg hz2] at p2
    right; right; left; omega
 ·rw [hcp]
  rintro ⟨a, b⟩
  rw [w.siz _ (by omega)] at b
  exact g.last ⟨a, b⟩
 ·have e : (i < Vm.cnt p /\ Vm.siz p i ≠ 0) ↔ (i < Vm.cnt l /\ Vm.siz l i ≠ 0) := by
   rw [hcp];constructor <;> (rintro ⟨a, b⟩; refine ⟨a, ?_⟩)
   · rwa [w.siz i a] at b
   · rwa [w.siz i a]
  refine ⟨zl e, fun hh => ?_⟩
  obtain ⟨a, b⟩ := Ka.1 hh;have q := Xl l i;have h3 := hlo i a;have e1 : QX l (i + 1) = QX l i + (Vm.siz l i).toNat := rfl;obtain ⟨b1, b2⟩ := g.bd a b;have pp := w.plc i a;rw [if_neg b] at pp;refine Bb (w.siz i a) (by rw [g.len]; omega) (by rw [w.siz i a, w.len]; omega) fun j hj => ?_
  have hc := w.cel i a j hj;rw [Bz (by rw [g.len]; omega) hj] at hc
  rw [<- hc]
  congr 1; omega
 ·unfold KP
  rw [hcp, w.cnt, w1, Ur _ w.siz]
theorem ux {l l' p p' : List UInt8} {n : Nat} (w : Den l n n p) (w' : Den l' n n p') (hs : ∀ j, j < n -> siz l j = siz l' j) (hc : ∀ j, j < n -> siz l j ≠ 0 -> Qm l j = Qm l' j) (h1 : bt p 1 = bt p' 1) (hle : QX l n <= 64) : p = p' := by
 have hS : ∀ j, j <= n -> QX l j = QX l' j := fun j hj => Ur j fun i hi => hs i (by omega)
 refine zS (by rw [w.len, w'.len]) fun y hy => ?_
 rw [w.len] at hy
 by_cases y0 : y = 0
 · subst y0; exact w.cnt.trans w'.cnt.symm
 by_cases y1 : y = 1
 · subst y1; exact h1
 by_cases y2 : y < 2 + 2 * n
 ·by_cases he : y % 2 = 0
  ·obtain ⟨j, rfl⟩ : ∃ j, y = 2 + 2 * j := ⟨(y - 2) / 2, by omega⟩
   have a := w.plc j (by omega)
   have b := w'.plc j (by omega)
   rw [<- hs j (by omega), <- hS (j + 1) (by omega)] at b
   exact a.trans b.symm
  ·obtain ⟨j, rfl⟩ : ∃ j, y = 3 + 2 * j := ⟨(y - 3) / 2, by omega⟩
   have a := w.siz j (by omega)
   have b := w'.siz j (by omega)
   rw [hs j (by omega)] at a
   exact a.trans b.symm
 by_cases y3 : y < 64 - QX l n
 · rw [w.zer y (by omega) y3, w'.zer y (by omega) (by rw [<- hS n (Hx _)]; exact y3)]
 ·have find : ∀ i, i <= n -> 64 - QX l i <= y -> ∃ j, j < i /\ 64 - QX l (j + 1) <= y /\ y < 64 - QX l j := by
   intro i
   induction i with
   | zero => intro _ h; simp only [QX] at h; omega
   | succ i ih =>
    intro hi h
    by_cases hh : 64 - QX l i <= y
    ·obtain ⟨j, a, b, c⟩ := ih (by omega) hh
     exact ⟨j, by omega, b, c⟩
    · exact ⟨i, by omega, h, by omega⟩
  obtain ⟨j, hj, a, b⟩ := find n (Hx _) (by omega)
  have hm := Wh l (i := j + 1) (j := n) (by omega)
  have e1 : QX l (j + 1) = QX l j + (siz l j).toNat := rfl;have q := Xl l j;have c1 := w.cel j hj (y - (64 - QX l (j + 1))) (by omega)
  have c2 := w'.cel j hj (y - (64 - QX l (j + 1))) (by rw [<- hs j hj]; omega)
  rw [<- hS (j + 1) (by omega)] at c2
  rw [show 64 - QX l (j + 1) + (y - (64 - QX l (j + 1))) = y from by omega] at c1 c2
  rw [c1, c2, hc j hj (by omega)]
theorem kD {l : List UInt8} (hp : QH l = 0) : QH (KZ l) = 0 /\ VB l (KZ l) (-1) /\ KP (KZ l) = KP l /\ bt (KZ l) 1 - (2 + 2 * bt (KZ l) 0) = KP (KZ l) /\ KZ (KZ l) = KZ l := by
 obtain ⟨a, b⟩ := wI hp;obtain ⟨g1, g2, g3⟩ := a.pg hp b;have hb := UW hp (Hx (cnt l));have w := Pg.of hp;obtain ⟨w1, w2, w3, w4⟩ := w.nums;have hcp := WJ a.cnt;refine ⟨g1.ok, g2, g3, ?_, ?_⟩
 ·unfold KP
  rw [b, a.cnt, hcp, Ur _ a.siz]; omega
 ·obtain ⟨a', b'⟩ := wI g1.ok
  rw [hcp] at a' b';refine ux a' a a.siz (fun j hj hz => ?_) (by rw [b, b', Ur _ a.siz]) (by rw [Ur _ a.siz]; omega)
  rw [a.siz j hj] at hz;exact (g2 j (by omega) (by omega)).2 (Ka.2 ⟨hj, hz⟩)
end Vm
namespace Vm
open Go
structure CellAt (ps : List (List UInt8)) (pp kk : Nat) (ll : List UInt8) : Prop where
 p : ps[pp]? = some ll
 l : QH ll = 0
 h : Z7 ll (kk : Int) = true
theorem CellAt.len {ps : List (List UInt8)} {p k : Nat} {l : List UInt8} (w : CellAt ps p k l) : l.length = 64 /\ l ≠ [] /\ k < cnt l /\ k < 16 := by
 obtain ⟨h64, ⟨q1, _⟩, _⟩ := Qv w.l;have := (Ka.1 w.h).1;have := Xd l;exact ⟨h64, fun e => (by rw [e] at h64; cases h64), by omega, by omega⟩
theorem qA (ms : List SpotD) (x : SpotD) : (YB ms x).p = x.p /\ (YB ms x).s = x.s /\ (YB ms x).c.flag = x.c.flag /\ (YB ms x).c.page = x.c.page /\ (YB ms x).c.slot = x.c.slot := by
 unfold YB; split <;> exact ⟨rfl, rfl, rfl, rfl, rfl⟩
theorem N4 {ms : List SpotD} : ∀ {sp : List SpotD}, KW ms (QF sp) = false -> ∀ x ∈ sp, x.c.flag = 1 -> (mvF ms x.c.page x.c.slot).isSome = true
 | [], _, x, hx, _ => by simp at hx
 | y :: sp, h, x, hx, hf => by
  by_cases hy : y.c.flag = 1
  ·rw [Ym hy, Wo, D2] at h
   rcases HH.1 hx with rfl | hx
   ·have := h.1
    change (mvF ms x.c.page x.c.slot).isNone = false at this
    cases hm : mvF ms x.c.page x.c.slot with
    | none => rw [hm] at this; cases this
    | some r => rfl
   · exact N4 h.2 x hx hf
  ·rw [Jq hy] at h
   rcases HH.1 hx with rfl | hx
   · exact absurd hf hy
   · exact N4 h x hx hf
theorem qB {ps : List (List UInt8)} (h : ZF ps = 0) {z : SpotD} (hz : z ∈ Zg ps) :
  (∃ l, CellAt ps z.p z.s l) /\ (z.c.flag = 1 -> ∃ (a b : Nat) (l2 : List UInt8), z.c.page = a /\ z.c.slot = b /\ CellAt ps a b l2 /\ ¬ (a = z.p /\ b = z.s)) /\ (z.c.flag = 0 \/ z.c.flag = 1) := by
 obtain ⟨h1, h2, h3, h4⟩ := Yk h;unfold Zg JO at hz;obtain ⟨x, hx, rfl⟩ := HR.1 hz;obtain ⟨hxs, hxf⟩ := List.mem_filter.1 hx;obtain ⟨e1, e2, e3, e4, e5⟩ := qA (QZ (Qh 0 ps)) x;have hq := Wj (Q := fun x => ∃ l, CellAt ps x.p x.s l /\ x.c = QS (Qm l x.s)) ps 0 (fun i l hi s hs => ⟨l, ⟨by simpa using hi, (h2 l (HU hi)).1, hs⟩, rfl⟩) x hxs
 obtain ⟨l, w, hc⟩ := hq;have hsp := V0 h2 x hxs;have hfl : x.c.flag = 0 \/ x.c.flag = 1 := by
  have := hsp.f;simp at hxf;omega
 refine ⟨⟨l, by rw [e1, e2]; exact w⟩, fun hf => ?_, by rw [e3]; exact hfl⟩
 rw [e3] at hf;have hm := N4 h3 x hxs hf;rw [Gm] at hm
 cases hca : Qg ps x.c.page x.c.slot with
 | none => rw [hca] at hm; cases hm
 | some c =>
  rw [hca, HC] at hm;have h2c : c.flag = 2 := by
   by_cases h2c : c.flag = 2
   · exact h2c
   · rw [if_neg h2c] at hm; cases hm
  obtain ⟨a, b, l2, q1, q2, q3, q4, q5⟩ := WK hca;refine ⟨a, b, l2, by rw [e4]; exact q1, by rw [e5]; exact q2, ⟨q3, (h2 l2 (HU q3)).1, q4⟩, ?_⟩
  rintro ⟨ha, hb⟩
  rw [e1] at ha;rw [e2] at hb;subst ha; subst hb;have : l2 = l := by have h1 := w.p; rw [q3] at h1; injection h1
  subst this;rw [<- hc] at q5;rw [q5] at h2c;omega
end Vm
namespace Vm
open Go
theorem uI {z : Nat} {y : S} {rows : List (List S)} {bs : List Nat} {h : H} {row : List S} (w : OutS z 0 y rows bs h) (hs : ∀ s ∈ row, Sc s) (hz : row.length = z) (hz0 : 0 < z) (hl : rows.length + 1 <= lim) :
  ∃ h' bs', Zm z (h.new z row) (.s y) (sv h.n 0 1) = some (sv (h.n + 1) 0 (rows.length + 1), h') /\ OutS z 0 (.sl (some (h.n + 1, 0)) (rows.length + 1)) (rows ++ [row]) bs' h' /\ h'.n = h.n + 2 /\ (∀ c ∈ bs', c = h.n + 1 \/ c ∈ bs) /\ (∀ c, c < h.n -> c ∉ bs -> h'.g c = h.g c) := by
 obtain ⟨h', bs', e, o, n, m, k, _, _⟩ := YS (fr := row) (br := []) w (RepL.sc hs) hz hz0 (by simp) (by simp) hl
 exact ⟨h', bs', e, o, n, fun c hc => by rcases m c hc with h | h | h <;> simp_all, k⟩
def Gr (z n : Nat) (h0 : H) (y : S) (rows : List (List S)) (h : H) : Prop := n <= h.n /\ (∀ c, c < n -> h.g c = h0.g c) /\ ∃ bs, OutS z 0 y rows bs h /\ ∀ b ∈ bs, n <= b
theorem Gr.none {z n : Nat} {h : H} (hn : n <= h.n) : Gr z n h (.sl none 0) [] h := ⟨hn, fun _ _ => rfl, [], OutS.none, by simp⟩
theorem Gr.new {z : Nat} {h : H} (hz0 : 0 < z) : Gr z h.n h (.sl (some (h.n, 0)) 0) [] (h.new z []) := by
 refine ⟨by simp, fun c hc => QO (by omega), [h.n], ⟨?_, by simp, .inr ⟨h.n, [], rfl, QI _ _ _⟩, by simp⟩, by simp⟩
 exact Rep.sl (rows := []) (bss := []) (by simp) hz0 (QI _ _ _) (by simp) .nil
theorem Gr.keep {z n : Nat} {h0 h h' : H} {y : S} {rows : List (List S)} (w : Gr z n h0 y rows h) (x : K6 h h') : Gr z n h0 y rows h' := by
 obtain ⟨w1, w2, bs, w3, w4⟩ := w;exact ⟨HL w1 x.1, fun c hc => (x.2 c (by omega)).1.trans (w2 c hc), bs, w3.frame fun b hb => by
  have := w3.rep.lt b hb;exact ⟨by have := x.1; omega, (x.2 b this).1⟩, w4⟩
theorem Gr.app {z n : Nat} {h0 h : H} {y : S} {rows : List (List S)} {row : List S} (w : Gr z n h0 y rows h) (hs : ∀ s ∈ row, Sc s) (hz : row.length = z) (hz0 : 0 < z) (hl : rows.length + 1 <= lim) :
  ∃ h', Zm z (h.new z row) (.s y) (sv h.n 0 1) = some (sv (h.n + 1) 0 (rows.length + 1), h') /\ Gr z n h0 (.sl (some (h.n + 1, 0)) (rows.length + 1)) (rows ++ [row]) h' /\ h'.n = h.n + 2 := by
 obtain ⟨w1, w2, bs, w3, w4⟩ := w;obtain ⟨h', bs', e, o, hn, m, k⟩ := uI w3 hs hz hz0 hl;refine ⟨h', e, ⟨by omega, fun c hc => (k c (by omega) fun hh => by have := w4 c hh; omega).trans (w2 c hc), bs', o, fun b hb => ?_⟩, hn⟩
 rcases m b hb with rfl | hb
 · omega
 · exact w4 b hb
theorem Gr.own {z n : Nat} {h0 h : H} {y : S} {rows : List (List S)} (w : Gr z n h0 y rows h) : Ku 1 y (.fs rows) n h.n h := by
 obtain ⟨w1, w2, bs, w3, w4⟩ := w;exact ⟨bs, w3.rep, w3.nd, fun b hb => ⟨w4 b hb, w3.rep.lt b hb⟩⟩
theorem Gr.frz {z n : Nat} {h0 h : H} {y : S} {rows : List (List S)} (w : Gr z n h0 y rows h) : QL h (.s y) = some (lv rows) := w.own.frz
theorem Ku.lift {d k : Nat} {y f : S} {lo hi : Nat} {h : H} (w : Ku d y f lo hi h) (hk : d <= k) : Ku k y f lo hi h := by
 obtain ⟨bs, a, b, c⟩ := w;exact ⟨bs, a.lifts hk, b, c⟩
theorem B0 {h h' : H} {l : List V} {m k : Nat} (hm : h.n <= m) (hl : sv m 0 k ∈ l) : tidy h l h' = h' := by
 refine Kr ?_;rw [List.all_eq_false];exact ⟨_, hl, by simp [ZM, QR]; omega⟩
theorem Q4K (n d : Nat) (c : Int) : ∃ h', (stK 2 ((D n).new 0 [.int Ly 0, .sl none 0]) (pv ((D n).n) 0) (.agg [.int Ly c, .sl none 0]) fun h105 =>
   (Qp 2 h105 (pv ((D n).n) 0)).bind fun c106 => some (V.agg c106, h105)) = some (.agg [.int Ly c, .sl none 0], h') /\ NewC d [.int Ly c, .sl none 0] [.int Ly c, .fs []] n h' := by
 rw [RJ, xT (by simp) (by exact zo), Vm.ob]
 refine ⟨_, rfl, by simp, [], ?_, by simp, by simp⟩
 exact RepL.cons (bs := []) (Rep.sc trivial) (RepL.cons (bs := []) Rep.nil .nil)
end Vm
