/-
  What both ways of the law come to, and that the law returns true.
-/
import Derived.Sort.LotD6
import Derived.Sort.LotD7
import Derived.Sort.LotB
import Derived.Sort.LotD3
import Derived.Sort.LotD5
import Derived.Sort.LotD4
import Derived.Sort.LotA
import Derived.Sort.LotC
import Derived.Test.YtmenpfhpflnbnaaGreatTyp
import Derived.Test.YtmenpfhpflnbnaaGreatEqs
import Derived.Test.YtmenpfhpflnbnaaGreatVmR
import Derived.Test.YtmenpfhpflnbnaaGreatVmN
set_option linter.unusedVariables false
set_option maxRecDepth 100000
set_option linter.unusedSimpArgs false
set_option linter.unusedSectionVars false
set_option maxHeartbeats 1000000
open Array renaming getElem?_eq_getElem->DC,getElem?_toList->Fy,length_toList->FU
open BitVec renaming ofInt->Dq,toNat_ofInt->SX
open Bool renaming and_eq_true->HE,false_eq_true->FD,or_eq_true->Ex
open Classical renaming byContradiction->Db,not_not->DE
open Int renaming toNat_natCast->HQ
open List.Pairwise renaming cons->SZ,nil->D1,of_cons->Av
open List renaming append_assoc->FA,drop_eq_getElem_cons->Dl,drop_of_length_le->ET,drop_zero->HX,eq_nil_of_length_eq_zero->FS,filter_cons->FQ,find?_cons->DF,find?_eq_none->Dd,flatten_append->EJ,flatten_cons->FC,getElem?_cons_zero->HP,getElem?_eq_getElem->HI,getElem?_eq_none->EH,length_append->HO,length_cons->HM,length_drop->EK,map_congr_left->Cw,map_cons->HS,mem_cons->HH,mem_filter->FJ,mem_map->HR,nil_append->EI,not_mem_nil->EL,perm_middle->SY,range->FF,rel_of_pairwise_cons->DD,set_eq_take_append_cons_drop->DA,take_of_length_le->Fz
open Nat renaming div_mul_le_self->Az,le_refl->Hx,le_trans->HL,lt_of_lt_of_le->HJ,mod_eq_of_lt->CA,reduceAdd->HA,succ_mul->Ew,xor_lt_two_pow->AA,zero_add->Hw,zero_le->FZ
open Option renaming bind_eq_some_iff->Hv,bind_some->HC
open UInt64 renaming ofNat->CC
open Go.IntKind renaming i64->Ly,u8->LA
namespace Vm
open Go
section
variable {R : Type}
theorem ob {α β : Type} {a : α} {f : α -> Option β} : (some a).bind f = f a := id rfl
theorem gx0 {α : Type} {x : α} {l : List α} : (x :: l)[0]? = some x := id rfl
theorem gx1 {α : Type} {x : α} {l : List α} {n : Nat} : (x :: l)[n + 1]? = l[n]? := by simp
theorem ln0 {α : Type} : ([] : List α).length = 0 := id rfl
theorem ln1 {α : Type} {x : α} {l : List α} : (x :: l).length = l.length + 1 := by simp
@[simp] theorem Q3 {x : S} {q : S -> Option R} : gV1 (.s x) q = q x := id rfl
@[simp] theorem Zb {x : List S} {q : List S -> Option R} : gVA (.agg x) q = q x := id rfl
@[simp] theorem Za {x : List A} {q : List A -> Option R} : gVT (.tup x) q = q x := id rfl
@[simp] theorem Zc {x : S} {q : S -> Option R} : gA1 (.s x) q = q x := id rfl
@[simp] theorem KM {x : List S} {q : List S -> Option R} : gAA (.agg x) q = q x := id rfl
@[simp] theorem Q2 {k : IntKind} {n : Int} {q : Int -> Option R} : gI k (.int k n) q = q n := by simp [gI]
@[simp] theorem QW {b : Bool} {q : Bool -> Option R} : gB (.bool b) q = q b := id rfl
@[simp] theorem Z8 {b : ByteArray} {q : ByteArray -> Option R} : gS (.str b) q = q b := id rfl
@[simp] theorem QY {b : List (List S)} {q : List (List S) -> Option R} : gF (.fs b) q = q b := id rfl
@[simp] theorem Q1 {b : Bool} {x y : Option R} : vcase (bv b) x y = if b = true then x else y := by cases b <;> rfl
@[simp] theorem Q5i {b : Bool} {x y z : Option R} : gcase (bv b) x y z = if b = true then x else y := by cases b <;> rfl
@[simp] theorem Qc {l : List V} {h : H} {f : List V -> H -> Option R} {g : V -> H -> Option R} : Qz (.done l h) f g = f l h := id rfl
@[simp] theorem Zx {l : V} {h : H} {f : List V -> H -> Option R} {g : V -> H -> Option R} : Qz (.ret l h) f g = g l h := id rfl
theorem pc {cl : Nat -> List V -> H -> Option (V × H)} {g : Nat} {xs : List V} {v : V} {k : V -> Option R} (h : Q8 cl g xs = some v) (hs : scaV v = true) : Q9 cl g xs k = k v := by
 unfold Q9; rw [h]; simp [hs]
end
@[simp] theorem Q5q {k : IntKind} {n : Int} : ZL (.int k n) = true := id rfl
@[simp] theorem kX {n : Bool} : ZL (.bool n) = true := id rfl
@[simp] theorem Q5p {n : ByteArray} : ZL (.str n) = true := id rfl
@[simp] theorem GZ {x : S} : scaV (.s x) = ZL x := id rfl
@[simp] theorem Q5r {x : List S} : scaV (.agg x) = x.all ZL := id rfl
@[simp] theorem Q5o {x : List A} : scaV (.tup x) = x.all RM := id rfl
@[simp] theorem Q5j {x : S} : RM (.s x) = ZL x := id rfl
@[simp] theorem Q5k {x : List S} : RM (.agg x) = x.all ZL := id rfl
@[simp] theorem Q3e {h : H} {k : IntKind} {n : Int} {d : Nat} : Qy h d (.int k n) = some (.int k n) := by cases d <;> rfl
@[simp] theorem Q3f {h : H} {n : Bool} {d : Nat} : Qy h d (.bool n) = some (.bool n) := by cases d <;> rfl
@[simp] theorem Q3d {h : H} {n : ByteArray} {d : Nat} : Qy h d (.str n) = some (.str n) := by cases d <;> rfl
@[simp] theorem Q5t {h : H} {n : List (List S)} {d : Nat} : Qy h d (.fs n) = some (.fs n) := by cases d <;> rfl
@[simp] theorem Q5s {h : H} {n : List S} {o d : Nat} : Qy h d (.fp n o) = some (.fp n o) := by cases d <;> rfl
@[simp] theorem jo {h : H} {d : Nat} : Qy h d (.sl none 0) = some (.fs []) := by cases d <;> simp [Qy]
@[simp] theorem Y1 {h : H} {x : S} : QL h (.s x) = (Qy h 8 x).bind fun y => some (.s y) := id rfl
@[simp] theorem Q5m {h : H} {x : List S} : QL h (.agg x) = (mapO (Qy h 8) x).bind fun y => some (.agg y) := id rfl
@[simp] theorem Q5l {h : H} {x : List A} : QL h (.tup x) = (KY h x).bind fun y => some (.tup y) := id rfl
attribute [simp] mapO
theorem yS {h : H} {d : Nat} {s : S} {b : Bool} : Qy h d s = some (.bool b) -> s = .bool b := by
 unfold Qy;intro e
 repeat' split at e
 all_goals first
  | (cases e; done)
  | (cases e; rfl)
  | (obtain ⟨l, _, h2⟩ := Hv.1 e; cases h2)
theorem Q23 {E : Env} {f : Nat} {xs : List V} {b : Bool} (h : Q8 (call E) f xs = some (bv b)) : ∃ h', call E f xs (D 0) = some (bv b, h') := by
 unfold Q8 at h;obtain ⟨⟨v, h'⟩, hc, h2⟩ := Hv.1 h;refine ⟨h', ?_⟩;rw [hc]
 congr 2
 cases v with
 | s x =>
  obtain ⟨y, h3, h4⟩ := Hv.1 h2
  cases h4
  rw [yS h3]
 | agg cs => obtain ⟨y, h3, h4⟩ := Hv.1 h2; cases h4
 | tup az => obtain ⟨y, h3, h4⟩ := Hv.1 h2; cases h4
@[simp] theorem Q6 (h : H) (l : List V) : tidy h l h = h := by
 unfold tidy
 split
 · cases h; simp
 · rfl
theorem Zj.refl (h : H) : Zj h h := ⟨Hx _, fun _ _ => .inr ⟨rfl, rfl⟩⟩
theorem Zj.trans {a b c : H} (x : Zj a b) (y : Zj b c) : Zj a c := ⟨HL x.1 y.1, fun i hi => by
 rcases x.2 i hi with h1 | h1
 · exact .inl h1
 rcases y.2 i (HJ hi x.1) with h2 | h2
 · exact .inl (h1.1 ▸ h2)
 · exact .inr ⟨h2.1.trans h1.1, h2.2.trans h1.2⟩⟩
def K6 (h h' : H) : Prop := h.n <= h'.n /\ ∀ b, b < h.n -> h'.g b = h.g b /\ h'.v b = h.v b
theorem K6.ext {h h' : H} (x : K6 h h') : Zj h h' := ⟨x.1, fun b hb => .inr (x.2 b hb)⟩
theorem K6.refl (h : H) : K6 h h := ⟨Hx _, fun _ _ => ⟨rfl, rfl⟩⟩
theorem K6.trans {a b c : H} (x : K6 a b) (y : K6 b c) : K6 a c := ⟨HL x.1 y.1, fun i hi => by
 have h1 := x.2 i hi;have h2 := y.2 i (HJ hi x.1);exact ⟨h2.1.trans h1.1, h2.2.trans h1.2⟩⟩
theorem BZ {h h' : H} {l : List V} (x : K6 h h') (hl : l.all (ZM h.n) = true) : tidy h l h' = h := by
 unfold tidy;rw [if_pos ⟨x.1, hl, fun b hb => Or.inl (x.2 b hb)⟩]
 obtain ⟨n, g, v⟩ := h;simp only [H.mk.injEq, true_and];constructor <;> (funext b; split <;> first | rfl | exact (x.2 b (by assumption)).1 | exact (x.2 b (by assumption)).2)
@[simp] theorem Qu {R : Type} (h : H) (x : Option R) : hchk h h x = x := by unfold hchk; rw [if_pos (Zj.refl h)]
theorem ZB {R : Type} {h h' : H} {x : Option R} (hx : Zj h h') : hchk h h' x = x := by unfold hchk; rw [if_pos hx]
theorem K6.new {h0 h : H} (x : K6 h0 h) {e : Nat} {cs : List S} : K6 h0 (h.new e cs) := x.trans ⟨by simp [H.new], fun b hb => by
 have : b ≠ h.n := by omega
 simp [H.new, this]⟩
theorem K6.put {h0 h : H} (x : K6 h0 h) {b : Nat} {y : Blk} (hb : h0.n <= b) : K6 h0 (h.put b y) := ⟨x.1, fun i hi => by
 have : i ≠ b := by omega
 simpa [H.put, this] using x.2 i hi⟩
theorem Zj.new {h0 h : H} (x : Zj h0 h) {e : Nat} {cs : List S} : Zj h0 (h.new e cs) := x.trans (K6.refl h).new.ext
@[simp] theorem Xf (h : H) (e : Nat) (cs : List S) : (h.new e cs).n = h.n + 1 := id rfl
@[simp] theorem Qq (h : H) (b : Nat) (x : Blk) : (h.put b x).n = h.n := id rfl
@[simp] theorem QI (h : H) (e : Nat) (cs : List S) : (h.new e cs).g h.n = .rw e cs := by simp [H.new]
theorem QO {h : H} {e : Nat} {cs : List S} {b : Nat} (hb : b ≠ h.n) : (h.new e cs).g b = h.g b := by simp [H.new, hb]
@[simp] theorem Z9 (h : H) (b : Nat) (x : Blk) : (h.put b x).g b = x := by simp [H.put]
theorem QG {h : H} {x : Blk} {b c : Nat} (hb : c ≠ b) : (h.put b x).g c = h.g c := by simp [H.put, hb]
@[simp] theorem D_n (n : Nat) : (D n).n = n := id rfl
theorem w64 {n : Int} (h1 : -9223372036854775808 <= n) (h2 : n < 9223372036854775808) : Ly.wrap n = n := by
 simp [IntKind.wrap, IntKind.signed, IntKind.bits]; split <;> omega
theorem w8 {n : Int} (h1 : 0 <= n) (h2 : n < 256) : LA.wrap n = n := by
 simp [IntKind.wrap, IntKind.signed, IntKind.bits]; omega
theorem wf8 {n : Int} (h : (Lit.int LA n).wf = true) : 0 <= n /\ n < 256 := by
 simp [Lit.wf, IntKind.min, IntKind.max, IntKind.signed, IntKind.bits] at h; omega
def sby (s : ByteArray) (i : Int) : Int := ((s.get! i.toNat).toNat : Int)
theorem Pa {s : ByteArray} {k : IntKind} {i : Int} (h0 : 0 <= i) (h1 : i < (s.size : Int)) : Yq (.s (.str s)) (iv k i) = some (iv LA (sby s i)) := by
 simp only [Yq]; rw [if_pos ⟨h0, h1⟩]; rfl
theorem qm {s : ByteArray} {i : Nat} (h : i < s.size) : s.data.toList.drop i = s.get! i :: s.data.toList.drop (i + 1) := by
 have h' : i < s.data.toList.length := by simpa using h
 rw [Dl h']
 congr 1
 have h2 : i < s.data.size := h;simp only [ByteArray.get!, Array.getElem_toList];exact (getElem!_pos s.data i h2).symm
theorem ql {s : ByteArray} {i : Nat} (h : s.size <= i) : s.data.toList.drop i = [] := ET (by simpa using h)
section
variable {R : Type}
theorem UZ {z : Nat} {rows : List (List S)} {i : Nat} {r : List S} {k : List S -> Option R} (h : rows[i]? = some r) (hz : r.length = z) : QB z rows (i : Int) k = k r := by
 have hi : i < rows.length := (List.getElem?_eq_some_iff.1 h).1;unfold QB;rw [if_pos ⟨by omega, by omega⟩]
 simp [h, hz]
theorem Zf {α : Type} {l r : List α} {x : α} {i : Nat} (h : l.drop i = x :: r) : l[i]? = some x /\ l.drop (i + 1) = r /\ i < l.length := by
 have hi : i < l.length := by
  have := congrArg List.length h;simp at this; omega
 rw [Dl hi] at h
 injection h with h1 h2
 exact ⟨by rw [HI hi, h1], h2, hi⟩
theorem Zn {α : Type} {l : List α} {i : Nat} (h : l.drop i = []) : l.length <= i := by simpa using h
theorem Uf {n : Nat} {r : List S} (h : r.length = n) : JP n r 0 = some r := by
 simp [JP, <- h]
end
end Vm
namespace Vm
open Go
def inB (n a b : Int) : Bool := decide (a <= n) && decide (n <= b)
theorem X4 {n a b : Int} : inB n a b = true ↔ a <= n /\ n <= b := by simp [inB]
theorem MB (n a b : Int) : Q8 (call Ev) Fn.KH [iv Ly n, iv Ly a, iv Ly b] = some (bv (inB n a b)) := by
 rw [qM, Q1];unfold inB
 split <;> simp_all <;> omega
theorem j8 (n a b : Int) : Q8 (call Ev) Fn.Ux [iv Ly n, iv Ly a, iv Ly b] = some (bv (inB n a b)) := by
 rw [j6, Q1];unfold inB
 split <;> simp_all <;> omega
end Vm
namespace Vm
open Go
structure RowD where
 tab : Int
 key : Int
 val : Int
 text : ByteArray
abbrev RowD.cs (r : RowD) : List S := [.int Ly r.tab, .int Ly r.key, .int Ly r.val, .str r.text]
def low (c : UInt8) : Bool := decide (97 <= (c.toNat : Int)) && decide ((c.toNat : Int) <= 122)
def Jo (s : ByteArray) (i : Nat) : Bool := (s.data.toList.drop i).all low
def XW (r : RowD) : Int := if inB r.tab 0 3 && inB r.key 1 99 && inB r.val 0 999 then (if decide (r.text.size <= 8) && Jo r.text 0 then 0 else 5) else 3
theorem BR {s : ByteArray} {i : Nat} (h : i < s.size) : Jo s i = (low (s.get! i) && Jo s (i + 1)) := by
 unfold Jo; rw [qm h]; rfl
theorem RC {s : ByteArray} {i : Nat} (h : s.size <= i) : Jo s i = true := by
 unfold Jo; rw [ql h]; rfl
theorem yH (s : ByteArray) (hs : s.size <= maxLen) (h : H) : ∀ k i : Nat, i + k = s.size -> Lp.Kg 0 [.s (.str s), iv Ly i] h = some (if Jo s i then .done [.s (.str s)] h else .ret (bv false) h) := by
 unfold maxLen at hs;intro k
 induction k with
 | zero =>
  intro i hi;rw [G0, Q1, if_neg (by simp; omega), RC (by omega)]; simp
 | succ k ih =>
  intro i hi;rw [G0, Q1, if_pos (by simp; omega), Pa (by omega) (by omega), BR (by omega), w64 (by omega) (by omega), show (i : Int) + 1 = ((i + 1 : Nat) : Int) from by omega, Q6, ih (i + 1) (by omega)]
  have e : sby s i = ((s.get! i).toNat : Int) := by simp [sby]
  simp only [HC, Q3, Q2, Q1, e, decide_eq_true_eq, low, HE]
  split
  · rw [if_neg (by omega)]
  ·split
   · rw [if_neg (by omega)]
   · simp only [show (97 <= ((s.get! i).toNat : Int)) from by omega, show ((s.get! i).toNat : Int) <= 122 from by omega, true_and]
theorem vH (s : ByteArray) (hs : s.size <= maxLen) : Q8 (call Ev) Fn.Kg [.s (.str s)] = some (bv (decide (s.size <= 8) && Jo s 0)) := by
 rw [RY, show iv Ly 0 = iv Ly ((0 : Nat) : Int) from rfl, yH s hs _ s.size 0 (by omega)]
 cases Jo s 0 <;> simp <;> omega
theorem yr (r : RowD) (hs : r.text.size <= maxLen) : Q8 (call Ev) Fn.UD [fv r.cs 0] = some (iv Ly (XW r)) := by
 rw [R6];simp only [Q9, MB, vH _ hs, HC, GZ, kX, cond_true, Q3, QW, Q1];unfold XW
 cases inB r.tab 0 3 <;> cases inB r.key 1 99 <;> cases inB r.val 0 999 <;> cases (decide (r.text.size <= 8) && Jo r.text 0) <;> simp
theorem xm (r : RowD) (hs : r.text.size <= maxLen) (h : H) (p : Nat) (hp : h.cells p = r.cs) : ∀ k i : Nat, i + k = r.text.size -> Lp.Xj 0 [pv p 0, iv Ly (r.text.size : Int), iv Ly i] h = some (if Jo r.text i then .done [] h else .ret (iv Ly 5) h) := by
 unfold maxLen at hs;intro k;have ld : ∀ (q : V -> Option LOut), ldK (.one (.s)) ⟨1, 16, [.str ⟨#[]⟩], false, .str, false⟩ h (pv p (0 + 3)) q = q (.s (.str r.text)) := by
  intro q; simp [ldK, ldT, Qb, hp]
 have pa : JC 3 (pv p 0) = some (pv p (0 + 3)) := rfl
 induction k with
 | zero =>
  intro i hi;rw [UT, Q1, if_neg (by simp; omega), RC (by omega)]; simp
 | succ k ih =>
  intro i hi;rw [UT, Q1, if_pos (by simp; omega), BR (by omega), w64 (by omega) (by omega), show (i : Int) + 1 = ((i + 1 : Nat) : Int) from by omega, Q6, ih (i + 1) (by omega)]
  have e : sby r.text i = ((r.text.get! i).toNat : Int) := by simp [sby]
  simp only [pa, HC, ld, Q3, Z8];rw [Pa (by omega) (by omega)]
  simp only [HC, Q3, Q2, Q1, e, decide_eq_true_eq, low, HE]
  split
  · rw [if_neg (by omega)]
  ·split
   · rw [if_neg (by omega)]
   · simp only [show (97 <= ((r.text.get! i).toNat : Int)) from by omega, show ((r.text.get! i).toNat : Int) <= 122 from by omega, true_and]
theorem j9 (r : RowD) (hs : r.text.size <= maxLen) : Q8 (call Ev) Fn.Xj [.agg r.cs] = some (iv Ly (XW r)) := by
 have hl := xm r hs ((D 0).new 0 r.cs) 0 (by simp [H.cells, H.new, D, Blk.cells]) r.text.size 0 (by omega)
 rw [V9];simp only [Q9, j8, HC, GZ, kX, cond_true, Q3, QW, Q1];rw [show iv Ly 0 = iv Ly ((0 : Nat) : Int) from rfl, hl]
 unfold XW
 cases inB r.tab 0 3 <;> cases inB r.key 1 99 <;> cases inB r.val 0 999 <;> simp
 by_cases h8 : r.text.size <= 8
 ·rw [if_neg (by omega)]
  cases Jo r.text 0 <;> simp [h8]
 · rw [if_pos (by omega)]; simp [h8]
def ZJ (a b : RowD) : Bool := decide (a.tab < b.tab) || (decide (a.tab = b.tab) && decide (a.key < b.key))
end Vm
namespace Vm
open Go
end Vm
namespace Vm
open Go
@[simp] theorem Gx {h : H} {l : List V} {b : Nat} {x : Blk} (hb : b < h.n) : tidy h l (h.put b x) = h.put b x := by
 unfold tidy
 split
 ·obtain ⟨n, g, v⟩ := h
  simp only [H.put, H.mk.injEq, true_and];constructor <;> (funext c; split <;> first | rfl | (rename_i hc; rw [if_neg (by intro e; subst e; exact hc hb)]))
 · rfl
def Q2H (v : V) (r : List S) : Prop := (∃ x, v = .s x /\ r = [x] /\ isNo x = false) \/ v = .agg r
theorem Zq {R : Type} {z e o b : Nat} {h : H} {cs r : List S} {v : V} {k : H -> Option R} (hb : b < h.n) (hg : h.g b = .rw e cs) (hv : Q2H v r) (hr : r.length = z) (ho : o + z <= cs.length) :
  stK z h (pv b o) v k = k (h.put b (.rw e (setAt cs o r))) := by
 rcases hv with ⟨x, rfl, rfl, hx⟩ | rfl
 ·simp only [HM, List.length_nil, Hw] at hr
  subst hr;simp only [stK, if_true, j5, if_pos hb, hg];rw [if_pos (by omega), hx]
  have : cs.set o x = setAt cs o [x] := by
   unfold setAt;rw [DA, if_pos (by omega)]
   simp
  rw [this]; rfl
 ·simp only [stK, j4]
  rw [if_pos ⟨hb, hr⟩, hg];simp only;rw [if_pos ho]
theorem Z3 {R : Type} {z b n i : Nat} {kd : IntKind} {f : V -> Option R} (hi : i < n) : Qd z (sv b 0 n) (iv kd (i : Int)) f = f (pv b (i * z)) := by
 simp only [Qd, zi];rw [if_pos ⟨by omega, by omega⟩]
 simp
theorem V1 {A r B : List S} {o z : Nat} (ho : A.length = o) (hz : r.length = z) : setAt (A ++ B) o r = A ++ r ++ B.drop z := by
 subst ho; subst hz;unfold setAt;simp
theorem NX {T : Nat -> List S} {z : Nat} : ∀ (i : Nat), (∀ j, j < i -> (T j).length = z) -> (((FF i).map T).flatten).length = i * z
 | 0, _ => by simp
 | i + 1, h => by
  rw [List.range_succ, List.map_append, EJ, HO, NX i fun j hj => h j (by omega)]
  simp [h i (by omega), Ew]
theorem yV {z n b : Nat} {T : Nat -> List S} {L : Int -> H -> Option LOut} {fin : List V} (hT : ∀ i, i < n -> (T i).length = z)
  (hstep : ∀ (i : Nat) (h : H), i < n -> b < h.n -> ∃ v l, Q2H v (T i) /\ L i h = stK z h (pv b (i * z)) v fun h' => L ((i + 1 : Nat) : Int) (tidy h l h'))
  (hend : ∀ h, L n h = some (.done fin h)) :
  ∀ (k i : Nat) (h : H) (cs : List S), i + k = n -> b < h.n -> h.g b = .rw z (((FF i).map T).flatten ++ cs) -> cs.length = k * z ->
   ∃ h', L i h = some (.done fin h') /\ h'.n = h.n /\ h'.g b = .rw z (((FF n).map T).flatten) /\ ∀ c, c ≠ b -> h'.g c = h.g c /\ h'.v c = h.v c := by
 intro k
 induction k with
 | zero =>
  intro i h cs hi hb hg hl;obtain rfl : i = n := by omega
  have : cs = [] := FS (by omega)
  subst this;exact ⟨h, hend h, rfl, by simpa using hg, fun _ _ => ⟨rfl, rfl⟩⟩
 | succ k ih =>
  intro i h cs hi hb hg hl;obtain ⟨v, l, hv, e⟩ := hstep i h (by omega) hb
  have hz := hT i (by omega)
  have hp := NX (T := T) (z := z) i fun j hj => hT j (by omega)
  have hl' : cs.length = z + k * z := by rw [hl, Ew]; omega
  rw [e, Zq hb hg hv hz (by rw [HO, hp]; omega), Gx hb, V1 hp hz]
  obtain ⟨h', g1, g2, g3, g4⟩ := ih (i + 1) (h.put b (.rw z (((FF i).map T).flatten ++ T i ++ cs.drop z))) (cs.drop z) (by omega) hb
   (by rw [Z9, List.range_succ, List.map_append, EJ]; simp) (by rw [EK]; omega)
  refine ⟨h', g1, g2, g3, fun c hc => ?_⟩
  have := g4 c hc;simp only [H.put, if_neg hc] at this;exact this
def Cl (s : S) : Prop := ∀ (h : H) (d : Nat), Qy h d s = some s
theorem B8 {k : IntKind} {n : Int} : Cl (.int k n) := fun _ _ => Q3e
theorem uz {n : Bool} : Cl (.bool n) := fun _ _ => Q3f
theorem zG {n : ByteArray} : Cl (.str n) := fun _ _ => Q3d
theorem Bp {h : H} {d : Nat} : ∀ {l : List S}, (∀ s ∈ l, Cl s) -> mapO (Qy h d) l = some l
 | [], _ => rfl
 | s :: l, hl => by
  have h2 : mapO (Qy h d) l = some l := Bp fun s hs => hl s (List.mem_cons_of_mem _ hs)
  simp [mapO, hl s (by simp) h d, h2]
theorem JU {z : Nat} : ∀ {rows : List (List S)}, (∀ r ∈ rows, r.length = z) -> rows.flatten.length = rows.length * z
 | [], _ => by simp
 | r :: rows, h => by
  rw [FC, HO, h r (by simp), JU fun r hr => h r (by simp [hr]), HM, Ew]; omega
theorem Gd {z : Nat} : ∀ {rows : List (List S)}, (∀ r ∈ rows, r.length = z) -> YQ z rows.length rows.flatten = rows
 | [], _ => rfl
 | r :: rows, h => by
  have hr := h r (by simp)
  have ih := Gd (rows := rows) fun r hr => h r (by simp [hr])
  unfold YQ at ih ⊢;rw [HM, List.range_succ_eq_map, HS, List.map_map]
  congr 1
  · simp [<- hr]
  ·conv => rhs; rw [<- ih]
   refine Cw fun i _ => ?_
   simp only [Function.comp_apply, FC];rw [Ew, Nat.add_comm, <- List.drop_drop, <- hr, List.drop_left]
theorem MG {h : H} {b z d : Nat} {rows : List (List S)} (hb : b < h.n) (hz0 : 0 < z) (hg : h.g b = .rw z rows.flatten) (hz : ∀ r ∈ rows, r.length = z) (hc : ∀ r ∈ rows, ∀ s ∈ r, Cl s) : Qy h (d + 1) (.sl (some (b, 0)) rows.length) = some (.fs rows) := by
 simp only [Qy]
 split
 · rename_i h0; rw [FS h0]
 ·have hl := JU hz
  simp only [hb, if_true, hg];rw [if_pos ⟨hz0, by omega⟩, HX, Fz (by omega), Bp (fun s hs => by
   obtain ⟨r, h1, h2⟩ := List.mem_flatten.1 hs;exact hc r h1 s h2)]
  simp [Gd hz]
theorem Q13 {h : H} {b z : Nat} {rows : List (List S)} (hb : b < h.n) (hz0 : 0 < z) (hg : h.g b = .rw z rows.flatten) (hz : ∀ r ∈ rows, r.length = z) (hc : ∀ r ∈ rows, ∀ s ∈ r, Cl s) : QL h (sv b 0 rows.length) = some (lv rows) := by
 rw [Y1, MG hb hz0 hg hz hc]; rfl
theorem Q0L {z n : Nat} {zero : List S} {h : H} (hn : n <= lim) (hz0 : 0 < z) (hz : zero.length = z) {k1 k2 : IntKind} : Mp z zero h (iv k1 (n : Int)) (iv k2 (n : Int)) = some (sv h.n 0 n, h.new z ((List.replicate n zero).flatten)) := by
 simp only [Mp];rw [if_pos ⟨by omega, trivial, by omega, hz0, hz⟩]
 simp
end Vm
namespace Vm
open Go
def QA (c : UInt8) : S := .int LA c.toNat
def bys (l : List UInt8) : List (List S) := l.map fun c => [QA c]
def bt (l : List UInt8) (i : Int) : Int := ((l.getD i.toNat 0).toNat : Int)
theorem Xa (l : List UInt8) (i : Int) : 0 <= bt l i := by unfold bt; omega
theorem Jy (l : List UInt8) (i : Int) : bt l i < 256 := by
 unfold bt;have := (l.getD i.toNat 0).toNat_lt;omega
@[simp] theorem Xe (l : List UInt8) : (bys l).length = l.length := by simp [bys]
theorem YR {l : List UInt8} : ∀ r ∈ bys l, r.length = 1 := by
 intro r hr;obtain ⟨c, _, rfl⟩ := HR.1 hr;rfl
theorem wT {l : List UInt8} : ∀ r ∈ bys l, ∀ s ∈ r, Cl s := by
 intro r hr s hs;obtain ⟨c, _, rfl⟩ := HR.1 hr;rw [List.mem_singleton.1 hs];exact B8
theorem Un (l : List UInt8) : (bys l).flatten = l.map QA := by
 induction l with
 | nil => rfl
 | cons c l ih => simp only [bys, HS, FC, List.singleton_append] at ih ⊢; rw [ih]
theorem Q1d {l : List UInt8} {i : Nat} (h : i < l.length) : (bys l)[i]? = some [.int LA (bt l i)] := by
 simp [bys, h, QA, bt]
theorem zO (l : List UInt8) (n : Nat) : (bys l).take n = bys (l.take n) := by simp [bys, List.map_take]
theorem zP (l : List UInt8) (n : Nat) : (bys l).drop n = bys (l.drop n) := by simp [bys, List.map_drop]
section
variable {R : Type}
theorem ZA {l : List UInt8} {i : Int} {k : List S -> Option R} (h0 : 0 <= i) (h1 : i < l.length) : QB 1 (bys l) i k = k [.int LA (bt l i)] := by
 obtain ⟨n, rfl⟩ : ∃ n : Nat, i = n := ⟨i.toNat, by omega⟩
 exact UZ (Q1d (by omega)) rfl
theorem Nc {z : Nat} {rows : List (List S)} {i : Int} {k : List S -> Option R} (h : ¬ (0 <= i /\ i < rows.length)) : QB z rows i k = none := by
 unfold QB; rw [if_neg h]
theorem ML {y n : Nat} {kd : IntKind} (h : n <= y) : bnd y (iv kd (n : Int)) = some n := by
 simp only [bnd]; rw [if_pos ⟨by omega, by omega⟩]; simp
theorem jN {l : List UInt8} {a : Nat} {kd : IntKind} {k : List (List S) -> Option R} (h : a <= l.length) : slF 1 (bys l) (some (iv kd (a : Int))) none k = k (bys (l.drop a)) := by
 unfold slF;simp only [Xe, HC, ML h, if_pos (show ∀ r ∈ bys l, r.length = 1 from YR)]
 rw [show l.length = (bys l).length from (Xe l).symm, List.take_length, zP]
theorem Q1v {l : List UInt8} {b : Nat} {kd : IntKind} {k : List (List S) -> Option R} (h : b <= l.length) : slF 1 (bys l) none (some (iv kd (b : Int))) k = k (bys (l.take b)) := by
 unfold slF;simp only [Xe, HC, ML h, if_pos (show ∀ r ∈ bys l, r.length = 1 from YR)]
 rw [zO, HX]
theorem jO {l : List UInt8} {a b : Nat} {kd kd' : IntKind} {k : List (List S) -> Option R} (h : a <= b) (h2 : b <= l.length) : slF 1 (bys l) (some (iv kd (a : Int))) (some (iv kd' (b : Int))) k = k (bys ((l.take b).drop a)) := by
 unfold slF;simp only [Xe, HC, ML h, ML h2, if_pos (show ∀ r ∈ bys l, r.length = 1 from YR)]
 rw [zO, zP]
end
theorem Ry (l : List UInt8) : UO (l.map QA) = some l := by
 induction l with
 | nil => rfl
 | cons c l ih =>
  have := c.toNat_lt;simp only [HS, QA, UO] at ih ⊢;rw [ih, HC, if_pos ⟨by omega, by omega⟩]
  simp
theorem Nd {l : List UInt8} (h : l.length <= lim) : Bs (bys l) = some (.s (.str ⟨l.toArray⟩)) := by
 unfold Bs;rw [if_pos YR, HC, Un, Ry, HC, Xe, if_pos h]
structure BysW (h : H) (v : V) (l : List UInt8) (b : Nat) : Prop where
 v : v = sv b 0 l.length
 n : b < h.n
 g : h.g b = .rw 1 (l.map QA)
theorem BysW.frz {h : H} {v : V} {l : List UInt8} {b d : Nat} (w : BysW h v l b) : v = sv b 0 l.length /\ Qy h (d + 1) (.sl (some (b, 0)) l.length) = some (.fs (bys l)) := by
 refine ⟨w.v, ?_⟩;have := MG (h := h) (b := b) (z := 1) (d := d) (rows := bys l) w.n (by omega) (by rw [Un]; exact w.g) YR wT
 rwa [Xe] at this
def Own (h : H) (v : V) (l : List UInt8) : Option Nat -> Prop
 | none => v = .s (.sl none 0) /\ l = []
 | some b => BysW h v l b
theorem Own.frz {h : H} {v : V} {l : List UInt8} {ob : Option Nat} {d : Nat} (w : Own h v l ob) : ∃ s, v = .s s /\ Qy h (d + 1) s = some (.fs (bys l)) := by
 cases ob with
 | none => obtain ⟨rfl, rfl⟩ := w; exact ⟨_, rfl, jo⟩
 | some b => obtain ⟨h1, h2⟩ := BysW.frz (d := d) w; exact ⟨_, h1, h2⟩
theorem BysW.set {R : Type} {h : H} {n : Nat} {l : List UInt8} {b i : Nat} {c : UInt8} {x : Int} {k : H -> Option R} (w : BysW h (sv b 0 n) l b) (hi : i < l.length) (hx : x = (c.toNat : Int)) : stK 1 h (pv b (i * 1)) (iv LA x) k = k (h.put b (.rw 1 ((l.set i c).map QA))) := by
 subst hx;rw [Zq (z := 1) (e := 1) (o := i * 1) (v := iv LA c.toNat) (cs := l.map QA) (r := [QA c]) w.n w.g (.inl ⟨_, rfl, rfl, rfl⟩) rfl (by simp; omega)]
 congr 3
 unfold setAt;rw [List.map_set, DA, if_pos (by simp; omega)]
 simp
theorem BysW.set_w {h : H} {n : Nat} {l : List UInt8} {b i : Nat} {c : UInt8} (w : BysW h (sv b 0 n) l b) : BysW (h.put b (.rw 1 ((l.set i c).map QA))) (sv b 0 n) (l.set i c) b := by
 refine ⟨?_, w.n, Z9 _ _ _⟩;rw [w.v, List.length_set]
theorem BysW.len {h : H} {n : Nat} {l : List UInt8} {b : Nat} (w : BysW h (sv b 0 n) l b) : n = l.length := by
 have := w.v
 injection this with h1
 injection h1
theorem BysW.get {R : Type} {h : H} {n : Nat} {l : List UInt8} {b i : Nat} {ti : TI} {k : V -> Option R} (w : BysW h (sv b 0 n) l b) (hi : i < l.length) (hz : ti.agg = false) : ldK (.one (.i LA)) ti h (pv b (i * 1)) k = k (iv LA (bt l i)) := by
 have : Qb h (pv b (i * 1)) = some (.int LA (bt l i)) := by
  simp [Qb, H.cells, w.n, w.g, Blk.cells, hi, QA, bt]
 simp only [ldK, ldT, hz, cond_false, this, HC]
theorem zS {l m : List UInt8} (hl : l.length = m.length) (h : ∀ i : Nat, i < l.length -> bt l i = bt m i) : l = m := by
 refine List.ext_getElem hl fun i h1 h2 => ?_
 have := h i h1;simp only [bt, HQ, List.getD, HI h1, HI h2, Option.getD_some] at this;exact UInt8.toNat_inj.1 (by omega)
end Vm
namespace Vm
open Go
theorem Xb {h h1 : H} (hn : h.n <= h1.n) : (h.over h1).n = h1.n := by simp only [H.over]; omega
theorem Jg {h h1 : H} {b : Nat} (hb : b < h.n) : (h.over h1).g b = h.g b /\ (h.over h1).v b = h.v b := by simp [H.over, hb]
theorem KL {h h1 : H} {b : Nat} (hb : h.n <= b) : (h.over h1).g b = h1.g b := by simp only [H.over]; rw [if_neg (by omega)]
structure Up (h h' : H) : Prop where
 n : h.n <= h'.n
 g : ∀ b, b < h.n -> h'.g b = h.g b
theorem Up.refl (h : H) : Up h h := ⟨Hx _, fun _ _ => rfl⟩
theorem Up.trans {a b c : H} (x : Up a b) (y : Up b c) : Up a c := ⟨HL x.n y.n, fun i hi => (y.g i (HJ hi x.n)).trans (x.g i hi)⟩
theorem Je {h h1 : H} (hn : h.n <= h1.n) : Up h (h.over h1) := ⟨by rw [Xb hn]; exact hn, fun b hb => (Jg hb).1⟩
theorem Yl {h : H} {e : Nat} {cs : List S} : Up h (h.new e cs) := ⟨by simp, fun b hb => QO (by omega)⟩
theorem pF {R : Type} {cl : Nat -> List V -> H -> Option (V × H)} {g : Nat} {off : Bool} {xs : List V} {h h1 : H} {v : V} {k : V -> H -> Option R} (hc : cl g xs (D h.n) = some (v, h1)) (hz : Q2I h.n (v, h1)) : Qj cl g off xs h k = k v (h.over h1) := by
 unfold Qj;rw [hc, ob];unfold YV;rw [if_pos (.inr hz.1)];have e : h.over (Kk h.n h1) = h.over h1 := by
  unfold H.over Kk;simp only [H.mk.injEq, true_and, and_true]
  funext b
  by_cases hb : b < h.n
  · rw [if_pos hb, if_pos hb]
  ·rw [if_neg hb, if_neg hb, if_neg]
   rintro ⟨h2, h3, h4⟩
   have : ((h1.g b).cells.all ZL) = true := List.all_eq_true.2 (hz.2 b h2 h3);rw [this] at h4; cases h4
 cases off with
 | true => rfl
 | false => dsimp only [cond_false]; rw [e]
theorem Xh {n e b o : Nat} {h : H} {cs : List S} (hb : b < h.n) (hg : h.g b = .rw e cs) (ho : o + n <= cs.length) : Qp n h (pv b o) = some ((cs.drop o).take n) := by
 simp only [Qp, H.cells, hb, if_true, hg, Blk.cells, true_and];rw [if_pos ho]
theorem xT {e b : Nat} {h : H} {x y : S} (hb : b < h.n) (hg : h.g b = .rw e [x, y]) : Qp 2 h (pv b 0) = some [x, y] := Xh hb hg (by simp)
theorem RJ {R : Type} {h : H} {x y a b : S} {k : H -> Option R} : stK 2 (h.new 0 [a, b]) (pv h.n 0) (.agg [x, y]) k = k ((h.new 0 [a, b]).put h.n (.rw 0 [x, y])) :=
 Zq (z := 2) (e := 0) (o := 0) (b := h.n) (cs := [a, b]) (r := [x, y]) (by simp) (QI _ _ _) (.inr rfl) rfl (by simp)
theorem uM {h : H} {e e' : Nat} {cs cs' : List S} : Up h ((h.new e cs).put h.n (.rw e' cs')) := ⟨by simp, fun b hb => by rw [QG (by omega), QO (by omega)]⟩
theorem zo {h : H} {e e' : Nat} {cs cs' : List S} : ((h.new e cs).put h.n (.rw e' cs')).g h.n = .rw e' cs' := Z9 _ _ _
theorem Q1K {h : H} {e e' : Nat} {cs cs' : List S} : ((h.new e cs).put h.n (.rw e' cs')).n = h.n + 1 := by simp
theorem Jd {h : H} {v : V} {l : List UInt8} {ob : Option Nat} (w : Own h v l ob) : QL h v = some (lv (bys l)) := by
 obtain ⟨s, rfl, h2⟩ := w.frz (d := 7);simp [h2]
theorem QE {h : H} : Qt h [] = some [] := id rfl
theorem Qa {h : H} {v w : V} {vs ws : List V} (h1 : QL h v = some w) (h2 : Qt h vs = some ws) : Qt h (v :: vs) = some (w :: ws) := by simp [Qt, h1, h2]
theorem XG {h : H} {k : IntKind} {n : Int} : QL h (iv k n) = some (iv k n) := by simp
theorem Xc {h : H} {l : List (List S)} : QL h (lv l) = some (lv l) := by simp
theorem Z2 {l : List V} : Qr [] l = l := by cases l <;> rfl
structure NewB (n : Nat) (h : H) (v : V) (l : List UInt8) (ob : Option Nat) : Prop where
 own : Own h v l ob
 le : n <= h.n
 new : ∀ b, ob = some b -> n <= b
 z : ∀ b, n <= b -> b < h.n -> ∀ s ∈ (h.g b).cells, ZL s = true
theorem Own.sca {h : H} {y : S} {l : List UInt8} {ob : Option Nat} (w : Own h (.s y) l ob) : ZL y = true := by
 cases ob with
 | none => obtain ⟨h1, _⟩ := w; cases h1; rfl
 | some b => have := w.v; cases this; rfl
end Vm
namespace Vm
open Go
def rws (rs : List RowD) : List (List S) := rs.map RowD.cs
@[simp] theorem YD (rs : List RowD) : (rws rs).length = rs.length := by simp [rws]
theorem Us {rs : List RowD} : ∀ r ∈ rws rs, r.length = 4 := by
 intro r hr;obtain ⟨c, _, rfl⟩ := HR.1 hr;rfl
theorem qE {r : RowD} : ∀ s ∈ r.cs, Cl s := by
 intro s hs;simp only [HH, EL, or_false] at hs
 rcases hs with rfl | rfl | rfl | rfl
 · exact B8
 · exact B8
 · exact B8
 · exact zG
theorem xC {rs : List RowD} {i : Nat} {r : RowD} (h : rs[i]? = some r) : (rws rs)[i]? = some r.cs := by simp [rws, h]
section
variable {R : Type}
theorem Yd {rs : List RowD} {i : Nat} {r : RowD} {k : List S -> Option R} (h : rs[i]? = some r) : QB 4 (rws rs) (i : Int) k = k r.cs := UZ (xC h) rfl
end
theorem Bl {r : RowD} : JP 4 r.cs 0 = some r.cs := Uf rfl
theorem j7 (a b : RowD) : Q8 (call Ev) Fn.WN [fv a.cs 0, fv b.cs 0] = some (bv (ZJ a b)) := by
 rw [V8]; unfold ZJ;simp only [Q1, decide_eq_true_eq, beq_iff_eq]
 split
 · rename_i h; simp [h]
 ·rename_i h
  split
  · rename_i h2; simp [h2]
  · rename_i h2; simp [h, h2]
theorem MY (a b : RowD) : Q8 (call Ev) Fn.Y0 [.agg a.cs, .agg b.cs] = some (bv (ZJ a b)) := by
 rw [Va]; unfold ZJ;simp only [Q1, decide_eq_true_eq, beq_iff_eq]
 split
 · rename_i h; simp [h]
 ·rename_i h
  split
  · rename_i h2; simp [h2]
  · rename_i h2; simp [h, h2]
section
variable {R : Type}
end
end Vm
namespace Vm
open Go
end Vm
namespace Vm
open Go
@[simp] theorem GW {l : List UInt8} {i : Int} : Ly.wrap (bt l i) = bt l i := by
 have := Xa l i; have := Jy l i;exact w64 (by omega) (by omega)
def plc (l : List UInt8) (i : Nat) : Int := bt l ((2 + 2 * i : Nat) : Int)
def siz (l : List UInt8) (i : Nat) : Int := bt l ((3 + 2 * i : Nat) : Int)
def ZK (l : List UInt8) (i : Nat) : Prop := if plc l i = 0 \/ siz l i = 0 then plc l i = siz l i else bt l 1 <= plc l i /\ plc l i + siz l i <= 64
def ZC (l : List UInt8) (i k : Nat) : Prop := siz l i = 0 \/ siz l k = 0 \/ plc l i + siz l i <= plc l k \/ plc l k + siz l k <= plc l i
def cnt (l : List UInt8) : Nat := (bt l 0).toNat
theorem Xd (l : List UInt8) : ((cnt l : Nat) : Int) = bt l 0 := by unfold cnt; have := Xa l 0; omega
def Yi (l : List UInt8) : Prop := bt l 0 <= 16 /\ 2 + 2 * bt l 0 <= bt l 1 /\ bt l 1 <= 64
def JF (l : List UInt8) (c : Int) : Prop :=
 (l.length ≠ 64 /\ c = 1) \/ (l.length = 64 /\ ¬ Yi l /\ c = 3) \/ (l.length = 64 /\ Yi l /\ (∃ i, i < cnt l /\ ¬ ZK l i) /\ c = 3) \/
 (l.length = 64 /\ Yi l /\ (∀ i, i < cnt l -> ZK l i) /\ (∃ i k, i < cnt l /\ k < i /\ ¬ ZC l i k) /\ c = 8) \/
 (l.length = 64 /\ Yi l /\ (∀ i, i < cnt l -> ZK l i) /\ (∀ i k, i < cnt l -> k < i -> ZC l i k) /\ (0 < cnt l /\ siz l (cnt l - 1) = 0) /\ c = 8) \/
 (l.length = 64 /\ Yi l /\ (∀ i, i < cnt l -> ZK l i) /\ (∀ i k, i < cnt l -> k < i -> ZC l i k) /\ ¬ (0 < cnt l /\ siz l (cnt l - 1) = 0) /\ c = 0)
theorem JF.uniq {l : List UInt8} {c c' : Int} (h : JF l c) (h' : JF l c') : c = c' := by
 unfold JF at h h'
 by_cases h1 : l.length = 64 <;> simp only [h1, ne_eq, not_true_eq_false, not_false_eq_true, true_and, false_and, false_or, or_false] at h h'
 case neg => omega
 by_cases h2 : Yi l <;> simp only [h2, not_true_eq_false, not_false_eq_true, true_and, false_and, false_or, or_false] at h h'
 case neg => omega
 by_cases h3 : ∀ i, i < cnt l -> ZK l i
 case neg =>
  have h3' : ∃ i, i < cnt l /\ ¬ ZK l i := by
   apply Db; intro hh;exact h3 fun i hi => Db fun hs => hh ⟨i, hi, hs⟩
  simp only [h3, h3', not_true_eq_false, not_false_eq_true, true_and, false_and, false_or, or_false] at h h';omega
 have h3' : ¬ ∃ i, i < cnt l /\ ¬ ZK l i := fun ⟨i, hi, hs⟩ => hs (h3 i hi)
 simp only [h3', false_and, false_or] at h h'
 by_cases h4 : ∀ i k, i < cnt l -> k < i -> ZC l i k
 case neg =>
  rcases h with ⟨_, _, h⟩ | ⟨_, h, _⟩ | ⟨_, h, _⟩
  ·rcases h' with ⟨_, _, h'⟩ | ⟨_, h', _⟩ | ⟨_, h', _⟩
   · omega
   · exact absurd h' h4
   · exact absurd h' h4
  · exact absurd h h4
  · exact absurd h h4
 have h4' : ¬ ∃ i k, i < cnt l /\ k < i /\ ¬ ZC l i k := fun ⟨i, k, hi, hk, hs⟩ => hs (h4 i k hi hk)
 simp only [h4', false_and, and_false, false_or] at h h'
 by_cases h5 : 0 < cnt l /\ siz l (cnt l - 1) = 0
 ·rcases h with ⟨_, _, _, h⟩ | ⟨_, _, h, _⟩
  ·rcases h' with ⟨_, _, _, h'⟩ | ⟨_, _, h', _⟩
   · omega
   · exact absurd h5 h'
  · exact absurd h5 h
 ·rcases h with ⟨_, _, h, _⟩ | ⟨_, _, _, h⟩
  · exact absurd h h5
  ·rcases h' with ⟨_, _, h', _⟩ | ⟨_, _, _, h'⟩
   · exact absurd h' h5
   · omega
theorem Xl (l : List UInt8) (i : Nat) : 0 <= plc l i /\ plc l i < 256 /\ 0 <= siz l i /\ siz l i < 256 := ⟨Xa _ _, Jy _ _, Xa _ _, Jy _ _⟩
open Classical in
noncomputable def QH (l : List UInt8) : Int := if l.length ≠ 64 then 1 else if ¬ Yi l then 3 else if ∃ i, i < cnt l /\ ¬ ZK l i then 3 else if ∃ i k, i < cnt l /\ k < i /\ ¬ ZC l i k then 8 else if 0 < cnt l /\ siz l (cnt l - 1) = 0 then 8 else 0
theorem xI (l : List UInt8) : JF l (QH l) := by
 unfold QH JF
 by_cases h1 : l.length = 64
 case neg => simp [h1]
 by_cases h2 : Yi l
 case neg => simp [h1, h2]
 by_cases h3 : ∃ i, i < cnt l /\ ¬ ZK l i
 · simp [h1, h2, h3]
 have h3' : ∀ i, i < cnt l -> ZK l i := fun i hi => Db fun hs => h3 ⟨i, hi, hs⟩
 by_cases h4 : ∃ i k, i < cnt l /\ k < i /\ ¬ ZC l i k
 ·rw [if_neg (by simpa using h1), if_neg (by simpa using h2), if_neg h3, if_pos h4]
  exact .inr (.inr (.inr (.inl ⟨h1, h2, h3', h4, rfl⟩)))
 have h4' : ∀ i k, i < cnt l -> k < i -> ZC l i k := fun i k hi hk => Db fun hs => h4 ⟨i, k, hi, hk, hs⟩
 rw [if_neg (by simpa using h1), if_neg (by simpa using h2), if_neg h3, if_neg h4]
 by_cases h5 : 0 < cnt l /\ siz l (cnt l - 1) = 0
 · rw [if_pos h5]; exact .inr (.inr (.inr (.inr (.inl ⟨h1, h2, h3', h4', h5, rfl⟩))))
 · rw [if_neg h5]; exact .inr (.inr (.inr (.inr (.inr ⟨h1, h2, h3', h4', h5, rfl⟩))))
theorem JF.f {l : List UInt8} {c : Int} (h : JF l c) : c = QH l := h.uniq (xI l)
theorem Qv {l : List UInt8} (h : QH l = 0) : l.length = 64 /\ Yi l /\ (∀ i, i < cnt l -> ZK l i) /\ (∀ i k, i < cnt l -> k < i -> ZC l i k) /\ ¬ (0 < cnt l /\ siz l (cnt l - 1) = 0) := by
 have hp := xI l;rw [h] at hp
 rcases hp with ⟨_, hc⟩ | ⟨_, _, hc⟩ | ⟨_, _, _, hc⟩ | ⟨_, _, _, _, hc⟩ | ⟨_, _, _, _, _, hc⟩ | ⟨h1, h2, h3, h4, h5, _⟩
 · cases hc
 · cases hc
 · cases hc
 · cases hc
 · cases hc
 · exact ⟨h1, h2, h3, h4, h5⟩
section
variable {l : List UInt8}
theorem Xx (hl : 0 < l.length) : Q8 (call Ev) Fn.ZR [lv (bys l)] = some (iv Ly (bt l 0)) := by
 rw [R3, ZA (by omega) (by omega)]; simp
theorem Bn (hl : 0 < l.length) : Q8 (call Ev) Fn.YK [lv (bys l)] = some (iv Ly (bt l 0)) := by
 rw [PB, ZA (by omega) (by omega)]; simp
theorem MA (hl : 1 < l.length) : Q8 (call Ev) Fn.JK [lv (bys l)] = some (iv Ly (bt l 1)) := by
 rw [Pw, ZA (by omega) (by omega)]; simp
theorem Yo {i : Nat} (hl : 2 + 2 * i < l.length) (hi : i < 1000) : Q8 (call Ev) Fn.Ki [lv (bys l), iv Ly i] = some (iv Ly (plc l i)) := by
 rw [R0, w64 (n := 2 * (i : Int)) (by omega) (by omega), w64 (by omega) (by omega), ZA (by omega) (by omega)]
 simp [plc]
theorem K9 {i : Nat} (hl : 3 + 2 * i < l.length) (hi : i < 1000) : Q8 (call Ev) Fn.ZI [lv (bys l), iv Ly i] = some (iv Ly (siz l i)) := by
 rw [RV, w64 (n := 2 * (i : Int)) (by omega) (by omega), w64 (by omega) (by omega), ZA (by omega) (by omega)]
 simp [siz]
theorem qR {i : Nat} (hl : 3 + 2 * i < l.length) (hi : i < 1000) : Q8 (call Ev) Fn.Wp [lv (bys l), iv Ly i] = some (.tup [.s (.int Ly (plc l i)), .s (.int Ly (siz l i))]) := by
 rw [qN, w64 (n := 2 * (i : Int)) (by omega) (by omega), w64 (by omega) (by omega), w64 (by omega) (by omega), ZA (by omega) (by omega)]
 simp only [gx0, ob, Q2];rw [ZA (by omega) (by omega)]
 simp [plc, siz]
theorem vF {i : Nat} (hl : 3 + 2 * i < l.length) (hi : i < 1000) : ∃ b, Q8 (call Ev) Fn.Ml [lv (bys l), iv Ly i] = some (bv b) /\ (b = true ↔ ZK l i) := by
 have q := Xl l i;rw [RU, pc (Yo (by omega) hi) rfl]
 simp only [Q3, Q2];rw [pc (K9 hl hi) rfl];simp only [Q3, Q2];rw [pc (MA (by omega)) rfl]
 simp only [Q3, Q2, Q1];rw [w64 (n := plc l i + siz l i) (by omega) (by omega)]
 unfold ZK
 by_cases hp : plc l i = 0
 · rw [if_pos (by simpa using hp), if_pos (.inl hp)]; exact ⟨_, rfl, by simp⟩
 rw [if_neg (by simpa using hp)]
 by_cases hs : siz l i = 0
 · rw [if_pos (by simpa using hs), if_pos (.inr hs)]; exact ⟨_, rfl, by simp⟩
 rw [if_neg (by simpa using hs), if_neg (show ¬ (plc l i = 0 \/ siz l i = 0) by omega)]
 by_cases hb : bt l 1 <= plc l i
 · rw [if_pos (by simpa using hb)]; exact ⟨_, rfl, by simp [hb]⟩
 · rw [if_neg (by simpa using hb)]; exact ⟨_, rfl, by simp [hb]⟩
theorem yo {i k : Nat} (hl : 3 + 2 * i < l.length) (hi : i < 1000) (hl' : 3 + 2 * k < l.length) (hk : k < 1000) : ∃ b, Q8 (call Ev) Fn.GA [lv (bys l), iv Ly i, iv Ly k] = some (bv b) /\ (b = true ↔ ZC l i k) := by
 have q1 := Xl l i;have q2 := Xl l k;have j : ∀ q, Jn.YA q (bys l) i k = some (bv (q || (decide (plc l i + siz l i <= plc l k) || decide (plc l k + siz l k <= plc l i)))) := by
  intro q;unfold Jn.YA;rw [Q1]
  cases q
  ·simp only [FD, if_false, Bool.false_or]
   rw [pc (Yo (by omega) hi) rfl]; simp only [Q3, Q2]
   rw [pc (K9 hl hi) rfl]; simp only [Q3, Q2];rw [pc (Yo (by omega) hk) rfl]; simp only [Q3, Q2]
   rw [pc (Yo (by omega) hk) rfl]; simp only [Q3, Q2]
   rw [pc (K9 hl' hk) rfl]; simp only [Q3, Q2, Q1];rw [pc (Yo (by omega) hi) rfl]; simp only [Q3, Q2, Q1]
   rw [w64 (n := plc l i + siz l i) (by omega) (by omega), w64 (n := plc l k + siz l k) (by omega) (by omega)]
   by_cases h3 : plc l i + siz l i <= plc l k
   · rw [if_pos (by simpa using h3)]; simp [h3]
   · rw [if_neg (by simpa using h3)]; simp [h3]
  · rfl
 rw [R4, pc (K9 hl hi) rfl];simp only [Q3, Q2, Q1];rw [pc (K9 hl' hk) rfl];simp only [Q3, Q2, j];unfold ZC
 by_cases h1 : siz l i = 0
 · rw [if_pos (by simpa using h1)]; exact ⟨_, rfl, by simp [h1]⟩
 rw [if_neg (by simpa using h1)]
 exact ⟨_, rfl, by simp [h1]⟩
theorem xl {n : Nat} {h : H} (hn : 2 + 2 * n <= l.length) (hn' : n < 1000) : ∀ k i : Nat, i + k = n ->
  ((∀ j, i <= j -> j < n -> ZK l j) /\ Lp.QV 0 [lv (bys l), iv Ly n, iv Ly i] h = some (.done [lv (bys l), iv Ly n] h)) \/
  ((∃ j, j < n /\ ¬ ZK l j) /\ Lp.QV 0 [lv (bys l), iv Ly n, iv Ly i] h = some (.ret (iv Ly 3) h)) := by
 intro k
 induction k with
 | zero =>
  intro i hi;exact .inl ⟨fun j h1 h2 => by omega, by rw [WF, Q1, if_neg (by simp; omega), Q6]⟩
 | succ k ih =>
  intro i hi;obtain ⟨b, e, hb⟩ := vF (l := l) (i := i) (by omega) (by omega)
  rw [WF, Q1, if_pos (by simp; omega), pc e rfl]
  simp only [Q3, QW, Q1]
  cases b with
  | false => exact .inr ⟨⟨i, by omega, fun hh => by simpa using hb.2 hh⟩, rfl⟩
  | true =>
   rw [if_neg (by simp), w64 (by omega) (by omega), Q6, show (i : Int) + 1 = ((i + 1 : Nat) : Int) from by omega]
   rcases ih (i + 1) (by omega) with ⟨h1, h2⟩ | h1
   ·refine .inl ⟨fun j hj1 hj2 => ?_, h2⟩
    by_cases hj : j = i
    · subst hj; exact hb.1 rfl
    · exact h1 j (by omega) hj2
   · exact .inr h1
theorem xi {n i : Nat} {h : H} (hn : 2 + 2 * n <= l.length) (hn' : n < 1000) (hi : i < n) : ∀ q k : Nat, k + q = i ->
  ((∀ j, k <= j -> j < i -> ZC l i j) /\ Lp.QV 4 [lv (bys l), iv Ly n, iv Ly i, iv Ly k] h = some (.done [lv (bys l), iv Ly n, iv Ly i] h)) \/
  ((∃ j, j < i /\ ¬ ZC l i j) /\ Lp.QV 4 [lv (bys l), iv Ly n, iv Ly i, iv Ly k] h = some (.ret (iv Ly 8) h)) := by
 intro q
 induction q with
 | zero =>
  intro k hk;exact .inl ⟨fun j h1 h2 => by omega, by rw [WD, Q1, if_neg (by simp; omega), Q6]⟩
 | succ q ih =>
  intro k hk;obtain ⟨b, e, hb⟩ := yo (l := l) (i := i) (k := k) (by omega) (by omega) (by omega) (by omega)
  rw [WD, Q1, if_pos (by simp; omega), pc e rfl]
  simp only [Q3, QW, Q1]
  cases b with
  | false => exact .inr ⟨⟨k, by omega, fun hh => by simpa using hb.2 hh⟩, rfl⟩
  | true =>
   rw [if_neg (by simp), w64 (by omega) (by omega), Q6, show (k : Int) + 1 = ((k + 1 : Nat) : Int) from by omega]
   rcases ih (k + 1) (by omega) with ⟨h1, h2⟩ | h1
   ·refine .inl ⟨fun j hj1 hj2 => ?_, h2⟩
    by_cases hj : j = k
    · subst hj; exact hb.1 rfl
    · exact h1 j (by omega) hj2
   · exact .inr h1
theorem xj {n : Nat} {h : H} (hn : 2 + 2 * n <= l.length) (hn' : n < 1000) : ∀ q i : Nat, i + q = n ->
  ((∀ j k, i <= j -> j < n -> k < j -> ZC l j k) /\ Lp.QV 2 [lv (bys l), iv Ly n, iv Ly i] h = some (.done [lv (bys l), iv Ly n] h)) \/
  ((∃ j k, j < n /\ k < j /\ ¬ ZC l j k) /\ Lp.QV 2 [lv (bys l), iv Ly n, iv Ly i] h = some (.ret (iv Ly 8) h)) := by
 intro q
 induction q with
 | zero =>
  intro i hi;exact .inl ⟨fun j k h1 h2 => by omega, by rw [WE, Q1, if_neg (by simp; omega), Q6]⟩
 | succ q ih =>
  intro i hi;rw [WE, Q1, if_pos (by simp; omega), show iv Ly 0 = iv Ly ((0 : Nat) : Int) from rfl]
  rcases xi (l := l) (h := h) hn hn' (i := i) (by omega) i 0 (by omega) with ⟨h1, h2⟩ | ⟨⟨j, h1, h1'⟩, h2⟩
  ·rw [h2, ob, Qc]
   simp only [gx0, gx1, ob, Q3, QY, Q2];rw [w64 (by omega) (by omega), Q6, show (i : Int) + 1 = ((i + 1 : Nat) : Int) from by omega]
   rcases ih (i + 1) (by omega) with ⟨g1, g2⟩ | g1
   ·refine .inl ⟨fun j k hj1 hj2 hk => ?_, g2⟩
    by_cases hj : j = i
    · subst hj; exact h1 k (by omega) hk
    · exact g1 j k (by omega) hj2 hk
   · exact .inr g1
  ·rw [h2, ob, Zx]
   exact .inr ⟨⟨i, j, by omega, h1, h1'⟩, rfl⟩
theorem yl : Q8 (call Ev) Fn.QV [lv (bys l)] = some (iv Ly (QH l)) := by
 suffices hh : ∃ c, Q8 (call Ev) Fn.QV [lv (bys l)] = some (iv Ly c) /\ JF l c by
  obtain ⟨c, e, hc⟩ := hh;rw [e, hc.f]
 rw [R1, Q1, Xe]
 by_cases h64 : l.length = 64
 case neg => rw [if_pos (by simp; omega)]; exact ⟨_, rfl, .inl ⟨h64, rfl⟩⟩
 have b1 := Jy l 0;have b2 := Xa l 0;have hc := Xd l;rw [if_neg (by simp [h64]), pc (Xx (by omega)) rfl]
 simp only [Q3, Q2, Q1]
 by_cases g1 : bt l 0 <= 16
 case neg => rw [if_pos (by simp; omega)]; exact ⟨_, rfl, .inr (.inl ⟨h64, fun hh => g1 hh.1, rfl⟩)⟩
 have j0 : ∀ q, (q = true /\ ¬ Yi l \/ q = false /\ Yi l) -> ∃ c, Jn.Yz q (bys l) (bt l 0) = some (iv Ly c) /\ JF l c := by
  intro q hq;unfold Jn.Yz;rw [Q1]
  rcases hq with ⟨rfl, hq⟩ | ⟨rfl, hd⟩
  · exact ⟨_, rfl, .inr (.inl ⟨h64, hq, rfl⟩)⟩
  have hd2 := hd;obtain ⟨_, g2, g3⟩ := hd2;rw [if_neg (by simp), <- hc, show iv Ly 0 = iv Ly ((0 : Nat) : Int) from rfl]
  rcases xl (l := l) (h := D 0) (n := cnt l) (by omega) (by omega) (cnt l) 0 (by omega) with ⟨s1, s2⟩ | ⟨⟨j, s1, s1'⟩, s2⟩
  case inr => rw [s2, ob, Zx]; exact ⟨_, Y1, .inr (.inr (.inl ⟨h64, hd, ⟨j, s1, s1'⟩, rfl⟩))⟩
  have s1' : ∀ i, i < cnt l -> ZK l i := fun i hi => s1 i (FZ _) hi
  rw [s2, ob, Qc];simp only [gx0, gx1, ob, Q3, QY, Q2]
  rcases xj (l := l) (h := D 0) (n := cnt l) (by omega) (by omega) (cnt l) 0 (by omega) with ⟨t1, t2⟩ | ⟨⟨j, k, t1, t3, t1'⟩, t2⟩
  case inr => rw [t2, ob, Zx]; exact ⟨_, Y1, .inr (.inr (.inr (.inl ⟨h64, hd, s1', ⟨j, k, t1, t3, t1'⟩, rfl⟩)))⟩
  have t1' : ∀ i k, i < cnt l -> k < i -> ZC l i k := fun i k hi hk => t1 i k (FZ _) hi hk
  rw [t2, ob, Qc];simp only [gx0, gx1, ob, Q3, QY, Q2, Q1]
  by_cases u : (0 : Int) < (cnt l : Int)
  case neg => rw [if_neg (by simp; omega)]; exact ⟨_, rfl, .inr (.inr (.inr (.inr (.inr ⟨h64, hd, s1', t1', fun hh => by omega, rfl⟩))))⟩
  rw [if_pos (by simpa using u), w64 (by omega) (by omega), show (cnt l : Int) - 1 = ((cnt l - 1 : Nat) : Int) from by omega, pc (K9 (by omega) (by omega)) rfl]
  simp only [Q3, Q2, Q1]
  by_cases u2 : siz l (cnt l - 1) = 0
  · rw [if_pos (by simpa using u2)]; exact ⟨_, rfl, .inr (.inr (.inr (.inr (.inl ⟨h64, hd, s1', t1', ⟨by omega, u2⟩, rfl⟩))))⟩
  · rw [if_neg (by simpa using u2)]; exact ⟨_, rfl, .inr (.inr (.inr (.inr (.inr ⟨h64, hd, s1', t1', fun hh => u2 hh.2, rfl⟩))))⟩
 rw [if_neg (by simpa using g1), pc (MA (by omega)) rfl]
 simp only [Q3, Q2, Q1];rw [w64 (n := 2 * bt l 0) (by omega) (by omega), w64 (n := 2 + 2 * bt l 0) (by omega) (by omega)]
 by_cases g2 : 2 + 2 * bt l 0 <= bt l 1
 case neg => rw [if_pos (by simp; omega)]; exact j0 _ (.inl ⟨rfl, fun hh => g2 hh.2.1⟩)
 rw [if_neg (by simp; omega), pc (MA (by omega)) rfl]
 simp only [Q3, Q2];refine j0 _ ?_
 by_cases g3 : bt l 1 <= 64
 · exact .inr ⟨by simpa using g3, g1, g2, g3⟩
 · exact .inl ⟨by simp; omega, fun hh => g3 hh.2.2⟩
theorem Q21 {n : Nat} {h : H} (hn : 2 + 2 * n <= l.length) (hn' : n < 1000) : ∀ k i : Nat, i + k = n ->
  ((∀ j, i <= j -> j < n -> ZK l j) /\ Lp.Qw 0 [lv (bys l), iv Ly n, iv Ly (bt l 1), iv Ly n, iv Ly i] h = some (.done [lv (bys l), iv Ly n] h)) \/
  ((∃ j, j < n /\ ¬ ZK l j) /\ Lp.Qw 0 [lv (bys l), iv Ly n, iv Ly (bt l 1), iv Ly n, iv Ly i] h = some (.ret (iv Ly 3) h)) := by
 intro k
 induction k with
 | zero =>
  intro i hi;exact .inl ⟨fun j h1 h2 => by omega, by rw [UM, Q1, if_neg (by simp; omega), Q6]⟩
 | succ k ih =>
  intro i hi;have q1 := Xl l i;rw [UM, Q1, if_pos (by simp; omega), pc (qR (by omega) (by omega)) rfl]
  simp only [Za, gx0, gx1, ob, Zc, Q2, ln0, ln1, Hw, HA, if_true, Q1, Q6];rw [w64 (n := plc l i + siz l i) (by omega) (by omega), w64 (n := (i : Int) + 1) (by omega) (by omega), show (i : Int) + 1 = ((i + 1 : Nat) : Int) from by omega]
  have more : ZK l i -> ((∀ j, i <= j -> j < n -> ZK l j) /\ Lp.Qw 0 [lv (bys l), iv Ly n, iv Ly (bt l 1), iv Ly n, iv Ly ((i + 1 : Nat) : Int)] h = some (.done [lv (bys l), iv Ly n] h)) \/
    ((∃ j, j < n /\ ¬ ZK l j) /\ Lp.Qw 0 [lv (bys l), iv Ly n, iv Ly (bt l 1), iv Ly n, iv Ly ((i + 1 : Nat) : Int)] h = some (.ret (iv Ly 3) h)) := by
   intro hs
   rcases ih (i + 1) (by omega) with ⟨h1, h2⟩ | h1
   ·refine .inl ⟨fun j hj1 hj2 => ?_, h2⟩
    by_cases hj : j = i
    · subst hj; exact hs
    · exact h1 j (by omega) hj2
   · exact .inr h1
  have bad : ¬ ZK l i -> ∃ j, j < n /\ ¬ ZK l j := fun hs => ⟨i, by omega, hs⟩
  unfold ZK at more bad
  by_cases hp : plc l i = 0
  ·by_cases hs : siz l i = 0
   ·rw [if_neg (by simp [hp, hs]), if_neg (by simp [hp]), if_neg (by simp [hp, hs])]
    exact more (by rw [if_pos (.inl hp)]; omega)
   ·rw [if_pos (by simp [hp, hs])]
    exact .inr ⟨bad (by rw [if_pos (.inl hp)]; omega), rfl⟩
  ·by_cases hs : siz l i = 0
   ·rw [if_pos (by simp [hp, hs])]
    exact .inr ⟨bad (by rw [if_pos (.inr hs)]; omega), rfl⟩
   ·rw [if_neg (by rw [show (plc l i == 0) = false from by simpa using hp, show (siz l i == 0) = false from by simpa using hs]; simp), if_pos (by simpa using hp)]
    by_cases hb : bt l 1 <= plc l i
    ·rw [if_neg (by simpa using hb)]
     by_cases hz : plc l i + siz l i <= 64
     ·rw [if_neg (by simpa using hz)]
      exact more (by rw [if_neg (by omega)]; omega)
     ·rw [if_pos (by simp; omega)]
      exact .inr ⟨bad (by rw [if_neg (by omega)]; omega), rfl⟩
    ·rw [if_pos (by simp; omega)]
     exact .inr ⟨bad (by rw [if_neg (by omega)]; omega), rfl⟩
end
def KU (f : Nat -> Bool) : List S := (FF 64).map fun y => .bool (f y)
theorem Q1m : KU (fun _ => false) = [.bool false, .bool false, .bool false, .bool false, .bool false, .bool false, .bool false, .bool false, .bool false, .bool false, .bool false, .bool false, .bool false, .bool false, .bool false, .bool false, .bool false, .bool false, .bool false, .bool false, .bool false, .bool false, .bool false, .bool false, .bool false, .bool false, .bool false, .bool false, .bool false, .bool false, .bool false, .bool false, .bool false, .bool false, .bool false, .bool false, .bool false, .bool false, .bool false, .bool false, .bool false, .bool false, .bool false, .bool false, .bool false, .bool false, .bool false, .bool false, .bool false, .bool false, .bool false, .bool false, .bool false, .bool false, .bool false, .bool false, .bool false, .bool false, .bool false, .bool false, .bool false, .bool false, .bool false, .bool false] := by rfl
theorem GY {f : Nat -> Bool} {y : Nat} (h : y < 64) : (KU f)[y]? = some (.bool (f y)) := by simp [KU, h]
theorem jI {f : Nat -> Bool} {x : Nat} : (KU f).set x (.bool true) = KU fun y => if y = x then true else f y := by
 refine List.ext_getElem? fun y => ?_
 by_cases hy : y < 64
 ·by_cases hx : y = x
  ·subst hx
   rw [List.getElem?_set_self (by simp [KU]; exact hy), GY hy]; simp
  · rw [List.getElem?_set_ne (by omega), GY hy, GY hy]; simp [hx]
 · rw [EH (by simp [KU]; omega), EH (by simp [KU]; omega)]
theorem TN {f g : Nat -> Bool} (h : ∀ y, y < 64 -> f y = g y) : KU f = KU g := by
 unfold KU;exact Cw fun y hy => by rw [h y (List.mem_range.1 hy)]
theorem Q0W {len b : Nat} {k : IntKind} {x : Nat} (hx : x < len) : Td len 1 (pv b 0) (iv k x) = some (pv b x) := by
 simp only [Td]; rw [if_pos ⟨by omega, by omega⟩]; simp
structure Used (b : Nat) (h : H) (f : Nat -> Bool) : Prop where
 n : b < h.n
 g : h.g b = .rw 0 (KU f)
def Oth (b : Nat) (h h' : H) : Prop := h'.n = h.n /\ ∀ c, c ≠ b -> h'.g c = h.g c /\ h'.v c = h.v c
theorem Oth.refl (b : Nat) (h : H) : Oth b h h := ⟨rfl, fun _ _ => ⟨rfl, rfl⟩⟩
theorem Oth.trans {b : Nat} {h h' h'' : H} (x : Oth b h h') (y : Oth b h' h'') : Oth b h h'' := ⟨y.1.trans x.1, fun c hc => ⟨(y.2 c hc).1.trans (x.2 c hc).1, (y.2 c hc).2.trans (x.2 c hc).2⟩⟩
theorem Oth.put {b : Nat} {h : H} {x : Blk} : Oth b h (h.put b x) := ⟨rfl, fun c hc => by simp [H.put, hc]⟩
theorem Oth.tidy {b : Nat} {h h' : H} {l : List V} (x : Oth b h h') (hb : b < h.n) : tidy h l h' = h' := tidy_same' x.1 fun c hc => x.2 c (by omega)
where
 tidy_same' {h h' : H} {l : List V} (hn : h'.n = h.n) (hg : ∀ c, h.n <= c -> h'.g c = h.g c /\ h'.v c = h.v c) : Vm.tidy h l h' = h' := by
  unfold Vm.tidy
  split
  ·obtain ⟨n', g', v'⟩ := h'
   simp only at hn;subst hn;simp only [H.mk.injEq, true_and];constructor <;> (funext b; split <;> first | rfl | (have := hg b (by omega); simp_all))
  · rfl
theorem Q0T {R : Type} {b x : Nat} {h : H} {f : Nat -> Bool} {k : V -> Option R} (u : Used b h f) (hx : x < 64) : ldK (.one (.b)) ⟨1, 1, [.bool false], false, .bool, false⟩ h (pv b x) k = k (bv (f x)) := by
 simp [ldK, ldT, Qb, H.cells, u.n, u.g, Blk.cells, GY hx]
theorem Q1Z {l : List UInt8} {b n i P Q : Nat} (hn : n < 1000) (hi : i < 1000) (hP : P + Q <= 64) : ∀ (q x : Nat) (f : Nat -> Bool) (h : H), x + q = P + Q -> Used b h f ->
  ((∀ y, x <= y -> y < P + Q -> f y = false) /\ ∃ h', Lp.Qw 4 [lv (bys l), iv Ly n, pv b 0, iv Ly P, iv Ly Q, iv Ly x, iv Ly n, iv Ly i] h =
   some (.done [lv (bys l), iv Ly n, pv b 0, iv Ly n, iv Ly i] h') /\ Oth b h h' /\ Used b h' fun y => f y || (decide (x <= y) && decide (y < P + Q))) \/
  ((∃ y, x <= y /\ y < P + Q /\ f y = true) /\ ∃ h', Lp.Qw 4 [lv (bys l), iv Ly n, pv b 0, iv Ly P, iv Ly Q, iv Ly x, iv Ly n, iv Ly i] h = some (.ret (iv Ly 8) h')) := by
 intro q
 induction q with
 | zero =>
  intro x f h hx u;refine .inl ⟨fun y h1 h2 => by omega, h, ?_, Oth.refl _ _, u.n, ?_⟩
  · rw [UK, w64 (n := (P : Int) + Q) (by omega) (by omega), Q1, if_neg (by simp; omega), Q6]
  ·rw [u.g]
   congr 1
   exact TN fun y hy => by
    have : (decide (x <= y) && decide (y < P + Q)) = false := by simp; omega
    rw [this]; simp
 | succ q ih =>
  intro x f h hx u;rw [UK, w64 (n := (P : Int) + Q) (by omega) (by omega), Q1, if_pos (by simp; omega), Q0W (by omega), ob, Q0T u (by omega)]
  simp only [Q3, QW, Q1]
  by_cases hf : f x = true
  ·rw [if_pos hf]
   exact .inr ⟨⟨x, Hx _, by omega, hf⟩, h, rfl⟩
  ·rw [if_neg hf, ob, Zq (z := 1) (e := 0) (cs := KU f) (r := [.bool true]) u.n u.g (.inl ⟨_, rfl, rfl, rfl⟩) rfl (by simp [KU]; omega)]
   have e2 : setAt (KU f) x [.bool true] = KU fun y => if y = x then true else f y := by
    rw [<- jI];unfold setAt;rw [DA, if_pos (by simp [KU]; omega)]
    simp
   rw [e2, Gx u.n, w64 (by omega) (by omega), show (x : Int) + 1 = ((x + 1 : Nat) : Int) from by omega]
   have u2 : Used b (h.put b (.rw 0 (KU fun y => if y = x then true else f y))) (fun y => if y = x then true else f y) := ⟨u.n, Z9 _ _ _⟩
   rcases ih (x + 1) _ _ (by omega) u2 with ⟨h1, h', h2, h3, h4⟩ | ⟨⟨y, h1, h2, h3⟩, h', h4⟩
   ·refine .inl ⟨fun y hy1 hy2 => ?_, h', h2, Oth.put.trans h3, h4.n, ?_⟩
    ·by_cases hy : y = x
     · subst hy; simpa using hf
     · have := h1 y (by omega) hy2; simpa [hy] using this
    ·rw [h4.g]
     congr 1
     exact TN fun y hy => by
      by_cases hyx : y = x
      · subst hyx; simp; omega
      ·simp only [if_neg hyx]
       congr 2
       simp; omega
   ·refine .inr ⟨⟨y, by omega, h2, ?_⟩, h', h4⟩
    have hy : y ≠ x := by omega
    simpa [hy] using h3
def cov (l : List UInt8) (j y : Nat) : Prop := plc l j <= y /\ (y : Int) < plc l j + siz l j
section
variable {l : List UInt8}
theorem Q20 {b n : Nat} (hn : 2 + 2 * n <= l.length) (hn' : n < 1000) (hs : ∀ j, j < n -> ZK l j) : ∀ (q i : Nat) (f : Nat -> Bool) (h : H), i + q = n -> Used b h f -> (∀ y, y < 64 -> (f y = true ↔ ∃ j, j < i /\ cov l j y)) ->
  ((∀ j k, i <= j -> j < n -> k < j -> ZC l j k) /\ ∃ h', Lp.Qw 2 [lv (bys l), iv Ly n, pv b 0, iv Ly n, iv Ly i] h = some (.done [lv (bys l), iv Ly n] h')) \/
  ((∃ j k, j < n /\ k < j /\ ¬ ZC l j k) /\ ∃ h', Lp.Qw 2 [lv (bys l), iv Ly n, pv b 0, iv Ly n, iv Ly i] h = some (.ret (iv Ly 8) h')) := by
 intro q
 induction q with
 | zero =>
  intro i f h hi u hf;exact .inl ⟨fun j k h1 h2 => by omega, _, by rw [UL, Q1, if_neg (by simp; omega)]⟩
 | succ q ih =>
  intro i f h hi u hf;have q1 := Xl l i;have hsl := hs i (by omega)
  have hPQ : plc l i + siz l i <= 64 := by
   unfold ZK at hsl
   split at hsl <;> omega
  obtain ⟨P, hP⟩ : ∃ P : Nat, plc l i = P := ⟨(plc l i).toNat, by omega⟩
  obtain ⟨Q, hQ⟩ : ∃ Q : Nat, siz l i = Q := ⟨(siz l i).toNat, by omega⟩
  rw [UL, Q1, if_pos (by simp; omega), pc (qR (by omega) (by omega)) rfl]
  simp only [Za, gx0, gx1, ob, Zc, Q2, ln0, ln1, Hw, HA, if_true, hP, hQ]
  rcases Q1Z (l := l) (b := b) (n := n) (i := i) (P := P) (Q := Q) hn' (by omega) (by omega) Q P f h rfl u with ⟨h1, h', h2, h3, h4⟩ | ⟨⟨y, h1, h2, h3⟩, h', h4⟩
  ·rw [h2, ob, Qc]
   simp only [gx0, gx1, ob, Q3, QY, Q2];rw [w64 (by omega) (by omega), show (i : Int) + 1 = ((i + 1 : Nat) : Int) from by omega, h3.tidy u.n]
   have ap : ∀ j, j < i -> ZC l i j := by
    intro j hj;apply Db;intro hna;unfold ZC at hna;simp only [not_or] at hna;have q2 := Xl l j;have hj' := hs j (by omega)
    have hPQ' : plc l j + siz l j <= 64 := by
     unfold ZK at hj'
     split at hj' <;> omega
    obtain ⟨P', hP'⟩ : ∃ P : Nat, plc l j = P := ⟨(plc l j).toNat, by omega⟩
    have hy := h1 (max P P') (by omega) (by omega)
    have := (hf (max P P') (by omega)).2 ⟨j, hj, by unfold cov; omega⟩
    rw [hy] at this; cases this
   have ch : ∀ y, y < 64 -> ((f y || (decide (P <= y) && decide (y < P + Q))) = true ↔ ∃ j, j < i + 1 /\ cov l j y) := by
    intro y hy;simp only [Ex, HE, decide_eq_true_eq];constructor
    ·rintro (hh | hh)
     · obtain ⟨j, hj, hc⟩ := (hf y hy).1 hh; exact ⟨j, by omega, hc⟩
     · exact ⟨i, by omega, by unfold cov; omega⟩
    ·rintro ⟨j, hj, hc⟩
     by_cases hji : j = i
     · subst hji; right; unfold cov at hc; omega
     · left; exact (hf y hy).2 ⟨j, by omega, hc⟩
   rcases ih (i + 1) _ _ (by omega) h4 ch with ⟨g1, h'', g2⟩ | ⟨g1, h'', g2⟩
   ·refine .inl ⟨fun j k hj1 hj2 hk => ?_, h'', g2⟩
    by_cases hj : j = i
    · subst hj; exact ap k hk
    · exact g1 j k (by omega) hj2 hk
   · exact .inr ⟨g1, h'', g2⟩
  ·rw [h4, ob, Zx]
   obtain ⟨j, hj, hc⟩ := (hf y (by omega)).1 h3
   refine .inr ⟨⟨i, j, by omega, hj, ?_⟩, h', rfl⟩
   unfold cov at hc; unfold ZC;omega
theorem BK : Q8 (call Ev) Fn.Qw [lv (bys l)] = some (iv Ly (QH l)) := by
 suffices hh : ∃ c, Q8 (call Ev) Fn.Qw [lv (bys l)] = some (iv Ly c) /\ JF l c by
  obtain ⟨c, e, hc⟩ := hh;rw [e, hc.f]
 rw [BC, Q1, Xe]
 by_cases h64 : l.length = 64
 case neg => rw [if_pos (by simp; omega)]; exact ⟨_, rfl, .inl ⟨h64, rfl⟩⟩
 have b1 := Jy l 0;have b2 := Xa l 0;have b3 := Jy l 1;have b4 := Xa l 1;have hc := Xd l;rw [if_neg (by simp [h64]), ZA (by omega) (by omega)]
 simp only [gx0, ob, Q2, GW];rw [pc (Bn (by omega)) rfl]
 simp only [Q3, Q2, Qu, Q1]
 by_cases g1 : bt l 0 <= 16
 case neg => rw [if_pos (by simp; omega)]; exact ⟨_, rfl, .inr (.inl ⟨h64, fun hh => g1 hh.1, rfl⟩)⟩
 have j0 : ∀ q, (q = true /\ ¬ Yi l \/ q = false /\ Yi l) -> ∃ c, Jn.JS q (bys l) (bt l 0) (bt l 1) = some (iv Ly c) /\ JF l c := by
  intro q hq;unfold Jn.JS;rw [Q1]
  rcases hq with ⟨rfl, hq⟩ | ⟨rfl, hd⟩
  · exact ⟨_, rfl, .inr (.inl ⟨h64, hq, rfl⟩)⟩
  have hd2 := hd;obtain ⟨_, g2, g3⟩ := hd2;rw [if_neg (by simp), GW, <- hc, show iv Ly 0 = iv Ly ((0 : Nat) : Int) from rfl]
  rcases Q21 (l := l) (h := D 0) (n := cnt l) (by omega) (by omega) (cnt l) 0 (by omega) with ⟨s1, s2⟩ | ⟨⟨j, s1, s1'⟩, s2⟩
  case inr => rw [s2, ob, Zx]; exact ⟨_, Y1, .inr (.inr (.inl ⟨h64, hd, ⟨j, s1, s1'⟩, rfl⟩))⟩
  have s1' : ∀ i, i < cnt l -> ZK l i := fun i hi => s1 i (FZ _) hi
  rw [s2, ob, Qc];simp only [gx0, gx1, ob, Q3, QY, Q2];rw [<- Q1m]
  rcases Q20 (l := l) (b := (D 0).n) (n := cnt l) (by omega) (by omega) s1' (cnt l) 0 (fun _ => false) ((D 0).new 0 (KU fun _ => false)) (by omega) ⟨by simp, QI _ _ _⟩ (fun y hy => by simp) with ⟨t1, h', t2⟩ | ⟨⟨j, k, t1, t3, t1'⟩, h', t2⟩
  case inr => rw [t2, ob, Zx]; exact ⟨_, Y1, .inr (.inr (.inr (.inl ⟨h64, hd, s1', ⟨j, k, t1, t3, t1'⟩, rfl⟩)))⟩
  have t1' : ∀ i k, i < cnt l -> k < i -> ZC l i k := fun i k hi hk => t1 i k (FZ _) hi hk
  rw [t2, ob, Qc];simp only [gx0, gx1, ob, Q3, QY, Q2, Q1]
  by_cases u : (0 : Int) < (cnt l : Int)
  case neg => rw [if_neg (by simp; omega)]; exact ⟨_, rfl, .inr (.inr (.inr (.inr (.inr ⟨h64, hd, s1', t1', fun hh => by omega, rfl⟩))))⟩
  rw [if_pos (by simpa using u), w64 (n := 2 * (cnt l : Int)) (by omega) (by omega), w64 (by omega) (by omega), ZA (by omega) (by omega)]
  have hz : bt l (2 * (cnt l : Int) + 1) = siz l (cnt l - 1) := by unfold siz; congr 1; omega
  simp only [gx0, ob, Q2, hz, Q1]
  by_cases u2 : siz l (cnt l - 1) = 0
  · rw [if_pos (by simpa using u2)]; exact ⟨_, rfl, .inr (.inr (.inr (.inr (.inl ⟨h64, hd, s1', t1', ⟨by omega, u2⟩, rfl⟩))))⟩
  · rw [if_neg (by simpa using u2)]; exact ⟨_, rfl, .inr (.inr (.inr (.inr (.inr ⟨h64, hd, s1', t1', fun hh => u2 hh.2, rfl⟩))))⟩
 rw [if_neg (by simpa using g1), w64 (n := 2 * bt l 0) (by omega) (by omega), w64 (n := 2 + 2 * bt l 0) (by omega) (by omega)]
 by_cases g2 : 2 + 2 * bt l 0 <= bt l 1
 case neg => rw [if_pos (by simp; omega)]; exact j0 _ (.inl ⟨rfl, fun hh => g2 hh.2.1⟩)
 rw [if_neg (by simp; omega)]
 refine j0 _ ?_
 by_cases g3 : bt l 1 <= 64
 · exact .inr ⟨by simpa using g3, g1, g2, g3⟩
 · exact .inl ⟨by simp; omega, fun hh => g3 hh.2.2⟩
end
end Vm
namespace Vm
open Go Go.Sort
structure SeenD where
 r : RowD
 page : Int
 slot : Int
 moved : Bool
 at_ : Int
 place : Int
abbrev SeenD.cs (x : SeenD) : List S := [.int Ly x.r.tab, .int Ly x.r.key, .int Ly x.r.val, .str x.r.text, .int Ly x.page, .int Ly x.slot, .bool x.moved, .int Ly x.at_, .int Ly x.place]
instance : Inhabited SeenD := ⟨⟨⟨0, 0, 0, ⟨#[]⟩⟩, 0, 0, false, 0, 0⟩⟩
def ltS (x y : SeenD) : Bool := ZJ x.r y.r
def vL (x y : SeenD) : Int := if ZJ x.r y.r then -1 else if ZJ y.r x.r then 1 else 0
theorem KA (x y : SeenD) : decide (vL x y < 0) = ltS x y := by
 unfold vL ltS
 cases h1 : ZJ x.r y.r
 · cases h2 : ZJ y.r x.r <;> simp
 · simp
theorem Uq : SWO ltS where
 irrefl x := by unfold ltS ZJ; simp
 trans x y z h1 h2 := by
  unfold ltS ZJ at *
  simp only [Ex, HE, decide_eq_true_eq] at *
  omega
 ntrans x y z h1 h2 := by
  unfold ltS ZJ at *
  simp only [Bool.or_eq_false_iff, Bool.and_eq_false_iff, decide_eq_false_iff_not] at *
  omega
theorem Q0z (a b : RowD) : Q8 (call Ev) Fn.Nb [.agg a.cs, .agg b.cs] = some (iv Ly (if ZJ a b then -1 else if ZJ b a then 1 else 0)) := by
 have e := PC a.tab a.key a.val a.text b.tab b.key b.val b.text;refine Eq.trans e ?_;rw [show ([.agg [.int Ly a.tab, .int Ly a.key, .int Ly a.val, .str a.text], .agg [.int Ly b.tab, .int Ly b.key, .int Ly b.val, .str b.text]] : List V) = [.agg a.cs, .agg b.cs] from rfl, show ([.agg [.int Ly b.tab, .int Ly b.key, .int Ly b.val, .str b.text], .agg [.int Ly a.tab, .int Ly a.key, .int Ly a.val, .str a.text]] : List V) = [.agg b.cs, .agg a.cs] from rfl, pc (MY a b) rfl]
 simp only [Q3, QW];rw [Q1]
 cases ZJ a b
 ·rw [if_neg (by simp), pc (MY b a) rfl]
  simp only [Q3, QW];rw [Q1]
  cases ZJ b a
  · rfl
  · rfl
 · rfl
theorem Kz (x y : SeenD) : Q8 (call Ev) Fn.Q0 [.agg x.cs, .agg y.cs] = some (iv Ly (vL x y)) := by
 have e := T2 x.r.tab x.r.key x.r.val x.r.text x.page x.slot x.moved x.at_ x.place y.r.tab y.r.key y.r.val y.r.text y.page y.slot y.moved y.at_ y.place;refine Eq.trans e ?_;rw [show ([.agg [.int Ly x.r.tab, .int Ly x.r.key, .int Ly x.r.val, .str x.r.text], .agg [.int Ly y.r.tab, .int Ly y.r.key, .int Ly y.r.val, .str y.r.text]] : List V) = [.agg x.r.cs, .agg y.r.cs] from rfl, pc (Q0z x.r y.r) rfl]
 simp only [Q3, Q2];rfl
structure Hs (h : H) (b : Nat) (d : Array SeenD) : Prop where
 n : b < h.n
 g : h.g b = .rw 9 (d.toList.map SeenD.cs).flatten
theorem cs9 (x : SeenD) : x.cs.length = 9 := rfl
theorem Ri (l : List SeenD) : (l.map SeenD.cs).flatten.length = l.length * 9 := by
 induction l with
 | nil => rfl
 | cons x l ih =>
  show (x.cs ++ (l.map SeenD.cs).flatten).length = (l.length + 1) * 9;rw [HO, ih, cs9]; omega
theorem PP : ∀ (l : List SeenD) (i : Nat) (x : SeenD), l[i]? = some x -> (((l.map SeenD.cs).flatten).drop (i * 9)).take 9 = x.cs
 | [], i, x, h => by simp at h
 | y :: l, 0, x, h => by
  simp at h; subst h;simp only [HS, FC, Nat.zero_mul, HX];exact List.take_left' rfl
 | y :: l, i + 1, x, h => by
  simp only [HS, FC];rw [show (i + 1) * 9 = y.cs.length + i * 9 from by rw [cs9]; omega, List.drop_append, ET (by omega), EI, show y.cs.length + i * 9 - y.cs.length = i * 9 from by omega]
  exact PP l i x (by simpa using h)
theorem Q1x : ∀ (l : List SeenD) (i : Nat) (x : SeenD), i < l.length -> setAt ((l.map SeenD.cs).flatten) (i * 9) x.cs = ((l.set i x).map SeenD.cs).flatten
 | [], i, x, h => by simp at h
 | y :: l, 0, x, h => by
  have := V1 (A := []) (B := y.cs ++ (l.map SeenD.cs).flatten) (r := x.cs) (o := 0) (z := 9) rfl rfl;simp only [EI] at this;simp only [HS, FC, Nat.zero_mul, List.set_cons_zero];rw [this];exact congrArg (x.cs ++ ·) (List.drop_left' rfl)
 | y :: l, i + 1, x, h => by
  have ih := Q1x l i x (by simpa using h)
  simp only [HS, FC, List.set_cons_succ];rw [<- ih];unfold setAt;rw [show (i + 1) * 9 = y.cs.length + i * 9 from by rw [cs9]; omega, List.take_append, Fz (by omega), show y.cs.length + i * 9 - y.cs.length = i * 9 from by omega, FA, FA, Nat.add_assoc, List.drop_append, ET (by omega), EI, show y.cs.length + (i * 9 + x.cs.length) - y.cs.length = i * 9 + x.cs.length from by omega, FA]
theorem Hs.ld {R : Type} {h : H} {b i n : Nat} {d : Array SeenD} {t : VT} {w : Nat} {zz : List S} {dd : TD} {bb : Bool} {kd : IntKind} {f : V -> Option R} (hs : Hs h b d) (hn : n = d.size) (hi : i < d.size) :
  (Qd 9 (sv b 0 n) (iv kd (i : Int)) fun v => ldK t ⟨9, w, zz, true, dd, bb⟩ h v f) = f (.agg d[i]!.cs) := by
 subst hn;rw [Z3 hi];have e : d.toList[i]? = some d[i]! := by
  rw [Fy, DC hi, getElem!_pos d i hi]
 show ldT _ h (pv b (i * 9)) f = _;unfold ldT;simp only [cond_true];rw [Xh hs.n hs.g (by rw [Ri, FU]; omega), ob, PP _ _ _ e]
theorem Hs.st {R : Type} {h : H} {b i n : Nat} {d : Array SeenD} {x : SeenD} {kd : IntKind} {f : H -> Option R} (hs : Hs h b d) (hn : n = d.size) (hi : i < d.size) :
  (Qd 9 (sv b 0 n) (iv kd (i : Int)) fun v => stK 9 h v (.agg x.cs) f) = f (h.put b (.rw 9 ((d.setIfInBounds i x).toList.map SeenD.cs).flatten)) := by
 subst hn;rw [Z3 hi];rw [Zq (z := 9) (e := 9) (o := i * 9) (v := .agg x.cs) (r := x.cs) hs.n hs.g (.inr rfl) rfl (by rw [Ri, FU]; omega)]
 rw [Q1x _ _ _ (by simpa using hi), Array.toList_setIfInBounds]
theorem Hs.put {h : H} {b : Nat} {d : Array SeenD} (hb : b < h.n) : Hs (h.put b (.rw 9 (d.toList.map SeenD.cs).flatten)) b d := ⟨by rw [Qq]; exact hb, Z9 _ _ _⟩
theorem Hs.ldG {R : Type} {h : H} {b i n : Nat} {d : Array SeenD} {t : VT} {w : Nat} {zz : List S} {dd : TD} {bb : Bool} {kd : IntKind} {k : V -> V -> Int -> Int -> Int -> ByteArray -> Int -> Int -> Bool -> Int -> Int -> Option R} (hs : Hs h b d) (hn : n = d.size) (hi : i < d.size) :
  (Qd 9 (sv b 0 n) (iv kd (i : Int)) fun v => ldK t ⟨9, w, zz, true, dd, bb⟩ h v fun u => gVA u fun c => (c[0]?).bind fun x0 => gI Ly x0 fun i0 => (c[1]?).bind fun x1 => gI Ly x1 fun i1 => (c[2]?).bind fun x2 => gI Ly x2 fun i2 => (c[3]?).bind fun x3 => gS x3 fun i3 => (c[4]?).bind fun x4 => gI Ly x4 fun i4 => (c[5]?).bind fun x5 => gI Ly x5 fun i5 => (c[6]?).bind fun x6 => gB x6 fun i6 => (c[7]?).bind fun x7 => gI Ly x7 fun i7 => (c[8]?).bind fun x8 => gI Ly x8 fun i8 => if c.length = 9 then k v u i0 i1 i2 i3 i4 i5 i6 i7 i8 else none) = k (pv b (i * 9)) (.agg d[i]!.cs) d[i]!.r.tab d[i]!.r.key d[i]!.r.val d[i]!.r.text d[i]!.page d[i]!.slot d[i]!.moved d[i]!.at_ d[i]!.place := by
 have e : d.toList[i]? = some d[i]! := by
  rw [Fy, DC hi, getElem!_pos d i hi]
 subst hn;rw [Z3 hi];have e1 : ∀ (f : V -> Option R), ldK t ⟨9, w, zz, true, dd, bb⟩ h (pv b (i * 9)) f = f (.agg d[i]!.cs) := fun f => by
  show ldT _ h (pv b (i * 9)) f = _;unfold ldT;simp only [cond_true];rw [Xh hs.n hs.g (by rw [Ri, FU]; omega), ob, PP _ _ _ e]
 rw [e1];rfl
theorem Hs.st2 {h : H} {b i j n : Nat} {d : Array SeenD} {x y : SeenD} (hs : Hs h b d) (hn : n = d.size) (hi : i < d.size) (hj : j < d.size) :
  ∃ h', (∀ (R : Type) (k1 k2 : IntKind) (f : H -> Option R), (Qd 9 (sv b 0 n) (iv k1 (i : Int)) fun v => stK 9 h v (.agg x.cs) fun h1 => Qd 9 (sv b 0 n) (iv k2 (j : Int)) fun v' => stK 9 h1 v' (.agg y.cs) f) = f h') /\ Hs h' b ((d.setIfInBounds i x).setIfInBounds j y) /\ Oth b h h' := by
 have h1 : Hs (h.put b (.rw 9 ((d.setIfInBounds i x).toList.map SeenD.cs).flatten)) b (d.setIfInBounds i x) := Hs.put hs.n;refine ⟨_, fun R k1 k2 f => ?_, Hs.put (d := (d.setIfInBounds i x).setIfInBounds j y) h1.n, Oth.put.trans Oth.put⟩
 rw [hs.st (x := x) hn hi, h1.st (x := y) (by simpa using hn) (by simpa using hj)]
end Vm
namespace Vm
open Go
end Vm
namespace Vm
open Go
theorem Ps {h : H} {m : List UInt8} : Z6 1 h (lv (bys m)) = some (m.map QA) := by
 simp only [Z6, if_pos (show ∀ r ∈ bys m, r.length = 1 from YR), Un]
theorem Vy {h : H} {v : V} {l : List UInt8} {b : Nat} (w : BysW h v l b) : Z6 1 h v = some (l.map QA) := by
 have hc : h.cells b = l.map QA := by unfold H.cells; rw [if_pos w.n, w.g]; rfl
 rw [w.v];simp only [Z6, hc];rw [if_pos ⟨w.n, by simp⟩, HX, Fz (by simp)]
theorem Q2E {h : H} {v : V} {l m : List UInt8} {b : Nat} (w : BysW h v l b) (hm : l.length + m.length <= lim) :
  Zm 1 h v (lv (bys m)) = some (sv h.n 0 (l ++ m).length, (h.put b .dead).new 1 ((l ++ m).map QA)) := by
 have h1 := Vy w;obtain ⟨rfl, w2, w3⟩ := w;simp only [Zm, h1, Ps, HC, Uh, Xe];rw [if_pos ⟨w2, hm, by omega⟩, w3]
 simp
theorem Q1k {h : H} {l m : List UInt8} {b : Nat} : BysW ((h.put b .dead).new 1 ((l ++ m).map QA)) (sv h.n 0 (l ++ m).length) (l ++ m) h.n := ⟨rfl, by simp, QI (h.put b .dead) _ _⟩
theorem kP {h : H} {m : List UInt8} (hm : m.length <= lim) : Zm 1 (h.new 1 []) (sv h.n 0 0) (lv (bys m)) = some (sv (h.n + 1) 0 m.length, ((h.new 1 []).put h.n .dead).new 1 (m.map QA)) := by
 have := Q2E (h := h.new 1 []) (v := sv h.n 0 0) (l := []) (m := m) (b := h.n) ⟨rfl, by simp, by simp⟩ (by simpa using hm)
 simpa using this
theorem Yt {m : List UInt8} (hm : m.length <= lim) (n : Nat) : ∃ v h', call Ev Fn.XZ [lv (bys m)] (D n) = some (v, h') /\ NewB n h' v m (some (n + 1)) /\ h'.n = n + 2 := by
 rw [MH, kP hm, ob];refine ⟨_, _, rfl, ⟨⟨rfl, by simp, ?_⟩, by simp; omega, fun b hb => by cases hb; omega, fun b h1 h2 s hs => ?_⟩, by simp⟩
 · exact QI (((D n).new 1 []).put n .dead) _ _
 ·have h3 : b = n \/ b = n + 1 := by simp at h2; omega
  rcases h3 with rfl | rfl
  ·rw [QO (by simp)] at hs
   simp [Blk.cells] at hs
  ·have e : ((((D n).new 1 []).put (D n).n .dead).new 1 (m.map QA)).g (n + 1) = .rw 1 (m.map QA) := QI (((D n).new 1 []).put n .dead) _ _
   dsimp only at hs;rw [e] at hs;obtain ⟨c, _, rfl⟩ := HR.1 hs;rfl
end Vm
namespace Vm
open Go
def Z7 (l : List UInt8) (i : Int) : Bool := decide (0 <= i) && (decide (i < bt l 0) && siz l i.toNat != 0)
theorem J6 {l : List UInt8} {i : Int} (h : Z7 l i = true) : ∃ k : Nat, i = k /\ k < cnt l /\ siz l k ≠ 0 := by
 simp only [Z7, HE, decide_eq_true_eq, bne_iff_ne, ne_eq] at h;have := Xd l;exact ⟨i.toNat, by omega, by omega, h.2.2⟩
section
variable {l : List UInt8} (hp : QH l = 0)
include hp
theorem T6 {i : Int} (h1 : -9223372036854775808 <= i) (h2 : i < 9223372036854775808) : Q8 (call Ev) Fn.UC [lv (bys l), iv Ly i] = some (bv (Z7 l i)) := by
 obtain ⟨h64, ⟨g1, g2, g3⟩, _⟩ := Qv hp;have b2 := Xa l 0;rw [Px, pc (Xx (by omega)) rfl]
 simp only [Q3, Q2];rw [w64 (by omega) (by omega), pc (MB _ _ _) rfl]
 simp only [Q3, QW, Q1];unfold Z7
 by_cases hi : inB i 0 (bt l 0 - 1) = true
 ·have hi' := X4.1 hi
  obtain ⟨k, rfl⟩ : ∃ k : Nat, i = k := ⟨i.toNat, by omega⟩
  rw [if_pos hi, pc (K9 (by omega) (by omega)) rfl]
  have := (Xl l k).2.2.1;simp only [Q3, Q2]
  congr 2
  rw [show decide ((0 : Int) <= (k : Int)) = true from by simp, show decide ((k : Int) < bt l 0) = true from by simp; omega]
  simp only [Bool.true_and, HQ];rw [show decide (siz l k > 0) = (siz l k != 0) from by rw [Bool.eq_iff_iff]; simp; omega]
 ·rw [if_neg hi]
  have : ¬ (0 <= i /\ i <= bt l 0 - 1) := fun hh => hi (X4.2 hh)
  congr 2
  by_cases h0 : 0 <= i
  · rw [show decide (i < bt l 0) = false from by simp; omega]; simp
  · rw [show decide (0 <= i) = false from by simp; omega]; simp
theorem NQ {i : Int} : Q8 (call Ev) Fn.Yp [lv (bys l), iv Ly i] = some (bv (Z7 l i)) := by
 obtain ⟨h64, ⟨g1, g2, g3⟩, _⟩ := Qv hp;have b2 := Xa l 0;rw [R8, Q1];unfold Z7
 by_cases h0 : 0 <= i
 case neg => rw [if_neg (by simpa using h0)]; simp [h0]
 rw [if_pos (by simpa using h0), pc (Bn (by omega)) rfl]
 simp only [Q3, Q2, Q1]
 by_cases h1 : i < bt l 0
 case neg => rw [if_neg (by simpa using h1)]; simp [h0, h1]
 rw [if_pos (by simpa using h1)]
 obtain ⟨k, rfl⟩ : ∃ k : Nat, i = k := ⟨i.toNat, by omega⟩
 rw [w64 (n := 2 * (k : Int)) (by omega) (by omega), w64 (by omega) (by omega), ZA (by omega) (by omega)]
 simp only [gx0, ob, Q2];have : bt l (3 + 2 * (k : Int)) = siz l k := by unfold siz; congr 1
 rw [this];simp [h1]
def Qm (l : List UInt8) (k : Nat) : List UInt8 := (l.take (plc l k + siz l k).toNat).drop (plc l k).toNat
theorem Gh {k : Nat} (hk : k < cnt l) : 0 <= plc l k /\ 0 <= siz l k /\ plc l k + siz l k <= 64 /\ 3 + 2 * k < l.length /\ k < 1000 := by
 obtain ⟨h64, ⟨g1, g2, g3⟩, h3, _⟩ := Qv hp;have hc := Xd l;have q := Xl l k;have hs := h3 k hk;unfold ZK at hs;refine ⟨q.1, q.2.2.1, ?_, by omega, by omega⟩
 split at hs <;> omega
theorem qW {k : Nat} (hk : k < cnt l) : Q8 (call Ev) Fn.We [lv (bys l), iv Ly k] = some (lv (bys (Qm l k))) := by
 obtain ⟨s1, s2, s3, s4, s5⟩ := Gh hp hk;obtain ⟨h64, _⟩ := Qv hp;rw [T3, pc (qR s4 s5) rfl];simp only [Za, gx0, gx1, ob, Zc, Q2, ln0, ln1, Hw, HA, if_true];rw [w64 (by omega) (by omega), show plc l k = ((plc l k).toNat : Int) from by omega, show (((plc l k).toNat : Int) + siz l k) = ((((plc l k).toNat : Int) + siz l k).toNat : Int) from by omega, jO (by omega) (by omega)]
 unfold Qm;rw [show ((plc l k).toNat : Int) = plc l k from by omega]
theorem MX {k : Nat} (hk : k < cnt l) : Q8 (call Ev) Fn.Ya [lv (bys l), iv Ly k] = some (lv (bys (Qm l k))) := by
 obtain ⟨s1, s2, s3, s4, s5⟩ := Gh hp hk;obtain ⟨h64, _⟩ := Qv hp;rw [RX, pc (Yo (by omega) s5) rfl]
 simp only [Q3, Q2];rw [pc (K9 s4 s5) rfl];simp only [Q3, Q2];rw [w64 (by omega) (by omega), show plc l k = ((plc l k).toNat : Int) from by omega, show (((plc l k).toNat : Int) + siz l k) = ((((plc l k).toNat : Int) + siz l k).toNat : Int) from by omega, jO (by omega) (by omega)]
 have hlen : ((l.take (((plc l k).toNat : Int) + siz l k).toNat).drop (plc l k).toNat).length <= lim := by
  rw [EK, List.length_take]; unfold lim; omega
 have := kP (h := D 0) hlen;rw [D_n] at this;rw [this, ob];have w : BysW ((((D 0).new 1 []).put 0 .dead).new 1 (((l.take (((plc l k).toNat : Int) + siz l k).toNat).drop (plc l k).toNat).map QA)) (sv (0 + 1) 0 ((l.take (((plc l k).toNat : Int) + siz l k).toNat).drop (plc l k).toNat).length) _ 1 := ⟨rfl, by simp, QI (((D 0).new 1 []).put 0 .dead) _ _⟩
 rw [Jd (ob := some 1) w];unfold Qm;rw [show ((plc l k).toNat : Int) = plc l k from by omega]
end
noncomputable def slC (l : List UInt8) (i : Int) : Int := if QH l = 0 then (if Z7 l i then 0 else 4) else QH l
theorem WL (l : List UInt8) (k : Nat) : (Qm l k).length <= l.length := by
 unfold Qm; rw [EK, List.length_take]; omega
end Vm
namespace Vm
open Go
theorem uL {l : List UInt8} {i : Int} : Ly.wrap (6 + bt l i) = 6 + bt l i := by
 have := Xa l i; have := Jy l i;exact w64 (by omega) (by omega)
theorem Q2O {l : List UInt8} {i j : Int} : Ly.wrap (Ly.wrap (bt l i * 256) + bt l j) = bt l i * 256 + bt l j := by
 have := Xa l i; have := Jy l i; have := Xa l j; have := Jy l j;rw [w64 (n := bt l i * 256) (by omega) (by omega), w64 (by omega) (by omega)]
theorem Q55 {E : Env} {t : Nat} {l : List UInt8} {i : Int} : bin E .shl t (iv Ly (bt l i)) (iv .u64 8) = some (iv Ly (bt l i * 256)) := by
 have := Xa l i; have := Jy l i;simp only [bin];rw [if_neg (by omega), show min (8 : Int).toNat Ly.bits = 8 from by decide, show (2 : Int) ^ 8 = 256 from by decide, w64 (by omega) (by omega)]
theorem or8 {E : Env} {t : Nat} {l : List UInt8} {i j : Int} : bin E .or t (iv Ly (bt l i * 256)) (iv Ly (bt l j)) = some (iv Ly (bt l i * 256 + bt l j)) := by
 have h1 := Jy l i; have h2 := Jy l j;unfold bt at h1 h2 ⊢;generalize (l.getD i.toNat 0).toNat = a at *
 generalize (l.getD j.toNat 0).toNat = b at *
 have ha : a < 256 := by omega
 have hb : b < 256 := by omega
 have e : (Dq Ly.bits ((a : Int) * 256) ||| Dq Ly.bits (b : Int)).toNat = a * 256 + b := by
  rw [BitVec.toNat_or, SX, SX];have e1 : (((a : Int) * 256) % ((2 ^ Ly.bits : Nat) : Int)).toNat = a * 256 := by
   simp only [IntKind.bits]; omega
  have e2 : ((b : Int) % ((2 ^ Ly.bits : Nat) : Int)).toNat = b := by
   simp only [IntKind.bits]; omega
  rw [e1, e2];have := Nat.shiftLeft_add_eq_or_of_lt (i := 8) (b := b) (by omega) a
  rw [Nat.shiftLeft_eq] at this;exact this.symm
 simp only [bin, if_true, Ns, RA, e, HC];rw [w64 (by omega) (by omega)]
 rfl
structure CellD where
 code : Int
 flag : Int
 page : Int
 slot : Int
 row : RowD
abbrev CellD.cs (c : CellD) : List S := [.int Ly c.code, .int Ly c.flag, .int Ly c.page, .int Ly c.slot, .int Ly c.row.tab, .int Ly c.row.key, .int Ly c.row.val, .str c.row.text]
def noR : RowD := ⟨0, 0, 0, ⟨#[]⟩⟩
def ZO (l : List UInt8) : RowD := ⟨bt l 1, bt l 2, bt l 3 * 256 + bt l 4, ⟨(l.drop 6).toArray⟩⟩
def Jl (l : List UInt8) : Bool := decide (l.length = 3) && bt l 0 == 1
def Kn (l : List UInt8) : Bool := decide (6 <= l.length) && (bt l 0 == 0 || bt l 0 == 2) && decide ((l.length : Int) = 6 + bt l 5)
def QS (l : List UInt8) : CellD :=
 if Jl l && (decide (bt l 1 <= 11) && decide (bt l 2 <= 15)) then ⟨0, 1, bt l 1, bt l 2, noR⟩
 else if Kn l && XW (ZO l) == 0 then ⟨0, bt l 0, 0, 0, ZO l⟩ else ⟨5, 0, 0, 0, noR⟩
theorem UN {l : List UInt8} (hl : l.length <= lim) : (ZO l).text.size <= maxLen := by
 have : (ZO l).text.size = l.length - 6 := by simp [ZO, ByteArray.size]
 unfold lim at hl; unfold maxLen; omega
theorem Q56 {l : List UInt8} (hl : l.length <= lim) : Q8 (call Ev) Fn.UD [fv [.int Ly (bt l 1), .int Ly (bt l 2), .int Ly (bt l 3 * 256 + bt l 4), .str ⟨(l.drop 6).toArray⟩] 0] = some (iv Ly (XW (ZO l))) := yr (ZO l) (UN hl)
theorem pRF {l : List UInt8} (hl : l.length <= lim) : Q8 (call Ev) Fn.Xj [.agg [.int Ly (bt l 1), .int Ly (bt l 2), .int Ly (bt l 3 * 256 + bt l 4), .str ⟨(l.drop 6).toArray⟩]] = some (iv Ly (XW (ZO l))) := j9 (ZO l) (UN hl)
theorem yq (a b : Int) : Q8 (call Ev) Fn.GB [iv Ly a, iv Ly b] = some (bv (inB a 0 11 && inB b 0 15)) := by
 rw [R5];simp only [Q9, MB, HC, GZ, kX, cond_true, Q3, QW, Q1]
 cases inB a 0 11 <;> cases inB b 0 15 <;> rfl
theorem vI {l : List UInt8} (hl : l.length <= lim) : ∃ c : CellD, ∃ b : Bool, Q8 (call Ev) Fn.Yb [lv (bys l)] = some (.tup [.agg c.cs, .s (.bool b)]) /\ (QS l = if b then c else ⟨5, 0, 0, 0, noR⟩) /\ c.code = 0 := by
 have hrs := UN hl;have j0 : ∀ q, Jn.U9 q (bys l) = if q = true then some (.tup [.agg (CellD.cs ⟨0, 0, 0, 0, noR⟩), .s (.bool false)]) else if 6 <= l.length then some (.tup [.agg (CellD.cs ⟨0, bt l 0, 0, 0, ZO l⟩), .s (.bool (XW (ZO l) == 0))]) else none := by
  intro q;unfold Jn.U9;rw [Q1]
  cases q
  case true => rfl
  simp only [FD, if_false]
  by_cases h6 : 6 <= l.length
  ·simp (disch := first | omega | fail) only [ZA, HP, HC, Q2, GW, Q2O]
   rw [show iv Ly 6 = iv Ly ((6 : Nat) : Int) from rfl, jN h6, Nd (by rw [EK]; omega)]
   simp only [HC, Q3, Z8, Qu];rw [ZB (Zj.refl _).new, pc (Q56 hl) rfl, if_pos h6];rfl
  ·rw [if_neg h6]
   by_cases h1 : 1 < l.length
   ·by_cases h2 : 2 < l.length
    ·by_cases h3 : 3 < l.length
     ·by_cases h4 : 4 < l.length
      ·simp (disch := first | omega | fail) only [ZA, HP, HC, Q2]
       unfold slF;simp only [Xe, HC, bnd];rw [if_neg (by omega)]; rfl
      · simp (disch := first | omega | (simp; omega) | fail) only [ZA, Nc, HP, HC, Q2]
     · simp (disch := first | omega | (simp; omega) | fail) only [ZA, Nc, HP, HC, Q2]
    · simp (disch := first | omega | (simp; omega) | fail) only [ZA, Nc, HP, HC, Q2]
   · simp (disch := first | omega | (simp; omega) | fail) only [ZA, Nc, HP, HC, Q2]
 have j1 : ∀ q, (q = true -> l.length = 3) -> ∃ c : CellD, ∃ b : Bool, Jn.U8 q (bys l) = some (.tup [.agg c.cs, .s (.bool b)]) /\ (if b = true then c else ⟨5, 0, 0, 0, noR⟩) = (if q && (decide (bt l 1 <= 11) && decide (bt l 2 <= 15)) then ⟨0, 1, bt l 1, bt l 2, noR⟩
   else if (!q) && (Kn l && XW (ZO l) == 0) then ⟨0, bt l 0, 0, 0, ZO l⟩ else ⟨5, 0, 0, 0, noR⟩) /\ c.code = 0 := by
  intro q hq;unfold Jn.U8;rw [Q1];have n0 := Xa l 0; have n1 := Xa l 1; have n2 := Xa l 2
  cases q
  case true =>
   have h3 := hq rfl;simp (disch := first | omega | fail) only [ZA, HP, HC, Q2, GW, Qu, if_true]
   rw [ZB (Zj.refl _).new, pc (yq _ _) rfl];refine ⟨⟨0, 1, bt l 1, bt l 2, noR⟩, _, rfl, ?_, rfl⟩;simp [inB, n1, n2]
  case false =>
   simp only [FD, if_false, Xe, Q1]
   by_cases h6 : l.length < 6
   ·rw [if_pos (by simp; omega)]
    exact ⟨⟨0, 0, 0, 0, noR⟩, _, rfl, by simp [Kn, show ¬ 6 <= l.length by omega], rfl⟩
   rw [if_neg (by simp; omega)]
   simp (disch := first | omega | fail) only [ZA, HP, HC, Q2, GW, uL]
   by_cases h01 : bt l 0 = 1
   ·rw [if_pos (by simp [h01])]
    exact ⟨⟨0, 0, 0, 0, noR⟩, _, rfl, by simp [Kn, h01], rfl⟩
   rw [if_neg (by simpa using h01), j0, j0]
   by_cases h02 : 2 < bt l 0
   ·rw [if_pos (by simpa using h02)]
    exact ⟨⟨0, 0, 0, 0, noR⟩, _, rfl, by simp [Kn, show bt l 0 ≠ 0 by omega, show bt l 0 ≠ 2 by omega], rfl⟩
   rw [if_neg (by simpa using h02)]
   have h0 : (bt l 0 == 0 || bt l 0 == 2) = true := by simp; omega
   by_cases h5 : (l.length : Int) = 6 + bt l 5
   ·rw [if_neg (by simp [<- h5]), if_pos (by omega)]
    exact ⟨⟨0, bt l 0, 0, 0, ZO l⟩, _, rfl, by simp [Kn, h0, <- h5, show 6 <= l.length by omega], rfl⟩
   ·rw [if_pos (by simpa using h5)]
    exact ⟨⟨0, 0, 0, 0, noR⟩, _, rfl, by simp [Kn, h5], rfl⟩
 rw [RZ, Q1, Xe];unfold QS Jl
 by_cases h3 : l.length = 3
 ·rw [if_pos (by simp [h3]), ZA (by omega) (by omega)]
  simp only [HP, HC, Q2];obtain ⟨c, b, e1, e2, e3⟩ := j1 (bt l 0 == 1) (fun _ => h3)
  refine ⟨c, b, e1, ?_, e3⟩;rw [e2]
  cases hq : bt l 0 == 1 <;> simp [h3, Kn]
 ·rw [if_neg (by simp; omega)]
  obtain ⟨c, b, e1, e2, e3⟩ := j1 false (fun h => by cases h)
  refine ⟨c, b, e1, ?_, e3⟩;rw [e2];simp [h3]
theorem NR {l : List UInt8} (hl : l.length <= lim) : Q8 (call Ev) Fn.Yh [lv (bys l)] = some (.agg (QS l).cs) := by
 have hrs := UN hl;have n0 := Xa l 0; have n1 := Xa l 1; have n2 := Xa l 2;have j0 : ∀ q, 6 <= l.length -> Jn.KS q (bys l) = some (.agg (CellD.cs (if !q && XW (ZO l) == 0 then ⟨0, bt l 0, 0, 0, ZO l⟩ else ⟨5, 0, 0, 0, noR⟩))) := by
  intro q h6;unfold Jn.KS;rw [Q1]
  cases q
  case true => rfl
  simp (disch := first | omega | fail) only [ZA, HP, HC, Q2, GW, Q55, or8, Q3, FD, if_false]
  rw [show iv Ly 6 = iv Ly ((6 : Nat) : Int) from rfl, jN h6, Nd (by rw [EK]; omega)]
  simp only [HC, Q3, Z8];rw [ZB (Zj.refl _).new, pc (pRF hl) rfl];simp only [Q3, Q2, Q1]
  cases hf : XW (ZO l) == 0
  · rw [if_pos (by simpa using hf)]; rfl
  · rw [if_neg (by simpa using hf)]; rfl
 have j1t : Jn.Z0 true (bys l) = some (.agg (CellD.cs ⟨5, 0, 0, 0, noR⟩)) := by
  unfold Jn.Z0 Jn.KS; rfl
 have j1f : 6 <= l.length -> (bt l 0 == 0 || bt l 0 == 2) = true -> Jn.Z0 false (bys l) = some (.agg (CellD.cs (if Kn l && XW (ZO l) == 0 then ⟨0, bt l 0, 0, 0, ZO l⟩ else ⟨5, 0, 0, 0, noR⟩))) := by
  intro h6 h0;unfold Jn.Z0;rw [Q1, if_neg (by simp), ZA (by omega) (by omega)]
  simp only [HP, HC, Q2, GW, uL, Xe];rw [j0 _ h6]
  by_cases h5 : (l.length : Int) = 6 + bt l 5
  · simp [Kn, h0, h5, h6]
  · simp [Kn, h0, h5, h6]
 have tail : ∀ (h3 : Jl l = false \/ ¬ (bt l 1 <= 11 /\ bt l 2 <= 15)), (vcase (bv (decide (((bys l).length : Int) < 6)))
   (Jn.Z0 true (bys l))
   (QB 1 (bys l) 0 fun r401 =>
   (r401[0]?).bind fun x402 =>
   gI LA x402 fun i403 =>
   vcase (bv (i403 != 0))
   (QB 1 (bys l) 0 fun r405 =>
   (r405[0]?).bind fun x406 =>
   gI LA x406 fun i407 =>
   Jn.Z0 (i407 != 2) (bys l))
   (Jn.Z0 false (bys l)))) = some (.agg (QS l).cs) := by
  intro h3;have hu : QS l = if Kn l && XW (ZO l) == 0 then ⟨0, bt l 0, 0, 0, ZO l⟩ else ⟨5, 0, 0, 0, noR⟩ := by
   unfold QS;rw [if_neg]
   rcases h3 with h3 | h3
   · simp [h3]
   · simp; intro _ a; have := fun b => h3 ⟨a, b⟩; omega
  rw [Q1, Xe, hu]
  by_cases h6 : l.length < 6
  ·rw [if_pos (by simp; omega), j1t]
   simp [Kn, show ¬ 6 <= l.length by omega]
  rw [if_neg (by simp; omega), ZA (by omega) (by omega)]
  simp only [HP, HC, Q2, Q1]
  by_cases h00 : bt l 0 = 0
  · rw [if_neg (by simp [h00]), j1f (by omega) (by simp [h00])]
  rw [if_pos (by simpa using h00), ZA (by omega) (by omega)]
  simp only [HP, HC, Q2, Q1]
  by_cases h02 : bt l 0 = 2
  · rw [show (bt l 0 != 2) = false from by simp [h02], j1f (by omega) (by simp [h02])]
  ·rw [show (bt l 0 != 2) = true from by simp [h02], j1t]
   simp [Kn, h00, h02]
 have j2 : ∀ q, (q = (Jl l && decide (bt l 1 < 12))) -> Jn.Jw q (bys l) = some (.agg (QS l).cs) := by
  intro q hq;unfold Jn.Jw;rw [Q1]
  cases q
  case false =>
   rw [if_neg (by simp)]
   refine tail ?_
   cases hs : Jl l
   · exact .inl rfl
   ·rw [hs] at hq
    simp only [Bool.true_and] at hq;have := of_decide_eq_false hq.symm;exact .inr (by omega)
  case true =>
   rw [if_pos rfl];have hq' := hq.symm;simp only [HE, decide_eq_true_eq] at hq';have hs := hq'.1;unfold Jl at hs;simp only [HE, decide_eq_true_eq] at hs;rw [ZA (by omega) (by omega)]
   simp only [HP, HC, Q2]
   by_cases h2 : bt l 2 < 16
   ·rw [Q1, if_pos (by simpa using h2)]
    simp (disch := first | omega | fail) only [ZA, HP, HC, Q2, GW]
    unfold QS;rw [if_pos (by rw [hq'.1]; simp; omega)]
    rfl
   ·rw [Q1, if_neg (by simpa using h2)]
    exact tail (.inr (by omega))
 rw [NM, Q1]
 by_cases h3 : l.length = 3
 ·rw [if_pos (by simp [h3]), ZA (by omega) (by omega)]
  simp only [HP, HC, Q2, Q1]
  by_cases h1 : bt l 0 = 1
  ·rw [if_pos (by simp [h1]), ZA (by omega) (by omega)]
   simp only [HP, HC, Q2];exact j2 _ (by simp [Jl, h3, h1])
  ·rw [if_neg (by simpa using h1)]
   exact j2 _ (by simp [Jl, h1])
 ·rw [if_neg (by simp; omega)]
  exact tail (.inl (by simp [Jl, h3]))
end Vm
namespace Vm
open Go
theorem NA (l : List UInt8) : (QS l).code = 0 -> (QS l).flag = 0 \/ (QS l).flag = 1 \/ (QS l).flag = 2 := by
 unfold QS;intro h
 split
 · exact .inr (.inl rfl)
 ·split
  ·rename_i h2
   simp only [HE, Kn] at h2;have := h2.1.1.2;simp only [Ex, beq_iff_eq] at this
   rcases this with h3 | h3
   · exact .inl h3
   · exact .inr (.inr h3)
  ·rename_i h1 h2
   rw [if_neg h1, if_neg h2] at h
   cases h
structure SpotD where
 p : Nat
 s : Nat
 c : CellD
def QQ (p : Nat) (l : List UInt8) : Nat -> Nat -> List SpotD
 | _, 0 => []
 | s, n + 1 => if Z7 l (s : Int) = true then ⟨p, s, QS (Qm l s)⟩ :: QQ p l (s + 1) n else QQ p l (s + 1) n
def Qh : Nat -> List (List UInt8) -> List SpotD
 | _, [] => []
 | p, l :: r => QQ p l 0 (cnt l) ++ Qh (p + 1) r
def N3 (x : SpotD) : SeenD := ⟨x.c.row, x.p, x.s, false, x.p, x.s⟩
def UE (x : SpotD) : SeenD := ⟨noR, x.p, x.s, true, x.c.page, x.c.slot⟩
def Xr (sp : List SpotD) : List SeenD := (sp.filter fun x => x.c.flag == 0).map N3
def QF (sp : List SpotD) : List SeenD := (sp.filter fun x => x.c.flag == 1).map UE
def QZ (sp : List SpotD) : List SpotD := sp.filter fun x => x.c.flag == 2
def mvF (ms : List SpotD) (a b : Int) : Option RowD := (ms.find? fun x => decide (a = (x.p : Int)) && decide (b = (x.s : Int))).map fun x => x.c.row
def KV (ms : List SpotD) (x : SeenD) : SeenD := { x with r := (mvF ms x.at_ x.place).getD noR }
def KW (ms : List SpotD) (st : List SeenD) : Bool := st.any fun x => (mvF ms x.at_ x.place).isNone
def JD : List (Int × Int) -> List SeenD -> Bool
 | _, [] => false
 | d, x :: l => decide ((x.at_, x.place) ∈ d) || JD (d ++ [(x.at_, x.place)]) l
def Kj (ms : List SpotD) : List SpotD -> List SeenD
 | [] => []
 | x :: l => if x.c.flag = 2 then Kj ms l else (if x.c.flag = 1 then KV ms (UE x) else N3 x) :: Kj ms l
theorem TQ (ms : List SpotD) : ∀ (sp : List SpotD), (∀ x ∈ sp, x.c.flag = 0 \/ x.c.flag = 1 \/ x.c.flag = 2) -> (Xr sp ++ (QF sp).map (KV ms)).Perm (Kj ms sp)
 | [], _ => by simp [Xr, QF, Kj]
 | x :: sp, h => by
  have ih := TQ ms sp fun y hy => h y (by simp [hy])
  have e0 : Xr (x :: sp) = if x.c.flag = 0 then N3 x :: Xr sp else Xr sp := by
   unfold Xr
   by_cases h0 : x.c.flag = 0 <;> simp [FQ, h0]
  have e1 : QF (x :: sp) = if x.c.flag = 1 then UE x :: QF sp else QF sp := by
   unfold QF
   by_cases h0 : x.c.flag = 1 <;> simp [FQ, h0]
  rw [e0, e1]
  rcases h x (by simp) with h0 | h0 | h0
  ·rw [if_pos h0, if_neg (by omega)]
   simp only [Kj];rw [if_neg (by omega), if_neg (by omega)]
   exact ih.cons _
  ·rw [if_neg (by omega), if_pos h0]
   simp only [Kj];rw [if_neg (by omega), if_pos h0, HS]
   exact SY.trans (ih.cons _)
  ·rw [if_neg (by omega), if_neg (by omega)]
   simp only [Kj];rw [if_pos h0];exact ih
def YC (x y : SeenD) : Bool := decide (x.r.tab = y.r.tab) && decide (x.r.key = y.r.key)
theorem Gn {x y : SeenD} : ltS x y = true ↔ x.r.tab < y.r.tab \/ (x.r.tab = y.r.tab /\ x.r.key < y.r.key) := by
 unfold ltS ZJ; simp
theorem xR (x y : SeenD) : ltS x y = true \/ YC x y = true \/ ltS y x = true := by
 rw [Gn, Gn]; unfold YC; simp; omega
def K3 (l : List SeenD) : Prop := ¬ l.Pairwise fun x y => YC x y = false
noncomputable instance dupKd (l : List SeenD) : Decidable (K3 l) := Classical.propDecidable _
theorem WI {l m : List SeenD} (h : l.Perm m) : K3 l ↔ K3 m := by
 unfold K3;rw [h.pairwise_iff (fun {x y} hh => by unfold YC at *; simp at *; omega)]
def Wa (l : List SeenD) : Prop := l.Pairwise fun x y => ltS x y = true
theorem Wa.nodup {l : List SeenD} (h : Wa l) : ¬ K3 l := by
 unfold K3;intro hh;refine hh (h.imp fun {x y} hx => ?_)
 rw [Gn] at hx;unfold YC; simp; omega
theorem TV {l m : List SeenD} (hl : Wa l) (hm : Wa m) (hp : l.Perm m) : l = m := by
 refine List.Perm.eq_of_pairwise (le := fun x y => ltS x y = true) (fun a b _ _ h1 h2 => ?_) hl hm hp
 rw [Gn] at h1 h2;omega
def nbr : List SeenD -> Bool
 | [] => true
 | [_] => true
 | x :: y :: l => ltS x y && nbr (y :: l)
theorem Vf : ∀ {l : List SeenD}, nbr l = true -> Wa l
 | [], _ => D1
 | [x], _ => by unfold Wa; simp
 | x :: y :: l, h => by
  unfold nbr at h;simp only [HE] at h;have ih := Vf (l := y :: l) h.2;refine SZ (fun z hz => ?_) ih
  rcases HH.1 hz with rfl | hz
  · exact h.1
  ·have h2 := DD ih hz
   have h1 := h.1;rw [Gn] at *
   omega
theorem qG : ∀ {l : List SeenD}, Wa l -> nbr l = true
 | [], _ => rfl
 | [x], _ => rfl
 | x :: y :: l, h => by
  unfold nbr;rw [qG (Av h), DD h (by simp)]; rfl
theorem kR {l m : List SeenD} (hs : l.Pairwise fun x y => ltS y x = false) (hp : l.Perm m) : nbr l = true ↔ ¬ K3 m := by
 rw [<- WI hp];constructor
 · exact fun h => (Vf h).nodup
 ·intro h
  refine qG ?_;unfold K3 at h;have h := DE.1 h;have := hs.and h;refine this.imp fun {x y} hx => ?_
  rcases xR x y with h1 | h1 | h1
  · exact h1
  · rw [hx.2] at h1; cases h1
  · rw [hx.1] at h1; cases h1
def WO : List SeenD -> SeenD -> List SeenD
 | [], x => [x]
 | y :: l, x => if ltS y x = true then y :: WO l x else x :: y :: l
theorem M6 : ∀ (l : List SeenD) (x : SeenD), (WO l x).Perm (x :: l)
 | [], x => by simp [WO]
 | y :: l, x => by
  unfold WO
  split
  · exact ((M6 l x).cons y).trans (List.Perm.swap x y l)
  · exact List.Perm.refl _
theorem TY : ∀ {l : List SeenD} {x : SeenD}, Wa l -> (∀ y ∈ l, YC x y = false) -> Wa (WO l x)
 | [], x, _, _ => by unfold WO Wa; simp
 | y :: l, x, h, hx => by
  unfold WO
  split
  ·rename_i h1
   refine SZ (fun z hz => ?_) (TY (Av h) fun w hw => hx w (by simp [hw]))
   rcases HH.1 ((M6 l x).mem_iff.1 hz) with rfl | hz
   · exact h1
   · exact DD h hz
  ·rename_i h1
   have hxy : ltS x y = true := by
    rcases xR x y with h2 | h2 | h2
    · exact h2
    · rw [hx y (by simp)] at h2; cases h2
    · exact absurd h2 h1
   refine SZ (fun z hz => ?_) h
   rcases HH.1 hz with rfl | hz
   · exact hxy
   ·have := DD h hz
    rw [Gn] at *
    omega
def MR (l : List SeenD) : List SeenD := l.foldl WO []
theorem Ph : ∀ (l a : List SeenD), (l.foldl WO a).Perm (a ++ l)
 | [], a => by simp
 | x :: l, a => by
  have := Ph l (WO a x);refine this.trans ?_;have h2 := (M6 a x).append_right l;refine h2.trans ?_;exact SY.symm
theorem Wi (l : List SeenD) : (MR l).Perm l := by
 have := Ph l [];simpa [MR] using this
theorem Rh : ∀ (l a : List SeenD), Wa a -> ¬ K3 (a ++ l) -> Wa (l.foldl WO a)
 | [], a, h, _ => h
 | x :: l, a, h, hd => by
  have hn := DE.1 hd;refine Rh l (WO a x) (TY h fun y hy => ?_) ?_
  ·have := (List.pairwise_append.1 hn).2.2 y hy x (by simp)
   unfold YC at *; simp at *; omega
  ·rw [WI (((M6 a x).append_right l).trans SY.symm)]
   exact hd
theorem NC {l : List SeenD} (h : ¬ K3 l) : Wa (MR l) := Rh l [] D1 (by simpa using h)
theorem ve {l m : List SeenD} (hl : nbr l = true) (hp : l.Perm m) : l = MR m := by
 have hr := Vf hl;have hd : ¬ K3 m := by rw [<- WI hp]; exact hr.nodup
 exact TV hr (NC hd) (hp.trans (Wi m).symm)
def Qg (pages : List (List UInt8)) (a b : Int) : Option CellD := if 0 <= a /\ a < pages.length then (match pages[a.toNat]? with
 | some l => if Z7 l b = true then some (QS (Qm l b.toNat)) else none
 | none => none) else none
theorem zu {p : Nat} {l : List UInt8} {f : SpotD -> Bool} {a b : Int} (ha : a = p) : ∀ (n s : Nat), s + n = cnt l -> (s : Int) <= b ->
  ((QQ p l s n).filter fun x => x.c.flag == 2).find? (fun x => decide (a = (x.p : Int)) && decide (b = (x.s : Int))) = if Z7 l b = true /\ (QS (Qm l b.toNat)).flag = 2 then some ⟨p, b.toNat, QS (Qm l b.toNat)⟩ else none
 | 0, s, hs, hb => by
  simp only [QQ, List.filter_nil, List.find?_nil];rw [if_neg]
  rintro ⟨h, _⟩
  obtain ⟨k, h1, h2⟩ := J6 h;omega
 | n + 1, s, hs, hb => by
  simp only [QQ]
  by_cases he : (s : Int) = b
  ·have hs' : b.toNat = s := by omega
   subst he;rw [HQ];have hn : ((QQ p l (s + 1) n).filter fun x => x.c.flag == 2).find? (fun x => decide (a = (x.p : Int)) && decide ((s : Int) = (x.s : Int))) = none := by
    have : ∀ (n t : Nat), s < t -> ∀ x ∈ QQ p l t n, s < x.s := by
     intro n
     induction n with
     | zero => intro t ht x hx; simp [QQ] at hx
     | succ n ih =>
      intro t ht x hx;simp only [QQ] at hx
      split at hx
      ·rcases HH.1 hx with rfl | hx
       · exact ht
       · exact ih (t + 1) (by omega) x hx
      · exact ih (t + 1) (by omega) x hx
    rw [Dd];intro x hx;have := this n (s + 1) (by omega) x (FJ.1 hx).1
    simp; omega
   by_cases hh : Z7 l (s : Int) = true
   ·rw [if_pos hh]
    by_cases hf : (QS (Qm l s)).flag = 2
    ·rw [if_pos ⟨hh, hf⟩, FQ, if_pos (by simpa using hf), DF]
     simp [ha]
    ·rw [if_neg (fun h => hf h.2), FQ, if_neg (by simpa using hf)]
     exact hn
   ·rw [if_neg hh, if_neg (fun h => hh h.1)]
    exact hn
  ·have ih := zu (p := p) (l := l) (f := f) (b := b) ha n (s + 1) (by omega) (by omega)
   split
   ·rw [FQ]
    split
    ·rw [DF]
     rw [show (decide (a = (p : Int)) && decide (b = (s : Int))) = false by simp; omega]
     exact ih
    · exact ih
   · exact ih
theorem Uc {p : Nat} {l : List UInt8} : ∀ (n s : Nat), ∀ x ∈ QQ p l s n, x.p = p
 | 0, s, x, hx => by simp [QQ] at hx
 | n + 1, s, x, hx => by
  simp only [QQ] at hx
  split at hx
  ·rcases HH.1 hx with rfl | hx
   · rfl
   · exact Uc n _ x hx
  · exact Uc n _ x hx
theorem Q06 : ∀ (pages : List (List UInt8)) (p : Nat) (a b : Int), (p : Int) <= a -> mvF (QZ (Qh p pages)) a b = (Qg pages (a - p) b).bind fun c => if c.flag = 2 then some c.row else none
 | [], p, a, b, hp => by
  unfold Qg;rw [if_neg (by simp only [List.length_nil]; omega)]
  simp [mvF, QZ, Qh]
 | l :: r, p, a, b, hp => by
  unfold mvF QZ;rw [Qh, List.filter_append, List.find?_append]
  by_cases ha : a = p
  ·have h1 : ((Qh (p + 1) r).filter fun x => x.c.flag == 2).find? (fun x => decide (a = (x.p : Int)) && decide (b = (x.s : Int))) = none := by
    rw [Dd];intro x hx;have : ∀ (r : List (List UInt8)) (q : Nat), ∀ x ∈ Qh q r, q <= x.p := by
     intro r
     induction r with
     | nil => intro q x hx; simp [Qh] at hx
     | cons l r ih =>
      intro q x hx;rw [Qh] at hx
      rcases List.mem_append.1 hx with hx | hx
      · rw [Uc _ _ x hx]; omega
      · have := ih (q + 1) x hx; omega
    have := this r (p + 1) x (FJ.1 hx).1;simp; omega
   unfold Qg;rw [h1, Option.or_none, if_pos (by simp; omega), show (a - (p : Int)).toNat = 0 by omega]
   simp only [HP]
   by_cases hb : 0 <= b
   ·rw [zu (p := p) (l := l) (f := fun _ => true) ha (cnt l) 0 (by omega) (by omega)]
    by_cases hh : Z7 l b = true
    ·by_cases hf : (QS (Qm l b.toNat)).flag = 2
     · simp [hh, hf]
     · simp [hh, hf]
    · simp [hh]
   ·have hh : ¬ Z7 l b = true := fun h => by
     obtain ⟨k, h1, _⟩ := J6 h;omega
    rw [if_neg hh];simp only [Option.bind_none, Option.map_eq_none_iff, Dd];intro x hx;simp; omega
  ·have h1 : ((QQ p l 0 (cnt l)).filter fun x => x.c.flag == 2).find? (fun x => decide (a = (x.p : Int)) && decide (b = (x.s : Int))) = none := by
    rw [Dd];intro x hx;have := Uc _ _ x (FJ.1 hx).1;rw [this];simp [ha]
   rw [h1, Option.none_or];have ih := Q06 r (p + 1) a b (by omega)
   unfold mvF QZ at ih;rw [ih];unfold Qg;simp only [HM]
   by_cases h2 : 0 <= a - ((p + 1 : Nat) : Int) /\ a - ((p + 1 : Nat) : Int) < r.length
   · rw [if_pos h2, if_pos (by omega), show (a - (p : Int)).toNat = (a - ((p + 1 : Nat) : Int)).toNat + 1 by omega, List.getElem?_cons_succ]
   · rw [if_neg h2, if_neg (by omega)]
end Vm
namespace Vm
open Go Go.Sort
theorem Q0P {b n a e i0 : Nat} (hn : n <= 100000) (hi0 : i0 < n) : ∀ (j : Nat) (h : H) (d : Array SeenD), Hs h b d -> n = d.size -> j < n ->
  ∃ h', Lp.Qf 2 [sv b 0 n, iv Ly (a : Nat), iv Ly (e : Nat), .s (.fn Fn.Q0 []), iv Ly (i0 : Nat), iv Ly (j : Nat)] h = some (.done [sv b 0 n, iv Ly (a : Nat), iv Ly (e : Nat), .s (.fn Fn.Q0 []), iv Ly (i0 : Nat)] h') /\ Hs h' b (insInner ltS a j d) /\ Oth b h h' := by
 intro j
 induction j with
 | zero =>
  intro h d hs hd hj;rw [K7, Q1, if_neg (by simp), Qu]
  unfold Jn.QD;rw [Q1, if_neg (by simp), Q6]
  exact ⟨h, rfl, hs, Oth.refl _ _⟩
 | succ j ih =>
  intro h d hs hd hj;have stop : ∀ {g1 g2 g3 g4 g5 g6 g7 g8 g9 g10 g11 g12 : V}, Jn.QD true g1 g2 g3 g4 g5 g6 g7 g8 g9 g10 g11 g12 false (sv b 0 n) ((j + 1 : Nat) : Int) h a e i0 = some (.done [sv b 0 n, iv Ly (a : Nat), iv Ly (e : Nat), .s (.fn Fn.Q0 []), iv Ly (i0 : Nat)] h) := by
   intros
   unfold Jn.QD;rw [Q1, if_neg (by simp), Q6]
  rw [K7, Q1]
  by_cases ha : j + 1 > a
  case neg =>
   rw [if_neg (by simp; omega), Qu]
   unfold Jn.QD;rw [Q1, if_neg (by simp), Q6]
   refine ⟨h, rfl, ?_, Oth.refl _ _⟩;unfold insInner;rw [if_neg (by simp [ha])]; exact hs
  rw [if_pos (by simp; omega), hs.ldG hd (by omega), w64 (n := ((j + 1 : Nat) : Int) - 1) (by omega) (by omega), show ((j + 1 : Nat) : Int) - 1 = (j : Int) from by omega, hs.ldG hd (by omega), pc (Kz d[j + 1]! d[j]!) rfl]
  simp only [Q3, Q2, Qu];rw [KA];unfold insInner
  by_cases hl : ltS d[j + 1]! d[j]! = true
  case neg =>
   have hl' : ltS d[j + 1]! d[j]! = false := by simpa using hl
   rw [hl', if_neg (by simp)]
   unfold Jn.QD;rw [Q1, if_neg (by simp), Q6]
   exact ⟨h, rfl, hs, Oth.refl _ _⟩
  rw [hl, if_pos (by simp; omega)]
  unfold Jn.QD;rw [Q1, if_pos rfl, w64 (n := ((j + 1 : Nat) : Int) - 1) (by omega) (by omega), show ((j + 1 : Nat) : Int) - 1 = (j : Int) from by omega, hs.ldG hd (by omega), hs.ldG hd (by omega)]
  obtain ⟨h', e1, w1, o1⟩ := hs.st2 (x := d[j]!) (y := d[j + 1]!) hd (i := j + 1) (j := j) (by omega) (by omega)
  rw [e1, o1.tidy hs.n];obtain ⟨h2, e2, w2, o2⟩ := ih h' (swp d (j + 1) j) w1 (by simpa [swp] using hd) (by omega)
  exact ⟨h2, e2, w2, o1.trans o2⟩
theorem Nt (a : Nat) : ∀ (j : Nat) (d : Array SeenD), (insInner ltS a j d).size = d.size
 | 0, d => rfl
 | j + 1, d => by
  unfold insInner
  split
  · rw [Nt a j]; simp [swp]
  · rfl
theorem Q1X {b n a e : Nat} (hn : n <= 100000) (he : e <= n) : ∀ (k i : Nat) (h : H) (d : Array SeenD), e - i = k -> i <= n + 1 -> Hs h b d -> n = d.size ->
  ∃ h', Lp.Qf 0 [sv b 0 n, iv Ly (a : Nat), iv Ly (e : Nat), .s (.fn Fn.Q0 []), iv Ly (i : Nat)] h = some (.done [] h') /\ Hs h' b (insOuter ltS a e i d) /\ Oth b h h' := by
 intro k
 induction k with
 | zero =>
  intro i h d hi hin hs hd;rw [X6, Q1, if_neg (by simp; omega), Q6]
  unfold insOuter;rw [if_neg (by omega)]
  exact ⟨h, rfl, hs, Oth.refl _ _⟩
 | succ k ih =>
  intro i h d hi hin hs hd;rw [X6, Q1, if_pos (by simp; omega)]
  obtain ⟨h1, e1, w1, o1⟩ := Q0P (b := b) (n := n) (a := a) (e := e) (i0 := i) hn (by omega) i h d hs hd (by omega)
  rw [e1, ob, Qc];simp only [gx0, gx1, ob, Q3, Q2];rw [o1.tidy hs.n, w64 (n := (i : Int) + 1) (by omega) (by omega), show (i : Int) + 1 = ((i + 1 : Nat) : Int) from by omega]
  obtain ⟨h2, e2, w2, o2⟩ := ih (i + 1) h1 _ (by omega) (by omega) w1 (by rw [Nt]; exact hd)
  refine ⟨h2, e2, ?_, o1.trans o2⟩;unfold insOuter;rw [if_pos (by omega)]; exact w2
theorem xa {b n a e : Nat} {h : H} {d : Array SeenD} (hs : Hs h b d) (hd : n = d.size) (hn : n <= 100000) (he : e <= n) (ha : a <= n) :
  ∃ h', call Ev Fn.Qf [sv b 0 n, iv Ly (a : Nat), iv Ly (e : Nat), .s (.fn Fn.Q0 [])] h = some (.tup [], h') /\ Hs h' b (insertionSort ltS d a e) /\ Oth b h h' := by
 rw [Ko, w64 (n := (a : Int) + 1) (by omega) (by omega), show (a : Int) + 1 = ((a + 1 : Nat) : Int) from by omega]
 obtain ⟨h', e1, w1, o1⟩ := Q1X (b := b) (a := a) hn he (e - (a + 1)) (a + 1) h d rfl (by omega) hs hd
 rw [e1, ob, Qc];exact ⟨h', rfl, w1, o1⟩
end Vm
namespace Vm
open Go Go.Sort
theorem Q1w {b n first root c : Nat} {hi : Int} {h : H} {d : Array SeenD} (hn : n <= 100000) (hs : Hs h b d) (hd : n = d.size) (h1 : first + root < n) (h2 : first + c < n) :
  ∃ h', Hs h' b (swp d (first + root) (first + c)) /\ Oth b h h' /\ Jn.Zo (c : Int) (sv b 0 n) (first : Int) (root : Int) h hi =
   if ltS d[first + root]! d[first + c]! = true then Lp.Qs 0 [sv b 0 n, iv Ly hi, iv Ly (first : Int), .s (.fn Fn.Q0 []), iv Ly (c : Int)] h' else some (.ret (.tup []) h) := by
 obtain ⟨h', e1, w1, o1⟩ := hs.st2 (x := d[first + c]!) (y := d[first + root]!) hd (i := first + root) (j := first + c) (by omega) (by omega)
 refine ⟨h', w1, o1, ?_⟩;unfold Jn.Zo;rw [w64 (n := (first : Int) + (root : Int)) (by omega) (by omega), w64 (n := (first : Int) + (c : Int)) (by omega) (by omega), show (first : Int) + (root : Int) = ((first + root : Nat) : Int) from by omega, show (first : Int) + (c : Int) = ((first + c : Nat) : Int) from by omega]
 rw [hs.ldG hd (by omega), hs.ldG hd (by omega), pc (Kz d[first + root]! d[first + c]!) rfl]
 simp only [Q3, Q2, Qu];rw [KA, Q1]
 by_cases hl : ltS d[first + root]! d[first + c]! = true
 · rw [if_pos hl, if_neg (by simp [hl]), hs.ldG hd (by omega), hs.ldG hd (by omega), e1, o1.tidy hs.n]
 · rw [if_neg hl, if_pos (by simpa using hl)]
theorem Q0O {b n first hi : Nat} (hn : n <= 100000) (hf : first + hi <= n) : ∀ (k root : Nat) (h : H) (d : Array SeenD), hi - root <= k -> root <= n -> Hs h b d -> n = d.size ->
  ∃ h' o, Lp.Qs 0 [sv b 0 n, iv Ly (hi : Nat), iv Ly (first : Nat), .s (.fn Fn.Q0 []), iv Ly (root : Nat)] h = some o /\ (o = .done [] h' \/ o = .ret (.tup []) h') /\ Hs h' b (siftDown ltS hi first root d) /\ Oth b h h' := by
 intro k
 induction k with
 | zero =>
  intro root h d hk hr hs hd;rw [Kv, w64 (n := 2 * (root : Int)) (by omega) (by omega), w64 (n := 2 * (root : Int) + 1) (by omega) (by omega), Q1, if_pos (by simp; omega), Q6]
  rw [siftDown, dif_pos (by omega)]
  exact ⟨h, _, rfl, .inl rfl, hs, Oth.refl _ _⟩
 | succ k ih =>
  intro root h d hk hr hs hd;rw [Kv, w64 (n := 2 * (root : Int)) (by omega) (by omega), w64 (n := 2 * (root : Int) + 1) (by omega) (by omega), Q1, siftDown]
  by_cases h1 : 2 * root + 1 >= hi
  ·rw [if_pos (by simp; omega), Q6, dif_pos h1]
   exact ⟨h, _, rfl, .inl rfl, hs, Oth.refl _ _⟩
  rw [if_neg (by simp; omega), dif_neg h1, Q1, w64 (n := 2 * (root : Int) + 1 + 1) (by omega) (by omega)]
  have go : ∀ c : Nat, root < c -> c < hi -> ∃ h' o, Jn.Zo (c : Int) (sv b 0 n) (first : Int) (root : Int) h (hi : Int) = some o /\ (o = .done [] h' \/ o = .ret (.tup []) h') /\ Hs h' b (if (!ltS d[first + root]! d[first + c]!) = true then d else siftDown ltS hi first c (swp d (first + root) (first + c))) /\ Oth b h h' := fun c hc1 hc2 => by
   obtain ⟨h', w1, o1, e1⟩ := Q1w (hi := (hi : Int)) hn hs hd (first := first) (root := root) (c := c) (by omega) (by omega)
   rw [e1]
   by_cases hl : ltS d[first + root]! d[first + c]! = true
   ·rw [if_pos hl, if_neg (by simp [hl])]
    obtain ⟨h2, o, e2, f2, w2, o2⟩ := ih c h' _ (by omega) (by omega) w1 (by simpa [swp] using hd)
    exact ⟨h2, o, e2, f2, w2, o1.trans o2⟩
   ·rw [if_neg hl, if_pos (by simpa using hl)]
    exact ⟨h, _, rfl, .inr rfl, hs, Oth.refl _ _⟩
  have g1 := go (2 * root + 1) (by omega) (by omega)
  rw [show 2 * (root : Int) + 1 + 1 = ((2 * root + 2 : Nat) : Int) from by omega, show 2 * (root : Int) + 1 = ((2 * root + 1 : Nat) : Int) from by omega]
  by_cases h2 : 2 * root + 1 + 1 < hi
  case neg =>
   rw [if_neg (by simp; omega), if_neg (by simp [h2]), Qu]
   unfold Jn.ZN;rw [Q1, if_neg (by simp), w64 (n := 2 * (root : Int)) (by omega) (by omega), w64 (n := 2 * (root : Int) + 1) (by omega) (by omega), show 2 * (root : Int) + 1 = ((2 * root + 1 : Nat) : Int) from by omega]
   exact g1
  have g2 := go (2 * root + 2) (by omega) (by omega)
  rw [if_pos (by simp; omega), w64 (n := (first : Int) + ((2 * root + 1 : Nat) : Int)) (by omega) (by omega), show (first : Int) + ((2 * root + 1 : Nat) : Int) = ((first + (2 * root + 1) : Nat) : Int) from by omega,
   w64 (n := ((first + (2 * root + 1) : Nat) : Int) + 1) (by omega) (by omega), show ((first + (2 * root + 1) : Nat) : Int) + 1 = ((first + (2 * root + 1) + 1 : Nat) : Int) from by omega, hs.ldG hd (by omega), hs.ldG hd (by omega), pc (Kz d[first + (2 * root + 1)]! d[first + (2 * root + 1) + 1]!) rfl]
  simp only [Q3, Q2, Qu];rw [KA];unfold Jn.ZN;rw [Q1, w64 (n := 2 * (root : Int)) (by omega) (by omega), w64 (n := 2 * (root : Int) + 1) (by omega) (by omega), w64 (n := 2 * (root : Int) + 1 + 1) (by omega) (by omega), show 2 * (root : Int) + 1 + 1 = ((2 * root + 2 : Nat) : Int) from by omega, show 2 * (root : Int) + 1 = ((2 * root + 1 : Nat) : Int) from by omega]
  by_cases hl : ltS d[first + (2 * root + 1)]! d[first + (2 * root + 1) + 1]! = true
  ·rw [if_pos hl, if_pos (by simp [hl]; omega), dif_pos (show 2 * root + 2 < hi by omega)]
   exact g2
  ·rw [if_neg hl, if_neg (by simp [hl])]
   exact g1
theorem jW {b n first hi root : Nat} {h : H} {d : Array SeenD} (hs : Hs h b d) (hd : n = d.size) (hn : n <= 100000) (hf : first + hi <= n) (hr : root <= n) :
  ∃ h', call Ev Fn.Qs [sv b 0 n, iv Ly (root : Nat), iv Ly (hi : Nat), iv Ly (first : Nat), .s (.fn Fn.Q0 [])] h = some (.tup [], h') /\ Hs h' b (siftDown ltS hi first root d) /\ Oth b h h' := by
 rw [YO];obtain ⟨h', o, e1, f1, w1, o1⟩ := Q0O (b := b) hn hf (hi - root) root h d (Hx _) hr hs hd;rw [e1, ob]
 rcases f1 with rfl | rfl
 · exact ⟨h', rfl, w1, o1⟩
 · exact ⟨h', rfl, w1, o1⟩
theorem Wl (hi first : Nat) : ∀ (k root : Nat) (d : Array SeenD), hi - root <= k -> (siftDown ltS hi first root d).size = d.size
 | 0, root, d, hk => by rw [siftDown, dif_pos (by omega)]
 | k + 1, root, d, hk => by
  rw [siftDown]
  split
  · rfl
  split
  ·split
   · rfl
   ·split
    · rw [Wl hi first k _ _ (by omega)]; simp [swp]
    · rfl
  ·split
   · rfl
   · rw [Wl hi first k _ _ (by omega)]; simp [swp]
end Vm
namespace Vm
open Go Go.Sort
theorem Uo {t : Nat} {a b : Int} (ha : 0 <= a) (hb : 0 < b) (h : a < 9223372036854775808) : bin Ev .quo t (iv Ly a) (iv Ly b) = some (iv Ly (a / b)) := by
 have h1 : a / b <= a := Int.ediv_le_self _ ha;have h2 : 0 <= a / b := Int.ediv_nonneg ha (by omega)
 simp only [bin, Ns, if_true];rw [if_neg (by omega), Int.tdiv_eq_ediv_of_nonneg ha, w64 (by omega) (by omega)]
theorem u4 {b n first hi : Nat} (hn : n <= 100000) (hf : first + hi <= n) : ∀ (k : Nat) (h : H) (d : Array SeenD), k <= n -> Hs h b d -> n = d.size ->
  ∃ h', Lp.Qk 0 [sv b 0 n, .s (.fn Fn.Q0 []), iv Ly (first : Nat), iv Ly 0, iv Ly (hi : Nat), iv Ly ((k : Int) - 1)] h = some (.done [sv b 0 n, .s (.fn Fn.Q0 []), iv Ly (first : Nat), iv Ly 0, iv Ly (hi : Nat)] h') /\ Hs h' b (heapBuild ltS hi first k d) /\ Oth b h h' := by
 intro k
 induction k with
 | zero =>
  intro h d hk hs hd;rw [Kx, Q1, if_neg (by simp), Q6]
  exact ⟨h, rfl, hs, Oth.refl _ _⟩
 | succ k ih =>
  intro h d hk hs hd;rw [Kx, Q1, if_pos (by simp), show ((k + 1 : Nat) : Int) - 1 = (k : Int) from by omega]
  obtain ⟨h1, e1, w1, o1⟩ := jW (b := b) (first := first) (hi := hi) (root := k) hs hd hn hf (by omega)
  rw [e1, ob];dsimp only;rw [o1.tidy hs.n, o1.tidy hs.n, w64 (n := (k : Int) - 1) (by omega) (by omega)]
  obtain ⟨h2, e2, w2, o2⟩ := ih h1 _ (by omega) w1 (by rw [Wl _ _ (hi - k) _ _ (Hx _)]; exact hd)
  exact ⟨h2, e2, w2, o1.trans o2⟩
theorem VJ (hi first : Nat) : ∀ (k : Nat) (d : Array SeenD), (heapBuild ltS hi first k d).size = d.size
 | 0, d => rfl
 | k + 1, d => by
  show (heapBuild ltS hi first k (siftDown ltS hi first k d)).size = d.size
  rw [VJ hi first k, Wl _ _ (hi - k) _ _ (Hx _)]
theorem vZ {b n first : Nat} (hn : n <= 100000) : ∀ (k : Nat) (h : H) (d : Array SeenD), first + k <= n -> Hs h b d -> n = d.size ->
  ∃ h', Lp.Qk 2 [sv b 0 n, .s (.fn Fn.Q0 []), iv Ly (first : Nat), iv Ly 0, iv Ly ((k : Int) - 1)] h = some (.done [] h') /\ Hs h' b (heapPop ltS first k d) /\ Oth b h h' := by
 intro k
 induction k with
 | zero =>
  intro h d hk hs hd;rw [Kw, Q1, if_neg (by simp), Q6]
  exact ⟨h, rfl, hs, Oth.refl _ _⟩
 | succ k ih =>
  intro h d hk hs hd;rw [Kw, Q1, if_pos (by simp), show ((k + 1 : Nat) : Int) - 1 = (k : Int) from by omega]
  rw [w64 (n := (first : Int) + (k : Int)) (by omega) (by omega), show (first : Int) + (k : Int) = ((first + k : Nat) : Int) from by omega, hs.ldG hd (by omega), hs.ldG hd (by omega)]
  obtain ⟨h1, e1, w1, o1⟩ := hs.st2 (x := d[first + k]!) (y := d[first]!) hd (i := first) (j := first + k) (by omega) (by omega)
  rw [e1];have hd1 : n = (swp d first (first + k)).size := by simpa [swp] using hd
  obtain ⟨h2, e2, w2, o2⟩ := jW (b := b) (first := first) (hi := k) (root := 0) (d := swp d first (first + k)) w1 hd1 hn (by omega) (by omega)
  have e2' : call Ev Fn.Qs [sv b 0 n, iv Ly 0, iv Ly (k : Nat), iv Ly (first : Nat), .s (.fn Fn.Q0 [])] h1 = some (.tup [], h2) := e2
  rw [e2', ob];dsimp only;rw [o2.tidy w1.n, (o1.trans o2).tidy hs.n, w64 (n := (k : Int) - 1) (by omega) (by omega)]
  obtain ⟨h3, e3, w3, o3⟩ := ih h2 _ (by omega) w2 (by rw [Wl _ _ (k - 0) _ _ (Hx _)]; exact hd1)
  exact ⟨h3, e3, w3, (o1.trans o2).trans o3⟩
theorem Q1C {b n a e : Nat} {h : H} {d : Array SeenD} (hs : Hs h b d) (hd : n = d.size) (hn : n <= 100000) (he : e <= n) (ha : a < e) :
  ∃ h', call Ev Fn.Qk [sv b 0 n, iv Ly (a : Nat), iv Ly (e : Nat), .s (.fn Fn.Q0 [])] h = some (.tup [], h') /\ Hs h' b (heapSort ltS d a e) /\ Oth b h h' := by
 rw [YP, w64 (n := (e : Int) - (a : Int)) (by omega) (by omega), w64 (n := (e : Int) - (a : Int) - 1) (by omega) (by omega), Uo (by omega) (by omega) (by omega), ob]
 simp only [Q3, Q2];rw [show ((e : Int) - (a : Int) - 1) / 2 = ((((e - a - 1) / 2 + 1 : Nat) : Int) - 1) from by omega, show (e : Int) - (a : Int) = ((e - a : Nat) : Int) from by omega]
 obtain ⟨h1, e1, w1, o1⟩ := u4 (b := b) (n := n) (first := a) (hi := e - a) hn (by omega) ((e - a - 1) / 2 + 1) h d (by omega) hs hd
 rw [e1, ob, Qc];simp only [gx0, gx1, ob, Q3, Q2];rw [w64 (n := ((e - a : Nat) : Int) - 1) (by omega) (by omega)]
 obtain ⟨h2, e2, w2, o2⟩ := vZ (b := b) (n := n) (first := a) hn (e - a) h1 _ (by omega) w1 (by rw [VJ]; exact hd)
 rw [e2, ob, Qc];exact ⟨h2, rfl, w2, o1.trans o2⟩
theorem Q1O {b n : Nat} (hn : n <= 100000) : ∀ (k i j : Nat) (h : H) (d : Array SeenD), j - i <= k -> i <= n -> j < n -> Hs h b d -> n = d.size ->
  ∃ h', Lp.Qx 0 [sv b 0 n, iv Ly (i : Nat), iv Ly (j : Nat)] h = some (.done [] h') /\ Hs h' b (reverseLoop i j d) /\ Oth b h h' := by
 intro k
 induction k with
 | zero =>
  intro i j h d hk hi hj hs hd;rw [Kc, Q1, if_neg (by simp; omega), Q6, reverseLoop, if_neg (by omega)]
  exact ⟨h, rfl, hs, Oth.refl _ _⟩
 | succ k ih =>
  intro i j h d hk hi hj hs hd;rw [Kc, Q1, reverseLoop]
  by_cases hij : i < j
  case neg =>
   rw [if_neg (by simp; omega), Q6, if_neg hij]
   exact ⟨h, rfl, hs, Oth.refl _ _⟩
  rw [if_pos (by simp; omega), if_pos hij, hs.ldG hd (by omega), hs.ldG hd (by omega)]
  obtain ⟨h1, e1, w1, o1⟩ := hs.st2 (x := d[j]!) (y := d[i]!) hd (i := i) (j := j) (by omega) (by omega)
  rw [e1, o1.tidy hs.n, w64 (n := (i : Int) + 1) (by omega) (by omega), w64 (n := (j : Int) - 1) (by omega) (by omega), show (i : Int) + 1 = ((i + 1 : Nat) : Int) from by omega, show (j : Int) - 1 = ((j - 1 : Nat) : Int) from by omega]
  obtain ⟨h2, e2, w2, o2⟩ := ih (i + 1) (j - 1) h1 _ (by omega) (by omega) (by omega) w1 (by simpa [swp] using hd)
  exact ⟨h2, e2, w2, o1.trans o2⟩
theorem jY {b n a e : Nat} {h : H} {d : Array SeenD} (hs : Hs h b d) (hd : n = d.size) (hn : n <= 100000) (he : e <= n) (ha : a < e) :
  ∃ h', call Ev Fn.Qx [sv b 0 n, iv Ly (a : Nat), iv Ly (e : Nat), .s (.fn Fn.Q0 [])] h = some (.tup [], h') /\ Hs h' b (reverseRange d a e) /\ Oth b h h' := by
 rw [Y2, w64 (n := (e : Int) - 1) (by omega) (by omega), show (e : Int) - 1 = ((e - 1 : Nat) : Int) from by omega]
 obtain ⟨h1, e1, w1, o1⟩ := Q1O (b := b) hn (e - 1 - a) a (e - 1) h d (Hx _) (by omega) (by omega) hs hd
 rw [e1, ob, Qc];exact ⟨h1, rfl, w1, o1⟩
end Vm
namespace Vm
open Go Go.Sort
theorem MU {p : SeenD -> Bool} {d : Array SeenD} {j N : Nat} (L : Nat -> Option LOut) (O : Nat -> LOut) (hj : j <= N) (hL : ∀ i, i <= N + 1 -> L i = if i <= j /\ p d[i]! = true then L (i + 1) else some (O i)) : ∀ (k i : Nat), j + 1 - i <= k -> i <= N + 1 -> L i = some (O (scanUp p d j i))
 | 0, i, hk, hi => by
  rw [hL i hi, if_neg (by omega), scanUp, if_neg (by simp; omega)]
 | k + 1, i, hk, hi => by
  rw [hL i hi, scanUp]
  by_cases h : i <= j /\ p d[i]! = true
  ·rw [if_pos h, if_pos (by simp [h.1, h.2])]
   exact MU L O hj hL k (i + 1) (by omega) (by omega)
  · rw [if_neg h, if_neg (by simpa using h)]
theorem G6 {p : SeenD -> Bool} {d : Array SeenD} {i n : Nat} (L : Nat -> Option LOut) (O : Nat -> LOut) (hi : 1 <= i) (hL : ∀ j, j < n -> L j = if i <= j /\ p d[j]! = true then L (j - 1) else some (O j)) : ∀ (j : Nat), j < n -> L j = some (O (scanDown p d i j))
 | 0, hj => by
  rw [hL 0 hj, if_neg (by omega)]; rfl
 | j + 1, hj => by
  rw [hL (j + 1) hj];unfold scanDown
  by_cases h : i <= j + 1 /\ p d[j + 1]! = true
  ·rw [if_pos h, if_pos (by simp [h.1, h.2])]
   exact G6 L O hi hL j (by omega)
  · rw [if_neg h, if_neg (by simpa using h)]
theorem Q1R {b n a i j : Nat} {h : H} {d : Array SeenD} (hn : n <= 100000) (hs : Hs h b d) (hd : n = d.size) (ha : a < n) (hj : j < n) (hi : i <= n + 1) :
  Lp.Q5 0 [sv b 0 n, iv Ly (a : Nat), .s (.fn Fn.Q0 []), iv Ly (i : Nat), iv Ly (j : Nat)] h = some (.done [sv b 0 n, iv Ly (a : Nat), .s (.fn Fn.Q0 []), iv Ly ((scanUp (fun x => ltS x d[a]!) d j i : Nat) : Int), iv Ly (j : Nat)] h) := by
 refine MU (p := (fun x => ltS x d[a]!)) (d := d) (j := j) (N := n) (fun i => Lp.Q5 0 [sv b 0 n, iv Ly (a : Nat), .s (.fn Fn.Q0 []), iv Ly (i : Nat), iv Ly (j : Nat)] h) (fun i => .done [sv b 0 n, iv Ly (a : Nat), .s (.fn Fn.Q0 []), iv Ly (i : Nat), iv Ly (j : Nat)] h) (by omega) ?_ (j + 1 - i) i (Hx _) hi
 intro i hi;show Lp.Q5 0 [sv b 0 n, iv Ly (a : Nat), .s (.fn Fn.Q0 []), iv Ly (i : Nat), iv Ly (j : Nat)] h = _;rw [Y6, Q1]
 by_cases hij : i <= j
 case neg =>
  rw [if_neg (by simp; omega), if_neg (fun hh => hij hh.1), Qu, Q6]
 rw [if_pos (by simp; omega), hs.ldG hd (by omega), hs.ldG hd (by omega), pc (Kz d[i]! d[a]!) rfl]
 simp only [Q3, Q2, Qu];rw [KA, Q1, Q6, Q6]
 cases hl : ltS d[i]! d[a]!
 · rw [if_neg (by simp), if_neg (by simp)]
 · rw [if_pos (by simp), if_pos ⟨hij, by simp [hl]⟩, w64 (n := (i : Int) + 1) (by omega) (by omega), show (i : Int) + 1 = ((i + 1 : Nat) : Int) from by omega]
theorem Q1Q {b n a i j : Nat} {h : H} {d : Array SeenD} (hn : n <= 100000) (hs : Hs h b d) (hd : n = d.size) (ha : a < n) (hi : 1 <= i) (hin : i <= n + 1) (hj : j < n) :
  Lp.Q5 2 [sv b 0 n, iv Ly (a : Nat), .s (.fn Fn.Q0 []), iv Ly (i : Nat), iv Ly (j : Nat)] h = some (.done [sv b 0 n, iv Ly (a : Nat), .s (.fn Fn.Q0 []), iv Ly (i : Nat), iv Ly ((scanDown (fun x => !ltS x d[a]!) d i j : Nat) : Int)] h) := by
 refine G6 (p := (fun x => !ltS x d[a]!)) (d := d) (i := i) (n := n) (fun j => Lp.Q5 2 [sv b 0 n, iv Ly (a : Nat), .s (.fn Fn.Q0 []), iv Ly (i : Nat), iv Ly (j : Nat)] h) (fun j => .done [sv b 0 n, iv Ly (a : Nat), .s (.fn Fn.Q0 []), iv Ly (i : Nat), iv Ly (j : Nat)] h) hi ?_ j hj
 intro j hj;show Lp.Q5 2 [sv b 0 n, iv Ly (a : Nat), .s (.fn Fn.Q0 []), iv Ly (i : Nat), iv Ly (j : Nat)] h = _;rw [Y5, Q1]
 by_cases hij : i <= j
 case neg =>
  rw [if_neg (by simp; omega), if_neg (fun hh => hij hh.1), Qu, Q6]
 rw [if_pos (by simp; omega), hs.ldG hd (by omega), hs.ldG hd (by omega), pc (Kz d[j]! d[a]!) rfl]
 simp only [Q3, Q2, Qu];rw [KA, Q1, Q6, Q6]
 cases hl : ltS d[j]! d[a]!
 · rw [if_pos (by simp), if_pos ⟨hij, by simp [hl]⟩, w64 (n := (j : Int) - 1) (by omega) (by omega), show (j : Int) - 1 = ((j - 1 : Nat) : Int) from by omega]
 · rw [if_neg (by simp), if_neg (by simp)]
theorem yB {b n a i j : Nat} {h : H} {d : Array SeenD} (hn : n <= 100000) (hs : Hs h b d) (hd : n = d.size) (ha : a < n) (hj : j < n) (hi : i <= n + 1) :
  Lp.Q5 6 [sv b 0 n, iv Ly (a : Nat), .s (.fn Fn.Q0 []), iv Ly (i : Nat), iv Ly (j : Nat)] h = some (.done [sv b 0 n, iv Ly (a : Nat), .s (.fn Fn.Q0 []), iv Ly ((scanUp (fun x => ltS x d[a]!) d j i : Nat) : Int), iv Ly (j : Nat)] h) := by
 refine MU (p := (fun x => ltS x d[a]!)) (d := d) (j := j) (N := n) (fun i => Lp.Q5 6 [sv b 0 n, iv Ly (a : Nat), .s (.fn Fn.Q0 []), iv Ly (i : Nat), iv Ly (j : Nat)] h) (fun i => .done [sv b 0 n, iv Ly (a : Nat), .s (.fn Fn.Q0 []), iv Ly (i : Nat), iv Ly (j : Nat)] h) (by omega) ?_ (j + 1 - i) i (Hx _) hi
 intro i hi;show Lp.Q5 6 [sv b 0 n, iv Ly (a : Nat), .s (.fn Fn.Q0 []), iv Ly (i : Nat), iv Ly (j : Nat)] h = _;rw [Y4, Q1]
 by_cases hij : i <= j
 case neg =>
  rw [if_neg (by simp; omega), if_neg (fun hh => hij hh.1), Qu, Q6]
 rw [if_pos (by simp; omega), hs.ldG hd (by omega), hs.ldG hd (by omega), pc (Kz d[i]! d[a]!) rfl]
 simp only [Q3, Q2, Qu];rw [KA, Q1, Q6, Q6]
 cases hl : ltS d[i]! d[a]!
 · rw [if_neg (by simp), if_neg (by simp)]
 · rw [if_pos (by simp), if_pos ⟨hij, by simp [hl]⟩, w64 (n := (i : Int) + 1) (by omega) (by omega), show (i : Int) + 1 = ((i + 1 : Nat) : Int) from by omega]
theorem yA {b n a i j : Nat} {h : H} {d : Array SeenD} (hn : n <= 100000) (hs : Hs h b d) (hd : n = d.size) (ha : a < n) (hi : 1 <= i) (hin : i <= n + 1) (hj : j < n) :
  Lp.Q5 8 [sv b 0 n, iv Ly (a : Nat), .s (.fn Fn.Q0 []), iv Ly (i : Nat), iv Ly (j : Nat)] h = some (.done [sv b 0 n, iv Ly (a : Nat), .s (.fn Fn.Q0 []), iv Ly (i : Nat), iv Ly ((scanDown (fun x => !ltS x d[a]!) d i j : Nat) : Int)] h) := by
 refine G6 (p := (fun x => !ltS x d[a]!)) (d := d) (i := i) (n := n) (fun j => Lp.Q5 8 [sv b 0 n, iv Ly (a : Nat), .s (.fn Fn.Q0 []), iv Ly (i : Nat), iv Ly (j : Nat)] h) (fun j => .done [sv b 0 n, iv Ly (a : Nat), .s (.fn Fn.Q0 []), iv Ly (i : Nat), iv Ly (j : Nat)] h) hi ?_ j hj
 intro j hj;show Lp.Q5 8 [sv b 0 n, iv Ly (a : Nat), .s (.fn Fn.Q0 []), iv Ly (i : Nat), iv Ly (j : Nat)] h = _;rw [Y3, Q1]
 by_cases hij : i <= j
 case neg =>
  rw [if_neg (by simp; omega), if_neg (fun hh => hij hh.1), Qu, Q6]
 rw [if_pos (by simp; omega), hs.ldG hd (by omega), hs.ldG hd (by omega), pc (Kz d[j]! d[a]!) rfl]
 simp only [Q3, Q2, Qu];rw [KA, Q1, Q6, Q6]
 cases hl : ltS d[j]! d[a]!
 · rw [if_pos (by simp), if_pos ⟨hij, by simp [hl]⟩, w64 (n := (j : Int) - 1) (by omega) (by omega), show (j : Int) - 1 = ((j - 1 : Nat) : Int) from by omega]
 · rw [if_neg (by simp), if_neg (by simp)]
theorem yD {b n a i j : Nat} {h : H} {d : Array SeenD} (hn : n <= 100000) (hs : Hs h b d) (hd : n = d.size) (ha : a < n) (hj : j < n) (hi : i <= n + 1) :
  Lp.Q7 2 [sv b 0 n, iv Ly (a : Nat), .s (.fn Fn.Q0 []), iv Ly (i : Nat), iv Ly (j : Nat)] h = some (.done [sv b 0 n, iv Ly (a : Nat), .s (.fn Fn.Q0 []), iv Ly ((scanUp (fun x => !ltS d[a]! x) d j i : Nat) : Int), iv Ly (j : Nat)] h) := by
 refine MU (p := (fun x => !ltS d[a]! x)) (d := d) (j := j) (N := n) (fun i => Lp.Q7 2 [sv b 0 n, iv Ly (a : Nat), .s (.fn Fn.Q0 []), iv Ly (i : Nat), iv Ly (j : Nat)] h) (fun i => .done [sv b 0 n, iv Ly (a : Nat), .s (.fn Fn.Q0 []), iv Ly (i : Nat), iv Ly (j : Nat)] h) (by omega) ?_ (j + 1 - i) i (Hx _) hi
 intro i hi;show Lp.Q7 2 [sv b 0 n, iv Ly (a : Nat), .s (.fn Fn.Q0 []), iv Ly (i : Nat), iv Ly (j : Nat)] h = _;rw [Ju, Q1]
 by_cases hij : i <= j
 case neg =>
  rw [if_neg (by simp; omega), if_neg (fun hh => hij hh.1), Qu, Q6]
 rw [if_pos (by simp; omega), hs.ldG hd (by omega), hs.ldG hd (by omega), pc (Kz d[a]! d[i]!) rfl]
 simp only [Q3, Q2, Qu];rw [KA, Q1, Q6, Q6]
 cases hl : ltS d[a]! d[i]!
 · rw [if_pos (by simp), if_pos ⟨hij, by simp [hl]⟩, w64 (n := (i : Int) + 1) (by omega) (by omega), show (i : Int) + 1 = ((i + 1 : Nat) : Int) from by omega]
 · rw [if_neg (by simp), if_neg (by simp)]
theorem yC {b n a i j : Nat} {h : H} {d : Array SeenD} (hn : n <= 100000) (hs : Hs h b d) (hd : n = d.size) (ha : a < n) (hi : 1 <= i) (hin : i <= n + 1) (hj : j < n) :
  Lp.Q7 4 [sv b 0 n, iv Ly (a : Nat), .s (.fn Fn.Q0 []), iv Ly (i : Nat), iv Ly (j : Nat)] h = some (.done [sv b 0 n, iv Ly (a : Nat), .s (.fn Fn.Q0 []), iv Ly (i : Nat), iv Ly ((scanDown (fun x => ltS d[a]! x) d i j : Nat) : Int)] h) := by
 refine G6 (p := (fun x => ltS d[a]! x)) (d := d) (i := i) (n := n) (fun j => Lp.Q7 4 [sv b 0 n, iv Ly (a : Nat), .s (.fn Fn.Q0 []), iv Ly (i : Nat), iv Ly (j : Nat)] h) (fun j => .done [sv b 0 n, iv Ly (a : Nat), .s (.fn Fn.Q0 []), iv Ly (i : Nat), iv Ly (j : Nat)] h) hi ?_ j hj
 intro j hj;show Lp.Q7 4 [sv b 0 n, iv Ly (a : Nat), .s (.fn Fn.Q0 []), iv Ly (i : Nat), iv Ly (j : Nat)] h = _;rw [Jt, Q1]
 by_cases hij : i <= j
 case neg =>
  rw [if_neg (by simp; omega), if_neg (fun hh => hij hh.1), Qu, Q6]
 rw [if_pos (by simp; omega), hs.ldG hd (by omega), hs.ldG hd (by omega), pc (Kz d[a]! d[j]!) rfl]
 simp only [Q3, Q2, Qu];rw [KA, Q1, Q6, Q6]
 cases hl : ltS d[a]! d[j]!
 · rw [if_neg (by simp), if_neg (by simp)]
 · rw [if_pos (by simp), if_pos ⟨hij, by simp [hl]⟩, w64 (n := (j : Int) - 1) (by omega) (by omega), show (j : Int) - 1 = ((j - 1 : Nat) : Int) from by omega]
theorem Wm (p : SeenD -> Bool) (d : Array SeenD) (j : Nat) : ∀ i : Nat, scanUp p d j i <= i \/ scanUp p d j i <= j + 1 := by
 have : ∀ (k i : Nat), j + 1 - i <= k -> scanUp p d j i <= i \/ scanUp p d j i <= j + 1 := by
  intro k
  induction k with
  | zero => intro i hk; rw [scanUp, if_neg (by simp; omega)]; exact .inl (Hx _)
  | succ k ih =>
   intro i hk;rw [scanUp]
   split
   ·rename_i h
    have hi : i <= j := by simp at h; exact h.1
    rcases ih (i + 1) (by omega) with h1 | h1
    · exact .inr (by omega)
    · exact .inr h1
   · exact .inl (Hx _)
 intro i;exact this _ i (Hx _)
theorem Q1P {b n a : Nat} (hn : n <= 100000) : ∀ (k i j : Nat) (h : H) (d : Array SeenD), j + 1 - i <= k -> a < i -> i <= n + 1 -> j < n -> Hs h b d -> n = d.size -> a < n ->
  ∃ h', Lp.Q5 4 [sv b 0 n, iv Ly (a : Nat), .s (.fn Fn.Q0 []), iv Ly (i : Nat), iv Ly (j : Nat)] h = some (.done [sv b 0 n, iv Ly (a : Nat), iv Ly ((partLoop ltS a i j d).1 : Nat)] h') /\ Hs h' b (partLoop ltS a i j d).2 /\ Oth b h h' := by
 intro k
 induction k with
 | zero =>
  intro i j h d hk hai hi hj hs hd ha;rw [Kt, yB hn hs hd ha hj hi, partLoop_eq, ob, Qc];have u0 := scanUp_ge (fun x => ltS x d[a]!) d j i
  have u1 := Wm (fun x => ltS x d[a]!) d j i
  generalize scanUp (fun x => ltS x d[a]!) d j i = i2 at u0 u1 ⊢
  have hu : i2 <= n + 1 := by omega
  simp only [gx0, gx1, ob, Q3, Q2];rw [yA hn hs hd ha (by omega) hu hj, ob, Qc]
  have v0 := scanDown_le (fun x => !ltS x d[a]!) d i2 j
  generalize scanDown (fun x => !ltS x d[a]!) d i2 j = j2 at v0 ⊢
  simp only [gx0, gx1, ob, Q3, Q2];rw [Q1, if_pos (by simp; omega), if_pos (by omega), Q6]
  exact ⟨h, rfl, hs, Oth.refl _ _⟩
 | succ k ih =>
  intro i j h d hk hai hi hj hs hd ha;rw [Kt, yB hn hs hd ha hj hi, partLoop_eq, ob, Qc];have u0 := scanUp_ge (fun x => ltS x d[a]!) d j i
  have u1 := Wm (fun x => ltS x d[a]!) d j i
  generalize scanUp (fun x => ltS x d[a]!) d j i = i2 at u0 u1 ⊢
  have hu : i2 <= n + 1 := by omega
  simp only [gx0, gx1, ob, Q3, Q2];rw [yA hn hs hd ha (by omega) hu hj, ob, Qc]
  have v0 := scanDown_le (fun x => !ltS x d[a]!) d i2 j
  generalize scanDown (fun x => !ltS x d[a]!) d i2 j = j2 at v0 ⊢
  simp only [gx0, gx1, ob, Q3, Q2];rw [Q1]
  by_cases hij : i2 > j2
  ·rw [if_pos (by simp; omega), if_pos hij, Q6]
   exact ⟨h, rfl, hs, Oth.refl _ _⟩
  rw [if_neg (by simp; omega), if_neg hij, hs.ldG hd (by omega), hs.ldG hd (by omega)]
  obtain ⟨h1, e1, w1, o1⟩ := hs.st2 (x := d[j2]!) (y := d[i2]!) hd (i := i2) (j := j2) (by omega) (by omega)
  rw [e1, o1.tidy hs.n, w64 (n := (i2 : Int) + 1) (by omega) (by omega), w64 (n := (j2 : Int) - 1) (by omega) (by omega), show (i2 : Int) + 1 = ((i2 + 1 : Nat) : Int) from by omega, show (j2 : Int) - 1 = ((j2 - 1 : Nat) : Int) from by omega]
  obtain ⟨h2, e2, w2, o2⟩ := ih (i2 + 1) (j2 - 1) h1 (swp d i2 j2) (by omega) (by omega) (by omega) (by omega) w1 (by simpa [swp] using hd) ha
  exact ⟨h2, e2, w2, o1.trans o2⟩
theorem Q1W {b n a : Nat} (hn : n <= 100000) : ∀ (k i j : Nat) (h : H) (d : Array SeenD), j + 1 - i <= k -> a < i -> i <= n + 1 -> j < n -> Hs h b d -> n = d.size -> a < n ->
  ∃ h', Lp.Q7 0 [sv b 0 n, iv Ly (a : Nat), .s (.fn Fn.Q0 []), iv Ly (i : Nat), iv Ly (j : Nat)] h = some (.done [iv Ly ((partEqLoop ltS a i j d).1 : Nat)] h') /\ Hs h' b (partEqLoop ltS a i j d).2 /\ Oth b h h' := by
 intro k
 induction k with
 | zero =>
  intro i j h d hk hai hi hj hs hd ha;rw [K0, yD hn hs hd ha hj hi, partEqLoop_eq, ob, Qc];have u0 := scanUp_ge (fun x => !ltS d[a]! x) d j i
  have u1 := Wm (fun x => !ltS d[a]! x) d j i
  generalize scanUp (fun x => !ltS d[a]! x) d j i = i2 at u0 u1 ⊢
  have hu : i2 <= n + 1 := by omega
  simp only [gx0, gx1, ob, Q3, Q2];rw [yC hn hs hd ha (by omega) hu hj, ob, Qc]
  have v0 := scanDown_le (fun x => ltS d[a]! x) d i2 j
  generalize scanDown (fun x => ltS d[a]! x) d i2 j = j2 at v0 ⊢
  simp only [gx0, gx1, ob, Q3, Q2];rw [Q1, if_pos (by simp; omega), if_pos (by omega), Q6]
  exact ⟨h, rfl, hs, Oth.refl _ _⟩
 | succ k ih =>
  intro i j h d hk hai hi hj hs hd ha;rw [K0, yD hn hs hd ha hj hi, partEqLoop_eq, ob, Qc];have u0 := scanUp_ge (fun x => !ltS d[a]! x) d j i
  have u1 := Wm (fun x => !ltS d[a]! x) d j i
  generalize scanUp (fun x => !ltS d[a]! x) d j i = i2 at u0 u1 ⊢
  have hu : i2 <= n + 1 := by omega
  simp only [gx0, gx1, ob, Q3, Q2];rw [yC hn hs hd ha (by omega) hu hj, ob, Qc]
  have v0 := scanDown_le (fun x => ltS d[a]! x) d i2 j
  generalize scanDown (fun x => ltS d[a]! x) d i2 j = j2 at v0 ⊢
  simp only [gx0, gx1, ob, Q3, Q2];rw [Q1]
  by_cases hij : i2 > j2
  ·rw [if_pos (by simp; omega), if_pos hij, Q6]
   exact ⟨h, rfl, hs, Oth.refl _ _⟩
  rw [if_neg (by simp; omega), if_neg hij, hs.ldG hd (by omega), hs.ldG hd (by omega)]
  obtain ⟨h1, e1, w1, o1⟩ := hs.st2 (x := d[j2]!) (y := d[i2]!) hd (i := i2) (j := j2) (by omega) (by omega)
  rw [e1, o1.tidy hs.n, w64 (n := (i2 : Int) + 1) (by omega) (by omega), w64 (n := (j2 : Int) - 1) (by omega) (by omega), show (i2 : Int) + 1 = ((i2 + 1 : Nat) : Int) from by omega, show (j2 : Int) - 1 = ((j2 - 1 : Nat) : Int) from by omega]
  obtain ⟨h2, e2, w2, o2⟩ := ih (i2 + 1) (j2 - 1) h1 (swp d i2 j2) (by omega) (by omega) (by omega) (by omega) w1 (by simpa [swp] using hd) ha
  exact ⟨h2, e2, w2, o1.trans o2⟩
theorem xc (a : Nat) : ∀ (k i j : Nat) (d : Array SeenD), j + 1 - i <= k -> (partLoop ltS a i j d).1 <= j /\ (partLoop ltS a i j d).2.size = d.size := by
 intro k
 induction k with
 | zero =>
  intro i j d hk;rw [partLoop_eq];have u0 := scanUp_ge (fun x => ltS x d[a]!) d j i
  have v0 := scanDown_le (fun x => !ltS x d[a]!) d (scanUp (fun x => ltS x d[a]!) d j i) j
  rw [if_pos (by omega)]
  exact ⟨v0, rfl⟩
 | succ k ih =>
  intro i j d hk;rw [partLoop_eq];have u0 := scanUp_ge (fun x => ltS x d[a]!) d j i
  have v0 := scanDown_le (fun x => !ltS x d[a]!) d (scanUp (fun x => ltS x d[a]!) d j i) j
  split
  · exact ⟨v0, rfl⟩
  ·obtain ⟨h1, h2⟩ := ih (scanUp (fun x => ltS x d[a]!) d j i + 1) (scanDown (fun x => !ltS x d[a]!) d (scanUp (fun x => ltS x d[a]!) d j i) j - 1) (swp d (scanUp (fun x => ltS x d[a]!) d j i) (scanDown (fun x => !ltS x d[a]!) d (scanUp (fun x => ltS x d[a]!) d j i) j)) (by omega)
   exact ⟨by omega, by rw [h2]; simp [swp]⟩
theorem qI {b n a e pv : Nat} {h : H} {d : Array SeenD} (hs : Hs h b d) (hd : n = d.size) (hn : n <= 100000) (he : e <= n) (ha : a < e) (hp : a <= pv) (hp2 : pv < e) :
  ∃ h', call Ev Fn.Q7 [sv b 0 n, iv Ly (a : Nat), iv Ly (e : Nat), iv Ly (pv : Nat), .s (.fn Fn.Q0 [])] h = some (iv Ly ((partitionEqual ltS d a e pv).1 : Nat), h') /\ Hs h' b (partitionEqual ltS d a e pv).2 /\ Oth b h h' := by
 rw [JG, hs.ldG hd (by omega), hs.ldG hd (by omega)]
 obtain ⟨h1, e1, w1, o1⟩ := hs.st2 (x := d[pv]!) (y := d[a]!) hd (i := a) (j := pv) (by omega) (by omega)
 rw [e1, w64 (n := (a : Int) + 1) (by omega) (by omega), w64 (n := (e : Int) - 1) (by omega) (by omega), show (a : Int) + 1 = ((a + 1 : Nat) : Int) from by omega, show (e : Int) - 1 = ((e - 1 : Nat) : Int) from by omega]
 obtain ⟨h2, e2, w2, o2⟩ := Q1W (b := b) (a := a) hn (e - 1 + 1 - (a + 1)) (a + 1) (e - 1) h1 (swp d a pv) (Hx _) (by omega) (by omega) (by omega) w1 (by simpa [swp] using hd) (by omega)
 rw [e2, ob, Qc];simp only [gx0, gx1, ob, Q3, Q2];exact ⟨h2, rfl, w2, o1.trans o2⟩
theorem y6 {b n a e pv : Nat} {h : H} {d : Array SeenD} (hs : Hs h b d) (hd : n = d.size) (hn : n <= 100000) (he : e <= n) (ha : a < e) (hp : a <= pv) (hp2 : pv < e) :
  ∃ h', call Ev Fn.Q5 [sv b 0 n, iv Ly (a : Nat), iv Ly (e : Nat), iv Ly (pv : Nat), .s (.fn Fn.Q0 [])] h = some (.tup [.s (.int Ly ((partition ltS d a e pv).1 : Nat)), .s (.bool (partition ltS d a e pv).2.1)], h') /\ Hs h' b (partition ltS d a e pv).2.2 /\ Oth b h h' := by
 rw [Yu, hs.ldG hd (by omega), hs.ldG hd (by omega)]
 obtain ⟨h1, e1, w1, o1⟩ := hs.st2 (x := d[pv]!) (y := d[a]!) hd (i := a) (j := pv) (by omega) (by omega)
 rw [e1, w64 (n := (a : Int) + 1) (by omega) (by omega), w64 (n := (e : Int) - 1) (by omega) (by omega), show (a : Int) + 1 = ((a + 1 : Nat) : Int) from by omega, show (e : Int) - 1 = ((e - 1 : Nat) : Int) from by omega]
 unfold partition;have w1' : Hs h1 b (swp d a pv) := w1;have hd1 : n = (swp d a pv).size := by simpa [swp] using hd
 generalize swp d a pv = d1 at w1' hd1;simp only [];rw [Q1R hn w1' hd1 (by omega) (by omega) (by omega), ob, Qc]
 have u0 := scanUp_ge (fun x => ltS x d1[a]!) d1 (e - 1) (a + 1)
 have u1 := Wm (fun x => ltS x d1[a]!) d1 (e - 1) (a + 1)
 generalize scanUp (fun x => ltS x d1[a]!) d1 (e - 1) (a + 1) = i2 at u0 u1 ⊢
 simp only [gx0, gx1, ob, Q3, Q2];rw [Q1Q hn w1' hd1 (by omega) (by omega) (by omega) (by omega), ob, Qc]
 have v0 := scanDown_le (fun x => !ltS x d1[a]!) d1 i2 (e - 1)
 generalize scanDown (fun x => !ltS x d1[a]!) d1 i2 (e - 1) = j2 at v0 ⊢
 simp only [gx0, gx1, ob, Q3, Q2];rw [Q1]
 by_cases hij : i2 > j2
 ·rw [if_pos (by simp; omega), if_pos hij, w1'.ldG hd1 (by omega), w1'.ldG hd1 (by omega)]
  obtain ⟨h2, e2, w2, o2⟩ := w1'.st2 (x := d1[a]!) (y := d1[j2]!) hd1 (i := j2) (j := a) (by omega) (by omega)
  rw [e2];exact ⟨h2, rfl, w2, o1.trans o2⟩
 rw [if_neg (by simp; omega), if_neg hij, w1'.ldG hd1 (by omega), w1'.ldG hd1 (by omega)]
 obtain ⟨h2, e2, w2, o2⟩ := w1'.st2 (x := d1[j2]!) (y := d1[i2]!) hd1 (i := i2) (j := j2) (by omega) (by omega)
 rw [e2, w64 (n := (i2 : Int) + 1) (by omega) (by omega), w64 (n := (j2 : Int) - 1) (by omega) (by omega), show (i2 : Int) + 1 = ((i2 + 1 : Nat) : Int) from by omega, show (j2 : Int) - 1 = ((j2 - 1 : Nat) : Int) from by omega]
 have hd2 : n = (swp d1 i2 j2).size := by simpa [swp] using hd1
 obtain ⟨h3, e3, w3, o3⟩ := Q1P (b := b) (a := a) hn (j2 - 1 + 1 - (i2 + 1)) (i2 + 1) (j2 - 1) h2 (swp d1 i2 j2) (Hx _) (by omega) (by omega) (by omega) w2 hd2 (by omega)
 have r1 := xc a (j2 - 1 + 1 - (i2 + 1)) (i2 + 1) (j2 - 1) (swp d1 i2 j2) (Hx _);rw [e3, ob, Qc];generalize partLoop ltS a (i2 + 1) (j2 - 1) (swp d1 i2 j2) = r at w3 r1 ⊢;simp only [gx0, gx1, ob, Q3, Q2];have hd3 : n = r.2.size := by rw [r1.2]; exact hd2
 rw [w3.ldG hd3 (by omega), w3.ldG hd3 (by omega)]
 obtain ⟨h4, e4, w4, o4⟩ := w3.st2 (x := r.2[a]!) (y := r.2[r.1]!) hd3 (i := r.1) (j := a) (by omega) (by omega)
 rw [e4];exact ⟨h4, rfl, w4, ((o1.trans o2).trans o3).trans o4⟩
end Vm
namespace Vm
open Go Go.Sort
section
variable {b n a e : Nat} (hn : n <= 100000) (he : e <= n)
include hn he
theorem Q1U {s : Int} : ∀ (k i : Nat) (h : H) (d : Array SeenD), e - i <= k -> 1 <= i -> i <= n + 1 -> Hs h b d -> n = d.size ->
  Lp.Q4 2 [sv b 0 n, iv Ly (a : Nat), iv Ly (e : Nat), .s (.fn Fn.Q0 []), iv Ly (i : Nat), iv Ly s] h = some (.done [sv b 0 n, iv Ly (a : Nat), iv Ly (e : Nat), .s (.fn Fn.Q0 []), iv Ly (scanSorted ltS d e i : Nat), iv Ly s] h) := by
 intro k
 induction k with
 | zero =>
  intro i h d hk hi hin hs hd;rw [Xv, Q1, if_neg (by simp; omega), Qu, Q6, scanSorted, if_neg (by simp; omega)]
 | succ k ih =>
  intro i h d hk hi hin hs hd;rw [Xv, Q1, scanSorted]
  by_cases hie : i < e
  case neg => rw [if_neg (by simp; omega), Qu, Q6, if_neg (by simp; omega)]
  rw [if_pos (by simp; omega), hs.ldG hd (by omega), w64 (n := (i : Int) - 1) (by omega) (by omega), show (i : Int) - 1 = ((i - 1 : Nat) : Int) from by omega, hs.ldG hd (by omega), pc (Kz d[i]! d[i - 1]!) rfl]
  simp only [Q3, Q2, Qu];rw [KA, Q1, Q6, Q6]
  cases hl : ltS d[i]! d[i - 1]!
  ·rw [if_pos (by simp), if_pos (by simp [hie]), w64 (n := (i : Int) + 1) (by omega) (by omega), show (i : Int) + 1 = ((i + 1 : Nat) : Int) from by omega]
   exact ih (i + 1) h d (by omega) (by omega) (by omega) hs hd
  · rw [if_neg (by simp), if_neg (by simp)]
theorem Q1T {i0 : Nat} {s : Int} : ∀ (j : Nat) (h : H) (d : Array SeenD), j < n -> Hs h b d -> n = d.size ->
  ∃ h', Lp.Q4 4 [sv b 0 n, iv Ly (a : Nat), iv Ly (e : Nat), .s (.fn Fn.Q0 []), iv Ly (i0 : Nat), iv Ly s, iv Ly (j : Nat)] h = some (.done [sv b 0 n, iv Ly (a : Nat), iv Ly (e : Nat), .s (.fn Fn.Q0 []), iv Ly (i0 : Nat), iv Ly s] h') /\ Hs h' b (shiftDown ltS j d) /\ Oth b h h' := by
 intro j
 induction j with
 | zero =>
  intro h d hj hs hd;rw [Xu, Q1, if_neg (by simp), Q6]
  exact ⟨h, rfl, hs, Oth.refl _ _⟩
 | succ j ih =>
  intro h d hj hs hd;rw [Xu, Q1, if_pos (by simp; omega), hs.ldG hd (by omega), w64 (n := ((j + 1 : Nat) : Int) - 1) (by omega) (by omega), show ((j + 1 : Nat) : Int) - 1 = (j : Int) from by omega, hs.ldG hd (by omega), pc (Kz d[j + 1]! d[j]!) rfl]
  simp only [Q3, Q2, Qu];rw [KA, Q1];unfold shiftDown
  cases hl : ltS d[j + 1]! d[j]!
  ·rw [if_pos (by simp), if_pos (by simp), Q6]
   exact ⟨h, rfl, hs, Oth.refl _ _⟩
  ·rw [if_neg (by simp), if_neg (by simp), hs.ldG hd (by omega), hs.ldG hd (by omega)]
   obtain ⟨h1, e1, w1, o1⟩ := hs.st2 (x := d[j]!) (y := d[j + 1]!) hd (i := j + 1) (j := j) (by omega) (by omega)
   rw [e1, o1.tidy hs.n];obtain ⟨h2, e2, w2, o2⟩ := ih h1 (swp d (j + 1) j) (by omega) w1 (by simpa [swp] using hd)
   exact ⟨h2, e2, w2, o1.trans o2⟩
theorem Q1S {i0 : Nat} {s : Int} : ∀ (k j : Nat) (h : H) (d : Array SeenD), e - j <= k -> 1 <= j -> j <= n + 1 -> Hs h b d -> n = d.size ->
  ∃ h', Lp.Q4 6 [sv b 0 n, iv Ly (a : Nat), iv Ly (e : Nat), .s (.fn Fn.Q0 []), iv Ly (i0 : Nat), iv Ly s, iv Ly (j : Nat)] h = some (.done [sv b 0 n, iv Ly (a : Nat), iv Ly (e : Nat), .s (.fn Fn.Q0 []), iv Ly (i0 : Nat), iv Ly s] h') /\ Hs h' b (shiftUp ltS e j d) /\ Oth b h h' := by
 intro k
 induction k with
 | zero =>
  intro j h d hk hj hjn hs hd;rw [Xt, Q1, if_neg (by simp; omega), Q6, shiftUp, if_neg (by omega)]
  exact ⟨h, rfl, hs, Oth.refl _ _⟩
 | succ k ih =>
  intro j h d hk hj hjn hs hd;rw [Xt, Q1, shiftUp]
  by_cases hje : j < e
  case neg =>
   rw [if_neg (by simp; omega), Q6, if_neg hje]
   exact ⟨h, rfl, hs, Oth.refl _ _⟩
  rw [if_pos (by simp; omega), if_pos hje, hs.ldG hd (by omega), w64 (n := (j : Int) - 1) (by omega) (by omega), show (j : Int) - 1 = ((j - 1 : Nat) : Int) from by omega, hs.ldG hd (by omega), pc (Kz d[j]! d[j - 1]!) rfl]
  simp only [Q3, Q2, Qu];rw [KA, Q1]
  cases hl : ltS d[j]! d[j - 1]!
  ·rw [if_pos (by simp), if_pos (by simp), Q6]
   exact ⟨h, rfl, hs, Oth.refl _ _⟩
  ·rw [if_neg (by simp), if_neg (by simp), hs.ldG hd (by omega), hs.ldG hd (by omega)]
   obtain ⟨h1, e1, w1, o1⟩ := hs.st2 (x := d[j - 1]!) (y := d[j]!) hd (i := j) (j := j - 1) (by omega) (by omega)
   rw [e1, o1.tidy hs.n, w64 (n := (j : Int) + 1) (by omega) (by omega), show (j : Int) + 1 = ((j + 1 : Nat) : Int) from by omega]
   obtain ⟨h2, e2, w2, o2⟩ := ih (j + 1) h1 (swp d j (j - 1)) (by omega) (by omega) (by omega) w1 (by simpa [swp] using hd)
   exact ⟨h2, e2, w2, o1.trans o2⟩
end
theorem Mv : ∀ (j : Nat) (d : Array SeenD), (shiftDown ltS j d).size = d.size
 | 0, d => rfl
 | j + 1, d => by
  unfold shiftDown
  split
  · rfl
  · rw [Mv j]; simp [swp]
theorem NF (e : Nat) : ∀ (k j : Nat) (d : Array SeenD), e - j <= k -> (shiftUp ltS e j d).size = d.size
 | 0, j, d, hk => by rw [shiftUp, if_neg (by omega)]
 | k + 1, j, d, hk => by
  rw [shiftUp]
  split
  ·split
   · rfl
   · rw [NF e k (j + 1) _ (by omega)]; simp [swp]
  · rfl
theorem Nu (d : Array SeenD) (e : Nat) : ∀ (k i : Nat), e - i <= k -> i <= scanSorted ltS d e i /\ (scanSorted ltS d e i <= i \/ scanSorted ltS d e i <= e)
 | 0, i, hk => by rw [scanSorted, if_neg (by simp; omega)]; exact ⟨Hx _, .inl (Hx _)⟩
 | k + 1, i, hk => by
  rw [scanSorted]
  split
  ·rename_i h
   have hi : i < e := by simp at h; exact h.1
   obtain ⟨h1, h2⟩ := Nu d e k (i + 1) (by omega)
   exact ⟨by omega, .inr (by omega)⟩
  · exact ⟨Hx _, .inl (Hx _)⟩
theorem Q1V {b n a e : Nat} (hn : n <= 100000) (he : e <= n) (hae : a < e) : ∀ (k i : Nat) (s : Int) (h : H) (d : Array SeenD), s = 5 - (k : Int) -> k <= 5 -> a + 1 <= i -> i <= e -> Hs h b d -> n = d.size ->
  ∃ h' o, Lp.Q4 0 [sv b 0 n, iv Ly (a : Nat), iv Ly (e : Nat), .s (.fn Fn.Q0 []), iv Ly (i : Nat), iv Ly s] h = some o /\ ((o = .done [] h' /\ (partialIns ltS a e k i d).2 = false) \/ o = .ret (bv (partialIns ltS a e k i d).2) h') /\ Hs h' b (partialIns ltS a e k i d).1 /\ (partialIns ltS a e k i d).1.size = d.size /\ Oth b h h' := by
 intro k
 induction k with
 | zero =>
  intro i s h d hsk hk5 hai hie hs hd;rw [Xw, Q1, if_neg (by simp; omega), Q6]
  exact ⟨h, _, rfl, .inl ⟨rfl, rfl⟩, hs, rfl, Oth.refl _ _⟩
 | succ k ih =>
  intro i s h d hsk hk5 hai hie hs hd;rw [Xw, Q1, if_pos (by simp; omega), Q1U hn he (e - i) i h d (Hx _) (by omega) (by omega) hs hd, ob, Qc, partialIns_succ]
  have bd := Nu d e (e - i) i (Hx _);generalize scanSorted ltS d e i = i2 at bd ⊢;simp only [gx0, gx1, ob, Q3, Q2];rw [Q1]
  by_cases h1 : i2 = e
  ·rw [if_pos (by simp [h1]), if_pos h1]
   exact ⟨h, _, rfl, .inr rfl, hs, rfl, Oth.refl _ _⟩
  rw [if_neg (by simp; omega), if_neg h1, Q1, w64 (n := (e : Int) - (a : Int)) (by omega) (by omega)]
  by_cases h2 : e - a < 50
  ·rw [if_pos (by simp; omega), if_pos h2]
   exact ⟨h, _, rfl, .inr rfl, hs, rfl, Oth.refl _ _⟩
  rw [if_neg (by simp; omega), if_neg h2, w64 (n := (i2 : Int) - 1) (by omega) (by omega), show (i2 : Int) - 1 = ((i2 - 1 : Nat) : Int) from by omega, hs.ldG hd (by omega), hs.ldG hd (by omega)]
  obtain ⟨h3, e3, w3, o3⟩ := hs.st2 (x := d[i2 - 1]!) (y := d[i2]!) hd (i := i2) (j := i2 - 1) (by omega) (by omega)
  have w3' : Hs h3 b (swp d i2 (i2 - 1)) := w3;have hd3 : n = (swp d i2 (i2 - 1)).size := by simpa [swp] using hd
  rw [e3, Q1, w64 (n := (i2 : Int) - (a : Int)) (by omega) (by omega)]
  have hsz : (swp d i2 (i2 - 1)).size = d.size := by omega
  generalize swp d i2 (i2 - 1) = d3 at w3' hd3 hsz ⊢;have fin : ∀ (h5 : H) (d5 : Array SeenD), Hs h5 b d5 -> n = d5.size -> Oth b h h5 -> ∃ h' o, Lp.Q4 0 [sv b 0 n, iv Ly (a : Nat), iv Ly (e : Nat), .s (.fn Fn.Q0 []), iv Ly (i2 : Nat), iv Ly (Ly.wrap (s + 1))] (Vm.tidy h [sv b 0 n, iv Ly (a : Nat), iv Ly (e : Nat), .s (.fn Fn.Q0 []), iv Ly (i2 : Nat), iv Ly (Ly.wrap (s + 1))] h5) = some o /\ ((o = .done [] h' /\ (partialIns ltS a e k i2 d5).2 = false) \/ o = .ret (bv (partialIns ltS a e k i2 d5).2) h') /\ Hs h' b (partialIns ltS a e k i2 d5).1 /\ (partialIns ltS a e k i2 d5).1.size = d.size /\ Oth b h h' := fun h5 d5 w5 hd5 o5 => by
   rw [o5.tidy hs.n, w64 (n := s + 1) (by omega) (by omega)]
   obtain ⟨h', o, x1, x2, x3, x4, x5⟩ := ih i2 (s + 1) h5 d5 (by omega) (by omega) (by omega) (by omega) w5 hd5
   exact ⟨h', o, x1, x2, x3, by omega, o5.trans x5⟩
  have up : ∀ (h4 : H) (d4 : Array SeenD), Hs h4 b d4 -> n = d4.size -> Oth b h h4 -> e - i2 >= 2 -> ∃ h5, Lp.Q4 6 [sv b 0 n, iv Ly (a : Nat), iv Ly (e : Nat), .s (.fn Fn.Q0 []), iv Ly (i2 : Nat), iv Ly s, iv Ly (Ly.wrap ((i2 : Int) + 1))] h4 = some (.done [sv b 0 n, iv Ly (a : Nat), iv Ly (e : Nat), .s (.fn Fn.Q0 []), iv Ly (i2 : Nat), iv Ly s] h5) /\ Hs h5 b (shiftUp ltS e (i2 + 1) d4) /\ n = (shiftUp ltS e (i2 + 1) d4).size /\ Oth b h h5 := fun h4 d4 w4 hd4 o4 hg => by
   rw [w64 (n := (i2 : Int) + 1) (by omega) (by omega), show (i2 : Int) + 1 = ((i2 + 1 : Nat) : Int) from by omega]
   obtain ⟨h5, e5, w5, o5⟩ := Q1S (b := b) (a := a) hn he (i0 := i2) (s := s) (e - (i2 + 1)) (i2 + 1) h4 d4 (Hx _) (by omega) (by omega) w4 hd4
   exact ⟨h5, e5, w5, by rw [NF e (e - (i2 + 1)) (i2 + 1) _ (Hx _)]; exact hd4, o4.trans o5⟩
  unfold fixUp fixDown
  by_cases h6 : i2 - a >= 2
  ·rw [if_pos (by simp; omega), if_pos h6]
   obtain ⟨h4, e4, w4, o4⟩ := Q1T (b := b) (a := a) hn he (i0 := i2) (s := s) (i2 - 1) h3 d3 (by omega) w3' hd3
   rw [e4, ob, Qc];simp only [gx0, gx1, ob, Q3, Q2];rw [Q1, w64 (n := (e : Int) - (i2 : Int)) (by omega) (by omega)]
   have hd4 : n = (shiftDown ltS (i2 - 1) d3).size := by rw [Mv]; exact hd3
   by_cases h7 : e - i2 >= 2
   ·rw [if_pos (by simp; omega), if_pos h7]
    obtain ⟨h5, e5, w5, hd5, o5⟩ := up h4 _ w4 hd4 (o3.trans o4) h7;rw [e5, ob, Qc];simp only [gx0, gx1, ob, Q3, Q2];exact fin h5 _ w5 hd5 o5
   ·rw [if_neg (by simp; omega), if_neg h7]
    exact fin h4 _ w4 hd4 (o3.trans o4)
  ·rw [if_neg (by simp; omega), if_neg h6, Q1, w64 (n := (e : Int) - (i2 : Int)) (by omega) (by omega)]
   by_cases h7 : e - i2 >= 2
   ·rw [if_pos (by simp; omega), if_pos h7]
    obtain ⟨h5, e5, w5, hd5, o5⟩ := up h3 _ w3' hd3 o3 h7;rw [e5, ob, Qc];simp only [gx0, gx1, ob, Q3, Q2];exact fin h5 _ w5 hd5 o5
   ·rw [if_neg (by simp; omega), if_neg h7]
    exact fin h3 _ w3' hd3 o3
theorem TX {b n a e : Nat} {h : H} {d : Array SeenD} (hs : Hs h b d) (hd : n = d.size) (hn : n <= 100000) (he : e <= n) (ha : a < e) :
  ∃ h', call Ev Fn.Q4 [sv b 0 n, iv Ly (a : Nat), iv Ly (e : Nat), .s (.fn Fn.Q0 [])] h = some (bv (partialInsertionSort ltS d a e).2, h') /\ Hs h' b (partialInsertionSort ltS d a e).1 /\ (partialInsertionSort ltS d a e).1.size = d.size /\ Oth b h h' := by
 rw [Ja, w64 (n := (a : Int) + 1) (by omega) (by omega), show (a : Int) + 1 = ((a + 1 : Nat) : Int) from by omega]
 obtain ⟨h', o, e1, f1, w1, z1, o1⟩ := Q1V (b := b) hn he ha 5 (a + 1) 0 h d (by omega) (by omega) (by omega) (by omega) hs hd
 rw [e1, ob];unfold partialInsertionSort
 rcases f1 with ⟨rfl, f2⟩ | rfl
 · exact ⟨h', by rw [Qc, f2], w1, z1, o1⟩
 · exact ⟨h', rfl, w1, z1, o1⟩
end Vm
namespace Vm
open Go Go.Sort
def sns (d : Array SeenD) : List (List S) := d.toList.map SeenD.cs
theorem Q22 {R : Type} {x : SeenD} {h : H} {dd : TD} {bb : Bool} {w : Nat} {zz : List S} {k : V -> Option R} : ldK (.agg [.i Ly, .i Ly, .i Ly, .s, .i Ly, .i Ly, .b, .i Ly, .i Ly]) ⟨9, w, zz, true, dd, bb⟩ h (fv x.cs 0) k = k (.agg x.cs) := by
 simp only [ldK, ldT, cond_true, Qp];rw [show JP 9 x.cs 0 = some x.cs from Uf rfl]
 simp [tyV, tyL, tyS]
theorem ldF {R : Type} {h : H} {i : Nat} {d : Array SeenD} {w : Nat} {zz : List S} {dd : TD} {bb : Bool} {kd : IntKind} {k : V -> V -> Int -> Int -> Int -> ByteArray -> Int -> Int -> Bool -> Int -> Int -> Option R} (hi : i < d.size) :
  (Qd 9 (lv (sns d)) (iv kd (i : Int)) fun v => ldK (.agg [.i Ly, .i Ly, .i Ly, .s, .i Ly, .i Ly, .b, .i Ly, .i Ly]) ⟨9, w, zz, true, dd, bb⟩ h v fun u => gVA u fun c => (c[0]?).bind fun x0 => gI Ly x0 fun i0 => (c[1]?).bind fun x1 => gI Ly x1 fun i1 => (c[2]?).bind fun x2 => gI Ly x2 fun i2 => (c[3]?).bind fun x3 => gS x3 fun i3 => (c[4]?).bind fun x4 => gI Ly x4 fun i4 => (c[5]?).bind fun x5 => gI Ly x5 fun i5 => (c[6]?).bind fun x6 => gB x6 fun i6 => (c[7]?).bind fun x7 => gI Ly x7 fun i7 => (c[8]?).bind fun x8 => gI Ly x8 fun i8 => if c.length = 9 then k v u i0 i1 i2 i3 i4 i5 i6 i7 i8 else none) = k (fv d[i]!.cs 0) (.agg d[i]!.cs) d[i]!.r.tab d[i]!.r.key d[i]!.r.val d[i]!.r.text d[i]!.page d[i]!.slot d[i]!.moved d[i]!.at_ d[i]!.place := by
 have e : (sns d)[i]? = some d[i]!.cs := by
  unfold sns;rw [List.getElem?_map, Fy, DC hi, getElem!_pos d i hi]; rfl
 generalize d[i]! = x at e ⊢;show QB 9 (sns d) (i : Int) _ = _;rw [UZ (z := 9) e rfl];dsimp only;rw [Q22];simp only [Zb, gx0, gx1, ob, Q2, Z8, QW];rw [if_pos (cs9 x)]
structure Ct (h : H) (s : Nat) : Prop where
 n : 0 < h.n
 g : h.g 0 = .rw 0 [.int Ly s]
theorem V4 {d : Array SeenD} {x y s : Nat} {h : H} (hx : x < d.size) (hy : y < d.size) (hc : Ct h s) (hs : s < 100) :
  ∃ h', call Ev Fn.ZY [lv (sns d), iv Ly (x : Nat), iv Ly (y : Nat), pv 0 0, .s (.fn Fn.Q0 [])] h = some (.tup [.s (.int Ly ((order2 ltS d x y s).1 : Nat)), .s (.int Ly ((order2 ltS d x y s).2.1 : Nat))], h') /\ Ct h' (order2 ltS d x y s).2.2 /\ Oth 0 h h' := by
 rw [U2, ldF hy, ldF hx, pc (Kz d[y]! d[x]!) rfl];simp only [Q3, Q2, Qu];rw [KA, Q1];unfold order2
 cases hl : ltS d[y]! d[x]!
 ·rw [if_neg (by simp), if_neg (by simp)]
  exact ⟨h, rfl, hc, Oth.refl _ _⟩
 ·have ld : Qb h (pv 0 0) = some (.int Ly (s : Nat)) := by simp [Qb, H.cells, hc.n, hc.g, Blk.cells]
  rw [if_pos rfl, if_pos rfl, ld, ob];simp only [Q2];rw [w64 (n := (s : Int) + 1) (by omega) (by omega), show (s : Int) + 1 = ((s + 1 : Nat) : Int) from by omega]
  rw [Zq (z := 1) (e := 0) (o := 0) (b := 0) (cs := [.int Ly s]) (r := [.int Ly ((s + 1 : Nat) : Int)]) hc.n hc.g (.inl ⟨_, rfl, rfl, rfl⟩) rfl (by simp)]
  exact ⟨_, rfl, ⟨by rw [Qq]; exact hc.n, by rw [Z9]; rfl⟩, Oth.put⟩
theorem V5 {d : Array SeenD} {x y z s : Nat} {h : H} (hx : x < d.size) (hy : y < d.size) (hz : z < d.size) (hc : Ct h s) (hs : s < 90) :
  ∃ h', call Ev Fn.ZZ [lv (sns d), iv Ly (x : Nat), iv Ly (y : Nat), iv Ly (z : Nat), pv 0 0, .s (.fn Fn.Q0 [])] h = some (iv Ly ((median ltS d x y z s).1 : Nat), h') /\ Ct h' (median ltS d x y z s).2 /\ Oth 0 h h' := by
 rw [U3];unfold median;simp only [];obtain ⟨h1, e1, c1, t1⟩ := V4 hx hy hc (by omega)
 have k1 := order2_count ltS d x y s;have m1 : (order2 ltS d x y s).1 < d.size /\ (order2 ltS d x y s).2.1 < d.size := by unfold order2; split <;> exact ⟨by assumption, by assumption⟩
 rw [e1, ob];dsimp only;simp only [Za, gx0, gx1, ob, Zc, Q2];rw [if_pos (show ([_, _] : List A).length = 2 from rfl), t1.tidy hc.n]
 generalize order2 ltS d x y s = q1 at c1 k1 m1 ⊢;obtain ⟨h2, e2, c2, t2⟩ := V4 m1.2 hz c1 (by omega)
 have k2 := order2_count ltS d q1.2.1 z q1.2.2;have m2 : (order2 ltS d q1.2.1 z q1.2.2).1 < d.size /\ (order2 ltS d q1.2.1 z q1.2.2).2.1 < d.size := by
  have := m1.2;unfold order2; split <;> exact ⟨by assumption, by assumption⟩
 rw [e2, ob];dsimp only;simp only [Za, gx0, gx1, ob, Zc, Q2];rw [if_pos (show ([_, _] : List A).length = 2 from rfl), t2.tidy c1.n]
 generalize order2 ltS d q1.2.1 z q1.2.2 = q2 at c2 k2 m2 ⊢;obtain ⟨h3, e3, c3, t3⟩ := V4 m1.1 m2.1 c2 (by omega)
 rw [e3, ob];dsimp only;simp only [Za, gx0, gx1, ob, Zc, Q2];rw [if_pos (show ([_, _] : List A).length = 2 from rfl), t3.tidy c2.n]
 exact ⟨h3, rfl, c3, (t1.trans t2).trans t3⟩
theorem V6 {d : Array SeenD} {x s : Nat} {h : H} (hx : 1 <= x) (hy : x + 1 < d.size) (hl : d.size <= 100000) (hc : Ct h s) (hs : s < 90) :
  ∃ h', call Ev Fn.Zk [lv (sns d), iv Ly (x : Nat), pv 0 0, .s (.fn Fn.Q0 [])] h = some (iv Ly ((medianAdjacent ltS d x s).1 : Nat), h') /\ Ct h' (medianAdjacent ltS d x s).2 /\ Oth 0 h h' := by
 rw [JH, w64 (n := (x : Int) - 1) (by omega) (by omega), w64 (n := (x : Int) + 1) (by omega) (by omega), show (x : Int) - 1 = ((x - 1 : Nat) : Int) from by omega, show (x : Int) + 1 = ((x + 1 : Nat) : Int) from by omega]
 obtain ⟨h1, e1, c1, t1⟩ := V5 (d := d) (x := x - 1) (y := x) (z := x + 1) (by omega) (by omega) hy hc hs
 rw [e1, ob];dsimp only;simp only [Q3, Q2];rw [t1.tidy hc.n];exact ⟨h1, rfl, c1, t1⟩
theorem z0 {d : Array SeenD} {x y z s n : Nat} (hx : x < n) (hy : y < n) (hz : z < n) : (median ltS d x y z s).1 < n := by
 rcases median_mem ltS d x y z s with h | h | h <;> omega
theorem vJ {d : Array SeenD} {a e : Nat} (hl : d.size <= 100000) (he : e <= d.size) (ha : a < e) :
  Q8 (call Ev) Fn.XD [lv (sns d), iv Ly (a : Nat), iv Ly (e : Nat), .s (.fn Fn.Q0 [])] = some (.tup [.s (.int Ly ((choosePivot ltS d a e).1 : Nat)), .s (.int Ly (hintCode (choosePivot ltS d a e).2))]) := by
 rw [choosePivot_eq, Ye, w64 (n := (e : Int) - (a : Int)) (by omega) (by omega), show (e : Int) - (a : Int) = ((e - a : Nat) : Int) from by omega, Uo (by omega) (by omega) (by omega)]
 simp only [ob, Q3, Q2];rw [show ((e - a : Nat) : Int) / 4 = (((e - a) / 4 : Nat) : Int) from by omega]
 have hq : (e - a) / 4 * 4 <= e - a := Az _ _;generalize hg : (e - a) / 4 = q at hq;rw [w64 (n := (q : Int) * 1) (by omega) (by omega), w64 (n := (q : Int) * 2) (by omega) (by omega), w64 (n := (q : Int) * 3) (by omega) (by omega), w64 (n := (a : Int) + (q : Int) * 1) (by omega) (by omega), w64 (n := (a : Int) + (q : Int) * 2) (by omega) (by omega), w64 (n := (a : Int) + (q : Int) * 3) (by omega) (by omega),
  show (a : Int) + (q : Int) * 1 = ((a + q * 1 : Nat) : Int) from by omega, show (a : Int) + (q : Int) * 2 = ((a + q * 2 : Nat) : Int) from by omega, show (a : Int) + (q : Int) * 3 = ((a + q * 3 : Nat) : Int) from by omega]
 unfold rawPivot;rw [hg];have c0 : Ct ((D 0).new 0 [.int Ly 0]) 0 := ⟨by simp, QI (D 0) _ _⟩
 generalize (D 0).new 0 [.int Ly 0] = h0 at c0;have ldc : ∀ {h : H} {s : Nat}, Ct h s -> Qb h (pv 0 0) = some (.int Ly (s : Nat)) := fun {h s} hc => by simp [Qb, H.cells, hc.n, hc.g, Blk.cells]
 have fin : ∀ (x s : Nat), s <= 12 -> vcase (bv ((s : Int) == 0)) (some (V.tup [.s (.int Ly (x : Nat)), .s (.int Ly 1)])) (vcase (bv ((s : Int) == 12)) (some (V.tup [.s (.int Ly (x : Nat)), .s (.int Ly 2)])) (some (V.tup [.s (.int Ly (x : Nat)), .s (.int Ly 0)]))) = some (V.tup [.s (.int Ly (x : Nat)), .s (.int Ly (hintCode (hintOf s)))]) := fun x s hs => by
  rw [Q1, Q1];unfold hintOf
  by_cases h1 : s = 0
  · rw [if_pos (by simp [h1]), if_pos h1]; rfl
  ·rw [if_neg (by simpa using h1), if_neg h1]
   by_cases h2 : s = 12
   · rw [if_pos (by simp [h2]), if_pos h2]; rfl
   · rw [if_neg (by simp; omega), if_neg h2]; rfl
 rw [Q1]
 by_cases h8 : e - a >= 8
 case neg =>
  rw [if_neg (by simp; omega), if_neg h8]
  exact fin (a + q * 2) 0 (by omega)
 rw [if_pos (by simp; omega), if_pos h8, Q1]
 by_cases h50 : e - a >= 50
 case neg =>
  rw [if_neg (by simp; omega), if_neg h50]
  obtain ⟨h1, e1, c1, t1⟩ := V5 (d := d) (x := a + q * 1) (y := a + q * 2) (z := a + q * 3) (by omega) (by omega) (by omega) c0 (by omega)
  have k1 := median_count ltS d (a + q * 1) (a + q * 2) (a + q * 3) 0;rw [e1, ob];dsimp only;simp only [Q3, Q2];rw [t1.tidy c0.n, ldc c1, ob];simp only [Q2];exact fin _ _ (by omega)
 rw [if_pos (by simp; omega), if_pos h50]
 obtain ⟨h1, e1, c1, t1⟩ := V6 (d := d) (x := a + q * 1) (by omega) (by omega) hl c0 (by omega)
 have k1 := medianAdjacent_count ltS d (a + q * 1) 0;have m1 : (medianAdjacent ltS d (a + q * 1) 0).1 < d.size := z0 (by omega) (by omega) (by omega)
 rw [e1, ob];dsimp only;simp only [Q3, Q2];rw [t1.tidy c0.n];generalize medianAdjacent ltS d (a + q * 1) 0 = r1 at c1 k1 m1 ⊢;obtain ⟨h2, e2, c2, t2⟩ := V6 (d := d) (x := a + q * 2) (by omega) (by omega) hl c1 (by omega)
 have k2 := medianAdjacent_count ltS d (a + q * 2) r1.2;have m2 : (medianAdjacent ltS d (a + q * 2) r1.2).1 < d.size := z0 (by omega) (by omega) (by omega)
 rw [e2, ob];dsimp only;simp only [Q3, Q2];rw [t2.tidy c1.n];generalize medianAdjacent ltS d (a + q * 2) r1.2 = r2 at c2 k2 m2 ⊢;obtain ⟨h3, e3, c3, t3⟩ := V6 (d := d) (x := a + q * 3) (by omega) (by omega) hl c2 (by omega)
 have k3 := medianAdjacent_count ltS d (a + q * 3) r2.2;have m3 : (medianAdjacent ltS d (a + q * 3) r2.2).1 < d.size := z0 (by omega) (by omega) (by omega)
 rw [e3, ob];dsimp only;simp only [Q3, Q2];rw [t3.tidy c2.n];generalize medianAdjacent ltS d (a + q * 3) r2.2 = r3 at c3 k3 m3 ⊢;obtain ⟨h4, e4, c4, t4⟩ := V5 (d := d) (x := r1.1) (y := r2.1) (z := r3.1) m1 m2 m3 c3 (by omega)
 have k4 := median_count ltS d r1.1 r2.1 r3.1 r3.2;rw [e4, ob];dsimp only;simp only [Q3, Q2];rw [t4.tidy c3.n, ldc c4, ob];simp only [Q2];exact fin _ _ (by omega)
end Vm
namespace Vm
open Go Go.Sort
theorem qg {n : Int} (h0 : 0 <= n) (h1 : n < 18446744073709551616) : IntKind.u64.wrap n = n := by
 simp [IntKind.wrap, IntKind.bits, IntKind.signed];omega
theorem v9 {n : Nat} : IntKind.u64.wrap (n : Int) = ((n % 18446744073709551616 : Nat) : Int) := by
 simp [IntKind.wrap, IntKind.bits, IntKind.signed]
theorem TK {t x k : Nat} (hk : k <= 64) : bin Ev .shl t (iv .u64 (x : Nat)) (iv .u64 (k : Nat)) = some (iv .u64 ((x * 2 ^ k % 18446744073709551616 : Nat) : Int)) := by
 simp only [bin];rw [if_neg (by omega)]
 have : min (k : Int).toNat (IntKind.u64.bits) = k := by
  rw [HQ]; exact Nat.min_eq_left hk
 rw [this, show (x : Int) * 2 ^ k = ((x * 2 ^ k : Nat) : Int) from by simp, v9]
theorem Q1g {t x k : Nat} (hk : k <= 64) : bin Ev .shr t (iv .u64 (x : Nat)) (iv .u64 (k : Nat)) = some (iv .u64 ((x / 2 ^ k : Nat) : Int)) := by
 simp only [bin];rw [if_neg (by omega)]
 have : min (k : Int).toNat (IntKind.u64.bits) = k := by
  rw [HQ]; exact Nat.min_eq_left hk
 rw [this];rw [show (2 : Int) ^ k = ((2 ^ k : Nat) : Int) from by simp, Int.fdiv_eq_ediv_of_nonneg _ (Int.natCast_nonneg _), <- Int.natCast_ediv]
theorem ofI {x : Nat} (hx : x < 18446744073709551616) : (Dq IntKind.u64.bits (x : Int)).toNat = x := by
 show (Dq 64 (x : Int)).toNat = x;rw [SX];omega
theorem TJ {t x y : Nat} (hx : x < 18446744073709551616) (hy : y < 18446744073709551616) : bin Ev .xor t (iv .u64 (x : Nat)) (iv .u64 (y : Nat)) = some (iv .u64 ((x ^^^ y : Nat) : Int)) := by
 have hlt : x ^^^ y < 18446744073709551616 := AA (n := 64) hx hy;simp only [bin, Ns, RA, if_true, Vm.ob];rw [BitVec.toNat_xor, ofI hx, ofI hy, v9, CA hlt]
theorem Q1h {t x y : Nat} (hx : x < 18446744073709551616) (hy : y < 18446744073709551616) : bin Ev .and t (iv .u64 (x : Nat)) (iv .u64 (y : Nat)) = some (iv .u64 ((x &&& y : Nat) : Int)) := by
 have hlt : x &&& y < 18446744073709551616 := Nat.lt_of_le_of_lt Nat.and_le_left hx;simp only [bin, Ns, RA, if_true, Vm.ob];rw [BitVec.toNat_and, ofI hx, ofI hy, v9, CA hlt]
structure Xs (h : H) (q x : Nat) : Prop where
 n : q < h.n
 g : h.g q = .rw 0 [.int .u64 x]
theorem Xs.ld {h : H} {q x : Nat} (w : Xs h q x) : Qb h (pv q 0) = some (.int .u64 (x : Nat)) := by simp [Qb, H.cells, w.n, w.g, Blk.cells]
theorem Xs.st {R : Type} {h : H} {q x y : Nat} {f : H -> Option R} (w : Xs h q x) : stK 1 h (pv q 0) (iv .u64 (y : Nat)) f = f (h.put q (.rw 0 [.int .u64 y])) := by
 rw [Zq (z := 1) (e := 0) (o := 0) (b := q) (cs := [.int .u64 x]) (r := [.int .u64 (y : Nat)]) w.n w.g (.inl ⟨_, rfl, rfl, rfl⟩) rfl (by simp)]
 rfl
theorem Xs.put {h : H} {q y : Nat} (hq : q < h.n) : Xs (h.put q (.rw 0 [.int .u64 y])) q y := ⟨by rw [Qq]; exact hq, Z9 _ _ _⟩
theorem vy {h : H} {q x : Nat} (w : Xs h q x) (hx : x < 18446744073709551616) :
  ∃ h', call Ev Fn.JN [pv q 0] h = some (iv .u64 (xorNextN x : Nat), h') /\ Xs h' q (xorNextN x) /\ Oth q h h' := by
 rw [GV, w.ld, ob];simp only [Q2, ob];have e13 : bin Ev .shl 170 (iv .u64 (x : Nat)) (iv .u64 13) = some (iv .u64 ((x * 8192 % 18446744073709551616 : Nat) : Int)) := TK (k := 13) (by omega)
 have ha : x ^^^ (x * 8192 % 18446744073709551616) < 18446744073709551616 := AA (n := 64) hx (by omega)
 rw [e13, ob];simp only [Q3, Q2];rw [TJ hx (by omega), ob]
 simp only [Q3, Q2];rw [w.st];have w1 := Xs.put (y := x ^^^ (x * 8192 % 18446744073709551616)) w.n;have o1 : Oth q h (h.put q (.rw 0 [.int .u64 ((x ^^^ (x * 8192 % 18446744073709551616) : Nat) : Int)])) := Oth.put;generalize h.put q (.rw 0 [.int .u64 ((x ^^^ (x * 8192 % 18446744073709551616) : Nat) : Int)]) = h1 at w1 o1 ⊢;unfold xorNextN;simp only [];generalize x ^^^ (x * 8192 % 18446744073709551616) = a at ha w1 ⊢;rw [w1.ld, ob];simp only [Q2, ob];have e7 : bin Ev .shr 170 (iv .u64 (a : Nat)) (iv .u64 7) = some (iv .u64 ((a / 128 : Nat) : Int)) := Q1g (k := 7) (by omega)
 have hb : a ^^^ (a / 128) < 18446744073709551616 := AA (n := 64) ha (by omega)
 rw [e7, ob];simp only [Q3, Q2];rw [TJ ha (by omega), ob]
 simp only [Q3, Q2];rw [w1.st];have w2 := Xs.put (y := a ^^^ (a / 128)) w1.n;have o2 : Oth q h1 (h1.put q (.rw 0 [.int .u64 ((a ^^^ (a / 128) : Nat) : Int)])) := Oth.put;generalize h1.put q (.rw 0 [.int .u64 ((a ^^^ (a / 128) : Nat) : Int)]) = h2 at w2 o2 ⊢;generalize a ^^^ (a / 128) = b at hb w2 ⊢;rw [w2.ld, ob];simp only [Q2, ob];have e17 : bin Ev .shl 170 (iv .u64 (b : Nat)) (iv .u64 17) = some (iv .u64 ((b * 131072 % 18446744073709551616 : Nat) : Int)) := TK (k := 17) (by omega)
 rw [e17, ob];simp only [Q3, Q2];rw [TJ hb (by omega), ob]
 simp only [Q3, Q2];rw [w2.st];have w3 := Xs.put (y := b ^^^ (b * 131072 % 18446744073709551616)) w2.n;have o3 : Oth q h2 (h2.put q (.rw 0 [.int .u64 ((b ^^^ (b * 131072 % 18446744073709551616) : Nat) : Int)])) := Oth.put;generalize h2.put q (.rw 0 [.int .u64 ((b ^^^ (b * 131072 % 18446744073709551616) : Nat) : Int)]) = h3 at w3 o3 ⊢;rw [w3.ld, ob];simp only [Q2];exact ⟨h3, rfl, w3, (o1.trans o2).trans o3⟩
end Vm
namespace Vm
open Go Go.Sort
def RI : ByteArray := ⟨#[0, 1, 2, 2, 3, 3, 3, 3, 4, 4, 4, 4, 4, 4, 4, 4, 5, 5, 5, 5, 5, 5, 5, 5, 5, 5, 5, 5, 5, 5, 5, 5, 6, 6, 6, 6, 6, 6, 6, 6, 6, 6, 6, 6, 6, 6, 6, 6, 6, 6, 6, 6, 6, 6, 6, 6, 6, 6, 6, 6, 6, 6, 6, 6, 7, 7, 7, 7, 7, 7, 7, 7, 7, 7, 7, 7, 7, 7, 7, 7, 7, 7, 7, 7, 7, 7, 7, 7, 7, 7, 7, 7, 7, 7, 7, 7, 7, 7, 7, 7, 7, 7, 7, 7, 7, 7, 7, 7, 7, 7, 7, 7, 7, 7, 7, 7, 7, 7, 7, 7, 7, 7, 7, 7, 7, 7, 7, 7, 8, 8, 8, 8, 8, 8, 8, 8, 8, 8, 8, 8, 8, 8, 8, 8, 8, 8, 8, 8, 8, 8, 8, 8, 8, 8, 8, 8, 8, 8, 8, 8, 8, 8, 8, 8, 8, 8, 8, 8, 8, 8, 8, 8, 8, 8, 8, 8, 8, 8, 8, 8, 8, 8, 8, 8, 8, 8, 8, 8, 8, 8, 8, 8, 8, 8, 8, 8, 8, 8, 8, 8, 8, 8, 8, 8, 8, 8, 8, 8, 8, 8, 8, 8, 8, 8, 8, 8, 8, 8, 8, 8, 8, 8, 8, 8, 8, 8, 8, 8, 8, 8, 8, 8, 8, 8, 8, 8, 8, 8, 8, 8, 8, 8, 8, 8, 8, 8, 8, 8, 8, 8, 8, 8, 8, 8, 8, 8]⟩
theorem Q1r : ∀ n, n < 256 -> (RI.get! n).toNat = bitsLen n := by decide +kernel
theorem vc : RI.size = 256 := by decide +kernel
theorem Mu {n : Nat} (hn : n < 256) : bitsLen n <= 8 := (bitsLen_le_iff n 8).2 hn
theorem Q0F {n : Nat} (hn : n < 256) : Q8 (call Ev) Fn.Nq [iv .u64 (n : Nat)] = some (iv Ly (bitsLen n : Nat)) := by
 rw [PE, Q1, if_neg (by simp; omega), Q1, if_neg (by simp; omega), Q1, if_neg (by simp; omega)]
 unfold Jn.Kp;have e8 : LA.wrap (n : Int) = (n : Int) := w8 (by omega) (by omega)
 rw [e8];show (Yq (.s (.str RI)) (iv LA (n : Nat))).bind _ = _;have e : Yq (.s (.str RI)) (iv LA (n : Nat)) = some (iv LA (bitsLen n : Nat)) := by
  show (if 0 <= (n : Int) /\ (n : Int) < (RI.size : Int) then some (V.s (.int LA (RI.get! (n : Int).toNat).toNat)) else none) = _;rw [vc, if_pos ⟨by omega, by omega⟩, HQ, Q1r n hn]
 have h8 := Mu hn;rw [e, ob];simp only [Q3, Q2];rw [w64 (n := (bitsLen n : Nat)) (by omega) (by omega), w64 (by omega) (by omega), Int.zero_add]
theorem jc {n : Nat} (hn : n < 256) : Q8 (call Ev) Fn.Nr [iv .u64 (n : Nat)] = some (iv Ly (bitsLen n : Nat)) := by
 rw [xb, pc (Q0F hn) rfl];simp only [Q3, Q2]
theorem Q1I {n : Nat} (hn : n < 256) : Q8 (call Ev) Fn.JB [iv Ly (n : Nat)] = some (iv .u64 (2 ^ bitsLen n : Nat)) := by
 rw [GG, qg (by omega) (by omega), pc (jc hn) rfl]
 simp only [Q3, Q2];have h8 := Mu hn;have e : bin Ev .shl 107 (iv .u64 1) (iv Ly (bitsLen n : Nat)) = some (iv .u64 ((1 * 2 ^ bitsLen n % 18446744073709551616 : Nat) : Int)) :=
  (show bin Ev .shl 107 (iv .u64 1) (iv Ly (bitsLen n : Nat)) = bin Ev .shl 107 (iv .u64 ((1 : Nat) : Int)) (iv .u64 (bitsLen n : Nat)) from rfl).trans (TK (k := bitsLen n) (x := 1) (by omega))
 rw [e, ob];simp only [Q3, Q2];have hp : 2 ^ bitsLen n <= 2 ^ 8 := Nat.pow_le_pow_right (by omega) h8
 rw [Nat.one_mul, CA (by omega)]
end Vm
namespace Vm
open Go Go.Sort
def Ot2 (b q : Nat) (h h' : H) : Prop := h'.n = h.n /\ ∀ c, c ≠ b -> c ≠ q -> h'.g c = h.g c /\ h'.v c = h.v c
theorem Ot2.trans {b q : Nat} {h h' h'' : H} (x : Ot2 b q h h') (y : Ot2 b q h' h'') : Ot2 b q h h'' := ⟨y.1.trans x.1, fun c h1 h2 => ⟨(y.2 c h1 h2).1.trans (x.2 c h1 h2).1, (y.2 c h1 h2).2.trans (x.2 c h1 h2).2⟩⟩
theorem Oth.l {b q : Nat} {h h' : H} (x : Oth b h h') : Ot2 b q h h' := ⟨x.1, fun c h1 _ => x.2 c h1⟩
theorem Oth.r {b q : Nat} {h h' : H} (x : Oth q h h') : Ot2 b q h h' := ⟨x.1, fun c _ h2 => x.2 c h2⟩
theorem Ot2.tidy {b q : Nat} {h h' : H} {l : List V} (x : Ot2 b q h h') (hb : b < h.n) (hq : q < h.n) : Vm.tidy h l h' = h' := by
 obtain ⟨hn, hg⟩ := x;unfold Vm.tidy
 split
 ·obtain ⟨n', g', v'⟩ := h'
  simp only at hn hg;subst hn
  congr 1
  ·funext c
   split
   · rfl
   · exact (hg c (by omega) (by omega)).1.symm
  ·funext c
   split
   · rfl
   · exact (hg c (by omega) (by omega)).2.symm
 · rfl
theorem Ot2.out {b : Nat} {h h1 : H} (x : h1.n = h.n + 1 /\ ∀ c, c ≠ b -> c < h.n -> h1.g c = h.g c /\ h1.v c = h.v c) {d : Array SeenD} (hs : Hs h1 b d) (hb : b < h.n) :
  ∃ h', Vm.tidy h [.tup []] h1 = h' /\ Hs h' b d /\ Oth b h h' := by
 refine ⟨_, rfl, ?_⟩;have hT : jF h [.tup []] h1 := by
  refine ⟨by omega, by simp [ZM], fun c hc => ?_⟩
  by_cases hcb : c = b
  ·subst hcb
   right
   rw [hs.g];simp only [List.all_eq_true];intro s hm;obtain ⟨l, hl, hm⟩ := List.mem_flatten.1 hm;obtain ⟨y, _, rfl⟩ := HR.1 hl;simp only [SeenD.cs, HH, EL, or_false] at hm
   rcases hm with rfl | rfl | rfl | rfl | rfl | rfl | rfl | rfl | rfl <;> rfl
  · exact .inl (x.2 c hcb hc)
 have e : Vm.tidy h [.tup []] h1 = ⟨h.n, fun b => if b < h.n then h1.g b else h.g b, fun b => if b < h.n then h1.v b else h.v b⟩ := if_pos hT
 rw [e];have o : Oth b h ⟨h.n, fun b => if b < h.n then h1.g b else h.g b, fun b => if b < h.n then h1.v b else h.v b⟩ := by
  refine And.intro rfl fun c hc => ?_
  by_cases hcn : c < h.n
  · simp only [if_pos hcn]; exact x.2 c hc hcn
  · exact And.intro (if_neg hcn) (if_neg hcn)
 exact And.intro (Hs.mk hb (by simp only [if_pos hb]; exact hs.g)) o
end Vm
namespace Vm
open Go Go.Sort
theorem uD {b q n a len m idx x : Nat} {h : H} {d : Array SeenD} (hs : Hs h b d) (hd : n = d.size) (hn : n <= 200) (xs : Xs h q x) (hx : x < 18446744073709551616) (hqb : q ≠ b) (h8 : 8 <= len) (hal : a + len <= n) (hm : m <= 2 * len) (hm0 : 1 <= m) (h1 : a + len / 4 * 2 <= idx + 1) (h2 : idx <= a + len / 4 * 2 + 1) (y : Nat) (hy : y = (if (xorNextN x &&& (m - 1)) >= len then (xorNextN x &&& (m - 1)) - len else xorNextN x &&& (m - 1))) :
  ∃ h', Lp.Qi 0 [sv b 0 n, iv Ly (a : Nat), iv Ly (len : Nat), pv q 0, iv .u64 (m : Nat), iv Ly (idx : Nat)] h = Lp.Qi 0 [sv b 0 n, iv Ly (a : Nat), iv Ly (len : Nat), pv q 0, iv .u64 (m : Nat), iv Ly ((idx + 1 : Nat) : Int)] h' /\ Hs h' b (swp d idx (a + y)) /\ Xs h' q (xorNextN x) /\ Ot2 b q h h' := by
 have hl4 : len / 4 * 4 <= len := Az _ _;have hl1 : 2 <= len / 4 := by omega
 rw [K8, Uo (by omega) (by omega) (by omega), ob]
 simp only [Q3, Q2];rw [show (len : Int) / 4 = ((len / 4 : Nat) : Int) from by omega, w64 (n := ((len / 4 : Nat) : Int) * 2) (by omega) (by omega), w64 (n := (a : Int) + ((len / 4 : Nat) : Int) * 2) (by omega) (by omega), w64 (n := (a : Int) + ((len / 4 : Nat) : Int) * 2 + 1) (by omega) (by omega), Q1, if_pos (by simp; omega)]
 obtain ⟨h1', e1, x1, o1⟩ := vy xs hx;have hxn := xorNextN_lt x hx;rw [e1, ob];dsimp only;simp only [Q3, Q2];rw [qg (n := (m : Int) - 1) (by omega) (by omega), show (m : Int) - 1 = ((m - 1 : Nat) : Int) from by omega, Q1h hxn (by omega), ob]
 simp only [Q3, Q2];have hand : xorNextN x &&& (m - 1) <= m - 1 := Nat.and_le_right;generalize xorNextN x &&& (m - 1) = o at hy hand;have hs1 : Hs h1' b d := ⟨by have := hs.n; have := o1.1; omega, ((o1.2 b (fun e => hqb e.symm)).1).trans hs.g⟩
 rw [w64 (n := (o : Int)) (by omega) (by omega), Q1]
 have go : ∀ z : Nat, z < len -> ∃ h', Jn.Zz (z : Int) (sv b 0 n) (a : Int) h (iv .u64 (xorNextN x : Nat), h1') (idx : Int) (len : Int) (pv q 0) (m : Int) = Lp.Qi 0 [sv b 0 n, iv Ly (a : Nat), iv Ly (len : Nat), pv q 0, iv .u64 (m : Nat), iv Ly ((idx + 1 : Nat) : Int)] h' /\ Hs h' b (swp d idx (a + z)) /\ Xs h' q (xorNextN x) /\ Ot2 b q h h' := fun z hz => by
  unfold Jn.Zz;dsimp only;rw [o1.tidy xs.n, w64 (n := (a : Int) + (z : Int)) (by omega) (by omega), show (a : Int) + (z : Int) = ((a + z : Nat) : Int) from by omega, hs1.ldG hd (by omega), hs1.ldG hd (by omega)]
  obtain ⟨h2, e2, w2, o2⟩ := hs1.st2 (x := d[a + z]!) (y := d[idx]!) hd (i := idx) (j := a + z) (by omega) (by omega)
  have oo : Ot2 b q h h2 := (Oth.r (b := b) o1).trans (Oth.l o2);rw [e2, oo.tidy hs.n xs.n, w64 (n := (idx : Int) + 1) (by omega) (by omega), show (idx : Int) + 1 = ((idx + 1 : Nat) : Int) from by omega]
  exact ⟨h2, rfl, w2, ⟨by have := x1.n; have := o2.1; omega, ((o2.2 q hqb).1).trans x1.g⟩, oo⟩
 by_cases ho : o >= len
 ·rw [if_pos (by simp; omega), w64 (n := (o : Int) - (len : Int)) (by omega) (by omega), show (o : Int) - (len : Int) = ((o - len : Nat) : Int) from by omega]
  rw [hy, if_pos ho];exact go (o - len) (by omega)
 ·rw [if_neg (by simp; omega), hy, if_neg ho]
  exact go o (by omega)
end Vm
namespace Vm
open Go Go.Sort
theorem wU {a len m idx : Nat} {st : UInt64 × Array SeenD} : (breakStep a len m st idx).1.toNat = xorNextN st.1.toNat /\ (breakStep a len m st idx).2 = swp st.2 idx (a + (if (xorNextN st.1.toNat &&& (m - 1)) >= len then (xorNextN st.1.toNat &&& (m - 1)) - len else xorNextN st.1.toNat &&& (m - 1))) := by
 unfold breakStep;simp only [xorNext_toNat, and_self]
theorem Bd {b q n a len m idx : Nat} {h : H} {st : UInt64 × Array SeenD} (hs : Hs h b st.2) (hd : n = st.2.size) (hn : n <= 200) (xs : Xs h q st.1.toNat) (hqb : q ≠ b) (h8 : 8 <= len) (hal : a + len <= n) (hm : m <= 2 * len) (hm0 : 1 <= m) (h1 : a + len / 4 * 2 <= idx + 1) (h2 : idx <= a + len / 4 * 2 + 1) :
  ∃ h', Lp.Qi 0 [sv b 0 n, iv Ly (a : Nat), iv Ly (len : Nat), pv q 0, iv .u64 (m : Nat), iv Ly (idx : Nat)] h = Lp.Qi 0 [sv b 0 n, iv Ly (a : Nat), iv Ly (len : Nat), pv q 0, iv .u64 (m : Nat), iv Ly ((idx + 1 : Nat) : Int)] h' /\ Hs h' b (breakStep a len m st idx).2 /\ n = (breakStep a len m st idx).2.size /\ Xs h' q (breakStep a len m st idx).1.toNat /\ Ot2 b q h h' := by
 obtain ⟨m1, m2⟩ := wU (a := a) (len := len) (m := m) (idx := idx) (st := st);obtain ⟨h', e, w, x, o⟩ := uD (x := st.1.toNat) hs hd hn xs (by have := st.1.toNat_lt; omega) hqb h8 hal hm hm0 h1 h2 _ rfl
 exact ⟨h', e, by rw [m2]; exact w, by rw [m2]; simpa [swp] using hd, by rw [m1]; exact x, o⟩
theorem Q0u {b n a e : Nat} {h : H} {d : Array SeenD} (hs : Hs h b d) (hd : n = d.size) (hn : n <= 200) (he : e <= n) (ha : a < e) :
  ∃ h1 h', call Ev Fn.Qi [sv b 0 n, iv Ly (a : Nat), iv Ly (e : Nat), .s (.fn Fn.Q0 [])] h = some (.tup [], h1) /\ Vm.tidy h [.tup []] h1 = h' /\ Hs h' b (breakPatterns d a e) /\ n = (breakPatterns d a e).size /\ Oth b h h' := by
 rw [JV, w64 (n := (e : Int) - (a : Int)) (by omega) (by omega), show (e : Int) - (a : Int) = ((e - a : Nat) : Int) from by omega, Q1]
 unfold breakPatterns;simp only []
 by_cases h8 : e - a >= 8
 case neg =>
  rw [if_neg (by simp; omega), if_neg h8]
  exact ⟨h, h, rfl, Q6 _ _, hs, hd, Oth.refl _ _⟩
 rw [if_pos (by simp; omega), if_pos h8]
 have hbn := hs.n;have x0 : Xs (h.new 0 [.int .u64 0]) h.n 0 := ⟨by simp, QI _ _ _⟩
 rw [qg (by omega) (by omega), x0.st, pc (Q1I (n := e - a) (by omega)) rfl]
 simp only [Q3, Q2];rw [Uo (by omega) (by omega) (by omega), ob]
 simp only [Q3, Q2];have hl4 : (e - a) / 4 * 4 <= e - a := Az _ _;have hl1 : 2 <= (e - a) / 4 := by omega
 rw [show ((e - a : Nat) : Int) / 4 = (((e - a) / 4 : Nat) : Int) from by omega, w64 (n := (((e - a) / 4 : Nat) : Int) * 2) (by omega) (by omega), w64 (n := (a : Int) + (((e - a) / 4 : Nat) : Int) * 2) (by omega) (by omega), w64 (n := (a : Int) + (((e - a) / 4 : Nat) : Int) * 2 - 1) (by omega) (by omega), show (a : Int) + (((e - a) / 4 : Nat) : Int) * 2 - 1 = ((a + (e - a) / 4 * 2 - 1 : Nat) : Int) from by omega]
 have hm : 2 ^ bitsLen (e - a) <= 2 * (e - a) := two_pow_bitsLen_le (by omega)
 have hm0 : 1 <= 2 ^ bitsLen (e - a) := Nat.one_le_two_pow;rw [Nat.one_shiftLeft];generalize 2 ^ bitsLen (e - a) = m at hm hm0 ⊢;have hl : (CC (e - a)).toNat = e - a := by
  rw [UInt64.toNat_ofNat']; omega
 have k0 : Hs ((h.new 0 [.int .u64 0]).put h.n (.rw 0 [.int .u64 ((e - a : Nat) : Int)])) b d := ⟨by simp; omega, by rw [QG (by omega), QO (by omega)]; exact hs.g⟩
 have x1 : Xs ((h.new 0 [.int .u64 0]).put h.n (.rw 0 [.int .u64 ((e - a : Nat) : Int)])) h.n (CC (e - a)).toNat := by rw [hl]; exact Xs.put x0.n
 have kn : ((h.new 0 [.int .u64 0]).put h.n (.rw 0 [.int .u64 ((e - a : Nat) : Int)])).n = h.n + 1 := by simp
 have kg : ∀ c, c < h.n -> ((h.new 0 [.int .u64 0]).put h.n (.rw 0 [.int .u64 ((e - a : Nat) : Int)])).g c = h.g c /\ ((h.new 0 [.int .u64 0]).put h.n (.rw 0 [.int .u64 ((e - a : Nat) : Int)])).v c = h.v c := fun c hc => by
  refine ⟨by rw [QG (by omega), QO (by omega)], ?_⟩
  simp [H.put, H.new, show c ≠ h.n by omega]
 generalize (h.new 0 [.int .u64 0]).put h.n (.rw 0 [.int .u64 ((e - a : Nat) : Int)]) = K at k0 x1 kn kg ⊢;obtain ⟨h2, e2, w2, d2, y2, o2⟩ := Bd (st := (CC (e - a), d)) (a := a) (len := e - a) (m := m) (idx := a + (e - a) / 4 * 2 - 1) k0 hd hn x1 (by omega) h8 (by omega) hm hm0 (by omega) (by omega)
 rw [e2];generalize breakStep a (e - a) m (CC (e - a), d) (a + (e - a) / 4 * 2 - 1) = s2 at w2 d2 y2 ⊢;obtain ⟨h3, e3, w3, d3, y3, o3⟩ := Bd (st := s2) (a := a) (len := e - a) (m := m) (idx := a + (e - a) / 4 * 2 - 1 + 1) w2 d2 hn y2 (by omega) h8 (by omega) hm hm0 (by omega) (by omega)
 rw [e3];generalize breakStep a (e - a) m s2 (a + (e - a) / 4 * 2 - 1 + 1) = s3 at w3 d3 y3 ⊢;obtain ⟨h4, e4, w4, d4, y4, o4⟩ := Bd (st := s3) (a := a) (len := e - a) (m := m) (idx := a + (e - a) / 4 * 2 - 1 + 1 + 1) w3 d3 hn y3 (by omega) h8 (by omega) hm hm0 (by omega) (by omega)
 rw [e4, show a + (e - a) / 4 * 2 - 1 + 2 = a + (e - a) / 4 * 2 - 1 + 1 + 1 from rfl]
 generalize breakStep a (e - a) m s3 (a + (e - a) / 4 * 2 - 1 + 1 + 1) = s4 at w4 d4 y4 ⊢;rw [K8, Uo (by omega) (by omega) (by omega), ob]
 simp only [Q3, Q2];rw [show ((e - a : Nat) : Int) / 4 = (((e - a) / 4 : Nat) : Int) from by omega, w64 (n := (((e - a) / 4 : Nat) : Int) * 2) (by omega) (by omega), w64 (n := (a : Int) + (((e - a) / 4 : Nat) : Int) * 2) (by omega) (by omega), w64 (n := (a : Int) + (((e - a) / 4 : Nat) : Int) * 2 + 1) (by omega) (by omega), Q1, if_neg (by simp; omega), Q6, ob, Qc]
 have oo := (o2.trans o3).trans o4;obtain ⟨h', t1, t2, t3⟩ := Ot2.out (b := b) (h := h) (h1 := h4) ⟨oo.1.trans kn, fun c hcb hc => ⟨((oo.2 c hcb (by omega)).1).trans (kg c hc).1, ((oo.2 c hcb (by omega)).2).trans (kg c hc).2⟩⟩ w4 hbn
 exact ⟨h4, h', rfl, t1, t2, d4, t3⟩
end Vm
namespace Vm
open Go Go.Sort
def Q2K (b n a e : Nat) (d : Array SeenD) (h : H) (r : Option LOut) : Prop := ∃ h' d' o, r = some o /\ ((∃ l, o = .done l h') \/ o = .ret (.tup []) h') /\ Hs h' b d' /\ Oth b h h' /\ PermIn a e d d' /\ SortedIn ltS a e d'
def YT (b n k : Nat) : Prop := ∀ (a e limit : Nat) (wb wp : Bool) (h : H) (d : Array SeenD), e - a < k -> a <= e -> e <= n -> limit <= 1000 -> Hs h b d -> n = d.size -> Below ltS a e d ->
 Q2K b n a e d h (Lp.Qe 0 [sv b 0 n, iv Ly (a : Nat), iv Ly (e : Nat), iv Ly (limit : Nat), .s (.fn Fn.Q0 []), bv wb, bv wp] h)
theorem YT.call {b n k a e limit : Nat} {h : H} {d : Array SeenD} (w : YT b n k) (hk : e - a < k) (hae : a <= e) (he : e <= n) (hl : limit <= 1000) (hs : Hs h b d) (hd : n = d.size) (hB : Below ltS a e d) :
  ∃ h' d', call Ev Fn.Qe [sv b 0 n, iv Ly (a : Nat), iv Ly (e : Nat), iv Ly (limit : Nat), .s (.fn Fn.Q0 [])] h = some (.tup [], h') /\ Hs h' b d' /\ Oth b h h' /\ PermIn a e d d' /\ SortedIn ltS a e d' := by
 rw [KT];obtain ⟨h', d', o, e1, f1, w1, o1, p1, s1⟩ := w a e limit true true h d hk hae he hl hs hd hB;rw [e1, ob]
 rcases f1 with ⟨l, rfl⟩ | rfl
 · exact ⟨h', d', rfl, w1, o1, p1, s1⟩
 · exact ⟨h', d', rfl, w1, o1, p1, s1⟩
theorem Q02 {b n a e limit p : Nat} {i858 : Int} {wb wp : Bool} {h h3 : H} {d3 : Array SeenD} (w : YT b n (e - a)) (hn : n <= 200) (hb : b < h.n) (o3 : Oth b h h3) (hs : Hs h3 b d3) (hd : n = d3.size) (he : e <= n) (hae : a < e) (hl : limit <= 1000) (hB : Below ltS a e d3) (p1 : a <= p) (p2 : p < e)
  (hp3 : i858 = (p : Int)) :
  ∃ h' d' o, Jn.ZV h3 (a : Int) (sv b 0 n) i858 (e : Int) (limit : Int) wb wp h = some o /\ ((∃ l, o = .done l h') \/ o = .ret (.tup []) h') /\ Hs h' b d' /\ Oth b h h' /\ PermIn a e d3 d' /\ SortedIn ltS a e d' := by
 subst hp3;have part : ∀ {g1 g2 g3 g4 g5 g6 g7 g8 g9 g10 g11 g12 g13 : V} {q : Bool}, ∃ h' d' o, Jn.Zu q g1 g2 g3 g4 g5 g6 g7 g8 g9 g10 g11 g12 g13 false (sv b 0 n) (a : Int) (e : Int) (p : Int) h3 (limit : Int) wb wp h = some o /\ ((∃ l, o = .done l h') \/ o = .ret (.tup []) h') /\ Hs h' b d' /\ Oth b h h' /\ PermIn a e d3 d' /\ SortedIn ltS a e d' := by
  intros
  unfold Jn.Zu;rw [Q1, if_neg (by simp)]
  obtain ⟨h4, e4, w4, o4⟩ := y6 (b := b) hs hd (by omega) he hae p1 p2
  rcases hx : partition ltS d3 a e p with ⟨mid, ap, d4⟩
  rw [hx] at e4 w4;obtain ⟨m1, m2, m3, m4, m5, m6, m7⟩ := round_part Uq (partition_holds _) p1 p2 (by omega) hB hx
  simp only [] at e4 w4;rw [e4, ob];dsimp only;simp only [Za, gx0, gx1, ob, Zc, Q2, QW];rw [if_pos (show ([_, _] : List A).length = 2 from rfl), w64 (n := (e : Int) - (a : Int)) (by omega) (by omega), Uo (by omega) (by omega) (by omega), ob]
  simp only [Q3, Q2];have o34 := o3.trans o4;have hd4 : n = d4.size := by omega
  rw [w64 (n := (mid : Int) - (a : Int)) (by omega) (by omega), w64 (n := (e : Int) - (mid : Int)) (by omega) (by omega), w64 (n := (mid : Int) + 1) (by omega) (by omega), show (mid : Int) + 1 = ((mid + 1 : Nat) : Int) from by omega, o4.tidy hs.n, Q1]
  by_cases hm : mid - a < e - mid
  ·rw [if_pos (by simp; omega)]
   obtain ⟨h5, L, e5, w5, o5, pL, sL⟩ := w.call (a := a) (e := mid) (limit := limit) (by omega) m1 (by omega) hl w4 hd4 m4
   rw [e5, ob];dsimp only;have o35 := o34.trans o5;rw [o5.tidy w4.n, o35.tidy hb];obtain ⟨bl, fin⟩ := m6 L pL sL;obtain ⟨h6, R, o, e6, f6, w6, o6, pR, sR⟩ := w (mid + 1) e limit _ _ h5 L (by omega) (by omega) he hl w5 (by rw [pL.1]; exact hd4) bl
   obtain ⟨x1, x2⟩ := fin R pR sR;exact ⟨h6, R, o, e6, f6, w6, o35.trans o6, x1, x2⟩
  ·rw [if_neg (by simp; omega)]
   obtain ⟨h5, L, e5, w5, o5, pL, sL⟩ := w.call (a := mid + 1) (e := e) (limit := limit) (by omega) (by omega) he hl w4 hd4 m5
   rw [e5, ob];dsimp only;have o35 := o34.trans o5;rw [o5.tidy w4.n, o35.tidy hb];obtain ⟨bl, fin⟩ := m7 L pL sL;obtain ⟨h6, R, o, e6, f6, w6, o6, pR, sR⟩ := w a mid limit _ _ h5 L (by omega) m1 (by omega) hl w5 (by rw [pL.1]; exact hd4) bl
   obtain ⟨x1, x2⟩ := fin R pR sR;exact ⟨h6, R, o, e6, f6, w6, o35.trans o6, x1, x2⟩
 unfold Jn.ZV;rw [Q1]
 by_cases ha0 : 0 < a
 case neg =>
  rw [if_neg (by simp; omega), Qu]
  exact part
 rw [if_pos (by simp; omega), w64 (n := (a : Int) - 1) (by omega) (by omega), show (a : Int) - 1 = ((a - 1 : Nat) : Int) from by omega, hs.ldG hd (by omega), hs.ldG hd (by omega), pc (Kz d3[a - 1]! d3[p]!) rfl]
 simp only [Q3, Q2, Qu];rw [KA]
 cases hl2 : ltS d3[a - 1]! d3[p]!
 case true => exact part
 unfold Jn.Zu;rw [Q1, if_pos (by simp)]
 obtain ⟨h4, e4, w4, o4⟩ := qI (b := b) hs hd (by omega) he hae p1 p2
 rcases hx : partitionEqual ltS d3 a e p with ⟨mid, d4⟩
 rw [hx] at e4 w4;obtain ⟨m1, m2, m3, m4, m5⟩ := round_eq Uq (partitionEqual_holds _) ha0 p1 p2 (by omega) hB hl2 hx
 simp only [] at e4 w4;rw [e4, ob];dsimp only;simp only [Q3, Q2];have o34 := o3.trans o4;rw [o4.tidy hs.n, o34.tidy hb];obtain ⟨h6, R, o, e6, f6, w6, o6, pR, sR⟩ := w mid e limit wb wp h4 d4 (by omega) m2 he hl w4 (by omega) m4
 obtain ⟨x1, x2⟩ := m5 R pR sR;exact ⟨h6, R, o, e6, f6, w6, o34.trans o6, x1, x2⟩
theorem Q03 {b n a e limit p : Nat} {i858 : Int} {wb wp : Bool} {h h3 : H} {d3 : Array SeenD} (w : YT b n (e - a)) (hn : n <= 200) (hb : b < h.n) (o3 : Oth b h h3) (hs : Hs h3 b d3) (hd : n = d3.size) (he : e <= n) (hae : a < e) (hl : limit <= 1000) (hB : Below ltS a e d3) (p1 : a <= p) (p2 : p < e)
  (hp3 : Ly.wrap ((Ly.wrap ((e : Int) - 1)) - (Ly.wrap (i858 - (a : Int)))) = (p : Int)) :
  ∃ h' d' o, Jn.ZX h3 (a : Int) (sv b 0 n) (e : Int) i858 (limit : Int) wb wp h = some o /\ ((∃ l, o = .done l h') \/ o = .ret (.tup []) h') /\ Hs h' b d' /\ Oth b h h' /\ PermIn a e d3 d' /\ SortedIn ltS a e d' := by
 have part : ∀ {g1 g2 g3 g4 g5 g6 g7 g8 g9 g10 g11 g12 g13 : V} {q : Bool}, ∃ h' d' o, Jn.Zw q g1 g2 g3 g4 g5 g6 g7 g8 g9 g10 g11 g12 g13 false (sv b 0 n) (a : Int) (e : Int) i858 h3 (limit : Int) wb wp h = some o /\ ((∃ l, o = .done l h') \/ o = .ret (.tup []) h') /\ Hs h' b d' /\ Oth b h h' /\ PermIn a e d3 d' /\ SortedIn ltS a e d' := by
  intros
  unfold Jn.Zw;rw [Q1, if_neg (by simp), hp3]
  obtain ⟨h4, e4, w4, o4⟩ := y6 (b := b) hs hd (by omega) he hae p1 p2
  rcases hx : partition ltS d3 a e p with ⟨mid, ap, d4⟩
  rw [hx] at e4 w4;obtain ⟨m1, m2, m3, m4, m5, m6, m7⟩ := round_part Uq (partition_holds _) p1 p2 (by omega) hB hx
  simp only [] at e4 w4;rw [e4, ob];dsimp only;simp only [Za, gx0, gx1, ob, Zc, Q2, QW];rw [if_pos (show ([_, _] : List A).length = 2 from rfl), w64 (n := (e : Int) - (a : Int)) (by omega) (by omega), Uo (by omega) (by omega) (by omega), ob]
  simp only [Q3, Q2];have o34 := o3.trans o4;have hd4 : n = d4.size := by omega
  rw [w64 (n := (mid : Int) - (a : Int)) (by omega) (by omega), w64 (n := (e : Int) - (mid : Int)) (by omega) (by omega), w64 (n := (mid : Int) + 1) (by omega) (by omega), show (mid : Int) + 1 = ((mid + 1 : Nat) : Int) from by omega, o4.tidy hs.n, Q1]
  by_cases hm : mid - a < e - mid
  ·rw [if_pos (by simp; omega)]
   obtain ⟨h5, L, e5, w5, o5, pL, sL⟩ := w.call (a := a) (e := mid) (limit := limit) (by omega) m1 (by omega) hl w4 hd4 m4
   rw [e5, ob];dsimp only;have o35 := o34.trans o5;rw [o5.tidy w4.n, o35.tidy hb];obtain ⟨bl, fin⟩ := m6 L pL sL;obtain ⟨h6, R, o, e6, f6, w6, o6, pR, sR⟩ := w (mid + 1) e limit _ _ h5 L (by omega) (by omega) he hl w5 (by rw [pL.1]; exact hd4) bl
   obtain ⟨x1, x2⟩ := fin R pR sR;exact ⟨h6, R, o, e6, f6, w6, o35.trans o6, x1, x2⟩
  ·rw [if_neg (by simp; omega)]
   obtain ⟨h5, L, e5, w5, o5, pL, sL⟩ := w.call (a := mid + 1) (e := e) (limit := limit) (by omega) (by omega) he hl w4 hd4 m5
   rw [e5, ob];dsimp only;have o35 := o34.trans o5;rw [o5.tidy w4.n, o35.tidy hb];obtain ⟨bl, fin⟩ := m7 L pL sL;obtain ⟨h6, R, o, e6, f6, w6, o6, pR, sR⟩ := w a mid limit _ _ h5 L (by omega) m1 (by omega) hl w5 (by rw [pL.1]; exact hd4) bl
   obtain ⟨x1, x2⟩ := fin R pR sR;exact ⟨h6, R, o, e6, f6, w6, o35.trans o6, x1, x2⟩
 unfold Jn.ZX;rw [Q1]
 by_cases ha0 : 0 < a
 case neg =>
  rw [if_neg (by simp; omega), Qu]
  exact part
 rw [if_pos (by simp; omega), w64 (n := (a : Int) - 1) (by omega) (by omega), show (a : Int) - 1 = ((a - 1 : Nat) : Int) from by omega, hs.ldG hd (by omega), hp3, hs.ldG hd (by omega), pc (Kz d3[a - 1]! d3[p]!) rfl]
 simp only [Q3, Q2, Qu];rw [KA]
 cases hl2 : ltS d3[a - 1]! d3[p]!
 case true => exact part
 unfold Jn.Zw;rw [Q1, if_pos (by simp), hp3]
 obtain ⟨h4, e4, w4, o4⟩ := qI (b := b) hs hd (by omega) he hae p1 p2
 rcases hx : partitionEqual ltS d3 a e p with ⟨mid, d4⟩
 rw [hx] at e4 w4;obtain ⟨m1, m2, m3, m4, m5⟩ := round_eq Uq (partitionEqual_holds _) ha0 p1 p2 (by omega) hB hl2 hx
 simp only [] at e4 w4;rw [e4, ob];dsimp only;simp only [Q3, Q2];have o34 := o3.trans o4;rw [o4.tidy hs.n, o34.tidy hb];obtain ⟨h6, R, o, e6, f6, w6, o6, pR, sR⟩ := w mid e limit wb wp h4 d4 (by omega) m2 he hl w4 (by omega) m4
 obtain ⟨x1, x2⟩ := m5 R pR sR;exact ⟨h6, R, o, e6, f6, w6, o34.trans o6, x1, x2⟩
end Vm
namespace Vm
open Go Go.Sort
theorem Q01 {b n a e limit p : Nat} {q wb wp : Bool} {h h2 : H} {d2 : Array SeenD} (w : YT b n (e - a)) (hn : n <= 200) (hb : b < h.n) (o2 : Oth b h h2) (hs : Hs h2 b d2) (hd : n = d2.size) (he : e <= n) (hae : a < e) (hl : limit <= 1000) (hB : Below ltS a e d2) (p1 : a <= p) (p2 : p < e) :
  ∃ h' d' o, Jn.ZU q (sv b 0 n) (a : Int) (e : Int) h2 (p : Int) (limit : Int) wb wp h = some o /\ ((∃ l, o = .done l h') \/ o = .ret (.tup []) h') /\ Hs h' b d' /\ Oth b h h' /\ PermIn a e d2 d' /\ SortedIn ltS a e d' := by
 unfold Jn.ZU;rw [Q1]
 cases q
 ·rw [if_neg (by simp)]
  exact Q02 w hn hb o2 hs hd he hae hl hB p1 p2 rfl
 rw [if_pos rfl];obtain ⟨h3, e3, w3, z3, o3⟩ := TX (b := b) hs hd (by omega) he hae
 obtain ⟨q1, q2⟩ := partialInsertionSort_holds Uq d2 a e hae (by omega) hB
 rw [e3, ob];dsimp only;simp only [Q3, QW];rw [o3.tidy hs.n, Q1]
 cases hq : (partialInsertionSort ltS d2 a e).2
 ·rw [if_neg (by simp)]
  obtain ⟨h', d', o, x1, x2, x3, x4, x5, x6⟩ := Q02 (limit := limit) (p := p) (wb := wb) (wp := wp) (i858 := (p : Int)) w hn hb (o2.trans o3) w3 (by omega) he hae hl (hB.perm (by omega) q1) p1 p2 rfl
  exact ⟨h', d', o, x1, x2, x3, x4, permIn_trans _ _ _ _ _ q1 x5, x6⟩
 ·rw [if_pos rfl]
  exact ⟨h3, _, _, rfl, .inr rfl, w3, o2.trans o3, q1, q2 hq⟩
theorem Q3c {b n a e limit p : Nat} {i858 : Int} {q wb wp : Bool} {h h0 h2 : H} {d2 : Array SeenD} (w : YT b n (e - a)) (hn : n <= 200) (hb : b < h.n) (ht : Vm.tidy h0 [.tup []] h2 = h2) (o2 : Oth b h h2) (hs : Hs h2 b d2) (hd : n = d2.size) (he : e <= n) (hae : a < e) (hl : limit <= 1000) (hB : Below ltS a e d2) (p1 : a <= p) (p2 : p < e)
  (hp3 : Ly.wrap ((Ly.wrap ((e : Int) - 1)) - (Ly.wrap (i858 - (a : Int)))) = (p : Int)) :
  ∃ h' d' o, Jn.Zv q (sv b 0 n) (a : Int) (e : Int) h0 (.tup [], h2) i858 (limit : Int) wb wp h = some o /\ ((∃ l, o = .done l h') \/ o = .ret (.tup []) h') /\ Hs h' b d' /\ Oth b h h' /\ PermIn a e d2 d' /\ SortedIn ltS a e d' := by
 unfold Jn.Zv;dsimp only;rw [Q1, ht]
 cases q
 ·rw [if_neg (by simp)]
  exact Q03 w hn hb o2 hs hd he hae hl hB p1 p2 hp3
 rw [if_pos rfl];obtain ⟨h3, e3, w3, z3, o3⟩ := TX (b := b) hs hd (by omega) he hae
 obtain ⟨q1, q2⟩ := partialInsertionSort_holds Uq d2 a e hae (by omega) hB
 rw [e3, ob];dsimp only;simp only [Q3, QW];rw [o3.tidy hs.n, Q1]
 cases hq : (partialInsertionSort ltS d2 a e).2
 ·rw [if_neg (by simp)]
  obtain ⟨h', d', o, x1, x2, x3, x4, x5, x6⟩ := Q03 (limit := limit) (p := p) (wb := wb) (wp := wp) (i858 := i858) w hn hb (o2.trans o3) w3 (by omega) he hae hl (hB.perm (by omega) q1) p1 p2 hp3
  exact ⟨h', d', o, x1, x2, x3, x4, permIn_trans _ _ _ _ _ q1 x5, x6⟩
 ·rw [if_pos rfl]
  exact ⟨h3, _, _, rfl, .inr rfl, w3, o2.trans o3, q1, q2 hq⟩
end Vm
namespace Vm
open Go Go.Sort
theorem Hs.frz {h : H} {b n : Nat} {d : Array SeenD} (hs : Hs h b d) (hd : n = d.size) : QL h (sv b 0 n) = some (lv (sns d)) := by
 have := MG (h := h) (b := b) (z := 9) (d := 7) (rows := sns d) hs.n (by omega) hs.g (fun r hr => by
  obtain ⟨x, _, rfl⟩ := HR.1 hr; rfl) (fun r hr s hm => by
  obtain ⟨x, _, rfl⟩ := HR.1 hr;simp only [SeenD.cs, HH, EL, or_false] at hm
  rcases hm with rfl | rfl | rfl | rfl | rfl | rfl | rfl | rfl | rfl <;> first | exact B8 | exact zG | exact uz)
 have hl : (sns d).length = n := by unfold sns; simp [hd]
 rw [hl] at this;rw [Y1, this]; rfl
theorem Q00 {b n a e limit : Nat} {wb wp : Bool} {h h1 : H} {d : Array SeenD} (w : YT b n (e - a)) (hn : n <= 200) (hb : b < h.n) (o1 : Oth b h h1) (hs : Hs h1 b d) (hd : n = d.size) (he : e <= n) (hae : a < e) (hl : limit <= 1000) (hB : Below ltS a e d) :
  ∃ h' d' o, Jn.ZS (limit : Int) h1 (sv b 0 n) (a : Int) (e : Int) wb wp h = some o /\ ((∃ l, o = .done l h') \/ o = .ret (.tup []) h') /\ Hs h' b d' /\ Oth b h h' /\ PermIn a e d d' /\ SortedIn ltS a e d' := by
 unfold Jn.ZS;rw [Qa (hs.frz hd) (Qa XG (Qa XG (Qa (show QL h1 (V.s (.fn Fn.Q0 [])) = some (.s (.fn Fn.Q0 [])) from rfl) QE))), ob, Z2, pc (vJ (d := d) (by omega) (by omega) hae) rfl]
 obtain ⟨c1, c2⟩ := choosePivot_holds ltS d a e hae;generalize choosePivot ltS d a e = c at c1 c2 ⊢;simp only [Za, gx0, gx1, ob, Zc, Q2];rw [if_pos (show ([_, _] : List A).length = 2 from rfl), Q1]
 by_cases hc : hintCode c.2 = 2
 ·rw [if_pos (by simp [hc])]
  obtain ⟨h2, e2, w2, o2⟩ := jY (b := b) hs hd (by omega) he hae
  have q1 := reverseRange_holds d a e (by omega) (by omega)
  rw [e2, ob];have k : ∀ q : Bool, ∃ h' d' o, Jn.Zv q (sv b 0 n) (a : Int) (e : Int) h1 (.tup [], h2) (c.1 : Int) (limit : Int) wb wp h = some o /\ ((∃ l, o = .done l h') \/ o = .ret (.tup []) h') /\ Hs h' b d' /\ Oth b h h' /\ PermIn a e d d' /\ SortedIn ltS a e d' := fun q => by
   obtain ⟨h', d', o, x1, x2, x3, x4, x5, x6⟩ := Q3c (q := q) (limit := limit) (p := e - 1 - (c.1 - a)) (wb := wb) (wp := wp) (i858 := (c.1 : Int)) (h0 := h1) w hn hb (o2.tidy hs.n) (o1.trans o2) w2 (by rw [q1.1]; exact hd) he hae hl (hB.perm (by omega) q1) (by omega) (by omega) (by rw [w64 (n := (e : Int) - 1) (by omega) (by omega), w64 (n := (c.1 : Int) - (a : Int)) (by omega) (by omega), w64 (by omega) (by omega)]; omega)
   exact ⟨h', d', o, x1, x2, x3, x4, permIn_trans _ _ _ _ _ q1 x5, x6⟩
  have k3 : ∀ q : Bool, ∃ h' d' o, Jn.ZW q (sv b 0 n) (a : Int) (e : Int) h1 (.tup [], h2) (c.1 : Int) (limit : Int) wb wp h = some o /\ ((∃ l, o = .done l h') \/ o = .ret (.tup []) h') /\ Hs h' b d' /\ Oth b h h' /\ PermIn a e d d' /\ SortedIn ltS a e d' := fun q => by
   unfold Jn.ZW;rw [Q1]
   cases q
   · rw [if_neg (by simp)]; exact k _
   · rw [if_pos rfl]; exact k _
  rw [Q1]
  cases wb
  · rw [if_neg (by simp)]; exact k3 _
  · rw [if_pos rfl]; exact k3 _
 ·rw [if_neg (by simpa using hc)]
  have k3 : ∀ q : Bool, ∃ h' d' o, Jn.ZT q (hintCode c.2) (sv b 0 n) (a : Int) (e : Int) h1 (c.1 : Int) (limit : Int) wb wp h = some o /\ ((∃ l, o = .done l h') \/ o = .ret (.tup []) h') /\ Hs h' b d' /\ Oth b h h' /\ PermIn a e d d' /\ SortedIn ltS a e d' := fun q => by
   unfold Jn.ZT;rw [Q1]
   cases q
   · rw [if_neg (by simp)]; exact Q01 w hn hb o1 hs hd he hae hl hB c1 c2
   · rw [if_pos rfl]; exact Q01 w hn hb o1 hs hd he hae hl hB c1 c2
  rw [Q1]
  cases wb
  · rw [if_neg (by simp)]; exact k3 _
  · rw [if_pos rfl]; exact k3 _
end Vm
namespace Vm
open Go Go.Sort
theorem Q1H {b n : Nat} (hn : n <= 200) : ∀ k, YT b n k := by
 intro k
 induction k with
 | zero => intro a e limit wb wp h d hk; omega
 | succ k ih =>
  intro a e limit wb wp h d hk hae he hl hs hd hB;have w : YT b n (e - a) := fun a' e' l' wb' wp' h' d' h1 => ih a' e' l' wb' wp' h' d' (by omega)
  unfold Q2K;rw [KD, w64 (n := (e : Int) - (a : Int)) (by omega) (by omega), Q1]
  by_cases h12 : e - a <= 12
  ·rw [if_pos (by simp; omega)]
   obtain ⟨h1, e1, w1, o1⟩ := xa (b := b) (a := a) hs hd (by omega) he (by omega)
   obtain ⟨p1, s1⟩ := insertionSort_holds Uq d a e hae (by omega)
   rw [e1, ob];dsimp only;rw [o1.tidy hs.n];exact ⟨h1, _, _, rfl, .inr rfl, w1, o1, p1, s1⟩
  rw [if_neg (by simp; omega), Q1]
  by_cases h0 : limit = 0
  ·rw [if_pos (by simp [h0])]
   obtain ⟨h1, e1, w1, o1⟩ := Q1C (b := b) (a := a) hs hd (by omega) he (by omega)
   obtain ⟨p1, s1⟩ := heapSort_holds Uq d a e hae (by omega)
   rw [e1, ob];dsimp only;rw [o1.tidy hs.n];exact ⟨h1, _, _, rfl, .inr rfl, w1, o1, p1, s1⟩
  rw [if_neg (by simpa using h0), Q1]
  cases wb
  ·rw [if_pos (show (!false) = true from rfl)]
   obtain ⟨h1, h', e1, t1, w1, z1, o1⟩ := Q0u (b := b) (a := a) hs hd hn he (by omega)
   have q1 := breakPatterns_holds d a e hae (by omega)
   rw [e1, ob];dsimp only;rw [t1, w64 (n := (limit : Int) - 1) (by omega) (by omega), show (limit : Int) - 1 = ((limit - 1 : Nat) : Int) from by omega]
   obtain ⟨h'', d', o, x1, x2, x3, x4, x5, x6⟩ := Q00 (limit := limit - 1) (wb := false) (wp := wp) w hn hs.n o1 w1 z1 he (by omega) (by omega) (hB.perm (by omega) q1)
   exact ⟨h'', d', o, x1, x2, x3, x4, permIn_trans _ _ _ _ _ q1 x5, x6⟩
  ·rw [if_neg (by simp)]
   exact Q00 w hn hs.n (Oth.refl _ _) hs hd he (by omega) hl hB
theorem Q1z {b n : Nat} {h : H} {d : Array SeenD} (hs : Hs h b d) (hd : n = d.size) (hn : n <= 200) :
  ∃ h' d', call Ev Fn.X3 [sv b 0 n, .s (.fn Fn.Q0 [])] h = some (.tup [], h') /\ Hs h' b d' /\ Oth b h h' /\ PermIn 0 n d d' /\ SortedIn ltS 0 n d' := by
 rw [Ky];simp only [Xi, ob, Q3, Q2];rw [qg (by omega) (by omega), pc (jc (n := n) (by omega)) rfl]
 simp only [Q3, Q2];have h8 := Mu (n := n) (by omega)
 obtain ⟨h', d', e1, w1, o1, p1, s1⟩ := (Q1H (b := b) hn (n + 1)).call (a := 0) (e := n) (limit := bitsLen n) (by omega) (by omega) (Hx _) (by omega) hs hd (.inl rfl)
 have e2 : call Ev Fn.Qe [sv b 0 n, iv Ly 0, iv Ly (n : Nat), iv Ly (bitsLen n : Nat), .s (.fn Fn.Q0 [])] h = some (.tup [], h') := e1;rw [e2, ob];dsimp only;rw [o1.tidy hs.n];exact ⟨h', d', rfl, w1, o1, p1, s1⟩
end Vm
namespace Vm
open Go Go.Sort
theorem kY {h : H} : call Ev Fn.X3 [.s (.sl none 0), .s (.fn Fn.Q0 [])] h = some (.tup [], h) := by
 rw [Ky];have e0 : Xi (.sl 50) (.s (.sl none 0)) = some (iv Ly ((0 : Nat) : Int)) := rfl;rw [e0];simp only [ob, Q3, Q2];rw [qg (by omega) (by omega), pc (jc (n := 0) (by omega)) rfl]
 simp only [Q3, Q2];have i1 : call Ev Fn.Qf [.s (.sl none 0), iv Ly 0, iv Ly 0, .s (.fn Fn.Q0 [])] h = some (.tup [], h) := by
  rw [Ko, w64 (by omega) (by omega), X6, Q1, if_neg (by simp), Q6, ob, Qc]
 have p1 : call Ev Fn.Qe [.s (.sl none 0), iv Ly 0, iv Ly ((0 : Nat) : Int), iv Ly (bitsLen 0 : Nat), .s (.fn Fn.Q0 [])] h = some (.tup [], h) := by
  rw [KT, KD, w64 (by omega) (by omega), Q1, if_pos (by simp)]
  show ((call Ev Fn.Qf [.s (.sl none 0), iv Ly 0, iv Ly 0, .s (.fn Fn.Q0 [])] h).bind _).bind _ = _;rw [i1, ob];dsimp only;rw [Q6, ob];rfl
 rw [p1, ob];dsimp only;rw [Q6]
end Vm
namespace Vm
open Go
theorem kU {cs r : List S} (h : cs.length <= r.length) : setAt cs 0 r = r := by simp [setAt, ET h]
def Zl (h : H) (zs cs : List S) : H := (h.new 0 zs).put h.n (.rw 0 cs)
theorem ZE (h : H) (zs cs : List S) : K6 h (Zl h zs cs) := ((K6.refl h).new).put (Hx _)
theorem XK (h : H) (zs cs : List S) : (Zl h zs cs).n = h.n + 1 := rfl
theorem JZ (h : H) (zs cs : List S) : (Zl h zs cs).g h.n = .rw 0 cs := Z9 _ _ _
theorem VV (h : H) (zs cs : List S) : (Zl h zs cs).cells h.n = cs := by
 unfold H.cells; rw [if_pos (by rw [XK]; omega), JZ]; rfl
theorem Uv {h : H} {zs cs : List S} {l : List V} (hl : l.all (ZM h.n) = true) : tidy h l (Zl h zs cs) = h := BZ (ZE h zs cs) hl
section
variable {R : Type}
theorem K4 {z : Nat} {h : H} {zs cs : List S} {k : H -> Option R} (hz : zs.length = z) (hc : cs.length = z) : stK z (h.new 0 zs) (pv h.n 0) (.agg cs) k = k (Zl h zs cs) := by
 rw [Zq (z := z) (o := 0) (b := h.n) (r := cs) (e := 0) (cs := zs) (by simp) (QI h _ _) (.inr rfl) hc (by omega), kU (by omega)]
 rfl
end
theorem YH {h : H} {zs cs : List S} {n o : Nat} {r : List S} (hn : o + n <= cs.length) (hr : (cs.drop o).take n = r) : Qp n (Zl h zs cs) (pv h.n o) = some r := by
 have := VV h zs cs;have h2 : h.n < (Zl h zs cs).n := by rw [XK]; omega
 simp only [Qp];rw [if_pos ⟨h2, by rw [this]; exact hn⟩, this, hr]
theorem Xg {h : H} {zs cs : List S} {o : Nat} {x : S} (hx : cs[o]? = some x) : Qb (Zl h zs cs) (pv h.n o) = some x := by
 simp only [Qb]; rw [VV, hx]
end Vm
namespace Vm
open Go Go.Sort
def Ls (h : H) (y : S) (l : List SeenD) : Option Nat -> Prop
 | none => y = .sl none 0 /\ l = []
 | some b => y = .sl (some (b, 0)) l.length /\ b < h.n /\ h.g b = .rw 9 (l.map SeenD.cs).flatten
theorem Ls.frame {h h' : H} {y : S} {l : List SeenD} {o : Option Nat} (w : Ls h y l o) (hf : ∀ b, o = some b -> b < h'.n /\ h'.g b = h.g b) : Ls h' y l o := by
 cases o with
 | none => exact w
 | some b =>
  obtain ⟨h1, h2, h3⟩ := w;obtain ⟨h4, h5⟩ := hf b rfl;exact ⟨h1, h4, by rw [h5]; exact h3⟩
theorem Ls.lt {h : H} {y : S} {l : List SeenD} {b : Nat} (w : Ls h y l (some b)) : b < h.n := w.2.1
theorem Ls.len {h : H} {y : S} {l : List SeenD} {o : Option Nat} {t : Nat} (w : Ls h y l o) : Xi (.sl t) (.s y) = some (iv Ly (l.length : Int)) := by
 cases o with
 | none => obtain ⟨rfl, rfl⟩ := w; rfl
 | some b => obtain ⟨rfl, _⟩ := w; rfl
theorem Ls.hs {h : H} {y : S} {l : List SeenD} {b : Nat} (w : Ls h y l (some b)) : Hs h b l.toArray := ⟨w.2.1, by simpa using w.2.2⟩
theorem Ls.app {h : H} {y : S} {l : List SeenD} {o : Option Nat} {x : SeenD} (w : Ls h y l o) (hl : l.length + 1 <= lim) :
  ∃ h', Zm 9 (h.new 9 x.cs) (.s y) (sv h.n 0 1) = some (sv (h.n + 1) 0 (l.length + 1), h') /\ Ls h' (.sl (some (h.n + 1, 0)) (l.length + 1)) (l ++ [x]) (some (h.n + 1)) /\ h'.n = h.n + 2 /\ ∀ c, c < h.n -> o ≠ some c -> h'.g c = h.g c := by
 have cy : Z6 9 (h.new 9 x.cs) (sv h.n 0 1) = some x.cs := by
  simp only [Z6, H.cells, Xf, QI, Blk.cells];rw [if_pos ⟨by omega, by simp⟩]
  simp
 cases o with
 | none =>
  obtain ⟨rfl, rfl⟩ := w;refine ⟨(h.new 9 x.cs).new 9 x.cs, ?_, ⟨by simp, by simp, ?_⟩, by simp, fun c hc _ => ?_⟩
  ·simp only [Zm, cy, ob, Uh]
   rw [if_pos ⟨trivial, by simpa using hl, by omega⟩, if_neg (by omega)]
   simp
  ·have := QI (h.new 9 x.cs) 9 x.cs
   simpa using this
  · rw [QO (by simp; omega), QO (by omega)]
 | some b =>
  obtain ⟨rfl, h2, h3⟩ := w;have hbn : b ≠ h.n := by omega
  have cx : Z6 9 (h.new 9 x.cs) (sv b 0 l.length) = some (l.map SeenD.cs).flatten := by
   have hc : (h.new 9 x.cs).cells b = (l.map SeenD.cs).flatten := by unfold H.cells; rw [if_pos (by simp; omega), QO hbn, h3]; rfl
   have := Ri l;simp only [Z6, hc];rw [if_pos ⟨by simp; omega, by omega⟩, HX, Fz (by omega)]
  refine ⟨((h.new 9 x.cs).put b .dead).new 9 ((l.map SeenD.cs).flatten ++ x.cs), ?_, ⟨by simp, by simp, ?_⟩, by simp, fun c hc hcb => ?_⟩
  ·simp only [Zm, cx, cy, ob, Uh]
   rw [if_pos ⟨by rw [Xf]; omega, hl, by omega⟩, QO hbn, h3]
   simp only [if_true];rfl
  ·have := QI ((h.new 9 x.cs).put b .dead) 9 ((l.map SeenD.cs).flatten ++ x.cs)
   simpa using this
  · rw [QO (by simp; omega), QG (fun e => hcb (by rw [e])), QO (by omega)]
theorem Gy {h h' : H} {l : List V} (hl : l.all (ZM h.n) = false) : tidy h l h' = h' := by
 unfold tidy;rw [if_neg]
 rintro ⟨_, h2, _⟩
 rw [hl] at h2; cases h2
abbrev ptC (a b : Int) : List S := [.int Ly a, .int Ly b]
def mvE (ms : List SpotD) : List (List S × A) := ms.map fun x => (ptC x.p x.s, .agg x.c.row.cs)
def mtE (d : List (Int × Int)) : List (List S × A) := d.map fun x => (ptC x.1 x.2, .s (.bool true))
theorem Rs (a b c d : Int) : eqC Ev 8 110 (ptC a b) (ptC c d) = some ((a == c) && ((b == d) && true)) := by kernel_rfl
theorem Ta (a b : Int) : NZ Ev 109 (.agg (ptC a b)) = some (110, 36, ptC a b) := by
 have e : NZ Ev 109 (.agg (ptC a b)) = (eqC Ev 8 110 (ptC a b) (ptC a b)).bind fun _ => some (110, 36, ptC a b) := by kernel_rfl
 rw [e, Rs, ob]
theorem xZ (a b : Int) : NZ Ev 112 (.agg (ptC a b)) = some (110, 4, ptC a b) := by
 have e : NZ Ev 112 (.agg (ptC a b)) = (eqC Ev 8 110 (ptC a b) (ptC a b)).bind fun _ => some (110, 4, ptC a b) := by kernel_rfl
 rw [e, Rs, ob]
theorem NW {h : H} {b : Nat} {es : List (List S × A)} (hb : b < h.n) (hg : h.g b = .mp es) : Vg h (.s (.mp (some b))) = some (b, es) := by
 simp only [Vg, hb, if_true, hg]
theorem Bu (a b : Int) : ∀ (ms : List SpotD) (i : Nat), (mvF ms a b = none /\ Jx Ev 110 (ptC a b) (mvE ms) i = some none) \/ ∃ r j k, mvF ms a b = some r /\ Jx Ev 110 (ptC a b) (mvE ms) i = some (some (j, k, .agg r.cs))
 | [], i => .inl ⟨rfl, rfl⟩
 | x :: ms, i => by
  have ih := Bu a b ms (i + 1);have e : Jx Ev 110 (ptC a b) (mvE (x :: ms)) i = bif ((a == (x.p : Int)) && ((b == (x.s : Int)) && true)) then some (some (i, ptC x.p x.s, .agg x.c.row.cs)) else Jx Ev 110 (ptC a b) (mvE ms) (i + 1) := by
   rw [show mvE (x :: ms) = (ptC x.p x.s, A.agg x.c.row.cs) :: mvE ms from rfl, Jx, Rs, ob]
  have e2 : mvF (x :: ms) a b = bif ((a == (x.p : Int)) && ((b == (x.s : Int)) && true)) then some x.c.row else mvF ms a b := by
   unfold mvF;have hd : ∀ a b : Int, decide (a = b) = (a == b) := fun a b => by by_cases h : a = b <;> simp [h]
   rw [DF, hd, hd, Bool.and_true]
   cases (a == (x.p : Int) && b == (x.s : Int)) <;> rfl
  rw [e, e2]
  cases hc : ((a == (x.p : Int)) && ((b == (x.s : Int)) && true))
  · simpa using ih
  · exact .inr ⟨_, _, _, rfl, rfl⟩
theorem Q0R {h : H} {b : Nat} {ms : List SpotD} (hb : b < h.n) (hg : h.g b = .mp (mvE ms)) (p s : Int) : JQ Ev 109 true h (.s (.mp (some b))) (.agg (ptC p s)) = some (.tup [.agg ((mvF ms p s).getD noR).cs, .s (.bool (mvF ms p s).isSome)]) := by
 unfold JQ;rw [NW hb hg, ob, Ta, ob];have h4 : ∃ te, Ev.ty 36 = some te /\ Bg te = some (.agg noR.cs) := ⟨⟨4, 40, [.int Ly 0, .int Ly 0, .int Ly 0, .str ⟨#[]⟩], true, .st [(0, 2), (1, 2), (2, 2), (3, 9)], true⟩, by kernel_rfl, rfl⟩
 obtain ⟨te, h5, h6⟩ := h4;simp only [h5, h6, ob]
 rcases Bu p s ms 0 with ⟨h7, h8⟩ | ⟨r, j, k, h7, h8⟩
 · rw [h7, h8]; rfl
 · rw [h7, h8]; rfl
theorem ua {h : H} {b : Nat} {ms : List SpotD} (hb : b < h.n) (hg : h.g b = .mp (mvE ms)) (p s : Int) : JQ Ev 109 false h (.s (.mp (some b))) (.agg (ptC p s)) = some (.agg ((mvF ms p s).getD noR).cs) := by
 unfold JQ;rw [NW hb hg, ob, Ta, ob];have h4 : ∃ te, Ev.ty 36 = some te /\ Bg te = some (.agg noR.cs) := ⟨⟨4, 40, [.int Ly 0, .int Ly 0, .int Ly 0, .str ⟨#[]⟩], true, .st [(0, 2), (1, 2), (2, 2), (3, 9)], true⟩, by kernel_rfl, rfl⟩
 obtain ⟨te, h5, h6⟩ := h4;simp only [h5, h6, ob]
 rcases Bu p s ms 0 with ⟨h7, h8⟩ | ⟨r, j, k, h7, h8⟩
 · rw [h7, h8]; rfl
 · rw [h7, h8]; rfl
theorem Q1n {h : H} {b : Nat} {ms : List SpotD} (hb : b < h.n) (hg : h.g b = .mp (mvE ms)) {x : SpotD} (hn : mvF ms x.p x.s = none) : Gv Ev 109 h (.s (.mp (some b))) (.agg (ptC x.p x.s)) (.agg x.c.row.cs) = some (h.put b (.mp (mvE (ms ++ [x])))) := by
 unfold Gv;rw [NW hb hg, ob, Ta, ob];rw [show V.toA (.agg x.c.row.cs) = some (.agg x.c.row.cs) from rfl, ob, show ((ptC (x.p : Int) (x.s : Int)).all plS && plA (.agg x.c.row.cs)) = true from rfl, cond_true]
 rcases Bu x.p x.s ms 0 with ⟨h7, h8⟩ | ⟨r, j, k, h7, h8⟩
 · rw [h8, ob]; simp [mvE]
 · rw [h7] at hn; cases hn
theorem Th (a b : Int) : ∀ (d : List (Int × Int)) (i : Nat), ((a, b) ∉ d /\ Jx Ev 110 (ptC a b) (mtE d) i = some none) \/ ((a, b) ∈ d /\ ∃ j k, Jx Ev 110 (ptC a b) (mtE d) i = some (some (j, k, .s (.bool true))))
 | [], i => .inl ⟨by simp, rfl⟩
 | x :: d, i => by
  have ih := Th a b d (i + 1);have e : Jx Ev 110 (ptC a b) (mtE (x :: d)) i = bif ((a == x.1) && ((b == x.2) && true)) then some (some (i, ptC x.1 x.2, .s (.bool true))) else Jx Ev 110 (ptC a b) (mtE d) (i + 1) := by
   rw [show mtE (x :: d) = (ptC x.1 x.2, A.s (.bool true)) :: mtE d from rfl, Jx, Rs, ob]
  rw [e]
  cases hc : ((a == x.1) && ((b == x.2) && true))
  ·have hne : (a, b) ≠ x := by
    intro hh;rw [<- hh] at hc;simp at hc
   rcases ih with ⟨h1, h2⟩ | ⟨h1, h2⟩
   · exact .inl ⟨by simp [hne, h1], h2⟩
   · exact .inr ⟨by simp [h1], h2⟩
  ·have hq : (a, b) = x := by
    simp only [Bool.and_true, HE, beq_iff_eq] at hc;exact Prod.ext hc.1 hc.2
   exact .inr ⟨by simp [hq], _, _, rfl⟩
theorem Q0S {h : H} {b : Nat} {d : List (Int × Int)} (hb : b < h.n) (hg : h.g b = .mp (mtE d)) (p s : Int) : JQ Ev 112 false h (.s (.mp (some b))) (.agg (ptC p s)) = some (bv (decide ((p, s) ∈ d))) := by
 unfold JQ;rw [NW hb hg, ob, xZ, ob];have h4 : ∃ te, Ev.ty 4 = some te /\ Bg te = some (.s (.bool false)) := ⟨⟨1, 1, [.bool false], false, .bool, false⟩, by kernel_rfl, rfl⟩
 obtain ⟨te, h5, h6⟩ := h4;simp only [h5, h6, ob]
 rcases Th p s d 0 with ⟨h7, h8⟩ | ⟨h7, j, k, h8⟩
 · rw [h8]; simp [h7, A.v]
 · rw [h8]; simp [h7, A.v]
theorem Q1o {h : H} {b : Nat} {d : List (Int × Int)} (hb : b < h.n) (hg : h.g b = .mp (mtE d)) {p s : Int} (hn : (p, s) ∉ d) : Gv Ev 112 h (.s (.mp (some b))) (.agg (ptC p s)) (bv true) = some (h.put b (.mp (mtE (d ++ [(p, s)])))) := by
 unfold Gv;rw [NW hb hg, ob, xZ, ob];rw [show V.toA (bv true) = some (.s (.bool true)) from rfl, ob, show ((ptC p s).all plS && plA (.s (.bool true))) = true from rfl, cond_true]
 rcases Th p s d 0 with ⟨h7, h8⟩ | ⟨h7, _⟩
 · rw [h8, ob]; simp [mtE]
 · exact absurd h7 hn
structure Kb (b : Nat) (h h' : H) : Prop where
 n : h'.n = h.n
 o : ∀ c, c < h.n -> c ≠ b -> h'.g c = h.g c /\ h'.v c = h.v c
theorem Q0g {h h' : H} {l : List V} {b : Nat} {es : List (List S × A)} (hn : h.n <= h'.n) (hl : l.all (ZM h.n) = true) (hb : b < h.n) (hg : h'.g b = .mp es) (ho : ∀ c, c < h.n -> c ≠ b -> h'.g c = h.g c /\ h'.v c = h.v c) :
  Kb b h (tidy h l h') /\ (tidy h l h').g b = .mp es := by
 unfold tidy;rw [if_pos]
 ·refine ⟨⟨rfl, fun c hc hcb => ?_⟩, ?_⟩
  · simp only [if_pos hc]; exact ho c hc hcb
  · simp only [if_pos hb]; exact hg
 ·refine ⟨hn, hl, fun c hc => ?_⟩
  by_cases hcb : c = b
  · subst hcb; right; rw [hg]; rfl
  · exact .inl (ho c hc hcb)
end Vm
