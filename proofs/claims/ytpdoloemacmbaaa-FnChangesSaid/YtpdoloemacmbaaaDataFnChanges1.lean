/-
  What both ways of the law come to, and that the law returns true.
-/
import Derived.Test.YtpdoloemacmbaaaTyp
import Derived.Test.YtpdoloemacmbaaaEqs
import Derived.Test.YtpdoloemacmbaaaDl
set_option linter.unusedVariables false
set_option maxRecDepth 100000
set_option linter.unusedSimpArgs false
set_option linter.unusedSectionVars false
set_option maxHeartbeats 1000000
/-
  Numbers between two others.
-/
namespace Vm
open Go
def inB (n a b : Int) : Bool := decide (a ≤ n) && decide (n ≤ b)
theorem p_l1In (n a b : Int) : pureV (call Ev) Fn.spec_l1In [iv .i64 n, iv .i64 a, iv .i64 b] = some (bv (inB n a b)) := by
  rw [pu_spec_l1In, vcase_b]
  unfold inB
  split <;> simp_all <;> omega
theorem p_in (n a b : Int) : pureV (call Ev) Fn.impl_in [iv .i64 n, iv .i64 a, iv .i64 b] = some (bv (inB n a b)) := by
  rw [pu_impl_in, vcase_b]
  unfold inB
  split <;> simp_all <;> omega
end Vm
/-
  What the functions on rows come to.
-/
namespace Vm
open Go

structure RowD where
  tab : Int
  key : Int
  val : Int
  text : ByteArray
abbrev RowD.cs (r : RowD) : List S := [.int .i64 r.tab, .int .i64 r.key, .int .i64 r.val, .str r.text]
structure RowD.ok (r : RowD) : Prop where
  t1 : -9223372036854775808 ≤ r.tab
  t2 : r.tab < 9223372036854775808
  k1 : -9223372036854775808 ≤ r.key
  k2 : r.key < 9223372036854775808
  v1 : -9223372036854775808 ≤ r.val
  v2 : r.val < 9223372036854775808
  s : r.text.size ≤ maxLen
/-! the faults of a row -/
def low (c : UInt8) : Bool := decide (97 ≤ (c.toNat : Int)) && decide ((c.toNat : Int) ≤ 122)
def allLow (s : ByteArray) (i : Nat) : Bool := (s.data.toList.drop i).all low
def rowF (r : RowD) : Int := if inB r.tab 0 3 && inB r.key 1 99 && inB r.val 0 999 then (if decide (r.text.size ≤ 8) && allLow r.text 0 then 0 else 5) else 3
theorem allLow_step {s : ByteArray} {i : Nat} (h : i < s.size) : allLow s i = (low (s.get! i) && allLow s (i + 1)) := by
  unfold allLow; rw [str_drop h]; rfl
theorem allLow_end {s : ByteArray} {i : Nat} (h : s.size ≤ i) : allLow s i = true := by
  unfold allLow; rw [str_drop_all h]; rfl
theorem lp_l1Text (s : ByteArray) (hs : s.size ≤ maxLen) (h : H) : ∀ k i : Nat, i + k = s.size → Lp.spec_l1Text 0 [.s (.str s), iv .i64 i] h = some (if allLow s i then .done [.s (.str s)] h else .ret (bv false) h) := by
  unfold maxLen at hs
  intro k
  induction k with
  | zero =>
    intro i hi
    rw [eq_spec_l1Text_l0, vcase_b, if_neg (by simp; omega), allLow_end (by omega)]; simp
  | succ k ih =>
    intro i hi
    rw [eq_spec_l1Text_l0, vcase_b, if_pos (by simp; omega), idxStr_of (by omega) (by omega), allLow_step (by omega), w64 (by omega) (by omega), show (i : Int) + 1 = ((i + 1 : Nat) : Int) from by omega, tidy_self, ih (i + 1) (by omega)]
    have e : sby s i = ((s.get! i).toNat : Int) := by simp [sby]
    simp only [Option.bind_some, gV1_s, gI_i, vcase_b, e, decide_eq_true_eq, low, Bool.and_eq_true]
    split
    · rw [if_neg (by omega)]
    · split
      · rw [if_neg (by omega)]
      · simp only [show (97 ≤ ((s.get! i).toNat : Int)) from by omega, show ((s.get! i).toNat : Int) ≤ 122 from by omega, true_and]
theorem p_l1Text (s : ByteArray) (hs : s.size ≤ maxLen) : pureV (call Ev) Fn.spec_l1Text [.s (.str s)] = some (bv (decide (s.size ≤ 8) && allLow s 0)) := by
  rw [pu_spec_l1Text, show iv .i64 0 = iv .i64 ((0 : Nat) : Int) from rfl, lp_l1Text s hs _ s.size 0 (by omega)]
  cases allLow s 0 <;> simp <;> omega
theorem p_l1Fault (r : RowD) (hs : r.text.size ≤ maxLen) : pureV (call Ev) Fn.spec_l1Fault [fv r.cs 0] = some (iv .i64 (rowF r)) := by
  rw [pu_spec_l1Fault]
  simp only [pcallS, p_l1In, p_l1Text _ hs, Option.bind_some, sca_v, sca_b, cond_true, gV1_s, gB_b, vcase_b]
  unfold rowF
  cases inB r.tab 0 3 <;> cases inB r.key 1 99 <;> cases inB r.val 0 999 <;> cases (decide (r.text.size ≤ 8) && allLow r.text 0) <;> simp
theorem lp_RowFault (r : RowD) (hs : r.text.size ≤ maxLen) (h : H) (p : Nat) (hp : h.cells p = r.cs) : ∀ k i : Nat, i + k = r.text.size → Lp.impl_RowFault 0 [pv p 0, iv .i64 (r.text.size : Int), iv .i64 i] h = some (if allLow r.text i then .done [] h else .ret (iv .i64 5) h) := by
  unfold maxLen at hs
  intro k
  have ld : ∀ (q : V → Option LOut), ldK (.one (.s)) ⟨1, 16, [.str ⟨#[]⟩], false, .str, false⟩ h (pv p (0 + 3)) q = q (.s (.str r.text)) := by
    intro q; simp [ldK, ldT, load1, hp]
  have pa : padd 3 (pv p 0) = some (pv p (0 + 3)) := rfl
  induction k with
  | zero =>
    intro i hi
    rw [eq_impl_RowFault_l0, vcase_b, if_neg (by simp; omega), allLow_end (by omega)]; simp
  | succ k ih =>
    intro i hi
    rw [eq_impl_RowFault_l0, vcase_b, if_pos (by simp; omega), allLow_step (by omega), w64 (by omega) (by omega), show (i : Int) + 1 = ((i + 1 : Nat) : Int) from by omega, tidy_self, ih (i + 1) (by omega)]
    have e : sby r.text i = ((r.text.get! i).toNat : Int) := by simp [sby]
    simp only [pa, Option.bind_some, ld, gV1_s, gS_s]
    rw [idxStr_of (by omega) (by omega)]
    simp only [Option.bind_some, gV1_s, gI_i, vcase_b, e, decide_eq_true_eq, low, Bool.and_eq_true]
    split
    · rw [if_neg (by omega)]
    · split
      · rw [if_neg (by omega)]
      · simp only [show (97 ≤ ((r.text.get! i).toNat : Int)) from by omega, show ((r.text.get! i).toNat : Int) ≤ 122 from by omega, true_and]
theorem p_RowFault (r : RowD) (hs : r.text.size ≤ maxLen) : pureV (call Ev) Fn.impl_RowFault [.agg r.cs] = some (iv .i64 (rowF r)) := by
  have hl := lp_RowFault r hs ((D 0).new 0 r.cs) 0 (by simp [H.cells, H.new, D, Blk.cells]) r.text.size 0 (by omega)
  rw [pu_impl_RowFault]
  simp only [pcallS, p_in, Option.bind_some, sca_v, sca_b, cond_true, gV1_s, gB_b, vcase_b]
  rw [show iv .i64 0 = iv .i64 ((0 : Nat) : Int) from rfl, hl]
  unfold rowF
  cases inB r.tab 0 3 <;> cases inB r.key 1 99 <;> cases inB r.val 0 999 <;> simp
  by_cases h8 : r.text.size ≤ 8
  · rw [if_neg (by omega)]
    cases allLow r.text 0 <;> simp [h8]
  · rw [if_pos (by omega)]; simp [h8]
def befB (a b : RowD) : Bool := decide (a.tab < b.tab) || (decide (a.tab = b.tab) && decide (a.key < b.key))
end Vm
/-
  A row that came in, its size and its copy.
-/
namespace Vm
open Go

end Vm
/-
  Loops that fill a new slice, and what is frozen of it.
-/
namespace Vm
open Go

@[simp] theorem tidy_put {h : H} {l : List V} {b : Nat} {x : Blk} (hb : b < h.n) : tidy h l (h.put b x) = h.put b x := by
  unfold tidy
  split
  · obtain ⟨n, g, v⟩ := h
    simp only [H.put, H.mk.injEq, true_and]
    constructor <;> (funext c; split <;> first | rfl | (rename_i hc; rw [if_neg (by intro e; subst e; exact hc hb)]))
  · rfl
/-- a value that fills a row -/
def VRow (v : V) (r : List S) : Prop := (∃ x, v = .s x ∧ r = [x] ∧ isNo x = false) ∨ v = .agg r
theorem stK_rw {R : Type} {z e o b : Nat} {h : H} {cs r : List S} {v : V} {k : H → Option R} (hb : b < h.n) (hg : h.g b = .rw e cs) (hv : VRow v r) (hr : r.length = z) (ho : o + z ≤ cs.length) :
    stK z h (pv b o) v k = k (h.put b (.rw e (setAt cs o r))) := by
  rcases hv with ⟨x, rfl, rfl, hx⟩ | rfl
  · simp only [List.length_cons, List.length_nil, Nat.zero_add] at hr
    subst hr
    simp only [stK, if_true, put1K, if_pos hb, hg]
    rw [if_pos (by omega), hx]
    have : cs.set o x = setAt cs o [x] := by
      unfold setAt
      rw [List.set_eq_take_append_cons_drop, if_pos (by omega)]
      simp
    rw [this]; rfl
  · simp only [stK, putNK]
    rw [if_pos ⟨hb, hr⟩, hg]
    simp only
    rw [if_pos ho]
theorem idxK_sv {R : Type} {z b n i : Nat} {kd : IntKind} {f : V → Option R} (hi : i < n) : idxK z (sv b 0 n) (iv kd (i : Int)) f = f (pv b (i * z)) := by
  simp only [idxK, idxS]
  rw [if_pos ⟨by omega, by omega⟩]
  simp
theorem setAt_at {A r B : List S} {o z : Nat} (ho : A.length = o) (hz : r.length = z) : setAt (A ++ B) o r = A ++ r ++ B.drop z := by
  subst ho; subst hz
  unfold setAt
  simp
/-- a cell that is frozen as it stands -/
def Cl (s : S) : Prop := ∀ (h : H) (d : Nat), frzS h d s = some s
theorem cl_i {k : IntKind} {n : Int} : Cl (.int k n) := fun _ _ => frz_i
theorem cl_b {n : Bool} : Cl (.bool n) := fun _ _ => frz_b
theorem cl_s {n : ByteArray} : Cl (.str n) := fun _ _ => frz_s
theorem mapO_cl {h : H} {d : Nat} : ∀ {l : List S}, (∀ s ∈ l, Cl s) → mapO (frzS h d) l = some l
  | [], _ => rfl
  | s :: l, hl => by
    have h2 : mapO (frzS h d) l = some l := mapO_cl fun s hs => hl s (List.mem_cons_of_mem _ hs)
    simp [mapO, hl s (by simp) h d, h2]
theorem flat_len {z : Nat} : ∀ {rows : List (List S)}, (∀ r ∈ rows, r.length = z) → rows.flatten.length = rows.length * z
  | [], _ => by simp
  | r :: rows, h => by
    rw [List.flatten_cons, List.length_append, h r (by simp), flat_len fun r hr => h r (by simp [hr]), List.length_cons, Nat.succ_mul]; omega
theorem chunk_rows {z : Nat} : ∀ {rows : List (List S)}, (∀ r ∈ rows, r.length = z) → chunk z rows.length rows.flatten = rows
  | [], _ => rfl
  | r :: rows, h => by
    have hr := h r (by simp)
    have ih := chunk_rows (rows := rows) fun r hr => h r (by simp [hr])
    unfold chunk at ih ⊢
    rw [List.length_cons, List.range_succ_eq_map, List.map_cons, List.map_map]
    congr 1
    · simp [← hr]
    · conv => rhs; rw [← ih]
      refine List.map_congr_left fun i _ => ?_
      simp only [Function.comp_apply, List.flatten_cons]
      rw [Nat.succ_mul, Nat.add_comm, ← List.drop_drop, ← hr, List.drop_left]
theorem frzS_sl {h : H} {b z d : Nat} {rows : List (List S)} (hb : b < h.n) (hz0 : 0 < z) (hg : h.g b = .rw z rows.flatten) (hz : ∀ r ∈ rows, r.length = z) (hc : ∀ r ∈ rows, ∀ s ∈ r, Cl s) : frzS h (d + 1) (.sl (some (b, 0)) rows.length) = some (.fs rows) := by
  simp only [frzS]
  split
  · rename_i h0; rw [List.eq_nil_of_length_eq_zero h0]
  · have hl := flat_len hz
    simp only [hb, if_true, hg]
    rw [if_pos ⟨hz0, by omega⟩, List.drop_zero, List.take_of_length_le (by omega), mapO_cl (fun s hs => by
      obtain ⟨r, h1, h2⟩ := List.mem_flatten.1 hs
      exact hc r h1 s h2)]
    simp [chunk_rows hz]
theorem frzV_sv {h : H} {b z : Nat} {rows : List (List S)} (hb : b < h.n) (hz0 : 0 < z) (hg : h.g b = .rw z rows.flatten) (hz : ∀ r ∈ rows, r.length = z) (hc : ∀ r ∈ rows, ∀ s ∈ r, Cl s) : frzV h (sv b 0 rows.length) = some (lv rows) := by
  rw [frzV_s, frzS_sl hb hz0 hg hz hc]; rfl
theorem mkSl_of {z n : Nat} {zero : List S} {h : H} (hn : n ≤ lim) (hz0 : 0 < z) (hz : zero.length = z) {k1 k2 : IntKind} : mkSl z zero h (iv k1 (n : Int)) (iv k2 (n : Int)) = some (sv h.n 0 n, h.new z ((List.replicate n zero).flatten)) := by
  simp only [mkSl]
  rw [if_pos ⟨by omega, trivial, by omega, hz0, hz⟩]
  simp
end Vm
/-
  Bytes: as frozen slices, and as slices that are one's own.
-/
namespace Vm
open Go

def cell8 (c : UInt8) : S := .int .u8 c.toNat
/-- bytes as rows -/
def bys (l : List UInt8) : List (List S) := l.map fun c => [cell8 c]
/-- the byte at a place, as a number -/
def bt (l : List UInt8) (i : Int) : Int := ((l.getD i.toNat 0).toNat : Int)
theorem bt_nn (l : List UInt8) (i : Int) : 0 ≤ bt l i := by unfold bt; omega
theorem bt_lt (l : List UInt8) (i : Int) : bt l i < 256 := by
  unfold bt
  have := (l.getD i.toNat 0).toNat_lt
  omega
@[simp] theorem bys_len (l : List UInt8) : (bys l).length = l.length := by simp [bys]
theorem bys_row {l : List UInt8} : ∀ r ∈ bys l, r.length = 1 := by
  intro r hr
  obtain ⟨c, _, rfl⟩ := List.mem_map.1 hr
  rfl
theorem bys_cl {l : List UInt8} : ∀ r ∈ bys l, ∀ s ∈ r, Cl s := by
  intro r hr s hs
  obtain ⟨c, _, rfl⟩ := List.mem_map.1 hr
  rw [List.mem_singleton.1 hs]
  exact cl_i
theorem bys_flat (l : List UInt8) : (bys l).flatten = l.map cell8 := by
  induction l with
  | nil => rfl
  | cons c l ih => simp only [bys, List.map_cons, List.flatten_cons, List.singleton_append] at ih ⊢; rw [ih]
theorem bys_get {l : List UInt8} {i : Nat} (h : i < l.length) : (bys l)[i]? = some [.int .u8 (bt l i)] := by
  simp [bys, h, cell8, bt]
section
variable {R : Type}
/-- reading a byte -/
theorem idxF_by {l : List UInt8} {i : Int} {k : List S → Option R} (h0 : 0 ≤ i) (h1 : i < l.length) : idxF 1 (bys l) i k = k [.int .u8 (bt l i)] := by
  obtain ⟨n, rfl⟩ : ∃ n : Nat, i = n := ⟨i.toNat, by omega⟩
  exact idxF_at (bys_get (by omega)) rfl
theorem bnd_of {y n : Nat} {kd : IntKind} (h : n ≤ y) : bnd y (iv kd (n : Int)) = some n := by
  simp only [bnd]; rw [if_pos ⟨by omega, by omega⟩]; simp
end
/-- a slice that holds all of a block's bytes, and may be written -/
structure BysW (h : H) (v : V) (l : List UInt8) (b : Nat) : Prop where
  v : v = sv b 0 l.length
  n : b < h.n
  g : h.g b = .rw 1 (l.map cell8)
theorem BysW.frz {h : H} {v : V} {l : List UInt8} {b d : Nat} (w : BysW h v l b) : v = sv b 0 l.length ∧ frzS h (d + 1) (.sl (some (b, 0)) l.length) = some (.fs (bys l)) := by
  refine ⟨w.v, ?_⟩
  have := frzS_sl (h := h) (b := b) (z := 1) (d := d) (rows := bys l) w.n (by omega) (by rw [bys_flat]; exact w.g) bys_row bys_cl
  rwa [bys_len] at this
/-- bytes that are one's own: none at all, or a block -/
def Own (h : H) (v : V) (l : List UInt8) : Option Nat → Prop
  | none => v = .s (.sl none 0) ∧ l = []
  | some b => BysW h v l b
theorem Own.frz {h : H} {v : V} {l : List UInt8} {ob : Option Nat} {d : Nat} (w : Own h v l ob) : ∃ s, v = .s s ∧ frzS h (d + 1) s = some (.fs (bys l)) := by
  cases ob with
  | none => obtain ⟨rfl, rfl⟩ := w; exact ⟨_, rfl, frz_n⟩
  | some b => obtain ⟨h1, h2⟩ := BysW.frz (d := d) w; exact ⟨_, h1, h2⟩
theorem BysW.set {R : Type} {h : H} {n : Nat} {l : List UInt8} {b i : Nat} {c : UInt8} {x : Int} {k : H → Option R} (w : BysW h (sv b 0 n) l b) (hi : i < l.length) (hx : x = (c.toNat : Int)) : stK 1 h (pv b (i * 1)) (iv .u8 x) k = k (h.put b (.rw 1 ((l.set i c).map cell8))) := by
  subst hx
  rw [stK_rw (z := 1) (e := 1) (o := i * 1) (v := iv .u8 c.toNat) (cs := l.map cell8) (r := [cell8 c]) w.n w.g (.inl ⟨_, rfl, rfl, rfl⟩) rfl (by simp; omega)]
  congr 3
  unfold setAt
  rw [List.map_set, List.set_eq_take_append_cons_drop, if_pos (by simp; omega)]
  simp
theorem BysW.len {h : H} {n : Nat} {l : List UInt8} {b : Nat} (w : BysW h (sv b 0 n) l b) : n = l.length := by
  have := w.v
  injection this with h1
  injection h1
end Vm
/-
  Calls with an answer that is new, and what is one's own of it.
-/
namespace Vm
open Go

theorem over_n {h h1 : H} (hn : h.n ≤ h1.n) : (h.over h1).n = h1.n := by simp only [H.over]; omega
theorem over_lt {h h1 : H} {b : Nat} (hb : b < h.n) : (h.over h1).g b = h.g b ∧ (h.over h1).v b = h.v b := by simp [H.over, hb]
theorem over_ge {h h1 : H} {b : Nat} (hb : h.n ≤ b) : (h.over h1).g b = h1.g b := by simp only [H.over]; rw [if_neg (by omega)]
/-- a heap with what was there, and more -/
structure Up (h h' : H) : Prop where
  n : h.n ≤ h'.n
  g : ∀ b, b < h.n → h'.g b = h.g b
theorem Up.refl (h : H) : Up h h := ⟨Nat.le_refl _, fun _ _ => rfl⟩
theorem Up.trans {a b c : H} (x : Up a b) (y : Up b c) : Up a c := ⟨Nat.le_trans x.n y.n, fun i hi => (y.g i (Nat.lt_of_lt_of_le hi x.n)).trans (x.g i hi)⟩
theorem up_over {h h1 : H} (hn : h.n ≤ h1.n) : Up h (h.over h1) := ⟨by rw [over_n hn]; exact hn, fun b hb => (over_lt hb).1⟩
theorem up_new {h : H} {e : Nat} {cs : List S} : Up h (h.new e cs) := ⟨by simp, fun b hb => new_g' (by omega)⟩
theorem Own.up {h h' : H} (u : Up h h') {v : V} {l : List UInt8} {ob : Option Nat} (x : Own h v l ob) : Own h' v l ob := by
  cases ob with
  | none => exact x
  | some b => exact ⟨x.v, Nat.lt_of_lt_of_le x.n u.n, by rw [u.g b x.n]; exact x.g⟩
/-- all but one block as it was -/
structure But (b : Option Nat) (h h' : H) : Prop where
  n : h'.n = h.n
  g : ∀ c, b ≠ some c → h'.g c = h.g c
/-- cells that lead nowhere, once they are frozen -/
theorem nofz_of {n : Nat} {v : V} {h : H} (h1 : scaV v = true) (h2 : ∀ b, n ≤ b → b < h.n → ∀ s ∈ (h.g b).cells, scaS s = true) : NoFz n (v, h) := ⟨h1, h2⟩
theorem loadN_rw {n e b o : Nat} {h : H} {cs : List S} (hb : b < h.n) (hg : h.g b = .rw e cs) (ho : o + n ≤ cs.length) : loadN n h (pv b o) = some ((cs.drop o).take n) := by
  simp only [loadN, H.cells, hb, if_true, hg, Blk.cells, true_and]
  rw [if_pos ho]
theorem loadN_2 {e b : Nat} {h : H} {x y : S} (hb : b < h.n) (hg : h.g b = .rw e [x, y]) : loadN 2 h (pv b 0) = some [x, y] := loadN_rw hb hg (by simp)
/-- a pair stored into a new block -/
theorem st2_new {R : Type} {h : H} {x y a b : S} {k : H → Option R} : stK 2 (h.new 0 [a, b]) (pv h.n 0) (.agg [x, y]) k = k ((h.new 0 [a, b]).put h.n (.rw 0 [x, y])) :=
  stK_rw (z := 2) (e := 0) (o := 0) (b := h.n) (cs := [a, b]) (r := [x, y]) (by simp) (new_g _ _ _) (.inr rfl) rfl (by simp)
theorem up_st {h : H} {e e' : Nat} {cs cs' : List S} : Up h ((h.new e cs).put h.n (.rw e' cs')) := ⟨by simp, fun b hb => by rw [put_g' (by omega), new_g' (by omega)]⟩
theorem g_st {h : H} {e e' : Nat} {cs cs' : List S} : ((h.new e cs).put h.n (.rw e' cs')).g h.n = .rw e' cs' := put_g _ _ _
theorem n_st {h : H} {e e' : Nat} {cs cs' : List S} : ((h.new e cs).put h.n (.rw e' cs')).n = h.n + 1 := by simp
theorem frz1 {h : H} {v : V} {l : List UInt8} {ob : Option Nat} (w : Own h v l ob) : frzV h v = some (lv (bys l)) := by
  obtain ⟨s, rfl, h2⟩ := w.frz (d := 7)
  simp [h2]
theorem frzVs_nil {h : H} : frzVs h [] = some [] := id rfl
theorem frzVs_cons {h : H} {v w : V} {vs ws : List V} (h1 : frzV h v = some w) (h2 : frzVs h vs = some ws) : frzVs h (v :: vs) = some (w :: ws) := by simp [frzVs, h1, h2]
theorem frzV_iv {h : H} {k : IntKind} {n : Int} : frzV h (iv k n) = some (iv k n) := by simp
theorem norm_nil {l : List V} : normVs [] l = l := by cases l <;> rfl
/-- what a function that answers with new bytes comes to: on a heap of which nothing is left -/
structure NewB (n : Nat) (h : H) (v : V) (l : List UInt8) (ob : Option Nat) : Prop where
  own : Own h v l ob
  le : n ≤ h.n
  new : ∀ b, ob = some b → n ≤ b
  z : ∀ b, n ≤ b → b < h.n → ∀ s ∈ (h.g b).cells, scaS s = true
theorem Own.sca {h : H} {y : S} {l : List UInt8} {ob : Option Nat} (w : Own h (.s y) l ob) : scaS y = true := by
  cases ob with
  | none => obtain ⟨h1, _⟩ := w; cases h1; rfl
  | some b => have := w.v; cases this; rfl
end Vm
/-
  Slices of rows: their size, a copy, a comparison, their fault.
-/
namespace Vm
open Go
def rws (rs : List RowD) : List (List S) := rs.map RowD.cs
@[simp] theorem rws_len (rs : List RowD) : (rws rs).length = rs.length := by simp [rws]
theorem rws_row {rs : List RowD} : ∀ r ∈ rws rs, r.length = 4 := by
  intro r hr
  obtain ⟨c, _, rfl⟩ := List.mem_map.1 hr
  rfl
theorem row_cl {r : RowD} : ∀ s ∈ r.cs, Cl s := by
  intro s hs
  simp only [List.mem_cons, List.not_mem_nil, or_false] at hs
  rcases hs with rfl | rfl | rfl | rfl
  · exact cl_i
  · exact cl_i
  · exact cl_i
  · exact cl_s
theorem rws_get {rs : List RowD} {i : Nat} {r : RowD} (h : rs[i]? = some r) : (rws rs)[i]? = some r.cs := by simp [rws, h]
section
variable {R : Type}
theorem idxF_rw {rs : List RowD} {i : Nat} {r : RowD} {k : List S → Option R} (h : rs[i]? = some r) : idxF 4 (rws rs) (i : Int) k = k r.cs := idxF_at (rws_get h) rfl
end
theorem rowN_rw {r : RowD} : rowN 4 r.cs 0 = some r.cs := rowN_all rfl
theorem normV_rw {r : RowD} : normV 4 (fv r.cs 0) = fv r.cs 0 := rfl
/-! size -/
/-! a copy -/
structure NewRw (n : Nat) (h : H) (v : V) (rs : List RowD) : Prop where
  v : v = sv n 0 rs.length
  g : h.g n = .rw 4 (rws rs).flatten
  le : h.n = n + 1
/-! a comparison -/
/-! the fault of rows -/
def rowsFrom : Option RowD → List RowD → Int
  | _, [] => 0
  | p, r :: rs => if rowF r = 0 then (if (match p with | none => false | some q => !befB q r) then 1 else rowsFrom (some r) rs) else rowF r
def rowsF (rs : List RowD) : Int := if 60 < rs.length then 2 else rowsFrom none rs
/-- the row before -/
def lastOf (all : List RowD) (i : Nat) : Option RowD := if i = 0 then none else all[i - 1]?
theorem p_l1Before (a b : RowD) : pureV (call Ev) Fn.spec_l1Before [fv a.cs 0, fv b.cs 0] = some (bv (befB a b)) := by
  rw [pu_spec_l1Before]; unfold befB
  simp only [vcase_b, decide_eq_true_eq, beq_iff_eq]
  split
  · rename_i h; simp [h]
  · rename_i h
    split
    · rename_i h2; simp [h2]
    · rename_i h2; simp [h, h2]
theorem p_IsBefore (a b : RowD) : pureV (call Ev) Fn.impl_IsBefore [.agg a.cs, .agg b.cs] = some (bv (befB a b)) := by
  rw [pu_impl_IsBefore]; unfold befB
  simp only [vcase_b, decide_eq_true_eq, beq_iff_eq]
  split
  · rename_i h; simp [h]
  · rename_i h
    split
    · rename_i h2; simp [h2]
    · rename_i h2; simp [h, h2]
/-- what a loop over rows ends with -/
def outI (x : Int) (h : H) : LOut := if x = 0 then .done [] h else .ret (iv .i64 x) h
theorem outI_n {x : Int} (hx : x ≠ 0) (h : H) : outI x h = .ret (iv .i64 x) h := if_neg hx
theorem rowsFrom_n {p : Option RowD} {r : RowD} {rs : List RowD} (h : rowF r ≠ 0) : rowsFrom p (r :: rs) = rowF r := by simp [rowsFrom, h]
theorem rowsFrom_0 {r : RowD} {rs : List RowD} (h : rowF r = 0) : rowsFrom none (r :: rs) = rowsFrom (some r) rs := by simp [rowsFrom, h]
theorem rowsFrom_1 {q r : RowD} {rs : List RowD} (h : rowF r = 0) (hb : befB q r = false) : rowsFrom (some q) (r :: rs) = 1 := by simp [rowsFrom, h, hb]
theorem rowsFrom_2 {q r : RowD} {rs : List RowD} (h : rowF r = 0) (hb : befB q r = true) : rowsFrom (some q) (r :: rs) = rowsFrom (some r) rs := by simp [rowsFrom, h, hb]
theorem lastOf_0 {all : List RowD} : lastOf all 0 = none := rfl
theorem lastOf_s {all : List RowD} {i : Nat} {r : RowD} (h : all[i]? = some r) : lastOf all (i + 1) = some r := by simp [lastOf, h]
theorem p_l6Rows {all : List RowD} (hs : ∀ r ∈ all, r.text.size ≤ maxLen) (hl : all.length ≤ maxLen) : pureV (call Ev) Fn.spec_l6Rows [lv (rws all)] = some (iv .i64 (rowsF all)) := by
  unfold maxLen at hl
  have loop : ∀ (rs : List RowD) (i : Nat), all.drop i = rs → Lp.spec_l6Rows 0 [lv (rws all), iv .i64 i] (D 0) = some (outI (rowsFrom (lastOf all i) rs) (D 0)) := by
    intro rs
    induction rs with
    | nil =>
      intro i hi
      have := drop_nil hi
      rw [eq_spec_l6Rows_l0, vcase_b, if_neg (by simp; omega), tidy_self]; rfl
    | cons r rs ih =>
      intro i hi
      obtain ⟨g1, g2, g3⟩ := drop_cons hi
      have hz := hs r (List.mem_of_getElem? g1)
      have ih' := ih (i + 1) g2
      rw [lastOf_s g1] at ih'
      rw [eq_spec_l6Rows_l0, vcase_b, if_pos (by simp; omega), idxF_rw g1, normV_rw, pc (p_l1Fault r hz) rfl]
      simp only [gV1_s, gI_i, vcase_b, bne_iff_ne, ne_eq, decide_eq_true_eq]
      by_cases h0 : rowF r = 0
      · rw [if_neg (by simp [h0])]
        by_cases hi0 : i = 0
        · subst hi0
          rw [if_neg (by omega), hchk_self, tidy_self, w64 (by omega) (by omega), lastOf_0, rowsFrom_0 h0]
          exact ih'
        · obtain ⟨p, hp⟩ : ∃ p, all[i - 1]? = some p := ⟨_, List.getElem?_eq_getElem (by omega)⟩
          rw [if_pos (by omega), w64 (n := (i : Int) - 1) (by omega) (by omega), show (i : Int) - 1 = ((i - 1 : Nat) : Int) from by omega, idxF_rw hp, idxF_rw g1, normV_rw, normV_rw, pc (p_l1Before p r) rfl,
            show lastOf all i = some p from by rw [← lastOf_s hp, Nat.sub_add_cancel (by omega)]]
          simp only [gV1_s, gB_b, hchk_self, vcase_b]
          cases hb : befB p r
          · rw [rowsFrom_1 h0 hb]; rfl
          · rw [rowsFrom_2 h0 hb, if_neg (by simp), tidy_self, w64 (by omega) (by omega), show (i : Int) + 1 = ((i + 1 : Nat) : Int) from by omega]
            exact ih'
      · rw [if_pos h0, rowsFrom_n h0, outI_n h0]
  rw [pu_spec_l6Rows, vcase_b, rws_len]; unfold rowsF
  by_cases h60 : 60 < all.length
  · rw [if_pos (by simp; omega), if_pos h60]
  rw [if_neg (by simp; omega), if_neg h60, show iv .i64 0 = iv .i64 ((0 : Nat) : Int) from rfl, loop all 0 rfl, ob, lastOf_0]
  by_cases h0 : rowsFrom none all = 0
  · rw [h0]; rfl
  · rw [outI_n h0, lcase_ret]; simp
theorem setAt_all {cs r : List S} (h : cs.length ≤ r.length) : setAt cs 0 r = r := by simp [setAt, List.drop_of_length_le h]
/-- a row that lies in a new block -/
def putR (h : H) (r : RowD) : H := (h.new 0 [.int .i64 0, .int .i64 0, .int .i64 0, .str ⟨#[]⟩]).put h.n (.rw 0 r.cs)
theorem putR_keep (h : H) (r : RowD) : HKeep h (putR h r) := ((HKeep.refl h).new).put (Nat.le_refl _)
theorem putR_n (h : H) (r : RowD) : (putR h r).n = h.n + 1 := rfl
theorem putR_g (h : H) (r : RowD) : (putR h r).g h.n = .rw 0 r.cs := put_g _ _ _
theorem putR_cells (h : H) (r : RowD) : (putR h r).cells h.n = r.cs := by
  unfold H.cells; rw [if_pos (by rw [putR_n]; omega), putR_g]; rfl
theorem putR_tidy {h : H} {r : RowD} {l : List V} (hl : l.all (belV h.n) = true) : tidy h l (putR h r) = h := tidy_ext (putR_keep h r) hl
section
variable {R : Type}
theorem stK_row {h : H} {r : RowD} {k : H → Option R} : stK 4 (h.new 0 [.int .i64 0, .int .i64 0, .int .i64 0, .str ⟨#[]⟩]) (pv h.n 0) (.agg r.cs) k = k (putR h r) := by
  rw [stK_rw (z := 4) (o := 0) (b := h.n) (r := r.cs) (e := 0) (cs := [.int .i64 0, .int .i64 0, .int .i64 0, .str ⟨#[]⟩]) (by simp) (new_g h _ _) (.inr rfl) rfl (by simp), setAt_all (by simp)]
  rfl
end
theorem loadN_row {h : H} {r : RowD} : loadN 4 (putR h r) (pv h.n 0) = some r.cs := by
  have := putR_cells h r
  have h2 : h.n < (putR h r).n := by rw [putR_n]; omega
  simp only [loadN]
  rw [if_pos ⟨h2, by rw [this]; simp⟩, this]; rfl
theorem p_RowsFault {all : List RowD} (hs : ∀ r ∈ all, r.text.size ≤ maxLen) (hl : all.length ≤ maxLen) : pureV (call Ev) Fn.impl_RowsFault [lv (rws all)] = some (iv .i64 (rowsF all)) := by
  unfold maxLen at hl
  have loop : ∀ (rs : List RowD) (i : Nat), all.drop i = rs → ∃ h', Lp.impl_RowsFault 0 [lv (rws all), lv (rws all), iv .i64 (all.length : Int), iv .i64 i] (D 0) = some (outI (rowsFrom (lastOf all i) rs) h') := by
    intro rs
    induction rs with
    | nil =>
      intro i hi
      have := drop_nil hi
      refine ⟨D 0, ?_⟩
      rw [eq_impl_RowsFault_l0, vcase_b, if_neg (by simp; omega), tidy_self]; rfl
    | cons r rs ih =>
      intro i hi
      obtain ⟨g1, g2, g3⟩ := drop_cons hi
      have hz := hs r (List.mem_of_getElem? g1)
      obtain ⟨h', ih'⟩ := ih (i + 1) g2
      rw [lastOf_s g1] at ih'
      rw [eq_impl_RowsFault_l0, vcase_b, if_pos (by simp; omega), idxF_rw g1, rowN_rw]
      simp only [ob, gx0, gx1, gI_i, gS_s, ln0, ln1, Nat.zero_add, Nat.reduceAdd, if_true]
      rw [stK_row, loadN_row]
      simp only [ob, gx0, gx1, gI_i, gS_s, ln0, ln1, Nat.zero_add, Nat.reduceAdd, if_true]
      rw [pc (p_RowFault r hz) rfl]
      simp only [gV1_s, gI_i, vcase_b, bne_iff_ne, ne_eq, decide_eq_true_eq]
      by_cases h0 : rowF r = 0
      · rw [if_neg (by simp [h0])]
        by_cases hi0 : i = 0
        · subst hi0
          rw [if_neg (by omega), hchk_self, putR_tidy rfl, w64 (by omega) (by omega), lastOf_0, rowsFrom_0 h0]
          exact ⟨h', ih'⟩
        · obtain ⟨p, hp⟩ : ∃ p, all[i - 1]? = some p := ⟨_, List.getElem?_eq_getElem (by omega)⟩
          rw [if_pos (by omega), w64 (n := (i : Int) - 1) (by omega) (by omega), show (i : Int) - 1 = ((i - 1 : Nat) : Int) from by omega, idxF_rw hp, rowN_rw, 
            show lastOf all i = some p from by rw [← lastOf_s hp, Nat.sub_add_cancel (by omega)]]
          simp only [ob, gx0, gx1, gI_i, gS_s, ln0, ln1, Nat.zero_add, Nat.reduceAdd, if_true]
          rw [pc (p_IsBefore p r) rfl]
          simp only [gV1_s, gB_b, hchk_self, vcase_b]
          cases hb : befB p r
          · rw [rowsFrom_1 h0 hb]; exact ⟨_, rfl⟩
          · rw [rowsFrom_2 h0 hb, if_neg (by simp), putR_tidy rfl, w64 (by omega) (by omega), show (i : Int) + 1 = ((i + 1 : Nat) : Int) from by omega]
            exact ⟨h', ih'⟩
      · rw [if_pos h0, rowsFrom_n h0]; exact ⟨putR (D 0) r, by rw [outI_n h0]⟩
  rw [pu_impl_RowsFault, vcase_b, rws_len]; unfold rowsF
  by_cases h60 : 60 < all.length
  · rw [if_pos (by simp; omega), if_pos h60]
  obtain ⟨h', e⟩ := loop all 0 rfl
  rw [if_neg (by simp; omega), if_neg h60, show iv .i64 0 = iv .i64 ((0 : Nat) : Int) from rfl, e, ob, lastOf_0]
  by_cases h0 : rowsFrom none all = 0
  · rw [h0]; rfl
  · rw [outI_n h0, lcase_ret]; simp
end Vm
/-
  Where a row with a table and a key stands; how long texts of a table may be.
-/
namespace Vm
open Go
def atF (t k : Int) : List RowD → Nat → Int
  | [], _ => -1
  | r :: rs, i => if r.tab = t ∧ r.key = k then i else atF t k rs (i + 1)
theorem p_l6At {all : List RowD} {t k : Int} (hl : all.length ≤ maxLen) : pureV (call Ev) Fn.spec_l6At [lv (rws all), iv .i64 t, iv .i64 k] = some (iv .i64 (atF t k all 0)) := by
  unfold maxLen at hl
  have loop : ∀ (rs : List RowD) (i : Nat), all.drop i = rs → Lp.spec_l6At 0 [lv (rws all), iv .i64 t, iv .i64 k, iv .i64 i] (D 0) = some (if atF t k rs i = -1 then .done [] (D 0) else .ret (iv .i64 (atF t k rs i)) (D 0)) := by
    intro rs
    induction rs with
    | nil =>
      intro i hi
      have := drop_nil hi
      rw [eq_spec_l6At_l0, vcase_b, if_neg (by simp; omega), tidy_self]; rfl
    | cons r rs ih =>
      intro i hi
      obtain ⟨g1, g2, g3⟩ := drop_cons hi
      have ih' := ih (i + 1) g2
      rw [eq_spec_l6At_l0, vcase_b, if_pos (by simp; omega), idxF_rw g1]
      simp only [ob, gx0, gI_i, vcase_b, beq_iff_eq, tidy_self]
      rw [idxF_rw g1, w64 (by omega) (by omega), show (i : Int) + 1 = ((i + 1 : Nat) : Int) from by omega]
      simp only [ob, gx0, gx1, gI_i, vcase_b, beq_iff_eq]
      rw [ih']
      by_cases h1 : r.tab = t
      · by_cases h2 : r.key = k
        · have e : atF t k (r :: rs) i = i := by unfold atF; rw [if_pos ⟨h1, h2⟩]
          rw [if_pos h1, if_pos h2, e, if_neg (by omega)]
        · have e : atF t k (r :: rs) i = atF t k rs (i + 1) := by rw [atF]; rw [if_neg (fun h => h2 h.2)]
          rw [if_pos h1, if_neg h2, e]
      · have e : atF t k (r :: rs) i = atF t k rs (i + 1) := by rw [atF]; rw [if_neg (fun h => h1 h.1)]
        rw [if_neg h1, e]
  rw [pu_spec_l6At, show iv .i64 0 = iv .i64 ((0 : Nat) : Int) from rfl, loop all 0 rfl, ob]
  by_cases h0 : atF t k all 0 = -1
  · rw [if_pos h0, h0]; rfl
  · rw [if_neg h0, lcase_ret]; simp
theorem rowsFrom_all : ∀ {rs : List RowD} {p : Option RowD}, rowsFrom p rs = 0 → ∀ r ∈ rs, rowF r = 0
  | [], _, _ => by simp
  | r :: rs, p, h => by
    have h0 : rowF r = 0 := by
      by_cases h0 : rowF r = 0
      · exact h0
      · rw [rowsFrom_n h0] at h; exact absurd h h0
    have h2 : rowsFrom (some r) rs = 0 := by
      cases p with
      | none => rw [rowsFrom_0 h0] at h; exact h
      | some q =>
        cases hb : befB q r with
        | false => rw [rowsFrom_1 h0 hb] at h; omega
        | true => rw [rowsFrom_2 h0 hb] at h; exact h
    intro x hx
    rcases List.mem_cons.1 hx with rfl | hx
    · exact h0
    · exact rowsFrom_all h2 x hx
end Vm
/-
  Changes: their size, a copy, a comparison, their fault; whether a change may be.
-/
namespace Vm
open Go
structure ChgD where
  was : Bool
  b : RowD
  is : Bool
  a : RowD
abbrev ChgD.cs (c : ChgD) : List S := [.bool c.was, .int .i64 c.b.tab, .int .i64 c.b.key, .int .i64 c.b.val, .str c.b.text, .bool c.is, .int .i64 c.a.tab, .int .i64 c.a.key, .int .i64 c.a.val, .str c.a.text]
def ChgD.ok (c : ChgD) : Prop := c.b.text.size ≤ maxLen ∧ c.a.text.size ≤ maxLen
/-! the fault -/
def sameK (a b : RowD) : Bool := decide (a.tab = b.tab) && decide (a.key = b.key)
def chgF (c : ChgD) : Int :=
  if (!c.was && !c.is) || (c.was && c.is && !sameK c.b c.a) then 1
  else if c.was = true ∧ rowF c.b ≠ 0 then rowF c.b else if c.is then rowF c.a else 0
def ordI (a b : RowD) : Int := if befB a b then -1 else if befB b a then 1 else 0
theorem p_order (a b : RowD) : pureV (call Ev) Fn.impl_order [.agg a.cs, .agg b.cs] = some (iv .i64 (ordI a b)) := by
  rw [pu_impl_order, pc (p_IsBefore a b) rfl]
  simp only [gV1_s, gB_b, vcase_b]
  unfold ordI
  cases befB a b
  · rw [if_neg (by simp), if_neg (by simp), pc (p_IsBefore b a) rfl]
    simp only [gV1_s, gB_b, vcase_b]
    cases befB b a <;> rfl
  · rfl
theorem ordI_0 {a b : RowD} : ordI a b = 0 ↔ sameK a b = true := by
  unfold ordI befB sameK
  simp only [Bool.or_eq_true, Bool.and_eq_true, decide_eq_true_eq]
  split
  · omega
  · split <;> omega
/-- the fault of the rows of a change -/
def chgR (c : ChgD) : Int := if c.was = true ∧ rowF c.b ≠ 0 then rowF c.b else if c.is then rowF c.a else 0
theorem chgF_eq (c : ChgD) : chgF c = if (!c.was && !c.is) || (c.was && c.is && !sameK c.b c.a) then 1 else chgR c := rfl
theorem p_l6Change (c : ChgD) (hc : c.b.text.size ≤ maxLen ∧ c.a.text.size ≤ maxLen) : pureV (call Ev) Fn.spec_l6Change [fv c.cs 0] = some (iv .i64 (chgF c)) := by
  have fin : ∀ q w1 w2 w3 w4 w5 w6 w7 w8 w9 w10 w11 w12 w13 w14 w15 w16 w17 w18 w19 w20 w21 w22 w23 w24 w25 w26 w27 w28 w29 w30 w31 w32 w33 w34 w35 w36 q2,
      Jn.spec_l6Change_0 q w1 w2 w3 w4 w5 w6 w7 w8 w9 w10 w11 w12 w13 w14 w15 w16 w17 w18 w19 w20 w21 w22 w23 w24 w25 w26 w27 w28 w29 w30 w31 w32 w33 w34 w35 w36 q2 c.was c.b.tab c.b.key c.b.val c.b.text c.is c.a.tab c.a.key c.a.val c.a.text = some (iv .i64 (if q2 = true then 1 else chgR c)) := by
    intro q w1 w2 w3 w4 w5 w6 w7 w8 w9 w10 w11 w12 w13 w14 w15 w16 w17 w18 w19 w20 w21 w22 w23 w24 w25 w26 w27 w28 w29 w30 w31 w32 w33 w34 w35 w36 q2
    unfold Jn.spec_l6Change_0 chgR
    rw [pc (p_l1Fault c.b hc.1) rfl]
    simp only [gV1_s, gI_i, vcase_b, bne_iff_ne, ne_eq]
    rw [pc (p_l1Fault c.a hc.2) rfl]
    simp only [gV1_s, gI_i]
    by_cases h0 : rowF c.b = 0 <;> cases q2 <;> cases c.was <;> cases c.is <;> simp [h0]
  rw [pu_spec_l6Change, chgF_eq]
  unfold Jn.spec_l6Change_1
  simp only [vcase_b, bne_iff_ne, ne_eq, fin]
  have hs : sameK c.b c.a = (decide (c.b.tab = c.a.tab) && decide (c.b.key = c.a.key)) := rfl
  rw [hs]
  cases c.was <;> cases c.is <;> simp only [Bool.not_true, Bool.not_false, Bool.false_eq_true, if_false, if_true, Bool.and_true, Bool.true_and, Bool.and_false, Bool.false_and, Bool.or_false, Bool.false_or]
  by_cases h1 : c.b.tab = c.a.tab
  · rw [if_neg (by simpa using h1), decide_eq_true h1, Bool.true_and]
    by_cases h2 : c.b.key = c.a.key <;> simp [h2]
  · rw [if_pos h1, decide_eq_false h1]; rfl
theorem p_changeFault (c : ChgD) (hc : c.b.text.size ≤ maxLen ∧ c.a.text.size ≤ maxLen) : pureV (call Ev) Fn.impl_changeFault [.agg c.cs] = some (iv .i64 (chgF c)) := by
  have fin : ∀ q2, Jn.impl_changeFault_0 q2 c.was c.b.tab c.b.key c.b.val c.b.text c.is c.a.tab c.a.key c.a.val c.a.text = some (iv .i64 (if q2 = true then 1 else chgR c)) := by
    intro q2
    unfold Jn.impl_changeFault_0 chgR
    rw [pc (p_RowFault c.b hc.1) rfl]
    simp only [gV1_s, gI_i, vcase_b, bne_iff_ne, ne_eq]
    rw [pc (p_RowFault c.a hc.2) rfl]
    simp only [gV1_s, gI_i]
    by_cases h0 : rowF c.b = 0 <;> cases q2 <;> cases c.was <;> cases c.is <;> simp [h0]
  rw [pu_impl_changeFault, chgF_eq]
  unfold Jn.impl_changeFault_2 Jn.impl_changeFault_1
  rw [pc (p_order c.b c.a) rfl]
  simp only [gV1_s, gI_i, vcase_b, fin, bne_iff_ne, ne_eq, ordI_0]
  cases c.was <;> cases c.is <;> simp
/-! whether a change may be -/
def ChgD.k (c : ChgD) : RowD := if c.is then c.a else c.b
theorem p_Change_key (c : ChgD) : pureV (call Ev) Fn.impl_Change_key [.agg c.cs] = some (.agg c.k.cs) := by
  rw [pu_impl_Change_key, vcase_b]; unfold ChgD.k
  cases c.is <;> rfl
theorem p_l6Key (c : ChgD) : pureV (call Ev) Fn.spec_l6Key [fv c.cs 0] = some (.tup [.s (.int .i64 c.k.tab), .s (.int .i64 c.k.key)]) := by
  rw [pu_spec_l6Key, vcase_b]; unfold ChgD.k
  cases c.is <;> rfl
end Vm
/-
  Whether a change may be: the program and the specification.
-/
namespace Vm
open Go
section
variable {R : Type}
theorem ldK_agg {t : VT} {ti : TI} {h : H} {b o : Nat} {cs : List S} {k : V → Option R} (ha : ti.agg = true) (hl : loadN ti.z h (pv b o) = some cs) : ldK t ti h (pv b o) k = k (.agg cs) := by
  simp only [ldK, ldT, ha, cond_true]; rw [hl, ob]
theorem ldK_one {t : VT} {ti : TI} {h : H} {b o : Nat} {x : S} {k : V → Option R} (ha : ti.agg = false) (hl : load1 h (pv b o) = some x) : ldK t ti h (pv b o) k = k (.s x) := by
  simp only [ldK, ldT, ha, cond_false]; rw [hl, ob]
end
theorem loadN_cs {h : H} {b : Nat} {cs : List S} {n : Nat} (hb : b < h.n) (hc : h.cells b = cs) (hn : cs.length = n) : loadN n h (pv b 0) = some cs := by
  simp only [loadN]
  rw [if_pos ⟨hb, by rw [hc]; omega⟩, hc, List.drop_zero, List.take_of_length_le (by omega)]
theorem load1_cs {h : H} {b o : Nat} {cs : List S} {x : S} (hc : h.cells b = cs) (hx : cs[o]? = some x) : load1 h (pv b o) = some x := by
  simp only [load1]; rw [hc, hx]
end Vm
/-
  What the laws' helpers on bytes come to: a copy, a comparison, marks written and found again.
-/
namespace Vm
open Go

end Vm
/-
  A copy of bytes, as a call whose answer is new.
-/
namespace Vm
open Go

/-- an answer of new bytes that lie in a block -/
structure NewA (n : Nat) (h : H) (v : V) (l : List UInt8) : Prop where
  own : BysW h v l n
  le : h.n = n + 1
theorem NewA.nofz {n : Nat} {h : H} {v : V} {l : List UInt8} (w : NewA n h v l) : NoFz n (v, h) := by
  refine nofz_of ?_ fun b h1 h2 s hs => ?_
  · rw [w.own.v]; rfl
  · have : b = n := by have := w.le; omega
    subst this
    rw [w.own.g] at hs
    obtain ⟨c, _, rfl⟩ := List.mem_map.1 hs
    rfl
end Vm
/-
  Bytes appended and copied; results of a code and bytes: compared, marked, found again.
-/
namespace Vm
open Go

end Vm
/-
  What is one's own in a stretch of blocks: kept when other blocks change.
-/
namespace Vm
open Go
/-- a fact on the blocks from lo to hi alone -/
structure Sep (Q : H → Prop) (lo hi : Nat) (h : H) : Prop where
  top : hi ≤ h.n
  q : ∀ h' : H, hi ≤ h'.n → (∀ b, lo ≤ b → b < hi → h'.g b = h.g b) → Q h'
/-- all but the blocks from lo to hi as it was -/
structure ButR (lo hi : Nat) (h h' : H) : Prop where
  n : h'.n = h.n
  g : ∀ c, (c < lo ∨ hi ≤ c) → h'.g c = h.g c
section
variable {Q : H → Prop} {lo hi : Nat} {h h' : H}
theorem Sep.now (w : Sep Q lo hi h) : Q h := w.q h w.top fun _ _ _ => rfl
theorem Sep.up (w : Sep Q lo hi h) (u : Up h h') : Sep Q lo hi h' := ⟨Nat.le_trans w.top u.n, fun h2 hn hg => w.q h2 hn fun b h1 h3 => (hg b h1 h3).trans (u.g b (by have := w.top; omega))⟩
theorem Sep.over {h1 : H} {hi : Nat} {n : Nat} (hn : n = h.n) (hl : h.n ≤ h1.n) (w : Sep Q n hi h1) : Sep Q n hi (h.over h1) := by
  subst hn
  exact ⟨by rw [over_n hl]; exact w.top, fun h2 hn hg => w.q h2 hn fun b h1 h3 => (hg b h1 h3).trans (over_ge h1)⟩
theorem Sep.mono {lo' hi' : Nat} (w : Sep Q lo hi h) (h1 : lo' ≤ lo) (h2 : hi ≤ hi') (h3 : hi' ≤ h.n) : Sep Q lo' hi' h := ⟨h3, fun h' hn hg => w.q h' (by omega) fun b a b' => hg b (by omega) (by omega)⟩
end
/-- what stands in one block -/
def At (b : Nat) (x : Blk) (h : H) : Prop := b < h.n ∧ h.g b = x
theorem Sep.at {h : H} {b : Nat} {x : Blk} (hb : b < h.n) (hg : h.g b = x) : Sep (At b x) b (b + 1) h := ⟨hb, fun h' hn hg' => ⟨by omega, by rw [hg' b (Nat.le_refl _) (by omega), hg]⟩⟩
/-- bytes in a stretch of blocks -/
def OwnB (v : V) (l : List UInt8) (lo hi : Nat) (h : H) : Prop := ∃ ob, Own h v l ob ∧ ∀ b, ob = some b → lo ≤ b ∧ b < hi
theorem OwnB.sep {v : V} {l : List UInt8} {lo hi : Nat} {h : H} (w : OwnB v l lo hi h) (hn : hi ≤ h.n) : Sep (OwnB v l lo hi) lo hi h := ⟨hn, fun h' hn' hg => by
  obtain ⟨ob, h1, h2⟩ := w
  refine ⟨ob, ?_, h2⟩
  cases ob with
  | none => exact h1
  | some b =>
    have := h2 b rfl
    exact ⟨h1.v, by omega, by rw [hg b this.1 this.2]; exact h1.g⟩⟩
theorem OwnB.frz {v : V} {l : List UInt8} {lo hi : Nat} {h : H} (w : OwnB v l lo hi h) : frzV h v = some (lv (bys l)) := by
  obtain ⟨ob, h1, _⟩ := w
  exact frz1 h1
/-- the answer of a call on a dead heap -/
structure NewS (Q : Nat → Nat → H → Prop) (v : V) (n : Nat) (h : H) : Prop where
  le : n ≤ h.n
  q : Sep (Q n h.n) n h.n h
  z : NoFz n (v, h)
theorem NewA.s {n : Nat} {h : H} {v : V} {l : List UInt8} (w : NewA n h v l) : NewS (OwnB v l) v n h := by
  have := w.le
  exact ⟨by omega, OwnB.sep ⟨some n, w.own, fun b hb => by cases hb; omega⟩ (Nat.le_refl _), w.nofz⟩
theorem NewB.s {n : Nat} {h : H} {v : V} {l : List UInt8} {o : Option Nat} (w : NewB n h v l o) : Sep (OwnB v l n h.n) n h.n h := by
  refine OwnB.sep ⟨o, w.own, fun b hb => ⟨w.new b hb, ?_⟩⟩ (Nat.le_refl _)
  subst hb
  exact w.own.n
/-- from one block's change to a stretch's -/
theorem But.r {h h' : H} {ob : Option Nat} {lo hi : Nat} (u : But ob h h') (h2 : ∀ b, ob = some b → lo ≤ b ∧ b < hi) : ButR lo hi h h' := ⟨u.n, fun c hc => u.g c (fun hh => by have := h2 c hh; omega)⟩

/-! results of a code and bytes, and of a code, a number and bytes -/
theorem NewB.s2 {n : Nat} {h : H} {y : S} {l : List UInt8} {o : Option Nat} {c : Int} (w : NewB n h (.s y) l o) : NewS (OwnB (.s y) l) (.agg [.int .i64 c, y]) n h :=
  ⟨w.le, w.s, ⟨by simp [w.own.sca], w.z⟩⟩
/-- the same answer, frozen -/
theorem NewS.p {Q : Nat → Nat → H → Prop} {f : Nat} {xs : List V} {h : H} {v w : V} (hc : call Ev f xs (D 0) = some (v, h)) (hq : NewS Q v 0 h) (hf : Q 0 h.n h → frzV h v = some w) : pureV (call Ev) f xs = some w := by
  unfold pureV
  rw [hc, Vm.ob, hf hq.q.now]
end Vm
/-
  Live values of any depth: what they are once frozen, and which blocks they lie in.
-/
namespace Vm
open Go
/-- a cell that leads nowhere, and is not frozen -/
def Sc : S → Prop
  | .int _ _ => True
  | .bool _ => True
  | .str _ => True
  | _ => False
theorem Sc.cl {s : S} (h : Sc s) : Cl s := by cases s <;> first | exact h.elim | exact cl_i | exact cl_b | exact cl_s
theorem Sc.sca {s : S} (h : Sc s) : scaS s = true := by cases s <;> first | exact h.elim | rfl
theorem Sc.no {s : S} (h : Sc s) : isNo s = false := by cases s <;> first | exact h.elim | rfl
inductive RepL (R : S → S → List Nat → Prop) : List S → List S → List Nat → Prop
  | nil : RepL R [] [] []
  | cons {y f : S} {bs : List Nat} {ys fs : List S} {bss : List Nat} : R y f bs → RepL R ys fs bss → RepL R (y :: ys) (f :: fs) (bs ++ bss)
def Rep (h : H) : Nat → S → S → List Nat → Prop
  | 0 => fun y f bs => (Sc y ∧ f = y ∨ y = .sl none 0 ∧ f = .fs []) ∧ bs = []
  | d + 1 => fun y f bs => ((Sc y ∧ f = y ∨ y = .sl none 0 ∧ f = .fs []) ∧ bs = []) ∨ ∃ b z cs rows bss, y = .sl (some (b, 0)) rows.length ∧ f = .fs rows ∧ bs = b :: bss ∧ b < h.n ∧ 0 < z ∧ h.g b = .rw z cs ∧ (∀ r ∈ rows, r.length = z) ∧ RepL (Rep h d) cs rows.flatten bss
section
variable {R R' : S → S → List Nat → Prop}
theorem RepL.mono {cs fs : List S} {bss : List Nat} (w : RepL R cs fs bss) (hr : ∀ y f bs, (∀ b ∈ bs, b ∈ bss) → R y f bs → R' y f bs) : RepL R' cs fs bss := by
  induction w with
  | nil => exact .nil
  | @cons y f bs ys fs bss h1 h2 ih => exact .cons (hr _ _ _ (fun b hb => by simp [hb]) h1) (ih fun y f bs hb => hr y f bs fun b hh => by simp [hb b hh])
theorem RepL.len {cs fs : List S} {bss : List Nat} (w : RepL R cs fs bss) : cs.length = fs.length := by
  induction w with
  | nil => rfl
  | cons h1 h2 ih => simp [ih]
theorem RepL.append {cs fs cs' fs' : List S} {bss bss' : List Nat} (w : RepL R cs fs bss) (w' : RepL R cs' fs' bss') : RepL R (cs ++ cs') (fs ++ fs') (bss ++ bss') := by
  induction w with
  | nil => exact w'
  | cons h1 h2 ih => rw [List.cons_append, List.cons_append, List.append_assoc]; exact .cons h1 ih
theorem RepL.split : ∀ {fs fs' : List S} {cs : List S} {bss : List Nat}, RepL R cs (fs ++ fs') bss → ∃ a a' b b', cs = a ++ a' ∧ bss = b ++ b' ∧ RepL R a fs b ∧ RepL R a' fs' b'
  | [], fs', cs, bss, w => ⟨[], cs, [], bss, rfl, rfl, .nil, w⟩
  | f :: fs, fs', cs, bss, w => by
    cases w with
    | @cons y f bs ys fs bss h1 h2 =>
      obtain ⟨a, a', b, b', rfl, rfl, w1, w2⟩ := RepL.split h2
      exact ⟨y :: a, a', bs ++ b, b', rfl, by simp, .cons h1 w1, w2⟩
end
section
variable {h h' : H}
theorem Rep.sc {d : Nat} {s : S} (hs : Sc s) : Rep h d s s [] := by
  cases d with
  | zero => exact ⟨.inl ⟨hs, rfl⟩, rfl⟩
  | succ d => exact .inl ⟨.inl ⟨hs, rfl⟩, rfl⟩
theorem Rep.nil {d : Nat} : Rep h d (.sl none 0) (.fs []) [] := by
  cases d with
  | zero => exact ⟨.inr ⟨rfl, rfl⟩, rfl⟩
  | succ d => exact .inl ⟨.inr ⟨rfl, rfl⟩, rfl⟩
theorem Rep.sl {d b z : Nat} {cs : List S} {rows : List (List S)} {bss : List Nat} (hb : b < h.n) (hz : 0 < z) (hg : h.g b = .rw z cs) (hr : ∀ r ∈ rows, r.length = z) (w : RepL (Rep h d) cs rows.flatten bss) : Rep h (d + 1) (.sl (some (b, 0)) rows.length) (.fs rows) (b :: bss) :=
  .inr ⟨b, z, cs, rows, bss, rfl, rfl, rfl, hb, hz, hg, hr, w⟩
theorem RepL.sc {d : Nat} : ∀ {l : List S}, (∀ s ∈ l, Sc s) → RepL (Rep h d) l l []
  | [], _ => .nil
  | s :: l, hl => RepL.cons (bs := []) (Rep.sc (hl s (by simp))) (RepL.sc fun s hs => hl s (by simp [hs]))
theorem Rep.of_sc {d : Nat} {y f : S} {bs : List Nat} (w : Rep h d y f bs) (hf : Sc f) : y = f ∧ bs = [] := by
  cases d with
  | zero =>
    obtain ⟨⟨h1, rfl⟩ | ⟨rfl, rfl⟩, rfl⟩ := w
    · exact ⟨rfl, rfl⟩
    · exact hf.elim
  | succ d =>
    obtain ⟨⟨h1, rfl⟩ | ⟨rfl, rfl⟩, rfl⟩ | ⟨b, z, cs, rows, bss, rfl, rfl, rfl, h1⟩ := w
    · exact ⟨rfl, rfl⟩
    · exact hf.elim
    · exact hf.elim
theorem RepL.of_sc {d : Nat} : ∀ {cs fs : List S} {bss : List Nat}, RepL (Rep h d) cs fs bss → (∀ s ∈ fs, Sc s) → cs = fs ∧ bss = []
  | _, _, _, .nil, _ => ⟨rfl, rfl⟩
  | _, _, _, .cons h1 h2, hs => by
    obtain ⟨rfl, rfl⟩ := Rep.of_sc h1 (hs _ (by simp))
    obtain ⟨rfl, rfl⟩ := RepL.of_sc h2 fun s hs' => hs s (by simp [hs'])
    exact ⟨rfl, rfl⟩
theorem Rep.frame : ∀ {d : Nat} {y f : S} {bs : List Nat}, Rep h d y f bs → (∀ b ∈ bs, b < h'.n ∧ h'.g b = h.g b) → Rep h' d y f bs
  | 0, y, f, bs, w, _ => w
  | d + 1, y, f, bs, w, hb => by
    rcases w with w | ⟨b, z, cs, rows, bss, rfl, rfl, rfl, h1, h2, h3, h4, h5⟩
    · exact .inl w
    · have := hb b (by simp)
      exact .inr ⟨b, z, cs, rows, bss, rfl, rfl, rfl, this.1, h2, this.2.trans h3, h4, h5.mono fun y f bs hs w => Rep.frame w fun b' hb' => hb b' (by simp [hs b' hb'])⟩
theorem RepL.frame {d : Nat} {cs fs : List S} {bss : List Nat} (w : RepL (Rep h d) cs fs bss) (hb : ∀ b ∈ bss, b < h'.n ∧ h'.g b = h.g b) : RepL (Rep h' d) cs fs bss :=
  w.mono fun y f bs hs w => w.frame fun b hbb => hb b (hs b hbb)
theorem Rep.lift : ∀ {d : Nat} {y f : S} {bs : List Nat}, Rep h d y f bs → Rep h (d + 1) y f bs
  | 0, y, f, bs, w => .inl w
  | d + 1, y, f, bs, w => by
    rcases w with w | ⟨b, z, cs, rows, bss, rfl, rfl, rfl, h1, h2, h3, h4, h5⟩
    · exact .inl w
    · exact .inr ⟨b, z, cs, rows, bss, rfl, rfl, rfl, h1, h2, h3, h4, h5.mono fun y f bs hs w => w.lift⟩
theorem Rep.lifts {d k : Nat} {y f : S} {bs : List Nat} (w : Rep h d y f bs) (hd : d ≤ k) : Rep h k y f bs := by
  obtain ⟨j, rfl⟩ := Nat.exists_eq_add_of_le hd
  induction j with
  | zero => exact w
  | succ j ih => exact (ih (by omega)).lift
theorem RepL.lifts {d k : Nat} {cs fs : List S} {bss : List Nat} (w : RepL (Rep h d) cs fs bss) (hd : d ≤ k) : RepL (Rep h k) cs fs bss := w.mono fun y f bs _ w => w.lifts hd
theorem Rep.lt : ∀ {d : Nat} {y f : S} {bs : List Nat}, Rep h d y f bs → ∀ b ∈ bs, b < h.n
  | 0, y, f, bs, w => by obtain ⟨_, rfl⟩ := w; simp
  | d + 1, y, f, bs, w => by
    rcases w with ⟨_, rfl⟩ | ⟨b, z, cs, rows, bss, rfl, rfl, rfl, h1, h2, h3, h4, h5⟩
    · simp
    · intro c hc
      rcases List.mem_cons.1 hc with rfl | hc
      · exact h1
      · clear h3 h4
        generalize rows.flatten = fl at h5
        induction h5 with
        | nil => simp at hc
        | cons w1 w2 ih =>
          rcases List.mem_append.1 hc with hc | hc
          · exact w1.lt _ hc
          · exact ih (by simp [hc]) hc
theorem RepL.lt {d : Nat} {cs fs : List S} {bss : List Nat} (w : RepL (Rep h d) cs fs bss) : ∀ b ∈ bss, b < h.n := by
  induction w with
  | nil => simp
  | cons w1 w2 ih =>
    intro c hc
    rcases List.mem_append.1 hc with hc | hc
    · exact w1.lt _ hc
    · exact ih _ hc
theorem Rep.sca {d : Nat} {y f : S} {bs : List Nat} (w : Rep h d y f bs) : scaS y = true := by
  cases d with
  | zero =>
    obtain ⟨⟨h1, rfl⟩ | ⟨rfl, rfl⟩, rfl⟩ := w
    · exact h1.sca
    · rfl
  | succ d =>
    obtain ⟨⟨h1, rfl⟩ | ⟨rfl, rfl⟩, rfl⟩ | ⟨b, z, cs, rows, bss, rfl, rfl, rfl, h1⟩ := w
    · exact h1.sca
    · rfl
    · rfl
theorem Rep.isNo {d : Nat} {y f : S} {bs : List Nat} (w : Rep h d y f bs) : isNo y = false := by
  cases d with
  | zero =>
    obtain ⟨⟨h1, rfl⟩ | ⟨rfl, rfl⟩, rfl⟩ := w
    · exact h1.no
    · rfl
  | succ d =>
    obtain ⟨⟨h1, rfl⟩ | ⟨rfl, rfl⟩, rfl⟩ | ⟨b, z, cs, rows, bss, rfl, rfl, rfl, h1⟩ := w
    · exact h1.no
    · rfl
    · rfl
/-- what it is once frozen -/
theorem Rep.frz : ∀ {d k : Nat} {y f : S} {bs : List Nat}, Rep h d y f bs → d ≤ k → frzS h k y = some f
  | 0, k, y, f, bs, w, _ => by
    obtain ⟨⟨h1, rfl⟩ | ⟨rfl, rfl⟩, rfl⟩ := w
    · exact h1.cl h k
    · exact frz_n
  | d + 1, 0, y, f, bs, w, hk => by omega
  | d + 1, k + 1, y, f, bs, w, hk => by
    rcases w with ⟨⟨h1, rfl⟩ | ⟨rfl, rfl⟩, rfl⟩ | ⟨b, z, cs, rows, bss, rfl, rfl, rfl, h1, h2, h3, h4, h5⟩
    · exact h1.cl h (k + 1)
    · exact frz_n
    · have hl := flat_len h4
      have hc := h5.len
      have hm : mapO (frzS h k) cs = some rows.flatten := by
        clear h3 h4 hl hc
        generalize rows.flatten = fl at h5
        induction h5 with
        | nil => rfl
        | cons w1 w2 ih => simp only [mapO, Rep.frz w1 (show d ≤ k by omega), ih, Option.bind_some]
      simp only [frzS]
      split
      · rename_i h0; rw [List.eq_nil_of_length_eq_zero h0]
      · rw [h3]
        simp only
        rw [if_pos ⟨h2, by omega⟩, List.drop_zero, List.take_of_length_le (by omega), hm]
        simp [chunk_rows h4]
theorem RepL.mapO {d k : Nat} {cs fs : List S} {bss : List Nat} (w : RepL (Rep h d) cs fs bss) (hd : d ≤ k) : Vm.mapO (frzS h k) cs = some fs := by
  induction w with
  | nil => rfl
  | cons w1 w2 ih => simp only [Vm.mapO, w1.frz hd, ih, Option.bind_some]
end
/-- bytes -/
theorem bys_sc {l : List UInt8} : ∀ s ∈ (bys l).flatten, Sc s := by
  rw [bys_flat]
  intro s hs
  obtain ⟨c, _, rfl⟩ := List.mem_map.1 hs
  trivial
theorem Own.rep {h : H} {d : Nat} {y : S} {l : List UInt8} {ob : Option Nat} (h1 : Own h (.s y) l ob) : Rep h (d + 1) y (.fs (bys l)) ob.toList := by
  cases ob with
  | none => obtain ⟨h1, rfl⟩ := h1; cases h1; exact Rep.nil
  | some b =>
    have hv := h1.v
    injection hv with hv
    subst hv
    have := Rep.sl (d := d) (h := h) (b := b) (z := 1) (rows := bys l) (bss := []) h1.n (by omega) (by rw [bys_flat]; exact h1.g) bys_row (RepL.sc (by exact bys_sc))
    rwa [bys_len] at this
/-- a value of one's own in a stretch of blocks -/
def OwnF (d : Nat) (y f : S) (lo hi : Nat) (h : H) : Prop := ∃ bs, Rep h d y f bs ∧ bs.Nodup ∧ ∀ b ∈ bs, lo ≤ b ∧ b < hi
theorem OwnF.sep {d : Nat} {y f : S} {lo hi : Nat} {h : H} (w : OwnF d y f lo hi h) (hn : hi ≤ h.n) : Sep (OwnF d y f lo hi) lo hi h := ⟨hn, fun h' hn' hg => by
  obtain ⟨bs, h1, h2, h3⟩ := w
  exact ⟨bs, h1.frame fun b hb => ⟨by have := h3 b hb; omega, hg b (h3 b hb).1 (h3 b hb).2⟩, h2, h3⟩⟩
theorem OwnF.frz {d : Nat} {y f : S} {lo hi : Nat} {h : H} (w : OwnF d y f lo hi h) (hd : d ≤ 8 := by omega) : frzV h (.s y) = some (.s f) := by
  obtain ⟨bs, h1, _⟩ := w
  simp only [frzV, h1.frz hd, Vm.ob]
theorem OwnB.f {d : Nat} {y : S} {l : List UInt8} {lo hi : Nat} {h : H} (w : OwnB (.s y) l lo hi h) : OwnF (d + 1) y (.fs (bys l)) lo hi h := by
  obtain ⟨ob, h1, h2⟩ := w
  refine ⟨ob.toList, h1.rep, ?_, fun b hb => h2 b (by simpa using hb)⟩
  cases ob <;> simp
/-! loops that mark the rows of a slice -/
section
variable {α : Type} (cs : α → List S) (mk : Nat → α → α) (sz : α → Nat)
variable {cs mk sz}
end
end Vm
/-
  Cells of one's own; results that are marked; slices that are filled row by row.
-/
namespace Vm
open Go
theorem sc_bel {n : Nat} {s : S} (h : Sc s) : belS n s = true := by cases s <;> first | exact h.elim | rfl
theorem Rep.top {h : H} {d N : Nat} {y f : S} {bs : List Nat} (w : Rep h d y f bs) (hb : ∀ b ∈ bs, b < N) : belS N y = true := by
  cases d with
  | zero =>
    obtain ⟨⟨h1, rfl⟩ | ⟨rfl, rfl⟩, rfl⟩ := w
    · exact sc_bel h1
    · rfl
  | succ d =>
    obtain ⟨⟨h1, rfl⟩ | ⟨rfl, rfl⟩, rfl⟩ | ⟨b, z, cs, rows, bss, rfl, rfl, rfl, h1⟩ := w
    · exact sc_bel h1
    · rfl
    · simpa [belS] using hb b (by simp)
theorem RepL.top {h : H} {d N : Nat} {cs fs : List S} {bss : List Nat} (w : RepL (Rep h d) cs fs bss) (hb : ∀ b ∈ bss, b < N) : cs.all (belS N) = true := by
  induction w with
  | nil => rfl
  | cons w1 w2 ih =>
    rw [List.all_cons, w1.top fun b hh => hb b (by simp [hh]), ih fun b hh => hb b (by simp [hh])]; rfl
/-- cells of one's own in a stretch of blocks -/
def OwnC (d : Nat) (ys fs : List S) (lo hi : Nat) (h : H) : Prop := ∃ bs, RepL (Rep h d) ys fs bs ∧ bs.Nodup ∧ ∀ b ∈ bs, lo ≤ b ∧ b < hi
theorem OwnC.sep {d : Nat} {ys fs : List S} {lo hi : Nat} {h : H} (w : OwnC d ys fs lo hi h) (hn : hi ≤ h.n) : Sep (OwnC d ys fs lo hi) lo hi h := ⟨hn, fun h' hn' hg => by
  obtain ⟨bs, h1, h2, h3⟩ := w
  exact ⟨bs, h1.frame fun b hb => ⟨by have := h3 b hb; omega, hg b (h3 b hb).1 (h3 b hb).2⟩, h2, h3⟩⟩
theorem OwnC.frz {d : Nat} {ys fs : List S} {lo hi : Nat} {h : H} (w : OwnC d ys fs lo hi h) (hd : d ≤ 8 := by omega) : frzV h (.agg ys) = some (.agg fs) := by
  obtain ⟨bs, h1, _⟩ := w
  simp only [frzV, h1.mapO hd, Vm.ob]
theorem RepL.sca {h : H} {d : Nat} {cs fs : List S} {bss : List Nat} (w : RepL (Rep h d) cs fs bss) : cs.all scaS = true := by
  induction w with
  | nil => rfl
  | cons w1 w2 ih => rw [List.all_cons, w1.sca, ih]; rfl
theorem OwnC.scaV {d : Nat} {ys fs : List S} {lo hi : Nat} {h : H} (w : OwnC d ys fs lo hi h) : Vm.scaV (.agg ys) = true := by
  obtain ⟨bs, h1, _⟩ := w
  exact h1.sca
/-- one value behind plain cells -/
theorem OwnF.c {d : Nat} {pre : List S} {y f : S} {lo hi : Nat} {h : H} (hp : ∀ s ∈ pre, Sc s) (w : OwnF d y f lo hi h) : OwnC d (pre ++ [y]) (pre ++ [f]) lo hi h := by
  obtain ⟨bs, h1, h2, h3⟩ := w
  exact ⟨bs, by simpa using (RepL.sc (d := d) hp).append (.cons h1 .nil), h2, h3⟩
theorem OwnC.f {d : Nat} {pre : List S} {y f : S} {lo hi : Nat} {h : H} (hp : ∀ s ∈ pre, Sc s) (w : OwnC d (pre ++ [y]) (pre ++ [f]) lo hi h) : OwnF d y f lo hi h := by
  obtain ⟨bs, h1, h2, h3⟩ := w
  obtain ⟨a, a', b, b', e1, rfl, w1, w2⟩ := h1.split
  obtain ⟨rfl, rfl⟩ := w1.of_sc hp
  have := List.append_cancel_left e1
  subst this
  cases w2 with
  | cons w3 w4 => cases w4; exact ⟨_, by simpa using w3, by simpa using h2, by simpa using h3⟩
/-- the answer of a call: new cells of one's own -/
structure NewC (d : Nat) (ys fs : List S) (n : Nat) (h : H) : Prop where
  le : n ≤ h.n
  q : OwnC d ys fs n h.n h
theorem scrub_g {n : Nat} {h : H} {b : Nat} (hb : (h.g b).cells.all scaS = true) : (scrub n h).g b = h.g b := by
  simp only [scrub]
  rw [if_neg (fun hh => by rw [hb] at hh; cases hh.2.2)]
theorem Rep.scaB {h : H} : ∀ {d : Nat} {y f : S} {bs : List Nat}, Rep h d y f bs → ∀ b ∈ bs, (h.g b).cells.all scaS = true
  | 0, y, f, bs, w => by obtain ⟨_, rfl⟩ := w; simp
  | d + 1, y, f, bs, w => by
    rcases w with ⟨_, rfl⟩ | ⟨b, z, cs, rows, bss, rfl, rfl, rfl, h1, h2, h3, h4, h5⟩
    · simp
    · intro c hc
      rcases List.mem_cons.1 hc with rfl | hc
      · rw [h3]; exact h5.sca
      · clear h3 h4
        generalize rows.flatten = fl at h5
        induction h5 with
        | nil => simp at hc
        | cons w1 w2 ih =>
          rcases List.mem_append.1 hc with hc | hc
          · exact w1.scaB _ hc
          · exact ih (by simp [hc]) hc
theorem RepL.scaB {h : H} {d : Nat} {cs fs : List S} {bss : List Nat} (w : RepL (Rep h d) cs fs bss) : ∀ b ∈ bss, (h.g b).cells.all scaS = true := by
  induction w with
  | nil => simp
  | cons w1 w2 ih =>
    intro c hc
    rcases List.mem_append.1 hc with hc | hc
    · exact w1.scaB _ hc
    · exact ih _ hc
/-- .. of one value -/
theorem pVx {cl : Nat → List V → H → Option (V × H)} {g : Nat} {off : Bool} {xs : List V} {h : H} {n d : Nat} {y f : S} {h1 : H} (hn : h.n = n) (hc : cl g xs (D n) = some (.s y, h1)) (hle : n ≤ h1.n) (w : OwnF d y f n h1.n h1) :
    ∃ h', (∀ (R : Type) (k : V → H → Option R), pcallF cl g off xs h k = k (.s y) h') ∧ Up h h' ∧ n ≤ h'.n ∧ Sep (OwnF d y f n h'.n) n h'.n h' ∧ HExt h h' := by
  subst hn
  have ov : ∀ h2 : H, h2.n = h1.n → (∀ b, (h1.g b).cells.all scaS = true → h2.g b = h1.g b) → Up h (h.over h2) ∧ h.n ≤ (h.over h2).n ∧ Sep (OwnF d y f h.n (h.over h2).n) h.n (h.over h2).n (h.over h2) ∧ HExt h (h.over h2) := fun h2 hn2 hg2 => by
    have hle2 : h.n ≤ h2.n := by omega
    refine ⟨up_over hle2, by rw [over_n hle2]; omega, OwnF.sep ?_ (Nat.le_refl _), ⟨by rw [over_n hle2]; omega, fun b hb => .inr (over_lt hb)⟩⟩
    obtain ⟨bs, w1, w2, w3⟩ := w
    rw [over_n hle2, hn2]
    refine ⟨bs, w1.frame fun b hb => ?_, w2, w3⟩
    have := w3 b hb
    exact ⟨by rw [over_n hle2]; omega, by rw [over_ge this.1]; exact hg2 b (w1.scaB b hb)⟩
  cases off with
  | true =>
    obtain ⟨a1, a2, a3⟩ := ov h1 rfl (fun _ _ => rfl)
    refine ⟨h.over h1, fun R k => ?_, a1, a2, a3⟩
    unfold pcallF
    rw [hc, Vm.ob]
    unfold fchk
    rw [if_pos (.inl rfl)]; rfl
  | false =>
    obtain ⟨a1, a2, a3⟩ := ov (scrub h.n h1) rfl (fun b hb => scrub_g hb)
    refine ⟨h.over (scrub h.n h1), fun R k => ?_, a1, a2, a3⟩
    unfold pcallF
    rw [hc, Vm.ob]
    unfold fchk
    rw [if_pos (.inr (by obtain ⟨bs, w1, _⟩ := w; exact w1.sca))]; rfl
theorem pV {cl : Nat → List V → H → Option (V × H)} {g : Nat} {off : Bool} {xs : List V} {h : H} {n d : Nat} {y f : S} {h1 : H} (hn : h.n = n) (hc : cl g xs (D n) = some (.s y, h1)) (hle : n ≤ h1.n) (w : OwnF d y f n h1.n h1) :
    ∃ h', (∀ (R : Type) (k : V → H → Option R), pcallF cl g off xs h k = k (.s y) h') ∧ Up h h' ∧ n ≤ h'.n ∧ Sep (OwnF d y f n h'.n) n h'.n h' := by
  obtain ⟨h', a, b, c, d, _⟩ := pVx (off := off) hn hc hle w
  exact ⟨h', a, b, c, d⟩
theorem NewC.p {f d : Nat} {xs : List V} {h : H} {ys fs : List S} (hd : d ≤ 8) (hc : call Ev f xs (D 0) = some (.agg ys, h)) (w : NewC d ys fs 0 h) : pureV (call Ev) f xs = some (.agg fs) := by
  unfold pureV
  rw [hc, Vm.ob]
  exact w.q.frz hd

theorem no_tidy_v {h h' : H} {l : List V} (hl : l.all (belV h.n) = false) : tidy h l h' = h' := by
  unfold tidy
  rw [if_neg]
  rintro ⟨_, h2, _⟩
  rw [hl] at h2
  cases h2

/-! slices that are filled row by row -/
section
variable {α : Type} {cs : α → List S}
end
end Vm
/-
  Results of a code and one value, as they are made at the end of a function.
-/
namespace Vm
open Go
theorem sc1 {k : IntKind} {c : Int} : ∀ s ∈ [S.int k c], Sc s := by intro s hs; rw [List.mem_singleton.1 hs]; trivial
/-- a value put into a result that stands in block n -/
theorem fin2S {n d : Nat} {K : H} {y f : S} (hn : n < K.n) (g : K.g n = .rw 0 [.int .i64 0, .sl none 0]) (w : OwnF d y f (n + 1) K.n K) {c : Int} :
    ∃ h', (stK 2 K (pv n 0) (.agg [.int .i64 c, y]) fun h116 => (loadN 2 h116 (pv n 0)).bind fun c117 => some (V.agg c117, h116)) = some (.agg [.int .i64 c, y], h') ∧ NewC d [.int .i64 c, y] [.int .i64 c, f] n h' := by
  rw [stK_rw (z := 2) (e := 0) (o := 0) (b := n) (cs := [.int .i64 0, .sl none 0]) (r := [.int .i64 c, y]) hn g (.inr rfl) rfl (by simp)]
  rw [show setAt [.int .i64 0, .sl none 0] 0 [.int .i64 c, y] = [.int .i64 c, y] from rfl]
  rw [loadN_2 (b := n) (e := 0) (by rw [put_n]; omega) (put_g _ _ _), ob]
  obtain ⟨bs, w1, w2, w3⟩ := w
  refine ⟨_, rfl, by rw [put_n]; omega, ?_⟩
  refine OwnF.c (pre := [.int .i64 c]) sc1 ⟨bs, w1.frame fun b hb => ?_, w2, fun b hb => ?_⟩
  · have := w3 b hb
    exact ⟨by rw [put_n]; omega, put_g' (by omega)⟩
  · have := w3 b hb
    rw [put_n]; omega
theorem cells2 {R : Type} {y : S} (hy : isNo y = false) {k : Int → S → Option R} :
    (cellsK (.s y) fun c112 =>
      if c112.length = 1 ∧ 1 + 1 ≤ ([.int .i64 0, .sl none 0] : List S).length then
      ((setAt ([.int .i64 0, .sl none 0] : List S) 1 c112)[0]?).bind fun x113 =>
      gI .i64 x113 fun i114 =>
      ((setAt ([.int .i64 0, .sl none 0] : List S) 1 c112)[1]?).bind fun x115 =>
      if (setAt ([.int .i64 0, .sl none 0] : List S) 1 c112).length = 2 then k i114 x115 else none else none) = k 0 y := by
  simp only [cellsK, hy, cond_false, ln0, ln1, Nat.zero_add, Nat.reduceAdd, Nat.le_refl, and_self, if_true]
  rw [show setAt [.int .i64 0, .sl none 0] 1 [y] = [.int .i64 0, y] from rfl]
  simp only [gx0, gx1, ob, gI_i, ln0, ln1, Nat.zero_add, Nat.reduceAdd, if_true]
theorem fin2 {g n d : Nat} {xs : List V} {y f : S} {h1 : H} {off : Bool} (hc : call Ev g xs (D (n + 1)) = some (.s y, h1)) (hle : n + 1 ≤ h1.n) (w : OwnF d y f (n + 1) h1.n h1) :
    ∃ h', (pcallF (call Ev) g off xs ((D n).new 0 [.int .i64 0, .sl none 0]) fun v110 h111 =>
      cellsK v110 fun c112 =>
      if c112.length = 1 ∧ 1 + 1 ≤ ([.int .i64 0, .sl none 0] : List S).length then
      ((setAt ([.int .i64 0, .sl none 0] : List S) 1 c112)[0]?).bind fun x113 =>
      gI .i64 x113 fun i114 =>
      ((setAt ([.int .i64 0, .sl none 0] : List S) 1 c112)[1]?).bind fun x115 =>
      if (setAt ([.int .i64 0, .sl none 0] : List S) 1 c112).length = 2 then
      stK 2 h111 (pv ((D n).n) 0) (.agg [.int .i64 i114, x115]) fun h116 =>
      (loadN 2 h116 (pv ((D n).n) 0)).bind fun c117 =>
      some (V.agg c117, h116)
      else none
      else none) = some (.agg [.int .i64 0, y], h') ∧ NewC d [.int .i64 0, y] [.int .i64 0, f] n h' := by
  obtain ⟨K, e, u, hn, w'⟩ := pV (h := (D n).new 0 [.int .i64 0, .sl none 0]) (off := off) (n := n + 1) (by simp) hc hle w
  have hy : isNo y = false := by obtain ⟨bs, w1, _⟩ := w; exact w1.isNo
  rw [e]
  rw [cells2 hy]
  exact fin2S (K := K) (by omega) (by rw [u.g n (by simp)]; exact new_g (D n) _ _) w'.now
end Vm
/-
  A slice of rows of one's own that grows row by row.
-/
namespace Vm
open Go
structure OutS (z d : Nat) (y : S) (rows : List (List S)) (bs : List Nat) (h : H) : Prop where
  rep : Rep h (d + 1) y (.fs rows) bs
  nd : bs.Nodup
  ty : y = .sl none 0 ∨ ∃ b cs, y = .sl (some (b, 0)) rows.length ∧ h.g b = .rw z cs
  len : ∀ r ∈ rows, r.length = z
theorem OutS.none {z d : Nat} {h : H} : OutS z d (.sl none 0) [] [] h := ⟨Rep.nil, by simp, .inl rfl, by simp⟩
theorem OutS.frame {z d : Nat} {y : S} {rows : List (List S)} {bs : List Nat} {h h' : H} (w : OutS z d y rows bs h) (hb : ∀ b ∈ bs, b < h'.n ∧ h'.g b = h.g b) : OutS z d y rows bs h' := by
  refine ⟨w.rep.frame hb, w.nd, ?_, w.len⟩
  rcases w.ty with h1 | ⟨b, cs, h1, h2⟩
  · exact .inl h1
  · refine .inr ⟨b, cs, h1, ?_⟩
    have hbb : b ∈ bs := by
      rcases w.rep with ⟨⟨h3, _⟩ | ⟨h3, _⟩, _⟩ | ⟨b', z', cs', rows', bss, h3, _, h4, _⟩
      · rw [h1] at h3; exact h3.elim
      · rw [h1] at h3; cases h3
      · rw [h1] at h3
        injection h3 with h3 _
        injection h3 with h3
        injection h3 with h3 _
        rw [h4, h3]; simp
    rw [(hb b hbb).2]; exact h2
theorem app_row {z d : Nat} {y : S} {rows : List (List S)} {bs : List Nat} {h : H} {row fr : List S} {br : List Nat} (w : OutS z d y rows bs h) (wr : RepL (Rep h d) row fr br) (hz : fr.length = z) (hz0 : 0 < z) (hd : br.Nodup) (hdis : ∀ a ∈ bs, a ∉ br) (hl : rows.length + 1 ≤ lim) :
    ∃ h' bs', appS z (h.new z row) (.s y) (sv h.n 0 1) = some (sv (h.n + 1) 0 (rows.length + 1), h') ∧ OutS z d (.sl (some (h.n + 1, 0)) (rows.length + 1)) (rows ++ [fr]) bs' h' ∧ h'.n = h.n + 2 ∧ (∀ c ∈ bs', c = h.n + 1 ∨ c ∈ bs ∨ c ∈ br) ∧ (∀ c, c < h.n → c ∉ bs → h'.g c = h.g c) ∧ (∀ c, c < h.n → h'.g c = h.g c ∨ (h'.g c = .dead ∧ c ∈ bs)) ∧ ∃ cs0, h'.g (h.n + 1) = .rw z (cs0 ++ row) := by
  have hrow : row.length = z := wr.len.trans hz
  have hlt := w.rep.lt
  have hlr := wr.lt
  have cy : cellsS z (h.new z row) (sv h.n 0 1) = some row := by
    simp only [cellsS, H.cells, new_n, new_g, Blk.cells]
    rw [if_pos ⟨by omega, by simp; omega⟩]
    simp [← hrow]
  have gn : (h.new z row).g h.n = .rw z row := new_g _ _ _
  rcases w.rep with ⟨⟨h3, h4⟩ | ⟨h3, h4⟩, h5⟩ | ⟨b, z', cs, rows', bss, h3, h4, h5, h6, h7, h8, h9, h10⟩
  · rw [← h4] at h3; exact h3.elim
  · subst h3
    injection h4 with h4
    subst h4
    subst h5
    refine ⟨(h.new z row).new z row, (h.n + 1) :: br, ?_, ⟨?_, ?_, ?_, ?_⟩, by simp, ?_, fun c hc _ => ?_, fun c hc => .inl ?_, [], new_g (h.new z row) z row⟩
    · simp only [appS, cy, Option.bind_some, lenS]
      rw [if_pos ⟨trivial, by simpa using hl, hz0⟩, if_neg (by omega)]
      rfl
    · have := Rep.sl (d := d) (h := (h.new z row).new z row) (b := h.n + 1) (z := z) (cs := row) (rows := [fr]) (bss := br) (by simp) hz0 (by exact new_g (h.new z row) z row) (by simpa using hz) (by
        simpa using wr.frame fun c hc => ⟨by have := hlr c hc; simp; omega, by rw [new_g' (by have := hlr c hc; simp; omega), new_g' (by have := hlr c hc; omega)]⟩)
      simpa using this
    · exact List.nodup_cons.2 ⟨fun hh => by have := hlr _ hh; omega, hd⟩
    · exact .inr ⟨_, row, rfl, by exact new_g (h.new z row) z row⟩
    · simpa using hz
    · intro c hc
      rcases List.mem_cons.1 hc with h1 | h1
      · exact .inl h1
      · exact .inr (.inr h1)
    · rw [new_g' (by simp; omega), new_g' (by omega)]
    · rw [new_g' (by simp; omega), new_g' (by omega)]
  · injection h4 with h4
    subst h4
    subst h3
    subst h5
    have hzz : z' = z := by
      rcases w.ty with hh | ⟨b', cs', hh, hg⟩
      · cases hh
      · injection hh with hh _
        injection hh with hh
        injection hh with hh _
        subst hh
        rw [h8] at hg
        injection hg
    subst hzz
    have hcl := h10.len
    rw [flat_len h9] at hcl
    have hbn : b ≠ h.n := by omega
    have cx : cellsS z' (h.new z' row) (sv b 0 rows.length) = some cs := by
      have hc : (h.new z' row).cells b = cs := by unfold H.cells; rw [if_pos (by simp; omega), new_g' hbn, h8]; rfl
      simp only [cellsS, hc]
      rw [if_pos ⟨by simp; omega, by omega⟩, List.drop_zero, List.take_of_length_le (by omega)]
    have hd2 := List.nodup_cons.1 w.nd
    refine ⟨((h.new z' row).put b .dead).new z' (cs ++ row), (h.n + 1) :: (bss ++ br), ?_, ⟨?_, ?_, ?_, ?_⟩, by simp, ?_, fun c hc hcb => ?_, fun c hc => ?_, cs, new_g ((h.new z' row).put b .dead) z' (cs ++ row)⟩
    · simp only [appS, cx, cy, Option.bind_some, lenS]
      rw [if_pos ⟨by rw [new_n]; omega, hl, hz0⟩, new_g' hbn, h8]
      simp only [if_true]
      rfl
    · have fr1 : ∀ c, c < h.n → c ≠ b → (((h.new z' row).put b .dead).new z' (cs ++ row)).g c = h.g c := fun c hc hcb => by
        rw [new_g' (by simp; omega), put_g' hcb, new_g' (by omega)]
      have := Rep.sl (d := d) (h := ((h.new z' row).put b .dead).new z' (cs ++ row)) (b := h.n + 1) (z := z') (cs := cs ++ row) (rows := rows ++ [fr]) (bss := bss ++ br) (by simp) hz0 (by exact new_g ((h.new z' row).put b .dead) z' (cs ++ row)) (by
          intro r hr
          rcases List.mem_append.1 hr with hr | hr
          · exact h9 r hr
          · rw [List.mem_singleton.1 hr]; exact hz) (by
        rw [List.flatten_append]
        have wr2 : RepL (Rep (((h.new z' row).put b .dead).new z' (cs ++ row)) d) row fr br := wr.frame fun c hc => by
          have := hlr c hc
          exact ⟨by simp; omega, fr1 c this (fun hh => hdis b (by simp) (hh ▸ hc))⟩
        refine RepL.append (h10.frame fun c hc => ?_) (by simpa using wr2)
        have := hlt c (by simp [hc])
        exact ⟨by simp; omega, fr1 c this (fun hh => hd2.1 (hh ▸ hc))⟩)
      simpa using this
    · refine List.nodup_cons.2 ⟨fun hh => ?_, List.nodup_append.2 ⟨hd2.2, hd, fun a ha a' ha' hh => hdis a (by simp [ha]) (hh ▸ ha')⟩⟩
      rcases List.mem_append.1 hh with hh | hh
      · have := hlt (h.n + 1) (by simp [hh]); omega
      · have := hlr _ hh; omega
    · exact .inr ⟨h.n + 1, cs ++ row, by simp, by exact new_g ((h.new z' row).put b .dead) z' (cs ++ row)⟩
    · intro r hr
      rcases List.mem_append.1 hr with hr | hr
      · exact h9 r hr
      · rw [List.mem_singleton.1 hr]; exact hz
    · intro c hc
      rcases List.mem_cons.1 hc with h1 | h1
      · exact .inl h1
      rcases List.mem_append.1 h1 with h1 | h1
      · exact .inr (.inl (by simp [h1]))
      · exact .inr (.inr h1)
    · rw [new_g' (by simp; omega), put_g' (fun hh => hcb (by simp [hh])), new_g' (by omega)]
    · by_cases hcb : c = b
      · subst hcb
        refine .inr ⟨?_, by simp⟩
        rw [new_g' (by simp; omega)]
        exact put_g _ _ _
      · refine .inl ?_
        rw [new_g' (by simp; omega), put_g' hcb, new_g' (by omega)]
end Vm
/-
  Rows that are marked; rows of one's own.
-/
namespace Vm
open Go
/-! the text of a mark -/
/-! a row that is marked -/
theorem row_sc {r : RowD} : ∀ s ∈ r.cs, Sc s := by
  intro s hs
  simp only [List.mem_cons, List.not_mem_nil, or_false] at hs
  rcases hs with rfl | rfl | rfl | rfl <;> trivial
theorem st_cell {R : Type} {b e o j : Nat} {h : H} {pre row post : List S} {x : S} {k : H → Option R} (hb : b < h.n) (hg : h.g b = .rw e (pre ++ row ++ post)) (hp : pre.length = o) (hj : j < row.length) (hx : isNo x = false) :
    stK 1 h (pv b (o + j)) (.s x) k = k (h.put b (.rw e (pre ++ row.set j x ++ post))) := by
  rw [stK_rw (z := 1) (r := [x]) hb hg (.inl ⟨x, rfl, rfl, hx⟩) rfl (by simp; omega)]
  congr 3
  have e1 : pre ++ row ++ post = (pre ++ row.take j) ++ (row.drop j ++ post) := by simp [List.append_assoc]; rw [← List.append_assoc (row.take j), List.take_append_drop]
  rw [e1, setAt_at (z := 1) (by rw [List.length_append, List.length_take, hp]; omega) rfl, List.set_eq_take_append_cons_drop, if_pos hj, List.drop_append_of_le_length (by rw [List.length_drop]; omega), List.drop_drop]
  simp [List.append_assoc]
/-! a value of one's own -/
def OwnV (v : V) (f : S) (lo hi : Nat) (h : H) : Prop := ∃ y, v = .s y ∧ OwnF 5 y f lo hi h
theorem OwnV.frz {v : V} {rs : List (List S)} {lo hi : Nat} {h : H} (w : OwnV v (.fs rs) lo hi h) : frzV h v = some (lv rs) := by
  obtain ⟨y, rfl, w⟩ := w
  exact w.frz
theorem OwnV.sep {v : V} {f : S} {lo hi : Nat} {h : H} (w : OwnV v f lo hi h) (hn : hi ≤ h.n) : Sep (OwnV v f lo hi) lo hi h := ⟨hn, fun h' hn' hg => by
  obtain ⟨y, rfl, w⟩ := w
  exact ⟨y, rfl, (w.sep hn).q h' hn' hg⟩⟩
theorem OwnV.pv {cl : Nat → List V → H → Option (V × H)} {g : Nat} {off : Bool} {xs : List V} {h : H} {n : Nat} {v : V} {f : S} {h1 : H} (hn : h.n = n) (hc : cl g xs (D n) = some (v, h1)) (hw : n ≤ h1.n ∧ OwnV v f n h1.n h1) :
    ∃ h', (∀ (R : Type) (k : V → H → Option R), pcallF cl g off xs h k = k v h') ∧ Up h h' ∧ n ≤ h'.n ∧ Sep (OwnV v f n h'.n) n h'.n h' := by
  obtain ⟨hle, y, rfl, w⟩ := hw
  obtain ⟨h', e, u, hn', w'⟩ := pV (off := off) hn hc hle w
  exact ⟨h', e, u, hn', OwnV.sep ⟨y, rfl, w'.now⟩ (Nat.le_refl _)⟩
/-- flat rows in one block -/
theorem own_flat {h : H} {n z : Nat} {rows : List (List S)} (hn : n < h.n) (hz0 : 0 < z) (hg : h.g n = .rw z rows.flatten) (hz : ∀ r ∈ rows, r.length = z) (hs : ∀ r ∈ rows, ∀ s ∈ r, Sc s) : OwnV (sv n 0 rows.length) (.fs rows) n h.n h := by
  refine ⟨_, rfl, [n], ?_, by simp, by simpa using hn⟩
  exact Rep.sl (bss := []) hn hz0 hg hz (RepL.sc fun s hs' => by
    obtain ⟨r, h1, h2⟩ := List.mem_flatten.1 hs'
    exact hs r h1 s h2)
theorem rws_sc {rs : List RowD} : ∀ r ∈ rws rs, ∀ s ∈ r, Sc s := by
  intro r hr
  obtain ⟨c, _, rfl⟩ := List.mem_map.1 hr
  exact row_sc
theorem NewRw.own {n : Nat} {h : H} {v : V} {rs : List RowD} (w : NewRw n h v rs) : n ≤ h.n ∧ OwnV v (.fs (rws rs)) n h.n h := by
  have := own_flat (h := h) (n := n) (z := 4) (rows := rws rs) (by have := w.le; omega) (by omega) w.g rws_row rws_sc
  rw [rws_len] at this
  rw [w.v]
  exact ⟨by have := w.le; omega, this⟩
/-! results of rows -/
end Vm
/-
  Slices of flat rows that grow in a loop.
-/
namespace Vm
open Go
theorem app_flat {z : Nat} {y : S} {rows : List (List S)} {bs : List Nat} {h : H} {row : List S} (w : OutS z 0 y rows bs h) (hs : ∀ s ∈ row, Sc s) (hz : row.length = z) (hz0 : 0 < z) (hl : rows.length + 1 ≤ lim) :
    ∃ h' bs', appS z (h.new z row) (.s y) (sv h.n 0 1) = some (sv (h.n + 1) 0 (rows.length + 1), h') ∧ OutS z 0 (.sl (some (h.n + 1, 0)) (rows.length + 1)) (rows ++ [row]) bs' h' ∧ h'.n = h.n + 2 ∧ (∀ c ∈ bs', c = h.n + 1 ∨ c ∈ bs) ∧ (∀ c, c < h.n → c ∉ bs → h'.g c = h.g c) := by
  obtain ⟨h', bs', e, o, n, m, k, _, _⟩ := app_row (fr := row) (br := []) w (RepL.sc hs) hz hz0 (by simp) (by simp) hl
  exact ⟨h', bs', e, o, n, fun c hc => by rcases m c hc with h | h | h <;> simp_all, k⟩
/-- a slice that grows over what stood in a heap of height n -/
def Gr (z n : Nat) (h0 : H) (y : S) (rows : List (List S)) (h : H) : Prop := n ≤ h.n ∧ (∀ c, c < n → h.g c = h0.g c) ∧ ∃ bs, OutS z 0 y rows bs h ∧ ∀ b ∈ bs, n ≤ b
theorem Gr.none {z n : Nat} {h : H} (hn : n ≤ h.n) : Gr z n h (.sl none 0) [] h := ⟨hn, fun _ _ => rfl, [], OutS.none, by simp⟩
theorem Gr.new {z : Nat} {h : H} (hz0 : 0 < z) : Gr z h.n h (.sl (some (h.n, 0)) 0) [] (h.new z []) := by
  refine ⟨by simp, fun c hc => new_g' (by omega), [h.n], ⟨?_, by simp, .inr ⟨h.n, [], rfl, new_g _ _ _⟩, by simp⟩, by simp⟩
  exact Rep.sl (rows := []) (bss := []) (by simp) hz0 (new_g _ _ _) (by simp) .nil
theorem Gr.keep {z n : Nat} {h0 h h' : H} {y : S} {rows : List (List S)} (w : Gr z n h0 y rows h) (x : HKeep h h') : Gr z n h0 y rows h' := by
  obtain ⟨w1, w2, bs, w3, w4⟩ := w
  exact ⟨Nat.le_trans w1 x.1, fun c hc => (x.2 c (by omega)).1.trans (w2 c hc), bs, w3.frame fun b hb => by
    have := w3.rep.lt b hb
    exact ⟨by have := x.1; omega, (x.2 b this).1⟩, w4⟩
theorem Gr.app {z n : Nat} {h0 h : H} {y : S} {rows : List (List S)} {row : List S} (w : Gr z n h0 y rows h) (hs : ∀ s ∈ row, Sc s) (hz : row.length = z) (hz0 : 0 < z) (hl : rows.length + 1 ≤ lim) :
    ∃ h', appS z (h.new z row) (.s y) (sv h.n 0 1) = some (sv (h.n + 1) 0 (rows.length + 1), h') ∧ Gr z n h0 (.sl (some (h.n + 1, 0)) (rows.length + 1)) (rows ++ [row]) h' ∧ h'.n = h.n + 2 := by
  obtain ⟨w1, w2, bs, w3, w4⟩ := w
  obtain ⟨h', bs', e, o, hn, m, k⟩ := app_flat w3 hs hz hz0 hl
  refine ⟨h', e, ⟨by omega, fun c hc => (k c (by omega) fun hh => by have := w4 c hh; omega).trans (w2 c hc), bs', o, fun b hb => ?_⟩, hn⟩
  rcases m b hb with rfl | hb
  · omega
  · exact w4 b hb
theorem Gr.own {z n : Nat} {h0 h : H} {y : S} {rows : List (List S)} (w : Gr z n h0 y rows h) : OwnF 1 y (.fs rows) n h.n h := by
  obtain ⟨w1, w2, bs, w3, w4⟩ := w
  exact ⟨bs, w3.rep, w3.nd, fun b hb => ⟨w4 b hb, w3.rep.lt b hb⟩⟩
theorem Gr.frz {z n : Nat} {h0 h : H} {y : S} {rows : List (List S)} (w : Gr z n h0 y rows h) : frzV h (.s y) = some (lv rows) := w.own.frz
theorem OwnF.lift {d k : Nat} {y f : S} {lo hi : Nat} {h : H} (w : OwnF d y f lo hi h) (hk : d ≤ k) : OwnF k y f lo hi h := by
  obtain ⟨bs, a, b, c⟩ := w
  exact ⟨bs, a.lifts hk, b, c⟩
theorem OwnF.no {d : Nat} {y f : S} {lo hi : Nat} {h : H} (w : OwnF d y f lo hi h) : isNo y = false := by
  obtain ⟨bs, a, b, c⟩ := w
  exact a.isNo
/-- the value that grew is not let go -/
theorem grow_tidy {h h' : H} {l : List V} {m k : Nat} (hm : h.n ≤ m) (hl : sv m 0 k ∈ l) : tidy h l h' = h' := by
  refine no_tidy_v ?_
  rw [List.all_eq_false]
  exact ⟨_, hl, by simp [belV, belS]; omega⟩
/-- a fault, of a depth that is asked -/
theorem bad2D (n d : Nat) (c : Int) : ∃ h', (stK 2 ((D n).new 0 [.int .i64 0, .sl none 0]) (pv ((D n).n) 0) (.agg [.int .i64 c, .sl none 0]) fun h105 =>
      (loadN 2 h105 (pv ((D n).n) 0)).bind fun c106 => some (V.agg c106, h105)) = some (.agg [.int .i64 c, .sl none 0], h') ∧ NewC d [.int .i64 c, .sl none 0] [.int .i64 c, .fs []] n h' := by
  rw [st2_new, loadN_2 (by simp) (by exact g_st), Vm.ob]
  refine ⟨_, rfl, by simp, [], ?_, by simp, by simp⟩
  exact RepL.cons (bs := []) (Rep.sc trivial) (RepL.cons (bs := []) Rep.nil .nil)
end Vm
/-
  Slices of changes: their size, a copy, a comparison; marked.
-/
namespace Vm
open Go
def chs (rs : List ChgD) : List (List S) := rs.map ChgD.cs
@[simp] theorem chs_len (rs : List ChgD) : (chs rs).length = rs.length := by simp [chs]
theorem chg_sc {c : ChgD} : ∀ s ∈ c.cs, Sc s := by
  intro s hs
  simp only [List.mem_cons, List.not_mem_nil, or_false] at hs
  rcases hs with rfl | rfl | rfl | rfl | rfl | rfl | rfl | rfl | rfl | rfl <;> trivial
theorem chs_sc {rs : List ChgD} : ∀ r ∈ chs rs, ∀ s ∈ r, Sc s := by
  intro r hr
  obtain ⟨c, _, rfl⟩ := List.mem_map.1 hr
  exact chg_sc
theorem chs_get {rs : List ChgD} {i : Nat} {r : ChgD} (h : rs[i]? = some r) : (chs rs)[i]? = some r.cs := by simp [chs, h]
theorem chs_snoc (rs : List ChgD) (r : ChgD) : chs (rs ++ [r]) = chs rs ++ [r.cs] := by simp [chs]
section
variable {R : Type}
theorem idxF_ch {rs : List ChgD} {i : Nat} {r : ChgD} {k : List S → Option R} (h : rs[i]? = some r) : idxF 10 (chs rs) (i : Int) k = k r.cs := idxF_at (chs_get h) rfl
end
theorem rowN_ch {r : ChgD} : rowN 10 r.cs 0 = some r.cs := rowN_all rfl
theorem normV_ch {r : ChgD} : normV 10 (fv r.cs 0) = fv r.cs 0 := rfl
/-! size -/
/-! a copy -/
/-! a comparison -/
/-! marks -/
/-! results of changes -/
end Vm
/-
  Cells that lie in a new block.
-/
namespace Vm
open Go
theorem setAt_full {cs r : List S} (h : cs.length ≤ r.length) : setAt cs 0 r = r := by simp [setAt, List.drop_of_length_le h]
/-! cells that lie in a new block -/
def putX (h : H) (zs cs : List S) : H := (h.new 0 zs).put h.n (.rw 0 cs)
theorem putX_keep (h : H) (zs cs : List S) : HKeep h (putX h zs cs) := ((HKeep.refl h).new).put (Nat.le_refl _)
theorem putX_n (h : H) (zs cs : List S) : (putX h zs cs).n = h.n + 1 := rfl
theorem putX_g (h : H) (zs cs : List S) : (putX h zs cs).g h.n = .rw 0 cs := put_g _ _ _
theorem putX_cells (h : H) (zs cs : List S) : (putX h zs cs).cells h.n = cs := by
  unfold H.cells; rw [if_pos (by rw [putX_n]; omega), putX_g]; rfl
theorem putX_tidy {h : H} {zs cs : List S} {l : List V} (hl : l.all (belV h.n) = true) : tidy h l (putX h zs cs) = h := tidy_ext (putX_keep h zs cs) hl
section
variable {R : Type}
theorem stK_X {z : Nat} {h : H} {zs cs : List S} {k : H → Option R} (hz : zs.length = z) (hc : cs.length = z) : stK z (h.new 0 zs) (pv h.n 0) (.agg cs) k = k (putX h zs cs) := by
  rw [stK_rw (z := z) (o := 0) (b := h.n) (r := cs) (e := 0) (cs := zs) (by simp) (new_g h _ _) (.inr rfl) hc (by omega), setAt_full (by omega)]
  rfl
end
theorem loadN_X {h : H} {zs cs : List S} {n o : Nat} {r : List S} (hn : o + n ≤ cs.length) (hr : (cs.drop o).take n = r) : loadN n (putX h zs cs) (pv h.n o) = some r := by
  have := putX_cells h zs cs
  have h2 : h.n < (putX h zs cs).n := by rw [putX_n]; omega
  simp only [loadN]
  rw [if_pos ⟨h2, by rw [this]; exact hn⟩, this, hr]
theorem load1_X {h : H} {zs cs : List S} {o : Nat} {x : S} (hx : cs[o]? = some x) : load1 (putX h zs cs) (pv h.n o) = some x := by
  simp only [load1]; rw [putX_cells, hx]
end Vm
/-
  The changes that take others back.
-/
namespace Vm
open Go
abbrev zC : List S := [.bool false, .int .i64 0, .int .i64 0, .int .i64 0, .str ⟨#[]⟩, .bool false, .int .i64 0, .int .i64 0, .int .i64 0, .str ⟨#[]⟩]
/-! a change alone -/
def eqRowB (a b : RowD) : Bool := (a.tab == b.tab) && ((a.key == b.key) && ((a.val == b.val) && ((a.text.toList == b.text.toList) && true)))
def singF (c : ChgD) : Int := if chgF c = 0 then (if c.was && c.is && eqRowB c.b c.a then 1 else 0) else chgF c
theorem p_singleFault (c : ChgD) (hc : c.ok) : pureV (call Ev) Fn.impl_singleFault [.agg c.cs] = some (iv .i64 (singF c)) := by
  rw [pu_impl_singleFault, pc (p_changeFault c hc) rfl]
  simp only [gV1_s, gI_i, vcase_b, bne_iff_ne, ne_eq]
  rw [show ((c.b.tab == c.a.tab) && ((c.b.key == c.a.key) && ((c.b.val == c.a.val) && ((c.b.text.toList == c.a.text.toList) && true)))) = eqRowB c.b c.a from rfl]
  unfold singF
  by_cases h0 : chgF c = 0
  · rw [if_neg (by simp [h0]), if_pos h0]
    cases c.was <;> cases c.is <;> cases eqRowB c.b c.a <;> simp
  · rw [if_pos h0, if_neg h0]
/-! the inverse -/
def invC (c : ChgD) : ChgD := ⟨c.is, c.a, c.was, c.b⟩
def invs (l : List ChgD) : List ChgD := l.reverse.map invC
theorem invs_snoc (l : List ChgD) (c : ChgD) : invs (l ++ [c]) = invC c :: invs l := by simp [invs]
theorem f_inverse {all : List ChgD} (hl : all.length ≤ lim) (n : Nat) : ∃ y h', call Ev Fn.impl_inverse [lv (chs all)] (D n) = some (.s y, h') ∧ n ≤ h'.n ∧ OwnF 1 y (.fs (chs (invs all))) n h'.n h' := by
  have hl' := hl
  unfold lim at hl'
  have loop : ∀ (k : Nat) (y : S) (out : List ChgD) (h : H), k ≤ all.length → out.length + k ≤ all.length → Gr 10 n (D n) y (chs out) h →
      ∃ y' h', Lp.impl_inverse 0 [lv (chs all), .s y, iv .i64 ((k : Int) - 1)] h = some (.done [.s y'] h') ∧ Gr 10 n (D n) y' (chs (out ++ invs (all.take k))) h' := by
    intro k
    induction k with
    | zero =>
      intro y out h hi ho w
      refine ⟨y, h, ?_, by simpa [invs] using w⟩
      rw [eq_impl_inverse_l0, vcase_b, if_neg (by simp), tidy_self]
    | succ k ih =>
      intro y out h hi ho w
      obtain ⟨c, hc⟩ : ∃ c, all[k]? = some c := ⟨_, List.getElem?_eq_getElem (by omega)⟩
      rw [eq_impl_inverse_l0, vcase_b, show ((k + 1 : Nat) : Int) - 1 = (k : Int) from by omega, if_pos (by simp), idxF_ch hc, rowN_ch, w64 (by omega) (by omega)]
      simp only [ob, gx0, gx1, gI_i, gS_s, gB_b, ln0, ln1, Nat.zero_add, Nat.reduceAdd, if_true]
      rw [stK_X (z := 10) (cs := c.cs) rfl rfl, load1_X (o := 5) (x := .bool c.is) rfl, loadN_X (o := 6) (r := c.a.cs) (by simp) rfl, load1_X (o := 0) (x := .bool c.was) rfl, loadN_X (o := 1) (r := c.b.cs) (by simp) rfl]
      simp only [ob, gx0, gx1, gI_i, gS_s, gB_b, ln0, ln1, Nat.zero_add, Nat.reduceAdd, if_true]
      obtain ⟨h', e, w', hn⟩ := (w.keep (putX_keep h zC c.cs)).app (row := (invC c).cs) chg_sc rfl (by omega) (by rw [chs_len]; unfold lim; omega)
      have e' : appS 10 ((putX h zC c.cs).new 10 [S.bool c.is, .int .i64 c.a.tab, .int .i64 c.a.key, .int .i64 c.a.val, .str c.a.text, .bool c.was, .int .i64 c.b.tab, .int .i64 c.b.key, .int .i64 c.b.val, .str c.b.text]) (.s y) (sv (putX h zC c.cs).n 0 1) = some (sv ((putX h zC c.cs).n + 1) 0 ((chs out).length + 1), h') := e
      rw [e', ob, grow_tidy (m := (putX h zC c.cs).n + 1) (k := (chs out).length + 1) (by rw [putX_n]; omega) (by simp)]
      rw [← chs_snoc] at w'
      obtain ⟨y', h2, e2, w2⟩ := ih _ (out ++ [invC c]) h' (by omega) (by simp; omega) w'
      refine ⟨y', h2, e2, ?_⟩
      have : all.take (k + 1) = all.take k ++ [c] := by rw [List.take_add_one, hc]; rfl
      rw [this, invs_snoc]; simpa using w2
  obtain ⟨y', h', e, w⟩ := loop all.length _ [] _ (Nat.le_refl _) (by simp) (Gr.none (z := 10) (n := n) (h := D n) (by simp))
  rw [eq_impl_inverse, chs_len, w64 (by omega) (by omega), e, ob, lcase_done]
  simp only [gx0, ob]
  rw [List.take_of_length_le (Nat.le_refl _)] at w
  exact ⟨y', h', rfl, w.1, w.own⟩
/-! InverseOf -/
def firF : List ChgD → Int
  | [] => 0
  | c :: cs => if singF c = 0 then firF cs else singF c
def ivF (l : List ChgD) : Int := if 60 < l.length then 2 else firF l
def ivL (l : List ChgD) : List ChgD := if ivF l = 0 then invs l else []
theorem f_InverseOf {all : List ChgD} (hr : ∀ r ∈ all, r.ok) (hl : all.length ≤ lim) (n : Nat) : ∃ y h', call Ev Fn.impl_InverseOf [lv (chs all)] (D n) = some (.agg [.int .i64 (ivF all), y], h') ∧ NewC 5 [.int .i64 (ivF all), y] [.int .i64 (ivF all), .fs (chs (ivL all))] n h' := by
  have hl' := hl
  unfold lim at hl'
  have loop : ∀ (rs : List ChgD) (i : Nat), all.drop i = rs → ∃ h1, Lp.impl_InverseOf 0 [lv (chs all), pv n 0, lv (chs all), iv .i64 (all.length : Int), iv .i64 i] ((D n).new 0 [.int .i64 0, .sl none 0]) = some (if firF rs = 0 then .done [lv (chs all), pv n 0] ((D n).new 0 [.int .i64 0, .sl none 0]) else .ret (.agg [.int .i64 (firF rs), .sl none 0]) h1) ∧ n ≤ h1.n := by
    intro rs
    induction rs with
    | nil =>
      intro i hi
      have := drop_nil hi
      rw [eq_impl_InverseOf_l0, vcase_b, if_neg (by simp; omega), tidy_self]; exact ⟨D n, rfl, by simp⟩
    | cons r rs ih =>
      intro i hi
      obtain ⟨g1, g2, g3⟩ := drop_cons hi
      obtain ⟨h1, e1, n1⟩ := ih (i + 1) g2
      rw [eq_impl_InverseOf_l0, vcase_b, if_pos (by simp; omega), idxF_ch g1, rowN_ch]
      simp only [ob, gx0, gx1, gI_i, gS_s, gB_b, ln0, ln1, Nat.zero_add, Nat.reduceAdd, if_true]
      rw [stK_X (z := 10) (cs := r.cs) rfl rfl, loadN_X (o := 0) (r := r.cs) (by simp) rfl]
      simp only [ob, gx0, gx1, gI_i, gS_s, gB_b, ln0, ln1, Nat.zero_add, Nat.reduceAdd, if_true]
      rw [pc (p_singleFault r (hr r (List.mem_of_getElem? g1))) rfl]
      simp only [gV1_s, gI_i, vcase_b, bne_iff_ne, ne_eq]
      by_cases h0 : singF r = 0
      · have e : firF (r :: rs) = firF rs := by rw [firF, if_pos h0]
        rw [if_neg (by simp [h0]), putX_tidy (by
          simp only [List.all_cons, List.all_nil, Bool.and_true, Bool.and_eq_true]
          exact ⟨rfl, by simp [belV, belS], rfl, rfl, rfl⟩), w64 (by omega) (by omega), show (i : Int) + 1 = ((i + 1 : Nat) : Int) from by omega, e1, e]
        exact ⟨h1, rfl, n1⟩
      · have e : firF (r :: rs) = singF r := by rw [firF, if_neg h0]
        have gn : (putX ((D n).new 0 [.int .i64 0, .sl none 0]) zC r.cs).g n = .rw 0 [.int .i64 0, .sl none 0] := by
          rw [((putX_keep _ _ _).2 n (by simp)).1]; exact new_g (D n) _ _
        rw [if_pos h0, e, stK_rw (z := 2) (e := 0) (o := 0) (b := n) (cs := [.int .i64 0, .sl none 0]) (r := [.int .i64 (singF r), .sl none 0]) (by rw [putX_n]; simp; omega) gn (.inr rfl) rfl (by simp)]
        refine ⟨(putX ((D n).new 0 [.int .i64 0, .sl none 0]) zC r.cs).put n (.rw 0 [.int .i64 (singF r), .sl none 0]), ?_, by rw [put_n, putX_n]; simp; omega⟩
        simp only [ldT, cond_true]
        rw [show setAt [.int .i64 0, .sl none 0] 0 [.int .i64 (singF r), .sl none 0] = [.int .i64 (singF r), .sl none 0] from rfl, loadN_2 (b := n) (e := 0) (by rw [put_n, putX_n]; simp; omega) (put_g _ _ _), ob, if_neg h0]
  rw [eq_impl_InverseOf, vcase_b, chs_len]
  unfold ivL ivF
  by_cases h60 : 60 < all.length
  · obtain ⟨h', e, w⟩ := bad2D n 5 2
    rw [if_pos (by simp; omega), if_pos h60]
    exact ⟨_, h', e, w⟩
  rw [if_neg (by simp; omega), if_neg h60]
  obtain ⟨h1, e1, n1⟩ := loop all 0 rfl
  rw [D_n, show iv .i64 0 = iv .i64 ((0 : Nat) : Int) from rfl, e1, ob]
  by_cases h0 : firF all = 0
  · rw [if_pos h0, lcase_done, h0, if_pos rfl]
    simp only [gx0, gx1, ob, gV1_s, gF_f]
    obtain ⟨y, h2, e2, n2, w2⟩ := f_inverse hl (n + 1)
    obtain ⟨K, e3, u3, n3, w3⟩ := pV (h := (D n).new 0 [.int .i64 0, .sl none 0]) (off := true) (n := n + 1) (by simp) e2 n2 w2
    rw [e3, cells2 w2.no]
    obtain ⟨h4, e4, w4⟩ := fin2S (n := n) (K := K) (c := 0) (by omega) (by rw [u3.g n (by simp)]; exact new_g (D n) _ _) (w3.now.lift (k := 5) (by omega))
    exact ⟨y, h4, by rw [← e4]; rfl, w4⟩
  · rw [if_neg h0, lcase_ret, if_neg h0]
    exact ⟨_, h1, rfl, n1, [], RepL.cons (bs := []) (Rep.sc trivial) (RepL.cons (bs := []) Rep.nil .nil), by simp, by simp⟩
end Vm
/-
  The changes between rising rows: the program's way.
-/
namespace Vm
open Go
/-! cells in a block that is new -/
structure Nw (h : H) (cs : List S) (h' : H) : Prop where
  n : h'.n = h.n + 1
  g : h'.g h.n = .rw 0 cs
  k : ∀ c, c ≠ h.n → h'.g c = h.g c ∧ h'.v c = h.v c
theorem Nw.new {h : H} {cs : List S} : Nw h cs (h.new 0 cs) := ⟨rfl, new_g _ _ _, fun c hc => ⟨new_g' hc, rfl⟩⟩
theorem Nw.keep {h h' : H} {cs : List S} (w : Nw h cs h') : HKeep h h' := ⟨by rw [w.n]; omega, fun b hb => w.k b (by omega)⟩
theorem Nw.cells {h h' : H} {cs : List S} (w : Nw h cs h') : h'.cells h.n = cs := by
  unfold H.cells; rw [if_pos (by rw [w.n]; omega), w.g]; rfl
theorem Nw.put {h h' : H} {cs cs' : List S} (w : Nw h cs h') : Nw h cs' (h'.put h.n (.rw 0 cs')) := ⟨w.n, put_g _ _ _, fun c hc => by
  simp only [H.put, if_neg hc]; exact w.k c hc⟩
section
variable {R : Type}
theorem Nw.st1 {h h' : H} {cs : List S} {j : Nat} {x : S} {k : H → Option R} (w : Nw h cs h') (hj : j < cs.length) (hx : isNo x = false) : stK 1 h' (pv h.n j) (.s x) k = k (h'.put h.n (.rw 0 (cs.set j x))) := by
  have := st_cell (b := h.n) (e := 0) (o := 0) (j := j) (h := h') (pre := []) (row := cs) (post := []) (x := x) (k := k) (by rw [w.n]; omega) (by simpa using w.g) rfl hj hx
  simpa using this
theorem Nw.stN {h h' : H} {cs r : List S} {z o : Nat} {k : H → Option R} (w : Nw h cs h') (hr : r.length = z) (ho : o + z ≤ cs.length) : stK z h' (pv h.n o) (.agg r) k = k (h'.put h.n (.rw 0 (setAt cs o r))) :=
  stK_rw (by rw [w.n]; omega) w.g (.inr rfl) hr ho
end
theorem Nw.ld1 {h h' : H} {cs : List S} {o : Nat} {x : S} (w : Nw h cs h') (hx : cs[o]? = some x) : load1 h' (pv h.n o) = some x := load1_cs w.cells hx
theorem Nw.ldN {h h' : H} {cs r : List S} {o n : Nat} (w : Nw h cs h') (hn : o + n ≤ cs.length) (hr : (cs.drop o).take n = r) : loadN n h' (pv h.n o) = some r := by
  simp only [loadN]
  rw [if_pos ⟨by rw [w.n]; omega, by rw [w.cells]; exact hn⟩, w.cells, hr]
theorem Nw.kill {h a b : H} {cs cs' : List S} (w : Nw h cs a) (w' : Nw h cs' b) : HExt (a.put h.n .dead) b := ⟨by rw [put_n, w.n, w'.n]; omega, fun c hc => by
  by_cases hh : c = h.n
  · subst hh; exact .inl (put_g _ _ _)
  · refine .inr ?_
    have h1 := w.k c hh
    have h2 := w'.k c hh
    simp only [H.put, if_neg hh]
    exact ⟨h2.1.trans h1.1.symm, h2.2.trans h1.2.symm⟩⟩
theorem Nw.tidy {h h' : H} {cs : List S} {l : List V} (w : Nw h cs h') (hl : l.all (belV h.n) = true) : Vm.tidy h l h' = h := tidy_ext w.keep hl
/-! frozen slices of rows -/
section
variable {R : Type}
theorem idxK_rw {rs : List RowD} {i : Nat} {r : RowD} {kd : IntKind} {k : V → Option R} (h : rs[i]? = some r) : idxK 4 (lv (rws rs)) (iv kd (i : Int)) k = k (fv r.cs 0) := idxF_rw h
theorem ldK_rw {r : RowD} {h : H} {dd : TD} {bb : Bool} {w : Nat} {zz : List S} {k : V → Option R} : ldK (.agg [.i .i64, .i .i64, .i .i64, .s]) ⟨4, w, zz, true, dd, bb⟩ h (fv r.cs 0) k = k (.agg r.cs) := by
  simp only [ldK, ldT, cond_true, loadN]
  rw [rowN_rw]
  simp [tyV, tyL, tyS]
theorem slK_rw1 {r : RowD} {rs : List RowD} {h : H} {k : V → Option R} : slK 4 h (lv (rws (r :: rs))) (some (iv .i64 1)) none k = k (lv (rws rs)) := by
  show slF 4 (rws (r :: rs)) (some (iv .i64 1)) none (fun l => k (lv l)) = _
  unfold slF
  have hb : bnd (rws (r :: rs)).length (iv .i64 1) = some 1 := by simp [bnd] <;> omega
  simp only [Option.bind_some, hb]
  rw [if_pos rws_row, List.take_length]
  rfl
end
/-! the merge -/
def zR : RowD := ⟨0, 0, 0, ⟨#[]⟩⟩
def keepB (c : ChgD) : Bool := !c.was || !c.is || !eqRowB c.b c.a
def one (c : ChgD) : List ChgD := if keepB c then [c] else []
def btw : List RowD → List RowD → List ChgD
  | [], [] => []
  | [], a :: ns => one ⟨false, zR, true, a⟩ ++ btw [] ns
  | b :: bs, [] => one ⟨true, b, false, zR⟩ ++ btw bs []
  | b :: bs, a :: ns =>
    if befB b a then one ⟨true, b, false, zR⟩ ++ btw bs (a :: ns)
    else if befB a b then one ⟨false, zR, true, a⟩ ++ btw (b :: bs) ns
    else one ⟨true, b, true, a⟩ ++ btw bs ns
termination_by bs ns => bs.length + ns.length
theorem one_len (c : ChgD) : (one c).length ≤ 1 := by unfold one; split <;> simp
theorem btw_len : ∀ (bs ns : List RowD), (btw bs ns).length ≤ bs.length + ns.length := by
  intro bs ns
  induction bs, ns using btw.induct with
  | case1 => simp [btw]
  | case2 a ns ih => rw [btw, List.length_append]; have := one_len ⟨false, zR, true, a⟩; simp only [List.length_cons, List.length_nil] at *; omega
  | case3 b bs ih => rw [btw, List.length_append]; have := one_len ⟨true, b, false, zR⟩; simp only [List.length_cons, List.length_nil] at *; omega
  | case4 b bs a ns h ih => rw [btw, if_pos h, List.length_append]; have := one_len ⟨true, b, false, zR⟩; simp only [List.length_cons, List.length_nil] at *; omega
  | case5 b bs a ns h h2 ih => rw [btw, if_neg h, if_pos h2, List.length_append]; have := one_len ⟨false, zR, true, a⟩; simp only [List.length_cons, List.length_nil] at *; omega
  | case6 b bs a ns h h2 ih => rw [btw, if_neg h, if_neg h2, List.length_append]; have := one_len ⟨true, b, true, a⟩; simp only [List.length_cons, List.length_nil] at *; omega
/-! the walk -/
theorem bt_l0 {n : Nat} {h0 h h' : H} {y : S} {out : List ChgD} {c : ChgD} {ws vs : List (List S)} (q : Bool) (w : Nw h c.cs h') (g : Gr 10 n h0 y (chs out) h) (hl : out.length + 1 ≤ lim) :
    ∃ y' h2, Jn.impl_between_l0_0 q h' h (.s y) (lv ws) (lv vs) = Lp.impl_between 0 [lv ws, lv vs, .s y'] h2 ∧ Gr 10 n h0 y' (chs (out ++ if q then [c] else [])) h2 := by
  unfold Jn.impl_between_l0_0
  rw [vcase_b]
  cases q with
  | true =>
    rw [if_pos rfl, w.ldN (o := 0) (n := 10) (r := c.cs) (by simp) rfl]
    simp only [ob, gx0, gx1, gI_i, gS_s, gB_b, ln0, ln1, Nat.zero_add, Nat.reduceAdd, if_true]
    obtain ⟨h2, e, g', hn⟩ := (g.keep w.keep).app (row := c.cs) chg_sc rfl (by omega) (by rw [chs_len]; exact hl)
    rw [e, ob, grow_tidy (m := h'.n + 1) (k := (chs out).length + 1) (by rw [w.n]; omega) (by simp)]
    rw [← chs_snoc] at g'
    exact ⟨_, h2, rfl, g'⟩
  | false =>
    rw [if_neg (by simp), w.tidy (by
      obtain ⟨w1, _, bs, w3, _⟩ := g
      have hy := w3.rep.top (N := h.n) w3.rep.lt
      simp only [List.all_cons, List.all_nil, Bool.and_true, Bool.and_eq_true]
      exact ⟨rfl, rfl, hy⟩)]
    exact ⟨y, h, rfl, by simpa using g⟩
theorem bt_l1 {n : Nat} {h0 h h' : H} {y : S} {out : List ChgD} {c : ChgD} {ws vs : List (List S)} (w : Nw h c.cs h') (g : Gr 10 n h0 y (chs out) h) (hl : out.length + 1 ≤ lim) :
    ∃ y' h2, Jn.impl_between_l0_1 (!c.was || !c.is) h' h (.s y) (lv ws) (lv vs) = Lp.impl_between 0 [lv ws, lv vs, .s y'] h2 ∧ Gr 10 n h0 y' (chs (out ++ one c)) h2 := by
  unfold Jn.impl_between_l0_1
  rw [vcase_b, w.ldN (o := 1) (n := 4) (r := c.b.cs) (by simp) rfl, w.ldN (o := 6) (n := 4) (r := c.a.cs) (by simp) rfl]
  simp only [ob, gx0, gx1, gI_i, gS_s, gB_b, ln0, ln1, Nat.zero_add, Nat.reduceAdd, if_true]
  rw [show ((c.b.tab == c.a.tab) && ((c.b.key == c.a.key) && ((c.b.val == c.a.val) && ((c.b.text.toList == c.a.text.toList) && true)))) = eqRowB c.b c.a from rfl]
  unfold one keepB
  cases hq : (!c.was || !c.is) with
  | true => rw [if_pos rfl]; simpa using bt_l0 true w g hl
  | false => rw [if_neg (by simp)]; simpa using bt_l0 (!eqRowB c.b c.a) w g hl
theorem bt_l2 {n : Nat} {h0 h h' : H} {y : S} {out : List ChgD} {b : RowD} {was : Bool} {ws : List (List S)} {i : Int} {ns : List RowD} (w : Nw h (ChgD.cs ⟨was, b, false, zR⟩) h') (g : Gr 10 n h0 y (chs out) h) (hl : out.length + 1 ≤ lim) :
    (0 ≤ i → ∀ a ns', ns = a :: ns' → ∃ y' h2, Jn.impl_between_l0_2 (lv ws) h' i (lv (rws ns)) h (.s y) = Lp.impl_between 0 [lv ws, lv (rws ns'), .s y'] h2 ∧ Gr 10 n h0 y' (chs (out ++ one ⟨was, b, true, a⟩)) h2) ∧
    (i < 0 → ∃ y' h2, Jn.impl_between_l0_2 (lv ws) h' i (lv (rws ns)) h (.s y) = Lp.impl_between 0 [lv ws, lv (rws ns), .s y'] h2 ∧ Gr 10 n h0 y' (chs (out ++ one ⟨was, b, false, zR⟩)) h2) := by
  unfold Jn.impl_between_l0_2
  rw [vcase_b]
  refine ⟨fun hi a ns' ha => ?_, fun hi => ?_⟩
  · subst ha
    rw [if_pos (by simpa using hi), show iv .i64 0 = iv .i64 ((0 : Nat) : Int) from rfl, idxK_rw (r := a) rfl, ldK_rw]
    simp only [gVA_a, ob, gx0, gx1, gI_i, gS_s, gB_b, ln0, ln1, Nat.zero_add, Nat.reduceAdd, if_true]
    rw [w.st1 (j := 5) (x := .bool true) (by simp) rfl]
    have w1 := w.put (cs' := (ChgD.cs ⟨was, b, false, zR⟩).set 5 (.bool true))
    rw [hchk_of (w.kill w1), w1.stN (z := 4) (o := 6) (r := a.cs) rfl (by simp)]
    have w2 := w1.put (cs' := ChgD.cs ⟨was, b, true, a⟩)
    rw [show setAt ((ChgD.cs ⟨was, b, false, zR⟩).set 5 (.bool true)) 6 a.cs = ChgD.cs ⟨was, b, true, a⟩ from rfl, hchk_of (w.kill w2), slK_rw1, w2.ld1 (o := 0) (x := .bool was) rfl, w2.ld1 (o := 5) (x := .bool true) rfl]
    simp only [ob, gB_b, vcase_b]
    have := bt_l1 (ws := ws) (vs := rws ns') w2 g hl
    cases was
    · simpa using this
    · simpa using this
  · rw [if_neg (by simpa using hi), w.ld1 (o := 0) (x := .bool was) rfl, w.ld1 (o := 5) (x := .bool false) rfl]
    simp only [ob, gB_b, vcase_b]
    have := bt_l1 (ws := ws) (vs := rws ns) w g hl
    cases was
    · simpa using this
    · simpa using this
/-- one round behind the choice of the way -/
theorem bt_l3 {n : Nat} {h0 h : H} {y : S} {out : List ChgD} {i : Int} {bs ns : List RowD} (g : Gr 10 n h0 y (chs out) h) (hl : out.length + 1 ≤ lim) :
    (i = 0 → ∀ b bs' a ns', bs = b :: bs' → ns = a :: ns' → ∃ y' h2, Jn.impl_between_l0_3 i (lv (rws bs)) h (lv (rws ns)) (.s y) = Lp.impl_between 0 [lv (rws bs'), lv (rws ns'), .s y'] h2 ∧ Gr 10 n h0 y' (chs (out ++ one ⟨true, b, true, a⟩)) h2) ∧
    (i < 0 → ∀ b bs', bs = b :: bs' → ∃ y' h2, Jn.impl_between_l0_3 i (lv (rws bs)) h (lv (rws ns)) (.s y) = Lp.impl_between 0 [lv (rws bs'), lv (rws ns), .s y'] h2 ∧ Gr 10 n h0 y' (chs (out ++ one ⟨true, b, false, zR⟩)) h2) ∧
    (0 < i → ∀ a ns', ns = a :: ns' → ∃ y' h2, Jn.impl_between_l0_3 i (lv (rws bs)) h (lv (rws ns)) (.s y) = Lp.impl_between 0 [lv (rws bs), lv (rws ns'), .s y'] h2 ∧ Gr 10 n h0 y' (chs (out ++ one ⟨false, zR, true, a⟩)) h2) := by
  unfold Jn.impl_between_l0_3
  rw [vcase_b]
  have w : Nw h (ChgD.cs ⟨false, zR, false, zR⟩) (h.new 0 zC) := Nw.new
  have left : ∀ b bs', bs = b :: bs' → i ≤ 0 → ∃ h2, Nw h (ChgD.cs ⟨true, b, false, zR⟩) h2 ∧ (if decide (i ≤ 0) = true then
      (idxK 4 (lv (rws bs)) (iv .i64 0) fun v730 =>
  ldK (.agg [.i .i64, .i .i64, .i .i64, .s]) ⟨4, 40, [.int .i64 0, .int .i64 0, .int .i64 0, .str ⟨#[]⟩], true, .st [(0, 2), (1, 2), (2, 2), (3, 9)], true⟩ ((h.new 0 [.bool false, .int .i64 0, .int .i64 0, .int .i64 0, .str (⟨#[]⟩), .bool false, .int .i64 0, .int .i64 0, .int .i64 0, .str (⟨#[]⟩)]).put h.n .dead) v730 fun v731 =>
  gVA v731 fun c732 =>
  (c732[0]?).bind fun x733 =>
  gI .i64 x733 fun i734 =>
  (c732[1]?).bind fun x735 =>
  gI .i64 x735 fun i736 =>
  (c732[2]?).bind fun x737 =>
  gI .i64 x737 fun i738 =>
  (c732[3]?).bind fun x739 =>
  gS x739 fun y740 =>
  if c732.length = 4 then
  stK 1 (h.new 0 [.bool false, .int .i64 0, .int .i64 0, .int .i64 0, .str (⟨#[]⟩), .bool false, .int .i64 0, .int .i64 0, .int .i64 0, .str (⟨#[]⟩)]) (pv h.n 0) (bv true) fun h741 =>
  hchk ((h.new 0 [.bool false, .int .i64 0, .int .i64 0, .int .i64 0, .str (⟨#[]⟩), .bool false, .int .i64 0, .int .i64 0, .int .i64 0, .str (⟨#[]⟩)]).put h.n .dead) h741 (
  stK 4 h741 (pv h.n 1) (.agg [.int .i64 i734, .int .i64 i736, .int .i64 i738, .str y740]) fun h742 =>
  hchk ((h.new 0 [.bool false, .int .i64 0, .int .i64 0, .int .i64 0, .str (⟨#[]⟩), .bool false, .int .i64 0, .int .i64 0, .int .i64 0, .str (⟨#[]⟩)]).put h.n .dead) h742 (
  slK 4 h742 (lv (rws bs)) (some (iv .i64 1)) none fun v743 =>
  Jn.impl_between_l0_2 v743 h742 i (lv (rws ns)) h (.s y)))
  else none) else Jn.impl_between_l0_2 (lv (rws bs)) (h.new 0 [.bool false, .int .i64 0, .int .i64 0, .int .i64 0, .str (⟨#[]⟩), .bool false, .int .i64 0, .int .i64 0, .int .i64 0, .str (⟨#[]⟩)]) i (lv (rws ns)) h (.s y)) = Jn.impl_between_l0_2 (lv (rws bs')) h2 i (lv (rws ns)) h (.s y) := by
    intro b bs' hb hi
    subst hb
    have w1 := w.put (cs' := (ChgD.cs ⟨false, zR, false, zR⟩).set 0 (.bool true))
    have w2 := w1.put (cs' := ChgD.cs ⟨true, b, false, zR⟩)
    refine ⟨_, w2, ?_⟩
    rw [if_pos (by simpa using hi), show iv .i64 0 = iv .i64 ((0 : Nat) : Int) from rfl, idxK_rw (r := b) rfl, ldK_rw]
    simp only [gVA_a, ob, gx0, gx1, gI_i, gS_s, gB_b, ln0, ln1, Nat.zero_add, Nat.reduceAdd, if_true]
    rw [show stK 1 (h.new 0 zC) (pv h.n 0) (bv true) = stK 1 (h.new 0 zC) (pv h.n 0) (.s (.bool true)) from rfl, w.st1 (R := LOut) (j := 0) (x := .bool true) (by simp) rfl]
    rw [hchk_of (w.kill w1), w1.stN (z := 4) (o := 1) (r := b.cs) rfl (by simp)]
    rw [show setAt ((ChgD.cs ⟨false, zR, false, zR⟩).set 0 (.bool true)) 1 b.cs = ChgD.cs ⟨true, b, false, zR⟩ from rfl, hchk_of (w.kill w2), slK_rw1]
  refine ⟨fun hi b bs' a ns' hb ha => ?_, fun hi b bs' hb => ?_, fun hi a ns' ha => ?_⟩
  · obtain ⟨h2, w2, e2⟩ := left b bs' hb (by omega)
    rw [e2]
    exact (bt_l2 (ws := rws bs') (ns := ns) w2 g hl).1 (by omega) a ns' ha
  · obtain ⟨h2, w2, e2⟩ := left b bs' hb (by omega)
    rw [e2]
    exact (bt_l2 (ws := rws bs') (ns := ns) w2 g hl).2 hi
  · rw [if_neg (by simpa using hi)]
    exact (bt_l2 (ws := rws bs) (ns := ns) w g hl).1 (by omega) a ns' ha
theorem ordI_lt {a b : RowD} (h : befB a b = true) : ordI a b = -1 := by unfold ordI; rw [if_pos h]
theorem ordI_gt {a b : RowD} (h : befB a b ≠ true) (h2 : befB b a = true) : ordI a b = 1 := by unfold ordI; rw [if_neg h, if_pos h2]
theorem ordI_eq {a b : RowD} (h : befB a b ≠ true) (h2 : befB b a ≠ true) : ordI a b = 0 := by unfold ordI; rw [if_neg h, if_neg h2]
theorem bt_loop {n : Nat} {h0 : H} : ∀ (bs ns : List RowD) (y : S) (out : List ChgD) (h : H), Gr 10 n h0 y (chs out) h → out.length + bs.length + ns.length ≤ lim →
    ∃ y' h2, Lp.impl_between 0 [lv (rws bs), lv (rws ns), .s y] h = some (.done [.s y'] h2) ∧ Gr 10 n h0 y' (chs (out ++ btw bs ns)) h2 := by
  intro bs ns
  have l0 : ∀ rs : List RowD, lenV (.sl 39) (lv (rws rs)) = some (iv .i64 (rs.length : Int)) := fun rs => by simp [lenV]
  induction bs, ns using btw.induct with
  | case1 =>
    intro y out h g hl
    rw [eq_impl_between_l0]
    unfold Jn.impl_between_l0_4
    simp only [l0, ob, gV1_s, gI_i, vcase_b]
    exact ⟨y, h, by simp, by simpa [btw] using g⟩
  | case2 a ns ih =>
    intro y out h g hl
    simp only [List.length_cons, List.length_nil] at hl
    obtain ⟨y1, h1, e1, g1⟩ := (bt_l3 (i := 1) (bs := []) (ns := a :: ns) g (by omega)).2.2 (by omega) a ns rfl
    obtain ⟨y2, h2, e2, g2⟩ := ih y1 _ h1 g1 (by have := one_len ⟨false, zR, true, a⟩; simp only [List.length_append, List.length_nil] at *; omega)
    refine ⟨y2, h2, ?_, by rw [btw, ← List.append_assoc]; exact g2⟩
    rw [eq_impl_between_l0]
    unfold Jn.impl_between_l0_4
    simp only [l0, ob, gV1_s, gI_i, vcase_b]
    rw [← e2, ← e1]
    simp
  | case3 b bs ih =>
    intro y out h g hl
    simp only [List.length_cons, List.length_nil] at hl
    obtain ⟨y1, h1, e1, g1⟩ := (bt_l3 (i := -1) (bs := b :: bs) (ns := []) g (by omega)).2.1 (by omega) b bs rfl
    obtain ⟨y2, h2, e2, g2⟩ := ih y1 _ h1 g1 (by have := one_len ⟨true, b, false, zR⟩; simp only [List.length_append, List.length_nil] at *; omega)
    refine ⟨y2, h2, ?_, by rw [btw, ← List.append_assoc]; exact g2⟩
    rw [eq_impl_between_l0]
    unfold Jn.impl_between_l0_4
    simp only [l0, ob, gV1_s, gI_i, vcase_b]
    rw [← e2, ← e1, if_pos (by simp <;> omega), if_pos trivial, if_neg (by simp <;> omega), if_pos (by simp)]
  | case4 b bs a ns hb ih =>
    intro y out h g hl
    simp only [List.length_cons] at hl
    obtain ⟨y1, h1, e1, g1⟩ := (bt_l3 (i := -1) (bs := b :: bs) (ns := a :: ns) g (by omega)).2.1 (by omega) b bs rfl
    obtain ⟨y2, h2, e2, g2⟩ := ih y1 _ h1 g1 (by have := one_len ⟨true, b, false, zR⟩; simp only [List.length_append, List.length_cons] at *; omega)
    refine ⟨y2, h2, ?_, by rw [btw, if_pos hb, ← List.append_assoc]; exact g2⟩
    rw [eq_impl_between_l0]
    unfold Jn.impl_between_l0_4
    simp only [l0, ob, gV1_s, gI_i, vcase_b]
    rw [← e2, ← e1, if_pos (by simp <;> omega), if_pos trivial, if_neg (by simp <;> omega), if_neg (by simp <;> omega), show iv .i64 0 = iv .i64 ((0 : Nat) : Int) from rfl, idxK_rw (r := b) rfl, ldK_rw]
    simp only [gVA_a, ob, gx0, gx1, gI_i, gS_s, gB_b, ln0, ln1, Nat.zero_add, Nat.reduceAdd, if_true]
    rw [idxK_rw (r := a) rfl, ldK_rw]
    simp only [gVA_a, ob, gx0, gx1, gI_i, gS_s, gB_b, ln0, ln1, Nat.zero_add, Nat.reduceAdd, if_true]
    rw [pc (p_order b a) rfl, ordI_lt hb]
    simp only [gV1_s, gI_i, hchk_self]
  | case5 b bs a ns hb hb2 ih =>
    intro y out h g hl
    simp only [List.length_cons] at hl
    obtain ⟨y1, h1, e1, g1⟩ := (bt_l3 (i := 1) (bs := b :: bs) (ns := a :: ns) g (by omega)).2.2 (by omega) a ns rfl
    obtain ⟨y2, h2, e2, g2⟩ := ih y1 _ h1 g1 (by have := one_len ⟨false, zR, true, a⟩; simp only [List.length_append, List.length_cons] at *; omega)
    refine ⟨y2, h2, ?_, by rw [btw, if_neg hb, if_pos hb2, ← List.append_assoc]; exact g2⟩
    rw [eq_impl_between_l0]
    unfold Jn.impl_between_l0_4
    simp only [l0, ob, gV1_s, gI_i, vcase_b]
    rw [← e2, ← e1, if_pos (by simp <;> omega), if_pos trivial, if_neg (by simp <;> omega), if_neg (by simp <;> omega), show iv .i64 0 = iv .i64 ((0 : Nat) : Int) from rfl, idxK_rw (r := b) rfl, ldK_rw]
    simp only [gVA_a, ob, gx0, gx1, gI_i, gS_s, gB_b, ln0, ln1, Nat.zero_add, Nat.reduceAdd, if_true]
    rw [idxK_rw (r := a) rfl, ldK_rw]
    simp only [gVA_a, ob, gx0, gx1, gI_i, gS_s, gB_b, ln0, ln1, Nat.zero_add, Nat.reduceAdd, if_true]
    rw [pc (p_order b a) rfl, ordI_gt hb hb2]
    simp only [gV1_s, gI_i, hchk_self]
  | case6 b bs a ns hb hb2 ih =>
    intro y out h g hl
    simp only [List.length_cons] at hl
    obtain ⟨y1, h1, e1, g1⟩ := (bt_l3 (i := 0) (bs := b :: bs) (ns := a :: ns) g (by omega)).1 rfl b bs a ns rfl rfl
    obtain ⟨y2, h2, e2, g2⟩ := ih y1 _ h1 g1 (by have := one_len ⟨true, b, true, a⟩; simp only [List.length_append] at *; omega)
    refine ⟨y2, h2, ?_, by rw [btw, if_neg hb, if_neg hb2, ← List.append_assoc]; exact g2⟩
    rw [eq_impl_between_l0]
    unfold Jn.impl_between_l0_4
    simp only [l0, ob, gV1_s, gI_i, vcase_b]
    rw [← e2, ← e1, if_pos (by simp <;> omega), if_pos trivial, if_neg (by simp <;> omega), if_neg (by simp <;> omega), show iv .i64 0 = iv .i64 ((0 : Nat) : Int) from rfl, idxK_rw (r := b) rfl, ldK_rw]
    simp only [gVA_a, ob, gx0, gx1, gI_i, gS_s, gB_b, ln0, ln1, Nat.zero_add, Nat.reduceAdd, if_true]
    rw [idxK_rw (r := a) rfl, ldK_rw]
    simp only [gVA_a, ob, gx0, gx1, gI_i, gS_s, gB_b, ln0, ln1, Nat.zero_add, Nat.reduceAdd, if_true]
    rw [pc (p_order b a) rfl, ordI_eq hb hb2]
    simp only [gV1_s, gI_i, hchk_self]
theorem f_between {bs ns : List RowD} (hl : bs.length + ns.length ≤ lim) (n : Nat) : ∃ y h', call Ev Fn.impl_between [lv (rws bs), lv (rws ns)] (D n) = some (.s y, h') ∧ n ≤ h'.n ∧ OwnF 1 y (.fs (chs (btw bs ns))) n h'.n h' := by
  obtain ⟨y', h', e, w⟩ := bt_loop bs ns (.sl none 0) [] (D n) (Gr.none (z := 10) (n := n) (h := D n) (by simp)) (by simpa using hl)
  rw [eq_impl_between, e, ob, lcase_done]
  simp only [gx0, ob]
  exact ⟨y', h', rfl, w.1, w.own⟩
def chC (bs ns : List RowD) : Int := if rowsF bs = 0 then rowsF ns else rowsF bs
def chL (bs ns : List RowD) : List ChgD := if chC bs ns = 0 then btw bs ns else []
theorem chL_len (bs ns : List RowD) : (chL bs ns).length ≤ bs.length + ns.length := by
  unfold chL
  split
  · exact btw_len _ _
  · simp
theorem f_ChangesOf {bs ns : List RowD} (hs : ∀ r ∈ bs, r.text.size ≤ maxLen) (hs' : ∀ r ∈ ns, r.text.size ≤ maxLen) (hl : bs.length + ns.length ≤ lim) (n : Nat) : ∃ y h', call Ev Fn.impl_ChangesOf [lv (rws bs), lv (rws ns)] (D n) = some (.agg [.int .i64 (chC bs ns), y], h') ∧ NewC 5 [.int .i64 (chC bs ns), y] [.int .i64 (chC bs ns), .fs (chs (chL bs ns))] n h' := by
  have hl' := hl
  unfold lim at hl'
  rw [eq_impl_ChangesOf, pc (p_RowsFault hs (by unfold maxLen; omega)) rfl]
  simp only [gV1_s, gI_i, vcase_b, bne_iff_ne, ne_eq]
  rw [pc (p_RowsFault hs' (by unfold maxLen; omega)) rfl]
  simp only [gV1_s, gI_i, vcase_b, bne_iff_ne, ne_eq]
  unfold chL chC
  by_cases h0 : rowsF bs = 0
  case neg =>
    obtain ⟨h', e, w⟩ := bad2D n 5 (rowsF bs)
    rw [if_pos h0, if_neg h0, if_neg h0]
    exact ⟨_, h', e, w⟩
  rw [if_neg (by simp [h0]), if_pos h0]
  by_cases h1 : rowsF ns = 0
  case neg =>
    obtain ⟨h', e, w⟩ := bad2D n 5 (rowsF ns)
    rw [if_pos h1, if_neg h1]
    exact ⟨_, h', e, w⟩
  rw [if_neg (by simp [h1]), if_pos h1, h1]
  obtain ⟨y, h2, e2, n2, w2⟩ := f_between hl (n + 1)
  obtain ⟨h', e, w⟩ := fin2 (off := true) e2 n2 (w2.lift (k := 5) (by omega))
  exact ⟨y, h', e, w⟩
end Vm
/-
  Rising rows: keys put in one by one are the keys of the merge; the changes are those of the merge. (No program in sight.)
-/
namespace Vm
open Go
theorem bef_iff {a b : RowD} : befB a b = true ↔ a.tab < b.tab ∨ (a.tab = b.tab ∧ a.key < b.key) := by simp [befB]
theorem same_iff {a b : RowD} : sameK a b = true ↔ a.tab = b.tab ∧ a.key = b.key := by simp [sameK]
theorem bef_irr {a : RowD} : befB a a ≠ true := by rw [Ne, bef_iff]; omega
theorem bef_trans {a b c : RowD} (h : befB a b = true) (h2 : befB b c = true) : befB a c = true := by rw [bef_iff] at *; omega
theorem bef_tot {a b : RowD} (h : befB a b ≠ true) (h2 : befB b a ≠ true) : sameK a b = true := by rw [Ne, bef_iff] at *; rw [same_iff]; omega
theorem bef_ns {a b : RowD} (h : befB a b = true) : sameK a b = false := by
  cases hs : sameK a b with
  | false => rfl
  | true => rw [same_iff] at hs; rw [bef_iff] at h; omega
theorem bef_sn {a b : RowD} (h : befB a b = true) : sameK b a = false := by
  cases hs : sameK b a with
  | false => rfl
  | true => rw [same_iff] at hs; rw [bef_iff] at h; omega
abbrev Ris (l : List RowD) : Prop := l.Pairwise fun a b => befB a b = true
theorem ris_of : ∀ {rs : List RowD} {p : Option RowD}, rowsFrom p rs = 0 → Ris rs ∧ ∀ q, p = some q → ∀ r ∈ rs, befB q r = true
  | [], p, _ => ⟨List.Pairwise.nil, by simp⟩
  | r :: rs, p, h => by
    have h0 : rowF r = 0 := rowsFrom_all h r (by simp)
    have h2 : rowsFrom (some r) rs = 0 := by
      cases p with
      | none => rw [rowsFrom_0 h0] at h; exact h
      | some q =>
        cases hb : befB q r with
        | false => rw [rowsFrom_1 h0 hb] at h; omega
        | true => rw [rowsFrom_2 h0 hb] at h; exact h
    obtain ⟨i1, i2⟩ := ris_of h2
    refine ⟨List.pairwise_cons.2 ⟨i2 r rfl, i1⟩, fun q hq x hx => ?_⟩
    subst hq
    have hb : befB q r = true := by
      cases hb : befB q r with
      | false => rw [rowsFrom_1 h0 hb] at h; omega
      | true => rfl
    rcases List.mem_cons.1 hx with rfl | hx
    · exact hb
    · exact bef_trans hb (i2 r rfl x hx)
theorem ris_rows {rs : List RowD} (h : rowsF rs = 0) : Ris rs := by
  unfold rowsF at h
  split at h
  · omega
  · exact (ris_of h).1
theorem ris_ext : ∀ {l m : List RowD}, Ris l → Ris m → (∀ x, x ∈ l ↔ x ∈ m) → l = m
  | [], [], _, _, _ => rfl
  | [], b :: m, _, _, h => by have := (h b).2 (by simp); simp at this
  | a :: l, [], _, _, h => by have := (h a).1 (by simp); simp at this
  | a :: l, b :: m, h1, h2, h => by
    obtain ⟨h1, h1'⟩ := List.pairwise_cons.1 h1
    obtain ⟨h2, h2'⟩ := List.pairwise_cons.1 h2
    have hab : a = b := by
      rcases List.mem_cons.1 ((h a).1 (by simp)) with e | e
      · exact e
      rcases List.mem_cons.1 ((h b).2 (by simp)) with e' | e'
      · exact e'.symm
      exact absurd (bef_trans (h1 b e') (h2 a e)) bef_irr
    subst hab
    congr 1
    refine ris_ext h1' h2' fun x => ⟨fun hx => ?_, fun hx => ?_⟩
    · rcases List.mem_cons.1 ((h x).1 (by simp [hx])) with rfl | e
      · exact absurd (h1 x hx) bef_irr
      · exact e
    · rcases List.mem_cons.1 ((h x).2 (by simp [hx])) with rfl | e
      · exact absurd (h2 x hx) bef_irr
      · exact e
/-! put in -/
def insR (r : RowD) (ks : List RowD) : List RowD := ks.takeWhile (befB · r) ++ r :: ks.dropWhile (befB · r)
theorem mem_ins {r x : RowD} {ks : List RowD} : x ∈ insR r ks ↔ x = r ∨ x ∈ ks := by
  unfold insR
  rw [List.mem_append, List.mem_cons]
  have : x ∈ ks ↔ x ∈ ks.takeWhile (befB · r) ∨ x ∈ ks.dropWhile (befB · r) := by rw [← List.mem_append, List.takeWhile_append_dropWhile]
  rw [this]
  constructor
  · rintro (h | h | h) <;> simp [h]
  · rintro (h | h | h) <;> simp [h]
theorem tw_all {p : RowD → Bool} : ∀ {l : List RowD}, ∀ x ∈ l.takeWhile p, p x = true
  | a :: l, x, h => by
    rw [List.takeWhile_cons] at h
    split at h
    · rename_i hp
      rcases List.mem_cons.1 h with rfl | h
      · exact hp
      · exact tw_all x h
    · simp at h
theorem dw_gt {r : RowD} : ∀ {l : List RowD}, Ris l → (∀ x ∈ l, sameK x r = false) → ∀ x ∈ l.dropWhile (befB · r), befB r x = true
  | a :: l, hr, hs, x, h => by
    obtain ⟨h1, h2⟩ := List.pairwise_cons.1 hr
    rw [List.dropWhile_cons] at h
    split at h
    · exact dw_gt h2 (fun y hy => hs y (by simp [hy])) x h
    · rename_i hp
      have ha : befB r a = true := by
        by_cases hb : befB r a = true
        · exact hb
        · have := bef_tot hp hb
          rw [hs a (by simp)] at this; cases this
      rcases List.mem_cons.1 h with rfl | h
      · exact ha
      · exact bef_trans ha (h1 x h)
theorem ris_ins {r : RowD} {ks : List RowD} (hr : Ris ks) (hs : ∀ x ∈ ks, sameK x r = false) : Ris (insR r ks) := by
  unfold insR
  have hsub := List.takeWhile_append_dropWhile (p := (befB · r)) (l := ks)
  rw [← hsub] at hr
  obtain ⟨p1, p2, p3⟩ := List.pairwise_append.1 hr
  rw [hsub] at hr
  have hd := dw_gt hr hs
  refine List.pairwise_append.2 ⟨p1, List.pairwise_cons.2 ⟨hd, p2⟩, fun a ha b hb => ?_⟩
  rcases List.mem_cons.1 hb with rfl | hb
  · exact tw_all a ha
  · exact p3 a ha b hb
/-! rows found -/
def getF (x : RowD) : List RowD → Option RowD
  | [] => none
  | r :: rs => if sameK r x then some r else getF x rs
theorem getF_none {x : RowD} : ∀ {l : List RowD}, (∀ r ∈ l, sameK r x = false) → getF x l = none
  | [], _ => rfl
  | r :: l, h => by rw [getF, h r (by simp)]; exact getF_none fun q hq => h q (by simp [hq])
theorem getF_some {x : RowD} : ∀ {l : List RowD}, getF x l = none → ∀ r ∈ l, sameK r x = false
  | r :: l, h, q, hq => by
    rw [getF] at h
    split at h
    · cases h
    · rename_i hs
      rcases List.mem_cons.1 hq with rfl | hq
      · simpa using hs
      · exact getF_some h q hq
theorem at_get {x : RowD} : ∀ (rs : List RowD) (i : Nat), (atF x.tab x.key rs i = -1 ∧ getF x rs = none) ∨ ∃ j r, rs[j]? = some r ∧ atF x.tab x.key rs i = ((i + j : Nat) : Int) ∧ getF x rs = some r
  | [], i => .inl ⟨rfl, rfl⟩
  | r :: rs, i => by
    unfold atF getF
    by_cases h : r.tab = x.tab ∧ r.key = x.key
    · rw [if_pos h, if_pos (same_iff.2 h)]; exact .inr ⟨0, r, rfl, rfl, rfl⟩
    · rw [if_neg h, if_neg (fun hh => h (same_iff.1 hh))]
      rcases at_get rs (i + 1) with h1 | ⟨j, q, h1, h2, h3⟩
      · exact .inl h1
      · exact .inr ⟨j + 1, q, by simpa using h1, by rw [h2]; omega, h3⟩
/-! the keys -/
def keyStep (bs ks : List RowD) (r : RowD) : List RowD := if (getF r bs).isNone then insR r ks else ks
def keysF (bs ns : List RowD) : List RowD := ns.foldl (keyStep bs) bs
def mrgK : List RowD → List RowD → List RowD
  | [], [] => []
  | [], n :: ns => n :: mrgK [] ns
  | b :: bs, [] => b :: mrgK bs []
  | b :: bs, n :: ns =>
    if befB b n then b :: mrgK bs (n :: ns)
    else if befB n b then n :: mrgK (b :: bs) ns
    else b :: mrgK bs ns
termination_by bs ns => bs.length + ns.length
theorem ins_len {r : RowD} {ks : List RowD} : (insR r ks).length = ks.length + 1 := by
  unfold insR
  have := congrArg List.length (List.takeWhile_append_dropWhile (p := (befB · r)) (l := ks))
  simp only [List.length_append, List.length_cons] at *; omega
theorem keys_len (bs : List RowD) : ∀ (ns ks : List RowD), (ns.foldl (keyStep bs) ks).length ≤ ks.length + ns.length
  | [], ks => by simp
  | n :: ns, ks => by
    rw [List.foldl_cons]
    have := keys_len bs ns (keyStep bs ks n)
    have h2 : (keyStep bs ks n).length ≤ ks.length + 1 := by unfold keyStep; split <;> simp [ins_len]
    simp only [List.length_cons]; omega
theorem keys_ok {bs : List RowD} (hb : Ris bs) : ∀ (ns pre ks : List RowD), Ris (pre ++ ns) → Ris ks → (∀ x, x ∈ ks ↔ x ∈ bs ∨ (x ∈ pre ∧ getF x bs = none)) →
    Ris (ns.foldl (keyStep bs) ks) ∧ ∀ x, x ∈ ns.foldl (keyStep bs) ks ↔ x ∈ bs ∨ (x ∈ pre ++ ns ∧ getF x bs = none)
  | [], pre, ks, hn, hk, hm => ⟨hk, by simpa using hm⟩
  | n :: ns, pre, ks, hn, hk, hm => by
    rw [List.foldl_cons]
    have hpre : ∀ x ∈ pre, befB x n = true := fun x hx => (List.pairwise_append.1 hn).2.2 x hx n (by simp)
    have key : Ris (keyStep bs ks n) ∧ ∀ x, x ∈ keyStep bs ks n ↔ x ∈ bs ∨ (x ∈ pre ++ [n] ∧ getF x bs = none) := by
      unfold keyStep
      cases hg : getF n bs with
      | none =>
        rw [if_pos (show (none : Option RowD).isNone = true from rfl)]
        refine ⟨ris_ins hk fun x hx => ?_, fun x => ?_⟩
        · rcases (hm x).1 hx with h | h
          · exact getF_some hg x h
          · exact bef_ns (hpre x h.1)
        · rw [mem_ins, hm]
          constructor
          · rintro (rfl | h | h)
            · exact .inr ⟨by simp, hg⟩
            · exact .inl h
            · exact .inr ⟨by simp [h.1], h.2⟩
          · rintro (h | h)
            · exact .inr (.inl h)
            · rcases List.mem_append.1 h.1 with h1 | h1
              · exact .inr (.inr ⟨h1, h.2⟩)
              · exact .inl (by simpa using h1)
      | some q =>
        rw [if_neg (by simp)]
        refine ⟨hk, fun x => ?_⟩
        rw [hm]
        constructor
        · rintro (h | h)
          · exact .inl h
          · exact .inr ⟨by simp [h.1], h.2⟩
        · rintro (h | h)
          · exact .inl h
          · rcases List.mem_append.1 h.1 with h1 | h1
            · exact .inr ⟨h1, h.2⟩
            · rw [show x = n from by simpa using h1, hg] at h; cases h.2
    have := keys_ok hb ns (pre ++ [n]) (keyStep bs ks n) (by simpa using hn) key.1 key.2
    simpa using this
theorem mrg_mem : ∀ {bs ns : List RowD}, ∀ x ∈ mrgK bs ns, x ∈ bs ∨ x ∈ ns := by
  intro bs ns
  induction bs, ns using mrgK.induct with
  | case1 => simp [mrgK]
  | case2 n ns ih => intro x hx; rw [mrgK] at hx; rcases List.mem_cons.1 hx with rfl | hx
                     · simp
                     · rcases ih x hx with h | h <;> simp [h]
  | case3 b bs ih => intro x hx; rw [mrgK] at hx; rcases List.mem_cons.1 hx with rfl | hx
                     · simp
                     · rcases ih x hx with h | h <;> simp [h]
  | case4 b bs n ns h1 ih => intro x hx; rw [mrgK, if_pos h1] at hx; rcases List.mem_cons.1 hx with rfl | hx
                             · simp
                             · rcases ih x hx with h | h
                               · simp [h]
                               · exact .inr h
  | case5 b bs n ns h1 h2 ih => intro x hx; rw [mrgK, if_neg h1, if_pos h2] at hx; rcases List.mem_cons.1 hx with rfl | hx
                                · simp
                                · rcases ih x hx with h | h
                                  · exact .inl h
                                  · simp [h]
  | case6 b bs n ns h1 h2 ih => intro x hx; rw [mrgK, if_neg h1, if_neg h2] at hx; rcases List.mem_cons.1 hx with rfl | hx
                                · simp
                                · rcases ih x hx with h | h <;> simp [h]
theorem mrg_ok : ∀ {bs ns : List RowD}, Ris bs → Ris ns → Ris (mrgK bs ns) ∧ ∀ x, x ∈ mrgK bs ns ↔ x ∈ bs ∨ (x ∈ ns ∧ getF x bs = none) := by
  intro bs ns
  induction bs, ns using mrgK.induct with
  | case1 => intro _ _; simp [mrgK]
  | case2 n ns ih =>
    intro hb hn
    obtain ⟨n1, n2⟩ := List.pairwise_cons.1 hn
    obtain ⟨i1, i2⟩ := ih hb n2
    rw [mrgK]
    refine ⟨List.pairwise_cons.2 ⟨fun x hx => ?_, i1⟩, fun x => ?_⟩
    · rcases mrg_mem x hx with h | h
      · simp at h
      · exact n1 x h
    · rw [List.mem_cons, i2]; simp [getF]
  | case3 b bs ih =>
    intro hb hn
    obtain ⟨b1, b2⟩ := List.pairwise_cons.1 hb
    obtain ⟨i1, i2⟩ := ih b2 hn
    rw [mrgK]
    refine ⟨List.pairwise_cons.2 ⟨fun x hx => ?_, i1⟩, fun x => ?_⟩
    · rcases mrg_mem x hx with h | h
      · exact b1 x h
      · simp at h
    · rw [List.mem_cons, i2]; simp
  | case4 b bs n ns h1 ih =>
    intro hb hn
    obtain ⟨b1, b2⟩ := List.pairwise_cons.1 hb
    obtain ⟨n1, n2⟩ := List.pairwise_cons.1 hn
    obtain ⟨i1, i2⟩ := ih b2 hn
    have hbn : ∀ x ∈ n :: ns, befB b x = true := fun x hx => by
      rcases List.mem_cons.1 hx with rfl | hx
      · exact h1
      · exact bef_trans h1 (n1 x hx)
    rw [mrgK, if_pos h1]
    refine ⟨List.pairwise_cons.2 ⟨fun x hx => ?_, i1⟩, fun x => ?_⟩
    · rcases mrg_mem x hx with h | h
      · exact b1 x h
      · exact hbn x h
    · rw [List.mem_cons, i2, show (x ∈ b :: bs) = (x = b ∨ x ∈ bs) from propext List.mem_cons, or_assoc]
      refine or_congr Iff.rfl (or_congr Iff.rfl ⟨fun h => ⟨h.1, ?_⟩, fun h => ⟨h.1, ?_⟩⟩)
      · rw [getF, if_neg (by rw [bef_ns (hbn x h.1)]; simp)]; exact h.2
      · have := h.2; rw [getF, if_neg (by rw [bef_ns (hbn x h.1)]; simp)] at this; exact this
  | case5 b bs n ns h1 h2 ih =>
    intro hb hn
    obtain ⟨b1, b2⟩ := List.pairwise_cons.1 hb
    obtain ⟨n1, n2⟩ := List.pairwise_cons.1 hn
    obtain ⟨i1, i2⟩ := ih hb n2
    have hnb : ∀ x ∈ b :: bs, befB n x = true := fun x hx => by
      rcases List.mem_cons.1 hx with rfl | hx
      · exact h2
      · exact bef_trans h2 (b1 x hx)
    rw [mrgK, if_neg h1, if_pos h2]
    refine ⟨List.pairwise_cons.2 ⟨fun x hx => ?_, i1⟩, fun x => ?_⟩
    · rcases mrg_mem x hx with h | h
      · exact hnb x h
      · exact n1 x h
    · rw [List.mem_cons, i2]
      have hg : getF n (b :: bs) = none := getF_none fun r hr => bef_sn (hnb r hr)
      constructor
      · rintro (rfl | h | h)
        · exact .inr ⟨by simp, hg⟩
        · exact .inl h
        · exact .inr ⟨by simp [h.1], h.2⟩
      · rintro (h | h)
        · exact .inr (.inl h)
        · rcases List.mem_cons.1 h.1 with h3 | h3
          · exact .inl h3
          · exact .inr (.inr ⟨h3, h.2⟩)
  | case6 b bs n ns h1 h2 ih =>
    intro hb hn
    obtain ⟨b1, b2⟩ := List.pairwise_cons.1 hb
    obtain ⟨n1, n2⟩ := List.pairwise_cons.1 hn
    obtain ⟨i1, i2⟩ := ih b2 n2
    have hs := bef_tot h1 h2
    have hbn : ∀ x ∈ ns, befB b x = true := fun x hx => by
      have := n1 x hx
      rw [bef_iff] at *; rw [same_iff] at hs; omega
    rw [mrgK, if_neg h1, if_neg h2]
    refine ⟨List.pairwise_cons.2 ⟨fun x hx => ?_, i1⟩, fun x => ?_⟩
    · rcases mrg_mem x hx with h | h
      · exact b1 x h
      · exact hbn x h
    · rw [List.mem_cons, i2, show (x ∈ b :: bs) = (x = b ∨ x ∈ bs) from propext List.mem_cons, or_assoc]
      refine or_congr Iff.rfl (or_congr Iff.rfl ⟨fun h => ⟨by simp [h.1], ?_⟩, fun h => ?_⟩)
      · rw [getF, if_neg (by rw [bef_ns (hbn x h.1)]; simp)]; exact h.2
      · have hx : x ∈ ns := by
          rcases List.mem_cons.1 h.1 with rfl | h3
          · have := h.2; rw [getF, if_pos hs] at this; cases this
          · exact h3
        have := h.2; rw [getF, if_neg (by rw [bef_ns (hbn x hx)]; simp)] at this; exact ⟨hx, this⟩
theorem keys_mrg {bs ns : List RowD} (hb : Ris bs) (hn : Ris ns) : keysF bs ns = mrgK bs ns := by
  obtain ⟨k1, k2⟩ := keys_ok hb ns [] bs (by simpa using hn) hb (by simp)
  obtain ⟨m1, m2⟩ := mrg_ok hb hn
  exact ris_ext k1 m1 fun x => by rw [m2, show (x ∈ keysF bs ns) = _ from propext (k2 x)]; simp
/-! the changes -/
def ckF (bs ns : List RowD) (x : RowD) : ChgD := ⟨(getF x bs).isSome, (getF x bs).getD zR, (getF x ns).isSome, (getF x ns).getD zR⟩
theorem flat_congr {α β : Type} {f g : α → List β} : ∀ {l : List α}, (∀ x ∈ l, f x = g x) → l.flatMap f = l.flatMap g
  | [], _ => rfl
  | a :: l, h => by rw [List.flatMap_cons, List.flatMap_cons, h a (by simp), flat_congr fun x hx => h x (by simp [hx])]
theorem getF_skip {x r : RowD} {l : List RowD} (h : sameK r x = false) : getF x (r :: l) = getF x l := by rw [getF, if_neg (by simp [h])]
theorem getF_hit {x r : RowD} {l : List RowD} (h : sameK r x = true) : getF x (r :: l) = some r := by rw [getF, if_pos h]
theorem same_refl {a : RowD} : sameK a a = true := by rw [same_iff]; exact ⟨rfl, rfl⟩
theorem mrg_btw : ∀ {bs ns : List RowD}, Ris bs → Ris ns → (mrgK bs ns).flatMap (fun x => one (ckF bs ns x)) = btw bs ns := by
  intro bs ns
  induction bs, ns using mrgK.induct with
  | case1 => intro _ _; simp [mrgK, btw]
  | case2 n ns ih =>
    intro hb hn
    obtain ⟨n1, n2⟩ := List.pairwise_cons.1 hn
    rw [mrgK, btw, List.flatMap_cons, ← ih hb n2]
    congr 1
    · unfold ckF; rw [getF_hit same_refl]; rfl
    · refine flat_congr fun x hx => ?_
      have : befB n x = true := by
        rcases mrg_mem x hx with h | h
        · simp at h
        · exact n1 x h
      unfold ckF; rw [getF_skip (bef_ns this)]
  | case3 b bs ih =>
    intro hb hn
    obtain ⟨b1, b2⟩ := List.pairwise_cons.1 hb
    rw [mrgK, btw, List.flatMap_cons, ← ih b2 hn]
    congr 1
    · unfold ckF; rw [getF_hit same_refl]; rfl
    · refine flat_congr fun x hx => ?_
      have : befB b x = true := by
        rcases mrg_mem x hx with h | h
        · exact b1 x h
        · simp at h
      unfold ckF; rw [getF_skip (bef_ns this)]
  | case4 b bs n ns h1 ih =>
    intro hb hn
    obtain ⟨b1, b2⟩ := List.pairwise_cons.1 hb
    obtain ⟨n1, n2⟩ := List.pairwise_cons.1 hn
    have hbn : ∀ x ∈ n :: ns, befB b x = true := fun x hx => by
      rcases List.mem_cons.1 hx with rfl | hx
      · exact h1
      · exact bef_trans h1 (n1 x hx)
    rw [mrgK, btw, if_pos h1, if_pos h1, List.flatMap_cons, ← ih b2 hn]
    congr 1
    · unfold ckF; rw [getF_hit same_refl, getF_none fun r hr => bef_sn (hbn r hr)]; rfl
    · refine flat_congr fun x hx => ?_
      have : befB b x = true := by
        rcases mrg_mem x hx with h | h
        · exact b1 x h
        · exact hbn x h
      unfold ckF; rw [getF_skip (r := b) (bef_ns this)]
  | case5 b bs n ns h1 h2 ih =>
    intro hb hn
    obtain ⟨b1, b2⟩ := List.pairwise_cons.1 hb
    obtain ⟨n1, n2⟩ := List.pairwise_cons.1 hn
    have hnb : ∀ x ∈ b :: bs, befB n x = true := fun x hx => by
      rcases List.mem_cons.1 hx with rfl | hx
      · exact h2
      · exact bef_trans h2 (b1 x hx)
    rw [mrgK, btw, if_neg h1, if_pos h2, if_neg h1, if_pos h2, List.flatMap_cons, ← ih hb n2]
    congr 1
    · unfold ckF; rw [getF_hit (l := ns) same_refl, getF_none fun r hr => bef_sn (hnb r hr)]; rfl
    · refine flat_congr fun x hx => ?_
      have : befB n x = true := by
        rcases mrg_mem x hx with h | h
        · exact hnb x h
        · exact n1 x h
      unfold ckF; rw [getF_skip (r := n) (bef_ns this)]
  | case6 b bs n ns h1 h2 ih =>
    intro hb hn
    obtain ⟨b1, b2⟩ := List.pairwise_cons.1 hb
    obtain ⟨n1, n2⟩ := List.pairwise_cons.1 hn
    have hs := bef_tot h1 h2
    have hs' : sameK n b = true := by rw [same_iff] at *; omega
    have hbn : ∀ x ∈ ns, befB b x = true := fun x hx => by
      have := n1 x hx
      rw [bef_iff] at *; rw [same_iff] at hs; omega
    rw [mrgK, btw, if_neg h1, if_neg h2, if_neg h1, if_neg h2, List.flatMap_cons, ← ih b2 n2]
    congr 1
    · unfold ckF; rw [getF_hit same_refl, getF_hit (r := n) hs']; rfl
    · refine flat_congr fun x hx => ?_
      have hx : befB b x = true := by
        rcases mrg_mem x hx with h | h
        · exact b1 x h
        · exact hbn x h
      have hx2 : sameK n x = false := by
        have := bef_ns hx
        cases hq : sameK n x with
        | false => rfl
        | true => rw [same_iff] at *; rw [bef_iff] at hx; omega
      unfold ckF; rw [getF_skip (r := b) (bef_ns hx), getF_skip (r := n) hx2]
theorem keys_btw {bs ns : List RowD} (hb : Ris bs) (hn : Ris ns) : (keysF bs ns).flatMap (fun x => one (ckF bs ns x)) = btw bs ns := by
  rw [keys_mrg hb hn, mrg_btw hb hn]
end Vm
/-
  The changes between rising rows: the specification's way.
-/
namespace Vm
open Go
theorem frz_pv {h : H} {b : Nat} {cs : List S} (hb : b < h.n) (hg : h.g b = .rw 0 cs) (hc : ∀ s ∈ cs, Cl s) : frzV h (pv b 0) = some (fv cs 0) := by
  have h7 : mapO (frzS h 7) cs = some cs := mapO_cl hc
  simp only [frzV, frzS, hb, if_true, hg, h7, Option.bind_some]
/-- a slice of flat rows that fills its block -/
structure FlS (z : Nat) (h : H) (v : V) (rows : List (List S)) (b : Nat) : Prop where
  v : v = sv b 0 rows.length
  n : b < h.n
  g : h.g b = .rw z rows.flatten
  z : ∀ r ∈ rows, r.length = z
theorem FlS.cells {z b : Nat} {h : H} {v : V} {rows : List (List S)} (w : FlS z h v rows b) : cellsS z h v = some rows.flatten := by
  have hc : h.cells b = rows.flatten := by unfold H.cells; rw [if_pos w.n, w.g]; rfl
  have hl := flat_len w.z
  rw [w.v]
  simp only [cellsS, hc]
  rw [if_pos ⟨w.n, by omega⟩, List.drop_zero, List.take_of_length_le (by omega)]
theorem cellsS_lv {z : Nat} {h : H} {rows : List (List S)} (hz : ∀ r ∈ rows, r.length = z) : cellsS z h (lv rows) = some rows.flatten := by
  simp only [cellsS, if_pos hz]
theorem cellsS_row {z : Nat} {h : H} {row : List S} (hz : row.length = z) : cellsS z (h.new z row) (sv h.n 0 1) = some row := by
  have c2 : (h.new z row).cells h.n = row := by unfold H.cells; rw [if_pos (by simp), new_g]; rfl
  simp only [cellsS, c2]
  rw [if_pos ⟨by simp, by omega⟩, List.drop_zero, List.take_of_length_le (by omega)]
theorem app_fl {z b : Nat} {h : H} {v y : V} {rows more : List (List S)} (w : FlS z h v rows b) (hm : ∀ r ∈ more, r.length = z) (hc : cellsS z h y = some more.flatten) (hy : lenS y = some more.length) (hz0 : 0 < z) (hl : rows.length + more.length ≤ lim) :
    ∃ v' h', appS z h v y = some (v', h') ∧ FlS z h' v' (rows ++ more) h.n ∧ h'.n = h.n + 1 ∧ ∀ c, c < h.n → c ≠ b → h'.g c = h.g c := by
  have h1 := w.cells
  obtain ⟨rfl, w2, w3, w4⟩ := w
  refine ⟨sv h.n 0 (rows.length + more.length), (h.put b .dead).new z (rows.flatten ++ more.flatten), ?_, ⟨by rw [List.length_append], by simp, ?_, ?_⟩, by simp, fun c hc hcb => ?_⟩
  · simp only [appS, h1, hc, hy, Option.bind_some]
    rw [if_pos ⟨w2, hl, hz0⟩, w3]
    simp
  · rw [List.flatten_append]; exact new_g (h.put b .dead) _ _
  · intro r hr
    rcases List.mem_append.1 hr with hr | hr
    · exact w4 r hr
    · exact hm r hr
  · rw [new_g' (by simp; omega), put_g' hcb]
theorem FlS.nil {z : Nat} {h : H} : FlS z (h.new z []) (sv h.n 0 0) [] h.n := ⟨rfl, by simp, new_g _ _ _, by simp⟩
theorem FlS.keep {z b : Nat} {h h' : H} {v : V} {rows : List (List S)} (w : FlS z h v rows b) (hn : h.n ≤ h'.n) (hg : h'.g b = h.g b) : FlS z h' v rows b := ⟨w.v, by have := w.n; omega, by rw [hg]; exact w.g, w.z⟩
theorem FlS.own {z b n : Nat} {h : H} {y : S} {rows : List (List S)} (w : FlS z h (.s y) rows b) (hz0 : 0 < z) (hn : n ≤ b) (hs : ∀ r ∈ rows, ∀ s ∈ r, Sc s) : OwnF 1 y (.fs rows) n h.n h := by
  have hv := w.v
  injection hv with hv
  subst hv
  refine ⟨[b], ?_, by simp, by simpa using ⟨hn, w.n⟩⟩
  exact Rep.sl (bss := []) w.n hz0 w.g w.z (RepL.sc fun s hs' => by
    obtain ⟨r, h1, h2⟩ := List.mem_flatten.1 hs'
    exact hs r h1 s h2)
theorem FlS.frz {b z : Nat} {h : H} {v : V} {rows : List (List S)} (w : FlS z h v rows b) (hz0 : 0 < z) (hs : ∀ r ∈ rows, ∀ s ∈ r, Sc s) : frzV h v = some (lv rows) := by
  rw [w.v]; exact frzV_sv w.n hz0 w.g w.z fun r hr s h => (hs r hr s h).cl
/-- out of what is one's own -/
theorem OwnF.fl {z lo hi : Nat} {h : H} {y : S} {rows : List (List S)} (w : OwnF 1 y (.fs rows) lo hi h) (hz : ∀ r ∈ rows, r.length = z) (hs : ∀ r ∈ rows, ∀ s ∈ r, Sc s) (hne : rows ≠ []) : ∃ b, FlS z h (.s y) rows b ∧ lo ≤ b ∧ b < hi := by
  obtain ⟨bs, w1, w2, w3⟩ := w
  rcases w1 with ⟨⟨h1, h2⟩ | ⟨h1, h2⟩, h3⟩ | ⟨b, z', cs, rows', bss, h1, h0, h2, h3, h4, h5, h6, h7⟩
  · rw [← h2] at h1; exact h1.elim
  · injection h2 with h2; exact absurd h2 hne
  · injection h0 with h0
    subst h0
    obtain ⟨rfl, rfl⟩ := h7.of_sc fun s hs' => by
      obtain ⟨r, h8, h9⟩ := List.mem_flatten.1 hs'
      exact hs r h8 s h9
    obtain ⟨r, rows', rfl⟩ := List.exists_cons_of_ne_nil hne
    have : z' = z := by rw [← h6 r (by simp), hz r (by simp)]
    subst this
    exact ⟨b, ⟨by rw [h1], h3, h5, h6⟩, w3 b (by rw [h2]; simp)⟩
theorem flat_get {z : Nat} : ∀ {rows : List (List S)} {i j : Nat} {r : List S}, (∀ r ∈ rows, r.length = z) → rows[i]? = some r → j < z → rows.flatten[i * z + j]? = r[j]?
  | [], i, j, r, _, h, _ => by simp at h
  | q :: rows, 0, j, r, hz, h, hj => by
    simp only [List.getElem?_cons_zero, Option.some.injEq] at h
    subst h
    rw [List.flatten_cons, Nat.zero_mul, Nat.zero_add, List.getElem?_append_left (by rw [hz q (by simp)]; exact hj)]
  | q :: rows, i + 1, j, r, hz, h, hj => by
    rw [List.getElem?_cons_succ] at h
    have hq := hz q (by simp)
    rw [List.flatten_cons, List.getElem?_append_right (by rw [hq, Nat.succ_mul]; omega), hq, show (i + 1) * z + j - z = i * z + j from by rw [Nat.succ_mul]; omega]
    exact flat_get (fun r hr => hz r (by simp [hr])) h hj
theorem FlS.ld {b i j : Nat} {h : H} {v : V} {rs : List RowD} {r : RowD} {x : S} (w : FlS 4 h v (rws rs) b) (hr : rs[i]? = some r) (hj : j < 4) (hx : r.cs[j]? = some x) : load1 h (pv b (i * 4 + j)) = some x := by
  refine load1_cs (cs := (rws rs).flatten) (by unfold H.cells; rw [if_pos w.n, w.g]; rfl) ?_
  rw [flat_get w.z (rws_get hr) hj, hx]
/-! put in -/
theorem p_before_pv {h : H} {b : Nat} {k r : RowD} (hb : b < h.n) (hg : h.g b = .rw 0 r.cs) : (frzVs h [fv k.cs 0, pv b 0]).bind (fun l203 => some (normVs [4, 4] l203)) = some [fv k.cs 0, fv r.cs 0] := by
  have e1 : frzV h (fv k.cs 0) = some (fv k.cs 0) := by simp
  rw [frzVs_cons e1 (frzVs_cons (frz_pv hb hg row_cl) frzVs_nil), Vm.ob]; rfl
theorem slF_rws {rs : List RowD} {k : Nat} {R : Type} {f : List (List S) → Option R} (hk : k ≤ rs.length) : slF 4 (rws rs) none (some (iv .i64 (k : Int))) f = f (rws (rs.take k)) ∧ slF 4 (rws rs) (some (iv .i64 (k : Int))) none f = f (rws (rs.drop k)) := by
  have hb : bnd (rws rs).length (iv .i64 (k : Int)) = some k := by rw [rws_len]; exact bnd_of hk
  unfold slF
  refine ⟨?_, ?_⟩
  · simp only [Option.bind_some, hb]
    rw [if_pos rws_row, List.drop_zero]; simp [rws, List.map_take]
  · simp only [Option.bind_some, hb]
    rw [if_pos rws_row, List.take_length]; simp [rws, List.map_drop]
theorem tw_pos {k r : RowD} {ks : List RowD} (h : befB k r = true) : (k :: ks).takeWhile (befB · r) = k :: ks.takeWhile (befB · r) ∧ (k :: ks).dropWhile (befB · r) = ks.dropWhile (befB · r) := by
  rw [List.takeWhile_cons, List.dropWhile_cons]; simp [h]
theorem tw_neg {k r : RowD} {ks : List RowD} (h : befB k r = false) : (k :: ks).takeWhile (befB · r) = [] ∧ (k :: ks).dropWhile (befB · r) = k :: ks := by
  rw [List.takeWhile_cons, List.dropWhile_cons]; simp [h]
theorem tw_dw {r : RowD} : ∀ (ks : List RowD), ks.take (ks.takeWhile (befB · r)).length = ks.takeWhile (befB · r) ∧ ks.drop (ks.takeWhile (befB · r)).length = ks.dropWhile (befB · r)
  | [] => ⟨rfl, rfl⟩
  | k :: ks => by
    obtain ⟨i1, i2⟩ := tw_dw (r := r) ks
    cases hb : befB k r with
    | true => rw [(tw_pos hb).1, (tw_pos hb).2]; exact ⟨by rw [List.length_cons, List.take_succ_cons, i1], by rw [List.length_cons, List.drop_succ_cons, i2]⟩
    | false => rw [(tw_neg hb).1, (tw_neg hb).2]; exact ⟨rfl, rfl⟩
theorem f_l6Put {ks : List RowD} {r : RowD} (hl : ks.length + 1 ≤ lim) (n : Nat) : ∃ y h', call Ev Fn.spec_l6Put [lv (rws ks), .agg r.cs] (D n) = some (.s y, h') ∧ n ≤ h'.n ∧ OwnF 1 y (.fs (rws (insR r ks))) n h'.n h' := by
  have hl' := hl
  unfold lim at hl'
  have loop : ∀ (q : List RowD) (i : Nat), ks.drop i = q → Lp.spec_l6Put 0 [lv (rws ks), pv n 0, iv .i64 i] ((D n).new 0 r.cs) = some (.done [lv (rws ks), pv n 0, iv .i64 ((i + (q.takeWhile (befB · r)).length : Nat) : Int)] ((D n).new 0 r.cs)) := by
    intro q
    induction q with
    | nil =>
      intro i hi
      have := drop_nil hi
      rw [eq_spec_l6Put_l0, vcase_b, if_neg (by simp; omega), tidy_self]; simp
    | cons k q ih =>
      intro i hi
      obtain ⟨g1, g2, g3⟩ := drop_cons hi
      rw [eq_spec_l6Put_l0, vcase_b, if_pos (by simp; omega), idxF_rw g1]
      have e := p_before_pv (h := (D n).new 0 r.cs) (b := n) (k := k) (r := r) (by simp) (by exact new_g (D n) _ _)
      obtain ⟨l, e1, e2⟩ : ∃ l, frzVs ((D n).new 0 r.cs) [fv k.cs 0, pv n 0] = some l ∧ normVs [4, 4] l = [fv k.cs 0, fv r.cs 0] := by
        cases hf : frzVs ((D n).new 0 r.cs) [fv k.cs 0, pv n 0] with
        | none => rw [hf] at e; cases e
        | some l => rw [hf, Vm.ob] at e; exact ⟨l, rfl, by injection e⟩
      rw [e1, ob, e2, pc (p_l1Before k r) rfl]
      simp only [gV1_s, gB_b, vcase_b, tidy_self]
      rw [w64 (by omega) (by omega), show (i : Int) + 1 = ((i + 1 : Nat) : Int) from by omega]
      cases hb : befB k r with
      | true =>
        rw [if_pos rfl, ih (i + 1) g2, (tw_pos hb).1, List.length_cons, Nat.add_assoc i 1, Nat.add_comm 1]
      | false => rw [if_neg (by simp), (tw_neg hb).1]; simp
  have htl : (ks.takeWhile (befB · r)).length ≤ ks.length := by
    have := congrArg List.length (List.takeWhile_append_dropWhile (p := (befB · r)) (l := ks))
    rw [List.length_append] at this; omega
  have hdl : (ks.takeWhile (befB · r)).length + (ks.dropWhile (befB · r)).length = ks.length := by
    have := congrArg List.length (List.takeWhile_append_dropWhile (p := (befB · r)) (l := ks))
    rw [List.length_append] at this; omega
  obtain ⟨t1, t2⟩ := tw_dw (r := r) ks
  rw [eq_spec_l6Put, D_n, show iv .i64 0 = iv .i64 ((0 : Nat) : Int) from rfl, loop ks 0 rfl, ob, lcase_done]
  simp only [gx0, gx1, ob, gV1_s, gF_f, gI_i, Nat.zero_add]
  rw [(slF_rws htl).1, t1]
  obtain ⟨v1, h1, e1, w1, n1, k1⟩ := app_fl (z := 4) (h := ((D n).new 0 r.cs).new 4 []) (y := lv (rws (ks.takeWhile (befB · r)))) (more := rws (ks.takeWhile (befB · r))) FlS.nil rws_row (cellsS_lv rws_row) rfl (by omega) (by simp; unfold lim; omega)
  rw [e1, ob]
  have gr : h1.g n = .rw 0 r.cs := by rw [k1 n (by simp; omega) (by simp), new_g' (by simp)]; exact new_g (D n) _ _
  have cr : h1.cells n = r.cs := by unfold H.cells; rw [if_pos (by rw [n1]; simp; omega), gr]; rfl
  rw [ldK_agg rfl (loadN_cs (by rw [n1]; simp; omega) cr rfl)]
  simp only [gVA_a, ob, gx0, gx1, gI_i, gS_s, ln0, ln1, Nat.zero_add, Nat.reduceAdd, if_true]
  rw [(slF_rws htl).2, t2, hchk_of (HKeep.refl h1).new.ext]
  have w1' : FlS 4 (h1.new 4 r.cs) v1 ([] ++ rws (ks.takeWhile (befB · r))) _ := w1.keep (by simp) (new_g' (by have := w1.n; omega))
  obtain ⟨v2, h2, e2, w2, n2, k2⟩ := app_fl (z := 4) (h := h1.new 4 r.cs) (y := sv h1.n 0 1) (more := [r.cs]) w1' (by simp) (by simpa using cellsS_row (h := h1) (z := 4) (row := r.cs) rfl) rfl (by omega) (by simp; unfold lim; omega)
  rw [e2, ob]
  obtain ⟨v3, h3, e3, w3, n3, k3⟩ := app_fl (z := 4) (h := h2) (y := lv (rws (ks.dropWhile (befB · r)))) (more := rws (ks.dropWhile (befB · r))) w2 rws_row (cellsS_lv rws_row) rfl (by omega) (by simp; unfold lim; omega)
  rw [e3, ob]
  have hr : ([] ++ rws (ks.takeWhile (befB · r)) ++ [r.cs] ++ rws (ks.dropWhile (befB · r))) = rws (insR r ks) := by simp [insR, rws]
  rw [hr] at w3
  have hv := w3.v
  subst hv
  refine ⟨_, h3, rfl, by rw [n3, n2]; simp; rw [n1]; simp; omega, w3.own (by omega) ?_ rws_sc⟩
  rw [n2]; simp; rw [n1]; simp; omega
/-! the keys -/
theorem lp_keys {bs ns : List RowD} (hl : bs.length ≤ maxLen) (hln : ns.length ≤ 1000000) : ∀ (q : List RowD) (i : Nat) (ks : List RowD) (v : V) (b : Nat) (h : H), ns.drop i = q → FlS 4 h v (rws ks) b → ks.length + q.length ≤ 10000000 →
    ∃ v' b' h', Lp.spec_l6Changes 0 [lv (rws bs), lv (rws ns), v, iv .i64 i] h = some (.done [lv (rws bs), lv (rws ns), v'] h') ∧ FlS 4 h' v' (rws (q.foldl (keyStep bs) ks)) b' ∧ h.n ≤ h'.n := by
  intro q
  induction q with
  | nil =>
    intro i ks v b h hi w hk
    have := drop_nil hi
    refine ⟨v, b, h, ?_, w, Nat.le_refl _⟩
    rw [eq_spec_l6Changes_l0, vcase_b, if_neg (by simp; omega), tidy_self]
  | cons r q ih =>
    intro i ks v b h hi w hk
    simp only [List.length_cons] at hk
    obtain ⟨g1, g2, g3⟩ := drop_cons hi
    rw [eq_spec_l6Changes_l0, vcase_b, if_pos (by simp; omega), idxF_rw g1]
    simp only [ob, gx0, gI_i]
    rw [idxF_rw g1]
    simp only [ob, gx0, gx1, gI_i]
    rw [pc (p_l6At hl) rfl]
    simp only [gV1_s, gI_i, hchk_self, vcase_b, decide_eq_true_eq]
    rw [w64 (by omega) (by omega), show (i : Int) + 1 = ((i + 1 : Nat) : Int) from by omega]
    rw [List.foldl_cons]
    rcases at_get (x := r) bs 0 with ⟨h1, h2⟩ | ⟨j, x, h1, h2, h3⟩
    · have e : keyStep bs ks r = insR r ks := by unfold keyStep; rw [h2]; rfl
      rw [h1, if_pos (by omega), idxF_rw g1, rowN_rw, e]
      simp only [ob, gx0, gx1, gI_i, gS_s, ln0, ln1, Nat.zero_add, Nat.reduceAdd, if_true]
      have ea : frzV h (.agg r.cs) = some (.agg r.cs) := by simp
      rw [frzVs_cons (w.frz (by omega) rws_sc) (frzVs_cons ea frzVs_nil), ob, norm_nil]
      obtain ⟨y, hp, e1, n1, w1⟩ := f_l6Put (ks := ks) (r := r) (by unfold lim; omega) h.n
      obtain ⟨K, e2, u2, n2, w2⟩ := pV (h := h) (n := h.n) (off := [v, V.agg r.cs].all offV) rfl e1 n1 w1
      rw [e2]
      obtain ⟨b2, w3, b3, b4⟩ := w2.now.fl rws_row rws_sc (by
        intro hh
        have := congrArg List.length hh
        rw [rws_len, ins_len] at this; simp at this)
      have hv := w3.v
      injection hv with hv
      subst hv
      rw [grow_tidy (h := h) (m := b2) (k := (rws (insR r ks)).length) b3 (by simp)]
      obtain ⟨v', b', h', a1, a2, a3⟩ := ih (i + 1) (insR r ks) _ b2 K g2 w3 (by rw [ins_len]; omega)
      exact ⟨v', b', h', a1, a2, by have := u2.n; omega⟩
    · have e : keyStep bs ks r = ks := by unfold keyStep; rw [h3]; rfl
      rw [h2, if_neg (by omega), tidy_self, e]
      exact ih (i + 1) ks v b h g2 w (by omega)
/-! the changes -/
theorem cs_l0 {m : Nat} {h0 h h' : H} {y : S} {out : List ChgD} {c : ChgD} {vs : V} {bs ns : List (List S)} {i : Nat} (hi : i < 100000000) (w : Nw h c.cs h') (g : Gr 10 m h0 y (chs out) h) (hl : out.length + 1 ≤ lim) :
    ∃ y' h2, Jn.spec_l6Changes_l2_0 h' h (.s y) bs ns vs (i : Int) = Lp.spec_l6Changes 2 [lv bs, lv ns, vs, .s y', iv .i64 ((i + 1 : Nat) : Int)] h2 ∧ Gr 10 m h0 y' (chs (out ++ [c])) h2 := by
  unfold Jn.spec_l6Changes_l2_0
  rw [w.ldN (o := 0) (n := 10) (r := c.cs) (by simp) rfl]
  simp only [ob, gx0, gx1, gI_i, gS_s, gB_b, ln0, ln1, Nat.zero_add, Nat.reduceAdd, if_true]
  obtain ⟨h2, e, g', hn⟩ := (g.keep w.keep).app (row := c.cs) chg_sc rfl (by omega) (by rw [chs_len]; exact hl)
  rw [e, ob, w64 (by omega) (by omega), show (i : Int) + 1 = ((i + 1 : Nat) : Int) from by omega, grow_tidy (m := h'.n + 1) (k := (chs out).length + 1) (by rw [w.n]; omega) (by simp)]
  rw [← chs_snoc] at g'
  exact ⟨_, h2, rfl, g'⟩
/-- a row that was looked up, and where it stands -/
def Fnd (rs : List RowD) (x : RowD) (i : Int) : Prop := (i = -1 ∧ getF x rs = none) ∨ ∃ j r, rs[j]? = some r ∧ i = ((j : Nat) : Int) ∧ getF x rs = some r
theorem fnd_at (rs : List RowD) (x : RowD) : Fnd rs x (atF x.tab x.key rs 0) := by
  rcases at_get (x := x) rs 0 with h | ⟨j, r, h1, h2, h3⟩
  · exact .inl h
  · exact .inr ⟨j, r, h1, by rw [h2, Nat.zero_add], h3⟩
theorem cs_l1 {m : Nat} {h0 h : H} {y : S} {out : List ChgD} {vs : V} {bs ns : List RowD} {x : RowD} {p q : Int} {i : Nat} (q0 q1 : Bool) (w1 w2 w3 w4 w5 w6 w7 w8 w9 : V) (hi : i < 100000000) (hp : Fnd bs x p) (hq : Fnd ns x q) (h1 : q1 = !keepB (ckF bs ns x)) (g : Gr 10 m h0 y (chs out) h) (hl : out.length + 1 ≤ lim) :
    ∃ y' h2, Jn.spec_l6Changes_l2_1 q0 w1 w2 w3 w4 w5 w6 w7 w8 w9 q1 (rws bs) (rws ns) vs (.s y) (i : Int) h p q = Lp.spec_l6Changes 2 [lv (rws bs), lv (rws ns), vs, .s y', iv .i64 ((i + 1 : Nat) : Int)] h2 ∧ Gr 10 m h0 y' (chs (out ++ one (ckF bs ns x))) h2 := by
  subst h1
  unfold Jn.spec_l6Changes_l2_1
  rw [vcase_b]
  cases hk : keepB (ckF bs ns x) with
  | false =>
    have : one (ckF bs ns x) = [] := by unfold one; rw [hk]; rfl
    rw [this, List.append_nil, w64 (by omega) (by omega), show (i : Int) + 1 = ((i + 1 : Nat) : Int) from by omega]
    exact ⟨y, h, by simp, g⟩
  | true =>
    have ho : one (ckF bs ns x) = [ckF bs ns x] := by unfold one; rw [hk]; rfl
    rw [ho, if_neg (by simp)]
    have w : Nw h zC (h.new 0 zC) := Nw.new
    have pb : decide (p ≥ 0) = (getF x bs).isSome := by
      rcases hp with ⟨rfl, hp⟩ | ⟨j, r, hj, rfl, hp⟩ <;> rw [hp] <;> simp
    have qb : decide (q ≥ 0) = (getF x ns).isSome := by
      rcases hq with ⟨rfl, hq⟩ | ⟨j, r, hj, rfl, hq⟩ <;> rw [hq] <;> simp
    rw [pb, qb]
    rw [w.stN (z := 10) (o := 0) (r := [.bool (getF x bs).isSome, .int .i64 0, .int .i64 0, .int .i64 0, .str (⟨#[]⟩), .bool (getF x ns).isSome, .int .i64 0, .int .i64 0, .int .i64 0, .str (⟨#[]⟩)]) rfl (by simp)]
    have w0 := w.put (cs' := ChgD.cs ⟨(getF x bs).isSome, zR, (getF x ns).isSome, zR⟩)
    rw [show setAt zC 0 [.bool (getF x bs).isSome, .int .i64 0, .int .i64 0, .int .i64 0, .str (⟨#[]⟩), .bool (getF x ns).isSome, .int .i64 0, .int .i64 0, .int .i64 0, .str (⟨#[]⟩)] = ChgD.cs ⟨(getF x bs).isSome, zR, (getF x ns).isSome, zR⟩ from rfl]
    revert w0
    generalize ((h.new 0 zC).put h.n (.rw 0 (ChgD.cs ⟨(getF x bs).isSome, zR, (getF x ns).isSome, zR⟩))) = A
    intro w0
    simp only [vcase_b]
    have ec : ckF bs ns x = ⟨(getF x bs).isSome, (getF x bs).getD zR, (getF x ns).isSome, (getF x ns).getD zR⟩ := rfl
    rcases hp with ⟨rfl, hp⟩ | ⟨j, r, hj, rfl, hp⟩
    · rw [hp] at w0 ec ⊢
      rw [if_neg (by simp)]
      rcases hq with ⟨rfl, hq⟩ | ⟨j2, r2, hj2, rfl, hq⟩
      · rw [hq] at w0 ec ⊢
        rw [if_neg (by simp)]
        exact cs_l0 hi (by rw [ec]; exact w0) g hl
      · rw [hq] at w0 ec ⊢
        rw [if_pos (show (some r2).isSome = true from rfl), idxF_rw hj2, rowN_rw]
        simp only [ob, gx0, gx1, gI_i, gS_s, ln0, ln1, Nat.zero_add, Nat.reduceAdd, if_true]
        rw [w0.stN (z := 4) (o := 6) (r := r2.cs) rfl (by simp)]
        refine cs_l0 hi (c := ckF bs ns x) ?_ g hl
        rw [ec]
        exact w0.put
    · rw [hp] at w0 ec ⊢
      rw [if_pos (show (some r).isSome = true from rfl), idxF_rw hj, rowN_rw]
      simp only [ob, gx0, gx1, gI_i, gS_s, ln0, ln1, Nat.zero_add, Nat.reduceAdd, if_true]
      rw [w0.stN (z := 4) (o := 1) (r := r.cs) rfl (by simp)]
      have w1 := w0.put (cs' := ChgD.cs ⟨true, r, (getF x ns).isSome, zR⟩)
      rw [show setAt (ChgD.cs ⟨(some r).isSome, zR, (getF x ns).isSome, zR⟩) 1 r.cs = ChgD.cs ⟨true, r, (getF x ns).isSome, zR⟩ from rfl]
      revert w1
      generalize (A.put h.n (.rw 0 (ChgD.cs ⟨true, r, (getF x ns).isSome, zR⟩))) = B
      intro w1
      rcases hq with ⟨rfl, hq⟩ | ⟨j2, r2, hj2, rfl, hq⟩
      · rw [hq] at w1 ec ⊢
        rw [if_neg (by simp)]
        exact cs_l0 hi (by rw [ec]; exact w1) g hl
      · rw [hq] at w1 ec ⊢
        rw [if_pos (show (some r2).isSome = true from rfl), idxF_rw hj2, rowN_rw]
        simp only [ob, gx0, gx1, gI_i, gS_s, ln0, ln1, Nat.zero_add, Nat.reduceAdd, if_true]
        rw [w1.stN (z := 4) (o := 6) (r := r2.cs) rfl (by simp)]
        refine cs_l0 hi (c := ckF bs ns x) ?_ g hl
        rw [ec]
        exact w1.put
theorem lp_chgs {bs ns ks : List RowD} {v : V} {b m : Nat} {h0 : H} (hl : bs.length ≤ maxLen) (hl2 : ns.length ≤ maxLen) (hks : ks.length < 10000000) (hf : FlS 4 h0 v (rws ks) b) (hm : h0.n = m) : ∀ (q : List RowD) (i : Nat) (y : S) (out : List ChgD) (h : H), ks.drop i = q → out.length ≤ i → Gr 10 m h0 y (chs out) h →
    ∃ y' h', Lp.spec_l6Changes 2 [lv (rws bs), lv (rws ns), v, .s y, iv .i64 i] h = some (.done [.s y'] h') ∧ Gr 10 m h0 y' (chs (out ++ q.flatMap fun x => one (ckF bs ns x))) h' := by
  intro q
  have l0 : lenV (.sl 39) v = some (iv .i64 (ks.length : Int)) := by rw [hf.v]; simp [lenV]
  induction q with
  | nil =>
    intro i y out h hi ho g
    have := drop_nil hi
    refine ⟨y, h, ?_, by simpa using g⟩
    rw [eq_spec_l6Changes_l2, l0]
    simp only [ob, gV1_s, gI_i, vcase_b]
    rw [if_neg (by simp; omega), tidy_self]
  | cons x q ih =>
    intro i y out h hi ho g
    obtain ⟨g1, g2, g3⟩ := drop_cons hi
    have hf' : FlS 4 h v (rws ks) b := hf.keep (by have := g.1; omega) (g.2.1 b (by have := hf.n; omega))
    have hv := hf'.v
    have fin : ∃ y2 h2, Lp.spec_l6Changes 2 [lv (rws bs), lv (rws ns), v, .s y, iv .i64 i] h = Lp.spec_l6Changes 2 [lv (rws bs), lv (rws ns), v, .s y2, iv .i64 ((i + 1 : Nat) : Int)] h2 ∧ Gr 10 m h0 y2 (chs (out ++ one (ckF bs ns x))) h2 := by
      have a1 := fnd_at bs x
      have a2 := fnd_at ns x
      rw [eq_spec_l6Changes_l2, l0]
      simp only [ob, gV1_s, gI_i, vcase_b]
      rw [if_pos (by simp; omega)]
      have ix : ∀ {R : Type} (k : V → Option R), idxK 4 v (iv .i64 (i : Int)) k = k (pv b (i * 4)) := fun k => by rw [hv]; exact idxK_sv (by simpa using g3)
      have l1 : ∀ {R : Type} (k : V → Option R), ldK (.one (.i .i64)) ⟨1, 8, [.int .i64 0], false, .int .i64, false⟩ h (pv b (i * 4 + 0)) k = k (.s (.int .i64 x.tab)) := fun k => ldK_one rfl (hf'.ld g1 (by omega) rfl)
      have l2 : ∀ {R : Type} (k : V → Option R), ldK (.one (.i .i64)) ⟨1, 8, [.int .i64 0], false, .int .i64, false⟩ h (pv b (i * 4 + 1)) k = k (.s (.int .i64 x.key)) := fun k => ldK_one rfl (hf'.ld g1 (by omega) rfl)
      simp only [ix, padd, ob, l1, l2, gV1_s, gI_i]
      rw [pc (p_l6At hl) rfl]
      simp only [gV1_s, gI_i, hchk_self]
      rw [pc (p_l6At hl2) rfl]
      simp only [gV1_s, gI_i, hchk_self]
      generalize atF x.tab x.key bs 0 = p at a1
      generalize atF x.tab x.key ns 0 = q at a2
      unfold Jn.spec_l6Changes_l2_2
      simp only [vcase_b]
      have hl3 : out.length + 1 ≤ lim := by unfold lim; omega
      rcases a1 with ⟨rfl, hp⟩ | ⟨j, r, hj, rfl, hp⟩
      · rw [if_neg (by simp), if_neg (by simp)]
        refine cs_l1 _ _ _ _ _ _ _ _ _ _ _ (by omega) (.inl ⟨rfl, hp⟩) a2 ?_ g hl3
        unfold ckF keepB; rw [hp]; rfl
      · rw [if_pos (by simp)]
        rcases a2 with ⟨rfl, hq⟩ | ⟨j2, r2, hj2, rfl, hq⟩
        · rw [if_neg (by simp)]
          refine cs_l1 _ _ _ _ _ _ _ _ _ _ _ (by omega) (.inr ⟨j, r, hj, rfl, hp⟩) (.inl ⟨rfl, hq⟩) ?_ g hl3
          unfold ckF keepB; rw [hp, hq]; rfl
        · rw [if_pos (by simp), idxF_rw hj, rowN_rw]
          simp only [ob, gx0, gx1, gI_i, gS_s, ln0, ln1, Nat.zero_add, Nat.reduceAdd, if_true]
          rw [idxF_rw hj2, rowN_rw]
          simp only [ob, gx0, gx1, gI_i, gS_s, ln0, ln1, Nat.zero_add, Nat.reduceAdd, if_true]
          refine cs_l1 _ _ _ _ _ _ _ _ _ _ _ (by omega) (.inr ⟨j, r, hj, rfl, hp⟩) (.inr ⟨j2, r2, hj2, rfl, hq⟩) ?_ g hl3
          unfold ckF keepB eqRowB; rw [hp, hq]; simp
    obtain ⟨y2, h2, e2, w2⟩ := fin
    obtain ⟨y3, h3, e3, w3⟩ := ih (i + 1) y2 _ h2 g2 (by have := one_len (ckF bs ns x); rw [List.length_append]; omega) w2
    exact ⟨y3, h3, by rw [e2, e3], by rw [List.flatMap_cons, ← List.append_assoc]; exact w3⟩
end Vm
/-
  What is drawn out of bytes: numbers, choices, bytes.
-/
namespace Vm
open Go
/-- a source of numbers: bytes, and how many were drawn -/
structure Src (b : Nat) (l : List UInt8) (a : Nat) (h : H) : Prop where
  n : b < h.n
  g : h.g b = .rw 0 [.fs (bys l), .int .i64 a]
/-- the same but for the source: some numbers were drawn -/
structure Dr (b : Nat) (l : List UInt8) (a N : Nat) (h h' : H) : Prop where
  ex : ∃ a', Src b l a' h' ∧ a' ≤ a + N
  n : h.n ≤ h'.n
  o : ∀ c, c < h.n → c ≠ b → h'.g c = h.g c
theorem Src.mono {b : Nat} {l : List UInt8} {a : Nat} {h h' : H} (w : Src b l a h) (hn : h.n ≤ h'.n) (hg : h'.g b = h.g b) : Src b l a h' := ⟨by have := w.n; omega, hg.trans w.g⟩
theorem Src.up {b : Nat} {l : List UInt8} {a : Nat} {h h' : H} (w : Src b l a h) (u : Up h h') : Src b l a h' := w.mono u.n (u.g b w.n)
theorem Dr.tidy {b : Nat} {l : List UInt8} {a N : Nat} {h h' : H} (hb : b < h.n) (w : Dr b l a N h h') (vs : List V) : Dr b l a N h (Vm.tidy h vs h') := by
  unfold Vm.tidy
  split
  · obtain ⟨a', w1, w2⟩ := w.ex
    exact ⟨⟨a', ⟨hb, by simp only [if_pos hb]; exact w1.g⟩, w2⟩, Nat.le_refl _, fun c hc hcb => by simp only [if_pos hc]; exact w.o c hc hcb⟩
  · exact w
theorem Dr.refl {b : Nat} {l : List UInt8} {a : Nat} {h : H} (w : Src b l a h) : Dr b l a 0 h h := ⟨⟨a, w, by omega⟩, Nat.le_refl _, fun _ _ _ => rfl⟩
theorem Dr.up {b : Nat} {l : List UInt8} {a N : Nat} {h h' h'' : H} (w : Dr b l a N h h') (u : Up h' h'') : Dr b l a N h h'' := by
  obtain ⟨a', w1, w2⟩ := w.ex
  exact ⟨⟨a', w1.up u, w2⟩, Nat.le_trans w.n u.n, fun c hc hcb => (u.g c (Nat.lt_of_lt_of_le hc w.n)).trans (w.o c hc hcb)⟩
/-- a value of one's own stays behind a draw -/
theorem OwnF.dr {d lo hi : Nat} {y f : S} {b : Nat} {l : List UInt8} {a N : Nat} {h h' : H} (w : OwnF d y f lo hi h) (r : Dr b l a N h h') (hd : b < lo ∨ hi ≤ b) : OwnF d y f lo hi h' := by
  obtain ⟨bs, w1, w2, w3⟩ := w
  refine ⟨bs, w1.frame fun c hc => ?_, w2, w3⟩
  have := w3 c hc
  have := w1.lt c hc
  exact ⟨by have := r.n; omega, r.o c (by omega) (by omega)⟩
theorem bin_rem {t : Nat} {a b : Int} (ha : 0 ≤ a) (hb : 0 < b) : bin Ev .rem t (iv .i64 a) (iv .i64 b) = some (iv .i64 (a % b)) := by
  simp only [bin, binI, if_true]
  rw [if_neg (by omega), Int.tmod_eq_emod_of_nonneg ha]
theorem bin_quo {t : Nat} {a b : Int} (ha : 0 ≤ a) (hb : 0 < b) (h : a < 9223372036854775808) : bin Ev .quo t (iv .i64 a) (iv .i64 b) = some (iv .i64 (a / b)) := by
  have h1 : a / b ≤ a := Int.ediv_le_self _ ha
  have h2 : 0 ≤ a / b := Int.ediv_nonneg ha (by omega)
  simp only [bin, binI, if_true]
  rw [if_neg (by omega), Int.tdiv_eq_ediv_of_nonneg ha, w64 (by omega) (by omega)]
theorem idxK_fs {R : Type} {z : Nat} {rows : List (List S)} {k : IntKind} {j : Int} {f : V → Option R} : idxK z (.s (.fs rows)) (iv k j) f = idxF z rows j fun r => f (fv r 0) := id rfl
theorem ldK_by {R : Type} {h : H} {x : Int} {ti : TI} {f : V → Option R} (hz : ti.agg = false) : ldK (.one (.i .u8)) ti h (fv [.int .u8 x] 0) f = f (iv .u8 x) := by
  simp only [ldK, ldT, hz, cond_false, load1, gx0, ob, tyV, gV1_s, tyS, gI_i]
theorem r_nextE {b : Nat} {l : List UInt8} {a : Nat} {h : H} {n : Int} (w : Src b l a h) (hl : l.length ≤ 1048576) (ha : a < 1099511627776) (h1 : 1 ≤ n) (hn : n ≤ 1048576) :
    ∃ r h', call Ev Fn.spec_l1Next [pv b 0, iv .i64 n] h = some (iv .i64 r, h') ∧ 0 ≤ r ∧ r < n ∧ Src b l (a + 1) h' ∧ h'.n = h.n ∧ (∀ c, c ≠ b → h'.g c = h.g c) ∧ (∀ vs, Vm.tidy h vs h' = h') ∧ h' = h.put b (.rw 0 [.fs (bys l), .int .i64 ((a + 1 : Nat) : Int)]) := by
  have hb := w.n
  have ld : ∀ {K : H} {o m : Nat}, K.n = h.n → K.g b = .rw 0 [.fs (bys l), .int .i64 m] → load1 K (pv b o) = ([.fs (bys l), .int .i64 (m : Int)] : List S)[o]? := fun {K o m} hk hg => by simp [load1, H.cells, hk, hb, hg, Blk.cells]
  rw [eq_spec_l1Next, ld rfl w.g]
  simp only [Nat.zero_add, gx0, gx1, ob, gI_i]
  rw [w64 (n := (a : Int) + 1) (by omega) (by omega), show (a : Int) + 1 = ((a + 1 : Nat) : Int) from by omega]
  rw [stK_rw (z := 1) (e := 0) (o := 1) (b := b) (cs := [.fs (bys l), .int .i64 a]) (r := [.int .i64 ((a + 1 : Nat) : Int)]) hb w.g (.inl ⟨_, rfl, rfl, rfl⟩) rfl (by simp)]
  rw [show setAt [.fs (bys l), .int .i64 (a : Int)] 1 [S.int .i64 ((a + 1 : Nat) : Int)] = [.fs (bys l), .int .i64 ((a + 1 : Nat) : Int)] from rfl]
  generalize hK : h.put b (.rw 0 [.fs (bys l), .int .i64 ((a + 1 : Nat) : Int)]) = K
  have kn : K.n = h.n := by rw [← hK, put_n]
  have kg : K.g b = .rw 0 [.fs (bys l), .int .i64 ((a + 1 : Nat) : Int)] := by rw [← hK]; exact put_g _ _ _
  have ko : ∀ c, c ≠ b → K.g c = h.g c := fun c hc => by rw [← hK]; exact put_g' hc
  have kt : ∀ vs, Vm.tidy h vs K = K := fun vs => by rw [← hK]; exact tidy_put hb
  have fin : ∀ {r : Int}, 0 ≤ r → r < n → ∃ r' h', (some (iv .i64 r, K) : Option (V × H)) = some (iv .i64 r', h') ∧ 0 ≤ r' ∧ r' < n ∧ Src b l (a + 1) h' ∧ h'.n = h.n ∧ (∀ c, c ≠ b → h'.g c = h.g c) ∧ (∀ vs, Vm.tidy h vs h' = h') ∧ h' = K := fun h0 h1 => ⟨_, K, rfl, h0, h1, ⟨by omega, kg⟩, kn, ko, kt, rfl⟩
  rw [vcase_b, if_neg (by simp; omega), ld kn kg]
  simp only [gx0, gx1, ob, gI_i, ld kn kg, lenV, gV1_s, bys_len]
  rw [w64 (n := ((a + 1 : Nat) : Int) - 1) (by omega) (by omega), show ((a + 1 : Nat) : Int) - 1 = (a : Int) from by omega, vcase_b]
  by_cases hl0 : l.length = 0
  · rw [if_pos (by simp [hl0]), w64 (n := (a : Int) * 7) (by omega) (by omega), bin_rem (by omega) (by omega)]
    simp only [ob, gV1_s, gI_i]
    exact fin (Int.emod_nonneg _ (by omega)) (Int.emod_lt_of_pos _ (by omega))
  rw [if_neg (by simpa using hl0)]
  have hlp : (0 : Int) < (l.length : Int) := by omega
  have m1 := Int.emod_nonneg (a : Int) (show (l.length : Int) ≠ 0 by omega)
  have m2 := Int.emod_lt_of_pos (a : Int) hlp
  rw [bin_rem (by omega) hlp]
  simp only [ob, gV1_s, gI_i]
  rw [idxK_fs, idxF_by m1 m2, ldK_by rfl]
  simp only [gV1_s, gI_i]
  have d1 : (a : Int) / (l.length : Int) ≤ a := Int.ediv_le_self _ (by omega)
  have d2 : 0 ≤ (a : Int) / (l.length : Int) := Int.ediv_nonneg (by omega) (by omega)
  rw [bin_quo (by omega) hlp (by omega)]
  simp only [ob, gV1_s, gI_i]
  generalize (a : Int) / (l.length : Int) = q at d1 d2 ⊢
  have x1 := bt_nn l ((a : Int) % (l.length : Int))
  have x2 := bt_lt l ((a : Int) % (l.length : Int))
  generalize bt l ((a : Int) % (l.length : Int)) = x at x1 x2 ⊢
  rw [w64 (n := x) (by omega) (by omega), w64 (n := q * 37) (by omega) (by omega), w64 (n := x + q * 37) (by omega) (by omega), vcase_b]
  by_cases h2 : n > 200
  · rw [if_pos (by simpa using h2)]
    have m3 := Int.emod_nonneg ((a : Int) + 1) (show (l.length : Int) ≠ 0 by omega)
    have m4 := Int.emod_lt_of_pos ((a : Int) + 1) hlp
    rw [w64 (n := (a : Int) + 1) (by omega) (by omega), bin_rem (by omega) hlp]
    simp only [ob, gV1_s, gI_i]
    rw [idxK_fs, idxF_by m3 m4, ldK_by rfl]
    simp only [gV1_s, gI_i]
    have y1 := bt_nn l (((a : Int) + 1) % (l.length : Int))
    have y2 := bt_lt l (((a : Int) + 1) % (l.length : Int))
    generalize bt l (((a : Int) + 1) % (l.length : Int)) = y at y1 y2 ⊢
    rw [w64 (n := (x + q * 37) * 251) (by omega) (by omega), w64 (n := y) (by omega) (by omega), w64 (n := y * 13) (by omega) (by omega), w64 (n := (x + q * 37) * 251 + y * 13) (by omega) (by omega), w64 (n := (x + q * 37) * 251 + y * 13 + (a : Int)) (by omega) (by omega), bin_rem (by omega) (by omega)]
    simp only [ob, gV1_s, gI_i]
    exact fin (Int.emod_nonneg _ (by omega)) (Int.emod_lt_of_pos _ (by omega))
  · rw [if_neg (by simpa using h2), bin_rem (by omega) (by omega)]
    simp only [ob, gV1_s, gI_i]
    exact fin (Int.emod_nonneg _ (by omega)) (Int.emod_lt_of_pos _ (by omega))
theorem r_next {b : Nat} {l : List UInt8} {a : Nat} {h : H} {n : Int} (w : Src b l a h) (hl : l.length ≤ 1048576) (ha : a < 1099511627776) (h1 : 1 ≤ n) (hn : n ≤ 1048576) :
    ∃ r h', call Ev Fn.spec_l1Next [pv b 0, iv .i64 n] h = some (iv .i64 r, h') ∧ 0 ≤ r ∧ r < n ∧ Src b l (a + 1) h' ∧ h'.n = h.n ∧ (∀ c, c ≠ b → h'.g c = h.g c) ∧ ∀ vs, Vm.tidy h vs h' = h' := by
  obtain ⟨r, h', e, r0, r1, w1, w2, w3, w4, _⟩ := r_nextE w hl ha h1 hn
  exact ⟨r, h', e, r0, r1, w1, w2, w3, w4⟩
theorem r_chance {b : Nat} {l : List UInt8} {a : Nat} {h : H} {n : Int} (w : Src b l a h) (hl : l.length ≤ 1048576) (ha : a < 1099511627776) (h1 : 1 ≤ n) (hn : n ≤ 1048576) :
    ∃ r h', call Ev Fn.spec_l1Chance [pv b 0, iv .i64 n] h = some (bv r, h') ∧ Src b l (a + 1) h' ∧ h'.n = h.n ∧ (∀ c, c ≠ b → h'.g c = h.g c) ∧ ∀ vs, Vm.tidy h vs h' = h' := by
  obtain ⟨r, h', e, _, _, w1, w2, w3, w4⟩ := r_next w hl ha h1 hn
  rw [eq_spec_l1Chance, e]
  simp only [ob, gV1_s, gI_i]
  rw [w4]
  exact ⟨_, h', rfl, w1, w2, w3, w4⟩
/-- one of a list of numbers -/
theorem r_pick {b : Nat} {l : List UInt8} {a : Nat} {h : H} {xs : List Int} (w : Src b l a h) (hl : l.length ≤ 1048576) (ha : a < 1099511627776) (h1 : 1 ≤ xs.length) (hn : xs.length ≤ 1000) {q : Nat} (hq : q < h.n) (hqb : q ≠ b) (hg : h.g q = .rw 1 (xs.map fun x => .int .i64 x)) :
    ∃ x h', call Ev Fn.spec_l1Pick [pv b 0, sv q 0 xs.length] h = some (iv .i64 x, h') ∧ x ∈ xs ∧ Src b l (a + 1) h' ∧ h'.n = h.n ∧ (∀ c, c ≠ b → h'.g c = h.g c) ∧ ∀ vs, Vm.tidy h vs h' = h' := by
  obtain ⟨r, h', e, r0, r1, w1, w2, w3, w4⟩ := r_next w hl ha (n := (xs.length : Int)) (by omega) (by omega)
  obtain ⟨i, rfl⟩ : ∃ i : Nat, r = i := ⟨r.toNat, by omega⟩
  have hi : i < xs.length := by omega
  rw [eq_spec_l1Pick]
  simp only [lenV, ob, gV1_s, gI_i]
  rw [e]
  simp only [ob, gV1_s, gI_i]
  rw [w4, idxK_sv hi, Nat.mul_one]
  have ld : load1 h' (pv q i) = some (.int .i64 xs[i]) := by
    simp only [load1, H.cells, w2, hq, if_true, w3 q hqb, hg, Blk.cells]
    rw [List.getElem?_map, List.getElem?_eq_getElem hi]; rfl
  simp only [ldK, ldT, cond_false, ld, ob, gV1_s, gI_i]
  exact ⟨_, h', rfl, List.getElem_mem hi, w1, w2, w3, w4⟩
/-- the same, of a list just made -/
theorem r_pickN {b : Nat} {l : List UInt8} {a : Nat} {h : H} {xs : List Int} (w : Src b l a h) (hl : l.length ≤ 1048576) (ha : a < 1099511627776) (h1 : 1 ≤ xs.length) (hn : xs.length ≤ 1000) :
    ∃ x h', call Ev Fn.spec_l1Pick [pv b 0, sv h.n 0 xs.length] (h.new 1 (xs.map fun x => .int .i64 x)) = some (iv .i64 x, h') ∧ x ∈ xs ∧ Src b l (a + 1) h' ∧ h.n ≤ h'.n ∧ (∀ c, c < h.n → c ≠ b → h'.g c = h.g c) ∧ ∀ vs, Vm.tidy (h.new 1 (xs.map fun x => .int .i64 x)) vs h' = h' := by
  have hb := w.n
  obtain ⟨x, h', e, hx, w1, w2, w3, w4⟩ := r_pick (h := h.new 1 (xs.map fun x => .int .i64 x)) (w.up up_new) hl ha h1 hn (q := h.n) (by simp) (by omega) (new_g _ _ _)
  exact ⟨x, h', e, hx, w1, by rw [w2]; simp, fun c hc hcb => by rw [w3 c hcb, new_g' (by omega)], w4⟩

end Vm
/-
  What is drawn out of bytes: bytes.
-/
namespace Vm
open Go
end Vm
/-
  What is drawn out of bytes: bytes, rows.
-/
namespace Vm
open Go
/-- a block that stays -/
theorem Dr.keep {b : Nat} {l : List UInt8} {a N : Nat} {h h' : H} (r : Dr b l a N h h') {c : Nat} (hc : c < h.n) (hcb : c ≠ b) : h'.g c = h.g c := r.o c hc hcb
theorem st4_at {R : Type} {K : H} {n : Nat} {a b c d : S} {x y z u : S} {f : H → Option R} (hn : n < K.n) (hg : K.g n = .rw 0 [a, b, c, d]) : stK 4 K (pv n 0) (.agg [x, y, z, u]) f = f (K.put n (.rw 0 [x, y, z, u])) := by
  rw [stK_rw (z := 4) (e := 0) (o := 0) (b := n) (cs := [a, b, c, d]) (r := [x, y, z, u]) hn hg (.inr rfl) rfl (by simp)]
  rfl
theorem ld4_at {K : H} {n : Nat} {x y z u : S} (hn : n < K.n) (hg : K.g n = .rw 0 [x, y, z, u]) : loadN 4 K (pv n 0) = some [x, y, z, u] := loadN_rw hn hg (by simp)
/-- texts of a list -/
theorem ld_str {R : Type} {K : H} {q i : Nat} {ts : List ByteArray} {ti : TI} {f : V → Option R} (hq : q < K.n) (hg : K.g q = .rw 1 (ts.map fun t => .str t)) (hi : i < ts.length) (hz : ti.agg = false) : ldK (.one (.s)) ti K (pv q (i * 1)) f = f (.s (.str ts[i])) := by
  have ld : load1 K (pv q (i * 1)) = some (.str ts[i]) := by
    simp only [load1, H.cells, hq, if_true, hg, Blk.cells, Nat.mul_one]
    rw [List.getElem?_map, List.getElem?_eq_getElem hi]; rfl
  simp only [ldK, ldT, hz, cond_false, ld, ob]
def drT : List ByteArray := [⟨#[]⟩, ⟨#[97]⟩, ⟨#[97, 98, 99]⟩, ⟨#[97, 98, 99, 100, 101, 102, 103, 104]⟩]
theorem drT_ok {t : ByteArray} (h : t ∈ drT) : t.size ≤ 8 ∧ allLow t 0 = true := by
  simp only [drT, List.mem_cons, List.not_mem_nil, or_false] at h
  rcases h with rfl | rfl | rfl | rfl <;> exact ⟨by decide, by decide⟩
theorem r_draw {b : Nat} {l : List UInt8} {a : Nat} {h : H} (w : Src b l a h) (hl : l.length ≤ 1048576) (ha : a + 10 < 1099511627776) :
    ∃ r h', call Ev Fn.spec_l1Draw [pv b 0] h = some (.agg r.cs, h') ∧ rowF r = 0 ∧ Dr b l a 5 h h' := by
  have hb := w.n
  rw [eq_spec_l1Draw]
  have w0 : Src b l a (h.new 0 [.int .i64 0, .int .i64 0, .int .i64 0, .str ⟨#[]⟩]) := w.up up_new
  have g0 : (h.new 0 [.int .i64 0, .int .i64 0, .int .i64 0, .str ⟨#[]⟩]).g h.n = .rw 0 [.int .i64 0, .int .i64 0, .int .i64 0, .str ⟨#[]⟩] := new_g _ _ _
  have k0 : ∀ c, c < h.n → c ≠ b → (h.new 0 [.int .i64 0, .int .i64 0, .int .i64 0, .str ⟨#[]⟩]).g c = h.g c := fun c hc _ => new_g' (by omega)
  have n0 : (h.new 0 [.int .i64 0, .int .i64 0, .int .i64 0, .str ⟨#[]⟩]).n = h.n + 1 := new_n _ _ _
  generalize h.new 0 [.int .i64 0, .int .i64 0, .int .i64 0, .str ⟨#[]⟩] = A at w0 g0 k0 n0 ⊢
  obtain ⟨x1, h1, e1, a1, b1, w1, n1, o1, t1⟩ := r_next w0 hl (by omega) (n := 3) (by omega) (by omega)
  rw [e1]; simp only [ob, gV1_s, gI_i]; rw [t1]
  obtain ⟨x2, h2, e2, a2, b2, w2, n2, o2, t2⟩ := r_next w1 hl (by omega) (n := 6) (by omega) (by omega)
  rw [e2]; simp only [ob, gV1_s, gI_i]; rw [t2]
  obtain ⟨x3, h3, e3, a3, b3, w3, n3, o3, t3⟩ := r_next w2 hl (by omega) (n := 9) (by omega) (by omega)
  rw [e3]; simp only [ob, gV1_s, gI_i]; rw [t3]
  obtain ⟨x4, h4, e4, m4, w4, n4, o4, t4⟩ := r_pickN w3 hl (by omega) (xs := [x3, 300, 999]) (by simp) (by simp)
  simp only [List.length_cons, List.length_nil, Nat.zero_add, Nat.reduceAdd, List.map_cons, List.map_nil] at e4 t4
  rw [e4]; simp only [ob, gV1_s, gI_i]; rw [t4]
  have w4' : Src b l (a + 1 + 1 + 1 + 1) (h4.new 1 [.str ⟨#[]⟩, .str ⟨#[97]⟩, .str ⟨#[97, 98, 99]⟩, .str ⟨#[97, 98, 99, 100, 101, 102, 103, 104]⟩]) := w4.up up_new
  obtain ⟨x5, h5, e5, a5, b5, w5, n5, o5, t5⟩ := r_next w4' hl (by omega) (n := 4) (by omega) (by omega)
  rw [e5]; simp only [ob, gV1_s, gI_i]; rw [t5]
  obtain ⟨i, rfl⟩ : ∃ i : Nat, x5 = i := ⟨x5.toNat, by omega⟩
  have hb4 := w4.n
  have gs : h5.g h4.n = .rw 1 (drT.map fun t => .str t) := by rw [o5 h4.n (by omega)]; exact new_g _ _ _
  rw [idxK_sv (by omega), ld_str (by rw [n5, new_n]; omega) gs (by simp [drT]; omega) rfl]
  simp only [gV1_s, gS_s]
  have gr : h5.g h.n = .rw 0 [.int .i64 0, .int .i64 0, .int .i64 0, .str ⟨#[]⟩] := by
    rw [o5 h.n (by omega), new_g' (by omega), o4 h.n (by omega) (by omega), o3 h.n (by omega), o2 h.n (by omega), o1 h.n (by omega)]; exact g0
  have hn5 : h.n < h5.n := by rw [n5, new_n]; omega
  rw [st4_at hn5 gr, ld4_at (by rw [put_n]; exact hn5) (put_g _ _ _), ob]
  have ht := drT_ok (List.getElem_mem (show i < drT.length by simp [drT]; omega))
  refine ⟨⟨x1, IntKind.i64.wrap (1 + x2), x4, drT[i]'(by simp [drT]; omega)⟩, _, rfl, ?_, ⟨⟨_, ⟨by rw [put_n]; omega, by rw [put_g' (by omega)]; exact w5.g⟩, by omega⟩, by rw [put_n]; omega, fun c hc hcb => ?_⟩⟩
  · rw [w64 (by omega) (by omega)]
    have hv : 0 ≤ x4 ∧ x4 ≤ 999 := by
      simp only [List.mem_cons, List.not_mem_nil, or_false] at m4
      omega
    unfold rowF
    rw [if_pos (by simp [inB]; omega), if_pos (by simp [ht])]
  · rw [put_g' (by omega), o5 c hcb, new_g' (by omega), o4 c (by omega) hcb, o3 c hcb, o2 c hcb, o1 c hcb, k0 c hc hcb]
end Vm
/-
  What is drawn out of bytes: a row that may have a fault.
-/
namespace Vm
open Go
theorem rowF_00 {r : RowD} (h : rowF r = 0) : r.text.size ≤ 9 := by
  unfold rowF at h
  cases a : inB r.tab 0 3 <;> cases b : inB r.key 1 99 <;> cases c : inB r.val 0 999 <;> simp [a, b, c] at h
  have := h.1
  omega
abbrev z4' : List S := [.int .i64 0, .int .i64 0, .int .i64 0, .str (⟨#[]⟩)]
theorem bent_fin {Z : H} {n m : Nat} {r : RowD} (hn : n < Z.n) (hm : m < Z.n) (gn : Z.g n = .rw 0 r.cs) (gm : Z.g m = .rw 0 z4') :
    ((loadN 4 Z (pv n 0)).bind fun c => (c[0]?).bind fun x1 => gI .i64 x1 fun i1 => (c[1]?).bind fun x2 => gI .i64 x2 fun i2 => (c[2]?).bind fun x3 => gI .i64 x3 fun i3 => (c[3]?).bind fun x4 => gS x4 fun y =>
      if c.length = 4 then stK 4 Z (pv m 0) (.agg [.int .i64 i1, .int .i64 i2, .int .i64 i3, .str y]) fun h => (loadN 4 h (pv m 0)).bind fun c => some (V.agg c, h) else none) = some (.agg r.cs, Z.put m (.rw 0 r.cs)) := by
  rw [ld4_at hn gn, ob]
  simp only [gx0, gx1, ob, gI_i, gS_s, ln0, ln1, Nat.zero_add, Nat.reduceAdd, if_true]
  rw [st4_at hm gm, ld4_at (by rw [put_n]; exact hm) (put_g _ _ _), ob]
theorem st_fld {R : Type} {Z : H} {n o : Nat} {cs : List S} {v : V} {x : S} {f : H → Option R} (hn : n < Z.n) (gn : Z.g n = .rw 0 cs) (hv : v = .s x) (hx : isNo x = false) (ho : o + 1 ≤ cs.length) : stK 1 Z (pv n o) v f = f (Z.put n (.rw 0 (setAt cs o [x]))) :=
  stK_rw (z := 1) (e := 0) (o := o) (b := n) (cs := cs) (r := [x]) hn gn (.inl ⟨_, hv, rfl, hx⟩) rfl ho
theorem r_lbent {b : Nat} {l : List UInt8} {a : Nat} {h : H} (w : Src b l a h) (hl : l.length ≤ 1048576) (ha : a + 100 < 1099511627000) :
    ∃ (r : RowD) (h' : H), call Ev Fn.spec_l1Bent [pv b 0] h = some (.agg r.cs, h') ∧ r.text.size ≤ 9 ∧ Dr b l a 20 h h' := by
  have hb := w.n
  rw [eq_spec_l1Bent]
  have w0 : Src b l a (h.new 0 z4') := w.up up_new
  have g0 : (h.new 0 z4').g h.n = .rw 0 z4' := new_g _ _ _
  have k0 : ∀ c, c < h.n → (h.new 0 z4').g c = h.g c := fun c hc => new_g' (by omega)
  have n0 : (h.new 0 z4').n = h.n + 1 := new_n _ _ _
  change ∃ (r : RowD) (h' : H), ((call Ev Fn.spec_l1Draw [pv b 0] (h.new 0 z4')).bind _) = _ ∧ _
  generalize h.new 0 z4' = A at w0 g0 k0 n0 ⊢
  obtain ⟨r1, h1, e1, f1, d1⟩ := r_draw w0 hl (by omega)
  have ht := (rowF_00 f1)
  rw [e1, ob]
  simp only [gVA_a, gx0, gx1, ob, gI_i, gS_s, ln0, ln1, Nat.zero_add, Nat.reduceAdd, if_true]
  have d1' := d1.tidy (by omega) [V.agg r1.cs]
  change ∃ (r : RowD) (h' : H), stK 4 ((tidy A [V.agg r1.cs] h1).new 0 z4') (pv (tidy A [V.agg r1.cs] h1).n 0) (.agg r1.cs) _ = _ ∧ _
  generalize tidy A [V.agg r1.cs] h1 = K at d1' ⊢
  have hK := d1'.n
  obtain ⟨a1, s1, l1⟩ := d1'.ex
  rw [st4_at (n := K.n) (by simp) (new_g K 0 z4')]
  have uX : Up K ((K.new 0 z4').put K.n (.rw 0 r1.cs)) := ⟨by simp, fun c hc => by rw [put_g' (by omega), new_g' (by omega)]⟩
  have gX : ((K.new 0 z4').put K.n (.rw 0 r1.cs)).g K.n = .rw 0 r1.cs := put_g _ _ _
  have nX : ((K.new 0 z4').put K.n (.rw 0 r1.cs)).n = K.n + 1 := by simp
  change ∃ (r : RowD) (h' : H), ((call Ev Fn.spec_l1Next [pv b 0, iv .i64 12] ((K.new 0 z4').put K.n (.rw 0 r1.cs))).bind _) = _ ∧ _
  generalize (K.new 0 z4').put K.n (.rw 0 r1.cs) = X at uX gX nX ⊢
  obtain ⟨x2, h2, e2, a2, b2, w2, n2, o2, t2⟩ := r_next (s1.up uX) hl (by omega) (n := 12) (by omega) (by omega)
  rw [e2]; simp only [ob, gV1_s, gI_i]; rw [t2]
  have bK : b < K.n := by omega
  have g2K : h2.g K.n = .rw 0 r1.cs := (o2 K.n (by omega)).trans gX
  have g2h : h2.g h.n = .rw 0 z4' := by rw [o2 h.n (by omega), uX.g h.n (by omega), d1'.o h.n (by omega) (by omega)]; exact g0
  have kp : ∀ c, c < h.n → c ≠ b → h2.g c = h.g c := fun c hc hcb => by rw [o2 c hcb, uX.g c (by omega), d1'.o c (by omega) hcb, k0 c hc]
  -- what is left, of whatever row
  have fin : ∀ {Z : H} (r : RowD), r.text.size ≤ 9 → (∃ a', Src b l a' Z ∧ a' ≤ a + 20) → h2.n ≤ Z.n → Z.g K.n = .rw 0 r.cs → Z.g h.n = .rw 0 z4' → (∀ c, c < h.n → c ≠ b → Z.g c = h.g c) →
      ∃ (r' : RowD) (h' : H), ((loadN 4 Z (pv K.n 0)).bind fun c => (c[0]?).bind fun x1 => gI .i64 x1 fun i1 => (c[1]?).bind fun x2 => gI .i64 x2 fun i2 => (c[2]?).bind fun x3 => gI .i64 x3 fun i3 => (c[3]?).bind fun x4 => gS x4 fun y =>
        if c.length = 4 then stK 4 Z (pv h.n 0) (.agg [.int .i64 i1, .int .i64 i2, .int .i64 i3, .str y]) fun hh => (loadN 4 hh (pv h.n 0)).bind fun c => some (V.agg c, hh) else none) = some (.agg r'.cs, h') ∧ r'.text.size ≤ 9 ∧ Dr b l a 20 h h' := fun {Z} r hr hs hn gn gm go => by
    obtain ⟨a', sr, la⟩ := hs
    refine ⟨r, Z.put h.n (.rw 0 r.cs), bent_fin (by omega) (by omega) gn gm, hr, ⟨a', ⟨by rw [put_n]; exact sr.n, by rw [put_g' (by omega)]; exact sr.g⟩, by omega⟩, by rw [put_n]; omega, fun c hc hcb => by rw [put_g' (by omega)]; exact go c hc hcb⟩
  -- one field turned
  have fld : ∀ {Z : H} {o : Nat} {x : S} (r : RowD), setAt r1.cs o [x] = r.cs → isNo x = false → o < 4 → r.text.size ≤ 9 → (∃ a', Src b l a' Z ∧ a' ≤ a + 20) → h2.n ≤ Z.n → (∀ c, c < h2.n → c ≠ b → Z.g c = h2.g c) →
      ∃ (r' : RowD) (h' : H), (stK 1 Z (pv K.n o) (.s x) fun h120 => ((loadN 4 h120 (pv K.n 0)).bind fun c => (c[0]?).bind fun x1 => gI .i64 x1 fun i1 => (c[1]?).bind fun x2 => gI .i64 x2 fun i2 => (c[2]?).bind fun x3 => gI .i64 x3 fun i3 => (c[3]?).bind fun x4 => gS x4 fun y =>
        if c.length = 4 then stK 4 h120 (pv h.n 0) (.agg [.int .i64 i1, .int .i64 i2, .int .i64 i3, .str y]) fun hh => (loadN 4 hh (pv h.n 0)).bind fun c => some (V.agg c, hh) else none)) = some (.agg r'.cs, h') ∧ r'.text.size ≤ 9 ∧ Dr b l a 20 h h' := fun {Z o x} r he hx ho hr hs hn go => by
    obtain ⟨a', sr, la⟩ := hs
    rw [st_fld (by omega) ((go K.n (by omega) (by omega)).trans g2K) rfl hx (by simp; omega), he]
    exact fin r hr ⟨a', ⟨by rw [put_n]; exact sr.n, by rw [put_g' (by omega)]; exact sr.g⟩, la⟩ (by rw [put_n]; exact hn) (put_g _ _ _) (by rw [put_g' (by omega), go h.n (by omega) (by omega)]; exact g2h) (fun c hc hcb => by rw [put_g' (by omega), go c (by omega) hcb]; exact kp c hc hcb)
  rw [vcase_b]
  by_cases c0 : x2 = 0
  · rw [if_pos (by simp [c0])]
    obtain ⟨x3, h3, e3, m3, w3, n3, o3, t3⟩ := r_pickN w2 hl (by omega) (xs := [-1, 3, 4]) (by simp) (by simp)
    simp only [List.length_cons, List.length_nil, Nat.zero_add, Nat.reduceAdd, List.map_cons, List.map_nil] at e3 t3
    rw [e3]; simp only [ob, gV1_s, gI_i]; rw [t3]
    exact fld (o := 0) { r1 with tab := x3 } rfl rfl (by omega) ht ⟨_, w3, by omega⟩ n3 o3
  rw [if_neg (by simpa using c0), vcase_b]
  by_cases c1 : x2 = 1
  · rw [if_pos (by simp [c1])]
    obtain ⟨x3, h3, e3, m3, w3, n3, o3, t3⟩ := r_pickN w2 hl (by omega) (xs := [0, 99, 100]) (by simp) (by simp)
    simp only [List.length_cons, List.length_nil, Nat.zero_add, Nat.reduceAdd, List.map_cons, List.map_nil] at e3 t3
    rw [e3]; simp only [ob, gV1_s, gI_i]; rw [t3]
    exact fld (o := 1) { r1 with key := x3 } rfl rfl (by omega) ht ⟨_, w3, by omega⟩ n3 o3
  rw [if_neg (by simpa using c1), vcase_b]
  by_cases c2 : x2 = 2
  · rw [if_pos (by simp [c2])]
    obtain ⟨x3, h3, e3, m3, w3, n3, o3, t3⟩ := r_pickN w2 hl (by omega) (xs := [-1, 1000]) (by simp) (by simp)
    simp only [List.length_cons, List.length_nil, Nat.zero_add, Nat.reduceAdd, List.map_cons, List.map_nil] at e3 t3
    rw [e3]; simp only [ob, gV1_s, gI_i]; rw [t3]
    exact fld (o := 2) { r1 with val := x3 } rfl rfl (by omega) ht ⟨_, w3, by omega⟩ n3 o3
  rw [if_neg (by simpa using c2), vcase_b]
  by_cases c3 : x2 = 3
  · rw [if_pos (by simp [c3])]
    have w2' : Src b l (a1 + 1) (h2.new 1 [.str ⟨#[65]⟩, .str ⟨#[97, 98, 99, 100, 101, 102, 103, 104, 105]⟩, .str ⟨#[97, 32, 98]⟩]) := w2.up up_new
    have gs : (h2.new 1 [.str ⟨#[65]⟩, .str ⟨#[97, 98, 99, 100, 101, 102, 103, 104, 105]⟩, .str ⟨#[97, 32, 98]⟩]).g h2.n = .rw 1 [.str ⟨#[65]⟩, .str ⟨#[97, 98, 99, 100, 101, 102, 103, 104, 105]⟩, .str ⟨#[97, 32, 98]⟩] := new_g _ _ _
    have go : ∀ c, c < h2.n → (h2.new 1 [.str ⟨#[65]⟩, .str ⟨#[97, 98, 99, 100, 101, 102, 103, 104, 105]⟩, .str ⟨#[97, 32, 98]⟩]).g c = h2.g c := fun c hc => new_g' (by omega)
    have ng : (h2.new 1 [S.str ⟨#[65]⟩, .str ⟨#[97, 98, 99, 100, 101, 102, 103, 104, 105]⟩, .str ⟨#[97, 32, 98]⟩]).n = h2.n + 1 := new_n _ _ _
    generalize h2.new 1 [S.str ⟨#[65]⟩, .str ⟨#[97, 98, 99, 100, 101, 102, 103, 104, 105]⟩, .str ⟨#[97, 32, 98]⟩] = Y at w2' gs go ng ⊢
    obtain ⟨x3, h3, e3, a3, b3, w3, n3, o3, t3⟩ := r_next w2' hl (by omega) (n := 3) (by omega) (by omega)
    rw [e3]; simp only [ob, gV1_s, gI_i]; rw [t3]
    obtain ⟨i, rfl⟩ : ∃ i : Nat, x3 = i := ⟨x3.toNat, by omega⟩
    have hb2 := w2.n
    have gs3 : h3.g h2.n = .rw 1 (([⟨#[65]⟩, ⟨#[97, 98, 99, 100, 101, 102, 103, 104, 105]⟩, ⟨#[97, 32, 98]⟩] : List ByteArray).map fun t => .str t) := by rw [o3 h2.n (by omega)]; exact gs
    rw [idxK_sv (by omega), ld_str (by omega) gs3 (show i < 3 by omega) rfl]
    simp only [gV1_s, gS_s]
    have hsz : ∀ x ∈ ([⟨#[65]⟩, ⟨#[97, 98, 99, 100, 101, 102, 103, 104, 105]⟩, ⟨#[97, 32, 98]⟩] : List ByteArray), x.size ≤ 9 := by decide +kernel
    have hi := hsz _ (List.getElem_mem (show i < ([⟨#[65]⟩, ⟨#[97, 98, 99, 100, 101, 102, 103, 104, 105]⟩, ⟨#[97, 32, 98]⟩] : List ByteArray).length from by show i < 3; omega))
    exact fld (o := 3) { r1 with text := _ } rfl rfl (by omega) hi ⟨_, w3, by omega⟩ (by omega) (fun c hc hcb => (o3 c hcb).trans (go c hc))
  rw [if_neg (by simpa using c3)]
  exact fin r1 ht ⟨_, w2, by omega⟩ (Nat.le_refl _) g2K g2h kp
end Vm
/-
  What is drawn out of bytes: rows of tables that are told.
-/
namespace Vm
open Go
theorem Dr.trans {b : Nat} {l : List UInt8} {a N M K : Nat} {h h1 h2 : H} (w : Dr b l a N h h1) (w2 : ∀ a', Src b l a' h1 → a' ≤ a + N → Dr b l a' M h1 h2) (hk : N + M ≤ K := by omega) : Dr b l a K h h2 := by
  obtain ⟨a1, s1, l1⟩ := w.ex
  have d := w2 a1 s1 l1
  obtain ⟨a2, s2, l2⟩ := d.ex
  exact ⟨⟨a2, s2, by omega⟩, Nat.le_trans w.n d.n, fun c hc hcb => (d.o c (Nat.lt_of_lt_of_le hc w.n) hcb).trans (w.o c hc hcb)⟩
theorem Dr.weak {b : Nat} {l : List UInt8} {a N M : Nat} {h h1 : H} (w : Dr b l a N h h1) (hk : N ≤ M) : Dr b l a M h h1 := by
  obtain ⟨a1, s1, l1⟩ := w.ex
  exact ⟨⟨a1, s1, by omega⟩, w.n, w.o⟩
/-- rows in a slice of one's own, beside the source -/
structure RwS (b lo : Nat) (v : V) (ks : List RowD) (h : H) : Prop where
  ex : ∃ q, FlS 4 h v (rws ks) q ∧ lo ≤ q ∧ q ≠ b
theorem RwS.up {b lo : Nat} {v : V} {ks : List RowD} {h h' : H} (w : RwS b lo v ks h) (u : Up h h') : RwS b lo v ks h' := by
  obtain ⟨q, w1, w2, w3⟩ := w.ex
  exact ⟨q, w1.keep u.n (u.g q w1.n), w2, w3⟩
theorem RwS.dr {b lo : Nat} {v : V} {ks : List RowD} {h h' : H} {l : List UInt8} {a N : Nat} (w : RwS b lo v ks h) (d : Dr b l a N h h') : RwS b lo v ks h' := by
  obtain ⟨q, w1, w2, w3⟩ := w.ex
  exact ⟨q, w1.keep d.n (d.o q w1.n w3), w2, w3⟩
theorem RwS.tidy {b lo : Nat} {v : V} {ks : List RowD} {h h' : H} {l : List V} (w : RwS b lo v ks h') (hv : v ∈ l) : RwS b lo v ks (Vm.tidy h l h') := by
  unfold Vm.tidy
  split
  · rename_i ht
    obtain ⟨q, w1, w2, w3⟩ := w.ex
    have hb : belV h.n v = true := by
      have := ht.2.1
      rw [List.all_eq_true] at this
      exact this _ hv
    rw [w1.v] at hb
    have hq : q < h.n := by simpa [belV, belS] using hb
    exact ⟨q, ⟨w1.v, hq, by simp only [if_pos hq]; exact w1.g, w1.z⟩, w2, w3⟩
  · exact w
theorem RwS.frz {b lo : Nat} {v : V} {ks : List RowD} {h : H} (w : RwS b lo v ks h) : frzV h v = some (lv (rws ks)) := by
  obtain ⟨q, w1, _⟩ := w.ex
  exact w1.frz (by omega) rws_sc
theorem ins_mem {x r : RowD} {ks : List RowD} (hx : x ∈ insR r ks) : x = r ∨ x ∈ ks := by
  unfold insR at hx
  rw [List.mem_append, List.mem_cons] at hx
  rcases hx with hx | hx | hx
  · exact .inr ((List.takeWhile_sublist _).subset hx)
  · exact .inl hx
  · exact .inr ((List.dropWhile_sublist _).subset hx)
/-- a row is put among those that are there -/
theorem put_rs {b lo : Nat} {v : V} {ks : List RowD} {r : RowD} {h : H} {off : Bool} (w : RwS b lo v ks h) (hlo : lo ≤ h.n) (hb : b < h.n) (hk : ks.length ≤ 1000) :
    ∃ v' h', (∀ (R : Type) (k : V → H → Option R), pcallF (call Ev) Fn.spec_l6Put off [lv (rws ks), .agg r.cs] h k = k v' h') ∧ Up h h' ∧ RwS b lo v' (insR r ks) h' := by
  obtain ⟨y, hp, e1, n1, w1⟩ := f_l6Put (ks := ks) (r := r) (by unfold lim; omega) h.n
  obtain ⟨K, e2, u2, n2, w2⟩ := pV (h := h) (n := h.n) (off := off) rfl e1 n1 w1
  obtain ⟨b2, w3, b3, b4⟩ := w2.now.fl rws_row rws_sc (by
    intro hh
    have := congrArg List.length hh
    rw [rws_len, ins_len] at this; simp at this)
  exact ⟨_, K, e2, u2, b2, w3, by omega, by omega⟩
theorem lp_DrawRows {b lo : Nat} {l : List UInt8} (hl : l.length ≤ 1048576) : ∀ (k : Nat) (a : Nat) (ks : List RowD) (v : V) (h : H), Src b l a h → a + 5 * k < 1099511627000 → RwS b lo v ks h → lo ≤ h.n → ks.length + k ≤ 100 → (∀ r ∈ ks, r.text.size ≤ 9) →
    ∃ v' ks' h', Lp.spec_l6DrawRows 0 [pv b 0, v, iv .i64 k] h = some (.done [v'] h') ∧ RwS b lo v' ks' h' ∧ ks'.length ≤ ks.length + k ∧ (∀ r ∈ ks', r.text.size ≤ 9) ∧ Dr b l a (5 * k) h h' := by
  intro k
  induction k with
  | zero =>
    intro a ks v h w ha wv hlo hk hr
    refine ⟨v, ks, h, ?_, wv, by omega, hr, (Dr.refl w).weak (by omega)⟩
    rw [eq_spec_l6DrawRows_l0, vcase_b, if_neg (by simp), tidy_self]
  | succ k ih =>
    intro a ks v h w ha wv hlo hk hr
    have hb := w.n
    rw [eq_spec_l6DrawRows_l0, vcase_b, if_pos (by simp)]
    rw [w64 (n := ((k + 1 : Nat) : Int) - 1) (by omega) (by omega), show ((k + 1 : Nat) : Int) - 1 = (k : Int) from by omega]
    obtain ⟨r, h1, e1, hr0, d1⟩ := r_draw w hl (by omega)
    rw [e1, ob]
    simp only [gVA_a, gx0, gx1, ob, gI_i, gS_s, ln0, ln1, Nat.zero_add, Nat.reduceAdd, if_true]
    have d1' := d1.tidy hb [V.agg r.cs]
    change ∃ v' ks' h', stK 4 ((tidy h [V.agg r.cs] h1).new 0 z4') (pv (tidy h [V.agg r.cs] h1).n 0) (.agg r.cs) _ = _ ∧ _
    generalize tidy h [V.agg r.cs] h1 = K at d1' ⊢
    rw [stK_X (z := 4) rfl rfl, load1_X (o := 0) (x := .int .i64 r.tab) rfl]
    simp only [ob, gI_i]
    rw [load1_X (o := 1) (x := .int .i64 r.key) rfl]
    simp only [ob, gI_i]
    have xk := putX_keep K z4' r.cs
    have d2 : Dr b l a 5 h (putX K z4' r.cs) := d1'.up ⟨xk.1, fun c hc => (xk.2 c hc).1⟩
    have wX := wv.dr d2
    rw [frzVs_cons wX.frz (frzVs_cons frzV_iv (frzVs_cons frzV_iv frzVs_nil)), ob, norm_nil]
    rw [pc (p_l6At (all := ks) (t := r.tab) (k := r.key) (by unfold maxLen; omega)) rfl]
    simp only [gV1_s, gI_i]
    rw [vcase_b]
    rw [loadN_X (n := 4) (o := 0) (r := r.cs) (by simp) rfl]
    simp only [gVA_a, gx0, gx1, ob, gI_i, gS_s, ln0, ln1, Nat.zero_add, Nat.reduceAdd, if_true]
    by_cases hj : atF r.tab r.key ks 0 < 0
    · rw [if_pos (by simpa using hj)]
      rw [frzVs_cons wX.frz (frzVs_cons (show frzV _ (V.agg [S.int .i64 r.tab, .int .i64 r.key, .int .i64 r.val, .str r.text]) = some (V.agg [S.int .i64 r.tab, .int .i64 r.key, .int .i64 r.val, .str r.text]) from by simp) frzVs_nil), ob, norm_nil]
      obtain ⟨v2, h2, e2, u2, w2⟩ := put_rs (r := r) (off := ([v, V.agg [S.int .i64 r.tab, .int .i64 r.key, .int .i64 r.val, .str r.text]].all offV)) wX (by have := d2.n; omega) (by have := d2.n; omega) (by omega)
      rw [e2]
      have w3 : RwS b lo v2 (insR r ks) (tidy h [pv b 0, v2, iv .i64 k] h2) := w2.tidy (by simp)
      have d3 := (d2.up u2).tidy hb [pv b 0, v2, iv .i64 k]
      obtain ⟨a', s', la⟩ := d3.ex
      obtain ⟨v', ks', h', e4, w4, l4, r4, d4⟩ := ih a' (insR r ks) v2 _ s' (by omega) w3 (by have := d3.n; omega) (by rw [ins_len]; omega) (fun x hx => by
        rcases ins_mem hx with rfl | hx
        · have := rowF_00 hr0; omega
        · exact hr x hx)
      refine ⟨v', ks', h', e4, w4, by rw [ins_len] at l4; omega, r4, ?_⟩
      obtain ⟨a2, s2, la2⟩ := d4.ex
      exact ⟨⟨a2, s2, by omega⟩, Nat.le_trans d3.n d4.n, fun c hc hcb => (d4.o c (Nat.lt_of_lt_of_le hc d3.n) hcb).trans (d3.o c hc hcb)⟩
    · rw [if_neg (by simpa using hj)]
      have d3 := d2.tidy hb [pv b 0, v, iv .i64 k]
      have w3 : RwS b lo v ks (tidy h [pv b 0, v, iv .i64 k] (putX K z4' r.cs)) := wX.tidy (by simp)
      obtain ⟨a', s', la⟩ := d3.ex
      obtain ⟨v', ks', h', e4, w4, l4, r4, d4⟩ := ih a' ks v _ s' (by omega) w3 (by have := d3.n; omega) (by omega) hr
      refine ⟨v', ks', h', e4, w4, by omega, r4, ?_⟩
      obtain ⟨a2, s2, la2⟩ := d4.ex
      exact ⟨⟨a2, s2, by omega⟩, Nat.le_trans d3.n d4.n, fun c hc hcb => (d4.o c (Nat.lt_of_lt_of_le hc d3.n) hcb).trans (d3.o c hc hcb)⟩
theorem r_DrawRows {b : Nat} {l : List UInt8} {a : Nat} {h : H} (w : Src b l a h) (hl : l.length ≤ 1048576) (ha : a + 100 < 1099511627000) :
    ∃ v ks h', call Ev Fn.spec_l6DrawRows [pv b 0] h = some (v, h') ∧ RwS b h.n v ks h' ∧ ks.length ≤ 6 ∧ (∀ r ∈ ks, r.text.size ≤ 9) ∧ Dr b l a 31 h h' := by
  have hb := w.n
  rw [eq_spec_l6DrawRows]
  have w0 : Src b l a (h.new 4 []) := w.up up_new
  obtain ⟨x1, h1, e1, a1, b1, w1, n1, o1, t1⟩ := r_next w0 hl (by omega) (n := 7) (by omega) (by omega)
  rw [e1]; simp only [ob, gV1_s, gI_i]; rw [t1]
  obtain ⟨k, rfl⟩ : ∃ k : Nat, x1 = k := ⟨x1.toNat, by omega⟩
  have f0 : FlS 4 h1 (sv h.n 0 0) (rws []) h.n := (FlS.nil (z := 4) (h := h)).keep (by omega) (o1 h.n (by omega))
  obtain ⟨v, ks, h', e2, w2, l2, r2, d2⟩ := lp_DrawRows (lo := h.n) hl k (a + 1) [] (sv h.n 0 0) h1 w1 (by omega) ⟨h.n, f0, by omega, by omega⟩ (by rw [n1, new_n]; omega) (by simp; omega) (by simp)
  rw [e2, ob, lcase_done]
  simp only [gx0, ob]
  refine ⟨v, ks, h', rfl, w2, by simp at l2; omega, r2, ?_⟩
  obtain ⟨a2, s2, la2⟩ := d2.ex
  have hn : h.n ≤ h1.n := by rw [n1, new_n]; omega
  exact ⟨⟨a2, s2, by omega⟩, Nat.le_trans hn d2.n, fun c hc hcb => by rw [d2.o c (by omega) hcb, o1 c hcb, new_g' (by omega)]⟩
end Vm
/-
  What is drawn out of bytes: rows of tables that are told, and a row that may have a fault.
-/
namespace Vm
open Go
theorem rws_snoc' (rs : List RowD) (r : RowD) : rws (rs ++ [r]) = rws rs ++ [r.cs] := by simp [rws]
def zRow : RowD := ⟨0, 0, 0, ⟨#[]⟩⟩
theorem load1_at {h : H} {b o : Nat} {cs : List S} {x : S} (hb : b < h.n) (hg : h.g b = .rw 0 cs) (hx : cs[o]? = some x) : load1 h (pv b o) = some x := load1_cs (by unfold H.cells; rw [if_pos hb, hg]; rfl) hx
theorem r_BentRows {b : Nat} {l : List UInt8} {a : Nat} {h : H} (w : Src b l a h) (hl : l.length ≤ 1048576) (ha : a + 300 < 1099511627000) :
    ∃ v ks h', call Ev Fn.spec_l6BentRows [pv b 0] h = some (v, h') ∧ RwS b h.n v ks h' ∧ (ks.length ≤ 7 ∨ ks.length = 61) ∧ (∀ r ∈ ks, r.text.size ≤ 9) ∧ Dr b l a 60 h h' := by
  have hb := w.n
  rw [eq_spec_l6BentRows]
  obtain ⟨v, ks, h1, e1, w1, l1, r1, d1⟩ := r_DrawRows w hl (by omega)
  rw [e1, ob]
  dsimp only
  have d1' := d1.tidy hb [v]
  have w1' : RwS b h.n v ks (tidy h [v] h1) := w1.tidy (by simp)
  generalize tidy h [v] h1 = K at d1' w1' ⊢
  obtain ⟨a1, s1, la1⟩ := d1'.ex
  have hK := d1'.n
  obtain ⟨x2, h2, e2, m2, b2, w2, n2, o2, t2⟩ := r_next s1 hl (by omega) (n := 10) (by omega) (by omega)
  rw [e2]; simp only [ob, gV1_s, gI_i]; rw [t2, vcase_b]
  have d2 : Dr b l a 32 h h2 := ⟨⟨_, w2, by omega⟩, by omega, fun c hc hcb => by rw [o2 c hcb, d1'.o c hc hcb]⟩
  have r2 : RwS b h.n v ks h2 := by
    obtain ⟨q, f1, f2, f3⟩ := w1'.ex
    exact ⟨q, f1.keep (by omega) (o2 q f3), f2, f3⟩
  by_cases c0 : x2 = 0
  · rw [if_pos (by simp [c0])]
    obtain ⟨r, h3, e3, hr, d3⟩ := r_lbent w2 hl (by omega)
    rw [e3, ob]
    simp only [gVA_a, gx0, gx1, ob, gI_i, gS_s, ln0, ln1, Nat.zero_add, Nat.reduceAdd, if_true]
    have d3' := d3.tidy w2.n [V.agg r.cs]
    change ∃ v' ks' h', ((appS 4 ((tidy h2 [V.agg r.cs] h3).new 4 r.cs) v (sv (tidy h2 [V.agg r.cs] h3).n 0 1)).bind _) = _ ∧ _
    generalize tidy h2 [V.agg r.cs] h3 = Z at d3' ⊢
    obtain ⟨q, f1, f2, f3⟩ := (r2.dr d3').ex
    have hZ := d3'.n
    have f1' : FlS 4 (Z.new 4 r.cs) v (rws ks) q := f1.keep (by simp) (new_g' (by have := f1.n; omega))
    obtain ⟨v4, h4, e4, w4, n4, k4⟩ := app_fl (z := 4) (y := sv Z.n 0 1) (more := [r.cs]) f1' (by simp) (by simpa using cellsS_row (h := Z) (z := 4) (row := r.cs) rfl) rfl (by omega) (by simp; unfold lim; omega)
    rw [e4, ob]
    rw [← rws_snoc'] at w4
    obtain ⟨a3, s3, la3⟩ := d3'.ex
    have nb := s3.n
    have fn := f1.n
    refine ⟨v4, ks ++ [r], h4, rfl, ⟨_, w4, by simp; omega, by simp; omega⟩, by left; simp; omega, ?_, ⟨⟨a3, ⟨by rw [n4, new_n]; omega, by rw [k4 b (by simp; omega) (Ne.symm f3), new_g' (by omega)]; exact s3.g⟩, by omega⟩, by rw [n4, new_n]; omega, fun c hc hcb => by rw [k4 c (by simp; omega) (by omega), new_g' (by omega), d3'.o c (by omega) hcb, d2.o c hc hcb]⟩⟩
    intro x hx
    rcases List.mem_append.1 hx with hx | hx
    · exact r1 x hx
    · rw [List.mem_singleton] at hx; rw [hx]; exact hr
  rw [if_neg (by simpa using c0), vcase_b]
  by_cases c1 : x2 = 1
  · rw [if_pos (by simp [c1])]
    have e : mkSl 4 [.int .i64 0, .int .i64 0, .int .i64 0, .str ⟨#[]⟩] h2 (iv .i64 61) (iv .i64 61) = some (sv h2.n 0 61, h2.new 4 ((List.replicate 61 zRow.cs).flatten)) := mkSl_of (z := 4) (n := 61) (zero := zRow.cs) (by unfold lim; omega) (by omega) rfl
    rw [e, ob]
    have f : FlS 4 (h2.new 4 ((List.replicate 61 zRow.cs).flatten)) (sv h2.n 0 61) (rws (List.replicate 61 zRow)) h2.n := ⟨by simp, by simp, by rw [new_g]; simp [rws], rws_row⟩
    refine ⟨_, List.replicate 61 zRow, _, rfl, ⟨_, f, d2.n, by have := w2.n; omega⟩, by right; simp, ?_, (d2.weak (by omega)).up up_new⟩
    intro x hx
    rw [List.mem_replicate] at hx
    rw [hx.2]; decide
  rw [if_neg (by simpa using c1)]
  exact ⟨v, ks, h2, rfl, r2, by left; omega, r1, d2.weak (by omega)⟩
end Vm
/-
  What is one's own is not let go; calls with answers of any shape.
-/
namespace Vm
open Go
theorem Rep.stay {h : H} {d n : Nat} {y f : S} {bs : List Nat} (w : Rep h d y f bs) (hb : ∀ b ∈ bs, n ≤ b) (hy : belS n y = true) : bs = [] ∧ ∀ h', Rep h' d y f [] := by
  cases d with
  | zero => obtain ⟨w1, rfl⟩ := w; exact ⟨rfl, fun _ => ⟨w1, rfl⟩⟩
  | succ d =>
    rcases w with ⟨w1, rfl⟩ | ⟨b, z, cs, rows, bss, rfl, rfl, rfl, h1⟩
    · exact ⟨rfl, fun _ => .inl ⟨w1, rfl⟩⟩
    · have := hb b (by simp)
      simp [belS] at hy; omega
theorem RepL.stay {h : H} {d n : Nat} {ys fs : List S} {bs : List Nat} (w : RepL (Rep h d) ys fs bs) (hb : ∀ b ∈ bs, n ≤ b) (hy : ys.all (belS n) = true) : bs = [] ∧ ∀ h', RepL (Rep h' d) ys fs [] := by
  induction w with
  | nil => exact ⟨rfl, fun _ => .nil⟩
  | @cons y f bs ys fs bss h1 h2 ih =>
    rw [List.all_cons, Bool.and_eq_true] at hy
    obtain ⟨rfl, a2⟩ := h1.stay (fun b hb' => hb b (by simp [hb'])) hy.1
    obtain ⟨rfl, b2⟩ := ih (fun b hb' => hb b (by simp [hb'])) hy.2
    exact ⟨rfl, fun h' => RepL.cons (bs := []) (a2 h') (b2 h')⟩
theorem tidy_up {h h' : H} {l : List V} (u : Up h h') : Up h (tidy h l h') := by
  unfold tidy
  split
  · exact ⟨Nat.le_refl _, fun b hb => by simp only [if_pos hb]; exact u.g b hb⟩
  · exact u
theorem own_tidyC {h h' : H} {l : List V} {d lo : Nat} {ys fs : List S} (u : Up h h') (w : OwnC d ys fs lo h'.n h') (hlo : h.n ≤ lo) (hy : .agg ys ∈ l) : Up h (tidy h l h') ∧ OwnC d ys fs lo (tidy h l h').n (tidy h l h') := by
  refine ⟨tidy_up u, ?_⟩
  unfold tidy
  split
  · rename_i ht
    obtain ⟨bs, w1, w2, w3⟩ := w
    have hb : belV h.n (.agg ys) = true := by
      have := ht.2.1
      rw [List.all_eq_true] at this
      exact this _ hy
    obtain ⟨rfl, a⟩ := w1.stay (fun b hb => by have := w3 b hb; omega) hb
    exact ⟨[], a _, by simp, by simp⟩
  · exact w
theorem own_tidy {h h' : H} {l : List V} {d lo : Nat} {y f : S} (u : Up h h') (w : OwnF d y f lo h'.n h') (hlo : h.n ≤ lo) (hy : .s y ∈ l) : Up h (tidy h l h') ∧ OwnF d y f lo (tidy h l h').n (tidy h l h') := by
  refine ⟨tidy_up u, ?_⟩
  unfold tidy
  split
  · rename_i ht
    obtain ⟨bs, w1, w2, w3⟩ := w
    have hb : belV h.n (.s y) = true := by
      have := ht.2.1
      rw [List.all_eq_true] at this
      exact this _ hy
    obtain ⟨rfl, a⟩ := w1.stay (fun b hb => by have := w3 b hb; omega) hb
    exact ⟨[], a _, by simp, by simp⟩
  · exact w
theorem OwnF.len {d lo hi t : Nat} {y : S} {rows : List (List S)} {h : H} (w : OwnF d y (.fs rows) lo hi h) : lenV (.sl t) (.s y) = some (iv .i64 (rows.length : Int)) := by
  obtain ⟨bs, w1, _⟩ := w
  cases d with
  | zero =>
    obtain ⟨⟨h1, h2⟩ | ⟨rfl, h2⟩, _⟩ := w1
    · rw [← h2] at h1; exact h1.elim
    · injection h2 with h2; subst h2; rfl
  | succ d =>
    rcases w1 with ⟨⟨h1, h2⟩ | ⟨rfl, h2⟩, _⟩ | ⟨b, z, cs, rows', bss, rfl, h0, _⟩
    · rw [← h2] at h1; exact h1.elim
    · injection h2 with h2; subst h2; rfl
    · injection h0 with h0; subst h0; rfl
theorem OwnF.up {d lo hi : Nat} {y f : S} {h h' : H} (w : OwnF d y f lo hi h) (u : Up h h') : OwnF d y f lo hi h' := by
  obtain ⟨bs, w1, w2, w3⟩ := w
  exact ⟨bs, w1.frame fun b hb => ⟨by have := w1.lt b hb; have := u.n; omega, u.g b (w1.lt b hb)⟩, w2, w3⟩
theorem OwnF.weak {d lo hi lo' hi' : Nat} {y f : S} {h : H} (w : OwnF d y f lo hi h) (h1 : lo' ≤ lo) (h2 : hi ≤ hi') : OwnF d y f lo' hi' h := by
  obtain ⟨bs, w1, w2, w3⟩ := w
  exact ⟨bs, w1, w2, fun b hb => by have := w3 b hb; omega⟩
theorem HKeep.up {h h' : H} (x : HKeep h h') : Up h h' := ⟨x.1, fun b hb => (x.2 b hb).1⟩
/-- a call with an answer of any shape, in which one value is new -/
theorem pX {cl : Nat → List V → H → Option (V × H)} {g : Nat} {off : Bool} {xs : List V} {h : H} {n d : Nat} {v : V} {y f : S} {h1 : H} (hn : h.n = n) (hc : cl g xs (D n) = some (v, h1)) (hs : scaV v = true) (hle : n ≤ h1.n) (w : OwnF d y f n h1.n h1) :
    ∃ h', (∀ (R : Type) (k : V → H → Option R), pcallF cl g off xs h k = k v h') ∧ Up h h' ∧ n ≤ h'.n ∧ OwnF d y f n h'.n h' := by
  subst hn
  have ov : ∀ h2 : H, h2.n = h1.n → (∀ b, (h1.g b).cells.all scaS = true → h2.g b = h1.g b) → Up h (h.over h2) ∧ h.n ≤ (h.over h2).n ∧ OwnF d y f h.n (h.over h2).n (h.over h2) := fun h2 hn2 hg2 => by
    have hle2 : h.n ≤ h2.n := by omega
    refine ⟨up_over hle2, by rw [over_n hle2]; omega, ?_⟩
    obtain ⟨bs, w1, w2, w3⟩ := w
    rw [over_n hle2, hn2]
    refine ⟨bs, w1.frame fun b hb => ?_, w2, w3⟩
    have := w3 b hb
    exact ⟨by rw [over_n hle2]; omega, by rw [over_ge this.1]; exact hg2 b (w1.scaB b hb)⟩
  cases off with
  | true =>
    obtain ⟨a1, a2, a3⟩ := ov h1 rfl (fun _ _ => rfl)
    refine ⟨h.over h1, fun R k => ?_, a1, a2, a3⟩
    unfold pcallF
    rw [hc, Vm.ob]
    unfold fchk
    rw [if_pos (.inl rfl)]; rfl
  | false =>
    obtain ⟨a1, a2, a3⟩ := ov (scrub h.n h1) rfl (fun b hb => scrub_g hb)
    refine ⟨h.over (scrub h.n h1), fun R k => ?_, a1, a2, a3⟩
    unfold pcallF
    rw [hc, Vm.ob]
    unfold fchk
    rw [if_pos (.inr hs)]; rfl
end Vm
/-
  Rising rows split at a key; a change done to them. (No program in sight.)
-/
namespace Vm
open Go
abbrev twR (k : RowD) (rs : List RowD) : List RowD := rs.takeWhile (befB · k)
abbrev dwR (k : RowD) (rs : List RowD) : List RowD := rs.dropWhile (befB · k)
def fnd (k : RowD) (rs : List RowD) : Bool := match dwR k rs with | [] => false | r :: _ => sameK r k
def hiR (k : RowD) (rs : List RowD) : List RowD := if fnd k rs then (dwR k rs).tail else dwR k rs
theorem td_app (k : RowD) (rs : List RowD) : twR k rs ++ dwR k rs = rs := List.takeWhile_append_dropWhile
theorem td_len (k : RowD) (rs : List RowD) : (twR k rs).length + (dwR k rs).length = rs.length := by
  have := congrArg List.length (td_app k rs); rwa [List.length_append] at this
theorem dw_nb {k : RowD} : ∀ {rs : List RowD}, Ris rs → ∀ x ∈ dwR k rs, befB x k ≠ true
  | r :: rs, h, x, hx => by
    obtain ⟨h1, h2⟩ := List.pairwise_cons.1 h
    cases hb : befB r k with
    | true => rw [show dwR k (r :: rs) = dwR k rs from (tw_pos hb).2] at hx; exact dw_nb h2 x hx
    | false =>
      rw [show dwR k (r :: rs) = r :: rs from (tw_neg hb).2] at hx
      rcases List.mem_cons.1 hx with rfl | hx
      · rw [hb]; simp
      · intro hh
        rw [bef_trans (h1 x hx) hh] at hb; cases hb
theorem fnd_at' {k : RowD} : ∀ {rs : List RowD} (i : Nat), Ris rs → atF k.tab k.key rs i = if fnd k rs then ((i + (twR k rs).length : Nat) : Int) else -1
  | [], i, _ => rfl
  | r :: rs, i, h => by
    obtain ⟨h1, h2⟩ := List.pairwise_cons.1 h
    cases hb : befB r k with
    | true =>
      have e1 : twR k (r :: rs) = r :: twR k rs := (tw_pos hb).1
      have e2 : fnd k (r :: rs) = fnd k rs := by unfold fnd; rw [show dwR k (r :: rs) = dwR k rs from (tw_pos hb).2]
      have hs : ¬ (r.tab = k.tab ∧ r.key = k.key) := fun hh => by have := bef_ns hb; rw [same_iff.2 hh] at this; cases this
      rw [atF, if_neg hs, fnd_at' (i + 1) h2, e1, e2, List.length_cons]
      split
      · omega
      · rfl
    | false =>
      have e1 : twR k (r :: rs) = [] := (tw_neg hb).1
      have e2 : fnd k (r :: rs) = sameK r k := by unfold fnd; rw [show dwR k (r :: rs) = r :: rs from (tw_neg hb).2]
      rw [e1, e2]
      by_cases hs : r.tab = k.tab ∧ r.key = k.key
      · rw [atF, if_pos hs, if_pos (same_iff.2 hs)]; rfl
      · have hk : befB k r = true := by
          by_cases hh : befB k r = true
          · exact hh
          · exact absurd (same_iff.1 (bef_tot (by rw [hb]; simp) hh)) hs
        rw [atF, if_neg hs, if_neg (by rw [same_iff]; exact hs)]
        rcases at_get (x := k) rs (i + 1) with ⟨a, _⟩ | ⟨j, q, a, b, c⟩
        · exact a
        · have hq := bef_trans hk (h1 q (List.mem_of_getElem? a))
          have : getF k rs = none := getF_none fun x hx => bef_sn (bef_trans hk (h1 x hx))
          rw [this] at c; cases c
theorem fnd_row {k : RowD} {rs : List RowD} (h : fnd k rs = true) : ∃ r t, dwR k rs = r :: t ∧ hiR k rs = t ∧ sameK r k = true ∧ rs[(twR k rs).length]? = some r := by
  have h' := h
  unfold fnd at h
  cases hd : dwR k rs with
  | nil => rw [hd] at h; cases h
  | cons r t =>
    rw [hd] at h
    refine ⟨r, t, rfl, by unfold hiR; rw [h', if_pos rfl, hd]; rfl, h, ?_⟩
    have := td_app k rs
    rw [hd] at this
    have e : (twR k rs ++ r :: t)[(twR k rs).length]? = some r := by rw [List.getElem?_append_right (Nat.le_refl _)]; simp
    rw [this] at e; exact e
/-- without the row that stands at a place -/
def erI (a : Int) : Nat → List RowD → List RowD
  | _, [] => []
  | i, r :: rs => if (i : Int) ≠ a then r :: erI a (i + 1) rs else erI a (i + 1) rs
theorem erI_far {a : Int} : ∀ (rs : List RowD) (i : Nat), a < i → erI a i rs = rs
  | [], _, _ => rfl
  | r :: rs, i, h => by rw [erI, if_pos (by omega), erI_far rs (i + 1) (by omega)]
theorem erI_at : ∀ (l : List RowD) (r : RowD) (t : List RowD) (i : Nat), erI ((i + l.length : Nat) : Int) i (l ++ r :: t) = l ++ t
  | [], r, t, i => by rw [List.nil_append, erI, if_neg (by simp), erI_far t (i + 1) (by simp; omega)]; rfl
  | x :: l, r, t, i => by
    rw [List.cons_append, erI, if_pos (by simp; omega), List.length_cons, show i + (l.length + 1) = i + 1 + l.length from by omega, erI_at l r t (i + 1)]; rfl
theorem erI_fnd {k : RowD} {rs : List RowD} (h : Ris rs) : erI (atF k.tab k.key rs 0) 0 rs = twR k rs ++ hiR k rs := by
  rw [fnd_at' 0 h]
  cases hf : fnd k rs with
  | false => rw [if_neg (by simp), erI_far rs 0 (by simp)]; unfold hiR; rw [hf]; simp only [Bool.false_eq_true, if_false]; exact (td_app k rs).symm
  | true =>
    obtain ⟨r, t, e1, e2, e3, e4⟩ := fnd_row hf
    rw [if_pos rfl, e2]
    have := td_app k rs
    rw [e1] at this
    conv => lhs; rw [← this]
    have e5 := erI_at (twR k rs) r t 0
    rw [show (twR k rs ++ r :: t) = rs from this] at e5 ⊢
    exact e5
theorem tw_app {p : RowD → Bool} : ∀ {l m : List RowD}, (∀ x ∈ l, p x = true) → (∀ x ∈ m, p x ≠ true) → (l ++ m).takeWhile p = l ∧ (l ++ m).dropWhile p = m
  | [], [], _, _ => ⟨rfl, rfl⟩
  | [], x :: m, _, h => by
    have := h x (by simp)
    rw [List.nil_append, List.takeWhile_cons, List.dropWhile_cons]; simp [this]
  | x :: l, m, h1, h2 => by
    obtain ⟨i1, i2⟩ := tw_app (p := p) (l := l) (m := m) (fun y hy => h1 y (by simp [hy])) h2
    rw [List.cons_append, List.takeWhile_cons, List.dropWhile_cons, if_pos (h1 x (by simp)), if_pos (h1 x (by simp)), i1, i2]
    exact ⟨rfl, rfl⟩
theorem hi_gt {k : RowD} {rs : List RowD} (h : Ris rs) : ∀ x ∈ hiR k rs, befB k x = true := by
  intro x hx
  have hd := dw_nb (k := k) h
  have hp : Ris (dwR k rs) := by
    have := h; rw [← td_app k rs] at this; exact (List.pairwise_append.1 this).2.1
  unfold hiR at hx
  cases hf : fnd k rs with
  | true =>
    obtain ⟨r, t, e1, e2, e3, e4⟩ := fnd_row hf
    rw [hf, if_pos rfl, e1] at hx
    rw [e1] at hp
    have := (List.pairwise_cons.1 hp).1 x hx
    rw [same_iff] at e3; rw [bef_iff] at *; omega
  | false =>
    rw [hf] at hx
    simp only [Bool.false_eq_true, if_false] at hx
    by_cases hb : befB k x = true
    · exact hb
    exfalso
    have hs := bef_tot (hd x hx) hb
    unfold fnd at hf
    cases hdw : dwR k rs with
    | nil => rw [hdw] at hx; simp at hx
    | cons r t =>
      rw [hdw] at hf hx hp
      rcases List.mem_cons.1 hx with rfl | hx
      · have hf' : sameK x k = false := hf
        rw [hs] at hf'; cases hf'
      · have h1 := (List.pairwise_cons.1 hp).1 x hx
        have h2 := hd r (by rw [hdw]; simp)
        rw [same_iff] at hs; rw [bef_iff] at h1; rw [Ne, bef_iff] at h2; omega
theorem tw_lt {k : RowD} {rs : List RowD} : ∀ x ∈ twR k rs, befB x k = true := fun x hx => tw_all x hx
/-! a change done -/
def doR (rs : List RowD) (c : ChgD) : List RowD := twR c.k rs ++ ((if c.is then [c.a] else []) ++ hiR c.k rs)
def fitR (rs : List RowD) (c : ChgD) : Bool := (fnd c.k rs == c.was) && (!fnd c.k rs || (match dwR c.k rs with | [] => true | r :: _ => eqRowB r c.b))
theorem ris_th {k : RowD} {rs : List RowD} (h : Ris rs) : Ris (twR k rs) ∧ Ris (hiR k rs) := by
  have h' := h
  rw [← td_app k rs] at h'
  obtain ⟨p1, p2, p3⟩ := List.pairwise_append.1 h'
  refine ⟨p1, ?_⟩
  unfold hiR
  split
  · exact List.Pairwise.sublist (List.tail_sublist _) p2
  · exact p2
theorem ris_do {rs : List RowD} {c : ChgD} (h : Ris rs) : Ris (doR rs c) := by
  obtain ⟨p1, p2⟩ := ris_th (k := c.k) h
  have ht := tw_lt (k := c.k) (rs := rs)
  have hh := hi_gt (k := c.k) h
  unfold doR
  refine List.pairwise_append.2 ⟨p1, List.pairwise_append.2 ⟨by split <;> simp, p2, fun a ha b hb => ?_⟩, fun a ha b hb => ?_⟩
  · split at ha
    · rename_i hi
      have : c.k = c.a := by unfold ChgD.k; rw [if_pos hi]
      rw [show a = c.a from by simpa using ha, ← this]; exact hh b hb
    · simp at ha
  · rcases List.mem_append.1 hb with hb | hb
    · split at hb
      · rename_i hi
        have : c.k = c.a := by unfold ChgD.k; rw [if_pos hi]
        rw [show b = c.a from by simpa using hb, ← this]; exact ht a ha
      · simp at hb
    · exact bef_trans (ht a ha) (hh b hb)
theorem ins_do {rs : List RowD} {c : ChgD} (h : Ris rs) (hi : c.is = true) : insR c.a (twR c.k rs ++ hiR c.k rs) = doR rs c := by
  have hk : c.k = c.a := by unfold ChgD.k; rw [if_pos hi]
  have ht := tw_lt (k := c.k) (rs := rs)
  have hh := hi_gt (k := c.k) h
  rw [hk] at ht hh
  obtain ⟨e1, e2⟩ := tw_app (p := (befB · c.a)) (l := twR c.a rs) (m := hiR c.a rs) ht (fun x hx hb => bef_irr (bef_trans hb (hh x hx)))
  unfold insR doR
  rw [hk, e1, e2, hi]; rfl
theorem no_do {rs : List RowD} {c : ChgD} (hi : c.is = false) : twR c.k rs ++ hiR c.k rs = doR rs c := by unfold doR; rw [hi]; rfl
theorem hi_len (k : RowD) (rs : List RowD) : (twR k rs).length + (hiR k rs).length ≤ rs.length := by
  have := td_len k rs
  unfold hiR
  split
  · rw [List.length_tail]; omega
  · omega
theorem do_len (rs : List RowD) (c : ChgD) : (doR rs c).length ≤ rs.length + 1 := by
  have := hi_len c.k rs
  unfold doR
  split <;> simp <;> omega
def apL : List RowD → List ChgD → Int × List RowD
  | rs, [] => if 60 < rs.length then (2, []) else (0, rs)
  | rs, c :: cs => if chgF c = 0 then (if fitR rs c then apL (doR rs c) cs else (8, [])) else (chgF c, [])
def apF (rs : List RowD) (cs : List ChgD) : Int × List RowD := if rowsF rs = 0 then apL rs cs else (rowsF rs, [])
theorem apL_len : ∀ (cs : List ChgD) (rs : List RowD), (apL rs cs).2.length ≤ rs.length + cs.length
  | [], rs => by unfold apL; split <;> simp
  | c :: cs, rs => by
    unfold apL
    split
    · split
      · have := apL_len cs (doR rs c); have := do_len rs c; simp only [List.length_cons]; omega
      · simp
    · simp
theorem apF_len (rs : List RowD) (cs : List ChgD) : (apF rs cs).2.length ≤ rs.length + cs.length := by
  unfold apF
  split
  · exact apL_len cs rs
  · simp
end Vm
/-
  ApplyChanges: both ways.
-/
namespace Vm
open Go
/-! the binary search -/
theorem shr1 {m : Nat} (h : m < 2 ^ 62) : bin Ev .shr 170 (iv .u64 (IntKind.u64.wrap (m : Int))) (iv .u64 1) = some (iv .u64 ((m / 2 : Nat) : Int)) := by
  have w1 : ∀ n : Nat, n < 2 ^ 62 → IntKind.u64.wrap (n : Int) = (n : Int) := fun n hn => by
    simp only [IntKind.wrap, IntKind.signed, IntKind.bits]; simp; omega
  rw [w1 m h]
  simp only [bin]
  rw [if_neg (by omega)]
  have : ((m : Int) * 1).fdiv (2 ^ (min (1 : Int).toNat IntKind.u64.bits)) = ((m / 2 : Nat) : Int) := by
    rw [Int.mul_one, show min (1 : Int).toNat IntKind.u64.bits = 1 from rfl, Int.fdiv_eq_ediv_of_nonneg _ (by omega)]
    omega
  simp only [Int.mul_one] at this
  rw [this]
theorem fnK_fn {R : Type} {g : Nat} {k : Nat → List (Nat × Nat) → Option R} : fnK (.s (.fn g [])) k = k g [] := rfl
theorem psz_order : Ev.psz Fn.impl_order = [] := by kernel_rfl
theorem rt_order : Ev.rt Fn.impl_order = .one (.i .i64) := by kernel_rfl
theorem tw_idx {k : RowD} {rs : List RowD} (h : Ris rs) {i : Nat} {r : RowD} (hr : rs[i]? = some r) : befB r k = true ↔ i < (twR k rs).length := by
  have ha := td_app k rs
  constructor
  · intro hb
    by_cases hi : i < (twR k rs).length
    · exact hi
    · exfalso
      rw [← ha, List.getElem?_append_right (by omega)] at hr
      exact dw_nb h r (List.mem_of_getElem? hr) hb
  · intro hi
    rw [← ha, List.getElem?_append_left hi] at hr
    exact tw_lt r (List.mem_of_getElem? hr)
theorem ord_lt {a b : RowD} : ordI a b < 0 ↔ befB a b = true := by
  unfold ordI
  split
  · rename_i h; simp [h]
  · rename_i h; split <;> simp [h]
theorem p_bs {rs : List RowD} {k : RowD} (h : Ris rs) (hl : rs.length < 2 ^ 60) : pureV (call Ev) Fn.slices_BinarySearchFunc_impl_Row_impl_Row_impl_Row [lv (rws rs), .agg k.cs, .s (.fn Fn.impl_order [])] = some (.tup [.s (.int .i64 (((twR k rs).length : Nat) : Int)), .s (.bool (fnd k rs))]) := by
  have hc0 : ((D 0).new 0 k.cs).cells 0 = k.cs := by unfold H.cells; rw [if_pos (by simp)]; rfl
  have htl := td_len k rs
  have loop : ∀ (f i j : Nat), j - i ≤ f → i ≤ (twR k rs).length → (twR k rs).length ≤ j → j ≤ rs.length →
      Lp.slices_BinarySearchFunc_impl_Row_impl_Row_impl_Row 0 [lv (rws rs), .s (.fn Fn.impl_order []), pv 0 0, iv .i64 (rs.length : Int), iv .i64 i, iv .i64 j] ((D 0).new 0 k.cs) = some (.done [lv (rws rs), .s (.fn Fn.impl_order []), pv 0 0, iv .i64 (rs.length : Int), iv .i64 (((twR k rs).length : Nat) : Int)] ((D 0).new 0 k.cs)) := by
    intro f
    induction f with
    | zero =>
      intro i j hf h1 h2 h3
      have : i = (twR k rs).length := by omega
      subst this
      rw [eq_slices_BinarySearchFunc_impl_Row_impl_Row_impl_Row_l0, vcase_b, if_neg (by simp; omega), tidy_self]
    | succ f ih =>
      intro i j hf h1 h2 h3
      by_cases hij : i < j
      case neg =>
        have : i = (twR k rs).length := by omega
        subst this
        rw [eq_slices_BinarySearchFunc_impl_Row_impl_Row_impl_Row_l0, vcase_b, if_neg (by simp; omega), tidy_self]
      rw [eq_slices_BinarySearchFunc_impl_Row_impl_Row_impl_Row_l0, vcase_b, if_pos (by simp; omega), w64 (n := (i : Int) + (j : Int)) (by omega) (by omega), show (i : Int) + (j : Int) = ((i + j : Nat) : Int) from by omega, shr1 (by omega)]
      simp only [ob, gV1_s, gI_i]
      obtain ⟨r, hr⟩ : ∃ r, rs[(i + j) / 2]? = some r := ⟨_, List.getElem?_eq_getElem (by omega)⟩
      rw [w64 (n := (((i + j) / 2 : Nat) : Int)) (by omega) (by omega), idxF_rw hr, rowN_rw]
      simp only [ob, gx0, gx1, gI_i, gS_s, ln0, ln1, Nat.zero_add, Nat.reduceAdd, if_true]
      rw [ldK_agg rfl (loadN_cs (by simp) hc0 rfl)]
      simp only [gVA_a, ob, gx0, gx1, gI_i, gS_s, ln0, ln1, Nat.zero_add, Nat.reduceAdd, if_true]
      rw [pc (p_order r k) rfl]
      simp only [gV1_s, gI_i, hchk_self, vcase_b, decide_eq_true_eq, tidy_self]
      have hb := tw_idx (k := k) h hr
      by_cases ho : ordI r k < 0
      · have := hb.1 (ord_lt.1 ho)
        rw [if_pos ho, w64 (n := (((i + j) / 2 : Nat) : Int) + 1) (by omega) (by omega), show (((i + j) / 2 : Nat) : Int) + 1 = (((i + j) / 2 + 1 : Nat) : Int) from by omega]
        exact ih _ _ (by omega) (by omega) h2 h3
      · have : ¬ (i + j) / 2 < (twR k rs).length := fun hh => ho (ord_lt.2 (hb.2 hh))
        rw [if_neg ho]
        exact ih _ _ (by omega) h1 (by omega) (by omega)
  rw [pu_slices_BinarySearchFunc_impl_Row_impl_Row_impl_Row, rws_len, show iv .i64 0 = iv .i64 ((0 : Nat) : Int) from rfl, loop rs.length 0 rs.length (by omega) (by omega) (by omega) (by omega), ob, lcase_done]
  simp only [gx0, gx1, ob, gV1_s, gF_f, gI_i, vcase_b, decide_eq_true_eq, hchk_self]
  by_cases hp : (twR k rs).length < rs.length
  case neg =>
    have hd : dwR k rs = [] := List.eq_nil_of_length_eq_zero (by omega)
    have hf : fnd k rs = false := by unfold fnd; rw [hd]
    rw [if_neg (by omega), hf]
  obtain ⟨r, hr⟩ : ∃ r, rs[(twR k rs).length]? = some r := ⟨_, List.getElem?_eq_getElem hp⟩
  have hf : fnd k rs = sameK r k := by
    unfold fnd
    have ha := td_app k rs
    cases hd : dwR k rs with
    | nil => rw [hd] at htl; simp at htl; omega
    | cons q t =>
      rw [hd] at ha
      have : (twR k rs ++ q :: t)[(twR k rs).length]? = some q := by rw [List.getElem?_append_right (Nat.le_refl _)]; simp
      rw [ha, hr] at this
      injection this with this
      rw [this]
  rw [if_pos (by omega), idxF_rw hr, rowN_rw]
  simp only [ob, gx0, gx1, gI_i, gS_s, ln0, ln1, Nat.zero_add, Nat.reduceAdd, if_true]
  rw [ldK_agg rfl (loadN_cs (by simp) hc0 rfl)]
  simp only [gVA_a, ob, gx0, gx1, gI_i, gS_s, ln0, ln1, Nat.zero_add, Nat.reduceAdd, if_true]
  rw [fnK_fn]
  have e1 : ∀ hh : H, frzVs hh ([V.agg [.int .i64 r.tab, .int .i64 r.key, .int .i64 r.val, .str r.text], .agg [.int .i64 k.tab, .int .i64 k.key, .int .i64 k.val, .str k.text]] ++ ([] : List (Nat × Nat)).map fun p => .s (.ptr (some p))) = some [.agg r.cs, .agg k.cs] := fun hh => by simp [frzVs]
  rw [e1, ob, psz_order, norm_nil, pc (p_order r k) rfl, rt_order]
  have e2 : ∀ {q : V → Option V}, Vm.tyV (.one (.i .i64)) (iv .i64 (ordI r k)) q = q (iv .i64 (ordI r k)) := fun {q} => by simp [Vm.tyV, tyS]
  rw [e2]
  simp only [gV1_s, gI_i]
  have e3 : (ordI r k == 0) = fnd k rs := by
    rw [hf]
    have := ordI_0 (a := r) (b := k)
    cases hs : sameK r k
    · rw [hs] at this; simp only [Bool.false_eq_true, iff_false] at this; simpa using this
    · rw [hs] at this; simp only [iff_true] at this; simpa using this
  rw [e3]
/-! the program's parts -/
theorem p_fitsTo {rs : List RowD} {c : ChgD} (h : Ris rs) (hl : rs.length < 2 ^ 60) : pureV (call Ev) Fn.impl_Change_fitsTo [.agg c.cs, lv (rws rs)] = some (bv (fitR rs c)) := by
  rw [pu_impl_Change_fitsTo, pc (p_Change_key c) (by simp)]
  simp only [gVA_a, ob, gx0, gx1, gI_i, gS_s, ln0, ln1, Nat.zero_add, Nat.reduceAdd, if_true]
  rw [pc (p_bs h hl) (by simp)]
  simp only [gVT_t, gA1_s, ob, gx0, gx1, gI_i, gB_b, ln0, ln1, Nat.zero_add, Nat.reduceAdd, if_true, vcase_b]
  unfold fitR
  cases hf : fnd c.k rs with
  | false => cases c.was <;> simp
  | true =>
    obtain ⟨r, t, e1, e2, e3, e4⟩ := fnd_row hf
    rw [e1]
    cases c.was with
    | false => simp
    | true =>
      rw [if_pos (by simp), if_neg (by simp), idxF_rw e4, rowN_rw]
      simp only [ob, gx0, gx1, gI_i, gS_s, ln0, ln1, Nat.zero_add, Nat.reduceAdd, if_true]
      simp [eqRowB]
theorem f_changed {rs : List RowD} {c : ChgD} (h : Ris rs) (hl : rs.length < 2 ^ 30) (n : Nat) : ∃ y h', call Ev Fn.impl_changed [lv (rws rs), .agg c.cs] (D n) = some (.s y, h') ∧ n ≤ h'.n ∧ OwnF 1 y (.fs (rws (doR rs c))) n h'.n h' := by
  have htl := td_len c.k rs
  have g0 : ((D n).new 0 c.cs).g n = .rw 0 c.cs := new_g (D n) _ _
  have c0 : ((D n).new 0 c.cs).cells n = c.cs := by unfold H.cells; rw [if_pos (by simp), g0]; rfl
  rw [eq_impl_changed, D_n, loadN_cs (by simp) c0 (show c.cs.length = 10 from rfl)]
  simp only [ob, gx0, gx1, gI_i, gS_s, gB_b, ln0, ln1, Nat.zero_add, Nat.reduceAdd, if_true]
  rw [pc (p_Change_key c) (by simp)]
  simp only [gVA_a, ob, gx0, gx1, gI_i, gS_s, ln0, ln1, Nat.zero_add, Nat.reduceAdd, if_true]
  rw [pc (p_bs h (by omega)) (by simp)]
  simp only [gVT_t, gA1_s, ob, gx0, gx1, gI_i, gB_b, ln0, ln1, Nat.zero_add, Nat.reduceAdd, if_true, vcase_b]
  have ht : rs.take (twR c.k rs).length = twR c.k rs := by
    exact (tw_dw rs).1
  rw [(slF_rws (by omega)).1, ht]
  obtain ⟨v1, h1, e1, w1, n1, k1⟩ := app_fl (z := 4) (h := ((D n).new 0 c.cs).new 4 []) (y := lv (rws (twR c.k rs))) (more := rws (twR c.k rs)) FlS.nil rws_row (cellsS_lv rws_row) rfl (by omega) (by simp; unfold lim; omega)
  rw [e1, ob]
  have gr : h1.g n = .rw 0 c.cs := by rw [k1 n (by simp; omega) (by simp), new_g' (by simp)]; exact g0
  have cr : h1.cells n = c.cs := by unfold H.cells; rw [if_pos (by rw [n1]; simp; omega), gr]; rfl
  have hn1 : h1.n = n + 3 := by rw [n1]; simp
  rw [load1_cs (o := 5) (x := .bool c.is) cr rfl]
  simp only [ob, gB_b, vcase_b]
  have fin : ∀ (v : V) (K : H) (b : Nat) (pre : List RowD), FlS 4 K v (rws pre) b → n ≤ b → n ≤ K.n → pre.length ≤ rs.length + 1 → pre ++ hiR c.k rs = doR rs c →
      (fnd c.k rs = true → ∃ y h', ((slF 4 (rws rs) (some (iv .i64 (IntKind.i64.wrap (((twR c.k rs).length : Int) + 1)))) none fun z => (appS 4 K v (lv z)).bind fun p => some (p.1, p.2)) = some (V.s y, h')) ∧ n ≤ h'.n ∧ OwnF 1 y (.fs (rws (doR rs c))) n h'.n h') ∧
      (fnd c.k rs = false → ∃ y h', ((slF 4 (rws rs) (some (iv .i64 ((twR c.k rs).length : Int))) none fun z => (appS 4 K v (lv z)).bind fun p => some (p.1, p.2)) = some (V.s y, h')) ∧ n ≤ h'.n ∧ OwnF 1 y (.fs (rws (doR rs c))) n h'.n h') := by
    intro v K b pre w hb hK hpl hpre
    have hh := hi_len c.k rs
    have go : ∃ y h', ((appS 4 K v (lv (rws (hiR c.k rs)))).bind fun p => some (p.1, p.2)) = some (V.s y, h') ∧ n ≤ h'.n ∧ OwnF 1 y (.fs (rws (doR rs c))) n h'.n h' := by
      obtain ⟨v2, h2, e2, w2, n2, k2⟩ := app_fl (z := 4) (y := lv (rws (hiR c.k rs))) (more := rws (hiR c.k rs)) w rws_row (cellsS_lv rws_row) rfl (by omega) (by simp; unfold lim; omega)
      have hr : rws pre ++ rws (hiR c.k rs) = rws (doR rs c) := by rw [← hpre]; simp [rws]
      rw [hr] at w2
      have hv := w2.v
      subst hv
      rw [e2, ob]
      exact ⟨_, h2, rfl, by omega, w2.own (by omega) (by omega) rws_sc⟩
    refine ⟨fun hf => ?_, fun hf => ?_⟩
    · obtain ⟨r, t, d1, d2, d3, d4⟩ := fnd_row hf
      have hlt : (twR c.k rs).length + 1 ≤ rs.length := by rw [d1] at htl; simp at htl; omega
      rw [w64 (by omega) (by omega), show ((twR c.k rs).length : Int) + 1 = (((twR c.k rs).length + 1 : Nat) : Int) from by omega, (slF_rws hlt).2]
      have hd : rs.drop ((twR c.k rs).length + 1) = hiR c.k rs := by
        have h1 : rs.drop (twR c.k rs).length = r :: t := by rw [← d1]; exact (tw_dw rs).2
        rw [d2, ← List.drop_drop, h1]; rfl
      rw [hd]; exact go
    · rw [(slF_rws (by omega)).2]
      have hd : rs.drop (twR c.k rs).length = hiR c.k rs := by
        unfold hiR; rw [hf]; simp only [Bool.false_eq_true, if_false]
        exact (tw_dw rs).2
      rw [hd]; exact go
  cases hi : c.is with
  | true =>
    have la : loadN 4 h1 (pv n 6) = some c.a.cs := by
      simp only [loadN]
      rw [if_pos ⟨by omega, by rw [cr]; simp⟩, cr]; rfl
    rw [if_pos rfl, la]
    simp only [ob, gx0, gx1, gI_i, gS_s, ln0, ln1, Nat.zero_add, Nat.reduceAdd, if_true]
    have w1' : FlS 4 (h1.new 4 c.a.cs) v1 ([] ++ rws (twR c.k rs)) _ := w1.keep (by simp) (new_g' (by have := w1.n; omega))
    obtain ⟨v2, h2, e2, w2, n2, k2⟩ := app_fl (z := 4) (h := h1.new 4 c.a.cs) (y := sv h1.n 0 1) (more := [c.a.cs]) w1' (by simp) (by simpa using cellsS_row (h := h1) (z := 4) (row := c.a.cs) rfl) rfl (by omega) (by simp; unfold lim; omega)
    rw [e2, ob]
    have hr : [] ++ rws (twR c.k rs) ++ [c.a.cs] = rws (twR c.k rs ++ [c.a]) := by simp [rws]
    rw [hr] at w2
    have hpre : (twR c.k rs ++ [c.a]) ++ hiR c.k rs = doR rs c := by unfold doR; rw [hi]; simp
    obtain ⟨f1, f2⟩ := fin v2 h2 _ _ w2 (by rw [new_n]; omega) (by rw [n2, new_n]; omega) (by simp; omega) hpre
    cases hf : fnd c.k rs with
    | true => rw [if_pos rfl]; exact f1 hf
    | false => rw [if_neg (by simp)]; exact f2 hf
  | false =>
    rw [if_neg (by simp)]
    rw [List.nil_append] at w1
    obtain ⟨f1, f2⟩ := fin v1 h1 _ _ w1 (by simp; omega) (by omega) (by omega) (no_do hi)
    cases hf : fnd c.k rs with
    | true => rw [if_pos rfl]; exact f1 hf
    | false => rw [if_neg (by simp)]; exact f2 hf
end Vm
/-
  The tables that rows tell.
-/
namespace Vm
open Go
theorem rws_snoc (rs : List RowD) (r : RowD) : rws (rs ++ [r]) = rws rs ++ [r.cs] := by simp [rws]
end Vm
