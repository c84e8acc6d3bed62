/-
  What both ways of the law come to, and that the law returns true.
-/
import Derived.Test.YtpdoloemacmbaaaDoorTyp
import Derived.Test.YtpdoloemacmbaaaDoorEqs
import Derived.Test.YtpdoloemacmbaaaDoorDl
set_option linter.unusedVariables false
set_option maxRecDepth 100000
set_option linter.unusedSimpArgs false
set_option linter.unusedSectionVars false
set_option maxHeartbeats 1000000
/-
  Numbers between two others.
-/
namespace Vm
open Go
def inB (n a b : Int) : Bool := decide (a ≤ n) && decide (n ≤ b)
theorem inB_iff {n a b : Int} : inB n a b = true ↔ a ≤ n ∧ n ≤ b := by simp [inB]
theorem p_l1In (n a b : Int) : pureV (call Ev) Fn.spec_l1In [iv .i64 n, iv .i64 a, iv .i64 b] = some (bv (inB n a b)) := by
  rw [pu_spec_l1In, vcase_b]
  unfold inB
  split <;> simp_all <;> omega
theorem p_in (n a b : Int) : pureV (call Ev) Fn.impl_in [iv .i64 n, iv .i64 a, iv .i64 b] = some (bv (inB n a b)) := by
  rw [pu_impl_in, vcase_b]
  unfold inB
  split <;> simp_all <;> omega
end Vm
/-
  What the functions on rows come to.
-/
namespace Vm
open Go

structure RowD where
  tab : Int
  key : Int
  val : Int
  text : ByteArray
abbrev RowD.cs (r : RowD) : List S := [.int .i64 r.tab, .int .i64 r.key, .int .i64 r.val, .str r.text]
structure RowD.ok (r : RowD) : Prop where
  t1 : -9223372036854775808 ≤ r.tab
  t2 : r.tab < 9223372036854775808
  k1 : -9223372036854775808 ≤ r.key
  k2 : r.key < 9223372036854775808
  v1 : -9223372036854775808 ≤ r.val
  v2 : r.val < 9223372036854775808
  s : r.text.size ≤ maxLen
/-! the faults of a row -/
def low (c : UInt8) : Bool := decide (97 ≤ (c.toNat : Int)) && decide ((c.toNat : Int) ≤ 122)
def allLow (s : ByteArray) (i : Nat) : Bool := (s.data.toList.drop i).all low
def rowF (r : RowD) : Int := if inB r.tab 0 3 && inB r.key 1 99 && inB r.val 0 999 then (if decide (r.text.size ≤ 8) && allLow r.text 0 then 0 else 5) else 3
theorem allLow_step {s : ByteArray} {i : Nat} (h : i < s.size) : allLow s i = (low (s.get! i) && allLow s (i + 1)) := by
  unfold allLow; rw [str_drop h]; rfl
theorem allLow_end {s : ByteArray} {i : Nat} (h : s.size ≤ i) : allLow s i = true := by
  unfold allLow; rw [str_drop_all h]; rfl
theorem lp_l1Text (s : ByteArray) (hs : s.size ≤ maxLen) (h : H) : ∀ k i : Nat, i + k = s.size → Lp.spec_l1Text 0 [.s (.str s), iv .i64 i] h = some (if allLow s i then .done [.s (.str s)] h else .ret (bv false) h) := by
  unfold maxLen at hs
  intro k
  induction k with
  | zero =>
    intro i hi
    rw [eq_spec_l1Text_l0, vcase_b, if_neg (by simp; omega), allLow_end (by omega)]; simp
  | succ k ih =>
    intro i hi
    rw [eq_spec_l1Text_l0, vcase_b, if_pos (by simp; omega), idxStr_of (by omega) (by omega), allLow_step (by omega), w64 (by omega) (by omega), show (i : Int) + 1 = ((i + 1 : Nat) : Int) from by omega, tidy_self, ih (i + 1) (by omega)]
    have e : sby s i = ((s.get! i).toNat : Int) := by simp [sby]
    simp only [Option.bind_some, gV1_s, gI_i, vcase_b, e, decide_eq_true_eq, low, Bool.and_eq_true]
    split
    · rw [if_neg (by omega)]
    · split
      · rw [if_neg (by omega)]
      · simp only [show (97 ≤ ((s.get! i).toNat : Int)) from by omega, show ((s.get! i).toNat : Int) ≤ 122 from by omega, true_and]
theorem p_l1Text (s : ByteArray) (hs : s.size ≤ maxLen) : pureV (call Ev) Fn.spec_l1Text [.s (.str s)] = some (bv (decide (s.size ≤ 8) && allLow s 0)) := by
  rw [pu_spec_l1Text, show iv .i64 0 = iv .i64 ((0 : Nat) : Int) from rfl, lp_l1Text s hs _ s.size 0 (by omega)]
  cases allLow s 0 <;> simp <;> omega
theorem p_l1Fault (r : RowD) (hs : r.text.size ≤ maxLen) : pureV (call Ev) Fn.spec_l1Fault [fv r.cs 0] = some (iv .i64 (rowF r)) := by
  rw [pu_spec_l1Fault]
  simp only [pcallS, p_l1In, p_l1Text _ hs, Option.bind_some, sca_v, sca_b, cond_true, gV1_s, gB_b, vcase_b]
  unfold rowF
  cases inB r.tab 0 3 <;> cases inB r.key 1 99 <;> cases inB r.val 0 999 <;> cases (decide (r.text.size ≤ 8) && allLow r.text 0) <;> simp
theorem lp_RowFault (r : RowD) (hs : r.text.size ≤ maxLen) (h : H) (p : Nat) (hp : h.cells p = r.cs) : ∀ k i : Nat, i + k = r.text.size → Lp.impl_RowFault 0 [pv p 0, iv .i64 (r.text.size : Int), iv .i64 i] h = some (if allLow r.text i then .done [] h else .ret (iv .i64 5) h) := by
  unfold maxLen at hs
  intro k
  have ld : ∀ (q : V → Option LOut), ldK (.one (.s)) ⟨1, 16, [.str ⟨#[]⟩], false, .str, false⟩ h (pv p (0 + 3)) q = q (.s (.str r.text)) := by
    intro q; simp [ldK, ldT, load1, hp]
  have pa : padd 3 (pv p 0) = some (pv p (0 + 3)) := rfl
  induction k with
  | zero =>
    intro i hi
    rw [eq_impl_RowFault_l0, vcase_b, if_neg (by simp; omega), allLow_end (by omega)]; simp
  | succ k ih =>
    intro i hi
    rw [eq_impl_RowFault_l0, vcase_b, if_pos (by simp; omega), allLow_step (by omega), w64 (by omega) (by omega), show (i : Int) + 1 = ((i + 1 : Nat) : Int) from by omega, tidy_self, ih (i + 1) (by omega)]
    have e : sby r.text i = ((r.text.get! i).toNat : Int) := by simp [sby]
    simp only [pa, Option.bind_some, ld, gV1_s, gS_s]
    rw [idxStr_of (by omega) (by omega)]
    simp only [Option.bind_some, gV1_s, gI_i, vcase_b, e, decide_eq_true_eq, low, Bool.and_eq_true]
    split
    · rw [if_neg (by omega)]
    · split
      · rw [if_neg (by omega)]
      · simp only [show (97 ≤ ((r.text.get! i).toNat : Int)) from by omega, show ((r.text.get! i).toNat : Int) ≤ 122 from by omega, true_and]
theorem p_RowFault (r : RowD) (hs : r.text.size ≤ maxLen) : pureV (call Ev) Fn.impl_RowFault [.agg r.cs] = some (iv .i64 (rowF r)) := by
  have hl := lp_RowFault r hs ((D 0).new 0 r.cs) 0 (by simp [H.cells, H.new, D, Blk.cells]) r.text.size 0 (by omega)
  rw [pu_impl_RowFault]
  simp only [pcallS, p_in, Option.bind_some, sca_v, sca_b, cond_true, gV1_s, gB_b, vcase_b]
  rw [show iv .i64 0 = iv .i64 ((0 : Nat) : Int) from rfl, hl]
  unfold rowF
  cases inB r.tab 0 3 <;> cases inB r.key 1 99 <;> cases inB r.val 0 999 <;> simp
  by_cases h8 : r.text.size ≤ 8
  · rw [if_neg (by omega)]
    cases allLow r.text 0 <;> simp [h8]
  · rw [if_pos (by omega)]; simp [h8]
def befB (a b : RowD) : Bool := decide (a.tab < b.tab) || (decide (a.tab = b.tab) && decide (a.key < b.key))
end Vm
/-
  A row that came in, its size and its copy.
-/
namespace Vm
open Go

end Vm
/-
  Loops that fill a new slice, and what is frozen of it.
-/
namespace Vm
open Go

@[simp] theorem tidy_put {h : H} {l : List V} {b : Nat} {x : Blk} (hb : b < h.n) : tidy h l (h.put b x) = h.put b x := by
  unfold tidy
  split
  · obtain ⟨n, g, v⟩ := h
    simp only [H.put, H.mk.injEq, true_and]
    constructor <;> (funext c; split <;> first | rfl | (rename_i hc; rw [if_neg (by intro e; subst e; exact hc hb)]))
  · rfl
/-- a value that fills a row -/
def VRow (v : V) (r : List S) : Prop := (∃ x, v = .s x ∧ r = [x] ∧ isNo x = false) ∨ v = .agg r
theorem stK_rw {R : Type} {z e o b : Nat} {h : H} {cs r : List S} {v : V} {k : H → Option R} (hb : b < h.n) (hg : h.g b = .rw e cs) (hv : VRow v r) (hr : r.length = z) (ho : o + z ≤ cs.length) :
    stK z h (pv b o) v k = k (h.put b (.rw e (setAt cs o r))) := by
  rcases hv with ⟨x, rfl, rfl, hx⟩ | rfl
  · simp only [List.length_cons, List.length_nil, Nat.zero_add] at hr
    subst hr
    simp only [stK, if_true, put1K, if_pos hb, hg]
    rw [if_pos (by omega), hx]
    have : cs.set o x = setAt cs o [x] := by
      unfold setAt
      rw [List.set_eq_take_append_cons_drop, if_pos (by omega)]
      simp
    rw [this]; rfl
  · simp only [stK, putNK]
    rw [if_pos ⟨hb, hr⟩, hg]
    simp only
    rw [if_pos ho]
theorem idxK_sv {R : Type} {z b n i : Nat} {kd : IntKind} {f : V → Option R} (hi : i < n) : idxK z (sv b 0 n) (iv kd (i : Int)) f = f (pv b (i * z)) := by
  simp only [idxK, idxS]
  rw [if_pos ⟨by omega, by omega⟩]
  simp
/-- a cell that is frozen as it stands -/
def Cl (s : S) : Prop := ∀ (h : H) (d : Nat), frzS h d s = some s
theorem cl_i {k : IntKind} {n : Int} : Cl (.int k n) := fun _ _ => frz_i
theorem cl_b {n : Bool} : Cl (.bool n) := fun _ _ => frz_b
theorem cl_s {n : ByteArray} : Cl (.str n) := fun _ _ => frz_s
theorem mapO_cl {h : H} {d : Nat} : ∀ {l : List S}, (∀ s ∈ l, Cl s) → mapO (frzS h d) l = some l
  | [], _ => rfl
  | s :: l, hl => by
    have h2 : mapO (frzS h d) l = some l := mapO_cl fun s hs => hl s (List.mem_cons_of_mem _ hs)
    simp [mapO, hl s (by simp) h d, h2]
theorem flat_len {z : Nat} : ∀ {rows : List (List S)}, (∀ r ∈ rows, r.length = z) → rows.flatten.length = rows.length * z
  | [], _ => by simp
  | r :: rows, h => by
    rw [List.flatten_cons, List.length_append, h r (by simp), flat_len fun r hr => h r (by simp [hr]), List.length_cons, Nat.succ_mul]; omega
theorem chunk_rows {z : Nat} : ∀ {rows : List (List S)}, (∀ r ∈ rows, r.length = z) → chunk z rows.length rows.flatten = rows
  | [], _ => rfl
  | r :: rows, h => by
    have hr := h r (by simp)
    have ih := chunk_rows (rows := rows) fun r hr => h r (by simp [hr])
    unfold chunk at ih ⊢
    rw [List.length_cons, List.range_succ_eq_map, List.map_cons, List.map_map]
    congr 1
    · simp [← hr]
    · conv => rhs; rw [← ih]
      refine List.map_congr_left fun i _ => ?_
      simp only [Function.comp_apply, List.flatten_cons]
      rw [Nat.succ_mul, Nat.add_comm, ← List.drop_drop, ← hr, List.drop_left]
theorem frzS_sl {h : H} {b z d : Nat} {rows : List (List S)} (hb : b < h.n) (hz0 : 0 < z) (hg : h.g b = .rw z rows.flatten) (hz : ∀ r ∈ rows, r.length = z) (hc : ∀ r ∈ rows, ∀ s ∈ r, Cl s) : frzS h (d + 1) (.sl (some (b, 0)) rows.length) = some (.fs rows) := by
  simp only [frzS]
  split
  · rename_i h0; rw [List.eq_nil_of_length_eq_zero h0]
  · have hl := flat_len hz
    simp only [hb, if_true, hg]
    rw [if_pos ⟨hz0, by omega⟩, List.drop_zero, List.take_of_length_le (by omega), mapO_cl (fun s hs => by
      obtain ⟨r, h1, h2⟩ := List.mem_flatten.1 hs
      exact hc r h1 s h2)]
    simp [chunk_rows hz]
theorem frzV_sv {h : H} {b z : Nat} {rows : List (List S)} (hb : b < h.n) (hz0 : 0 < z) (hg : h.g b = .rw z rows.flatten) (hz : ∀ r ∈ rows, r.length = z) (hc : ∀ r ∈ rows, ∀ s ∈ r, Cl s) : frzV h (sv b 0 rows.length) = some (lv rows) := by
  rw [frzV_s, frzS_sl hb hz0 hg hz hc]; rfl
theorem mkSl_of {z n : Nat} {zero : List S} {h : H} (hn : n ≤ lim) (hz0 : 0 < z) (hz : zero.length = z) {k1 k2 : IntKind} : mkSl z zero h (iv k1 (n : Int)) (iv k2 (n : Int)) = some (sv h.n 0 n, h.new z ((List.replicate n zero).flatten)) := by
  simp only [mkSl]
  rw [if_pos ⟨by omega, trivial, by omega, hz0, hz⟩]
  simp
end Vm
/-
  Bytes: as frozen slices, and as slices that are one's own.
-/
namespace Vm
open Go

def cell8 (c : UInt8) : S := .int .u8 c.toNat
/-- bytes as rows -/
def bys (l : List UInt8) : List (List S) := l.map fun c => [cell8 c]
/-- the byte at a place, as a number -/
def bt (l : List UInt8) (i : Int) : Int := ((l.getD i.toNat 0).toNat : Int)
theorem bt_nn (l : List UInt8) (i : Int) : 0 ≤ bt l i := by unfold bt; omega
theorem bt_lt (l : List UInt8) (i : Int) : bt l i < 256 := by
  unfold bt
  have := (l.getD i.toNat 0).toNat_lt
  omega
@[simp] theorem bys_len (l : List UInt8) : (bys l).length = l.length := by simp [bys]
theorem bys_row {l : List UInt8} : ∀ r ∈ bys l, r.length = 1 := by
  intro r hr
  obtain ⟨c, _, rfl⟩ := List.mem_map.1 hr
  rfl
theorem bys_cl {l : List UInt8} : ∀ r ∈ bys l, ∀ s ∈ r, Cl s := by
  intro r hr s hs
  obtain ⟨c, _, rfl⟩ := List.mem_map.1 hr
  rw [List.mem_singleton.1 hs]
  exact cl_i
theorem bys_flat (l : List UInt8) : (bys l).flatten = l.map cell8 := by
  induction l with
  | nil => rfl
  | cons c l ih => simp only [bys, List.map_cons, List.flatten_cons, List.singleton_append] at ih ⊢; rw [ih]
theorem bys_get {l : List UInt8} {i : Nat} (h : i < l.length) : (bys l)[i]? = some [.int .u8 (bt l i)] := by
  simp [bys, h, cell8, bt]
section
variable {R : Type}
/-- reading a byte -/
theorem idxF_by {l : List UInt8} {i : Int} {k : List S → Option R} (h0 : 0 ≤ i) (h1 : i < l.length) : idxF 1 (bys l) i k = k [.int .u8 (bt l i)] := by
  obtain ⟨n, rfl⟩ : ∃ n : Nat, i = n := ⟨i.toNat, by omega⟩
  exact idxF_at (bys_get (by omega)) rfl
theorem bnd_of {y n : Nat} {kd : IntKind} (h : n ≤ y) : bnd y (iv kd (n : Int)) = some n := by
  simp only [bnd]; rw [if_pos ⟨by omega, by omega⟩]; simp
end
theorem bytesS_map (l : List UInt8) : bytesS (l.map cell8) = some l := by
  induction l with
  | nil => rfl
  | cons c l ih =>
    have := c.toNat_lt
    simp only [List.map_cons, cell8, bytesS] at ih ⊢
    rw [ih, Option.bind_some, if_pos ⟨by omega, by omega⟩]
    simp
/-- a slice that holds all of a block's bytes, and may be written -/
structure BysW (h : H) (v : V) (l : List UInt8) (b : Nat) : Prop where
  v : v = sv b 0 l.length
  n : b < h.n
  g : h.g b = .rw 1 (l.map cell8)
theorem BysW.frz {h : H} {v : V} {l : List UInt8} {b d : Nat} (w : BysW h v l b) : v = sv b 0 l.length ∧ frzS h (d + 1) (.sl (some (b, 0)) l.length) = some (.fs (bys l)) := by
  refine ⟨w.v, ?_⟩
  have := frzS_sl (h := h) (b := b) (z := 1) (d := d) (rows := bys l) w.n (by omega) (by rw [bys_flat]; exact w.g) bys_row bys_cl
  rwa [bys_len] at this
/-- bytes that are one's own: none at all, or a block -/
def Own (h : H) (v : V) (l : List UInt8) : Option Nat → Prop
  | none => v = .s (.sl none 0) ∧ l = []
  | some b => BysW h v l b
theorem Own.frz {h : H} {v : V} {l : List UInt8} {ob : Option Nat} {d : Nat} (w : Own h v l ob) : ∃ s, v = .s s ∧ frzS h (d + 1) s = some (.fs (bys l)) := by
  cases ob with
  | none => obtain ⟨rfl, rfl⟩ := w; exact ⟨_, rfl, frz_n⟩
  | some b => obtain ⟨h1, h2⟩ := BysW.frz (d := d) w; exact ⟨_, h1, h2⟩
theorem BysW.set {R : Type} {h : H} {n : Nat} {l : List UInt8} {b i : Nat} {c : UInt8} {x : Int} {k : H → Option R} (w : BysW h (sv b 0 n) l b) (hi : i < l.length) (hx : x = (c.toNat : Int)) : stK 1 h (pv b (i * 1)) (iv .u8 x) k = k (h.put b (.rw 1 ((l.set i c).map cell8))) := by
  subst hx
  rw [stK_rw (z := 1) (e := 1) (o := i * 1) (v := iv .u8 c.toNat) (cs := l.map cell8) (r := [cell8 c]) w.n w.g (.inl ⟨_, rfl, rfl, rfl⟩) rfl (by simp; omega)]
  congr 3
  unfold setAt
  rw [List.map_set, List.set_eq_take_append_cons_drop, if_pos (by simp; omega)]
  simp
theorem BysW.len {h : H} {n : Nat} {l : List UInt8} {b : Nat} (w : BysW h (sv b 0 n) l b) : n = l.length := by
  have := w.v
  injection this with h1
  injection h1
end Vm
/-
  Calls with an answer that is new, and what is one's own of it.
-/
namespace Vm
open Go

theorem over_n {h h1 : H} (hn : h.n ≤ h1.n) : (h.over h1).n = h1.n := by simp only [H.over]; omega
theorem over_lt {h h1 : H} {b : Nat} (hb : b < h.n) : (h.over h1).g b = h.g b ∧ (h.over h1).v b = h.v b := by simp [H.over, hb]
theorem over_ge {h h1 : H} {b : Nat} (hb : h.n ≤ b) : (h.over h1).g b = h1.g b := by simp only [H.over]; rw [if_neg (by omega)]
/-- a heap with what was there, and more -/
structure Up (h h' : H) : Prop where
  n : h.n ≤ h'.n
  g : ∀ b, b < h.n → h'.g b = h.g b
theorem Up.refl (h : H) : Up h h := ⟨Nat.le_refl _, fun _ _ => rfl⟩
theorem Up.trans {a b c : H} (x : Up a b) (y : Up b c) : Up a c := ⟨Nat.le_trans x.n y.n, fun i hi => (y.g i (Nat.lt_of_lt_of_le hi x.n)).trans (x.g i hi)⟩
theorem up_over {h h1 : H} (hn : h.n ≤ h1.n) : Up h (h.over h1) := ⟨by rw [over_n hn]; exact hn, fun b hb => (over_lt hb).1⟩
theorem up_new {h : H} {e : Nat} {cs : List S} : Up h (h.new e cs) := ⟨by simp, fun b hb => new_g' (by omega)⟩
theorem Own.up {h h' : H} (u : Up h h') {v : V} {l : List UInt8} {ob : Option Nat} (x : Own h v l ob) : Own h' v l ob := by
  cases ob with
  | none => exact x
  | some b => exact ⟨x.v, Nat.lt_of_lt_of_le x.n u.n, by rw [u.g b x.n]; exact x.g⟩
/-- all but one block as it was -/
structure But (b : Option Nat) (h h' : H) : Prop where
  n : h'.n = h.n
  g : ∀ c, b ≠ some c → h'.g c = h.g c
/-- cells that lead nowhere, once they are frozen -/
theorem nofz_of {n : Nat} {v : V} {h : H} (h1 : scaV v = true) (h2 : ∀ b, n ≤ b → b < h.n → ∀ s ∈ (h.g b).cells, scaS s = true) : NoFz n (v, h) := ⟨h1, h2⟩
theorem loadN_rw {n e b o : Nat} {h : H} {cs : List S} (hb : b < h.n) (hg : h.g b = .rw e cs) (ho : o + n ≤ cs.length) : loadN n h (pv b o) = some ((cs.drop o).take n) := by
  simp only [loadN, H.cells, hb, if_true, hg, Blk.cells, true_and]
  rw [if_pos ho]
theorem loadN_2 {e b : Nat} {h : H} {x y : S} (hb : b < h.n) (hg : h.g b = .rw e [x, y]) : loadN 2 h (pv b 0) = some [x, y] := loadN_rw hb hg (by simp)
theorem frz1 {h : H} {v : V} {l : List UInt8} {ob : Option Nat} (w : Own h v l ob) : frzV h v = some (lv (bys l)) := by
  obtain ⟨s, rfl, h2⟩ := w.frz (d := 7)
  simp [h2]
theorem frzVs_nil {h : H} : frzVs h [] = some [] := id rfl
theorem frzVs_cons {h : H} {v w : V} {vs ws : List V} (h1 : frzV h v = some w) (h2 : frzVs h vs = some ws) : frzVs h (v :: vs) = some (w :: ws) := by simp [frzVs, h1, h2]
theorem frzV_iv {h : H} {k : IntKind} {n : Int} : frzV h (iv k n) = some (iv k n) := by simp
theorem norm_nil {l : List V} : normVs [] l = l := by cases l <;> rfl
/-- what a function that answers with new bytes comes to: on a heap of which nothing is left -/
structure NewB (n : Nat) (h : H) (v : V) (l : List UInt8) (ob : Option Nat) : Prop where
  own : Own h v l ob
  le : n ≤ h.n
  new : ∀ b, ob = some b → n ≤ b
  z : ∀ b, n ≤ b → b < h.n → ∀ s ∈ (h.g b).cells, scaS s = true
theorem Own.sca {h : H} {y : S} {l : List UInt8} {ob : Option Nat} (w : Own h (.s y) l ob) : scaS y = true := by
  cases ob with
  | none => obtain ⟨h1, _⟩ := w; cases h1; rfl
  | some b => have := w.v; cases this; rfl
end Vm
/-
  Slices of rows: their size, a copy, a comparison, their fault.
-/
namespace Vm
open Go
def rws (rs : List RowD) : List (List S) := rs.map RowD.cs
@[simp] theorem rws_len (rs : List RowD) : (rws rs).length = rs.length := by simp [rws]
theorem rws_row {rs : List RowD} : ∀ r ∈ rws rs, r.length = 4 := by
  intro r hr
  obtain ⟨c, _, rfl⟩ := List.mem_map.1 hr
  rfl
theorem row_cl {r : RowD} : ∀ s ∈ r.cs, Cl s := by
  intro s hs
  simp only [List.mem_cons, List.not_mem_nil, or_false] at hs
  rcases hs with rfl | rfl | rfl | rfl
  · exact cl_i
  · exact cl_i
  · exact cl_i
  · exact cl_s
theorem rws_get {rs : List RowD} {i : Nat} {r : RowD} (h : rs[i]? = some r) : (rws rs)[i]? = some r.cs := by simp [rws, h]
section
variable {R : Type}
theorem idxF_rw {rs : List RowD} {i : Nat} {r : RowD} {k : List S → Option R} (h : rs[i]? = some r) : idxF 4 (rws rs) (i : Int) k = k r.cs := idxF_at (rws_get h) rfl
end
theorem rowN_rw {r : RowD} : rowN 4 r.cs 0 = some r.cs := rowN_all rfl
theorem normV_rw {r : RowD} : normV 4 (fv r.cs 0) = fv r.cs 0 := rfl
/-! size -/
/-! a copy -/
structure NewRw (n : Nat) (h : H) (v : V) (rs : List RowD) : Prop where
  v : v = sv n 0 rs.length
  g : h.g n = .rw 4 (rws rs).flatten
  le : h.n = n + 1
/-! a comparison -/
/-! the fault of rows -/
def rowsFrom : Option RowD → List RowD → Int
  | _, [] => 0
  | p, r :: rs => if rowF r = 0 then (if (match p with | none => false | some q => !befB q r) then 1 else rowsFrom (some r) rs) else rowF r
def rowsF (rs : List RowD) : Int := if 60 < rs.length then 2 else rowsFrom none rs
/-- the row before -/
def lastOf (all : List RowD) (i : Nat) : Option RowD := if i = 0 then none else all[i - 1]?
theorem p_l1Before (a b : RowD) : pureV (call Ev) Fn.spec_l1Before [fv a.cs 0, fv b.cs 0] = some (bv (befB a b)) := by
  rw [pu_spec_l1Before]; unfold befB
  simp only [vcase_b, decide_eq_true_eq, beq_iff_eq]
  split
  · rename_i h; simp [h]
  · rename_i h
    split
    · rename_i h2; simp [h2]
    · rename_i h2; simp [h, h2]
theorem p_IsBefore (a b : RowD) : pureV (call Ev) Fn.impl_IsBefore [.agg a.cs, .agg b.cs] = some (bv (befB a b)) := by
  rw [pu_impl_IsBefore]; unfold befB
  simp only [vcase_b, decide_eq_true_eq, beq_iff_eq]
  split
  · rename_i h; simp [h]
  · rename_i h
    split
    · rename_i h2; simp [h2]
    · rename_i h2; simp [h, h2]
/-- what a loop over rows ends with -/
def outI (x : Int) (h : H) : LOut := if x = 0 then .done [] h else .ret (iv .i64 x) h
theorem outI_n {x : Int} (hx : x ≠ 0) (h : H) : outI x h = .ret (iv .i64 x) h := if_neg hx
theorem rowsFrom_n {p : Option RowD} {r : RowD} {rs : List RowD} (h : rowF r ≠ 0) : rowsFrom p (r :: rs) = rowF r := by simp [rowsFrom, h]
theorem rowsFrom_0 {r : RowD} {rs : List RowD} (h : rowF r = 0) : rowsFrom none (r :: rs) = rowsFrom (some r) rs := by simp [rowsFrom, h]
theorem rowsFrom_1 {q r : RowD} {rs : List RowD} (h : rowF r = 0) (hb : befB q r = false) : rowsFrom (some q) (r :: rs) = 1 := by simp [rowsFrom, h, hb]
theorem rowsFrom_2 {q r : RowD} {rs : List RowD} (h : rowF r = 0) (hb : befB q r = true) : rowsFrom (some q) (r :: rs) = rowsFrom (some r) rs := by simp [rowsFrom, h, hb]
theorem lastOf_0 {all : List RowD} : lastOf all 0 = none := rfl
theorem lastOf_s {all : List RowD} {i : Nat} {r : RowD} (h : all[i]? = some r) : lastOf all (i + 1) = some r := by simp [lastOf, h]
theorem p_l6Rows {all : List RowD} (hs : ∀ r ∈ all, r.text.size ≤ maxLen) (hl : all.length ≤ maxLen) : pureV (call Ev) Fn.spec_l6Rows [lv (rws all)] = some (iv .i64 (rowsF all)) := by
  unfold maxLen at hl
  have loop : ∀ (rs : List RowD) (i : Nat), all.drop i = rs → Lp.spec_l6Rows 0 [lv (rws all), iv .i64 i] (D 0) = some (outI (rowsFrom (lastOf all i) rs) (D 0)) := by
    intro rs
    induction rs with
    | nil =>
      intro i hi
      have := drop_nil hi
      rw [eq_spec_l6Rows_l0, vcase_b, if_neg (by simp; omega), tidy_self]; rfl
    | cons r rs ih =>
      intro i hi
      obtain ⟨g1, g2, g3⟩ := drop_cons hi
      have hz := hs r (List.mem_of_getElem? g1)
      have ih' := ih (i + 1) g2
      rw [lastOf_s g1] at ih'
      rw [eq_spec_l6Rows_l0, vcase_b, if_pos (by simp; omega), idxF_rw g1, normV_rw, pc (p_l1Fault r hz) rfl]
      simp only [gV1_s, gI_i, vcase_b, bne_iff_ne, ne_eq, decide_eq_true_eq]
      by_cases h0 : rowF r = 0
      · rw [if_neg (by simp [h0])]
        by_cases hi0 : i = 0
        · subst hi0
          rw [if_neg (by omega), hchk_self, tidy_self, w64 (by omega) (by omega), lastOf_0, rowsFrom_0 h0]
          exact ih'
        · obtain ⟨p, hp⟩ : ∃ p, all[i - 1]? = some p := ⟨_, List.getElem?_eq_getElem (by omega)⟩
          rw [if_pos (by omega), w64 (n := (i : Int) - 1) (by omega) (by omega), show (i : Int) - 1 = ((i - 1 : Nat) : Int) from by omega, idxF_rw hp, idxF_rw g1, normV_rw, normV_rw, pc (p_l1Before p r) rfl,
            show lastOf all i = some p from by rw [← lastOf_s hp, Nat.sub_add_cancel (by omega)]]
          simp only [gV1_s, gB_b, hchk_self, vcase_b]
          cases hb : befB p r
          · rw [rowsFrom_1 h0 hb]; rfl
          · rw [rowsFrom_2 h0 hb, if_neg (by simp), tidy_self, w64 (by omega) (by omega), show (i : Int) + 1 = ((i + 1 : Nat) : Int) from by omega]
            exact ih'
      · rw [if_pos h0, rowsFrom_n h0, outI_n h0]
  rw [pu_spec_l6Rows, vcase_b, rws_len]; unfold rowsF
  by_cases h60 : 60 < all.length
  · rw [if_pos (by simp; omega), if_pos h60]
  rw [if_neg (by simp; omega), if_neg h60, show iv .i64 0 = iv .i64 ((0 : Nat) : Int) from rfl, loop all 0 rfl, ob, lastOf_0]
  by_cases h0 : rowsFrom none all = 0
  · rw [h0]; rfl
  · rw [outI_n h0, lcase_ret]; simp
theorem setAt_all {cs r : List S} (h : cs.length ≤ r.length) : setAt cs 0 r = r := by simp [setAt, List.drop_of_length_le h]
/-- a row that lies in a new block -/
def putR (h : H) (r : RowD) : H := (h.new 0 [.int .i64 0, .int .i64 0, .int .i64 0, .str ⟨#[]⟩]).put h.n (.rw 0 r.cs)
theorem putR_keep (h : H) (r : RowD) : HKeep h (putR h r) := ((HKeep.refl h).new).put (Nat.le_refl _)
theorem putR_n (h : H) (r : RowD) : (putR h r).n = h.n + 1 := rfl
theorem putR_g (h : H) (r : RowD) : (putR h r).g h.n = .rw 0 r.cs := put_g _ _ _
theorem putR_cells (h : H) (r : RowD) : (putR h r).cells h.n = r.cs := by
  unfold H.cells; rw [if_pos (by rw [putR_n]; omega), putR_g]; rfl
theorem putR_tidy {h : H} {r : RowD} {l : List V} (hl : l.all (belV h.n) = true) : tidy h l (putR h r) = h := tidy_ext (putR_keep h r) hl
section
variable {R : Type}
theorem stK_row {h : H} {r : RowD} {k : H → Option R} : stK 4 (h.new 0 [.int .i64 0, .int .i64 0, .int .i64 0, .str ⟨#[]⟩]) (pv h.n 0) (.agg r.cs) k = k (putR h r) := by
  rw [stK_rw (z := 4) (o := 0) (b := h.n) (r := r.cs) (e := 0) (cs := [.int .i64 0, .int .i64 0, .int .i64 0, .str ⟨#[]⟩]) (by simp) (new_g h _ _) (.inr rfl) rfl (by simp), setAt_all (by simp)]
  rfl
end
theorem loadN_row {h : H} {r : RowD} : loadN 4 (putR h r) (pv h.n 0) = some r.cs := by
  have := putR_cells h r
  have h2 : h.n < (putR h r).n := by rw [putR_n]; omega
  simp only [loadN]
  rw [if_pos ⟨h2, by rw [this]; simp⟩, this]; rfl
theorem load_0 {h : H} {r : RowD} : load1 (putR h r) (pv h.n 0) = some (.int .i64 r.tab) := by simp only [load1]; rw [putR_cells]; rfl
theorem load_1 {h : H} {r : RowD} : load1 (putR h r) (pv h.n 1) = some (.int .i64 r.key) := by simp only [load1]; rw [putR_cells]; rfl
theorem load_2 {h : H} {r : RowD} : load1 (putR h r) (pv h.n 2) = some (.int .i64 r.val) := by simp only [load1]; rw [putR_cells]; rfl
theorem load_3 {h : H} {r : RowD} : load1 (putR h r) (pv h.n 3) = some (.str r.text) := by simp only [load1]; rw [putR_cells]; rfl
theorem p_RowsFault {all : List RowD} (hs : ∀ r ∈ all, r.text.size ≤ maxLen) (hl : all.length ≤ maxLen) : pureV (call Ev) Fn.impl_RowsFault [lv (rws all)] = some (iv .i64 (rowsF all)) := by
  unfold maxLen at hl
  have loop : ∀ (rs : List RowD) (i : Nat), all.drop i = rs → ∃ h', Lp.impl_RowsFault 0 [lv (rws all), lv (rws all), iv .i64 (all.length : Int), iv .i64 i] (D 0) = some (outI (rowsFrom (lastOf all i) rs) h') := by
    intro rs
    induction rs with
    | nil =>
      intro i hi
      have := drop_nil hi
      refine ⟨D 0, ?_⟩
      rw [eq_impl_RowsFault_l0, vcase_b, if_neg (by simp; omega), tidy_self]; rfl
    | cons r rs ih =>
      intro i hi
      obtain ⟨g1, g2, g3⟩ := drop_cons hi
      have hz := hs r (List.mem_of_getElem? g1)
      obtain ⟨h', ih'⟩ := ih (i + 1) g2
      rw [lastOf_s g1] at ih'
      rw [eq_impl_RowsFault_l0, vcase_b, if_pos (by simp; omega), idxF_rw g1, rowN_rw]
      simp only [ob, gx0, gx1, gI_i, gS_s, ln0, ln1, Nat.zero_add, Nat.reduceAdd, if_true]
      rw [stK_row, loadN_row]
      simp only [ob, gx0, gx1, gI_i, gS_s, ln0, ln1, Nat.zero_add, Nat.reduceAdd, if_true]
      rw [pc (p_RowFault r hz) rfl]
      simp only [gV1_s, gI_i, vcase_b, bne_iff_ne, ne_eq, decide_eq_true_eq]
      by_cases h0 : rowF r = 0
      · rw [if_neg (by simp [h0])]
        by_cases hi0 : i = 0
        · subst hi0
          rw [if_neg (by omega), hchk_self, putR_tidy rfl, w64 (by omega) (by omega), lastOf_0, rowsFrom_0 h0]
          exact ⟨h', ih'⟩
        · obtain ⟨p, hp⟩ : ∃ p, all[i - 1]? = some p := ⟨_, List.getElem?_eq_getElem (by omega)⟩
          rw [if_pos (by omega), w64 (n := (i : Int) - 1) (by omega) (by omega), show (i : Int) - 1 = ((i - 1 : Nat) : Int) from by omega, idxF_rw hp, rowN_rw, 
            show lastOf all i = some p from by rw [← lastOf_s hp, Nat.sub_add_cancel (by omega)]]
          simp only [ob, gx0, gx1, gI_i, gS_s, ln0, ln1, Nat.zero_add, Nat.reduceAdd, if_true]
          rw [pc (p_IsBefore p r) rfl]
          simp only [gV1_s, gB_b, hchk_self, vcase_b]
          cases hb : befB p r
          · rw [rowsFrom_1 h0 hb]; exact ⟨_, rfl⟩
          · rw [rowsFrom_2 h0 hb, if_neg (by simp), putR_tidy rfl, w64 (by omega) (by omega), show (i : Int) + 1 = ((i + 1 : Nat) : Int) from by omega]
            exact ⟨h', ih'⟩
      · rw [if_pos h0, rowsFrom_n h0]; exact ⟨putR (D 0) r, by rw [outI_n h0]⟩
  rw [pu_impl_RowsFault, vcase_b, rws_len]; unfold rowsF
  by_cases h60 : 60 < all.length
  · rw [if_pos (by simp; omega), if_pos h60]
  obtain ⟨h', e⟩ := loop all 0 rfl
  rw [if_neg (by simp; omega), if_neg h60, show iv .i64 0 = iv .i64 ((0 : Nat) : Int) from rfl, e, ob, lastOf_0]
  by_cases h0 : rowsFrom none all = 0
  · rw [h0]; rfl
  · rw [outI_n h0, lcase_ret]; simp
end Vm
/-
  What the laws' helpers on bytes come to: a copy, a comparison, marks written and found again.
-/
namespace Vm
open Go

end Vm
/-
  A copy of bytes, as a call whose answer is new.
-/
namespace Vm
open Go

/-- an answer of new bytes that lie in a block -/
structure NewA (n : Nat) (h : H) (v : V) (l : List UInt8) : Prop where
  own : BysW h v l n
  le : h.n = n + 1
theorem NewA.nofz {n : Nat} {h : H} {v : V} {l : List UInt8} (w : NewA n h v l) : NoFz n (v, h) := by
  refine nofz_of ?_ fun b h1 h2 s hs => ?_
  · rw [w.own.v]; rfl
  · have : b = n := by have := w.le; omega
    subst this
    rw [w.own.g] at hs
    obtain ⟨c, _, rfl⟩ := List.mem_map.1 hs
    rfl
end Vm
/-
  Bytes appended and copied; results of a code and bytes: compared, marked, found again.
-/
namespace Vm
open Go

end Vm
/-
  What is one's own in a stretch of blocks: kept when other blocks change.
-/
namespace Vm
open Go
/-- a fact on the blocks from lo to hi alone -/
structure Sep (Q : H → Prop) (lo hi : Nat) (h : H) : Prop where
  top : hi ≤ h.n
  q : ∀ h' : H, hi ≤ h'.n → (∀ b, lo ≤ b → b < hi → h'.g b = h.g b) → Q h'
/-- all but the blocks from lo to hi as it was -/
structure ButR (lo hi : Nat) (h h' : H) : Prop where
  n : h'.n = h.n
  g : ∀ c, (c < lo ∨ hi ≤ c) → h'.g c = h.g c
section
variable {Q : H → Prop} {lo hi : Nat} {h h' : H}
theorem Sep.now (w : Sep Q lo hi h) : Q h := w.q h w.top fun _ _ _ => rfl
theorem Sep.up (w : Sep Q lo hi h) (u : Up h h') : Sep Q lo hi h' := ⟨Nat.le_trans w.top u.n, fun h2 hn hg => w.q h2 hn fun b h1 h3 => (hg b h1 h3).trans (u.g b (by have := w.top; omega))⟩
theorem Sep.over {h1 : H} {hi : Nat} {n : Nat} (hn : n = h.n) (hl : h.n ≤ h1.n) (w : Sep Q n hi h1) : Sep Q n hi (h.over h1) := by
  subst hn
  exact ⟨by rw [over_n hl]; exact w.top, fun h2 hn hg => w.q h2 hn fun b h1 h3 => (hg b h1 h3).trans (over_ge h1)⟩
theorem Sep.mono {lo' hi' : Nat} (w : Sep Q lo hi h) (h1 : lo' ≤ lo) (h2 : hi ≤ hi') (h3 : hi' ≤ h.n) : Sep Q lo' hi' h := ⟨h3, fun h' hn hg => w.q h' (by omega) fun b a b' => hg b (by omega) (by omega)⟩
end
/-- what stands in one block -/
def At (b : Nat) (x : Blk) (h : H) : Prop := b < h.n ∧ h.g b = x
theorem Sep.at {h : H} {b : Nat} {x : Blk} (hb : b < h.n) (hg : h.g b = x) : Sep (At b x) b (b + 1) h := ⟨hb, fun h' hn hg' => ⟨by omega, by rw [hg' b (Nat.le_refl _) (by omega), hg]⟩⟩
/-- bytes in a stretch of blocks -/
def OwnB (v : V) (l : List UInt8) (lo hi : Nat) (h : H) : Prop := ∃ ob, Own h v l ob ∧ ∀ b, ob = some b → lo ≤ b ∧ b < hi
theorem OwnB.sep {v : V} {l : List UInt8} {lo hi : Nat} {h : H} (w : OwnB v l lo hi h) (hn : hi ≤ h.n) : Sep (OwnB v l lo hi) lo hi h := ⟨hn, fun h' hn' hg => by
  obtain ⟨ob, h1, h2⟩ := w
  refine ⟨ob, ?_, h2⟩
  cases ob with
  | none => exact h1
  | some b =>
    have := h2 b rfl
    exact ⟨h1.v, by omega, by rw [hg b this.1 this.2]; exact h1.g⟩⟩
theorem OwnB.frz {v : V} {l : List UInt8} {lo hi : Nat} {h : H} (w : OwnB v l lo hi h) : frzV h v = some (lv (bys l)) := by
  obtain ⟨ob, h1, _⟩ := w
  exact frz1 h1
/-- the answer of a call on a dead heap -/
structure NewS (Q : Nat → Nat → H → Prop) (v : V) (n : Nat) (h : H) : Prop where
  le : n ≤ h.n
  q : Sep (Q n h.n) n h.n h
  z : NoFz n (v, h)
theorem NewA.s {n : Nat} {h : H} {v : V} {l : List UInt8} (w : NewA n h v l) : NewS (OwnB v l) v n h := by
  have := w.le
  exact ⟨by omega, OwnB.sep ⟨some n, w.own, fun b hb => by cases hb; omega⟩ (Nat.le_refl _), w.nofz⟩
theorem NewB.s {n : Nat} {h : H} {v : V} {l : List UInt8} {o : Option Nat} (w : NewB n h v l o) : Sep (OwnB v l n h.n) n h.n h := by
  refine OwnB.sep ⟨o, w.own, fun b hb => ⟨w.new b hb, ?_⟩⟩ (Nat.le_refl _)
  subst hb
  exact w.own.n
/-- from one block's change to a stretch's -/
theorem But.r {h h' : H} {ob : Option Nat} {lo hi : Nat} (u : But ob h h') (h2 : ∀ b, ob = some b → lo ≤ b ∧ b < hi) : ButR lo hi h h' := ⟨u.n, fun c hc => u.g c (fun hh => by have := h2 c hh; omega)⟩

/-! results of a code and bytes, and of a code, a number and bytes -/
theorem NewB.s2 {n : Nat} {h : H} {y : S} {l : List UInt8} {o : Option Nat} {c : Int} (w : NewB n h (.s y) l o) : NewS (OwnB (.s y) l) (.agg [.int .i64 c, y]) n h :=
  ⟨w.le, w.s, ⟨by simp [w.own.sca], w.z⟩⟩
/-- the same answer, frozen -/
theorem NewS.p {Q : Nat → Nat → H → Prop} {f : Nat} {xs : List V} {h : H} {v w : V} (hc : call Ev f xs (D 0) = some (v, h)) (hq : NewS Q v 0 h) (hf : Q 0 h.n h → frzV h v = some w) : pureV (call Ev) f xs = some w := by
  unfold pureV
  rw [hc, Vm.ob, hf hq.q.now]
end Vm
/-
  Live values of any depth: what they are once frozen, and which blocks they lie in.
-/
namespace Vm
open Go
/-- a cell that leads nowhere, and is not frozen -/
def Sc : S → Prop
  | .int _ _ => True
  | .bool _ => True
  | .str _ => True
  | _ => False
theorem Sc.cl {s : S} (h : Sc s) : Cl s := by cases s <;> first | exact h.elim | exact cl_i | exact cl_b | exact cl_s
theorem Sc.sca {s : S} (h : Sc s) : scaS s = true := by cases s <;> first | exact h.elim | rfl
theorem Sc.no {s : S} (h : Sc s) : isNo s = false := by cases s <;> first | exact h.elim | rfl
inductive RepL (R : S → S → List Nat → Prop) : List S → List S → List Nat → Prop
  | nil : RepL R [] [] []
  | cons {y f : S} {bs : List Nat} {ys fs : List S} {bss : List Nat} : R y f bs → RepL R ys fs bss → RepL R (y :: ys) (f :: fs) (bs ++ bss)
def Rep (h : H) : Nat → S → S → List Nat → Prop
  | 0 => fun y f bs => (Sc y ∧ f = y ∨ y = .sl none 0 ∧ f = .fs []) ∧ bs = []
  | d + 1 => fun y f bs => ((Sc y ∧ f = y ∨ y = .sl none 0 ∧ f = .fs []) ∧ bs = []) ∨ ∃ b z cs rows bss, y = .sl (some (b, 0)) rows.length ∧ f = .fs rows ∧ bs = b :: bss ∧ b < h.n ∧ 0 < z ∧ h.g b = .rw z cs ∧ (∀ r ∈ rows, r.length = z) ∧ RepL (Rep h d) cs rows.flatten bss
section
variable {R R' : S → S → List Nat → Prop}
theorem RepL.mono {cs fs : List S} {bss : List Nat} (w : RepL R cs fs bss) (hr : ∀ y f bs, (∀ b ∈ bs, b ∈ bss) → R y f bs → R' y f bs) : RepL R' cs fs bss := by
  induction w with
  | nil => exact .nil
  | @cons y f bs ys fs bss h1 h2 ih => exact .cons (hr _ _ _ (fun b hb => by simp [hb]) h1) (ih fun y f bs hb => hr y f bs fun b hh => by simp [hb b hh])
theorem RepL.len {cs fs : List S} {bss : List Nat} (w : RepL R cs fs bss) : cs.length = fs.length := by
  induction w with
  | nil => rfl
  | cons h1 h2 ih => simp [ih]
theorem RepL.append {cs fs cs' fs' : List S} {bss bss' : List Nat} (w : RepL R cs fs bss) (w' : RepL R cs' fs' bss') : RepL R (cs ++ cs') (fs ++ fs') (bss ++ bss') := by
  induction w with
  | nil => exact w'
  | cons h1 h2 ih => rw [List.cons_append, List.cons_append, List.append_assoc]; exact .cons h1 ih
theorem RepL.split : ∀ {fs fs' : List S} {cs : List S} {bss : List Nat}, RepL R cs (fs ++ fs') bss → ∃ a a' b b', cs = a ++ a' ∧ bss = b ++ b' ∧ RepL R a fs b ∧ RepL R a' fs' b'
  | [], fs', cs, bss, w => ⟨[], cs, [], bss, rfl, rfl, .nil, w⟩
  | f :: fs, fs', cs, bss, w => by
    cases w with
    | @cons y f bs ys fs bss h1 h2 =>
      obtain ⟨a, a', b, b', rfl, rfl, w1, w2⟩ := RepL.split h2
      exact ⟨y :: a, a', bs ++ b, b', rfl, by simp, .cons h1 w1, w2⟩
end
section
variable {h h' : H}
theorem Rep.sc {d : Nat} {s : S} (hs : Sc s) : Rep h d s s [] := by
  cases d with
  | zero => exact ⟨.inl ⟨hs, rfl⟩, rfl⟩
  | succ d => exact .inl ⟨.inl ⟨hs, rfl⟩, rfl⟩
theorem Rep.nil {d : Nat} : Rep h d (.sl none 0) (.fs []) [] := by
  cases d with
  | zero => exact ⟨.inr ⟨rfl, rfl⟩, rfl⟩
  | succ d => exact .inl ⟨.inr ⟨rfl, rfl⟩, rfl⟩
theorem Rep.sl {d b z : Nat} {cs : List S} {rows : List (List S)} {bss : List Nat} (hb : b < h.n) (hz : 0 < z) (hg : h.g b = .rw z cs) (hr : ∀ r ∈ rows, r.length = z) (w : RepL (Rep h d) cs rows.flatten bss) : Rep h (d + 1) (.sl (some (b, 0)) rows.length) (.fs rows) (b :: bss) :=
  .inr ⟨b, z, cs, rows, bss, rfl, rfl, rfl, hb, hz, hg, hr, w⟩
theorem RepL.sc {d : Nat} : ∀ {l : List S}, (∀ s ∈ l, Sc s) → RepL (Rep h d) l l []
  | [], _ => .nil
  | s :: l, hl => RepL.cons (bs := []) (Rep.sc (hl s (by simp))) (RepL.sc fun s hs => hl s (by simp [hs]))
theorem Rep.of_sc {d : Nat} {y f : S} {bs : List Nat} (w : Rep h d y f bs) (hf : Sc f) : y = f ∧ bs = [] := by
  cases d with
  | zero =>
    obtain ⟨⟨h1, rfl⟩ | ⟨rfl, rfl⟩, rfl⟩ := w
    · exact ⟨rfl, rfl⟩
    · exact hf.elim
  | succ d =>
    obtain ⟨⟨h1, rfl⟩ | ⟨rfl, rfl⟩, rfl⟩ | ⟨b, z, cs, rows, bss, rfl, rfl, rfl, h1⟩ := w
    · exact ⟨rfl, rfl⟩
    · exact hf.elim
    · exact hf.elim
theorem RepL.of_sc {d : Nat} : ∀ {cs fs : List S} {bss : List Nat}, RepL (Rep h d) cs fs bss → (∀ s ∈ fs, Sc s) → cs = fs ∧ bss = []
  | _, _, _, .nil, _ => ⟨rfl, rfl⟩
  | _, _, _, .cons h1 h2, hs => by
    obtain ⟨rfl, rfl⟩ := Rep.of_sc h1 (hs _ (by simp))
    obtain ⟨rfl, rfl⟩ := RepL.of_sc h2 fun s hs' => hs s (by simp [hs'])
    exact ⟨rfl, rfl⟩
theorem Rep.frame : ∀ {d : Nat} {y f : S} {bs : List Nat}, Rep h d y f bs → (∀ b ∈ bs, b < h'.n ∧ h'.g b = h.g b) → Rep h' d y f bs
  | 0, y, f, bs, w, _ => w
  | d + 1, y, f, bs, w, hb => by
    rcases w with w | ⟨b, z, cs, rows, bss, rfl, rfl, rfl, h1, h2, h3, h4, h5⟩
    · exact .inl w
    · have := hb b (by simp)
      exact .inr ⟨b, z, cs, rows, bss, rfl, rfl, rfl, this.1, h2, this.2.trans h3, h4, h5.mono fun y f bs hs w => Rep.frame w fun b' hb' => hb b' (by simp [hs b' hb'])⟩
theorem RepL.frame {d : Nat} {cs fs : List S} {bss : List Nat} (w : RepL (Rep h d) cs fs bss) (hb : ∀ b ∈ bss, b < h'.n ∧ h'.g b = h.g b) : RepL (Rep h' d) cs fs bss :=
  w.mono fun y f bs hs w => w.frame fun b hbb => hb b (hs b hbb)
theorem Rep.lift : ∀ {d : Nat} {y f : S} {bs : List Nat}, Rep h d y f bs → Rep h (d + 1) y f bs
  | 0, y, f, bs, w => .inl w
  | d + 1, y, f, bs, w => by
    rcases w with w | ⟨b, z, cs, rows, bss, rfl, rfl, rfl, h1, h2, h3, h4, h5⟩
    · exact .inl w
    · exact .inr ⟨b, z, cs, rows, bss, rfl, rfl, rfl, h1, h2, h3, h4, h5.mono fun y f bs hs w => w.lift⟩
theorem Rep.lifts {d k : Nat} {y f : S} {bs : List Nat} (w : Rep h d y f bs) (hd : d ≤ k) : Rep h k y f bs := by
  obtain ⟨j, rfl⟩ := Nat.exists_eq_add_of_le hd
  induction j with
  | zero => exact w
  | succ j ih => exact (ih (by omega)).lift
theorem RepL.lifts {d k : Nat} {cs fs : List S} {bss : List Nat} (w : RepL (Rep h d) cs fs bss) (hd : d ≤ k) : RepL (Rep h k) cs fs bss := w.mono fun y f bs _ w => w.lifts hd
theorem Rep.lt : ∀ {d : Nat} {y f : S} {bs : List Nat}, Rep h d y f bs → ∀ b ∈ bs, b < h.n
  | 0, y, f, bs, w => by obtain ⟨_, rfl⟩ := w; simp
  | d + 1, y, f, bs, w => by
    rcases w with ⟨_, rfl⟩ | ⟨b, z, cs, rows, bss, rfl, rfl, rfl, h1, h2, h3, h4, h5⟩
    · simp
    · intro c hc
      rcases List.mem_cons.1 hc with rfl | hc
      · exact h1
      · clear h3 h4
        generalize rows.flatten = fl at h5
        induction h5 with
        | nil => simp at hc
        | cons w1 w2 ih =>
          rcases List.mem_append.1 hc with hc | hc
          · exact w1.lt _ hc
          · exact ih (by simp [hc]) hc
theorem RepL.lt {d : Nat} {cs fs : List S} {bss : List Nat} (w : RepL (Rep h d) cs fs bss) : ∀ b ∈ bss, b < h.n := by
  induction w with
  | nil => simp
  | cons w1 w2 ih =>
    intro c hc
    rcases List.mem_append.1 hc with hc | hc
    · exact w1.lt _ hc
    · exact ih _ hc
theorem Rep.sca {d : Nat} {y f : S} {bs : List Nat} (w : Rep h d y f bs) : scaS y = true := by
  cases d with
  | zero =>
    obtain ⟨⟨h1, rfl⟩ | ⟨rfl, rfl⟩, rfl⟩ := w
    · exact h1.sca
    · rfl
  | succ d =>
    obtain ⟨⟨h1, rfl⟩ | ⟨rfl, rfl⟩, rfl⟩ | ⟨b, z, cs, rows, bss, rfl, rfl, rfl, h1⟩ := w
    · exact h1.sca
    · rfl
    · rfl
theorem Rep.isNo {d : Nat} {y f : S} {bs : List Nat} (w : Rep h d y f bs) : isNo y = false := by
  cases d with
  | zero =>
    obtain ⟨⟨h1, rfl⟩ | ⟨rfl, rfl⟩, rfl⟩ := w
    · exact h1.no
    · rfl
  | succ d =>
    obtain ⟨⟨h1, rfl⟩ | ⟨rfl, rfl⟩, rfl⟩ | ⟨b, z, cs, rows, bss, rfl, rfl, rfl, h1⟩ := w
    · exact h1.no
    · rfl
    · rfl
/-- what it is once frozen -/
theorem Rep.frz : ∀ {d k : Nat} {y f : S} {bs : List Nat}, Rep h d y f bs → d ≤ k → frzS h k y = some f
  | 0, k, y, f, bs, w, _ => by
    obtain ⟨⟨h1, rfl⟩ | ⟨rfl, rfl⟩, rfl⟩ := w
    · exact h1.cl h k
    · exact frz_n
  | d + 1, 0, y, f, bs, w, hk => by omega
  | d + 1, k + 1, y, f, bs, w, hk => by
    rcases w with ⟨⟨h1, rfl⟩ | ⟨rfl, rfl⟩, rfl⟩ | ⟨b, z, cs, rows, bss, rfl, rfl, rfl, h1, h2, h3, h4, h5⟩
    · exact h1.cl h (k + 1)
    · exact frz_n
    · have hl := flat_len h4
      have hc := h5.len
      have hm : mapO (frzS h k) cs = some rows.flatten := by
        clear h3 h4 hl hc
        generalize rows.flatten = fl at h5
        induction h5 with
        | nil => rfl
        | cons w1 w2 ih => simp only [mapO, Rep.frz w1 (show d ≤ k by omega), ih, Option.bind_some]
      simp only [frzS]
      split
      · rename_i h0; rw [List.eq_nil_of_length_eq_zero h0]
      · rw [h3]
        simp only
        rw [if_pos ⟨h2, by omega⟩, List.drop_zero, List.take_of_length_le (by omega), hm]
        simp [chunk_rows h4]
theorem RepL.mapO {d k : Nat} {cs fs : List S} {bss : List Nat} (w : RepL (Rep h d) cs fs bss) (hd : d ≤ k) : Vm.mapO (frzS h k) cs = some fs := by
  induction w with
  | nil => rfl
  | cons w1 w2 ih => simp only [Vm.mapO, w1.frz hd, ih, Option.bind_some]
end
/-- bytes -/
theorem bys_sc {l : List UInt8} : ∀ s ∈ (bys l).flatten, Sc s := by
  rw [bys_flat]
  intro s hs
  obtain ⟨c, _, rfl⟩ := List.mem_map.1 hs
  trivial
theorem Own.rep {h : H} {d : Nat} {y : S} {l : List UInt8} {ob : Option Nat} (h1 : Own h (.s y) l ob) : Rep h (d + 1) y (.fs (bys l)) ob.toList := by
  cases ob with
  | none => obtain ⟨h1, rfl⟩ := h1; cases h1; exact Rep.nil
  | some b =>
    have hv := h1.v
    injection hv with hv
    subst hv
    have := Rep.sl (d := d) (h := h) (b := b) (z := 1) (rows := bys l) (bss := []) h1.n (by omega) (by rw [bys_flat]; exact h1.g) bys_row (RepL.sc (by exact bys_sc))
    rwa [bys_len] at this
/-- a value of one's own in a stretch of blocks -/
def OwnF (d : Nat) (y f : S) (lo hi : Nat) (h : H) : Prop := ∃ bs, Rep h d y f bs ∧ bs.Nodup ∧ ∀ b ∈ bs, lo ≤ b ∧ b < hi
theorem OwnF.sep {d : Nat} {y f : S} {lo hi : Nat} {h : H} (w : OwnF d y f lo hi h) (hn : hi ≤ h.n) : Sep (OwnF d y f lo hi) lo hi h := ⟨hn, fun h' hn' hg => by
  obtain ⟨bs, h1, h2, h3⟩ := w
  exact ⟨bs, h1.frame fun b hb => ⟨by have := h3 b hb; omega, hg b (h3 b hb).1 (h3 b hb).2⟩, h2, h3⟩⟩
theorem OwnF.frz {d : Nat} {y f : S} {lo hi : Nat} {h : H} (w : OwnF d y f lo hi h) (hd : d ≤ 8 := by omega) : frzV h (.s y) = some (.s f) := by
  obtain ⟨bs, h1, _⟩ := w
  simp only [frzV, h1.frz hd, Vm.ob]
theorem OwnB.f {d : Nat} {y : S} {l : List UInt8} {lo hi : Nat} {h : H} (w : OwnB (.s y) l lo hi h) : OwnF (d + 1) y (.fs (bys l)) lo hi h := by
  obtain ⟨ob, h1, h2⟩ := w
  refine ⟨ob.toList, h1.rep, ?_, fun b hb => h2 b (by simpa using hb)⟩
  cases ob <;> simp
/-! loops that mark the rows of a slice -/
section
variable {α : Type} (cs : α → List S) (mk : Nat → α → α) (sz : α → Nat)
variable {cs mk sz}
end
end Vm
/-
  Cells of one's own; results that are marked; slices that are filled row by row.
-/
namespace Vm
open Go
theorem sc_bel {n : Nat} {s : S} (h : Sc s) : belS n s = true := by cases s <;> first | exact h.elim | rfl
theorem Rep.top {h : H} {d N : Nat} {y f : S} {bs : List Nat} (w : Rep h d y f bs) (hb : ∀ b ∈ bs, b < N) : belS N y = true := by
  cases d with
  | zero =>
    obtain ⟨⟨h1, rfl⟩ | ⟨rfl, rfl⟩, rfl⟩ := w
    · exact sc_bel h1
    · rfl
  | succ d =>
    obtain ⟨⟨h1, rfl⟩ | ⟨rfl, rfl⟩, rfl⟩ | ⟨b, z, cs, rows, bss, rfl, rfl, rfl, h1⟩ := w
    · exact sc_bel h1
    · rfl
    · simpa [belS] using hb b (by simp)
theorem RepL.top {h : H} {d N : Nat} {cs fs : List S} {bss : List Nat} (w : RepL (Rep h d) cs fs bss) (hb : ∀ b ∈ bss, b < N) : cs.all (belS N) = true := by
  induction w with
  | nil => rfl
  | cons w1 w2 ih =>
    rw [List.all_cons, w1.top fun b hh => hb b (by simp [hh]), ih fun b hh => hb b (by simp [hh])]; rfl
/-- cells of one's own in a stretch of blocks -/
def OwnC (d : Nat) (ys fs : List S) (lo hi : Nat) (h : H) : Prop := ∃ bs, RepL (Rep h d) ys fs bs ∧ bs.Nodup ∧ ∀ b ∈ bs, lo ≤ b ∧ b < hi
theorem OwnC.sep {d : Nat} {ys fs : List S} {lo hi : Nat} {h : H} (w : OwnC d ys fs lo hi h) (hn : hi ≤ h.n) : Sep (OwnC d ys fs lo hi) lo hi h := ⟨hn, fun h' hn' hg => by
  obtain ⟨bs, h1, h2, h3⟩ := w
  exact ⟨bs, h1.frame fun b hb => ⟨by have := h3 b hb; omega, hg b (h3 b hb).1 (h3 b hb).2⟩, h2, h3⟩⟩
theorem OwnC.frz {d : Nat} {ys fs : List S} {lo hi : Nat} {h : H} (w : OwnC d ys fs lo hi h) (hd : d ≤ 8 := by omega) : frzV h (.agg ys) = some (.agg fs) := by
  obtain ⟨bs, h1, _⟩ := w
  simp only [frzV, h1.mapO hd, Vm.ob]
theorem RepL.sca {h : H} {d : Nat} {cs fs : List S} {bss : List Nat} (w : RepL (Rep h d) cs fs bss) : cs.all scaS = true := by
  induction w with
  | nil => rfl
  | cons w1 w2 ih => rw [List.all_cons, w1.sca, ih]; rfl
theorem OwnC.scaV {d : Nat} {ys fs : List S} {lo hi : Nat} {h : H} (w : OwnC d ys fs lo hi h) : Vm.scaV (.agg ys) = true := by
  obtain ⟨bs, h1, _⟩ := w
  exact h1.sca
/-- one value behind plain cells -/
theorem OwnF.c {d : Nat} {pre : List S} {y f : S} {lo hi : Nat} {h : H} (hp : ∀ s ∈ pre, Sc s) (w : OwnF d y f lo hi h) : OwnC d (pre ++ [y]) (pre ++ [f]) lo hi h := by
  obtain ⟨bs, h1, h2, h3⟩ := w
  exact ⟨bs, by simpa using (RepL.sc (d := d) hp).append (.cons h1 .nil), h2, h3⟩
theorem OwnC.f {d : Nat} {pre : List S} {y f : S} {lo hi : Nat} {h : H} (hp : ∀ s ∈ pre, Sc s) (w : OwnC d (pre ++ [y]) (pre ++ [f]) lo hi h) : OwnF d y f lo hi h := by
  obtain ⟨bs, h1, h2, h3⟩ := w
  obtain ⟨a, a', b, b', e1, rfl, w1, w2⟩ := h1.split
  obtain ⟨rfl, rfl⟩ := w1.of_sc hp
  have := List.append_cancel_left e1
  subst this
  cases w2 with
  | cons w3 w4 => cases w4; exact ⟨_, by simpa using w3, by simpa using h2, by simpa using h3⟩
/-- the answer of a call: new cells of one's own -/
structure NewC (d : Nat) (ys fs : List S) (n : Nat) (h : H) : Prop where
  le : n ≤ h.n
  q : OwnC d ys fs n h.n h
theorem scrub_g {n : Nat} {h : H} {b : Nat} (hb : (h.g b).cells.all scaS = true) : (scrub n h).g b = h.g b := by
  simp only [scrub]
  rw [if_neg (fun hh => by rw [hb] at hh; cases hh.2.2)]
theorem Rep.scaB {h : H} : ∀ {d : Nat} {y f : S} {bs : List Nat}, Rep h d y f bs → ∀ b ∈ bs, (h.g b).cells.all scaS = true
  | 0, y, f, bs, w => by obtain ⟨_, rfl⟩ := w; simp
  | d + 1, y, f, bs, w => by
    rcases w with ⟨_, rfl⟩ | ⟨b, z, cs, rows, bss, rfl, rfl, rfl, h1, h2, h3, h4, h5⟩
    · simp
    · intro c hc
      rcases List.mem_cons.1 hc with rfl | hc
      · rw [h3]; exact h5.sca
      · clear h3 h4
        generalize rows.flatten = fl at h5
        induction h5 with
        | nil => simp at hc
        | cons w1 w2 ih =>
          rcases List.mem_append.1 hc with hc | hc
          · exact w1.scaB _ hc
          · exact ih (by simp [hc]) hc
theorem RepL.scaB {h : H} {d : Nat} {cs fs : List S} {bss : List Nat} (w : RepL (Rep h d) cs fs bss) : ∀ b ∈ bss, (h.g b).cells.all scaS = true := by
  induction w with
  | nil => simp
  | cons w1 w2 ih =>
    intro c hc
    rcases List.mem_append.1 hc with hc | hc
    · exact w1.scaB _ hc
    · exact ih _ hc
/-- .. of one value -/
theorem pVx {cl : Nat → List V → H → Option (V × H)} {g : Nat} {off : Bool} {xs : List V} {h : H} {n d : Nat} {y f : S} {h1 : H} (hn : h.n = n) (hc : cl g xs (D n) = some (.s y, h1)) (hle : n ≤ h1.n) (w : OwnF d y f n h1.n h1) :
    ∃ h', (∀ (R : Type) (k : V → H → Option R), pcallF cl g off xs h k = k (.s y) h') ∧ Up h h' ∧ n ≤ h'.n ∧ Sep (OwnF d y f n h'.n) n h'.n h' ∧ HExt h h' := by
  subst hn
  have ov : ∀ h2 : H, h2.n = h1.n → (∀ b, (h1.g b).cells.all scaS = true → h2.g b = h1.g b) → Up h (h.over h2) ∧ h.n ≤ (h.over h2).n ∧ Sep (OwnF d y f h.n (h.over h2).n) h.n (h.over h2).n (h.over h2) ∧ HExt h (h.over h2) := fun h2 hn2 hg2 => by
    have hle2 : h.n ≤ h2.n := by omega
    refine ⟨up_over hle2, by rw [over_n hle2]; omega, OwnF.sep ?_ (Nat.le_refl _), ⟨by rw [over_n hle2]; omega, fun b hb => .inr (over_lt hb)⟩⟩
    obtain ⟨bs, w1, w2, w3⟩ := w
    rw [over_n hle2, hn2]
    refine ⟨bs, w1.frame fun b hb => ?_, w2, w3⟩
    have := w3 b hb
    exact ⟨by rw [over_n hle2]; omega, by rw [over_ge this.1]; exact hg2 b (w1.scaB b hb)⟩
  cases off with
  | true =>
    obtain ⟨a1, a2, a3⟩ := ov h1 rfl (fun _ _ => rfl)
    refine ⟨h.over h1, fun R k => ?_, a1, a2, a3⟩
    unfold pcallF
    rw [hc, Vm.ob]
    unfold fchk
    rw [if_pos (.inl rfl)]; rfl
  | false =>
    obtain ⟨a1, a2, a3⟩ := ov (scrub h.n h1) rfl (fun b hb => scrub_g hb)
    refine ⟨h.over (scrub h.n h1), fun R k => ?_, a1, a2, a3⟩
    unfold pcallF
    rw [hc, Vm.ob]
    unfold fchk
    rw [if_pos (.inr (by obtain ⟨bs, w1, _⟩ := w; exact w1.sca))]; rfl
theorem pV {cl : Nat → List V → H → Option (V × H)} {g : Nat} {off : Bool} {xs : List V} {h : H} {n d : Nat} {y f : S} {h1 : H} (hn : h.n = n) (hc : cl g xs (D n) = some (.s y, h1)) (hle : n ≤ h1.n) (w : OwnF d y f n h1.n h1) :
    ∃ h', (∀ (R : Type) (k : V → H → Option R), pcallF cl g off xs h k = k (.s y) h') ∧ Up h h' ∧ n ≤ h'.n ∧ Sep (OwnF d y f n h'.n) n h'.n h' := by
  obtain ⟨h', a, b, c, d, _⟩ := pVx (off := off) hn hc hle w
  exact ⟨h', a, b, c, d⟩
theorem NewC.p {f d : Nat} {xs : List V} {h : H} {ys fs : List S} (hd : d ≤ 8) (hc : call Ev f xs (D 0) = some (.agg ys, h)) (w : NewC d ys fs 0 h) : pureV (call Ev) f xs = some (.agg fs) := by
  unfold pureV
  rw [hc, Vm.ob]
  exact w.q.frz hd

theorem no_tidy_v {h h' : H} {l : List V} (hl : l.all (belV h.n) = false) : tidy h l h' = h' := by
  unfold tidy
  rw [if_neg]
  rintro ⟨_, h2, _⟩
  rw [hl] at h2
  cases h2

/-! slices that are filled row by row -/
section
variable {α : Type} {cs : α → List S}
end
end Vm
/-
  Results of a code and one value, as they are made at the end of a function.
-/
namespace Vm
open Go
theorem sc1 {k : IntKind} {c : Int} : ∀ s ∈ [S.int k c], Sc s := by intro s hs; rw [List.mem_singleton.1 hs]; trivial
/-- a value put into a result that stands in block n -/
theorem fin2S {n d : Nat} {K : H} {y f : S} (hn : n < K.n) (g : K.g n = .rw 0 [.int .i64 0, .sl none 0]) (w : OwnF d y f (n + 1) K.n K) {c : Int} :
    ∃ h', (stK 2 K (pv n 0) (.agg [.int .i64 c, y]) fun h116 => (loadN 2 h116 (pv n 0)).bind fun c117 => some (V.agg c117, h116)) = some (.agg [.int .i64 c, y], h') ∧ NewC d [.int .i64 c, y] [.int .i64 c, f] n h' := by
  rw [stK_rw (z := 2) (e := 0) (o := 0) (b := n) (cs := [.int .i64 0, .sl none 0]) (r := [.int .i64 c, y]) hn g (.inr rfl) rfl (by simp)]
  rw [show setAt [.int .i64 0, .sl none 0] 0 [.int .i64 c, y] = [.int .i64 c, y] from rfl]
  rw [loadN_2 (b := n) (e := 0) (by rw [put_n]; omega) (put_g _ _ _), ob]
  obtain ⟨bs, w1, w2, w3⟩ := w
  refine ⟨_, rfl, by rw [put_n]; omega, ?_⟩
  refine OwnF.c (pre := [.int .i64 c]) sc1 ⟨bs, w1.frame fun b hb => ?_, w2, fun b hb => ?_⟩
  · have := w3 b hb
    exact ⟨by rw [put_n]; omega, put_g' (by omega)⟩
  · have := w3 b hb
    rw [put_n]; omega
theorem cells2 {R : Type} {y : S} (hy : isNo y = false) {k : Int → S → Option R} :
    (cellsK (.s y) fun c112 =>
      if c112.length = 1 ∧ 1 + 1 ≤ ([.int .i64 0, .sl none 0] : List S).length then
      ((setAt ([.int .i64 0, .sl none 0] : List S) 1 c112)[0]?).bind fun x113 =>
      gI .i64 x113 fun i114 =>
      ((setAt ([.int .i64 0, .sl none 0] : List S) 1 c112)[1]?).bind fun x115 =>
      if (setAt ([.int .i64 0, .sl none 0] : List S) 1 c112).length = 2 then k i114 x115 else none else none) = k 0 y := by
  simp only [cellsK, hy, cond_false, ln0, ln1, Nat.zero_add, Nat.reduceAdd, Nat.le_refl, and_self, if_true]
  rw [show setAt [.int .i64 0, .sl none 0] 1 [y] = [.int .i64 0, y] from rfl]
  simp only [gx0, gx1, ob, gI_i, ln0, ln1, Nat.zero_add, Nat.reduceAdd, if_true]
end Vm
/-
  A slice of rows of one's own that grows row by row.
-/
namespace Vm
open Go
structure OutS (z d : Nat) (y : S) (rows : List (List S)) (bs : List Nat) (h : H) : Prop where
  rep : Rep h (d + 1) y (.fs rows) bs
  nd : bs.Nodup
  ty : y = .sl none 0 ∨ ∃ b cs, y = .sl (some (b, 0)) rows.length ∧ h.g b = .rw z cs
  len : ∀ r ∈ rows, r.length = z
theorem OutS.none {z d : Nat} {h : H} : OutS z d (.sl none 0) [] [] h := ⟨Rep.nil, by simp, .inl rfl, by simp⟩
theorem OutS.frame {z d : Nat} {y : S} {rows : List (List S)} {bs : List Nat} {h h' : H} (w : OutS z d y rows bs h) (hb : ∀ b ∈ bs, b < h'.n ∧ h'.g b = h.g b) : OutS z d y rows bs h' := by
  refine ⟨w.rep.frame hb, w.nd, ?_, w.len⟩
  rcases w.ty with h1 | ⟨b, cs, h1, h2⟩
  · exact .inl h1
  · refine .inr ⟨b, cs, h1, ?_⟩
    have hbb : b ∈ bs := by
      rcases w.rep with ⟨⟨h3, _⟩ | ⟨h3, _⟩, _⟩ | ⟨b', z', cs', rows', bss, h3, _, h4, _⟩
      · rw [h1] at h3; exact h3.elim
      · rw [h1] at h3; cases h3
      · rw [h1] at h3
        injection h3 with h3 _
        injection h3 with h3
        injection h3 with h3 _
        rw [h4, h3]; simp
    rw [(hb b hbb).2]; exact h2
theorem app_row {z d : Nat} {y : S} {rows : List (List S)} {bs : List Nat} {h : H} {row fr : List S} {br : List Nat} (w : OutS z d y rows bs h) (wr : RepL (Rep h d) row fr br) (hz : fr.length = z) (hz0 : 0 < z) (hd : br.Nodup) (hdis : ∀ a ∈ bs, a ∉ br) (hl : rows.length + 1 ≤ lim) :
    ∃ h' bs', appS z (h.new z row) (.s y) (sv h.n 0 1) = some (sv (h.n + 1) 0 (rows.length + 1), h') ∧ OutS z d (.sl (some (h.n + 1, 0)) (rows.length + 1)) (rows ++ [fr]) bs' h' ∧ h'.n = h.n + 2 ∧ (∀ c ∈ bs', c = h.n + 1 ∨ c ∈ bs ∨ c ∈ br) ∧ (∀ c, c < h.n → c ∉ bs → h'.g c = h.g c) ∧ (∀ c, c < h.n → h'.g c = h.g c ∨ (h'.g c = .dead ∧ c ∈ bs)) ∧ ∃ cs0, h'.g (h.n + 1) = .rw z (cs0 ++ row) := by
  have hrow : row.length = z := wr.len.trans hz
  have hlt := w.rep.lt
  have hlr := wr.lt
  have cy : cellsS z (h.new z row) (sv h.n 0 1) = some row := by
    simp only [cellsS, H.cells, new_n, new_g, Blk.cells]
    rw [if_pos ⟨by omega, by simp; omega⟩]
    simp [← hrow]
  have gn : (h.new z row).g h.n = .rw z row := new_g _ _ _
  rcases w.rep with ⟨⟨h3, h4⟩ | ⟨h3, h4⟩, h5⟩ | ⟨b, z', cs, rows', bss, h3, h4, h5, h6, h7, h8, h9, h10⟩
  · rw [← h4] at h3; exact h3.elim
  · subst h3
    injection h4 with h4
    subst h4
    subst h5
    refine ⟨(h.new z row).new z row, (h.n + 1) :: br, ?_, ⟨?_, ?_, ?_, ?_⟩, by simp, ?_, fun c hc _ => ?_, fun c hc => .inl ?_, [], new_g (h.new z row) z row⟩
    · simp only [appS, cy, Option.bind_some, lenS]
      rw [if_pos ⟨trivial, by simpa using hl, hz0⟩, if_neg (by omega)]
      rfl
    · have := Rep.sl (d := d) (h := (h.new z row).new z row) (b := h.n + 1) (z := z) (cs := row) (rows := [fr]) (bss := br) (by simp) hz0 (by exact new_g (h.new z row) z row) (by simpa using hz) (by
        simpa using wr.frame fun c hc => ⟨by have := hlr c hc; simp; omega, by rw [new_g' (by have := hlr c hc; simp; omega), new_g' (by have := hlr c hc; omega)]⟩)
      simpa using this
    · exact List.nodup_cons.2 ⟨fun hh => by have := hlr _ hh; omega, hd⟩
    · exact .inr ⟨_, row, rfl, by exact new_g (h.new z row) z row⟩
    · simpa using hz
    · intro c hc
      rcases List.mem_cons.1 hc with h1 | h1
      · exact .inl h1
      · exact .inr (.inr h1)
    · rw [new_g' (by simp; omega), new_g' (by omega)]
    · rw [new_g' (by simp; omega), new_g' (by omega)]
  · injection h4 with h4
    subst h4
    subst h3
    subst h5
    have hzz : z' = z := by
      rcases w.ty with hh | ⟨b', cs', hh, hg⟩
      · cases hh
      · injection hh with hh _
        injection hh with hh
        injection hh with hh _
        subst hh
        rw [h8] at hg
        injection hg
    subst hzz
    have hcl := h10.len
    rw [flat_len h9] at hcl
    have hbn : b ≠ h.n := by omega
    have cx : cellsS z' (h.new z' row) (sv b 0 rows.length) = some cs := by
      have hc : (h.new z' row).cells b = cs := by unfold H.cells; rw [if_pos (by simp; omega), new_g' hbn, h8]; rfl
      simp only [cellsS, hc]
      rw [if_pos ⟨by simp; omega, by omega⟩, List.drop_zero, List.take_of_length_le (by omega)]
    have hd2 := List.nodup_cons.1 w.nd
    refine ⟨((h.new z' row).put b .dead).new z' (cs ++ row), (h.n + 1) :: (bss ++ br), ?_, ⟨?_, ?_, ?_, ?_⟩, by simp, ?_, fun c hc hcb => ?_, fun c hc => ?_, cs, new_g ((h.new z' row).put b .dead) z' (cs ++ row)⟩
    · simp only [appS, cx, cy, Option.bind_some, lenS]
      rw [if_pos ⟨by rw [new_n]; omega, hl, hz0⟩, new_g' hbn, h8]
      simp only [if_true]
      rfl
    · have fr1 : ∀ c, c < h.n → c ≠ b → (((h.new z' row).put b .dead).new z' (cs ++ row)).g c = h.g c := fun c hc hcb => by
        rw [new_g' (by simp; omega), put_g' hcb, new_g' (by omega)]
      have := Rep.sl (d := d) (h := ((h.new z' row).put b .dead).new z' (cs ++ row)) (b := h.n + 1) (z := z') (cs := cs ++ row) (rows := rows ++ [fr]) (bss := bss ++ br) (by simp) hz0 (by exact new_g ((h.new z' row).put b .dead) z' (cs ++ row)) (by
          intro r hr
          rcases List.mem_append.1 hr with hr | hr
          · exact h9 r hr
          · rw [List.mem_singleton.1 hr]; exact hz) (by
        rw [List.flatten_append]
        have wr2 : RepL (Rep (((h.new z' row).put b .dead).new z' (cs ++ row)) d) row fr br := wr.frame fun c hc => by
          have := hlr c hc
          exact ⟨by simp; omega, fr1 c this (fun hh => hdis b (by simp) (hh ▸ hc))⟩
        refine RepL.append (h10.frame fun c hc => ?_) (by simpa using wr2)
        have := hlt c (by simp [hc])
        exact ⟨by simp; omega, fr1 c this (fun hh => hd2.1 (hh ▸ hc))⟩)
      simpa using this
    · refine List.nodup_cons.2 ⟨fun hh => ?_, List.nodup_append.2 ⟨hd2.2, hd, fun a ha a' ha' hh => hdis a (by simp [ha]) (hh ▸ ha')⟩⟩
      rcases List.mem_append.1 hh with hh | hh
      · have := hlt (h.n + 1) (by simp [hh]); omega
      · have := hlr _ hh; omega
    · exact .inr ⟨h.n + 1, cs ++ row, by simp, by exact new_g ((h.new z' row).put b .dead) z' (cs ++ row)⟩
    · intro r hr
      rcases List.mem_append.1 hr with hr | hr
      · exact h9 r hr
      · rw [List.mem_singleton.1 hr]; exact hz
    · intro c hc
      rcases List.mem_cons.1 hc with h1 | h1
      · exact .inl h1
      rcases List.mem_append.1 h1 with h1 | h1
      · exact .inr (.inl (by simp [h1]))
      · exact .inr (.inr h1)
    · rw [new_g' (by simp; omega), put_g' (fun hh => hcb (by simp [hh])), new_g' (by omega)]
    · by_cases hcb : c = b
      · subst hcb
        refine .inr ⟨?_, by simp⟩
        rw [new_g' (by simp; omega)]
        exact put_g _ _ _
      · refine .inl ?_
        rw [new_g' (by simp; omega), put_g' hcb, new_g' (by omega)]
end Vm
/-
  Rows that are marked; rows of one's own.
-/
namespace Vm
open Go
/-! the text of a mark -/
/-! a row that is marked -/
theorem row_sc {r : RowD} : ∀ s ∈ r.cs, Sc s := by
  intro s hs
  simp only [List.mem_cons, List.not_mem_nil, or_false] at hs
  rcases hs with rfl | rfl | rfl | rfl <;> trivial
/-! a value of one's own -/
def OwnV (v : V) (f : S) (lo hi : Nat) (h : H) : Prop := ∃ y, v = .s y ∧ OwnF 5 y f lo hi h
theorem OwnV.frz {v : V} {rs : List (List S)} {lo hi : Nat} {h : H} (w : OwnV v (.fs rs) lo hi h) : frzV h v = some (lv rs) := by
  obtain ⟨y, rfl, w⟩ := w
  exact w.frz
theorem OwnV.sep {v : V} {f : S} {lo hi : Nat} {h : H} (w : OwnV v f lo hi h) (hn : hi ≤ h.n) : Sep (OwnV v f lo hi) lo hi h := ⟨hn, fun h' hn' hg => by
  obtain ⟨y, rfl, w⟩ := w
  exact ⟨y, rfl, (w.sep hn).q h' hn' hg⟩⟩
theorem OwnV.pv {cl : Nat → List V → H → Option (V × H)} {g : Nat} {off : Bool} {xs : List V} {h : H} {n : Nat} {v : V} {f : S} {h1 : H} (hn : h.n = n) (hc : cl g xs (D n) = some (v, h1)) (hw : n ≤ h1.n ∧ OwnV v f n h1.n h1) :
    ∃ h', (∀ (R : Type) (k : V → H → Option R), pcallF cl g off xs h k = k v h') ∧ Up h h' ∧ n ≤ h'.n ∧ Sep (OwnV v f n h'.n) n h'.n h' := by
  obtain ⟨hle, y, rfl, w⟩ := hw
  obtain ⟨h', e, u, hn', w'⟩ := pV (off := off) hn hc hle w
  exact ⟨h', e, u, hn', OwnV.sep ⟨y, rfl, w'.now⟩ (Nat.le_refl _)⟩
/-- flat rows in one block -/
theorem own_flat {h : H} {n z : Nat} {rows : List (List S)} (hn : n < h.n) (hz0 : 0 < z) (hg : h.g n = .rw z rows.flatten) (hz : ∀ r ∈ rows, r.length = z) (hs : ∀ r ∈ rows, ∀ s ∈ r, Sc s) : OwnV (sv n 0 rows.length) (.fs rows) n h.n h := by
  refine ⟨_, rfl, [n], ?_, by simp, by simpa using hn⟩
  exact Rep.sl (bss := []) hn hz0 hg hz (RepL.sc fun s hs' => by
    obtain ⟨r, h1, h2⟩ := List.mem_flatten.1 hs'
    exact hs r h1 s h2)
theorem rws_sc {rs : List RowD} : ∀ r ∈ rws rs, ∀ s ∈ r, Sc s := by
  intro r hr
  obtain ⟨c, _, rfl⟩ := List.mem_map.1 hr
  exact row_sc
theorem NewRw.own {n : Nat} {h : H} {v : V} {rs : List RowD} (w : NewRw n h v rs) : n ≤ h.n ∧ OwnV v (.fs (rws rs)) n h.n h := by
  have := own_flat (h := h) (n := n) (z := 4) (rows := rws rs) (by have := w.le; omega) (by omega) w.g rws_row rws_sc
  rw [rws_len] at this
  rw [w.v]
  exact ⟨by have := w.le; omega, this⟩
/-! results of rows -/
end Vm
/-
  Slices of flat rows that grow in a loop.
-/
namespace Vm
open Go
theorem app_flat {z : Nat} {y : S} {rows : List (List S)} {bs : List Nat} {h : H} {row : List S} (w : OutS z 0 y rows bs h) (hs : ∀ s ∈ row, Sc s) (hz : row.length = z) (hz0 : 0 < z) (hl : rows.length + 1 ≤ lim) :
    ∃ h' bs', appS z (h.new z row) (.s y) (sv h.n 0 1) = some (sv (h.n + 1) 0 (rows.length + 1), h') ∧ OutS z 0 (.sl (some (h.n + 1, 0)) (rows.length + 1)) (rows ++ [row]) bs' h' ∧ h'.n = h.n + 2 ∧ (∀ c ∈ bs', c = h.n + 1 ∨ c ∈ bs) ∧ (∀ c, c < h.n → c ∉ bs → h'.g c = h.g c) := by
  obtain ⟨h', bs', e, o, n, m, k, _, _⟩ := app_row (fr := row) (br := []) w (RepL.sc hs) hz hz0 (by simp) (by simp) hl
  exact ⟨h', bs', e, o, n, fun c hc => by rcases m c hc with h | h | h <;> simp_all, k⟩
/-- a slice that grows over what stood in a heap of height n -/
def Gr (z n : Nat) (h0 : H) (y : S) (rows : List (List S)) (h : H) : Prop := n ≤ h.n ∧ (∀ c, c < n → h.g c = h0.g c) ∧ ∃ bs, OutS z 0 y rows bs h ∧ ∀ b ∈ bs, n ≤ b
theorem Gr.none {z n : Nat} {h : H} (hn : n ≤ h.n) : Gr z n h (.sl none 0) [] h := ⟨hn, fun _ _ => rfl, [], OutS.none, by simp⟩
theorem Gr.new {z : Nat} {h : H} (hz0 : 0 < z) : Gr z h.n h (.sl (some (h.n, 0)) 0) [] (h.new z []) := by
  refine ⟨by simp, fun c hc => new_g' (by omega), [h.n], ⟨?_, by simp, .inr ⟨h.n, [], rfl, new_g _ _ _⟩, by simp⟩, by simp⟩
  exact Rep.sl (rows := []) (bss := []) (by simp) hz0 (new_g _ _ _) (by simp) .nil
theorem Gr.keep {z n : Nat} {h0 h h' : H} {y : S} {rows : List (List S)} (w : Gr z n h0 y rows h) (x : HKeep h h') : Gr z n h0 y rows h' := by
  obtain ⟨w1, w2, bs, w3, w4⟩ := w
  exact ⟨Nat.le_trans w1 x.1, fun c hc => (x.2 c (by omega)).1.trans (w2 c hc), bs, w3.frame fun b hb => by
    have := w3.rep.lt b hb
    exact ⟨by have := x.1; omega, (x.2 b this).1⟩, w4⟩
theorem Gr.app {z n : Nat} {h0 h : H} {y : S} {rows : List (List S)} {row : List S} (w : Gr z n h0 y rows h) (hs : ∀ s ∈ row, Sc s) (hz : row.length = z) (hz0 : 0 < z) (hl : rows.length + 1 ≤ lim) :
    ∃ h', appS z (h.new z row) (.s y) (sv h.n 0 1) = some (sv (h.n + 1) 0 (rows.length + 1), h') ∧ Gr z n h0 (.sl (some (h.n + 1, 0)) (rows.length + 1)) (rows ++ [row]) h' ∧ h'.n = h.n + 2 := by
  obtain ⟨w1, w2, bs, w3, w4⟩ := w
  obtain ⟨h', bs', e, o, hn, m, k⟩ := app_flat w3 hs hz hz0 hl
  refine ⟨h', e, ⟨by omega, fun c hc => (k c (by omega) fun hh => by have := w4 c hh; omega).trans (w2 c hc), bs', o, fun b hb => ?_⟩, hn⟩
  rcases m b hb with rfl | hb
  · omega
  · exact w4 b hb
theorem Gr.own {z n : Nat} {h0 h : H} {y : S} {rows : List (List S)} (w : Gr z n h0 y rows h) : OwnF 1 y (.fs rows) n h.n h := by
  obtain ⟨w1, w2, bs, w3, w4⟩ := w
  exact ⟨bs, w3.rep, w3.nd, fun b hb => ⟨w4 b hb, w3.rep.lt b hb⟩⟩
theorem Gr.frz {z n : Nat} {h0 h : H} {y : S} {rows : List (List S)} (w : Gr z n h0 y rows h) : frzV h (.s y) = some (lv rows) := w.own.frz
theorem OwnF.lift {d k : Nat} {y f : S} {lo hi : Nat} {h : H} (w : OwnF d y f lo hi h) (hk : d ≤ k) : OwnF k y f lo hi h := by
  obtain ⟨bs, a, b, c⟩ := w
  exact ⟨bs, a.lifts hk, b, c⟩
theorem OwnF.no {d : Nat} {y f : S} {lo hi : Nat} {h : H} (w : OwnF d y f lo hi h) : isNo y = false := by
  obtain ⟨bs, a, b, c⟩ := w
  exact a.isNo
/-- the value that grew is not let go -/
theorem grow_tidy {h h' : H} {l : List V} {m k : Nat} (hm : h.n ≤ m) (hl : sv m 0 k ∈ l) : tidy h l h' = h' := by
  refine no_tidy_v ?_
  rw [List.all_eq_false]
  exact ⟨_, hl, by simp [belV, belS]; omega⟩
end Vm
/-
  Slices of flat rows that fill their block; a row put among others.
-/
namespace Vm
open Go
theorem ldK_agg {R : Type} {t : VT} {ti : TI} {h : H} {b o : Nat} {cs : List S} {k : V → Option R} (ha : ti.agg = true) (hl : loadN ti.z h (pv b o) = some cs) : ldK t ti h (pv b o) k = k (.agg cs) := by
  simp only [ldK, ldT, ha, cond_true]; rw [hl, ob]
theorem loadN_cs {h : H} {b : Nat} {cs : List S} {n : Nat} (hb : b < h.n) (hc : h.cells b = cs) (hn : cs.length = n) : loadN n h (pv b 0) = some cs := by
  simp only [loadN]
  rw [if_pos ⟨hb, by rw [hc]; omega⟩, hc, List.drop_zero, List.take_of_length_le (by omega)]
theorem load1_cs {h : H} {b o : Nat} {cs : List S} {x : S} (hc : h.cells b = cs) (hx : cs[o]? = some x) : load1 h (pv b o) = some x := by
  simp only [load1]; rw [hc, hx]
def insR (r : RowD) (ks : List RowD) : List RowD := ks.takeWhile (befB · r) ++ r :: ks.dropWhile (befB · r)
theorem ins_len {r : RowD} {ks : List RowD} : (insR r ks).length = ks.length + 1 := by
  unfold insR
  have := congrArg List.length (List.takeWhile_append_dropWhile (p := (befB · r)) (l := ks))
  simp only [List.length_append, List.length_cons] at *; omega
theorem frz_pv {h : H} {b : Nat} {cs : List S} (hb : b < h.n) (hg : h.g b = .rw 0 cs) (hc : ∀ s ∈ cs, Cl s) : frzV h (pv b 0) = some (fv cs 0) := by
  have h7 : mapO (frzS h 7) cs = some cs := mapO_cl hc
  simp only [frzV, frzS, hb, if_true, hg, h7, Option.bind_some]
/-- a slice of flat rows that fills its block -/
structure FlS (z : Nat) (h : H) (v : V) (rows : List (List S)) (b : Nat) : Prop where
  v : v = sv b 0 rows.length
  n : b < h.n
  g : h.g b = .rw z rows.flatten
  z : ∀ r ∈ rows, r.length = z
theorem FlS.cells {z b : Nat} {h : H} {v : V} {rows : List (List S)} (w : FlS z h v rows b) : cellsS z h v = some rows.flatten := by
  have hc : h.cells b = rows.flatten := by unfold H.cells; rw [if_pos w.n, w.g]; rfl
  have hl := flat_len w.z
  rw [w.v]
  simp only [cellsS, hc]
  rw [if_pos ⟨w.n, by omega⟩, List.drop_zero, List.take_of_length_le (by omega)]
theorem cellsS_lv {z : Nat} {h : H} {rows : List (List S)} (hz : ∀ r ∈ rows, r.length = z) : cellsS z h (lv rows) = some rows.flatten := by
  simp only [cellsS, if_pos hz]
theorem cellsS_row {z : Nat} {h : H} {row : List S} (hz : row.length = z) : cellsS z (h.new z row) (sv h.n 0 1) = some row := by
  have c2 : (h.new z row).cells h.n = row := by unfold H.cells; rw [if_pos (by simp), new_g]; rfl
  simp only [cellsS, c2]
  rw [if_pos ⟨by simp, by omega⟩, List.drop_zero, List.take_of_length_le (by omega)]
theorem app_fl {z b : Nat} {h : H} {v y : V} {rows more : List (List S)} (w : FlS z h v rows b) (hm : ∀ r ∈ more, r.length = z) (hc : cellsS z h y = some more.flatten) (hy : lenS y = some more.length) (hz0 : 0 < z) (hl : rows.length + more.length ≤ lim) :
    ∃ v' h', appS z h v y = some (v', h') ∧ FlS z h' v' (rows ++ more) h.n ∧ h'.n = h.n + 1 ∧ ∀ c, c < h.n → c ≠ b → h'.g c = h.g c := by
  have h1 := w.cells
  obtain ⟨rfl, w2, w3, w4⟩ := w
  refine ⟨sv h.n 0 (rows.length + more.length), (h.put b .dead).new z (rows.flatten ++ more.flatten), ?_, ⟨by rw [List.length_append], by simp, ?_, ?_⟩, by simp, fun c hc hcb => ?_⟩
  · simp only [appS, h1, hc, hy, Option.bind_some]
    rw [if_pos ⟨w2, hl, hz0⟩, w3]
    simp
  · rw [List.flatten_append]; exact new_g (h.put b .dead) _ _
  · intro r hr
    rcases List.mem_append.1 hr with hr | hr
    · exact w4 r hr
    · exact hm r hr
  · rw [new_g' (by simp; omega), put_g' hcb]
theorem FlS.nil {z : Nat} {h : H} : FlS z (h.new z []) (sv h.n 0 0) [] h.n := ⟨rfl, by simp, new_g _ _ _, by simp⟩
theorem FlS.keep {z b : Nat} {h h' : H} {v : V} {rows : List (List S)} (w : FlS z h v rows b) (hn : h.n ≤ h'.n) (hg : h'.g b = h.g b) : FlS z h' v rows b := ⟨w.v, by have := w.n; omega, by rw [hg]; exact w.g, w.z⟩
theorem FlS.own {z b n : Nat} {h : H} {y : S} {rows : List (List S)} (w : FlS z h (.s y) rows b) (hz0 : 0 < z) (hn : n ≤ b) (hs : ∀ r ∈ rows, ∀ s ∈ r, Sc s) : OwnF 1 y (.fs rows) n h.n h := by
  have hv := w.v
  injection hv with hv
  subst hv
  refine ⟨[b], ?_, by simp, by simpa using ⟨hn, w.n⟩⟩
  exact Rep.sl (bss := []) w.n hz0 w.g w.z (RepL.sc fun s hs' => by
    obtain ⟨r, h1, h2⟩ := List.mem_flatten.1 hs'
    exact hs r h1 s h2)
theorem FlS.frz {b z : Nat} {h : H} {v : V} {rows : List (List S)} (w : FlS z h v rows b) (hz0 : 0 < z) (hs : ∀ r ∈ rows, ∀ s ∈ r, Sc s) : frzV h v = some (lv rows) := by
  rw [w.v]; exact frzV_sv w.n hz0 w.g w.z fun r hr s h => (hs r hr s h).cl
/-- out of what is one's own -/
theorem OwnF.fl {z lo hi : Nat} {h : H} {y : S} {rows : List (List S)} (w : OwnF 1 y (.fs rows) lo hi h) (hz : ∀ r ∈ rows, r.length = z) (hs : ∀ r ∈ rows, ∀ s ∈ r, Sc s) (hne : rows ≠ []) : ∃ b, FlS z h (.s y) rows b ∧ lo ≤ b ∧ b < hi := by
  obtain ⟨bs, w1, w2, w3⟩ := w
  rcases w1 with ⟨⟨h1, h2⟩ | ⟨h1, h2⟩, h3⟩ | ⟨b, z', cs, rows', bss, h1, h0, h2, h3, h4, h5, h6, h7⟩
  · rw [← h2] at h1; exact h1.elim
  · injection h2 with h2; exact absurd h2 hne
  · injection h0 with h0
    subst h0
    obtain ⟨rfl, rfl⟩ := h7.of_sc fun s hs' => by
      obtain ⟨r, h8, h9⟩ := List.mem_flatten.1 hs'
      exact hs r h8 s h9
    obtain ⟨r, rows', rfl⟩ := List.exists_cons_of_ne_nil hne
    have : z' = z := by rw [← h6 r (by simp), hz r (by simp)]
    subst this
    exact ⟨b, ⟨by rw [h1], h3, h5, h6⟩, w3 b (by rw [h2]; simp)⟩
theorem flat_get {z : Nat} : ∀ {rows : List (List S)} {i j : Nat} {r : List S}, (∀ r ∈ rows, r.length = z) → rows[i]? = some r → j < z → rows.flatten[i * z + j]? = r[j]?
  | [], i, j, r, _, h, _ => by simp at h
  | q :: rows, 0, j, r, hz, h, hj => by
    simp only [List.getElem?_cons_zero, Option.some.injEq] at h
    subst h
    rw [List.flatten_cons, Nat.zero_mul, Nat.zero_add, List.getElem?_append_left (by rw [hz q (by simp)]; exact hj)]
  | q :: rows, i + 1, j, r, hz, h, hj => by
    rw [List.getElem?_cons_succ] at h
    have hq := hz q (by simp)
    rw [List.flatten_cons, List.getElem?_append_right (by rw [hq, Nat.succ_mul]; omega), hq, show (i + 1) * z + j - z = i * z + j from by rw [Nat.succ_mul]; omega]
    exact flat_get (fun r hr => hz r (by simp [hr])) h hj
theorem FlS.ld {b i j : Nat} {h : H} {v : V} {rs : List RowD} {r : RowD} {x : S} (w : FlS 4 h v (rws rs) b) (hr : rs[i]? = some r) (hj : j < 4) (hx : r.cs[j]? = some x) : load1 h (pv b (i * 4 + j)) = some x := by
  refine load1_cs (cs := (rws rs).flatten) (by unfold H.cells; rw [if_pos w.n, w.g]; rfl) ?_
  rw [flat_get w.z (rws_get hr) hj, hx]
theorem p_before_pv {h : H} {b : Nat} {k r : RowD} (hb : b < h.n) (hg : h.g b = .rw 0 r.cs) : (frzVs h [fv k.cs 0, pv b 0]).bind (fun l203 => some (normVs [4, 4] l203)) = some [fv k.cs 0, fv r.cs 0] := by
  have e1 : frzV h (fv k.cs 0) = some (fv k.cs 0) := by simp
  rw [frzVs_cons e1 (frzVs_cons (frz_pv hb hg row_cl) frzVs_nil), Vm.ob]; rfl
theorem slF_rws {rs : List RowD} {k : Nat} {R : Type} {f : List (List S) → Option R} (hk : k ≤ rs.length) : slF 4 (rws rs) none (some (iv .i64 (k : Int))) f = f (rws (rs.take k)) ∧ slF 4 (rws rs) (some (iv .i64 (k : Int))) none f = f (rws (rs.drop k)) := by
  have hb : bnd (rws rs).length (iv .i64 (k : Int)) = some k := by rw [rws_len]; exact bnd_of hk
  unfold slF
  refine ⟨?_, ?_⟩
  · simp only [Option.bind_some, hb]
    rw [if_pos rws_row, List.drop_zero]; simp [rws, List.map_take]
  · simp only [Option.bind_some, hb]
    rw [if_pos rws_row, List.take_length]; simp [rws, List.map_drop]
theorem tw_pos {k r : RowD} {ks : List RowD} (h : befB k r = true) : (k :: ks).takeWhile (befB · r) = k :: ks.takeWhile (befB · r) ∧ (k :: ks).dropWhile (befB · r) = ks.dropWhile (befB · r) := by
  rw [List.takeWhile_cons, List.dropWhile_cons]; simp [h]
theorem tw_neg {k r : RowD} {ks : List RowD} (h : befB k r = false) : (k :: ks).takeWhile (befB · r) = [] ∧ (k :: ks).dropWhile (befB · r) = k :: ks := by
  rw [List.takeWhile_cons, List.dropWhile_cons]; simp [h]
theorem tw_dw {r : RowD} : ∀ (ks : List RowD), ks.take (ks.takeWhile (befB · r)).length = ks.takeWhile (befB · r) ∧ ks.drop (ks.takeWhile (befB · r)).length = ks.dropWhile (befB · r)
  | [] => ⟨rfl, rfl⟩
  | k :: ks => by
    obtain ⟨i1, i2⟩ := tw_dw (r := r) ks
    cases hb : befB k r with
    | true => rw [(tw_pos hb).1, (tw_pos hb).2]; exact ⟨by rw [List.length_cons, List.take_succ_cons, i1], by rw [List.length_cons, List.drop_succ_cons, i2]⟩
    | false => rw [(tw_neg hb).1, (tw_neg hb).2]; exact ⟨rfl, rfl⟩
end Vm
/-
  Where a row with a table and a key stands; how long texts of a table may be.
-/
namespace Vm
open Go
def atF (t k : Int) : List RowD → Nat → Int
  | [], _ => -1
  | r :: rs, i => if r.tab = t ∧ r.key = k then i else atF t k rs (i + 1)
theorem atF_some {t k : Int} : ∀ (rs : List RowD) (i : Nat), atF t k rs i = -1 ∨ ∃ j r, rs[j]? = some r ∧ atF t k rs i = ((i + j : Nat) : Int) ∧ r.tab = t ∧ r.key = k
  | [], i => .inl rfl
  | r :: rs, i => by
    unfold atF
    by_cases h : r.tab = t ∧ r.key = k
    · rw [if_pos h]; exact .inr ⟨0, r, rfl, rfl, h⟩
    · rw [if_neg h]
      rcases atF_some rs (i + 1) with h1 | ⟨j, q, h1, h2, h3⟩
      · exact .inl h1
      · exact .inr ⟨j + 1, q, by simpa using h1, by rw [h2]; omega, h3⟩
theorem p_l6At {all : List RowD} {t k : Int} (hl : all.length ≤ maxLen) : pureV (call Ev) Fn.spec_l6At [lv (rws all), iv .i64 t, iv .i64 k] = some (iv .i64 (atF t k all 0)) := by
  unfold maxLen at hl
  have loop : ∀ (rs : List RowD) (i : Nat), all.drop i = rs → Lp.spec_l6At 0 [lv (rws all), iv .i64 t, iv .i64 k, iv .i64 i] (D 0) = some (if atF t k rs i = -1 then .done [] (D 0) else .ret (iv .i64 (atF t k rs i)) (D 0)) := by
    intro rs
    induction rs with
    | nil =>
      intro i hi
      have := drop_nil hi
      rw [eq_spec_l6At_l0, vcase_b, if_neg (by simp; omega), tidy_self]; rfl
    | cons r rs ih =>
      intro i hi
      obtain ⟨g1, g2, g3⟩ := drop_cons hi
      have ih' := ih (i + 1) g2
      rw [eq_spec_l6At_l0, vcase_b, if_pos (by simp; omega), idxF_rw g1]
      simp only [ob, gx0, gI_i, vcase_b, beq_iff_eq, tidy_self]
      rw [idxF_rw g1, w64 (by omega) (by omega), show (i : Int) + 1 = ((i + 1 : Nat) : Int) from by omega]
      simp only [ob, gx0, gx1, gI_i, vcase_b, beq_iff_eq]
      rw [ih']
      by_cases h1 : r.tab = t
      · by_cases h2 : r.key = k
        · have e : atF t k (r :: rs) i = i := by unfold atF; rw [if_pos ⟨h1, h2⟩]
          rw [if_pos h1, if_pos h2, e, if_neg (by omega)]
        · have e : atF t k (r :: rs) i = atF t k rs (i + 1) := by rw [atF]; rw [if_neg (fun h => h2 h.2)]
          rw [if_pos h1, if_neg h2, e]
      · have e : atF t k (r :: rs) i = atF t k rs (i + 1) := by rw [atF]; rw [if_neg (fun h => h1 h.1)]
        rw [if_neg h1, e]
  rw [pu_spec_l6At, show iv .i64 0 = iv .i64 ((0 : Nat) : Int) from rfl, loop all 0 rfl, ob]
  by_cases h0 : atF t k all 0 = -1
  · rw [if_pos h0, h0]; rfl
  · rw [if_neg h0, lcase_ret]; simp
/-- how long texts of a table may be -/
def lngF (t : Int) : List RowD → Option Int
  | [] => none
  | r :: rs => if r.tab = 0 ∧ r.key = t then some r.val else lngF t rs
theorem lng_at {t : Int} : ∀ (rs : List RowD) (i : Nat), (atF 0 t rs i = -1 ∧ lngF t rs = none) ∨ ∃ j r, rs[j]? = some r ∧ atF 0 t rs i = ((i + j : Nat) : Int) ∧ lngF t rs = some r.val
  | [], i => .inl ⟨rfl, rfl⟩
  | r :: rs, i => by
    unfold atF lngF
    by_cases h : r.tab = 0 ∧ r.key = t
    · rw [if_pos h, if_pos h]; exact .inr ⟨0, r, rfl, rfl, rfl⟩
    · rw [if_neg h, if_neg h]
      rcases lng_at rs (i + 1) with h1 | ⟨j, q, h1, h2, h3⟩
      · exact .inl h1
      · exact .inr ⟨j + 1, q, by simpa using h1, by rw [h2]; omega, h3⟩
theorem p_l8Longest {all : List RowD} {t : Int} (hl : all.length ≤ maxLen) : pureV (call Ev) Fn.spec_l8Longest [lv (rws all), iv .i64 t] = some (iv .i64 ((lngF t all).getD (-1))) := by
  rw [pu_spec_l8Longest, pc (p_l6At hl) rfl]
  simp only [gV1_s, gI_i, vcase_b, decide_eq_true_eq]
  rcases lng_at (t := t) all 0 with ⟨h1, h2⟩ | ⟨j, r, h1, h2, h3⟩
  · rw [h1, h2, if_pos (by omega)]; rfl
  · rw [h2, h3, if_neg (by omega), Nat.zero_add, idxF_rw h1]
    simp only [gx0, gx1, ob, gI_i]; rfl
theorem p_longest {all : List RowD} {t : Int} (hl : all.length ≤ maxLen) : pureV (call Ev) Fn.impl_longest [lv (rws all), iv .i64 t] = some (.tup [.s (.int .i64 ((lngF t all).getD 0)), .s (.bool (lngF t all).isSome)]) := by
  unfold maxLen at hl
  have loop : ∀ (rs : List RowD) (i : Nat), all.drop i = rs → ∃ h', Lp.impl_longest 0 [iv .i64 t, lv (rws all), iv .i64 (all.length : Int), iv .i64 i] (D 0) = some (match lngF t rs with | none => .done [] h' | some x => .ret (.tup [.s (.int .i64 x), .s (.bool true)]) h') := by
    intro rs
    induction rs with
    | nil =>
      intro i hi
      have := drop_nil hi
      refine ⟨D 0, ?_⟩
      rw [eq_impl_longest_l0, vcase_b, if_neg (by simp; omega), tidy_self]; rfl
    | cons r rs ih =>
      intro i hi
      obtain ⟨g1, g2, g3⟩ := drop_cons hi
      obtain ⟨h', ih'⟩ := ih (i + 1) g2
      rw [eq_impl_longest_l0, vcase_b, if_pos (by simp; omega), idxF_rw g1, rowN_rw]
      simp only [ob, gx0, gx1, gI_i, gS_s, ln0, ln1, Nat.zero_add, Nat.reduceAdd, if_true]
      rw [stK_row, load_0, load_1, load_2]
      simp only [ob, gI_i, vcase_b, beq_iff_eq]
      rw [putR_tidy rfl, w64 (by omega) (by omega), show (i : Int) + 1 = ((i + 1 : Nat) : Int) from by omega, ih']
      by_cases h1 : r.tab = 0
      · by_cases h2 : r.key = t
        · have e : lngF t (r :: rs) = some r.val := by rw [lngF, if_pos ⟨h1, h2⟩]
          rw [e, if_pos h1, if_pos h2]; exact ⟨_, rfl⟩
        · have e : lngF t (r :: rs) = lngF t rs := by rw [lngF, if_neg (fun h => h2 h.2)]
          rw [e, if_pos h1, if_neg h2]; exact ⟨_, rfl⟩
      · have e : lngF t (r :: rs) = lngF t rs := by rw [lngF, if_neg (fun h => h1 h.1)]
        rw [e, if_neg h1]; exact ⟨_, rfl⟩
  obtain ⟨h', e⟩ := loop all 0 rfl
  rw [pu_impl_longest, rws_len, show iv .i64 0 = iv .i64 ((0 : Nat) : Int) from rfl, e, ob]
  cases lngF t all with
  | none => rfl
  | some x => rw [lcase_ret]; simp; rfl
/-- rows without a fault have no value below 0 -/
theorem rowF_val {r : RowD} (h : rowF r = 0) : 0 ≤ r.val := by
  unfold rowF inB at h
  split at h
  · rename_i h2; simp only [Bool.and_eq_true, decide_eq_true_eq] at h2; omega
  · omega
theorem rowsFrom_all : ∀ {rs : List RowD} {p : Option RowD}, rowsFrom p rs = 0 → ∀ r ∈ rs, rowF r = 0
  | [], _, _ => by simp
  | r :: rs, p, h => by
    have h0 : rowF r = 0 := by
      by_cases h0 : rowF r = 0
      · exact h0
      · rw [rowsFrom_n h0] at h; exact absurd h h0
    have h2 : rowsFrom (some r) rs = 0 := by
      cases p with
      | none => rw [rowsFrom_0 h0] at h; exact h
      | some q =>
        cases hb : befB q r with
        | false => rw [rowsFrom_1 h0 hb] at h; omega
        | true => rw [rowsFrom_2 h0 hb] at h; exact h
    intro x hx
    rcases List.mem_cons.1 hx with rfl | hx
    · exact h0
    · exact rowsFrom_all h2 x hx
theorem rowsF_all {rs : List RowD} (h : rowsF rs = 0) : ∀ r ∈ rs, rowF r = 0 := by
  unfold rowsF at h
  split at h
  · omega
  · exact rowsFrom_all h
theorem lngF_pos {t : Int} : ∀ {rs : List RowD} {x : Int}, (∀ r ∈ rs, rowF r = 0) → lngF t rs = some x → 0 ≤ x
  | [], x, _, h => by cases h
  | r :: rs, x, hr, h => by
    unfold lngF at h
    split at h
    · cases h; exact rowF_val (hr r (by simp))
    · exact lngF_pos (fun q hq => hr q (by simp [hq])) h
def longF (rs : List RowD) (t : Int) : Int × Int := if rowsF rs = 0 then (if inB t 1 3 then (match lngF t rs with | none => (4, 0) | some x => (0, x)) else (3, 0)) else (rowsF rs, 0)
theorem p_spec_LongestIn {all : List RowD} {t : Int} (hs : ∀ r ∈ all, r.text.size ≤ maxLen) (hl : all.length ≤ maxLen) : pureV (call Ev) Fn.spec_LongestIn [lv (rws all), iv .i64 t] = some (.agg [.int .i64 (longF all t).1, .int .i64 (longF all t).2]) := by
  rw [pu_spec_LongestIn, pc (p_l6Rows hs hl) rfl]
  simp only [gV1_s, gI_i, vcase_b, bne_iff_ne, ne_eq]
  unfold longF
  by_cases h0 : rowsF all = 0
  · rw [if_neg (by simp [h0]), pc (p_l1In _ _ _) rfl, if_pos h0]
    simp only [gV1_s, gB_b, vcase_b]
    cases hb : inB t 1 3
    · rfl
    · rw [if_neg (by simp), pc (p_l8Longest hl) rfl, if_pos rfl]
      simp only [gV1_s, gI_i, vcase_b, decide_eq_true_eq]
      cases hx : lngF t all with
      | none => rfl
      | some x =>
        have := lngF_pos (rowsF_all h0) hx
        rw [Option.getD_some, if_neg (by omega)]
  · rw [if_pos h0, if_neg h0]
theorem p_LongestIn {all : List RowD} {t : Int} (hs : ∀ r ∈ all, r.text.size ≤ maxLen) (hl : all.length ≤ maxLen) : pureV (call Ev) Fn.impl_LongestIn [lv (rws all), iv .i64 t] = some (.agg [.int .i64 (longF all t).1, .int .i64 (longF all t).2]) := by
  rw [pu_impl_LongestIn, pc (p_RowsFault hs hl) rfl]
  simp only [gV1_s, gI_i, vcase_b, bne_iff_ne, ne_eq]
  unfold longF
  by_cases h0 : rowsF all = 0
  · rw [if_neg (by simp [h0]), pc (p_in _ _ _) rfl, if_pos h0]
    simp only [gV1_s, gB_b, vcase_b]
    cases hb : inB t 1 3
    · rfl
    · rw [if_neg (by simp), pc (p_longest hl) rfl, if_pos rfl]
      cases hx : lngF t all with
      | none => rfl
      | some x => rfl
  · rw [if_pos h0, if_neg h0]
end Vm
/-
  What is drawn out of bytes: numbers, choices, bytes.
-/
namespace Vm
open Go
/-- a source of numbers: bytes, and how many were drawn -/
structure Src (b : Nat) (l : List UInt8) (a : Nat) (h : H) : Prop where
  n : b < h.n
  g : h.g b = .rw 0 [.fs (bys l), .int .i64 a]
/-- the same but for the source: some numbers were drawn -/
structure Dr (b : Nat) (l : List UInt8) (a N : Nat) (h h' : H) : Prop where
  ex : ∃ a', Src b l a' h' ∧ a' ≤ a + N
  n : h.n ≤ h'.n
  o : ∀ c, c < h.n → c ≠ b → h'.g c = h.g c
theorem Src.mono {b : Nat} {l : List UInt8} {a : Nat} {h h' : H} (w : Src b l a h) (hn : h.n ≤ h'.n) (hg : h'.g b = h.g b) : Src b l a h' := ⟨by have := w.n; omega, hg.trans w.g⟩
theorem Src.up {b : Nat} {l : List UInt8} {a : Nat} {h h' : H} (w : Src b l a h) (u : Up h h') : Src b l a h' := w.mono u.n (u.g b w.n)
theorem Dr.tidy {b : Nat} {l : List UInt8} {a N : Nat} {h h' : H} (hb : b < h.n) (w : Dr b l a N h h') (vs : List V) : Dr b l a N h (Vm.tidy h vs h') := by
  unfold Vm.tidy
  split
  · obtain ⟨a', w1, w2⟩ := w.ex
    exact ⟨⟨a', ⟨hb, by simp only [if_pos hb]; exact w1.g⟩, w2⟩, Nat.le_refl _, fun c hc hcb => by simp only [if_pos hc]; exact w.o c hc hcb⟩
  · exact w
theorem Dr.refl {b : Nat} {l : List UInt8} {a : Nat} {h : H} (w : Src b l a h) : Dr b l a 0 h h := ⟨⟨a, w, by omega⟩, Nat.le_refl _, fun _ _ _ => rfl⟩
theorem Dr.up {b : Nat} {l : List UInt8} {a N : Nat} {h h' h'' : H} (w : Dr b l a N h h') (u : Up h' h'') : Dr b l a N h h'' := by
  obtain ⟨a', w1, w2⟩ := w.ex
  exact ⟨⟨a', w1.up u, w2⟩, Nat.le_trans w.n u.n, fun c hc hcb => (u.g c (Nat.lt_of_lt_of_le hc w.n)).trans (w.o c hc hcb)⟩
/-- a value of one's own stays behind a draw -/
theorem OwnF.dr {d lo hi : Nat} {y f : S} {b : Nat} {l : List UInt8} {a N : Nat} {h h' : H} (w : OwnF d y f lo hi h) (r : Dr b l a N h h') (hd : b < lo ∨ hi ≤ b) : OwnF d y f lo hi h' := by
  obtain ⟨bs, w1, w2, w3⟩ := w
  refine ⟨bs, w1.frame fun c hc => ?_, w2, w3⟩
  have := w3 c hc
  have := w1.lt c hc
  exact ⟨by have := r.n; omega, r.o c (by omega) (by omega)⟩
theorem bin_rem {t : Nat} {a b : Int} (ha : 0 ≤ a) (hb : 0 < b) : bin Ev .rem t (iv .i64 a) (iv .i64 b) = some (iv .i64 (a % b)) := by
  simp only [bin, binI, if_true]
  rw [if_neg (by omega), Int.tmod_eq_emod_of_nonneg ha]
theorem bin_quo {t : Nat} {a b : Int} (ha : 0 ≤ a) (hb : 0 < b) (h : a < 9223372036854775808) : bin Ev .quo t (iv .i64 a) (iv .i64 b) = some (iv .i64 (a / b)) := by
  have h1 : a / b ≤ a := Int.ediv_le_self _ ha
  have h2 : 0 ≤ a / b := Int.ediv_nonneg ha (by omega)
  simp only [bin, binI, if_true]
  rw [if_neg (by omega), Int.tdiv_eq_ediv_of_nonneg ha, w64 (by omega) (by omega)]
theorem idxK_fs {R : Type} {z : Nat} {rows : List (List S)} {k : IntKind} {j : Int} {f : V → Option R} : idxK z (.s (.fs rows)) (iv k j) f = idxF z rows j fun r => f (fv r 0) := id rfl
theorem ldK_by {R : Type} {h : H} {x : Int} {ti : TI} {f : V → Option R} (hz : ti.agg = false) : ldK (.one (.i .u8)) ti h (fv [.int .u8 x] 0) f = f (iv .u8 x) := by
  simp only [ldK, ldT, hz, cond_false, load1, gx0, ob, tyV, gV1_s, tyS, gI_i]
theorem r_nextE {b : Nat} {l : List UInt8} {a : Nat} {h : H} {n : Int} (w : Src b l a h) (hl : l.length ≤ 1048576) (ha : a < 1099511627776) (h1 : 1 ≤ n) (hn : n ≤ 1048576) :
    ∃ r h', call Ev Fn.spec_l1Next [pv b 0, iv .i64 n] h = some (iv .i64 r, h') ∧ 0 ≤ r ∧ r < n ∧ Src b l (a + 1) h' ∧ h'.n = h.n ∧ (∀ c, c ≠ b → h'.g c = h.g c) ∧ (∀ vs, Vm.tidy h vs h' = h') ∧ h' = h.put b (.rw 0 [.fs (bys l), .int .i64 ((a + 1 : Nat) : Int)]) := by
  have hb := w.n
  have ld : ∀ {K : H} {o m : Nat}, K.n = h.n → K.g b = .rw 0 [.fs (bys l), .int .i64 m] → load1 K (pv b o) = ([.fs (bys l), .int .i64 (m : Int)] : List S)[o]? := fun {K o m} hk hg => by simp [load1, H.cells, hk, hb, hg, Blk.cells]
  rw [eq_spec_l1Next, ld rfl w.g]
  simp only [Nat.zero_add, gx0, gx1, ob, gI_i]
  rw [w64 (n := (a : Int) + 1) (by omega) (by omega), show (a : Int) + 1 = ((a + 1 : Nat) : Int) from by omega]
  rw [stK_rw (z := 1) (e := 0) (o := 1) (b := b) (cs := [.fs (bys l), .int .i64 a]) (r := [.int .i64 ((a + 1 : Nat) : Int)]) hb w.g (.inl ⟨_, rfl, rfl, rfl⟩) rfl (by simp)]
  rw [show setAt [.fs (bys l), .int .i64 (a : Int)] 1 [S.int .i64 ((a + 1 : Nat) : Int)] = [.fs (bys l), .int .i64 ((a + 1 : Nat) : Int)] from rfl]
  generalize hK : h.put b (.rw 0 [.fs (bys l), .int .i64 ((a + 1 : Nat) : Int)]) = K
  have kn : K.n = h.n := by rw [← hK, put_n]
  have kg : K.g b = .rw 0 [.fs (bys l), .int .i64 ((a + 1 : Nat) : Int)] := by rw [← hK]; exact put_g _ _ _
  have ko : ∀ c, c ≠ b → K.g c = h.g c := fun c hc => by rw [← hK]; exact put_g' hc
  have kt : ∀ vs, Vm.tidy h vs K = K := fun vs => by rw [← hK]; exact tidy_put hb
  have fin : ∀ {r : Int}, 0 ≤ r → r < n → ∃ r' h', (some (iv .i64 r, K) : Option (V × H)) = some (iv .i64 r', h') ∧ 0 ≤ r' ∧ r' < n ∧ Src b l (a + 1) h' ∧ h'.n = h.n ∧ (∀ c, c ≠ b → h'.g c = h.g c) ∧ (∀ vs, Vm.tidy h vs h' = h') ∧ h' = K := fun h0 h1 => ⟨_, K, rfl, h0, h1, ⟨by omega, kg⟩, kn, ko, kt, rfl⟩
  rw [vcase_b, if_neg (by simp; omega), ld kn kg]
  simp only [gx0, gx1, ob, gI_i, ld kn kg, lenV, gV1_s, bys_len]
  rw [w64 (n := ((a + 1 : Nat) : Int) - 1) (by omega) (by omega), show ((a + 1 : Nat) : Int) - 1 = (a : Int) from by omega, vcase_b]
  by_cases hl0 : l.length = 0
  · rw [if_pos (by simp [hl0]), w64 (n := (a : Int) * 7) (by omega) (by omega), bin_rem (by omega) (by omega)]
    simp only [ob, gV1_s, gI_i]
    exact fin (Int.emod_nonneg _ (by omega)) (Int.emod_lt_of_pos _ (by omega))
  rw [if_neg (by simpa using hl0)]
  have hlp : (0 : Int) < (l.length : Int) := by omega
  have m1 := Int.emod_nonneg (a : Int) (show (l.length : Int) ≠ 0 by omega)
  have m2 := Int.emod_lt_of_pos (a : Int) hlp
  rw [bin_rem (by omega) hlp]
  simp only [ob, gV1_s, gI_i]
  rw [idxK_fs, idxF_by m1 m2, ldK_by rfl]
  simp only [gV1_s, gI_i]
  have d1 : (a : Int) / (l.length : Int) ≤ a := Int.ediv_le_self _ (by omega)
  have d2 : 0 ≤ (a : Int) / (l.length : Int) := Int.ediv_nonneg (by omega) (by omega)
  rw [bin_quo (by omega) hlp (by omega)]
  simp only [ob, gV1_s, gI_i]
  generalize (a : Int) / (l.length : Int) = q at d1 d2 ⊢
  have x1 := bt_nn l ((a : Int) % (l.length : Int))
  have x2 := bt_lt l ((a : Int) % (l.length : Int))
  generalize bt l ((a : Int) % (l.length : Int)) = x at x1 x2 ⊢
  rw [w64 (n := x) (by omega) (by omega), w64 (n := q * 37) (by omega) (by omega), w64 (n := x + q * 37) (by omega) (by omega), vcase_b]
  by_cases h2 : n > 200
  · rw [if_pos (by simpa using h2)]
    have m3 := Int.emod_nonneg ((a : Int) + 1) (show (l.length : Int) ≠ 0 by omega)
    have m4 := Int.emod_lt_of_pos ((a : Int) + 1) hlp
    rw [w64 (n := (a : Int) + 1) (by omega) (by omega), bin_rem (by omega) hlp]
    simp only [ob, gV1_s, gI_i]
    rw [idxK_fs, idxF_by m3 m4, ldK_by rfl]
    simp only [gV1_s, gI_i]
    have y1 := bt_nn l (((a : Int) + 1) % (l.length : Int))
    have y2 := bt_lt l (((a : Int) + 1) % (l.length : Int))
    generalize bt l (((a : Int) + 1) % (l.length : Int)) = y at y1 y2 ⊢
    rw [w64 (n := (x + q * 37) * 251) (by omega) (by omega), w64 (n := y) (by omega) (by omega), w64 (n := y * 13) (by omega) (by omega), w64 (n := (x + q * 37) * 251 + y * 13) (by omega) (by omega), w64 (n := (x + q * 37) * 251 + y * 13 + (a : Int)) (by omega) (by omega), bin_rem (by omega) (by omega)]
    simp only [ob, gV1_s, gI_i]
    exact fin (Int.emod_nonneg _ (by omega)) (Int.emod_lt_of_pos _ (by omega))
  · rw [if_neg (by simpa using h2), bin_rem (by omega) (by omega)]
    simp only [ob, gV1_s, gI_i]
    exact fin (Int.emod_nonneg _ (by omega)) (Int.emod_lt_of_pos _ (by omega))
theorem r_next {b : Nat} {l : List UInt8} {a : Nat} {h : H} {n : Int} (w : Src b l a h) (hl : l.length ≤ 1048576) (ha : a < 1099511627776) (h1 : 1 ≤ n) (hn : n ≤ 1048576) :
    ∃ r h', call Ev Fn.spec_l1Next [pv b 0, iv .i64 n] h = some (iv .i64 r, h') ∧ 0 ≤ r ∧ r < n ∧ Src b l (a + 1) h' ∧ h'.n = h.n ∧ (∀ c, c ≠ b → h'.g c = h.g c) ∧ ∀ vs, Vm.tidy h vs h' = h' := by
  obtain ⟨r, h', e, r0, r1, w1, w2, w3, w4, _⟩ := r_nextE w hl ha h1 hn
  exact ⟨r, h', e, r0, r1, w1, w2, w3, w4⟩
theorem r_chance {b : Nat} {l : List UInt8} {a : Nat} {h : H} {n : Int} (w : Src b l a h) (hl : l.length ≤ 1048576) (ha : a < 1099511627776) (h1 : 1 ≤ n) (hn : n ≤ 1048576) :
    ∃ r h', call Ev Fn.spec_l1Chance [pv b 0, iv .i64 n] h = some (bv r, h') ∧ Src b l (a + 1) h' ∧ h'.n = h.n ∧ (∀ c, c ≠ b → h'.g c = h.g c) ∧ ∀ vs, Vm.tidy h vs h' = h' := by
  obtain ⟨r, h', e, _, _, w1, w2, w3, w4⟩ := r_next w hl ha h1 hn
  rw [eq_spec_l1Chance, e]
  simp only [ob, gV1_s, gI_i]
  rw [w4]
  exact ⟨_, h', rfl, w1, w2, w3, w4⟩
/-- one of a list of numbers -/
theorem r_pick {b : Nat} {l : List UInt8} {a : Nat} {h : H} {xs : List Int} (w : Src b l a h) (hl : l.length ≤ 1048576) (ha : a < 1099511627776) (h1 : 1 ≤ xs.length) (hn : xs.length ≤ 1000) {q : Nat} (hq : q < h.n) (hqb : q ≠ b) (hg : h.g q = .rw 1 (xs.map fun x => .int .i64 x)) :
    ∃ x h', call Ev Fn.spec_l1Pick [pv b 0, sv q 0 xs.length] h = some (iv .i64 x, h') ∧ x ∈ xs ∧ Src b l (a + 1) h' ∧ h'.n = h.n ∧ (∀ c, c ≠ b → h'.g c = h.g c) ∧ ∀ vs, Vm.tidy h vs h' = h' := by
  obtain ⟨r, h', e, r0, r1, w1, w2, w3, w4⟩ := r_next w hl ha (n := (xs.length : Int)) (by omega) (by omega)
  obtain ⟨i, rfl⟩ : ∃ i : Nat, r = i := ⟨r.toNat, by omega⟩
  have hi : i < xs.length := by omega
  rw [eq_spec_l1Pick]
  simp only [lenV, ob, gV1_s, gI_i]
  rw [e]
  simp only [ob, gV1_s, gI_i]
  rw [w4, idxK_sv hi, Nat.mul_one]
  have ld : load1 h' (pv q i) = some (.int .i64 xs[i]) := by
    simp only [load1, H.cells, w2, hq, if_true, w3 q hqb, hg, Blk.cells]
    rw [List.getElem?_map, List.getElem?_eq_getElem hi]; rfl
  simp only [ldK, ldT, cond_false, ld, ob, gV1_s, gI_i]
  exact ⟨_, h', rfl, List.getElem_mem hi, w1, w2, w3, w4⟩
/-- the same, of a list just made -/
theorem r_pickN {b : Nat} {l : List UInt8} {a : Nat} {h : H} {xs : List Int} (w : Src b l a h) (hl : l.length ≤ 1048576) (ha : a < 1099511627776) (h1 : 1 ≤ xs.length) (hn : xs.length ≤ 1000) :
    ∃ x h', call Ev Fn.spec_l1Pick [pv b 0, sv h.n 0 xs.length] (h.new 1 (xs.map fun x => .int .i64 x)) = some (iv .i64 x, h') ∧ x ∈ xs ∧ Src b l (a + 1) h' ∧ h.n ≤ h'.n ∧ (∀ c, c < h.n → c ≠ b → h'.g c = h.g c) ∧ ∀ vs, Vm.tidy (h.new 1 (xs.map fun x => .int .i64 x)) vs h' = h' := by
  have hb := w.n
  obtain ⟨x, h', e, hx, w1, w2, w3, w4⟩ := r_pick (h := h.new 1 (xs.map fun x => .int .i64 x)) (w.up up_new) hl ha h1 hn (q := h.n) (by simp) (by omega) (new_g _ _ _)
  exact ⟨x, h', e, hx, w1, by rw [w2]; simp, fun c hc hcb => by rw [w3 c hcb, new_g' (by omega)], w4⟩

end Vm
/-
  What is drawn out of bytes: bytes.
-/
namespace Vm
open Go
end Vm
/-
  What is drawn out of bytes: bytes, rows.
-/
namespace Vm
open Go
/-- a block that stays -/
theorem Dr.keep {b : Nat} {l : List UInt8} {a N : Nat} {h h' : H} (r : Dr b l a N h h') {c : Nat} (hc : c < h.n) (hcb : c ≠ b) : h'.g c = h.g c := r.o c hc hcb
theorem st4_at {R : Type} {K : H} {n : Nat} {a b c d : S} {x y z u : S} {f : H → Option R} (hn : n < K.n) (hg : K.g n = .rw 0 [a, b, c, d]) : stK 4 K (pv n 0) (.agg [x, y, z, u]) f = f (K.put n (.rw 0 [x, y, z, u])) := by
  rw [stK_rw (z := 4) (e := 0) (o := 0) (b := n) (cs := [a, b, c, d]) (r := [x, y, z, u]) hn hg (.inr rfl) rfl (by simp)]
  rfl
theorem ld4_at {K : H} {n : Nat} {x y z u : S} (hn : n < K.n) (hg : K.g n = .rw 0 [x, y, z, u]) : loadN 4 K (pv n 0) = some [x, y, z, u] := loadN_rw hn hg (by simp)
/-- texts of a list -/
theorem ld_str {R : Type} {K : H} {q i : Nat} {ts : List ByteArray} {ti : TI} {f : V → Option R} (hq : q < K.n) (hg : K.g q = .rw 1 (ts.map fun t => .str t)) (hi : i < ts.length) (hz : ti.agg = false) : ldK (.one (.s)) ti K (pv q (i * 1)) f = f (.s (.str ts[i])) := by
  have ld : load1 K (pv q (i * 1)) = some (.str ts[i]) := by
    simp only [load1, H.cells, hq, if_true, hg, Blk.cells, Nat.mul_one]
    rw [List.getElem?_map, List.getElem?_eq_getElem hi]; rfl
  simp only [ldK, ldT, hz, cond_false, ld, ob]
def drT : List ByteArray := [⟨#[]⟩, ⟨#[97]⟩, ⟨#[97, 98, 99]⟩, ⟨#[97, 98, 99, 100, 101, 102, 103, 104]⟩]
theorem drT_ok {t : ByteArray} (h : t ∈ drT) : t.size ≤ 8 ∧ allLow t 0 = true := by
  simp only [drT, List.mem_cons, List.not_mem_nil, or_false] at h
  rcases h with rfl | rfl | rfl | rfl <;> exact ⟨by decide, by decide⟩
theorem r_draw {b : Nat} {l : List UInt8} {a : Nat} {h : H} (w : Src b l a h) (hl : l.length ≤ 1048576) (ha : a + 10 < 1099511627776) :
    ∃ r h', call Ev Fn.spec_l1Draw [pv b 0] h = some (.agg r.cs, h') ∧ rowF r = 0 ∧ Dr b l a 5 h h' := by
  have hb := w.n
  rw [eq_spec_l1Draw]
  have w0 : Src b l a (h.new 0 [.int .i64 0, .int .i64 0, .int .i64 0, .str ⟨#[]⟩]) := w.up up_new
  have g0 : (h.new 0 [.int .i64 0, .int .i64 0, .int .i64 0, .str ⟨#[]⟩]).g h.n = .rw 0 [.int .i64 0, .int .i64 0, .int .i64 0, .str ⟨#[]⟩] := new_g _ _ _
  have k0 : ∀ c, c < h.n → c ≠ b → (h.new 0 [.int .i64 0, .int .i64 0, .int .i64 0, .str ⟨#[]⟩]).g c = h.g c := fun c hc _ => new_g' (by omega)
  have n0 : (h.new 0 [.int .i64 0, .int .i64 0, .int .i64 0, .str ⟨#[]⟩]).n = h.n + 1 := new_n _ _ _
  generalize h.new 0 [.int .i64 0, .int .i64 0, .int .i64 0, .str ⟨#[]⟩] = A at w0 g0 k0 n0 ⊢
  obtain ⟨x1, h1, e1, a1, b1, w1, n1, o1, t1⟩ := r_next w0 hl (by omega) (n := 3) (by omega) (by omega)
  rw [e1]; simp only [ob, gV1_s, gI_i]; rw [t1]
  obtain ⟨x2, h2, e2, a2, b2, w2, n2, o2, t2⟩ := r_next w1 hl (by omega) (n := 6) (by omega) (by omega)
  rw [e2]; simp only [ob, gV1_s, gI_i]; rw [t2]
  obtain ⟨x3, h3, e3, a3, b3, w3, n3, o3, t3⟩ := r_next w2 hl (by omega) (n := 9) (by omega) (by omega)
  rw [e3]; simp only [ob, gV1_s, gI_i]; rw [t3]
  obtain ⟨x4, h4, e4, m4, w4, n4, o4, t4⟩ := r_pickN w3 hl (by omega) (xs := [x3, 300, 999]) (by simp) (by simp)
  simp only [List.length_cons, List.length_nil, Nat.zero_add, Nat.reduceAdd, List.map_cons, List.map_nil] at e4 t4
  rw [e4]; simp only [ob, gV1_s, gI_i]; rw [t4]
  have w4' : Src b l (a + 1 + 1 + 1 + 1) (h4.new 1 [.str ⟨#[]⟩, .str ⟨#[97]⟩, .str ⟨#[97, 98, 99]⟩, .str ⟨#[97, 98, 99, 100, 101, 102, 103, 104]⟩]) := w4.up up_new
  obtain ⟨x5, h5, e5, a5, b5, w5, n5, o5, t5⟩ := r_next w4' hl (by omega) (n := 4) (by omega) (by omega)
  rw [e5]; simp only [ob, gV1_s, gI_i]; rw [t5]
  obtain ⟨i, rfl⟩ : ∃ i : Nat, x5 = i := ⟨x5.toNat, by omega⟩
  have hb4 := w4.n
  have gs : h5.g h4.n = .rw 1 (drT.map fun t => .str t) := by rw [o5 h4.n (by omega)]; exact new_g _ _ _
  rw [idxK_sv (by omega), ld_str (by rw [n5, new_n]; omega) gs (by simp [drT]; omega) rfl]
  simp only [gV1_s, gS_s]
  have gr : h5.g h.n = .rw 0 [.int .i64 0, .int .i64 0, .int .i64 0, .str ⟨#[]⟩] := by
    rw [o5 h.n (by omega), new_g' (by omega), o4 h.n (by omega) (by omega), o3 h.n (by omega), o2 h.n (by omega), o1 h.n (by omega)]; exact g0
  have hn5 : h.n < h5.n := by rw [n5, new_n]; omega
  rw [st4_at hn5 gr, ld4_at (by rw [put_n]; exact hn5) (put_g _ _ _), ob]
  have ht := drT_ok (List.getElem_mem (show i < drT.length by simp [drT]; omega))
  refine ⟨⟨x1, IntKind.i64.wrap (1 + x2), x4, drT[i]'(by simp [drT]; omega)⟩, _, rfl, ?_, ⟨⟨_, ⟨by rw [put_n]; omega, by rw [put_g' (by omega)]; exact w5.g⟩, by omega⟩, by rw [put_n]; omega, fun c hc hcb => ?_⟩⟩
  · rw [w64 (by omega) (by omega)]
    have hv : 0 ≤ x4 ∧ x4 ≤ 999 := by
      simp only [List.mem_cons, List.not_mem_nil, or_false] at m4
      omega
    unfold rowF
    rw [if_pos (by simp [inB]; omega), if_pos (by simp [ht])]
  · rw [put_g' (by omega), o5 c hcb, new_g' (by omega), o4 c (by omega) hcb, o3 c hcb, o2 c hcb, o1 c hcb, k0 c hc hcb]
end Vm
/-
  What is drawn out of bytes: a row that may have a fault.
-/
namespace Vm
open Go
theorem rowF_00 {r : RowD} (h : rowF r = 0) : r.text.size ≤ 9 := by
  unfold rowF at h
  cases a : inB r.tab 0 3 <;> cases b : inB r.key 1 99 <;> cases c : inB r.val 0 999 <;> simp [a, b, c] at h
  have := h.1
  omega
abbrev z4' : List S := [.int .i64 0, .int .i64 0, .int .i64 0, .str (⟨#[]⟩)]
theorem bent_fin {Z : H} {n m : Nat} {r : RowD} (hn : n < Z.n) (hm : m < Z.n) (gn : Z.g n = .rw 0 r.cs) (gm : Z.g m = .rw 0 z4') :
    ((loadN 4 Z (pv n 0)).bind fun c => (c[0]?).bind fun x1 => gI .i64 x1 fun i1 => (c[1]?).bind fun x2 => gI .i64 x2 fun i2 => (c[2]?).bind fun x3 => gI .i64 x3 fun i3 => (c[3]?).bind fun x4 => gS x4 fun y =>
      if c.length = 4 then stK 4 Z (pv m 0) (.agg [.int .i64 i1, .int .i64 i2, .int .i64 i3, .str y]) fun h => (loadN 4 h (pv m 0)).bind fun c => some (V.agg c, h) else none) = some (.agg r.cs, Z.put m (.rw 0 r.cs)) := by
  rw [ld4_at hn gn, ob]
  simp only [gx0, gx1, ob, gI_i, gS_s, ln0, ln1, Nat.zero_add, Nat.reduceAdd, if_true]
  rw [st4_at hm gm, ld4_at (by rw [put_n]; exact hm) (put_g _ _ _), ob]
theorem st_fld {R : Type} {Z : H} {n o : Nat} {cs : List S} {v : V} {x : S} {f : H → Option R} (hn : n < Z.n) (gn : Z.g n = .rw 0 cs) (hv : v = .s x) (hx : isNo x = false) (ho : o + 1 ≤ cs.length) : stK 1 Z (pv n o) v f = f (Z.put n (.rw 0 (setAt cs o [x]))) :=
  stK_rw (z := 1) (e := 0) (o := o) (b := n) (cs := cs) (r := [x]) hn gn (.inl ⟨_, hv, rfl, hx⟩) rfl ho
theorem r_lbent {b : Nat} {l : List UInt8} {a : Nat} {h : H} (w : Src b l a h) (hl : l.length ≤ 1048576) (ha : a + 100 < 1099511627000) :
    ∃ (r : RowD) (h' : H), call Ev Fn.spec_l1Bent [pv b 0] h = some (.agg r.cs, h') ∧ r.text.size ≤ 9 ∧ Dr b l a 20 h h' := by
  have hb := w.n
  rw [eq_spec_l1Bent]
  have w0 : Src b l a (h.new 0 z4') := w.up up_new
  have g0 : (h.new 0 z4').g h.n = .rw 0 z4' := new_g _ _ _
  have k0 : ∀ c, c < h.n → (h.new 0 z4').g c = h.g c := fun c hc => new_g' (by omega)
  have n0 : (h.new 0 z4').n = h.n + 1 := new_n _ _ _
  change ∃ (r : RowD) (h' : H), ((call Ev Fn.spec_l1Draw [pv b 0] (h.new 0 z4')).bind _) = _ ∧ _
  generalize h.new 0 z4' = A at w0 g0 k0 n0 ⊢
  obtain ⟨r1, h1, e1, f1, d1⟩ := r_draw w0 hl (by omega)
  have ht := (rowF_00 f1)
  rw [e1, ob]
  simp only [gVA_a, gx0, gx1, ob, gI_i, gS_s, ln0, ln1, Nat.zero_add, Nat.reduceAdd, if_true]
  have d1' := d1.tidy (by omega) [V.agg r1.cs]
  change ∃ (r : RowD) (h' : H), stK 4 ((tidy A [V.agg r1.cs] h1).new 0 z4') (pv (tidy A [V.agg r1.cs] h1).n 0) (.agg r1.cs) _ = _ ∧ _
  generalize tidy A [V.agg r1.cs] h1 = K at d1' ⊢
  have hK := d1'.n
  obtain ⟨a1, s1, l1⟩ := d1'.ex
  rw [st4_at (n := K.n) (by simp) (new_g K 0 z4')]
  have uX : Up K ((K.new 0 z4').put K.n (.rw 0 r1.cs)) := ⟨by simp, fun c hc => by rw [put_g' (by omega), new_g' (by omega)]⟩
  have gX : ((K.new 0 z4').put K.n (.rw 0 r1.cs)).g K.n = .rw 0 r1.cs := put_g _ _ _
  have nX : ((K.new 0 z4').put K.n (.rw 0 r1.cs)).n = K.n + 1 := by simp
  change ∃ (r : RowD) (h' : H), ((call Ev Fn.spec_l1Next [pv b 0, iv .i64 12] ((K.new 0 z4').put K.n (.rw 0 r1.cs))).bind _) = _ ∧ _
  generalize (K.new 0 z4').put K.n (.rw 0 r1.cs) = X at uX gX nX ⊢
  obtain ⟨x2, h2, e2, a2, b2, w2, n2, o2, t2⟩ := r_next (s1.up uX) hl (by omega) (n := 12) (by omega) (by omega)
  rw [e2]; simp only [ob, gV1_s, gI_i]; rw [t2]
  have bK : b < K.n := by omega
  have g2K : h2.g K.n = .rw 0 r1.cs := (o2 K.n (by omega)).trans gX
  have g2h : h2.g h.n = .rw 0 z4' := by rw [o2 h.n (by omega), uX.g h.n (by omega), d1'.o h.n (by omega) (by omega)]; exact g0
  have kp : ∀ c, c < h.n → c ≠ b → h2.g c = h.g c := fun c hc hcb => by rw [o2 c hcb, uX.g c (by omega), d1'.o c (by omega) hcb, k0 c hc]
  -- what is left, of whatever row
  have fin : ∀ {Z : H} (r : RowD), r.text.size ≤ 9 → (∃ a', Src b l a' Z ∧ a' ≤ a + 20) → h2.n ≤ Z.n → Z.g K.n = .rw 0 r.cs → Z.g h.n = .rw 0 z4' → (∀ c, c < h.n → c ≠ b → Z.g c = h.g c) →
      ∃ (r' : RowD) (h' : H), ((loadN 4 Z (pv K.n 0)).bind fun c => (c[0]?).bind fun x1 => gI .i64 x1 fun i1 => (c[1]?).bind fun x2 => gI .i64 x2 fun i2 => (c[2]?).bind fun x3 => gI .i64 x3 fun i3 => (c[3]?).bind fun x4 => gS x4 fun y =>
        if c.length = 4 then stK 4 Z (pv h.n 0) (.agg [.int .i64 i1, .int .i64 i2, .int .i64 i3, .str y]) fun hh => (loadN 4 hh (pv h.n 0)).bind fun c => some (V.agg c, hh) else none) = some (.agg r'.cs, h') ∧ r'.text.size ≤ 9 ∧ Dr b l a 20 h h' := fun {Z} r hr hs hn gn gm go => by
    obtain ⟨a', sr, la⟩ := hs
    refine ⟨r, Z.put h.n (.rw 0 r.cs), bent_fin (by omega) (by omega) gn gm, hr, ⟨a', ⟨by rw [put_n]; exact sr.n, by rw [put_g' (by omega)]; exact sr.g⟩, by omega⟩, by rw [put_n]; omega, fun c hc hcb => by rw [put_g' (by omega)]; exact go c hc hcb⟩
  -- one field turned
  have fld : ∀ {Z : H} {o : Nat} {x : S} (r : RowD), setAt r1.cs o [x] = r.cs → isNo x = false → o < 4 → r.text.size ≤ 9 → (∃ a', Src b l a' Z ∧ a' ≤ a + 20) → h2.n ≤ Z.n → (∀ c, c < h2.n → c ≠ b → Z.g c = h2.g c) →
      ∃ (r' : RowD) (h' : H), (stK 1 Z (pv K.n o) (.s x) fun h120 => ((loadN 4 h120 (pv K.n 0)).bind fun c => (c[0]?).bind fun x1 => gI .i64 x1 fun i1 => (c[1]?).bind fun x2 => gI .i64 x2 fun i2 => (c[2]?).bind fun x3 => gI .i64 x3 fun i3 => (c[3]?).bind fun x4 => gS x4 fun y =>
        if c.length = 4 then stK 4 h120 (pv h.n 0) (.agg [.int .i64 i1, .int .i64 i2, .int .i64 i3, .str y]) fun hh => (loadN 4 hh (pv h.n 0)).bind fun c => some (V.agg c, hh) else none)) = some (.agg r'.cs, h') ∧ r'.text.size ≤ 9 ∧ Dr b l a 20 h h' := fun {Z o x} r he hx ho hr hs hn go => by
    obtain ⟨a', sr, la⟩ := hs
    rw [st_fld (by omega) ((go K.n (by omega) (by omega)).trans g2K) rfl hx (by simp; omega), he]
    exact fin r hr ⟨a', ⟨by rw [put_n]; exact sr.n, by rw [put_g' (by omega)]; exact sr.g⟩, la⟩ (by rw [put_n]; exact hn) (put_g _ _ _) (by rw [put_g' (by omega), go h.n (by omega) (by omega)]; exact g2h) (fun c hc hcb => by rw [put_g' (by omega), go c (by omega) hcb]; exact kp c hc hcb)
  rw [vcase_b]
  by_cases c0 : x2 = 0
  · rw [if_pos (by simp [c0])]
    obtain ⟨x3, h3, e3, m3, w3, n3, o3, t3⟩ := r_pickN w2 hl (by omega) (xs := [-1, 3, 4]) (by simp) (by simp)
    simp only [List.length_cons, List.length_nil, Nat.zero_add, Nat.reduceAdd, List.map_cons, List.map_nil] at e3 t3
    rw [e3]; simp only [ob, gV1_s, gI_i]; rw [t3]
    exact fld (o := 0) { r1 with tab := x3 } rfl rfl (by omega) ht ⟨_, w3, by omega⟩ n3 o3
  rw [if_neg (by simpa using c0), vcase_b]
  by_cases c1 : x2 = 1
  · rw [if_pos (by simp [c1])]
    obtain ⟨x3, h3, e3, m3, w3, n3, o3, t3⟩ := r_pickN w2 hl (by omega) (xs := [0, 99, 100]) (by simp) (by simp)
    simp only [List.length_cons, List.length_nil, Nat.zero_add, Nat.reduceAdd, List.map_cons, List.map_nil] at e3 t3
    rw [e3]; simp only [ob, gV1_s, gI_i]; rw [t3]
    exact fld (o := 1) { r1 with key := x3 } rfl rfl (by omega) ht ⟨_, w3, by omega⟩ n3 o3
  rw [if_neg (by simpa using c1), vcase_b]
  by_cases c2 : x2 = 2
  · rw [if_pos (by simp [c2])]
    obtain ⟨x3, h3, e3, m3, w3, n3, o3, t3⟩ := r_pickN w2 hl (by omega) (xs := [-1, 1000]) (by simp) (by simp)
    simp only [List.length_cons, List.length_nil, Nat.zero_add, Nat.reduceAdd, List.map_cons, List.map_nil] at e3 t3
    rw [e3]; simp only [ob, gV1_s, gI_i]; rw [t3]
    exact fld (o := 2) { r1 with val := x3 } rfl rfl (by omega) ht ⟨_, w3, by omega⟩ n3 o3
  rw [if_neg (by simpa using c2), vcase_b]
  by_cases c3 : x2 = 3
  · rw [if_pos (by simp [c3])]
    have w2' : Src b l (a1 + 1) (h2.new 1 [.str ⟨#[65]⟩, .str ⟨#[97, 98, 99, 100, 101, 102, 103, 104, 105]⟩, .str ⟨#[97, 32, 98]⟩]) := w2.up up_new
    have gs : (h2.new 1 [.str ⟨#[65]⟩, .str ⟨#[97, 98, 99, 100, 101, 102, 103, 104, 105]⟩, .str ⟨#[97, 32, 98]⟩]).g h2.n = .rw 1 [.str ⟨#[65]⟩, .str ⟨#[97, 98, 99, 100, 101, 102, 103, 104, 105]⟩, .str ⟨#[97, 32, 98]⟩] := new_g _ _ _
    have go : ∀ c, c < h2.n → (h2.new 1 [.str ⟨#[65]⟩, .str ⟨#[97, 98, 99, 100, 101, 102, 103, 104, 105]⟩, .str ⟨#[97, 32, 98]⟩]).g c = h2.g c := fun c hc => new_g' (by omega)
    have ng : (h2.new 1 [S.str ⟨#[65]⟩, .str ⟨#[97, 98, 99, 100, 101, 102, 103, 104, 105]⟩, .str ⟨#[97, 32, 98]⟩]).n = h2.n + 1 := new_n _ _ _
    generalize h2.new 1 [S.str ⟨#[65]⟩, .str ⟨#[97, 98, 99, 100, 101, 102, 103, 104, 105]⟩, .str ⟨#[97, 32, 98]⟩] = Y at w2' gs go ng ⊢
    obtain ⟨x3, h3, e3, a3, b3, w3, n3, o3, t3⟩ := r_next w2' hl (by omega) (n := 3) (by omega) (by omega)
    rw [e3]; simp only [ob, gV1_s, gI_i]; rw [t3]
    obtain ⟨i, rfl⟩ : ∃ i : Nat, x3 = i := ⟨x3.toNat, by omega⟩
    have hb2 := w2.n
    have gs3 : h3.g h2.n = .rw 1 (([⟨#[65]⟩, ⟨#[97, 98, 99, 100, 101, 102, 103, 104, 105]⟩, ⟨#[97, 32, 98]⟩] : List ByteArray).map fun t => .str t) := by rw [o3 h2.n (by omega)]; exact gs
    rw [idxK_sv (by omega), ld_str (by omega) gs3 (show i < 3 by omega) rfl]
    simp only [gV1_s, gS_s]
    have hsz : ∀ x ∈ ([⟨#[65]⟩, ⟨#[97, 98, 99, 100, 101, 102, 103, 104, 105]⟩, ⟨#[97, 32, 98]⟩] : List ByteArray), x.size ≤ 9 := by decide +kernel
    have hi := hsz _ (List.getElem_mem (show i < ([⟨#[65]⟩, ⟨#[97, 98, 99, 100, 101, 102, 103, 104, 105]⟩, ⟨#[97, 32, 98]⟩] : List ByteArray).length from by show i < 3; omega))
    exact fld (o := 3) { r1 with text := _ } rfl rfl (by omega) hi ⟨_, w3, by omega⟩ (by omega) (fun c hc hcb => (o3 c hcb).trans (go c hc))
  rw [if_neg (by simpa using c3)]
  exact fin r1 ht ⟨_, w2, by omega⟩ (Nat.le_refl _) g2K g2h kp
end Vm
/-
  Cells that lie in a new block.
-/
namespace Vm
open Go
theorem setAt_full {cs r : List S} (h : cs.length ≤ r.length) : setAt cs 0 r = r := by simp [setAt, List.drop_of_length_le h]
/-! cells that lie in a new block -/
def putX (h : H) (zs cs : List S) : H := (h.new 0 zs).put h.n (.rw 0 cs)
theorem putX_keep (h : H) (zs cs : List S) : HKeep h (putX h zs cs) := ((HKeep.refl h).new).put (Nat.le_refl _)
theorem putX_n (h : H) (zs cs : List S) : (putX h zs cs).n = h.n + 1 := rfl
theorem putX_g (h : H) (zs cs : List S) : (putX h zs cs).g h.n = .rw 0 cs := put_g _ _ _
theorem putX_cells (h : H) (zs cs : List S) : (putX h zs cs).cells h.n = cs := by
  unfold H.cells; rw [if_pos (by rw [putX_n]; omega), putX_g]; rfl
section
variable {R : Type}
theorem stK_X {z : Nat} {h : H} {zs cs : List S} {k : H → Option R} (hz : zs.length = z) (hc : cs.length = z) : stK z (h.new 0 zs) (pv h.n 0) (.agg cs) k = k (putX h zs cs) := by
  rw [stK_rw (z := z) (o := 0) (b := h.n) (r := cs) (e := 0) (cs := zs) (by simp) (new_g h _ _) (.inr rfl) hc (by omega), setAt_full (by omega)]
  rfl
end
theorem loadN_X {h : H} {zs cs : List S} {n o : Nat} {r : List S} (hn : o + n ≤ cs.length) (hr : (cs.drop o).take n = r) : loadN n (putX h zs cs) (pv h.n o) = some r := by
  have := putX_cells h zs cs
  have h2 : h.n < (putX h zs cs).n := by rw [putX_n]; omega
  simp only [loadN]
  rw [if_pos ⟨h2, by rw [this]; exact hn⟩, this, hr]
theorem load1_X {h : H} {zs cs : List S} {o : Nat} {x : S} (hx : cs[o]? = some x) : load1 (putX h zs cs) (pv h.n o) = some x := by
  simp only [load1]; rw [putX_cells, hx]
end Vm
/-
  What is drawn out of bytes: rows of tables that are told.
-/
namespace Vm
open Go
theorem f_l6Put {ks : List RowD} {r : RowD} (hl : ks.length + 1 ≤ lim) (n : Nat) : ∃ y h', call Ev Fn.spec_l6Put [lv (rws ks), .agg r.cs] (D n) = some (.s y, h') ∧ n ≤ h'.n ∧ OwnF 1 y (.fs (rws (insR r ks))) n h'.n h' := by
  have hl' := hl
  unfold lim at hl'
  have loop : ∀ (q : List RowD) (i : Nat), ks.drop i = q → Lp.spec_l6Put 0 [lv (rws ks), pv n 0, iv .i64 i] ((D n).new 0 r.cs) = some (.done [lv (rws ks), pv n 0, iv .i64 ((i + (q.takeWhile (befB · r)).length : Nat) : Int)] ((D n).new 0 r.cs)) := by
    intro q
    induction q with
    | nil =>
      intro i hi
      have := drop_nil hi
      rw [eq_spec_l6Put_l0, vcase_b, if_neg (by simp; omega), tidy_self]; simp
    | cons k q ih =>
      intro i hi
      obtain ⟨g1, g2, g3⟩ := drop_cons hi
      rw [eq_spec_l6Put_l0, vcase_b, if_pos (by simp; omega), idxF_rw g1]
      have e := p_before_pv (h := (D n).new 0 r.cs) (b := n) (k := k) (r := r) (by simp) (by exact new_g (D n) _ _)
      obtain ⟨l, e1, e2⟩ : ∃ l, frzVs ((D n).new 0 r.cs) [fv k.cs 0, pv n 0] = some l ∧ normVs [4, 4] l = [fv k.cs 0, fv r.cs 0] := by
        cases hf : frzVs ((D n).new 0 r.cs) [fv k.cs 0, pv n 0] with
        | none => rw [hf] at e; cases e
        | some l => rw [hf, Vm.ob] at e; exact ⟨l, rfl, by injection e⟩
      rw [e1, ob, e2, pc (p_l1Before k r) rfl]
      simp only [gV1_s, gB_b, vcase_b, tidy_self]
      rw [w64 (by omega) (by omega), show (i : Int) + 1 = ((i + 1 : Nat) : Int) from by omega]
      cases hb : befB k r with
      | true =>
        rw [if_pos rfl, ih (i + 1) g2, (tw_pos hb).1, List.length_cons, Nat.add_assoc i 1, Nat.add_comm 1]
      | false => rw [if_neg (by simp), (tw_neg hb).1]; simp
  have htl : (ks.takeWhile (befB · r)).length ≤ ks.length := by
    have := congrArg List.length (List.takeWhile_append_dropWhile (p := (befB · r)) (l := ks))
    rw [List.length_append] at this; omega
  have hdl : (ks.takeWhile (befB · r)).length + (ks.dropWhile (befB · r)).length = ks.length := by
    have := congrArg List.length (List.takeWhile_append_dropWhile (p := (befB · r)) (l := ks))
    rw [List.length_append] at this; omega
  obtain ⟨t1, t2⟩ := tw_dw (r := r) ks
  rw [eq_spec_l6Put, D_n, show iv .i64 0 = iv .i64 ((0 : Nat) : Int) from rfl, loop ks 0 rfl, ob, lcase_done]
  simp only [gx0, gx1, ob, gV1_s, gF_f, gI_i, Nat.zero_add]
  rw [(slF_rws htl).1, t1]
  obtain ⟨v1, h1, e1, w1, n1, k1⟩ := app_fl (z := 4) (h := ((D n).new 0 r.cs).new 4 []) (y := lv (rws (ks.takeWhile (befB · r)))) (more := rws (ks.takeWhile (befB · r))) FlS.nil rws_row (cellsS_lv rws_row) rfl (by omega) (by simp; unfold lim; omega)
  rw [e1, ob]
  have gr : h1.g n = .rw 0 r.cs := by rw [k1 n (by simp; omega) (by simp), new_g' (by simp)]; exact new_g (D n) _ _
  have cr : h1.cells n = r.cs := by unfold H.cells; rw [if_pos (by rw [n1]; simp; omega), gr]; rfl
  rw [ldK_agg rfl (loadN_cs (by rw [n1]; simp; omega) cr rfl)]
  simp only [gVA_a, ob, gx0, gx1, gI_i, gS_s, ln0, ln1, Nat.zero_add, Nat.reduceAdd, if_true]
  rw [(slF_rws htl).2, t2, hchk_of (HKeep.refl h1).new.ext]
  have w1' : FlS 4 (h1.new 4 r.cs) v1 ([] ++ rws (ks.takeWhile (befB · r))) _ := w1.keep (by simp) (new_g' (by have := w1.n; omega))
  obtain ⟨v2, h2, e2, w2, n2, k2⟩ := app_fl (z := 4) (h := h1.new 4 r.cs) (y := sv h1.n 0 1) (more := [r.cs]) w1' (by simp) (by simpa using cellsS_row (h := h1) (z := 4) (row := r.cs) rfl) rfl (by omega) (by simp; unfold lim; omega)
  rw [e2, ob]
  obtain ⟨v3, h3, e3, w3, n3, k3⟩ := app_fl (z := 4) (h := h2) (y := lv (rws (ks.dropWhile (befB · r)))) (more := rws (ks.dropWhile (befB · r))) w2 rws_row (cellsS_lv rws_row) rfl (by omega) (by simp; unfold lim; omega)
  rw [e3, ob]
  have hr : ([] ++ rws (ks.takeWhile (befB · r)) ++ [r.cs] ++ rws (ks.dropWhile (befB · r))) = rws (insR r ks) := by simp [insR, rws]
  rw [hr] at w3
  have hv := w3.v
  subst hv
  refine ⟨_, h3, rfl, by rw [n3, n2]; simp; rw [n1]; simp; omega, w3.own (by omega) ?_ rws_sc⟩
  rw [n2]; simp; rw [n1]; simp; omega
theorem Dr.trans {b : Nat} {l : List UInt8} {a N M K : Nat} {h h1 h2 : H} (w : Dr b l a N h h1) (w2 : ∀ a', Src b l a' h1 → a' ≤ a + N → Dr b l a' M h1 h2) (hk : N + M ≤ K := by omega) : Dr b l a K h h2 := by
  obtain ⟨a1, s1, l1⟩ := w.ex
  have d := w2 a1 s1 l1
  obtain ⟨a2, s2, l2⟩ := d.ex
  exact ⟨⟨a2, s2, by omega⟩, Nat.le_trans w.n d.n, fun c hc hcb => (d.o c (Nat.lt_of_lt_of_le hc w.n) hcb).trans (w.o c hc hcb)⟩
theorem Dr.weak {b : Nat} {l : List UInt8} {a N M : Nat} {h h1 : H} (w : Dr b l a N h h1) (hk : N ≤ M) : Dr b l a M h h1 := by
  obtain ⟨a1, s1, l1⟩ := w.ex
  exact ⟨⟨a1, s1, by omega⟩, w.n, w.o⟩
/-- rows in a slice of one's own, beside the source -/
structure RwS (b lo : Nat) (v : V) (ks : List RowD) (h : H) : Prop where
  ex : ∃ q, FlS 4 h v (rws ks) q ∧ lo ≤ q ∧ q ≠ b
theorem RwS.up {b lo : Nat} {v : V} {ks : List RowD} {h h' : H} (w : RwS b lo v ks h) (u : Up h h') : RwS b lo v ks h' := by
  obtain ⟨q, w1, w2, w3⟩ := w.ex
  exact ⟨q, w1.keep u.n (u.g q w1.n), w2, w3⟩
theorem RwS.dr {b lo : Nat} {v : V} {ks : List RowD} {h h' : H} {l : List UInt8} {a N : Nat} (w : RwS b lo v ks h) (d : Dr b l a N h h') : RwS b lo v ks h' := by
  obtain ⟨q, w1, w2, w3⟩ := w.ex
  exact ⟨q, w1.keep d.n (d.o q w1.n w3), w2, w3⟩
theorem RwS.tidy {b lo : Nat} {v : V} {ks : List RowD} {h h' : H} {l : List V} (w : RwS b lo v ks h') (hv : v ∈ l) : RwS b lo v ks (Vm.tidy h l h') := by
  unfold Vm.tidy
  split
  · rename_i ht
    obtain ⟨q, w1, w2, w3⟩ := w.ex
    have hb : belV h.n v = true := by
      have := ht.2.1
      rw [List.all_eq_true] at this
      exact this _ hv
    rw [w1.v] at hb
    have hq : q < h.n := by simpa [belV, belS] using hb
    exact ⟨q, ⟨w1.v, hq, by simp only [if_pos hq]; exact w1.g, w1.z⟩, w2, w3⟩
  · exact w
theorem RwS.frz {b lo : Nat} {v : V} {ks : List RowD} {h : H} (w : RwS b lo v ks h) : frzV h v = some (lv (rws ks)) := by
  obtain ⟨q, w1, _⟩ := w.ex
  exact w1.frz (by omega) rws_sc
theorem ins_mem {x r : RowD} {ks : List RowD} (hx : x ∈ insR r ks) : x = r ∨ x ∈ ks := by
  unfold insR at hx
  rw [List.mem_append, List.mem_cons] at hx
  rcases hx with hx | hx | hx
  · exact .inr ((List.takeWhile_sublist _).subset hx)
  · exact .inl hx
  · exact .inr ((List.dropWhile_sublist _).subset hx)
/-- a row is put among those that are there -/
theorem put_rs {b lo : Nat} {v : V} {ks : List RowD} {r : RowD} {h : H} {off : Bool} (w : RwS b lo v ks h) (hlo : lo ≤ h.n) (hb : b < h.n) (hk : ks.length ≤ 1000) :
    ∃ v' h', (∀ (R : Type) (k : V → H → Option R), pcallF (call Ev) Fn.spec_l6Put off [lv (rws ks), .agg r.cs] h k = k v' h') ∧ Up h h' ∧ RwS b lo v' (insR r ks) h' := by
  obtain ⟨y, hp, e1, n1, w1⟩ := f_l6Put (ks := ks) (r := r) (by unfold lim; omega) h.n
  obtain ⟨K, e2, u2, n2, w2⟩ := pV (h := h) (n := h.n) (off := off) rfl e1 n1 w1
  obtain ⟨b2, w3, b3, b4⟩ := w2.now.fl rws_row rws_sc (by
    intro hh
    have := congrArg List.length hh
    rw [rws_len, ins_len] at this; simp at this)
  exact ⟨_, K, e2, u2, b2, w3, by omega, by omega⟩
theorem lp_DrawRows {b lo : Nat} {l : List UInt8} (hl : l.length ≤ 1048576) : ∀ (k : Nat) (a : Nat) (ks : List RowD) (v : V) (h : H), Src b l a h → a + 5 * k < 1099511627000 → RwS b lo v ks h → lo ≤ h.n → ks.length + k ≤ 100 → (∀ r ∈ ks, r.text.size ≤ 9) →
    ∃ v' ks' h', Lp.spec_l6DrawRows 0 [pv b 0, v, iv .i64 k] h = some (.done [v'] h') ∧ RwS b lo v' ks' h' ∧ ks'.length ≤ ks.length + k ∧ (∀ r ∈ ks', r.text.size ≤ 9) ∧ Dr b l a (5 * k) h h' := by
  intro k
  induction k with
  | zero =>
    intro a ks v h w ha wv hlo hk hr
    refine ⟨v, ks, h, ?_, wv, by omega, hr, (Dr.refl w).weak (by omega)⟩
    rw [eq_spec_l6DrawRows_l0, vcase_b, if_neg (by simp), tidy_self]
  | succ k ih =>
    intro a ks v h w ha wv hlo hk hr
    have hb := w.n
    rw [eq_spec_l6DrawRows_l0, vcase_b, if_pos (by simp)]
    rw [w64 (n := ((k + 1 : Nat) : Int) - 1) (by omega) (by omega), show ((k + 1 : Nat) : Int) - 1 = (k : Int) from by omega]
    obtain ⟨r, h1, e1, hr0, d1⟩ := r_draw w hl (by omega)
    rw [e1, ob]
    simp only [gVA_a, gx0, gx1, ob, gI_i, gS_s, ln0, ln1, Nat.zero_add, Nat.reduceAdd, if_true]
    have d1' := d1.tidy hb [V.agg r.cs]
    change ∃ v' ks' h', stK 4 ((tidy h [V.agg r.cs] h1).new 0 z4') (pv (tidy h [V.agg r.cs] h1).n 0) (.agg r.cs) _ = _ ∧ _
    generalize tidy h [V.agg r.cs] h1 = K at d1' ⊢
    rw [stK_X (z := 4) rfl rfl, load1_X (o := 0) (x := .int .i64 r.tab) rfl]
    simp only [ob, gI_i]
    rw [load1_X (o := 1) (x := .int .i64 r.key) rfl]
    simp only [ob, gI_i]
    have xk := putX_keep K z4' r.cs
    have d2 : Dr b l a 5 h (putX K z4' r.cs) := d1'.up ⟨xk.1, fun c hc => (xk.2 c hc).1⟩
    have wX := wv.dr d2
    rw [frzVs_cons wX.frz (frzVs_cons frzV_iv (frzVs_cons frzV_iv frzVs_nil)), ob, norm_nil]
    rw [pc (p_l6At (all := ks) (t := r.tab) (k := r.key) (by unfold maxLen; omega)) rfl]
    simp only [gV1_s, gI_i]
    rw [vcase_b]
    rw [loadN_X (n := 4) (o := 0) (r := r.cs) (by simp) rfl]
    simp only [gVA_a, gx0, gx1, ob, gI_i, gS_s, ln0, ln1, Nat.zero_add, Nat.reduceAdd, if_true]
    by_cases hj : atF r.tab r.key ks 0 < 0
    · rw [if_pos (by simpa using hj)]
      rw [frzVs_cons wX.frz (frzVs_cons (show frzV _ (V.agg [S.int .i64 r.tab, .int .i64 r.key, .int .i64 r.val, .str r.text]) = some (V.agg [S.int .i64 r.tab, .int .i64 r.key, .int .i64 r.val, .str r.text]) from by simp) frzVs_nil), ob, norm_nil]
      obtain ⟨v2, h2, e2, u2, w2⟩ := put_rs (r := r) (off := ([v, V.agg [S.int .i64 r.tab, .int .i64 r.key, .int .i64 r.val, .str r.text]].all offV)) wX (by have := d2.n; omega) (by have := d2.n; omega) (by omega)
      rw [e2]
      have w3 : RwS b lo v2 (insR r ks) (tidy h [pv b 0, v2, iv .i64 k] h2) := w2.tidy (by simp)
      have d3 := (d2.up u2).tidy hb [pv b 0, v2, iv .i64 k]
      obtain ⟨a', s', la⟩ := d3.ex
      obtain ⟨v', ks', h', e4, w4, l4, r4, d4⟩ := ih a' (insR r ks) v2 _ s' (by omega) w3 (by have := d3.n; omega) (by rw [ins_len]; omega) (fun x hx => by
        rcases ins_mem hx with rfl | hx
        · have := rowF_00 hr0; omega
        · exact hr x hx)
      refine ⟨v', ks', h', e4, w4, by rw [ins_len] at l4; omega, r4, ?_⟩
      obtain ⟨a2, s2, la2⟩ := d4.ex
      exact ⟨⟨a2, s2, by omega⟩, Nat.le_trans d3.n d4.n, fun c hc hcb => (d4.o c (Nat.lt_of_lt_of_le hc d3.n) hcb).trans (d3.o c hc hcb)⟩
    · rw [if_neg (by simpa using hj)]
      have d3 := d2.tidy hb [pv b 0, v, iv .i64 k]
      have w3 : RwS b lo v ks (tidy h [pv b 0, v, iv .i64 k] (putX K z4' r.cs)) := wX.tidy (by simp)
      obtain ⟨a', s', la⟩ := d3.ex
      obtain ⟨v', ks', h', e4, w4, l4, r4, d4⟩ := ih a' ks v _ s' (by omega) w3 (by have := d3.n; omega) (by omega) hr
      refine ⟨v', ks', h', e4, w4, by omega, r4, ?_⟩
      obtain ⟨a2, s2, la2⟩ := d4.ex
      exact ⟨⟨a2, s2, by omega⟩, Nat.le_trans d3.n d4.n, fun c hc hcb => (d4.o c (Nat.lt_of_lt_of_le hc d3.n) hcb).trans (d3.o c hc hcb)⟩
theorem r_DrawRows {b : Nat} {l : List UInt8} {a : Nat} {h : H} (w : Src b l a h) (hl : l.length ≤ 1048576) (ha : a + 100 < 1099511627000) :
    ∃ v ks h', call Ev Fn.spec_l6DrawRows [pv b 0] h = some (v, h') ∧ RwS b h.n v ks h' ∧ ks.length ≤ 6 ∧ (∀ r ∈ ks, r.text.size ≤ 9) ∧ Dr b l a 31 h h' := by
  have hb := w.n
  rw [eq_spec_l6DrawRows]
  have w0 : Src b l a (h.new 4 []) := w.up up_new
  obtain ⟨x1, h1, e1, a1, b1, w1, n1, o1, t1⟩ := r_next w0 hl (by omega) (n := 7) (by omega) (by omega)
  rw [e1]; simp only [ob, gV1_s, gI_i]; rw [t1]
  obtain ⟨k, rfl⟩ : ∃ k : Nat, x1 = k := ⟨x1.toNat, by omega⟩
  have f0 : FlS 4 h1 (sv h.n 0 0) (rws []) h.n := (FlS.nil (z := 4) (h := h)).keep (by omega) (o1 h.n (by omega))
  obtain ⟨v, ks, h', e2, w2, l2, r2, d2⟩ := lp_DrawRows (lo := h.n) hl k (a + 1) [] (sv h.n 0 0) h1 w1 (by omega) ⟨h.n, f0, by omega, by omega⟩ (by rw [n1, new_n]; omega) (by simp; omega) (by simp)
  rw [e2, ob, lcase_done]
  simp only [gx0, ob]
  refine ⟨v, ks, h', rfl, w2, by simp at l2; omega, r2, ?_⟩
  obtain ⟨a2, s2, la2⟩ := d2.ex
  have hn : h.n ≤ h1.n := by rw [n1, new_n]; omega
  exact ⟨⟨a2, s2, by omega⟩, Nat.le_trans hn d2.n, fun c hc hcb => by rw [d2.o c (by omega) hcb, o1 c hcb, new_g' (by omega)]⟩
end Vm
/-
  What is drawn out of bytes: rows of tables that are told, and a row that may have a fault.
-/
namespace Vm
open Go
theorem rws_snoc' (rs : List RowD) (r : RowD) : rws (rs ++ [r]) = rws rs ++ [r.cs] := by simp [rws]
def zRow : RowD := ⟨0, 0, 0, ⟨#[]⟩⟩
theorem load1_at {h : H} {b o : Nat} {cs : List S} {x : S} (hb : b < h.n) (hg : h.g b = .rw 0 cs) (hx : cs[o]? = some x) : load1 h (pv b o) = some x := load1_cs (by unfold H.cells; rw [if_pos hb, hg]; rfl) hx
theorem r_BentRows {b : Nat} {l : List UInt8} {a : Nat} {h : H} (w : Src b l a h) (hl : l.length ≤ 1048576) (ha : a + 300 < 1099511627000) :
    ∃ v ks h', call Ev Fn.spec_l6BentRows [pv b 0] h = some (v, h') ∧ RwS b h.n v ks h' ∧ ks.length ≤ 61 ∧ (∀ r ∈ ks, r.text.size ≤ 9) ∧ Dr b l a 60 h h' := by
  have hb := w.n
  rw [eq_spec_l6BentRows]
  obtain ⟨v, ks, h1, e1, w1, l1, r1, d1⟩ := r_DrawRows w hl (by omega)
  rw [e1, ob]
  dsimp only
  have d1' := d1.tidy hb [v]
  have w1' : RwS b h.n v ks (tidy h [v] h1) := w1.tidy (by simp)
  generalize tidy h [v] h1 = K at d1' w1' ⊢
  obtain ⟨a1, s1, la1⟩ := d1'.ex
  have hK := d1'.n
  obtain ⟨x2, h2, e2, m2, b2, w2, n2, o2, t2⟩ := r_next s1 hl (by omega) (n := 10) (by omega) (by omega)
  rw [e2]; simp only [ob, gV1_s, gI_i]; rw [t2, vcase_b]
  have d2 : Dr b l a 32 h h2 := ⟨⟨_, w2, by omega⟩, by omega, fun c hc hcb => by rw [o2 c hcb, d1'.o c hc hcb]⟩
  have r2 : RwS b h.n v ks h2 := by
    obtain ⟨q, f1, f2, f3⟩ := w1'.ex
    exact ⟨q, f1.keep (by omega) (o2 q f3), f2, f3⟩
  by_cases c0 : x2 = 0
  · rw [if_pos (by simp [c0])]
    obtain ⟨r, h3, e3, hr, d3⟩ := r_lbent w2 hl (by omega)
    rw [e3, ob]
    simp only [gVA_a, gx0, gx1, ob, gI_i, gS_s, ln0, ln1, Nat.zero_add, Nat.reduceAdd, if_true]
    have d3' := d3.tidy w2.n [V.agg r.cs]
    change ∃ v' ks' h', ((appS 4 ((tidy h2 [V.agg r.cs] h3).new 4 r.cs) v (sv (tidy h2 [V.agg r.cs] h3).n 0 1)).bind _) = _ ∧ _
    generalize tidy h2 [V.agg r.cs] h3 = Z at d3' ⊢
    obtain ⟨q, f1, f2, f3⟩ := (r2.dr d3').ex
    have hZ := d3'.n
    have f1' : FlS 4 (Z.new 4 r.cs) v (rws ks) q := f1.keep (by simp) (new_g' (by have := f1.n; omega))
    obtain ⟨v4, h4, e4, w4, n4, k4⟩ := app_fl (z := 4) (y := sv Z.n 0 1) (more := [r.cs]) f1' (by simp) (by simpa using cellsS_row (h := Z) (z := 4) (row := r.cs) rfl) rfl (by omega) (by simp; unfold lim; omega)
    rw [e4, ob]
    rw [← rws_snoc'] at w4
    obtain ⟨a3, s3, la3⟩ := d3'.ex
    have nb := s3.n
    have fn := f1.n
    refine ⟨v4, ks ++ [r], h4, rfl, ⟨_, w4, by simp; omega, by simp; omega⟩, by simp; omega, ?_, ⟨⟨a3, ⟨by rw [n4, new_n]; omega, by rw [k4 b (by simp; omega) (Ne.symm f3), new_g' (by omega)]; exact s3.g⟩, by omega⟩, by rw [n4, new_n]; omega, fun c hc hcb => by rw [k4 c (by simp; omega) (by omega), new_g' (by omega), d3'.o c (by omega) hcb, d2.o c hc hcb]⟩⟩
    intro x hx
    rcases List.mem_append.1 hx with hx | hx
    · exact r1 x hx
    · rw [List.mem_singleton] at hx; rw [hx]; exact hr
  rw [if_neg (by simpa using c0), vcase_b]
  by_cases c1 : x2 = 1
  · rw [if_pos (by simp [c1])]
    have e : mkSl 4 [.int .i64 0, .int .i64 0, .int .i64 0, .str ⟨#[]⟩] h2 (iv .i64 61) (iv .i64 61) = some (sv h2.n 0 61, h2.new 4 ((List.replicate 61 zRow.cs).flatten)) := mkSl_of (z := 4) (n := 61) (zero := zRow.cs) (by unfold lim; omega) (by omega) rfl
    rw [e, ob]
    have f : FlS 4 (h2.new 4 ((List.replicate 61 zRow.cs).flatten)) (sv h2.n 0 61) (rws (List.replicate 61 zRow)) h2.n := ⟨by simp, by simp, by rw [new_g]; simp [rws], rws_row⟩
    refine ⟨_, List.replicate 61 zRow, _, rfl, ⟨_, f, d2.n, by have := w2.n; omega⟩, by simp, ?_, (d2.weak (by omega)).up up_new⟩
    intro x hx
    rw [List.mem_replicate] at hx
    rw [hx.2]; decide
  rw [if_neg (by simpa using c1)]
  exact ⟨v, ks, h2, rfl, r2, by omega, r1, d2.weak (by omega)⟩
def L8 (b lo : Nat) (l : List UInt8) (k : Nat) : Prop := ∀ (a : Nat) (ks : List RowD) (v : V) (h : H), Src b l a h → a + 10 * k < 1099511627000 → RwS b lo v ks h → lo ≤ h.n → ks.length + k ≤ 100 → (∀ r ∈ ks, r.text.size ≤ 9) →
    ∃ v' ks' h', Lp.spec_l8Rows 0 [pv b 0, v, iv .i64 k] h = some (.done [v'] h') ∧ RwS b lo v' ks' h' ∧ ks'.length ≤ ks.length + k ∧ (∀ r ∈ ks', r.text.size ≤ 9) ∧ Dr b l a (10 * k) h h'
theorem l8_in {b lo : Nat} {l : List UInt8} {k a n : Nat} {ks : List RowD} {v : V} {h Z : H} {p : V × H} {r : RowD} (ih : L8 b lo l k) (hb : b < h.n) (d : Dr b l a 10 h Z) (wZ : RwS b lo v ks Z) (hlo : lo ≤ h.n) (hn : (tidy h [p.1] p.2).n = n) (nZ : n < Z.n) (gn : Z.g n = .rw 0 r.cs) (ha : a + 10 * (k + 1) < 1099511627000) (hk : ks.length + (k + 1) ≤ 100) (hr : ∀ r ∈ ks, r.text.size ≤ 9) (h9 : r.text.size ≤ 9) :
    ∃ v' ks' h', Jn.spec_l8Rows_l0_0 Z h p v (pv b 0) ((k + 1 : Nat) : Int) = some (.done [v'] h') ∧ RwS b lo v' ks' h' ∧ ks'.length ≤ ks.length + (k + 1) ∧ (∀ r ∈ ks', r.text.size ≤ 9) ∧ Dr b l a (10 * (k + 1)) h h' := by
  unfold Jn.spec_l8Rows_l0_0
  rw [hn, load1_at (o := 0) (x := .int .i64 r.tab) nZ gn rfl]
  simp only [ob, gI_i]
  rw [load1_at (o := 1) (x := .int .i64 r.key) nZ gn rfl]
  simp only [ob, gI_i]
  rw [w64 (n := ((k + 1 : Nat) : Int) - 1) (by omega) (by omega), show ((k + 1 : Nat) : Int) - 1 = (k : Int) from by omega]
  rw [frzVs_cons wZ.frz (frzVs_cons frzV_iv (frzVs_cons frzV_iv frzVs_nil)), ob, norm_nil]
  rw [pc (p_l6At (all := ks) (t := r.tab) (k := r.key) (by unfold maxLen; omega)) rfl]
  simp only [gV1_s, gI_i]
  rw [vcase_b, ld4_at nZ gn]
  simp only [gVA_a, gx0, gx1, ob, gI_i, gS_s, ln0, ln1, Nat.zero_add, Nat.reduceAdd, if_true]
  by_cases hj : atF r.tab r.key ks 0 < 0
  · rw [if_pos (by simpa using hj)]
    rw [frzVs_cons wZ.frz (frzVs_cons (show frzV _ (V.agg [S.int .i64 r.tab, .int .i64 r.key, .int .i64 r.val, .str r.text]) = some (V.agg [S.int .i64 r.tab, .int .i64 r.key, .int .i64 r.val, .str r.text]) from by simp) frzVs_nil), ob, norm_nil]
    obtain ⟨v2, h2, e2, u2, w2⟩ := put_rs (r := r) (off := ([v, V.agg [S.int .i64 r.tab, .int .i64 r.key, .int .i64 r.val, .str r.text]].all offV)) wZ (by have := d.n; omega) (by have := d.n; omega) (by omega)
    rw [e2]
    have w3 : RwS b lo v2 (insR r ks) (tidy h [pv b 0, v2, iv .i64 k] h2) := w2.tidy (by simp)
    have d3 := (d.up u2).tidy hb [pv b 0, v2, iv .i64 k]
    obtain ⟨a', s', la⟩ := d3.ex
    obtain ⟨v', ks', h', e4, w4, l4, r4, d4⟩ := ih a' (insR r ks) v2 _ s' (by omega) w3 (by have := d3.n; omega) (by rw [ins_len]; omega) (fun x hx => by
      rcases ins_mem hx with rfl | hx
      · exact h9
      · exact hr x hx)
    refine ⟨v', ks', h', e4, w4, by rw [ins_len] at l4; omega, r4, ?_⟩
    obtain ⟨a2, s2, la2⟩ := d4.ex
    exact ⟨⟨a2, s2, by omega⟩, Nat.le_trans d3.n d4.n, fun c hc hcb => (d4.o c (Nat.lt_of_lt_of_le hc d3.n) hcb).trans (d3.o c hc hcb)⟩
  · rw [if_neg (by simpa using hj)]
    have d3 := d.tidy hb [pv b 0, v, iv .i64 k]
    have w3 : RwS b lo v ks (tidy h [pv b 0, v, iv .i64 k] Z) := wZ.tidy (by simp)
    obtain ⟨a', s', la⟩ := d3.ex
    obtain ⟨v', ks', h', e4, w4, l4, r4, d4⟩ := ih a' ks v _ s' (by omega) w3 (by have := d3.n; omega) (by omega) hr
    refine ⟨v', ks', h', e4, w4, by omega, r4, ?_⟩
    obtain ⟨a2, s2, la2⟩ := d4.ex
    exact ⟨⟨a2, s2, by omega⟩, Nat.le_trans d3.n d4.n, fun c hc hcb => (d4.o c (Nat.lt_of_lt_of_le hc d3.n) hcb).trans (d3.o c hc hcb)⟩
theorem lp_l8Rows {b lo : Nat} {l : List UInt8} (hl : l.length ≤ 1048576) : ∀ k : Nat, L8 b lo l k := by
  intro k
  induction k with
  | zero =>
    intro a ks v h w ha wv hlo hk hr
    refine ⟨v, ks, h, ?_, wv, by omega, hr, (Dr.refl w).weak (by omega)⟩
    rw [eq_spec_l8Rows_l0, vcase_b, if_neg (by simp), tidy_self]
  | succ k ih =>
    intro a ks v h w ha wv hlo hk hr
    have hb := w.n
    rw [eq_spec_l8Rows_l0, vcase_b, if_pos (by simp)]
    obtain ⟨r, h1, e1, hr0, d1⟩ := r_draw w hl (by omega)
    rw [e1, ob]
    simp only [gVA_a, gx0, gx1, ob, gI_i, gS_s, ln0, ln1, Nat.zero_add, Nat.reduceAdd, if_true]
    have d1' := d1.tidy hb [V.agg r.cs]
    have hN : ∃ n, (tidy h [V.agg r.cs] h1).n = n := ⟨_, rfl⟩
    obtain ⟨n, hN⟩ := hN
    have in' : ∀ {Z : H} {r' : RowD}, Dr b l a 10 h Z → RwS b lo v ks Z → n < Z.n → Z.g n = .rw 0 r'.cs → r'.text.size ≤ 9 → ∃ v' ks' h', Jn.spec_l8Rows_l0_0 Z h (V.agg r.cs, h1) v (pv b 0) ((k + 1 : Nat) : Int) = some (.done [v'] h') ∧ RwS b lo v' ks' h' ∧ ks'.length ≤ ks.length + (k + 1) ∧ (∀ r ∈ ks', r.text.size ≤ 9) ∧ Dr b l a (10 * (k + 1)) h h' := fun {Z r'} d wZ nZ gn h9 => l8_in ih hb d wZ hlo hN nZ gn (by omega) hk hr h9
    have hK := d1'.n
    obtain ⟨a1, s1, la1⟩ := d1'.ex
    have e13 : stK 4 ((tidy h [V.agg r.cs] h1).new 0 z4') (pv (tidy h [V.agg r.cs] h1).n 0) (.agg r.cs) = fun (f : H → Option LOut) => f (putX (tidy h [V.agg r.cs] h1) z4' r.cs) := by
      funext f; exact stK_X (z := 4) rfl rfl
    change ∃ v' ks' h', stK 4 ((tidy h [V.agg r.cs] h1).new 0 z4') (pv (tidy h [V.agg r.cs] h1).n 0) (.agg r.cs) _ = _ ∧ _
    rw [e13]
    dsimp only
    have gX := putX_g (tidy h [V.agg r.cs] h1) z4' r.cs
    have nX := putX_n (tidy h [V.agg r.cs] h1) z4' r.cs
    have kX := putX_keep (tidy h [V.agg r.cs] h1) z4' r.cs
    have dX : Dr b l a 5 h (putX (tidy h [V.agg r.cs] h1) z4' r.cs) := d1'.up ⟨kX.1, fun c hc => (kX.2 c hc).1⟩
    rw [hN] at gX nX hK ⊢
    generalize putX (tidy h [V.agg r.cs] h1) z4' r.cs = X at gX nX dX ⊢
    obtain ⟨a2, s2, la2⟩ := dX.ex
    obtain ⟨x3, h3, e3, m3, b3, w3, n3, o3, t3⟩ := r_next s2 hl (by omega) (n := 2) (by omega) (by omega)
    rw [e3]; simp only [ob, gV1_s, gI_i]; rw [t3]
    have d3 : Dr b l a 6 h h3 := ⟨⟨_, w3, by omega⟩, by have := dX.n; omega, fun c hc hcb => by rw [o3 c hcb, dX.o c hc hcb]⟩
    have g3 : h3.g n = .rw 0 r.cs := by rw [o3 n (by omega)]; exact gX
    rw [st_fld (x := .int .i64 (IntKind.i64.wrap (1 + x3))) (by omega) g3 rfl rfl (by simp)]
    have w9 : r.text.size ≤ 9 := rowF_00 hr0
    have gY : (h3.put n (.rw 0 (setAt r.cs 0 [.int .i64 (IntKind.i64.wrap (1 + x3))]))).g n = .rw 0 ({ r with tab := IntKind.i64.wrap (1 + x3) } : RowD).cs := put_g _ _ _
    have uY : ∀ {Y : H} {Q : List S}, Dr b l a 6 h Y → Dr b l a 6 h (Y.put n (.rw 0 Q)) := fun {Y Q} dY => by
      obtain ⟨a4, s4, la4⟩ := dY.ex
      exact ⟨⟨a4, ⟨by rw [put_n]; exact s4.n, by rw [put_g' (by omega)]; exact s4.g⟩, la4⟩, by rw [put_n]; exact dY.n, fun c hc hcb => by rw [put_g' (by omega)]; exact dY.o c hc hcb⟩
    have dY := uY (Q := setAt r.cs 0 [.int .i64 (IntKind.i64.wrap (1 + x3))]) d3
    have nY : (h3.put n (.rw 0 (setAt r.cs 0 [.int .i64 (IntKind.i64.wrap (1 + x3))]))).n = h3.n := put_n _ _ _
    generalize h3.put n (.rw 0 (setAt r.cs 0 [.int .i64 (IntKind.i64.wrap (1 + x3))])) = Y at gY dY nY ⊢
    rw [load1_at (o := 0) (x := .int .i64 (IntKind.i64.wrap (1 + x3))) (by omega) gY rfl]
    simp only [ob, gI_i]
    rw [vcase_b]
    have fin : ∀ q : Bool, ∃ v' ks' h', Jn.spec_l8Rows_l0_1 q Y h (V.agg r.cs, h1) v (pv b 0) ((k + 1 : Nat) : Int) = some (.done [v'] h') ∧ RwS b lo v' ks' h' ∧ ks'.length ≤ ks.length + (k + 1) ∧ (∀ r ∈ ks', r.text.size ≤ 9) ∧ Dr b l a (10 * (k + 1)) h h' := fun q => by
      unfold Jn.spec_l8Rows_l0_1
      rw [vcase_b]
      cases q with
      | false =>
        rw [if_neg (by simp)]
        exact in' (dY.weak (by omega)) (wv.dr dY) (by omega) gY w9
      | true =>
        rw [if_pos rfl]
        change ∃ v' ks' h', stK 1 Y (pv (tidy h [V.agg r.cs] h1).n 3) _ _ = _ ∧ _
        rw [hN, st_fld (x := .str ⟨#[]⟩) (by omega) gY rfl rfl (by simp)]
        exact in' (r' := { r with tab := IntKind.i64.wrap (1 + x3), text := ⟨#[]⟩ }) ((uY dY).weak (by omega)) (wv.dr (uY dY)) (by rw [put_n]; omega) (put_g _ _ _) (by show (⟨#[]⟩ : ByteArray).size ≤ 9; decide)
    by_cases c2 : IntKind.i64.wrap (1 + x3) = 2
    · rw [if_pos (by simp [c2]), load1_at (o := 3) (x := .str r.text) (by omega) gY rfl]
      simp only [ob, gS_s]
      exact fin _
    · rw [if_neg (by simpa using c2)]
      exact fin _
theorem r_l8Rows {b : Nat} {l : List UInt8} {a : Nat} {h : H} (w : Src b l a h) (hl : l.length ≤ 1048576) (ha : a + 300 < 1099511627000) :
    ∃ v ks h', call Ev Fn.spec_l8Rows [pv b 0] h = some (v, h') ∧ RwS b h.n v ks h' ∧ ks.length ≤ 61 ∧ (∀ r ∈ ks, r.text.size ≤ 9) ∧ Dr b l a 60 h h' := by
  have hb := w.n
  rw [eq_spec_l8Rows]
  have w0 : Src b l a (h.new 4 [.int .i64 0, .int .i64 1, .int .i64 8, .str (⟨#[]⟩), .int .i64 0, .int .i64 2, .int .i64 3, .str (⟨#[]⟩)]) := w.up up_new
  obtain ⟨x1, h1, e1, a1, b1, w1, n1, o1, t1⟩ := r_next w0 hl (by omega) (n := 6) (by omega) (by omega)
  rw [e1]; simp only [ob, gV1_s, gI_i]; rw [t1]
  obtain ⟨k, rfl⟩ : ∃ k : Nat, x1 = k := ⟨x1.toNat, by omega⟩
  have f0 : FlS 4 h1 (sv h.n 0 2) (rws [⟨0, 1, 8, ⟨#[]⟩⟩, ⟨0, 2, 3, ⟨#[]⟩⟩]) h.n := ⟨rfl, by rw [n1, new_n]; omega, by rw [o1 h.n (by omega), new_g]; rfl, rws_row⟩
  obtain ⟨v, ks, h', e2, w2, l2, r2, d2⟩ := lp_l8Rows (lo := h.n) hl k (a + 1) _ (sv h.n 0 2) h1 w1 (by omega) ⟨h.n, f0, by omega, by omega⟩ (by rw [n1, new_n]; omega) (by simp; omega) (by
    intro r hr
    simp only [List.mem_cons, List.not_mem_nil, or_false] at hr
    rcases hr with rfl | rfl <;> decide)
  rw [e2, ob, lcase_done]
  simp only [gx0, ob]
  refine ⟨v, ks, h', rfl, w2, by simp at l2; omega, r2, ?_⟩
  obtain ⟨a2, s2, la2⟩ := d2.ex
  have hn : h.n ≤ h1.n := by rw [n1, new_n]; omega
  exact ⟨⟨a2, s2, by omega⟩, Nat.le_trans hn d2.n, fun c hc hcb => by rw [d2.o c (by omega) hcb, o1 c hcb, new_g' (by omega)]⟩
theorem r_l8Bent {b : Nat} {l : List UInt8} {a : Nat} {h : H} (w : Src b l a h) (hl : l.length ≤ 1048576) (ha : a + 400 < 1099511627000) :
    ∃ v ks h', call Ev Fn.spec_l8Bent [pv b 0] h = some (v, h') ∧ RwS b h.n v ks h' ∧ ks.length ≤ 61 ∧ (∀ r ∈ ks, r.text.size ≤ 9) ∧ Dr b l a 61 h h' := by
  have hb := w.n
  rw [eq_spec_l8Bent]
  obtain ⟨x, h1, e1, w1, n1, o1, t1⟩ := r_chance w hl (by omega) (n := 6) (by omega) (by omega)
  rw [e1]; simp only [ob, gV1_s, gB_b]; rw [t1, vcase_b]
  have go : ∀ {g : Nat}, (∃ v ks h', call Ev g [pv b 0] h1 = some (v, h') ∧ RwS b h1.n v ks h' ∧ ks.length ≤ 61 ∧ (∀ r ∈ ks, r.text.size ≤ 9) ∧ Dr b l (a + 1) 60 h1 h') →
      ∃ v ks h', ((call Ev g [pv b 0] h1).bind fun p => some (p.1, tidy h1 [p.1] p.2)) = some (v, h') ∧ RwS b h.n v ks h' ∧ ks.length ≤ 61 ∧ (∀ r ∈ ks, r.text.size ≤ 9) ∧ Dr b l a 61 h h' := fun {g} ⟨v, ks, h2, e2, w2, l2, r2, d2⟩ => by
    rw [e2, ob]
    dsimp only
    have d2' := d2.tidy w1.n [v]
    have w2' : RwS b h1.n v ks (tidy h1 [v] h2) := w2.tidy (by simp)
    obtain ⟨q, f1, f2, f3⟩ := w2'.ex
    obtain ⟨a2, s2, la2⟩ := d2'.ex
    have := d2'.n
    exact ⟨v, ks, _, rfl, ⟨q, f1, by omega, f3⟩, l2, r2, ⟨a2, s2, by omega⟩, by omega, fun c hc hcb => by rw [d2'.o c (by omega) hcb, o1 c hcb]⟩
  cases x with
  | true => rw [if_pos rfl]; exact go (r_BentRows w1 hl (by omega))
  | false => rw [if_neg (by simp)]; exact go (r_l8Rows w1 hl (by omega))
end Vm
/-
  Changes: their size, a copy, a comparison, their fault; whether a change may be.
-/
namespace Vm
open Go
structure ChgD where
  was : Bool
  b : RowD
  is : Bool
  a : RowD
abbrev ChgD.cs (c : ChgD) : List S := [.bool c.was, .int .i64 c.b.tab, .int .i64 c.b.key, .int .i64 c.b.val, .str c.b.text, .bool c.is, .int .i64 c.a.tab, .int .i64 c.a.key, .int .i64 c.a.val, .str c.a.text]
structure ChgD.ok (c : ChgD) : Prop where
  b : c.b.ok
  a : c.a.ok
/-! the fault -/
def sameK (a b : RowD) : Bool := decide (a.tab = b.tab) && decide (a.key = b.key)
def chgF (c : ChgD) : Int :=
  if (!c.was && !c.is) || (c.was && c.is && !sameK c.b c.a) then 1
  else if c.was = true ∧ rowF c.b ≠ 0 then rowF c.b else if c.is then rowF c.a else 0
def ordI (a b : RowD) : Int := if befB a b then -1 else if befB b a then 1 else 0
theorem p_order (a b : RowD) : pureV (call Ev) Fn.impl_order [.agg a.cs, .agg b.cs] = some (iv .i64 (ordI a b)) := by
  rw [pu_impl_order, pc (p_IsBefore a b) rfl]
  simp only [gV1_s, gB_b, vcase_b]
  unfold ordI
  cases befB a b
  · rw [if_neg (by simp), if_neg (by simp), pc (p_IsBefore b a) rfl]
    simp only [gV1_s, gB_b, vcase_b]
    cases befB b a <;> rfl
  · rfl
theorem ordI_0 {a b : RowD} : ordI a b = 0 ↔ sameK a b = true := by
  unfold ordI befB sameK
  simp only [Bool.or_eq_true, Bool.and_eq_true, decide_eq_true_eq]
  split
  · omega
  · split <;> omega
/-- the fault of the rows of a change -/
def chgR (c : ChgD) : Int := if c.was = true ∧ rowF c.b ≠ 0 then rowF c.b else if c.is then rowF c.a else 0
theorem chgF_eq (c : ChgD) : chgF c = if (!c.was && !c.is) || (c.was && c.is && !sameK c.b c.a) then 1 else chgR c := rfl
theorem p_l6Change (c : ChgD) (hc : c.b.text.size ≤ maxLen ∧ c.a.text.size ≤ maxLen) : pureV (call Ev) Fn.spec_l6Change [fv c.cs 0] = some (iv .i64 (chgF c)) := by
  have fin : ∀ q w1 w2 w3 w4 w5 w6 w7 w8 w9 w10 w11 w12 w13 w14 w15 w16 w17 w18 w19 w20 w21 w22 w23 w24 w25 w26 w27 w28 w29 w30 w31 w32 w33 w34 w35 w36 q2,
      Jn.spec_l6Change_0 q w1 w2 w3 w4 w5 w6 w7 w8 w9 w10 w11 w12 w13 w14 w15 w16 w17 w18 w19 w20 w21 w22 w23 w24 w25 w26 w27 w28 w29 w30 w31 w32 w33 w34 w35 w36 q2 c.was c.b.tab c.b.key c.b.val c.b.text c.is c.a.tab c.a.key c.a.val c.a.text = some (iv .i64 (if q2 = true then 1 else chgR c)) := by
    intro q w1 w2 w3 w4 w5 w6 w7 w8 w9 w10 w11 w12 w13 w14 w15 w16 w17 w18 w19 w20 w21 w22 w23 w24 w25 w26 w27 w28 w29 w30 w31 w32 w33 w34 w35 w36 q2
    unfold Jn.spec_l6Change_0 chgR
    rw [pc (p_l1Fault c.b hc.1) rfl]
    simp only [gV1_s, gI_i, vcase_b, bne_iff_ne, ne_eq]
    rw [pc (p_l1Fault c.a hc.2) rfl]
    simp only [gV1_s, gI_i]
    by_cases h0 : rowF c.b = 0 <;> cases q2 <;> cases c.was <;> cases c.is <;> simp [h0]
  rw [pu_spec_l6Change, chgF_eq]
  unfold Jn.spec_l6Change_1
  simp only [vcase_b, bne_iff_ne, ne_eq, fin]
  have hs : sameK c.b c.a = (decide (c.b.tab = c.a.tab) && decide (c.b.key = c.a.key)) := rfl
  rw [hs]
  cases c.was <;> cases c.is <;> simp only [Bool.not_true, Bool.not_false, Bool.false_eq_true, if_false, if_true, Bool.and_true, Bool.true_and, Bool.and_false, Bool.false_and, Bool.or_false, Bool.false_or]
  by_cases h1 : c.b.tab = c.a.tab
  · rw [if_neg (by simpa using h1), decide_eq_true h1, Bool.true_and]
    by_cases h2 : c.b.key = c.a.key <;> simp [h2]
  · rw [if_pos h1, decide_eq_false h1]; rfl
theorem p_changeFault (c : ChgD) (hc : c.b.text.size ≤ maxLen ∧ c.a.text.size ≤ maxLen) : pureV (call Ev) Fn.impl_changeFault [.agg c.cs] = some (iv .i64 (chgF c)) := by
  have fin : ∀ q2, Jn.impl_changeFault_0 q2 c.was c.b.tab c.b.key c.b.val c.b.text c.is c.a.tab c.a.key c.a.val c.a.text = some (iv .i64 (if q2 = true then 1 else chgR c)) := by
    intro q2
    unfold Jn.impl_changeFault_0 chgR
    rw [pc (p_RowFault c.b hc.1) rfl]
    simp only [gV1_s, gI_i, vcase_b, bne_iff_ne, ne_eq]
    rw [pc (p_RowFault c.a hc.2) rfl]
    simp only [gV1_s, gI_i]
    by_cases h0 : rowF c.b = 0 <;> cases q2 <;> cases c.was <;> cases c.is <;> simp [h0]
  rw [pu_impl_changeFault, chgF_eq]
  unfold Jn.impl_changeFault_2 Jn.impl_changeFault_1
  rw [pc (p_order c.b c.a) rfl]
  simp only [gV1_s, gI_i, vcase_b, fin, bne_iff_ne, ne_eq, ordI_0]
  cases c.was <;> cases c.is <;> simp
/-! whether a change may be -/
def ChgD.k (c : ChgD) : RowD := if c.is then c.a else c.b
theorem p_Change_key (c : ChgD) : pureV (call Ev) Fn.impl_Change_key [.agg c.cs] = some (.agg c.k.cs) := by
  rw [pu_impl_Change_key, vcase_b]; unfold ChgD.k
  cases c.is <;> rfl
theorem p_l6Key (c : ChgD) : pureV (call Ev) Fn.spec_l6Key [fv c.cs 0] = some (.tup [.s (.int .i64 c.k.tab), .s (.int .i64 c.k.key)]) := by
  rw [pu_spec_l6Key, vcase_b]; unfold ChgD.k
  cases c.is <;> rfl
/-- a row stands in the way of a change of a table -/
def hinders (c : ChgD) (r : RowD) : Bool := decide (r.tab = c.k.key) && !decide (r.tab = 0) && (!c.is || decide ((r.text.size : Int) > c.a.val))
def catF (rs : List RowD) (c : ChgD) : Int := if c.is && (!inB c.k.key 1 3 || decide (c.a.val > 8) || !(c.a.text.toList == (⟨#[]⟩ : ByteArray).toList)) then 10 else if rs.any (hinders c) then 8 else 0
theorem p_l8Catalog {all : List RowD} (c : ChgD) (hl : all.length ≤ maxLen) : pureV (call Ev) Fn.spec_l8Catalog [lv (rws all), fv c.cs 0] = some (iv .i64 (catF all c)) := by
  unfold maxLen at hl
  have loop : ∀ (rs : List RowD) (i : Nat), all.drop i = rs → Lp.spec_l8Catalog 0 [lv (rws all), fv c.cs 0, iv .i64 c.k.key, iv .i64 i] (D 0) = some (if rs.any (hinders c) then .ret (iv .i64 8) (D 0) else .done [] (D 0)) := by
    intro rs
    induction rs with
    | nil =>
      intro i hi
      have := drop_nil hi
      rw [eq_spec_l8Catalog_l0, vcase_b, if_neg (by simp; omega), tidy_self]; rfl
    | cons r rs ih =>
      intro i hi
      obtain ⟨g1, g2, g3⟩ := drop_cons hi
      have ih' := ih (i + 1) g2
      rw [eq_spec_l8Catalog_l0, vcase_b, if_pos (by simp; omega), idxF_rw g1]
      simp only [tidy_self]
      rw [w64 (by omega) (by omega), show (i : Int) + 1 = ((i + 1 : Nat) : Int) from by omega, ih', List.any_cons]
      simp only [ob, gx0, gI_i, vcase_b]
      rw [idxF_rw g1]
      simp only [ob, gx0, gI_i, vcase_b]
      rw [idxF_rw g1, show 0 + 5 = 5 from rfl, show 0 + 6 + 2 = 8 from rfl]
      simp only [ob, gx0, gx1, gI_i, gB_b, gS_s, vcase_b, beq_iff_eq, bne_iff_ne, ne_eq, decide_eq_true_eq]
      by_cases h1 : r.tab = c.k.key
      · rw [if_pos h1]
        by_cases h2 : r.tab = 0
        · have e : hinders c r = false := by simp [hinders, h2]
          rw [if_neg (by simpa using h2), e, Bool.false_or]
        · rw [if_pos h2]
          by_cases hi : c.is = true
          · by_cases h3 : (r.text.size : Int) > c.a.val
            · have e : hinders c r = true := by simp [hinders, h1, hi, h3]; rw [← h1]; exact h2
              rw [if_neg (by simp [hi]), if_pos h3, e, Bool.true_or, if_pos rfl]
            · have e : hinders c r = false := by simp [hinders, hi, h3]
              rw [if_neg (by simp [hi]), if_neg h3, e, Bool.false_or]
          · have e : hinders c r = true := by simp [hinders, h1, hi]; rw [← h1]; exact h2
            rw [if_pos (by simp [hi]), e, Bool.true_or, if_pos rfl]
      · have e : hinders c r = false := by simp [hinders, h1]
        rw [if_neg h1, e, Bool.false_or]
  have fin : ((Lp.spec_l8Catalog 0 [lv (rws all), fv c.cs 0, iv .i64 c.k.key, iv .i64 0] (D 0)).bind fun o133 => lcase o133 (fun l134 h135 =>
  some (iv .i64 0)) (fun v136 h137 =>
  frzV h137 v136)) = some (iv .i64 (if all.any (hinders c) then 8 else 0)) := by
    rw [show iv .i64 0 = iv .i64 ((0 : Nat) : Int) from rfl, loop all 0 rfl, ob]
    split
    · rw [lcase_ret]; simp
    · rw [lcase_done]; rfl
  rw [pu_spec_l8Catalog, pc (p_l6Key c) rfl]
  simp only [ob, gx0, gx1, gVT_t, gA1_s, gI_i, ln0, ln1, Nat.zero_add, Nat.reduceAdd, if_true, vcase_b]
  rw [fin, pc (p_l1In _ _ _) rfl]
  simp only [gV1_s, gB_b, vcase_b, decide_eq_true_eq]
  unfold catF
  cases c.is
  · simp
  · simp only [if_true, Bool.true_and]
    cases inB c.k.key 1 3
    · simp
    · simp only [Bool.not_true, Bool.false_or, Bool.false_eq_true, if_false]
      by_cases h3 : c.a.val > 8
      · simp [h3]
      · rw [if_neg h3, decide_eq_false h3, Bool.false_or]
        cases (c.a.text.toList == (⟨#[]⟩ : ByteArray).toList) <;> simp
end Vm
/-
  What is drawn out of bytes: a change that somebody may want.
-/
namespace Vm
open Go
theorem flat4 : ∀ (ks : List RowD) (j : Nat) (r : RowD), ks[j]? = some r → (((rws ks).flatten).drop (j * 4)).take 4 = r.cs
  | [], j, r, h => by simp at h
  | k :: ks, 0, r, h => by
    have : k = r := by simpa using h
    subst this; rfl
  | k :: ks, j + 1, r, h => by
    have h' : ks[j]? = some r := by simpa using h
    rw [show (j + 1) * 4 = j * 4 + 4 from by omega]
    exact flat4 ks j r h'
theorem FlS.row {q j : Nat} {h : H} {v : V} {ks : List RowD} {r : RowD} (w : FlS 4 h v (rws ks) q) (hj : ks[j]? = some r) : loadN 4 h (pv q (j * 4)) = some r.cs := by
  have hl := flat_len w.z
  rw [rws_len] at hl
  have hlt : j < ks.length := by
    rcases Nat.lt_or_ge j ks.length with h1 | h1
    · exact h1
    · rw [List.getElem?_eq_none h1] at hj; cases hj
  rw [loadN_rw w.n w.g (by omega), flat4 ks j r hj]
theorem st10_at {R : Type} {K : H} {n : Nat} {zs cs : List S} {f : H → Option R} (hn : n < K.n) (hg : K.g n = .rw 0 zs) (hz : zs.length = 10) (hc : cs.length = 10) : stK 10 K (pv n 0) (.agg cs) f = f (K.put n (.rw 0 cs)) := by
  rw [stK_rw (z := 10) (o := 0) (b := n) (r := cs) (e := 0) (cs := zs) hn hg (.inr rfl) hc (by omega), setAt_full (by omega)]
theorem st4_in {R : Type} {K : H} {n o : Nat} {cs : List S} {r : RowD} {f : H → Option R} (hn : n < K.n) (hg : K.g n = .rw 0 cs) (hl : o + 4 ≤ cs.length) : stK 4 K (pv n o) (.agg r.cs) f = f (K.put n (.rw 0 (setAt cs o r.cs))) :=
  stK_rw (z := 4) (o := o) (b := n) (r := r.cs) (e := 0) (cs := cs) hn hg (.inr rfl) rfl hl
theorem ld10_at {K : H} {n : Nat} {c : ChgD} (hn : n < K.n) (hg : K.g n = .rw 0 c.cs) : loadN 10 K (pv n 0) = some c.cs := loadN_rw hn hg (by simp)
abbrev z10 : List S := [.bool false, .int .i64 0, .int .i64 0, .int .i64 0, .str (⟨#[]⟩), .bool false, .int .i64 0, .int .i64 0, .int .i64 0, .str (⟨#[]⟩)]
theorem ch_0 {Y W h : H} {c : ChgD} (hn : W.n < Y.n) (gn : Y.g W.n = .rw 0 c.cs) (hm : h.n < Y.n) (gm : Y.g h.n = .rw 0 z10) : Jn.spec_l8Change_0 Y W h = some (.agg c.cs, Y.put h.n (.rw 0 c.cs)) := by
  unfold Jn.spec_l8Change_0
  rw [ld10_at hn gn]
  simp only [ob, gx0, gx1, gI_i, gS_s, gB_b, ln0, ln1, Nat.zero_add, Nat.reduceAdd, if_true]
  rw [st10_at hm gm rfl rfl, ld10_at (by rw [put_n]; exact hm) (put_g _ _ _), ob]
/-- one's own blocks aside, all stays -/
structure Ow (b : Nat) (l : List UInt8) (a m N : Nat) (Z h' : H) : Prop where
  ex : ∃ a', Src b l a' h' ∧ a' ≤ a + N
  n : Z.n ≤ h'.n
  o : ∀ c, c < m → c ≠ b → h'.g c = Z.g c
theorem ch_1 {b lo a m n : Nat} {l : List UInt8} {Z h : H} {p : V × H} {v : V} {ks : List RowD} {r : RowD} (w : Src b l a Z) (hl : l.length ≤ 1048576) (ha : a < 1099511627000) (hb : b < m) (hm : h.n = m) (hmn : m < n) (gm : Z.g m = .rw 0 z10) (hp : (tidy (h.new 0 z10) [p.1] p.2).n = n) (nZ : n < Z.n) (gn : Z.g n = .rw 0 r.cs) (wv : RwS b lo v ks Z) (hk : ks.length ≤ 100) (hr : ∀ r ∈ ks, r.text.size ≤ 9) (h9 : r.text.size ≤ 9) :
    ∃ (c : ChgD) (h' : H), Jn.spec_l8Change_1 Z h p v b 0 = some (.agg c.cs, h') ∧ c.b.text.size ≤ 9 ∧ c.a.text.size ≤ 9 ∧ Ow b l a m 1 Z h' := by
  unfold Jn.spec_l8Change_1
  change ∃ (c : ChgD) (h' : H), (loadN 4 Z (pv (tidy (h.new 0 z10) [p.1] p.2).n 0)).bind _ = _ ∧ _
  rw [hp, ld4_at nZ gn]
  simp only [gx0, gx1, ob, gI_i, gS_s, ln0, ln1, Nat.zero_add, Nat.reduceAdd, if_true]
  let c0 : ChgD := { was := false, b := zRow, is := true, a := r }
  have e1 : ∀ f : H → Option (V × H), stK 10 (Z.new 0 z10) (pv Z.n 0) (.agg c0.cs) f = f (putX Z z10 c0.cs) := fun f => stK_X (z := 10) rfl rfl
  refine (?_ : ∃ (c : ChgD) (h' : H), stK 10 (Z.new 0 z10) (pv Z.n 0) (.agg c0.cs) _ = _ ∧ _)
  rw [e1]
  have gX := putX_g Z z10 c0.cs
  have nX := putX_n Z z10 c0.cs
  have kX := putX_keep Z z10 c0.cs
  have uX : Up Z (putX Z z10 c0.cs) := ⟨kX.1, fun c hc => (kX.2 c hc).1⟩
  generalize putX Z z10 c0.cs = X at gX nX uX ⊢
  have gnX : X.g n = .rw 0 r.cs := (uX.g n nZ).trans gn
  have gmX : X.g m = .rw 0 z10 := (uX.g m (by omega)).trans gm
  have wX := wv.up uX
  have sX := w.up uX
  rw [load1_at (o := 0) (x := .int .i64 r.tab) (by omega) gnX rfl]
  simp only [ob, gI_i]
  rw [load1_at (o := 1) (x := .int .i64 r.key) (by omega) gnX rfl]
  simp only [ob, gI_i]
  rw [frzVs_cons wX.frz (frzVs_cons frzV_iv (frzVs_cons frzV_iv frzVs_nil)), ob, norm_nil]
  rw [pc (p_l6At (all := ks) (t := r.tab) (k := r.key) (by unfold maxLen; omega)) rfl]
  simp only [gV1_s, gI_i]
  rw [vcase_b]
  -- the end, from whatever change
  have fin : ∀ {Y : H} {c : ChgD} {a' : Nat}, Src b l a' Y → a' ≤ a + 1 → X.n ≤ Y.n → Y.g Z.n = .rw 0 c.cs → (∀ i, i < Z.n → i ≠ b → Y.g i = Z.g i) → c.b.text.size ≤ 9 → c.a.text.size ≤ 9 → ∃ (c : ChgD) (h' : H), Jn.spec_l8Change_0 Y Z h = some (.agg c.cs, h') ∧ c.b.text.size ≤ 9 ∧ c.a.text.size ≤ 9 ∧ Ow b l a m 1 Z h' := fun {Y c a'} sY la nY gY oY c1 c2 => by
    refine ⟨c, Y.put h.n (.rw 0 c.cs), ch_0 (by omega) gY (by omega) (by rw [hm, oY m (by omega) (by omega)]; exact gm), c1, c2, ⟨a', ⟨by rw [put_n]; exact sY.n, by rw [put_g' (by omega)]; exact sY.g⟩, la⟩, by rw [put_n]; omega, fun i hi hib => by rw [put_g' (by omega)]; exact oY i (by omega) hib⟩
  rcases atF_some (t := r.tab) (k := r.key) ks 0 with e | ⟨j, x, hj, e, _, _⟩
  · rw [e, if_neg (by simp)]
    exact fin (c := c0) sX (by omega) (Nat.le_refl _) gX (fun i hi _ => uX.g i hi) (by show zRow.text.size ≤ 9; decide) h9
  · rw [e, if_pos (by simp), Nat.zero_add]
    obtain ⟨q, f1, f2, f3⟩ := wv.ex
    have nq := f1.n
    have hx9 := hr x (List.mem_of_getElem? hj)
    have hjl : j < ks.length := by
      rcases Nat.lt_or_ge j ks.length with h1 | h1
      · exact h1
      · rw [List.getElem?_eq_none h1] at hj; cases hj
    rw [st_fld (x := .bool true) (by omega) gX rfl rfl (by simp)]
    have gX1 : (X.put Z.n (.rw 0 (setAt c0.cs 0 [.bool true]))).g Z.n = .rw 0 ({ c0 with was := true } : ChgD).cs := put_g _ _ _
    have oX1 : ∀ i, i < Z.n → (X.put Z.n (.rw 0 (setAt c0.cs 0 [.bool true]))).g i = Z.g i := fun i hi => by rw [put_g' (by omega), uX.g i hi]
    have nX1 : (X.put Z.n (.rw 0 (setAt c0.cs 0 [.bool true]))).n = X.n := put_n _ _ _
    generalize X.put Z.n (.rw 0 (setAt c0.cs 0 [.bool true])) = X1 at gX1 oX1 nX1 ⊢
    have fX1 : FlS 4 X1 v (rws ks) q := f1.keep (by omega) (oX1 q nq)
    rw [f1.v, idxK_sv (by rw [rws_len]; exact hjl), ldK_agg rfl (fX1.row hj)]
    simp only [gVA_a, gx0, gx1, ob, gI_i, gS_s, ln0, ln1, Nat.zero_add, Nat.reduceAdd, if_true]
    refine (?_ : ∃ (c : ChgD) (h' : H), stK 4 X1 (pv Z.n 1) (.agg x.cs) _ = _ ∧ _)
    rw [st4_in (by omega) gX1 (by simp)]
    have gX2 : (X1.put Z.n (.rw 0 (setAt ({ c0 with was := true } : ChgD).cs 1 x.cs))).g Z.n = .rw 0 ({ c0 with was := true, b := x } : ChgD).cs := put_g _ _ _
    have oX2 : ∀ i, i < Z.n → (X1.put Z.n (.rw 0 (setAt ({ c0 with was := true } : ChgD).cs 1 x.cs))).g i = Z.g i := fun i hi => by rw [put_g' (by omega), oX1 i hi]
    have nX2 : (X1.put Z.n (.rw 0 (setAt ({ c0 with was := true } : ChgD).cs 1 x.cs))).n = X1.n := put_n _ _ _
    generalize X1.put Z.n (.rw 0 (setAt ({ c0 with was := true } : ChgD).cs 1 x.cs)) = X2 at gX2 oX2 nX2 ⊢
    have s2 : Src b l a X2 := w.mono (by omega) (oX2 b (by omega))
    obtain ⟨y, h3, e3, w3, n3, o3, t3⟩ := r_chance s2 hl (by omega) (n := 3) (by omega) (by omega)
    rw [e3]; simp only [ob, gV1_s, gB_b]; rw [t3, vcase_b]
    have g3 : h3.g Z.n = .rw 0 ({ c0 with was := true, b := x } : ChgD).cs := by rw [o3 Z.n (by omega)]; exact gX2
    have oo3 : ∀ i, i < Z.n → i ≠ b → h3.g i = Z.g i := fun i hi hib => by rw [o3 i hib, oX2 i hi]
    cases y with
    | false =>
      rw [if_neg (by simp)]
      exact fin (c := { c0 with was := true, b := x }) w3 (by omega) (by omega) g3 oo3 hx9 h9
    | true =>
      rw [if_pos rfl, st_fld (x := .bool false) (by omega) g3 rfl rfl (by simp)]
      refine (?_ : ∃ (c : ChgD) (h' : H), stK 4 _ (pv Z.n 6) (.agg zRow.cs) _ = _ ∧ _)
      rw [st4_in (r := zRow) (cs := setAt ({ c0 with was := true, b := x } : ChgD).cs 5 [.bool false]) (by rw [put_n]; omega) (put_g _ _ _) (by show 6 + 4 ≤ 10; omega)]
      exact fin (c := { was := true, b := x, is := false, a := zRow }) (a' := a + 1) ⟨by rw [put_n, put_n]; exact w3.n, by rw [put_g' (by omega), put_g' (by omega)]; exact w3.g⟩ (by omega) (by rw [put_n, put_n]; omega) (put_g _ _ _) (fun i hi hib => by rw [put_g' (by omega), put_g' (by omega)]; exact oo3 i hi hib) hx9 (by show zRow.text.size ≤ 9; decide)
end Vm
/-
  What is drawn out of bytes: a change that somebody may want; the rows and the change.
-/
namespace Vm
open Go
theorem r_l8Change {b a lo : Nat} {l : List UInt8} {h : H} {v : V} {ks : List RowD} (w : Src b l a h) (hl : l.length ≤ 1048576) (ha : a + 100 < 1099511627000) (wv : RwS b lo v ks h) (hk : ks.length ≤ 100) (hr : ∀ r ∈ ks, r.text.size ≤ 9) :
    ∃ (c : ChgD) (h' : H), call Ev Fn.spec_l8Change [pv b 0, v] h = some (.agg c.cs, h') ∧ c.b.text.size ≤ 9 ∧ c.a.text.size ≤ 9 ∧ Dr b l a 20 h h' := by
  have hb := w.n
  rw [eq_spec_l8Change]
  have w0 : Src b l a (h.new 0 z10) := w.up up_new
  have g0 : (h.new 0 z10).g h.n = .rw 0 z10 := new_g _ _ _
  have k0 : ∀ c, c < h.n → (h.new 0 z10).g c = h.g c := fun c hc => new_g' (by omega)
  have n0 : (h.new 0 z10).n = h.n + 1 := new_n _ _ _
  obtain ⟨r, h1, e1, hr0, d1⟩ := r_draw w0 hl (by omega)
  have w9 : r.text.size ≤ 9 := rowF_00 hr0
  change ∃ (c : ChgD) (h' : H), ((call Ev Fn.spec_l1Draw [pv b 0] (h.new 0 z10)).bind _) = _ ∧ _
  rw [e1, ob]
  simp only [gVA_a, gx0, gx1, ob, gI_i, gS_s, ln0, ln1, Nat.zero_add, Nat.reduceAdd, if_true]
  have d1' := d1.tidy w0.n [V.agg r.cs]
  have hN : ∃ n, (tidy (h.new 0 z10) [V.agg r.cs] h1).n = n := ⟨_, rfl⟩
  obtain ⟨n, hN⟩ := hN
  have hK := d1'.n
  have e13 : stK 4 ((tidy (h.new 0 z10) [V.agg r.cs] h1).new 0 z4') (pv (tidy (h.new 0 z10) [V.agg r.cs] h1).n 0) (.agg r.cs) = fun (f : H → Option (V × H)) => f (putX (tidy (h.new 0 z10) [V.agg r.cs] h1) z4' r.cs) := by
    funext f; exact stK_X (z := 4) rfl rfl
  change ∃ (c : ChgD) (h' : H), stK 4 ((tidy (h.new 0 z10) [V.agg r.cs] h1).new 0 z4') (pv (tidy (h.new 0 z10) [V.agg r.cs] h1).n 0) (.agg r.cs) _ = _ ∧ _
  rw [e13]
  dsimp only
  have gX := putX_g (tidy (h.new 0 z10) [V.agg r.cs] h1) z4' r.cs
  have nX := putX_n (tidy (h.new 0 z10) [V.agg r.cs] h1) z4' r.cs
  have kX := putX_keep (tidy (h.new 0 z10) [V.agg r.cs] h1) z4' r.cs
  have dX : Dr b l a 5 (h.new 0 z10) (putX (tidy (h.new 0 z10) [V.agg r.cs] h1) z4' r.cs) := d1'.up ⟨kX.1, fun c hc => (kX.2 c hc).1⟩
  rw [hN] at gX nX hK ⊢
  generalize putX (tidy (h.new 0 z10) [V.agg r.cs] h1) z4' r.cs = X at gX nX dX ⊢
  have fin : ∀ {Z : H} {r' : RowD} {a' : Nat}, Src b l a' Z → a' ≤ a + 15 → n < Z.n → Z.g n = .rw 0 r'.cs → (∀ c, c < n → c ≠ b → Z.g c = X.g c) → r'.text.size ≤ 9 → ∃ (c : ChgD) (h' : H), Jn.spec_l8Change_1 Z h (V.agg r.cs, h1) v b 0 = some (.agg c.cs, h') ∧ c.b.text.size ≤ 9 ∧ c.a.text.size ≤ 9 ∧ Dr b l a 20 h h' := fun {Z r' a'} sZ la nZ gZ oZ h9 => by
    have oh : ∀ c, c < h.n → c ≠ b → Z.g c = h.g c := fun c hc hcb => by rw [oZ c (by omega) hcb, dX.o c (by omega) hcb, k0 c hc]
    have wZ : RwS b lo v ks Z := by
      obtain ⟨q, f1, f2, f3⟩ := wv.ex
      exact ⟨q, f1.keep (by omega) (oh q f1.n f3), f2, f3⟩
    obtain ⟨c, h', e, c1, c2, ow⟩ := ch_1 (m := h.n) (p := (V.agg r.cs, h1)) sZ hl (by omega) hb rfl (by omega) (by rw [oZ h.n (by omega) (by omega), dX.o h.n (by omega) (by omega)]; exact g0) hN nZ gZ wZ hk hr h9
    obtain ⟨a2, s2, la2⟩ := ow.ex
    have := ow.n
    exact ⟨c, h', e, c1, c2, ⟨a2, s2, by omega⟩, by omega, fun i hi hib => by rw [ow.o i hi hib, oh i hi hib]⟩
  obtain ⟨a2, s2, la2⟩ := dX.ex
  obtain ⟨x3, h3, e3, m3, b3, w3, n3, o3, t3⟩ := r_next s2 hl (by omega) (n := 5) (by omega) (by omega)
  rw [e3]; simp only [ob, gV1_s, gI_i]; rw [t3, vcase_b]
  have g3 : h3.g n = .rw 0 r.cs := by rw [o3 n (by omega)]; exact gX
  by_cases c0 : x3 = 0
  · rw [if_pos (by simp [c0])]
    obtain ⟨x4, h4, e4, m4, w4, n4, o4, t4⟩ := r_pickN w3 hl (by omega) (xs := [1, 2, 3, 4]) (by simp) (by simp)
    simp only [List.length_cons, List.length_nil, Nat.zero_add, Nat.reduceAdd, List.map_cons, List.map_nil] at e4 t4
    rw [e4]; simp only [ob, gV1_s, gI_i]; rw [t4]
    obtain ⟨x5, h5, e5, m5, w5, n5, o5, t5⟩ := r_pickN w4 hl (by omega) (xs := [8, 3, 0, 9]) (by simp) (by simp)
    simp only [List.length_cons, List.length_nil, Nat.zero_add, Nat.reduceAdd, List.map_cons, List.map_nil] at e5 t5
    rw [e5]; simp only [ob, gV1_s, gI_i]; rw [t5]
    have g5 : h5.g n = .rw 0 r.cs := by rw [o5 n (by omega) (by omega), o4 n (by omega) (by omega)]; exact g3
    rw [st4_at (by omega) g5]
    exact fin (r' := ⟨0, x4, x5, ⟨#[]⟩⟩) (a' := a2 + 1 + 1 + 1) ⟨by rw [put_n]; exact w5.n, by rw [put_g' (by omega)]; exact w5.g⟩ (by omega) (by rw [put_n]; omega) (put_g _ _ _) (fun c hc hcb => by rw [put_g' (by omega), o5 c (by omega) hcb, o4 c (by omega) hcb, o3 c hcb]) (by show (⟨#[]⟩ : ByteArray).size ≤ 9; decide)
  rw [if_neg (by simpa using c0), vcase_b]
  by_cases c1 : x3 = 1
  · rw [if_pos (by simp [c1]), st_fld (x := .int .i64 3) (by omega) g3 rfl rfl (by simp)]
    exact fin (r' := { r with tab := 3 }) (a' := a2 + 1) ⟨by rw [put_n]; exact w3.n, by rw [put_g' (by omega)]; exact w3.g⟩ (by omega) (by rw [put_n]; omega) (put_g _ _ _) (fun c hc hcb => by rw [put_g' (by omega), o3 c hcb]) w9
  rw [if_neg (by simpa using c1)]
  obtain ⟨x4, h4, e4, m4, b4, w4, n4, o4, t4⟩ := r_next w3 hl (by omega) (n := 2) (by omega) (by omega)
  rw [e4]; simp only [ob, gV1_s, gI_i]; rw [t4]
  have g4 : h4.g n = .rw 0 r.cs := by rw [o4 n (by omega)]; exact g3
  rw [st_fld (x := .int .i64 (IntKind.i64.wrap (1 + x4))) (by omega) g4 rfl rfl (by simp)]
  exact fin (r' := { r with tab := IntKind.i64.wrap (1 + x4) }) (a' := a2 + 1 + 1) ⟨by rw [put_n]; exact w4.n, by rw [put_g' (by omega)]; exact w4.g⟩ (by omega) (by rw [put_n]; omega) (put_g _ _ _) (fun c hc hcb => by rw [put_g' (by omega), o4 c hcb, o3 c hcb]) w9
end Vm
/-
  What is drawn out of bytes for the law on tables.
-/
namespace Vm
open Go
theorem r_source' {l : List UInt8} (h : H) : ∃ K : H, (∀ (R : Type) (k : V → H → Option R), pcallF (call Ev) Fn.spec_l1Source true [lv (bys l)] h k = k (pv h.n 0) K) ∧ Src h.n l 0 K ∧ Up h K ∧ K.n = h.n + 1 := by
  have hle : h.n ≤ ((D h.n).new 0 [.fs (bys l), .int .i64 0]).n := by simp
  refine ⟨h.over ((D h.n).new 0 [.fs (bys l), .int .i64 0]), fun R k => ?_, ⟨by rw [over_n hle]; simp, by rw [over_ge (Nat.le_refl _)]; exact new_g (D h.n) _ _⟩, up_over hle, by rw [over_n hle]; simp⟩
  unfold pcallF
  rw [eq_spec_l1Source, Vm.ob]
  unfold fchk
  rw [if_pos (.inl rfl)]; rfl
theorem RwS.frzS {b lo : Nat} {v : V} {ks : List RowD} {h : H} (w : RwS b lo v ks h) : ∃ x, v = .s x ∧ Vm.frzS h 8 x = some (.fs (rws ks)) := by
  obtain ⟨q, f1, _⟩ := w.ex
  have e := w.frz
  rw [f1.v] at e ⊢
  refine ⟨_, rfl, ?_⟩
  rw [frzV_s] at e
  cases hf : Vm.frzS h 8 (.sl (some (q, 0)) (rws ks).length) with
  | none => rw [hf] at e; cases e
  | some y => rw [hf] at e; injection e with e; injection e with e; rw [e]
theorem p_DrawLongestIn {l : List UInt8} (hl : l.length ≤ 1048576) : ∃ (ks : List RowD) (t : Int), pureV (call Ev) Fn.spec_DrawLongestIn [lv (bys l)] = some (.tup [.s (.fs (rws ks)), .s (.int .i64 t)]) ∧ ks.length ≤ 61 ∧ ∀ r ∈ ks, r.text.size ≤ 9 := by
  rw [pu_spec_DrawLongestIn]
  obtain ⟨K, e1, s1, u1, n1⟩ := r_source' (l := l) (D 0)
  simp only [D_n] at e1 s1 n1
  rw [e1]
  obtain ⟨v, ks, h2, e2, w2, l2, r2, d2⟩ := r_l8Bent s1 hl (by omega)
  rw [e2, ob]
  dsimp only
  have d2' := d2.tidy s1.n [v]
  have w2' : RwS 0 K.n v ks (tidy K [v] h2) := w2.tidy (by simp)
  generalize tidy K [v] h2 = X at d2' w2' ⊢
  obtain ⟨a2, s2, la2⟩ := d2'.ex
  obtain ⟨x3, h3, e3, m3, w3, n3, o3, t3⟩ := r_pickN s2 hl (by omega) (xs := [1, 2, 3, 0, 4]) (by simp) (by simp)
  simp only [List.length_cons, List.length_nil, Nat.zero_add, Nat.reduceAdd, List.map_cons, List.map_nil] at e3 t3
  rw [e3]; simp only [ob, gV1_s, gI_i]; rw [t3]
  have w3' : RwS 0 K.n v ks h3 := by
    obtain ⟨q, f1, f2, f3⟩ := w2'.ex
    exact ⟨q, f1.keep n3 (o3 q f1.n f3), f2, f3⟩
  obtain ⟨x, rfl, hx⟩ := w3'.frzS
  refine ⟨ks, x3, ?_, l2, r2⟩
  simp [V.toA, frzAs, frzA, hx]
theorem p_DrawKeyText {l : List UInt8} (hl : l.length ≤ 1048576) : ∃ (t k : Int), pureV (call Ev) Fn.spec_DrawKeyText [lv (bys l)] = some (.agg [.int .i64 t, .int .i64 k]) := by
  rw [pu_spec_DrawKeyText]
  obtain ⟨K, e1, s1, u1, n1⟩ := r_source' (l := l) ((D 0).new 0 [.int .i64 0, .int .i64 0])
  have g1 : K.g 0 = .rw 0 [.int .i64 0, .int .i64 0] := by rw [u1.g 0 (by simp)]; exact new_g (D 0) _ _
  simp only [new_n, D_n, Nat.zero_add] at e1 s1 n1
  rw [e1]
  obtain ⟨x3, h3, e3, m3, w3, n3, o3, t3⟩ := r_pickN s1 hl (by omega) (xs := [0, 3, 4, -1]) (by simp) (by simp)
  simp only [List.length_cons, List.length_nil, Nat.zero_add, Nat.reduceAdd, List.map_cons, List.map_nil] at e3 t3
  rw [e3]; simp only [ob, gV1_s, gI_i]; rw [t3]
  obtain ⟨x4, h4, e4, m4, w4, n4, o4, t4⟩ := r_pickN w3 hl (by omega) (xs := [1, 99, 0, 100]) (by simp) (by simp)
  simp only [List.length_cons, List.length_nil, Nat.zero_add, Nat.reduceAdd, List.map_cons, List.map_nil] at e4 t4
  rw [e4]; simp only [ob, gV1_s, gI_i]; rw [t4]
  have g4 : h4.g 0 = .rw 0 [.int .i64 0, .int .i64 0] := by rw [o4 0 (by omega) (by omega), o3 0 (by omega) (by omega)]; exact g1
  rw [stK_rw (z := 2) (o := 0) (b := 0) (r := [.int .i64 x3, .int .i64 x4]) (e := 0) (cs := [.int .i64 0, .int .i64 0]) (by omega) g4 (.inr rfl) rfl (by simp), show setAt [S.int .i64 0, .int .i64 0] 0 [S.int .i64 x3, .int .i64 x4] = [S.int .i64 x3, .int .i64 x4] from rfl]
  rw [loadN_rw (e := 0) (cs := [.int .i64 x3, .int .i64 x4]) (by rw [put_n]; omega) (put_g _ _ _) (by simp), ob]
  exact ⟨x3, x4, by simp⟩
theorem p_DrawMayBe {l : List UInt8} (hl : l.length ≤ 1048576) : ∃ (ks : List RowD) (c : ChgD), pureV (call Ev) Fn.spec_DrawMayBe [lv (bys l)] = some (.tup [.s (.fs (rws ks)), .agg c.cs]) ∧ ks.length ≤ 61 ∧ (∀ r ∈ ks, r.text.size ≤ 9) ∧ c.b.text.size ≤ 9 ∧ c.a.text.size ≤ 9 := by
  rw [pu_spec_DrawMayBe]
  obtain ⟨K, e1, s1, u1, n1⟩ := r_source' (l := l) ((D 0).new 0 z10)
  have g1 : K.g 0 = .rw 0 z10 := by rw [u1.g 0 (by simp)]; exact new_g (D 0) _ _
  simp only [new_n, D_n, Nat.zero_add] at e1 s1 n1
  rw [e1]
  obtain ⟨v, ks, h2, e2, w2, l2, r2, d2⟩ := r_l8Bent s1 hl (by omega)
  rw [e2, ob]
  dsimp only
  have d2' := d2.tidy s1.n [v]
  have w2' : RwS 1 K.n v ks (tidy K [v] h2) := w2.tidy (by simp)
  have hX : ∃ X, tidy K [v] h2 = X := ⟨_, rfl⟩
  obtain ⟨X, hX⟩ := hX
  rw [hX] at d2' w2' ⊢
  obtain ⟨a2, s2, la2⟩ := d2'.ex
  obtain ⟨c, h3, e3, c1, c2, d3⟩ := r_l8Change s2 hl (by omega) w2' (by omega) r2
  rw [e3, ob]
  simp only [gVA_a, gx0, gx1, ob, gI_i, gS_s, gB_b, ln0, ln1, Nat.zero_add, Nat.reduceAdd, if_true]
  have d3' := d3.tidy s2.n [V.agg c.cs]
  have hY : ∃ Y, tidy X [V.agg c.cs] h3 = Y := ⟨_, rfl⟩
  obtain ⟨Y, hY⟩ := hY
  change ∃ (ks : List RowD) (c' : ChgD), stK 10 ((tidy X [V.agg c.cs] h3).new 0 z10) (pv (tidy X [V.agg c.cs] h3).n 0) (.agg c.cs) _ = _ ∧ _
  rw [hY, stK_X (z := 10) rfl rfl]
  rw [hY] at d3'
  have nX := d2'.n
  have nY := d3'.n
  have gZ := putX_g Y z10 c.cs
  have nZ := putX_n Y z10 c.cs
  have kZ := putX_keep Y z10 c.cs
  have dZ : Dr 1 l a2 20 X (putX Y z10 c.cs) := d3'.up ⟨kZ.1, fun i hi => (kZ.2 i hi).1⟩
  generalize putX Y z10 c.cs = Z at gZ nZ dZ ⊢
  obtain ⟨a3, s3, la3⟩ := dZ.ex
  obtain ⟨y, h4, e4, w4, n4, o4, t4⟩ := r_chance s3 hl (by omega) (n := 10) (by omega) (by omega)
  rw [e4]; simp only [ob, gV1_s, gB_b]; rw [t4, vcase_b]
  have fin : ∀ {W : H} {c' : ChgD}, Y.n < W.n → W.g Y.n = .rw 0 c'.cs → (∀ i, i < X.n → i ≠ 1 → W.g i = X.g i) → c'.b.text.size ≤ 9 → c'.a.text.size ≤ 9 → ∃ (ks : List RowD) (c : ChgD), Jn.spec_DrawMayBe_0 W K (v, h2) (V.agg c.cs, h3) = some (.tup [.s (.fs (rws ks)), .agg c.cs]) ∧ ks.length ≤ 61 ∧ (∀ r ∈ ks, r.text.size ≤ 9) ∧ c.b.text.size ≤ 9 ∧ c.a.text.size ≤ 9 := fun {W c'} nW gW oW h1 h2' => by
    unfold Jn.spec_DrawMayBe_0
    refine (?_ : ∃ (ks : List RowD) (c' : ChgD), (loadN 10 W (pv (tidy (tidy K [v] h2) [V.agg c.cs] h3).n 0)).bind _ = _ ∧ _)
    rw [hX, hY, ld10_at nW gW]
    simp only [ob, gx0, gx1, gI_i, gS_s, gB_b, ln0, ln1, Nat.zero_add, Nat.reduceAdd, if_true]
    have hX0 := s2.n
    have g0 : W.g 0 = .rw 0 z10 := by rw [oW 0 (by omega) (by omega), d2'.o 0 (by omega) (by omega)]; exact g1
    rw [st10_at (by omega) g0 rfl rfl]
    have wW : RwS 1 K.n v ks (W.put 0 (.rw 0 c'.cs)) := by
      obtain ⟨q, f1, f2, f3⟩ := w2'.ex
      have := f1.n
      exact ⟨q, f1.keep (by rw [put_n]; omega) (by rw [put_g' (by omega), oW q (by omega) f3]), f2, f3⟩
    obtain ⟨x, hv, hx⟩ := wW.frzS
    refine ⟨ks, c', ?_, l2, r2, h1, h2'⟩
    rw [hv, ld10_at (by rw [put_n]; omega) (put_g _ _ _)]
    simp [V.toA, frzAs, frzA, hx]
  have g4 : h4.g Y.n = .rw 0 c.cs := by rw [o4 Y.n (by have := s2.n; omega)]; exact gZ
  have oo4 : ∀ i, i < X.n → i ≠ 1 → h4.g i = X.g i := fun i hi h1 => by rw [o4 i h1, dZ.o i hi h1]
  have hX1 := s2.n
  cases y with
  | false =>
    rw [if_neg (by simp)]
    exact fin (c' := c) (by omega) g4 oo4 c1 c2
  | true =>
    rw [if_pos rfl]
    obtain ⟨r, h5, e5, hr, d5⟩ := r_lbent w4 hl (by omega)
    rw [e5, ob]
    simp only [gVA_a, gx0, gx1, ob, gI_i, gS_s, ln0, ln1, Nat.zero_add, Nat.reduceAdd, if_true]
    have d5' := d5.tidy w4.n [V.agg r.cs]
    refine (?_ : ∃ (ks : List RowD) (c' : ChgD), stK 4 (tidy h4 [V.agg r.cs] h5) (pv Y.n 6) (.agg r.cs) _ = _ ∧ _)
    generalize tidy h4 [V.agg r.cs] h5 = Q at d5' ⊢
    have nQ := d5'.n
    rw [st4_in (cs := c.cs) (by omega) (by rw [d5'.o Y.n (by omega) (by omega)]; exact g4) (by show 6 + 4 ≤ 10; omega)]
    exact fin (c' := { c with a := r }) (by rw [put_n]; omega) (put_g _ _ _) (fun i hi h1 => by rw [put_g' (by omega), d5'.o i (by omega) h1, oo4 i hi h1]) c1 hr
end Vm
/-
  The tables that rows tell.
-/
namespace Vm
open Go
theorem rws_snoc (rs : List RowD) (r : RowD) : rws (rs ++ [r]) = rws rs ++ [r.cs] := by simp [rws]
def tabs (rs : List RowD) : List RowD := rs.filter fun r => decide (r.tab = 0)
theorem p_l8Tables {all : List RowD} (hl : all.length ≤ lim) : pureV (call Ev) Fn.spec_l8Tables [lv (rws all)] = some (lv (rws (tabs all))) := by
  have hl' := hl
  unfold lim at hl'
  have loop : ∀ (rs : List RowD) (i : Nat) (y : S) (out : List RowD) (h : H), all.drop i = rs → out.length ≤ i → Gr 4 0 (D 0) y (rws out) h →
      ∃ y' h', Lp.spec_l8Tables 0 [lv (rws all), .s y, iv .i64 i] h = some (.done [.s y'] h') ∧ Gr 4 0 (D 0) y' (rws (out ++ tabs rs)) h' := by
    intro rs
    induction rs with
    | nil =>
      intro i y out h hi ho w
      have := drop_nil hi
      refine ⟨y, h, ?_, by simpa [tabs] using w⟩
      rw [eq_spec_l8Tables_l0, vcase_b, if_neg (by simp; omega), tidy_self]
    | cons r rs ih =>
      intro i y out h hi ho w
      obtain ⟨g1, g2, g3⟩ := drop_cons hi
      rw [eq_spec_l8Tables_l0, vcase_b, if_pos (by simp; omega), idxF_rw g1, w64 (by omega) (by omega), show (i : Int) + 1 = ((i + 1 : Nat) : Int) from by omega]
      simp only [ob, gx0, gI_i, vcase_b, beq_iff_eq]
      by_cases h0 : r.tab = 0
      · rw [if_pos h0, idxF_rw g1, rowN_rw]
        simp only [ob, gx0, gx1, gI_i, gS_s, ln0, ln1, Nat.zero_add, Nat.reduceAdd, if_true]
        obtain ⟨h', e, w', hn⟩ := w.app (row := r.cs) row_sc rfl (by omega) (by rw [rws_len]; unfold lim; omega)
        rw [e, ob, grow_tidy (m := h.n + 1) (k := (rws out).length + 1) (by omega) (by simp)]
        rw [← rws_snoc] at w'
        obtain ⟨y', h2, e2, w2⟩ := ih (i + 1) _ (out ++ [r]) h' g2 (by simp; omega) w'
        refine ⟨y', h2, e2, ?_⟩
        have : tabs (r :: rs) = r :: tabs rs := by simp [tabs, h0]
        rw [this]; simpa using w2
      · rw [if_neg h0, tidy_self]
        obtain ⟨y', h2, e2, w2⟩ := ih (i + 1) y out h g2 (by omega) w
        refine ⟨y', h2, e2, ?_⟩
        have : tabs (r :: rs) = tabs rs := by simp [tabs, h0]
        rw [this]; exact w2
  obtain ⟨y', h', e, w⟩ := loop all 0 _ [] _ rfl (by simp) (Gr.new (z := 4) (h := D 0) (by omega))
  rw [pu_spec_l8Tables, show iv .i64 0 = iv .i64 ((0 : Nat) : Int) from rfl]
  rw [D_n] at e
  rw [e, ob, lcase_done]
  simp only [gx0, ob]
  exact w.frz
def tabC (rs : List RowD) : Int := rowsF rs
def tabL (rs : List RowD) : List RowD := if rowsF rs = 0 then tabs rs else []
theorem p_spec_TablesIn {all : List RowD} (hs : ∀ r ∈ all, r.text.size ≤ maxLen) (hl : all.length ≤ lim) : pureV (call Ev) Fn.spec_TablesIn [lv (rws all)] = some (.agg [.int .i64 (tabC all), .fs (rws (tabL all))]) := by
  rw [pu_spec_TablesIn, pc (p_l6Rows hs (by unfold lim at hl; unfold maxLen; omega)) rfl]
  simp only [gV1_s, gI_i, vcase_b, bne_iff_ne, ne_eq]
  unfold tabC tabL
  by_cases h0 : rowsF all = 0
  · rw [if_neg (by simp [h0]), p_l8Tables hl, if_pos h0]
    simp only [ob, gV1_s, gF_f]
    rw [h0]
  · rw [if_pos h0, if_neg h0]; rfl
end Vm
/-
  Whether a change may be: the program and the specification.
-/
namespace Vm
open Go
section
variable {R : Type}
theorem ldK_aggM {t : VT} {ti : TI} {h : H} {b o : Nat} {cs : List S} {k : V → Option R} (ha : ti.agg = true) (hl : loadN ti.z h (pv b o) = some cs) : ldK t ti h (pv b o) k = k (.agg cs) := by
  simp only [ldK, ldT, ha, cond_true]; rw [hl, ob]
theorem ldK_one {t : VT} {ti : TI} {h : H} {b o : Nat} {x : S} {k : V → Option R} (ha : ti.agg = false) (hl : load1 h (pv b o) = some x) : ldK t ti h (pv b o) k = k (.s x) := by
  simp only [ldK, ldT, ha, cond_false]; rw [hl, ob]
end
theorem loadN_csM {h : H} {b : Nat} {cs : List S} {n : Nat} (hb : b < h.n) (hc : h.cells b = cs) (hn : cs.length = n) : loadN n h (pv b 0) = some cs := by
  simp only [loadN]
  rw [if_pos ⟨hb, by rw [hc]; omega⟩, hc, List.drop_zero, List.take_of_length_le (by omega)]
theorem load1_csM {h : H} {b o : Nat} {cs : List S} {x : S} (hc : h.cells b = cs) (hx : cs[o]? = some x) : load1 h (pv b o) = some x := by
  simp only [load1]; rw [hc, hx]
theorem keep_cells {h h' : H} (x : HKeep h h') {b : Nat} (hb : b < h.n) : h'.cells b = h.cells b := by
  unfold H.cells; rw [if_pos hb, if_pos (by have := x.1; omega), (x.2 b hb).1]
theorem p_tableMayBe {all : List RowD} (c : ChgD) (hl : all.length ≤ maxLen) : pureV (call Ev) Fn.impl_tableMayBe [lv (rws all), .agg c.cs] = some (iv .i64 (catF all c)) := by
  unfold maxLen at hl
  have hc0 : ∀ h1, HKeep ((D 0).new 0 c.cs) h1 → h1.cells 0 = c.cs := fun h1 x => by
    rw [keep_cells x (by simp)]; unfold H.cells; rw [if_pos (by simp)]; rfl
  have loop : ∀ (rs : List RowD) (i : Nat), all.drop i = rs → ∃ h', Lp.impl_tableMayBe 0 [pv 0 0, lv (rws all), iv .i64 (all.length : Int), iv .i64 i] ((D 0).new 0 c.cs) = some (if rs.any (hinders c) then .ret (iv .i64 8) h' else .done [] h') := by
    intro rs
    induction rs with
    | nil =>
      intro i hi
      have := drop_nil hi
      rw [eq_impl_tableMayBe_l0, vcase_b, if_neg (by simp; omega)]; exact ⟨_, rfl⟩
    | cons r rs ih =>
      intro i hi
      obtain ⟨g1, g2, g3⟩ := drop_cons hi
      obtain ⟨h', ih'⟩ := ih (i + 1) g2
      have hk := putR_keep ((D 0).new 0 c.cs) r
      have hcc := hc0 _ hk
      have hbn : 0 < (putR ((D 0).new 0 c.cs) r).n := by rw [putR_n]; simp
      rw [eq_impl_tableMayBe_l0, vcase_b, if_pos (by simp; omega), idxF_rw g1, rowN_rw]
      simp only [ob, gx0, gx1, gI_i, gS_s, ln0, ln1, Nat.zero_add, Nat.reduceAdd, if_true]
      rw [stK_row, load_0, load_3, w64 (by omega) (by omega), show (i : Int) + 1 = ((i + 1 : Nat) : Int) from by omega, putR_tidy rfl, ih']
      simp only [ob, gI_i, gS_s]
      rw [ldK_aggM rfl (loadN_csM hbn hcc rfl)]
      simp only [ob, gVA_a, gx0, gx1, gI_i, gS_s, gB_b, ln0, ln1, Nat.zero_add, Nat.reduceAdd, if_true]
      rw [pc (p_Change_key c) rfl]
      simp only [ob, gVA_a, gx0, gx1, gI_i, gS_s, gB_b, ln0, ln1, Nat.zero_add, Nat.reduceAdd, if_true]
      rw [hchk_self, show padd 5 (pv 0 0) = some (pv 0 5) from rfl, ob, ldK_one rfl (load1_csM (o := 5) (x := .bool c.is) hcc rfl)]
      rw [show padd 6 (pv 0 0) = some (pv 0 6) from rfl, ob, show padd 2 (pv 0 6) = some (pv 0 8) from rfl, ob, ldK_one rfl (load1_csM (o := 8) (x := .int .i64 c.a.val) hcc rfl)]
      simp only [gV1_s, gB_b, gI_i, vcase_b, beq_iff_eq, bne_iff_ne, ne_eq, decide_eq_true_eq]
      rw [List.any_cons]
      by_cases h1 : r.tab = c.k.key
      · rw [if_pos h1]
        by_cases h2 : r.tab = 0
        · have e : hinders c r = false := by simp [hinders, h2]
          rw [if_neg (by simpa using h2), e, Bool.false_or]; exact ⟨_, rfl⟩
        · rw [if_pos h2]
          by_cases hi : c.is = true
          · by_cases h3 : (r.text.size : Int) > c.a.val
            · have e : hinders c r = true := by simp [hinders, h1, hi, h3]; rw [← h1]; exact h2
              rw [if_neg (by simp [hi]), if_pos h3, e, Bool.true_or]; exact ⟨_, rfl⟩
            · have e : hinders c r = false := by simp [hinders, hi, h3]
              rw [if_neg (by simp [hi]), if_neg h3, e, Bool.false_or]; exact ⟨_, rfl⟩
          · have e : hinders c r = true := by simp [hinders, h1, hi]; rw [← h1]; exact h2
            rw [if_pos (by simp [hi]), e, Bool.true_or]; exact ⟨_, rfl⟩
      · have e : hinders c r = false := by simp [hinders, h1]
        rw [if_neg h1, e, Bool.false_or]; exact ⟨_, rfl⟩
  have fin : ((Lp.impl_tableMayBe 0 [pv 0 0, lv (rws all), iv .i64 ((rws all).length : Int), iv .i64 0] ((D 0).new 0 c.cs)).bind fun o125 => lcase o125 (fun l126 h127 =>
  some (iv .i64 0)) (fun v128 h129 =>
  frzV h129 v128)) = some (iv .i64 (if all.any (hinders c) then 8 else 0)) := by
    obtain ⟨h', e⟩ := loop all 0 rfl
    rw [rws_len, show iv .i64 0 = iv .i64 ((0 : Nat) : Int) from rfl, e, ob]
    split
    · rw [lcase_ret]; simp
    · rw [lcase_done]; rfl
  rw [pu_impl_tableMayBe, vcase_b, fin, pc (p_in _ _ _) rfl]
  simp only [gV1_s, gB_b, vcase_b, decide_eq_true_eq]
  have hk : c.is = true → c.k = c.a := fun h => by unfold ChgD.k; rw [if_pos h]
  unfold catF
  cases hi : c.is
  · simp
  · rw [hk hi]
    simp only [if_true, Bool.true_and]
    cases inB c.a.key 1 3
    · simp
    · simp only [Bool.not_true, Bool.false_or, Bool.false_eq_true, if_false]
      by_cases h3 : c.a.val > 8
      · simp [h3]
      · rw [if_neg h3, decide_eq_false h3, Bool.false_or]
        cases (c.a.text.toList == (⟨#[]⟩ : ByteArray).toList) <;> simp
def mayC (rs : List RowD) (c : ChgD) : Int := if c.k.tab = 0 then catF rs c else if c.is then (match lngF c.k.tab rs with | none => 4 | some n => if (c.a.text.size : Int) > n then 10 else 0) else 0
def mayF (rs : List RowD) (c : ChgD) : Int := if rowsF rs = 0 then (if chgF c = 0 then mayC rs c else chgF c) else rowsF rs
theorem p_l8May {all : List RowD} (c : ChgD) (hl : all.length ≤ maxLen) (h0 : rowsF all = 0) : pureV (call Ev) Fn.spec_l8May [lv (rws all), fv c.cs 0] = some (iv .i64 (mayC all c)) := by
  rw [pu_spec_l8May, pc (p_l6Key c) rfl]
  simp only [ob, gx0, gx1, gVT_t, gA1_s, gI_i, ln0, ln1, Nat.zero_add, Nat.reduceAdd, if_true, vcase_b, beq_iff_eq]
  rw [pc (p_l8Catalog c hl) rfl]
  simp only [gV1_s, gI_i]
  unfold mayC
  by_cases ht : c.k.tab = 0
  · rw [if_pos ht, if_pos ht]
  rw [if_neg ht, if_neg ht]
  cases c.is
  · rfl
  rw [if_neg (by simp), pc (p_l8Longest hl) rfl, if_pos rfl]
  simp only [gV1_s, gI_i, vcase_b, decide_eq_true_eq]
  cases hx : lngF c.k.tab all with
  | none => rfl
  | some x =>
    have := lngF_pos (rowsF_all h0) hx
    rw [Option.getD_some, if_neg (by omega)]
    simp only []
    split <;> rfl
theorem p_mayBe {all : List RowD} (c : ChgD) (hl : all.length ≤ maxLen) : pureV (call Ev) Fn.impl_mayBe [lv (rws all), .agg c.cs] = some (iv .i64 (mayC all c)) := by
  rw [pu_impl_mayBe, pc (p_Change_key c) rfl]
  simp only [ob, gx0, gx1, gVA_a, gI_i, gS_s, ln0, ln1, Nat.zero_add, Nat.reduceAdd, if_true, vcase_b, beq_iff_eq]
  rw [pc (p_tableMayBe c hl) rfl]
  simp only [gV1_s, gI_i]
  unfold mayC
  by_cases ht : c.k.tab = 0
  · rw [if_pos ht, if_pos ht]
  rw [if_neg ht, if_neg ht]
  have hk : c.is = true → c.k = c.a := fun h => by unfold ChgD.k; rw [if_pos h]
  cases hi : c.is
  · rfl
  rw [if_neg (by simp), pc (p_longest hl) rfl, if_pos rfl, hk hi]
  simp only [ob, gx0, gx1, gVT_t, gA1_s, gI_i, gB_b, ln0, ln1, Nat.zero_add, Nat.reduceAdd, if_true, vcase_b, decide_eq_true_eq]
  cases hx : lngF c.a.tab all with
  | none => rfl
  | some x =>
    simp only [Option.isSome_some, Bool.not_true, Bool.false_eq_true, if_false, Option.getD_some]
    split <;> rfl
theorem p_spec_MayBe {all : List RowD} (c : ChgD) (hc : c.b.text.size ≤ maxLen ∧ c.a.text.size ≤ maxLen) (hs : ∀ r ∈ all, r.text.size ≤ maxLen) (hl : all.length ≤ maxLen) : pureV (call Ev) Fn.spec_MayBe [lv (rws all), .agg c.cs] = some (iv .i64 (mayF all c)) := by
  rw [pu_spec_MayBe, pc (p_l6Rows hs hl) rfl]
  simp only [gV1_s, gI_i, vcase_b, bne_iff_ne, ne_eq]
  unfold mayF
  by_cases h0 : rowsF all = 0
  · rw [if_neg (by simp [h0]), if_pos h0, pc (p_l6Change c hc) rfl]
    simp only [gV1_s, gI_i, vcase_b, bne_iff_ne, ne_eq]
    by_cases h1 : chgF c = 0
    · rw [if_neg (by simp [h1]), if_pos h1, pc (p_l8May c hl h0) rfl]
      simp only [gV1_s, gI_i]
    · rw [if_pos h1, if_neg h1]
  · rw [if_pos h0, if_neg h0]
theorem p_MayBe {all : List RowD} (c : ChgD) (hc : c.b.text.size ≤ maxLen ∧ c.a.text.size ≤ maxLen) (hs : ∀ r ∈ all, r.text.size ≤ maxLen) (hl : all.length ≤ maxLen) : pureV (call Ev) Fn.impl_MayBe [lv (rws all), .agg c.cs] = some (iv .i64 (mayF all c)) := by
  rw [pu_impl_MayBe, pc (p_RowsFault hs hl) rfl]
  simp only [gV1_s, gI_i, vcase_b, bne_iff_ne, ne_eq]
  unfold mayF
  by_cases h0 : rowsF all = 0
  · rw [if_neg (by simp [h0]), if_pos h0, pc (p_changeFault c hc) rfl]
    simp only [gV1_s, gI_i, vcase_b, bne_iff_ne, ne_eq]
    by_cases h1 : chgF c = 0
    · rw [if_neg (by simp [h1]), if_pos h1, pc (p_mayBe c hl) rfl]
      simp only [gV1_s, gI_i]
    · rw [if_pos h1, if_neg h1]
  · rw [if_pos h0, if_neg h0]
end Vm
/-
  TablesIn, as a value; the last word of the law on tables.
-/
namespace Vm
open Go
theorem p_TablesIn {all : List RowD} (hs : ∀ r ∈ all, r.text.size ≤ maxLen) (hl : all.length ≤ lim) : pureV (call Ev) Fn.impl_TablesIn [lv (rws all)] = some (.agg [.int .i64 (tabC all), .fs (rws (tabL all))]) := by
  have hl' := hl
  unfold lim at hl'
  rw [pu_impl_TablesIn, pc (p_RowsFault hs (by unfold maxLen; omega)) rfl]
  simp only [gV1_s, gI_i, vcase_b, bne_iff_ne, ne_eq]
  unfold tabC tabL
  by_cases h0 : rowsF all = 0
  case neg =>
    rw [if_pos h0, if_neg h0]; rfl
  rw [if_neg (by simp [h0]), if_pos h0, h0]
  have loop : ∀ (rs : List RowD) (i : Nat) (y : S) (out : List RowD) (h : H), all.drop i = rs → out.length ≤ i → Gr 4 1 ((D 0).new 0 [.int .i64 0, .sl none 0]) y (rws out) h →
      ∃ y' h', Lp.impl_TablesIn 0 [pv 0 0, .s y, lv (rws all), iv .i64 (all.length : Int), iv .i64 i] h = some (.done [pv 0 0, .s y'] h') ∧ Gr 4 1 ((D 0).new 0 [.int .i64 0, .sl none 0]) y' (rws (out ++ tabs rs)) h' := by
    intro rs
    induction rs with
    | nil =>
      intro i y out h hi ho w
      have := drop_nil hi
      refine ⟨y, h, ?_, by simpa [tabs] using w⟩
      rw [eq_impl_TablesIn_l0, vcase_b, if_neg (by simp; omega), tidy_self]
    | cons r rs ih =>
      intro i y out h hi ho w
      obtain ⟨g1, g2, g3⟩ := drop_cons hi
      rw [eq_impl_TablesIn_l0, vcase_b, if_pos (by simp; omega), idxF_rw g1, rowN_rw, w64 (by omega) (by omega), show (i : Int) + 1 = ((i + 1 : Nat) : Int) from by omega]
      simp only [ob, gx0, gx1, gI_i, gS_s, ln0, ln1, Nat.zero_add, Nat.reduceAdd, if_true]
      rw [stK_row, load_0, loadN_row]
      simp only [ob, gx0, gx1, gI_i, gS_s, ln0, ln1, Nat.zero_add, Nat.reduceAdd, if_true, vcase_b, beq_iff_eq]
      by_cases h0 : r.tab = 0
      · rw [if_pos h0]
        obtain ⟨h', e, w', hn⟩ := (w.keep (putR_keep h r)).app (row := r.cs) row_sc rfl (by omega) (by rw [rws_len]; unfold lim; omega)
        rw [e, ob, grow_tidy (m := (putR h r).n + 1) (k := (rws out).length + 1) (by rw [putR_n]; omega) (by simp)]
        rw [← rws_snoc] at w'
        obtain ⟨y', h2, e2, w2⟩ := ih (i + 1) _ (out ++ [r]) h' g2 (by simp; omega) w'
        refine ⟨y', h2, e2, ?_⟩
        have : tabs (r :: rs) = r :: tabs rs := by simp [tabs, h0]
        rw [this]; simpa using w2
      · have hb : [pv 0 0, V.s y, lv (rws all), iv .i64 (all.length : Int), iv .i64 ((i + 1 : Nat) : Int)].all (belV h.n) = true := by
          obtain ⟨w1, _, bs, w3, _⟩ := w
          have hy := w3.rep.top (N := h.n) w3.rep.lt
          simp only [List.all_cons, List.all_nil, Bool.and_true, Bool.and_eq_true]
          exact ⟨by simp [belV, belS]; omega, hy, rfl, rfl, rfl⟩
        rw [if_neg h0, putR_tidy hb]
        obtain ⟨y', h2, e2, w2⟩ := ih (i + 1) y out h g2 (by omega) w
        refine ⟨y', h2, e2, ?_⟩
        have : tabs (r :: rs) = tabs rs := by simp [tabs, h0]
        rw [this]; exact w2
  obtain ⟨y', h', e, w⟩ := loop all 0 _ [] _ rfl (by simp) (Gr.none (z := 4) (n := 1) (h := (D 0).new 0 [.int .i64 0, .sl none 0]) (by simp))
  rw [rws_len, show iv .i64 0 = iv .i64 ((0 : Nat) : Int) from rfl, e, ob, lcase_done]
  simp only [gx0, gx1, ob]
  rw [cells2 w.own.no]
  obtain ⟨h2, e2, w2⟩ := fin2S (n := 0) (K := h') (c := 0) (by have := w.1; omega) (by rw [w.2.1 0 (by omega)]; exact new_g (D 0) _ _) (w.own.lift (k := 5) (by omega))
  rw [stK_rw (z := 2) (e := 0) (o := 0) (b := 0) (cs := [.int .i64 0, .sl none 0]) (r := [.int .i64 0, y']) (by have := w.1; omega) (by rw [w.2.1 0 (by omega)]; exact new_g (D 0) _ _) (.inr rfl) rfl (by simp)] at e2 ⊢
  rw [show setAt [.int .i64 0, .sl none 0] 0 [.int .i64 0, y'] = [.int .i64 0, y'] from rfl] at e2 ⊢
  have l2 : loadN 2 (h'.put 0 (.rw 0 [.int .i64 0, y'])) (pv 0 0) = some [.int .i64 0, y'] := loadN_2 (b := 0) (e := 0) (by rw [put_n]; have := w.1; omega) (put_g _ _ _)
  rw [l2, ob] at e2
  injection e2 with e2
  injection e2 with _ e2
  change (loadN 2 (h'.put 0 (.rw 0 [.int .i64 0, y'])) (pv 0 0)).bind (fun c => frzV (h'.put 0 (.rw 0 [.int .i64 0, y'])) (V.agg c)) = _
  rw [l2, ob, e2]
  exact w2.2.frz
theorem may_long {rs : List RowD} {c : ChgD} (h : mayF rs c = 0) (hi : c.is = true) (ht : c.a.tab ≠ 0) : (longF rs c.a.tab).1 = 0 ∧ (c.a.text.size : Int) ≤ (longF rs c.a.tab).2 := by
  unfold mayF at h
  by_cases h0 : rowsF rs = 0
  · rw [if_pos h0] at h
    by_cases h1 : chgF c = 0
    · rw [if_pos h1] at h
      have hk : c.k = c.a := by unfold ChgD.k; rw [hi]; rfl
      unfold mayC at h
      rw [hk, if_neg ht, if_pos hi] at h
      unfold longF
      rw [if_pos h0]
      have hin : inB c.a.tab 1 3 = true := by
        have hr : rowF c.a = 0 := by
          rw [chgF_eq] at h1
          split at h1
          · cases h1
          · unfold chgR at h1
            split at h1
            · rename_i hb; exact absurd h1 hb.2
            · simpa [hi] using h1
        unfold rowF at hr
        cases e : inB c.a.tab 0 3 with
        | false => rw [e] at hr; simp at hr
        | true =>
          simp only [inB, Bool.and_eq_true, decide_eq_true_eq] at e ⊢
          omega
      rw [hin]
      cases hl : lngF c.a.tab rs with
      | none => rw [hl] at h; simp at h
      | some n =>
        rw [hl] at h
        by_cases hn : (c.a.text.size : Int) > n
        · simp [hn] at h
        · exact ⟨rfl, by show (c.a.text.size : Int) ≤ n; omega⟩
    · rw [if_neg h1] at h; exact absurd h h1
  · rw [if_neg h0] at h; exact absurd h h0
end Vm
/-
  Small numbers in digits: what both ways come to.
-/
namespace Vm
open Go
theorem cvStr_w {h : H} {v : V} {l : List UInt8} {b : Nat} (w : BysW h v l b) (hl : l.length ≤ lim) : cvStr h v = some (.s (.str ⟨l.toArray⟩)) := by
  obtain ⟨rfl, w2, w3⟩ := w
  have h1 : cellsS 1 h (sv b 0 l.length) = some (l.map cell8) := by
    have hc : h.cells b = l.map cell8 := by unfold H.cells; rw [if_pos w2, w3]; rfl
    simp only [cellsS, hc]
    rw [if_pos ⟨w2, by simp⟩, List.drop_zero, List.take_of_length_le (by simp)]
  simp only [cvStr, h1, Option.bind_some, bytesS_map]
  rw [if_pos hl]
theorem bin_remK {t : Nat} {a b : Int} (ha : 0 ≤ a) (hb : 0 < b) : bin Ev .rem t (iv .i64 a) (iv .i64 b) = some (iv .i64 (a % b)) := by
  simp only [bin, binI, if_true]
  rw [if_neg (by omega), Int.tmod_eq_emod_of_nonneg ha]
theorem bin_quoK {t : Nat} {a b : Int} (ha : 0 ≤ a) (hb : 0 < b) (h : a < 9223372036854775808) : bin Ev .quo t (iv .i64 a) (iv .i64 b) = some (iv .i64 (a / b)) := by
  have h1 : a / b ≤ a := Int.ediv_le_self _ ha
  have h2 : 0 ≤ a / b := Int.ediv_nonneg ha (by omega)
  simp only [bin, binI, if_true]
  rw [if_neg (by omega), Int.tdiv_eq_ediv_of_nonneg ha, w64 (by omega) (by omega)]
theorem add_str {t : Nat} {a b : ByteArray} (h : a.size + b.size ≤ lim) : bin Ev .add t (.s (.str a)) (.s (.str b)) = some (.s (.str (a ++ b))) := by
  simp only [bin, binB]
  rw [if_pos h]
/-- a number below a hundred, in digits -/
def dg (k : Nat) : ByteArray := if k < 10 then ⟨#[UInt8.ofNat (48 + k)]⟩ else ⟨#[UInt8.ofNat (48 + k / 10), UInt8.ofNat (48 + k % 10)]⟩
theorem dg_size (k : Nat) : (dg k).size ≤ 2 := by
  unfold dg; split <;> simp [ByteArray.size]
theorem dig10 : ∀ k : Fin 10, (⟨#[48, 49, 50, 51, 52, 53, 54, 55, 56, 57, 97, 98, 99, 100, 101, 102, 103, 104, 105, 106, 107, 108, 109, 110, 111, 112, 113, 114, 115, 116, 117, 118, 119, 120, 121, 122]⟩ : ByteArray).extract k.1 (k.1 + 1) = dg k.1 := by decide +kernel
theorem dig100 : ∀ k : Fin 100, 10 ≤ k.1 → (⟨#[48, 48, 48, 49, 48, 50, 48, 51, 48, 52, 48, 53, 48, 54, 48, 55, 48, 56, 48, 57, 49, 48, 49, 49, 49, 50, 49, 51, 49, 52, 49, 53, 49, 54, 49, 55, 49, 56, 49, 57, 50, 48, 50, 49, 50, 50, 50, 51, 50, 52, 50, 53, 50, 54, 50, 55, 50, 56, 50, 57, 51, 48, 51, 49, 51, 50, 51, 51, 51, 52, 51, 53, 51, 54, 51, 55, 51, 56, 51, 57, 52, 48, 52, 49, 52, 50, 52, 51, 52, 52, 52, 53, 52, 54, 52, 55, 52, 56, 52, 57, 53, 48, 53, 49, 53, 50, 53, 51, 53, 52, 53, 53, 53, 54, 53, 55, 53, 56, 53, 57, 54, 48, 54, 49, 54, 50, 54, 51, 54, 52, 54, 53, 54, 54, 54, 55, 54, 56, 54, 57, 55, 48, 55, 49, 55, 50, 55, 51, 55, 52, 55, 53, 55, 54, 55, 55, 55, 56, 55, 57, 56, 48, 56, 49, 56, 50, 56, 51, 56, 52, 56, 53, 56, 54, 56, 55, 56, 56, 56, 57, 57, 48, 57, 49, 57, 50, 57, 51, 57, 52, 57, 53, 57, 54, 57, 55, 57, 56, 57, 57]⟩ : ByteArray).extract (k.1 * 2) (k.1 * 2 + 2) = dg k.1 := by decide +kernel
theorem dgapp : ∀ k : Fin 100, 10 ≤ k.1 → dg (k.1 / 10) ++ ⟨#[UInt8.ofNat (48 + k.1 % 10)]⟩ = dg k.1 := by decide +kernel
theorem sl_str {s : ByteArray} {i j : Nat} (h1 : i ≤ j) (h2 : j ≤ s.size) : slStr (.s (.str s)) (some (iv .i64 (i : Int))) (some (iv .i64 (j : Int))) = some (.s (.str (s.extract i j))) := by
  simp only [slStr, bnd]
  rw [if_pos (by omega)]
  simp only [Option.bind_some, Int.toNat_natCast]
  rw [if_pos (by omega)]
  simp only [Option.bind_some, Int.toNat_natCast]
theorem p_small {k : Nat} (hk : k < 100) : pureV (call Ev) Fn.strconv_small [iv .i64 (k : Int)] = some (.s (.str (dg k))) := by
  rw [pu_strconv_small, vcase_b]
  by_cases h : k < 10
  · rw [if_pos (by simp; omega), w64 (by omega) (by omega), show (k : Int) + 1 = ((k + 1 : Nat) : Int) from by omega, sl_str (by omega) (by show k + 1 ≤ 36; omega)]
    simp only [ob, gV1_s, gS_s]
    rw [dig10 ⟨k, h⟩]
  · rw [if_neg (by simp; omega), w64 (n := (k : Int) * 2) (by omega) (by omega), w64 (by omega) (by omega), show (k : Int) * 2 + 2 = ((k * 2 + 2 : Nat) : Int) from by omega, show (k : Int) * 2 = ((k * 2 : Nat) : Int) from by omega, sl_str (by omega) (by show k * 2 + 2 ≤ 200; omega)]
    simp only [ob, gV1_s, gS_s]
    rw [dig100 ⟨k, hk⟩ (by simp; omega)]
theorem p_FormatInt {k : Nat} (hk : k < 100) : pureV (call Ev) Fn.strconv_FormatInt_1 [iv .i64 (k : Int), iv .i64 10] = some (.s (.str (dg k))) := by
  rw [pu_strconv_FormatInt_1, vcase_b, if_pos (by simp), vcase_b, if_pos (by simp), vcase_b, if_pos (by simp; omega), pc (p_small hk) rfl]
  simp only [gV1_s, gS_s]
theorem p_digits {k : Nat} (hk : k < 100) : pureV (call Ev) Fn.impl_digits [iv .i64 (k : Int)] = some (.s (.str (dg k))) := by
  have e : pureV (call Ev) Fn.strconv_FormatInt_0 [iv .i64 (k : Int), iv .i64 10] = some (.s (.str (dg k))) := by
    rw [pu_strconv_FormatInt_0, pc (p_FormatInt hk) rfl]
    simp only [gV1_s, gS_s]
  rw [pu_impl_digits, pc e rfl]
  simp only [gV1_s, gS_s]
theorem one8 {n : Nat} (h : n < 256) : BysW ((D 0).new 1 [.int .u8 (n : Int)]) (sv 0 0 1) [UInt8.ofNat n] 0 := by
  refine ⟨rfl, by simp, ?_⟩
  have : ([UInt8.ofNat n].map cell8) = [S.int .u8 (n : Int)] := by
    simp only [List.map_cons, List.map_nil, cell8]
    congr 2
    simp; omega
  rw [this]
  exact new_g (D 0) _ _
theorem one_str {n : Nat} (h : n < 256) : cvStr ((D 0).new 1 [.int .u8 (n : Int)]) (sv 0 0 1) = some (.s (.str ⟨#[UInt8.ofNat n]⟩)) := cvStr_w (one8 h) (by unfold lim; simp)
theorem p_l1Digits1 {k : Nat} (hk : k < 10) : pureV (call Ev) Fn.spec_l1Digits [iv .i64 (k : Int)] = some (.s (.str (dg k))) := by
  rw [pu_spec_l1Digits, vcase_b, if_neg (by simp), vcase_b, if_pos (by simp; omega), w64 (by omega) (by omega), show (48 : Int) + k = ((48 + k : Nat) : Int) from by omega, w8 (by omega) (by omega), one_str (by omega)]
  simp only [ob, gV1_s, gS_s]
  unfold dg
  rw [if_pos hk]
theorem p_l1Digits {k : Nat} (hk : k < 100) : pureV (call Ev) Fn.spec_l1Digits [iv .i64 (k : Int)] = some (.s (.str (dg k))) := by
  by_cases h : k < 10
  · exact p_l1Digits1 h
  rw [pu_spec_l1Digits, vcase_b, if_neg (by simp), vcase_b, if_neg (by simp; omega), bin_quoK (by omega) (by omega) (by omega), ob]
  simp only [gV1_s, gI_i]
  rw [bin_remK (by omega) (by omega), ob]
  simp only [gV1_s, gI_i]
  rw [w64 (by omega) (by omega), show (48 : Int) + (k : Int) % 10 = ((48 + k % 10 : Nat) : Int) from by omega, w8 (by omega) (by omega), hchk_of (HExt.refl (D 0)).new, one_str (by omega)]
  simp only [ob, gV1_s, gS_s]
  rw [hchk_of (HExt.refl (D 0)).new, show (k : Int) / 10 = ((k / 10 : Nat) : Int) from by omega, pc (p_l1Digits1 (k := k / 10) (by omega)) rfl]
  simp only [gV1_s, gS_s]
  rw [add_str (by have := dg_size (k / 10); rw [show (⟨#[UInt8.ofNat (48 + k % 10)]⟩ : ByteArray).size = 1 from rfl]; unfold lim; omega), ob]
  simp only [gV1_s, gS_s]
  rw [dgapp ⟨k, hk⟩ (by simp; omega)]
theorem app_size (a b : ByteArray) : (a ++ b).size = a.size + b.size := by simp
theorem s47 : (⟨#[47]⟩ : ByteArray).size = 1 := rfl
end Vm
/-
  The text of a key: what both ways come to.
-/
namespace Vm
open Go
/-! the text of a key -/
def ktS (t k : Nat) : ByteArray := dg t ++ ⟨#[47]⟩ ++ dg k
theorem p_keyText {t k : Nat} (ht : t < 100) (hk : k < 100) : pureV (call Ev) Fn.impl_keyText [.agg [.int .i64 (t : Int), .int .i64 (k : Int)]] = some (.s (.str (ktS t k))) := by
  have h1 := dg_size t
  have h2 := dg_size k
  rw [pu_impl_keyText, pc (p_digits ht) rfl]
  simp only [gV1_s, gS_s, hchk_self]
  rw [add_str (by rw [s47]; unfold lim; omega), ob]
  simp only [gV1_s, gS_s]
  rw [pc (p_digits hk) rfl]
  simp only [gV1_s, gS_s, hchk_self]
  rw [add_str (by rw [app_size, s47]; unfold lim; omega), ob]
  simp only [gV1_s, gS_s]
  rfl
def ktC (t k : Int) : Int := if inB t 0 3 = true ∧ inB k 1 99 = true then 0 else 3
def ktT (t k : Int) : ByteArray := if inB t 0 3 = true ∧ inB k 1 99 = true then ktS t.toNat k.toNat else ⟨#[]⟩
theorem p_KeyText (t k : Int) : pureV (call Ev) Fn.impl_KeyText [.agg [.int .i64 t, .int .i64 k]] = some (.agg [.int .i64 (ktC t k), .str (ktT t k)]) := by
  have e : pureV (call Ev) Fn.impl_isKey [iv .i64 t, iv .i64 k] = some (bv (inB t 0 3 && inB k 1 99)) := by
    rw [pu_impl_isKey, pc (p_in _ _ _) rfl]
    simp only [gV1_s, gB_b]
    rw [vcase_b]
    cases inB t 0 3
    · rfl
    · rw [if_pos rfl, pc (p_in _ _ _) rfl]; simp
  rw [pu_impl_KeyText, pc e rfl]
  simp only [gV1_s, gB_b]
  rw [vcase_b]
  unfold ktC ktT
  cases h1 : inB t 0 3
  · rw [if_pos (by simp), if_neg (by simp), if_neg (by simp)]
  cases h2 : inB k 1 99
  · rw [if_pos (by simp), if_neg (by simp), if_neg (by simp)]
  rw [if_neg (by simp), if_pos ⟨rfl, rfl⟩, if_pos ⟨rfl, rfl⟩]
  have b1 := inB_iff.1 h1
  have b2 := inB_iff.1 h2
  obtain ⟨a, rfl⟩ : ∃ a : Nat, t = a := ⟨t.toNat, by omega⟩
  obtain ⟨b, rfl⟩ : ∃ b : Nat, k = b := ⟨k.toNat, by omega⟩
  rw [pc (p_keyText (by omega) (by omega)) rfl]
  simp only [gV1_s, gS_s, Int.toNat_natCast]
theorem p_spec_KeyText (t k : Int) : pureV (call Ev) Fn.spec_KeyText [.agg [.int .i64 t, .int .i64 k]] = some (.agg [.int .i64 (ktC t k), .str (ktT t k)]) := by
  have jt : Jn.spec_KeyText_0 true t k = some (.agg [.int .i64 3, .str ⟨#[]⟩]) := by
    unfold Jn.spec_KeyText_0; rfl
  rw [pu_spec_KeyText, pc (p_l1In _ _ _) rfl]
  simp only [gV1_s, gB_b]
  rw [vcase_b, pc (p_l1In _ _ _) rfl]
  simp only [gV1_s, gB_b]
  rw [jt]
  unfold ktC ktT
  cases h1 : inB t 0 3
  · rw [if_pos (by simp), if_neg (by simp), if_neg (by simp)]
  cases h2 : inB k 1 99
  · rw [if_neg (by simp), if_neg (by simp), if_neg (by simp)]; exact jt
  rw [if_neg (by simp), if_pos ⟨rfl, rfl⟩, if_pos ⟨rfl, rfl⟩]
  have b1 := inB_iff.1 h1
  have b2 := inB_iff.1 h2
  obtain ⟨a, rfl⟩ : ∃ a : Nat, t = a := ⟨t.toNat, by omega⟩
  obtain ⟨b, rfl⟩ : ∃ b : Nat, k = b := ⟨k.toNat, by omega⟩
  have s1 := dg_size a
  have s2 := dg_size b
  unfold Jn.spec_KeyText_0
  rw [vcase_b, if_neg (by simp), pc (p_l1Digits (by omega)) rfl]
  simp only [gV1_s, gS_s, hchk_self]
  rw [add_str (by rw [s47]; unfold lim; omega), ob]
  simp only [gV1_s, gS_s]
  rw [pc (p_l1Digits (by omega)) rfl]
  simp only [gV1_s, gS_s, hchk_self]
  rw [add_str (by rw [app_size, s47]; unfold lim; omega), ob]
  simp only [gV1_s, gS_s, Int.toNat_natCast]
  rfl
end Vm
/-
  Bytes that came in.
-/
namespace Vm
open Go

theorem rows8 {P : Program} {m : Nat} {e : TypeId} (he : P.underlying e = some (.int .u8)) : ∀ rows : List (List S), (∀ r ∈ rows, r.length = P.cellsOf e ∧ Rp P m e r) → ∃ l : List UInt8, rows = bys l
  | [], _ => ⟨[], rfl⟩
  | r :: rows, hr => by
    obtain ⟨l, h1⟩ := rows8 he rows fun r hm => hr r (by simp [hm])
    obtain ⟨n, h3, h4⟩ := (hr r (by simp)).2.int he
    have hb := wf8 h4
    refine ⟨UInt8.ofNat n.toNat :: l, ?_⟩
    have : cell8 (UInt8.ofNat n.toNat) = .int .u8 n := by
      unfold cell8
      congr 1
      simp
      omega
    rw [h1, h3]
    simp only [bys, List.map_cons, this]
theorem bys_of {P : Program} {n : Nat} {t e : TypeId} {s : S} (ht : P.underlying t = some (.slice e)) (he : P.underlying e = some (.int .u8)) (hr : Rp P n t [s]) : ∃ l, s = .fs (bys l) ∧ l.length ≤ maxLen := by
  obtain ⟨m, rows, h1, h2, h3⟩ := hr.slice ht
  obtain ⟨l, rfl⟩ := rows8 he rows h3
  cases h1
  exact ⟨l, rfl, by simpa using h2⟩
theorem rp_Bytes {n : Nat} {s : S} (hr : Rp PR n T.S_uint8 [s]) : ∃ l, s = .fs (bys l) ∧ l.length ≤ maxLen := bys_of und_S_uint8 und_uint8 hr
theorem arg_Bytes {x : V} (hr : ArgRp PR T.S_uint8 x) : ∃ l, x = lv (bys l) ∧ l.length ≤ maxLen := by
  obtain ⟨s, n, rfl, h1⟩ := hr.slice und_S_uint8
  obtain ⟨l, rfl, h2⟩ := rp_Bytes h1
  exact ⟨l, rfl, h2⟩
end Vm
/-
  The law on tables returns true.
-/
namespace Vm
open Go
theorem p_lwBig {l : List UInt8} : pureV (call Ev) Fn.laws_lwBig [lv (bys l)] = some (bv (decide ((l.length : Int) > 1048576))) := by
  rw [pu_laws_lwBig, bys_len]
theorem run_FnTables (xs : List V) (hx : ArgsRp PR [T.S_uint8] xs) : ∃ h', call Ev Fn.laws_FnTables xs (D 0) = some (bv true, h') := by
  match xs, hx with
  | [x0], ⟨h0, _⟩ =>
    obtain ⟨l, rfl, hl⟩ := arg_Bytes h0
    refine law_of ?_
    rw [pu_laws_FnTables, pc p_lwBig rfl]
    simp only [gV1_s, gB_b]
    rw [vcase_b]
    by_cases hq : (l.length : Int) > 1048576
    · rw [if_pos (by simpa using hq)]
    rw [if_neg (by simpa using hq)]
    have hl' : l.length ≤ 1048576 := by omega
    obtain ⟨ks, c, e1, k1, k2, c1, c2⟩ := p_DrawMayBe hl'
    obtain ⟨js, t, e2, j1, j2⟩ := p_DrawLongestIn hl'
    obtain ⟨kt, kk, e3⟩ := p_DrawKeyText hl'
    have ks9 : ∀ r ∈ ks, r.text.size ≤ maxLen := fun r hr => by have := k2 r hr; unfold maxLen; omega
    have js9 : ∀ r ∈ js, r.text.size ≤ maxLen := fun r hr => by have := j2 r hr; unfold maxLen; omega
    have kl : ks.length ≤ maxLen := by unfold maxLen; omega
    have jl : js.length ≤ maxLen := by unfold maxLen; omega
    have jm : js.length ≤ lim := by unfold lim; omega
    have hc : c.b.text.size ≤ maxLen ∧ c.a.text.size ≤ maxLen := ⟨by unfold maxLen; omega, by unfold maxLen; omega⟩
    rw [e1]
    simp only [ob, gVT_t, gA1_s, gAA_a, gF_f, gx0, gx1, gI_i, gS_s, gB_b, ln0, ln1, Nat.zero_add, Nat.reduceAdd, if_true]
    rw [pc (p_MayBe c hc ks9 kl) rfl]
    simp only [gV1_s, gI_i]
    rw [pc (p_spec_MayBe c hc ks9 kl) rfl]
    simp only [gV1_s, gI_i]
    rw [vcase_b, if_neg (by simp), e2]
    simp only [ob, gVT_t, gA1_s, gAA_a, gF_f, gx0, gx1, gI_i, gS_s, gB_b, ln0, ln1, Nat.zero_add, Nat.reduceAdd, if_true]
    rw [pc (p_LongestIn js9 jl) rfl]
    simp only [gVA_a, ob, gx0, gx1, gI_i, gS_s, gB_b, ln0, ln1, Nat.zero_add, Nat.reduceAdd, if_true]
    rw [p_TablesIn js9 jm]
    simp only [gVA_a, ob, gF_f, gx0, gx1, gI_i, gS_s, gB_b, ln0, ln1, Nat.zero_add, Nat.reduceAdd, if_true]
    rw [pc (p_spec_LongestIn js9 jl) rfl]
    simp only [gVA_a, ob, gF_f, gx0, gx1, gI_i, gS_s, gB_b, ln0, ln1, Nat.zero_add, Nat.reduceAdd, if_true, hchk_self]
    rw [vcase_b, if_neg (by simp), pc (p_spec_LongestIn js9 jl) rfl]
    simp only [gVA_a, ob, gF_f, gx0, gx1, gI_i, gS_s, gB_b, ln0, ln1, Nat.zero_add, Nat.reduceAdd, if_true, hchk_self]
    unfold Jn.laws_FnTables_2
    rw [vcase_b, if_neg (by simp), p_spec_TablesIn js9 jm]
    simp only [gVA_a, ob, gF_f, gx0, gx1, gI_i, gS_s, gB_b, ln0, ln1, Nat.zero_add, Nat.reduceAdd, if_true, hchk_self]
    unfold Jn.laws_FnTables_1
    rw [vcase_b, if_neg (by simp), p_spec_TablesIn js9 jm]
    simp only [gVA_a, ob, gF_f, gx0, gx1, gI_i, gS_s, gB_b, ln0, ln1, Nat.zero_add, Nat.reduceAdd, if_true, hchk_self]
    unfold Jn.laws_FnTables_0
    rw [vcase_b, if_neg (by simp), pc e3 rfl]
    simp only [gVA_a, ob, gF_f, gx0, gx1, gI_i, gS_s, gB_b, ln0, ln1, Nat.zero_add, Nat.reduceAdd, if_true, hchk_self]
    rw [pc (p_KeyText kt kk) rfl]
    simp only [gVA_a, ob, gF_f, gx0, gx1, gI_i, gS_s, gB_b, ln0, ln1, Nat.zero_add, Nat.reduceAdd, if_true, hchk_self]
    rw [pc (p_spec_KeyText kt kk) rfl]
    simp only [gVA_a, ob, gF_f, gx0, gx1, gI_i, gS_s, gB_b, ln0, ln1, Nat.zero_add, Nat.reduceAdd, if_true, hchk_self]
    rw [vcase_b, if_neg (by simp), vcase_b]
    by_cases hm : mayF ks c = 0
    case neg => rw [if_pos (by simpa using hm)]
    rw [if_neg (by simp [hm]), vcase_b]
    cases hi : c.is with
    | false => rw [if_pos (by simp)]
    | true =>
      rw [if_neg (by simp), vcase_b]
      by_cases ht : c.a.tab = 0
      · rw [if_pos (by simp [ht])]
      rw [if_neg (by simpa using ht), pc (p_LongestIn ks9 kl) rfl]
      obtain ⟨m1, m2⟩ := may_long hm hi ht
      simp only [gVA_a, ob, gF_f, gx0, gx1, gI_i, gS_s, gB_b, ln0, ln1, Nat.zero_add, Nat.reduceAdd, if_true, hchk_self]
      rw [vcase_b, if_pos (by simp [m1])]
      simp [m2]
end Vm
