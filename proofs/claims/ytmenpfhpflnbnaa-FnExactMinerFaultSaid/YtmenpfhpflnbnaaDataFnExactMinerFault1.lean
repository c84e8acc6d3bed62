/-
  What both ways of the law come to, and that the law returns true.
-/
import Derived.Sort.LotD6
import Derived.Sort.LotD7
import Derived.Sort.LotB
import Derived.Sort.LotD3
import Derived.Sort.LotD5
import Derived.Sort.LotD4
import Derived.Sort.LotA
import Derived.Sort.LotC
import Derived.Test.YtmenpfhpflnbnaaTyp
import Derived.Test.YtmenpfhpflnbnaaEqs
import Derived.Test.YtmenpfhpflnbnaaDl
set_option linter.unusedVariables false
set_option maxRecDepth 100000
set_option linter.unusedSimpArgs false
set_option linter.unusedSectionVars false
set_option maxHeartbeats 1000000
/-
  Numbers between two others.
-/
namespace Vm
open Go
def inB (n a b : Int) : Bool := decide (a ≤ n) && decide (n ≤ b)
theorem inB_iff {n a b : Int} : inB n a b = true ↔ a ≤ n ∧ n ≤ b := by simp [inB]
theorem p_l1In (n a b : Int) : pureV (call Ev) Fn.spec_l1In [iv .i64 n, iv .i64 a, iv .i64 b] = some (bv (inB n a b)) := by
  rw [pu_spec_l1In, vcase_b]
  unfold inB
  split <;> simp_all <;> omega
theorem p_in (n a b : Int) : pureV (call Ev) Fn.impl_in [iv .i64 n, iv .i64 a, iv .i64 b] = some (bv (inB n a b)) := by
  rw [pu_impl_in, vcase_b]
  unfold inB
  split <;> simp_all <;> omega
end Vm
/-
  What the functions on rows come to.
-/
namespace Vm
open Go

structure RowD where
  tab : Int
  key : Int
  val : Int
  text : ByteArray
abbrev RowD.cs (r : RowD) : List S := [.int .i64 r.tab, .int .i64 r.key, .int .i64 r.val, .str r.text]
structure RowD.ok (r : RowD) : Prop where
  t1 : -9223372036854775808 ≤ r.tab
  t2 : r.tab < 9223372036854775808
  k1 : -9223372036854775808 ≤ r.key
  k2 : r.key < 9223372036854775808
  v1 : -9223372036854775808 ≤ r.val
  v2 : r.val < 9223372036854775808
  s : r.text.size ≤ maxLen
/-! the faults of a row -/
def low (c : UInt8) : Bool := decide (97 ≤ (c.toNat : Int)) && decide ((c.toNat : Int) ≤ 122)
def allLow (s : ByteArray) (i : Nat) : Bool := (s.data.toList.drop i).all low
def rowF (r : RowD) : Int := if inB r.tab 0 3 && inB r.key 1 99 && inB r.val 0 999 then (if decide (r.text.size ≤ 8) && allLow r.text 0 then 0 else 5) else 3
theorem allLow_step {s : ByteArray} {i : Nat} (h : i < s.size) : allLow s i = (low (s.get! i) && allLow s (i + 1)) := by
  unfold allLow; rw [str_drop h]; rfl
theorem allLow_end {s : ByteArray} {i : Nat} (h : s.size ≤ i) : allLow s i = true := by
  unfold allLow; rw [str_drop_all h]; rfl
theorem lp_l1Text (s : ByteArray) (hs : s.size ≤ maxLen) (h : H) : ∀ k i : Nat, i + k = s.size → Lp.spec_l1Text 0 [.s (.str s), iv .i64 i] h = some (if allLow s i then .done [.s (.str s)] h else .ret (bv false) h) := by
  unfold maxLen at hs
  intro k
  induction k with
  | zero =>
    intro i hi
    rw [eq_spec_l1Text_l0, vcase_b, if_neg (by simp; omega), allLow_end (by omega)]; simp
  | succ k ih =>
    intro i hi
    rw [eq_spec_l1Text_l0, vcase_b, if_pos (by simp; omega), idxStr_of (by omega) (by omega), allLow_step (by omega), w64 (by omega) (by omega), show (i : Int) + 1 = ((i + 1 : Nat) : Int) from by omega, tidy_self, ih (i + 1) (by omega)]
    have e : sby s i = ((s.get! i).toNat : Int) := by simp [sby]
    simp only [Option.bind_some, gV1_s, gI_i, vcase_b, e, decide_eq_true_eq, low, Bool.and_eq_true]
    split
    · rw [if_neg (by omega)]
    · split
      · rw [if_neg (by omega)]
      · simp only [show (97 ≤ ((s.get! i).toNat : Int)) from by omega, show ((s.get! i).toNat : Int) ≤ 122 from by omega, true_and]
theorem p_l1Text (s : ByteArray) (hs : s.size ≤ maxLen) : pureV (call Ev) Fn.spec_l1Text [.s (.str s)] = some (bv (decide (s.size ≤ 8) && allLow s 0)) := by
  rw [pu_spec_l1Text, show iv .i64 0 = iv .i64 ((0 : Nat) : Int) from rfl, lp_l1Text s hs _ s.size 0 (by omega)]
  cases allLow s 0 <;> simp <;> omega
theorem p_l1Fault (r : RowD) (hs : r.text.size ≤ maxLen) : pureV (call Ev) Fn.spec_l1Fault [fv r.cs 0] = some (iv .i64 (rowF r)) := by
  rw [pu_spec_l1Fault]
  simp only [pcallS, p_l1In, p_l1Text _ hs, Option.bind_some, sca_v, sca_b, cond_true, gV1_s, gB_b, vcase_b]
  unfold rowF
  cases inB r.tab 0 3 <;> cases inB r.key 1 99 <;> cases inB r.val 0 999 <;> cases (decide (r.text.size ≤ 8) && allLow r.text 0) <;> simp
theorem lp_RowFault (r : RowD) (hs : r.text.size ≤ maxLen) (h : H) (p : Nat) (hp : h.cells p = r.cs) : ∀ k i : Nat, i + k = r.text.size → Lp.impl_RowFault 0 [pv p 0, iv .i64 (r.text.size : Int), iv .i64 i] h = some (if allLow r.text i then .done [] h else .ret (iv .i64 5) h) := by
  unfold maxLen at hs
  intro k
  have ld : ∀ (q : V → Option LOut), ldK (.one (.s)) ⟨1, 16, [.str ⟨#[]⟩], false, .str, false⟩ h (pv p (0 + 3)) q = q (.s (.str r.text)) := by
    intro q; simp [ldK, ldT, load1, hp]
  have pa : padd 3 (pv p 0) = some (pv p (0 + 3)) := rfl
  induction k with
  | zero =>
    intro i hi
    rw [eq_impl_RowFault_l0, vcase_b, if_neg (by simp; omega), allLow_end (by omega)]; simp
  | succ k ih =>
    intro i hi
    rw [eq_impl_RowFault_l0, vcase_b, if_pos (by simp; omega), allLow_step (by omega), w64 (by omega) (by omega), show (i : Int) + 1 = ((i + 1 : Nat) : Int) from by omega, tidy_self, ih (i + 1) (by omega)]
    have e : sby r.text i = ((r.text.get! i).toNat : Int) := by simp [sby]
    simp only [pa, Option.bind_some, ld, gV1_s, gS_s]
    rw [idxStr_of (by omega) (by omega)]
    simp only [Option.bind_some, gV1_s, gI_i, vcase_b, e, decide_eq_true_eq, low, Bool.and_eq_true]
    split
    · rw [if_neg (by omega)]
    · split
      · rw [if_neg (by omega)]
      · simp only [show (97 ≤ ((r.text.get! i).toNat : Int)) from by omega, show ((r.text.get! i).toNat : Int) ≤ 122 from by omega, true_and]
theorem p_RowFault (r : RowD) (hs : r.text.size ≤ maxLen) : pureV (call Ev) Fn.impl_RowFault [.agg r.cs] = some (iv .i64 (rowF r)) := by
  have hl := lp_RowFault r hs ((D 0).new 0 r.cs) 0 (by simp [H.cells, H.new, D, Blk.cells]) r.text.size 0 (by omega)
  rw [pu_impl_RowFault]
  simp only [pcallS, p_in, Option.bind_some, sca_v, sca_b, cond_true, gV1_s, gB_b, vcase_b]
  rw [show iv .i64 0 = iv .i64 ((0 : Nat) : Int) from rfl, hl]
  unfold rowF
  cases inB r.tab 0 3 <;> cases inB r.key 1 99 <;> cases inB r.val 0 999 <;> simp
  by_cases h8 : r.text.size ≤ 8
  · rw [if_neg (by omega)]
    cases allLow r.text 0 <;> simp [h8]
  · rw [if_pos (by omega)]; simp [h8]
def befB (a b : RowD) : Bool := decide (a.tab < b.tab) || (decide (a.tab = b.tab) && decide (a.key < b.key))
end Vm
/-
  A row that came in, its size and its copy.
-/
namespace Vm
open Go

theorem rp_Row {n : Nat} {xs : List S} (hr : Rp PR n T.laws_Row xs) : ∃ r : RowD, xs = r.cs ∧ r.ok := by
  obtain ⟨m, hf⟩ := hr.st und_laws_Row
  obtain ⟨a0, b0, rfl, h0, a1, b1, rfl, h1, a2, b2, rfl, h2, a3, b3, rfl, h3, rfl⟩ := hf
  obtain ⟨x0, rfl, w0⟩ := h0.int und_int64
  obtain ⟨x1, rfl, w1⟩ := h1.int und_int64
  obtain ⟨x2, rfl, w2⟩ := h2.int und_int64
  obtain ⟨x3, rfl, w3⟩ := h3.str und_string
  exact ⟨⟨x0, x1, x2, x3⟩, rfl, (wf64 w0).1, (wf64 w0).2, (wf64 w1).1, (wf64 w1).2, (wf64 w2).1, (wf64 w2).2, w3⟩
theorem p_szRow (r : RowD) (left : Int) (h1 : 0 ≤ left) (h2 : left < 9223372036854775808) (hz : r.text.size ≤ maxLen) :
    pureV (call Ev) Fn.laws_szRow [.agg r.cs, iv .i64 left] = some (iv .i64 (if (r.text.size : Int) ≤ left then left - r.text.size else -1)) := by
  unfold maxLen at hz
  rw [pu_laws_szRow, vcase_b, w64 (by omega) (by omega)]
  simp only [decide_eq_true_eq]
  split <;> split <;> first | rfl | omega
theorem p_toRow (r : RowD) : pureV (call Ev) Fn.laws_toRow [.agg r.cs] = some (.agg r.cs) := pu_laws_toRow _ _ _ _

end Vm
/-
  Loops that fill a new slice, and what is frozen of it.
-/
namespace Vm
open Go

@[simp] theorem tidy_put {h : H} {l : List V} {b : Nat} {x : Blk} (hb : b < h.n) : tidy h l (h.put b x) = h.put b x := by
  unfold tidy
  split
  · obtain ⟨n, g, v⟩ := h
    simp only [H.put, H.mk.injEq, true_and]
    constructor <;> (funext c; split <;> first | rfl | (rename_i hc; rw [if_neg (by intro e; subst e; exact hc hb)]))
  · rfl
/-- a value that fills a row -/
def VRow (v : V) (r : List S) : Prop := (∃ x, v = .s x ∧ r = [x] ∧ isNo x = false) ∨ v = .agg r
theorem stK_rw {R : Type} {z e o b : Nat} {h : H} {cs r : List S} {v : V} {k : H → Option R} (hb : b < h.n) (hg : h.g b = .rw e cs) (hv : VRow v r) (hr : r.length = z) (ho : o + z ≤ cs.length) :
    stK z h (pv b o) v k = k (h.put b (.rw e (setAt cs o r))) := by
  rcases hv with ⟨x, rfl, rfl, hx⟩ | rfl
  · simp only [List.length_cons, List.length_nil, Nat.zero_add] at hr
    subst hr
    simp only [stK, if_true, put1K, if_pos hb, hg]
    rw [if_pos (by omega), hx]
    have : cs.set o x = setAt cs o [x] := by
      unfold setAt
      rw [List.set_eq_take_append_cons_drop, if_pos (by omega)]
      simp
    rw [this]; rfl
  · simp only [stK, putNK]
    rw [if_pos ⟨hb, hr⟩, hg]
    simp only
    rw [if_pos ho]
theorem idxK_sv {R : Type} {z b n i : Nat} {kd : IntKind} {f : V → Option R} (hi : i < n) : idxK z (sv b 0 n) (iv kd (i : Int)) f = f (pv b (i * z)) := by
  simp only [idxK, idxS]
  rw [if_pos ⟨by omega, by omega⟩]
  simp
theorem setAt_at {A r B : List S} {o z : Nat} (ho : A.length = o) (hz : r.length = z) : setAt (A ++ B) o r = A ++ r ++ B.drop z := by
  subst ho; subst hz
  unfold setAt
  simp
theorem map_flat_len {T : Nat → List S} {z : Nat} : ∀ (i : Nat), (∀ j, j < i → (T j).length = z) → (((List.range i).map T).flatten).length = i * z
  | 0, _ => by simp
  | i + 1, h => by
    rw [List.range_succ, List.map_append, List.flatten_append, List.length_append, map_flat_len i fun j hj => h j (by omega)]
    simp [h i (by omega), Nat.succ_mul]
theorem fill_loop {z n b : Nat} {T : Nat → List S} {L : Int → H → Option LOut} {fin : List V} (hT : ∀ i, i < n → (T i).length = z)
    (hstep : ∀ (i : Nat) (h : H), i < n → b < h.n → ∃ v l, VRow v (T i) ∧ L i h = stK z h (pv b (i * z)) v fun h' => L ((i + 1 : Nat) : Int) (tidy h l h'))
    (hend : ∀ h, L n h = some (.done fin h)) :
    ∀ (k i : Nat) (h : H) (cs : List S), i + k = n → b < h.n → h.g b = .rw z (((List.range i).map T).flatten ++ cs) → cs.length = k * z →
      ∃ h', L i h = some (.done fin h') ∧ h'.n = h.n ∧ h'.g b = .rw z (((List.range n).map T).flatten) ∧ ∀ c, c ≠ b → h'.g c = h.g c ∧ h'.v c = h.v c := by
  intro k
  induction k with
  | zero =>
    intro i h cs hi hb hg hl
    obtain rfl : i = n := by omega
    have : cs = [] := List.eq_nil_of_length_eq_zero (by omega)
    subst this
    exact ⟨h, hend h, rfl, by simpa using hg, fun _ _ => ⟨rfl, rfl⟩⟩
  | succ k ih =>
    intro i h cs hi hb hg hl
    obtain ⟨v, l, hv, e⟩ := hstep i h (by omega) hb
    have hz := hT i (by omega)
    have hp := map_flat_len (T := T) (z := z) i fun j hj => hT j (by omega)
    have hl' : cs.length = z + k * z := by rw [hl, Nat.succ_mul]; omega
    rw [e, stK_rw hb hg hv hz (by rw [List.length_append, hp]; omega), tidy_put hb, setAt_at hp hz]
    obtain ⟨h', g1, g2, g3, g4⟩ := ih (i + 1) (h.put b (.rw z (((List.range i).map T).flatten ++ T i ++ cs.drop z))) (cs.drop z) (by omega) hb
      (by rw [put_g, List.range_succ, List.map_append, List.flatten_append]; simp) (by rw [List.length_drop]; omega)
    refine ⟨h', g1, g2, g3, fun c hc => ?_⟩
    have := g4 c hc
    simp only [H.put, if_neg hc] at this
    exact this
/-- a cell that is frozen as it stands -/
def Cl (s : S) : Prop := ∀ (h : H) (d : Nat), frzS h d s = some s
theorem cl_i {k : IntKind} {n : Int} : Cl (.int k n) := fun _ _ => frz_i
theorem cl_b {n : Bool} : Cl (.bool n) := fun _ _ => frz_b
theorem cl_s {n : ByteArray} : Cl (.str n) := fun _ _ => frz_s
theorem mapO_cl {h : H} {d : Nat} : ∀ {l : List S}, (∀ s ∈ l, Cl s) → mapO (frzS h d) l = some l
  | [], _ => rfl
  | s :: l, hl => by
    have h2 : mapO (frzS h d) l = some l := mapO_cl fun s hs => hl s (List.mem_cons_of_mem _ hs)
    simp [mapO, hl s (by simp) h d, h2]
theorem flat_len {z : Nat} : ∀ {rows : List (List S)}, (∀ r ∈ rows, r.length = z) → rows.flatten.length = rows.length * z
  | [], _ => by simp
  | r :: rows, h => by
    rw [List.flatten_cons, List.length_append, h r (by simp), flat_len fun r hr => h r (by simp [hr]), List.length_cons, Nat.succ_mul]; omega
theorem chunk_rows {z : Nat} : ∀ {rows : List (List S)}, (∀ r ∈ rows, r.length = z) → chunk z rows.length rows.flatten = rows
  | [], _ => rfl
  | r :: rows, h => by
    have hr := h r (by simp)
    have ih := chunk_rows (rows := rows) fun r hr => h r (by simp [hr])
    unfold chunk at ih ⊢
    rw [List.length_cons, List.range_succ_eq_map, List.map_cons, List.map_map]
    congr 1
    · simp [← hr]
    · conv => rhs; rw [← ih]
      refine List.map_congr_left fun i _ => ?_
      simp only [Function.comp_apply, List.flatten_cons]
      rw [Nat.succ_mul, Nat.add_comm, ← List.drop_drop, ← hr, List.drop_left]
theorem frzS_sl {h : H} {b z d : Nat} {rows : List (List S)} (hb : b < h.n) (hz0 : 0 < z) (hg : h.g b = .rw z rows.flatten) (hz : ∀ r ∈ rows, r.length = z) (hc : ∀ r ∈ rows, ∀ s ∈ r, Cl s) : frzS h (d + 1) (.sl (some (b, 0)) rows.length) = some (.fs rows) := by
  simp only [frzS]
  split
  · rename_i h0; rw [List.eq_nil_of_length_eq_zero h0]
  · have hl := flat_len hz
    simp only [hb, if_true, hg]
    rw [if_pos ⟨hz0, by omega⟩, List.drop_zero, List.take_of_length_le (by omega), mapO_cl (fun s hs => by
      obtain ⟨r, h1, h2⟩ := List.mem_flatten.1 hs
      exact hc r h1 s h2)]
    simp [chunk_rows hz]
theorem frzV_sv {h : H} {b z : Nat} {rows : List (List S)} (hb : b < h.n) (hz0 : 0 < z) (hg : h.g b = .rw z rows.flatten) (hz : ∀ r ∈ rows, r.length = z) (hc : ∀ r ∈ rows, ∀ s ∈ r, Cl s) : frzV h (sv b 0 rows.length) = some (lv rows) := by
  rw [frzV_s, frzS_sl hb hz0 hg hz hc]; rfl
theorem mkSl_of {z n : Nat} {zero : List S} {h : H} (hn : n ≤ lim) (hz0 : 0 < z) (hz : zero.length = z) {k1 k2 : IntKind} : mkSl z zero h (iv k1 (n : Int)) (iv k2 (n : Int)) = some (sv h.n 0 n, h.new z ((List.replicate n zero).flatten)) := by
  simp only [mkSl]
  rw [if_pos ⟨by omega, trivial, by omega, hz0, hz⟩]
  simp
theorem repl_len {n z : Nat} {zero : List S} (hz : zero.length = z) : ((List.replicate n zero).flatten).length = n * z := by
  rw [flat_len (z := z) (fun r hr => by rw [List.eq_of_mem_replicate hr, hz])]; simp
/-- a loop over rows that fills a slice -/
theorem fill_rows {z n b : Nat} {rows : List (List S)} {L : Int → H → Option LOut} {fin : List V} (hn : rows.length = n) (hr : ∀ r ∈ rows, r.length = z)
    (hstep : ∀ (i : Nat) (h : H) (r : List S), rows[i]? = some r → i < n → b < h.n → ∃ v l, VRow v r ∧ L i h = stK z h (pv b (i * z)) v fun h' => L ((i + 1 : Nat) : Int) (tidy h l h'))
    (hend : ∀ h, L n h = some (.done fin h)) (h : H) (cs : List S) (hb : b < h.n) (hg : h.g b = .rw z cs) (hl : cs.length = n * z) :
      ∃ h', L 0 h = some (.done fin h') ∧ h'.n = h.n ∧ h'.g b = .rw z rows.flatten ∧ ∀ c, c ≠ b → h'.g c = h.g c ∧ h'.v c = h.v c := by
  have hT : ∀ i, i < n → rows[i]? = some (rows.getD i []) := fun i hi => by rw [List.getD, List.getElem?_eq_getElem (by omega)]; rfl
  obtain ⟨h', g1, g2, g3, g4⟩ := fill_loop (z := z) (n := n) (b := b) (T := fun i => rows.getD i []) (L := L) (fin := fin) (fun i hi => hr _ (List.mem_of_getElem? (hT i hi)))
    (fun i h hi hb => hstep i h _ (hT i hi) hi hb) hend n 0 h cs (by omega) hb (by simpa using hg) hl
  refine ⟨h', g1, g2, ?_, g4⟩
  rw [g3]
  congr 2
  refine List.ext_getElem? fun i => ?_
  by_cases hi : i < n
  · rw [List.getElem?_map, List.getElem?_range hi, hT i hi]; rfl
  · rw [List.getElem?_eq_none (by simp; omega), List.getElem?_eq_none (by omega)]
end Vm
/-
  Bytes: as frozen slices, and as slices that are one's own.
-/
namespace Vm
open Go

def cell8 (c : UInt8) : S := .int .u8 c.toNat
/-- bytes as rows -/
def bys (l : List UInt8) : List (List S) := l.map fun c => [cell8 c]
/-- the byte at a place, as a number -/
def bt (l : List UInt8) (i : Int) : Int := ((l.getD i.toNat 0).toNat : Int)
theorem bt_nn (l : List UInt8) (i : Int) : 0 ≤ bt l i := by unfold bt; omega
theorem bt_lt (l : List UInt8) (i : Int) : bt l i < 256 := by
  unfold bt
  have := (l.getD i.toNat 0).toNat_lt
  omega
@[simp] theorem bys_len (l : List UInt8) : (bys l).length = l.length := by simp [bys]
theorem bys_row {l : List UInt8} : ∀ r ∈ bys l, r.length = 1 := by
  intro r hr
  obtain ⟨c, _, rfl⟩ := List.mem_map.1 hr
  rfl
theorem bys_cl {l : List UInt8} : ∀ r ∈ bys l, ∀ s ∈ r, Cl s := by
  intro r hr s hs
  obtain ⟨c, _, rfl⟩ := List.mem_map.1 hr
  rw [List.mem_singleton.1 hs]
  exact cl_i
theorem bys_flat (l : List UInt8) : (bys l).flatten = l.map cell8 := by
  induction l with
  | nil => rfl
  | cons c l ih => simp only [bys, List.map_cons, List.flatten_cons, List.singleton_append] at ih ⊢; rw [ih]
theorem bys_get {l : List UInt8} {i : Nat} (h : i < l.length) : (bys l)[i]? = some [.int .u8 (bt l i)] := by
  simp [bys, h, cell8, bt]
theorem bys_take (l : List UInt8) (n : Nat) : (bys l).take n = bys (l.take n) := by simp [bys, List.map_take]
theorem bys_drop (l : List UInt8) (n : Nat) : (bys l).drop n = bys (l.drop n) := by simp [bys, List.map_drop]
section
variable {R : Type}
/-- reading a byte -/
theorem idxF_by {l : List UInt8} {i : Int} {k : List S → Option R} (h0 : 0 ≤ i) (h1 : i < l.length) : idxF 1 (bys l) i k = k [.int .u8 (bt l i)] := by
  obtain ⟨n, rfl⟩ : ∃ n : Nat, i = n := ⟨i.toNat, by omega⟩
  exact idxF_at (bys_get (by omega)) rfl
theorem idxF_out {z : Nat} {rows : List (List S)} {i : Int} {k : List S → Option R} (h : ¬ (0 ≤ i ∧ i < rows.length)) : idxF z rows i k = none := by
  unfold idxF; rw [if_neg h]
theorem bnd_of {y n : Nat} {kd : IntKind} (h : n ≤ y) : bnd y (iv kd (n : Int)) = some n := by
  simp only [bnd]; rw [if_pos ⟨by omega, by omega⟩]; simp
theorem slF_lo {l : List UInt8} {a : Nat} {kd : IntKind} {k : List (List S) → Option R} (h : a ≤ l.length) : slF 1 (bys l) (some (iv kd (a : Int))) none k = k (bys (l.drop a)) := by
  unfold slF
  simp only [bys_len, Option.bind_some, bnd_of h, if_pos (show ∀ r ∈ bys l, r.length = 1 from bys_row)]
  rw [show l.length = (bys l).length from (bys_len l).symm, List.take_length, bys_drop]
theorem slF_lh {l : List UInt8} {a b : Nat} {kd kd' : IntKind} {k : List (List S) → Option R} (h : a ≤ b) (h2 : b ≤ l.length) : slF 1 (bys l) (some (iv kd (a : Int))) (some (iv kd' (b : Int))) k = k (bys ((l.take b).drop a)) := by
  unfold slF
  simp only [bys_len, Option.bind_some, bnd_of h, bnd_of h2, if_pos (show ∀ r ∈ bys l, r.length = 1 from bys_row)]
  rw [bys_take, bys_drop]
end
theorem bytesS_map (l : List UInt8) : bytesS (l.map cell8) = some l := by
  induction l with
  | nil => rfl
  | cons c l ih =>
    have := c.toNat_lt
    simp only [List.map_cons, cell8, bytesS] at ih ⊢
    rw [ih, Option.bind_some, if_pos ⟨by omega, by omega⟩]
    simp
theorem fsStr_by {l : List UInt8} (h : l.length ≤ lim) : fsStr (bys l) = some (.s (.str ⟨l.toArray⟩)) := by
  unfold fsStr
  rw [if_pos bys_row, Option.bind_some, bys_flat, bytesS_map, Option.bind_some, bys_len, if_pos h]

/-- a slice that holds all of a block's bytes, and may be written -/
structure BysW (h : H) (v : V) (l : List UInt8) (b : Nat) : Prop where
  v : v = sv b 0 l.length
  n : b < h.n
  g : h.g b = .rw 1 (l.map cell8)
theorem BysW.frz {h : H} {v : V} {l : List UInt8} {b d : Nat} (w : BysW h v l b) : v = sv b 0 l.length ∧ frzS h (d + 1) (.sl (some (b, 0)) l.length) = some (.fs (bys l)) := by
  refine ⟨w.v, ?_⟩
  have := frzS_sl (h := h) (b := b) (z := 1) (d := d) (rows := bys l) w.n (by omega) (by rw [bys_flat]; exact w.g) bys_row bys_cl
  rwa [bys_len] at this
/-- bytes that are one's own: none at all, or a block -/
def Own (h : H) (v : V) (l : List UInt8) : Option Nat → Prop
  | none => v = .s (.sl none 0) ∧ l = []
  | some b => BysW h v l b
theorem Own.frz {h : H} {v : V} {l : List UInt8} {ob : Option Nat} {d : Nat} (w : Own h v l ob) : ∃ s, v = .s s ∧ frzS h (d + 1) s = some (.fs (bys l)) := by
  cases ob with
  | none => obtain ⟨rfl, rfl⟩ := w; exact ⟨_, rfl, frz_n⟩
  | some b => obtain ⟨h1, h2⟩ := BysW.frz (d := d) w; exact ⟨_, h1, h2⟩
theorem BysW.set {R : Type} {h : H} {n : Nat} {l : List UInt8} {b i : Nat} {c : UInt8} {x : Int} {k : H → Option R} (w : BysW h (sv b 0 n) l b) (hi : i < l.length) (hx : x = (c.toNat : Int)) : stK 1 h (pv b (i * 1)) (iv .u8 x) k = k (h.put b (.rw 1 ((l.set i c).map cell8))) := by
  subst hx
  rw [stK_rw (z := 1) (e := 1) (o := i * 1) (v := iv .u8 c.toNat) (cs := l.map cell8) (r := [cell8 c]) w.n w.g (.inl ⟨_, rfl, rfl, rfl⟩) rfl (by simp; omega)]
  congr 3
  unfold setAt
  rw [List.map_set, List.set_eq_take_append_cons_drop, if_pos (by simp; omega)]
  simp
theorem BysW.len {h : H} {n : Nat} {l : List UInt8} {b : Nat} (w : BysW h (sv b 0 n) l b) : n = l.length := by
  have := w.v
  injection this with h1
  injection h1
theorem BysW.get {R : Type} {h : H} {n : Nat} {l : List UInt8} {b i : Nat} {ti : TI} {k : V → Option R} (w : BysW h (sv b 0 n) l b) (hi : i < l.length) (hz : ti.agg = false) : ldK (.one (.i .u8)) ti h (pv b (i * 1)) k = k (iv .u8 (bt l i)) := by
  have : load1 h (pv b (i * 1)) = some (.int .u8 (bt l i)) := by
    simp [load1, H.cells, w.n, w.g, Blk.cells, hi, cell8, bt]
  simp only [ldK, ldT, hz, cond_false, this, Option.bind_some]
theorem bt_ext {l m : List UInt8} (hl : l.length = m.length) (h : ∀ i : Nat, i < l.length → bt l i = bt m i) : l = m := by
  refine List.ext_getElem hl fun i h1 h2 => ?_
  have := h i h1
  simp only [bt, Int.toNat_natCast, List.getD, List.getElem?_eq_getElem h1, List.getElem?_eq_getElem h2, Option.getD_some] at this
  exact UInt8.toNat_inj.1 (by omega)
end Vm
/-
  Calls with an answer that is new, and what is one's own of it.
-/
namespace Vm
open Go

theorem over_n {h h1 : H} (hn : h.n ≤ h1.n) : (h.over h1).n = h1.n := by simp only [H.over]; omega
theorem over_lt {h h1 : H} {b : Nat} (hb : b < h.n) : (h.over h1).g b = h.g b ∧ (h.over h1).v b = h.v b := by simp [H.over, hb]
theorem over_ge {h h1 : H} {b : Nat} (hb : h.n ≤ b) : (h.over h1).g b = h1.g b := by simp only [H.over]; rw [if_neg (by omega)]
/-- a heap with what was there, and more -/
structure Up (h h' : H) : Prop where
  n : h.n ≤ h'.n
  g : ∀ b, b < h.n → h'.g b = h.g b
theorem Up.refl (h : H) : Up h h := ⟨Nat.le_refl _, fun _ _ => rfl⟩
theorem Up.trans {a b c : H} (x : Up a b) (y : Up b c) : Up a c := ⟨Nat.le_trans x.n y.n, fun i hi => (y.g i (Nat.lt_of_lt_of_le hi x.n)).trans (x.g i hi)⟩
theorem up_over {h h1 : H} (hn : h.n ≤ h1.n) : Up h (h.over h1) := ⟨by rw [over_n hn]; exact hn, fun b hb => (over_lt hb).1⟩
theorem Own.up {h h' : H} (u : Up h h') {v : V} {l : List UInt8} {ob : Option Nat} (x : Own h v l ob) : Own h' v l ob := by
  cases ob with
  | none => exact x
  | some b => exact ⟨x.v, Nat.lt_of_lt_of_le x.n u.n, by rw [u.g b x.n]; exact x.g⟩
/-- all but one block as it was -/
structure But (b : Option Nat) (h h' : H) : Prop where
  n : h'.n = h.n
  g : ∀ c, b ≠ some c → h'.g c = h.g c
theorem Own.but {h h' : H} {o : Option Nat} (u : But o h h') {v : V} {l : List UInt8} {ob : Option Nat} (x : Own h v l ob) (hne : ∀ b, ob = some b → o ≠ some b) : Own h' v l ob := by
  cases ob with
  | none => exact x
  | some b => exact ⟨x.v, by rw [u.n]; exact x.n, by rw [u.g b (hne b rfl)]; exact x.g⟩
/-- cells that lead nowhere, once they are frozen -/
theorem nofz_of {n : Nat} {v : V} {h : H} (h1 : scaV v = true) (h2 : ∀ b, n ≤ b → b < h.n → ∀ s ∈ (h.g b).cells, scaS s = true) : NoFz n (v, h) := ⟨h1, h2⟩
theorem pF {R : Type} {cl : Nat → List V → H → Option (V × H)} {g : Nat} {off : Bool} {xs : List V} {h h1 : H} {v : V} {k : V → H → Option R} (hc : cl g xs (D h.n) = some (v, h1)) (hz : NoFz h.n (v, h1)) : pcallF cl g off xs h k = k v (h.over h1) := by
  unfold pcallF
  rw [hc, ob]
  unfold fchk
  rw [if_pos (.inr hz.1)]
  have e : h.over (scrub h.n h1) = h.over h1 := by
    unfold H.over scrub
    simp only [H.mk.injEq, true_and, and_true]
    funext b
    by_cases hb : b < h.n
    · rw [if_pos hb, if_pos hb]
    · rw [if_neg hb, if_neg hb, if_neg]
      rintro ⟨h2, h3, h4⟩
      have : ((h1.g b).cells.all scaS) = true := List.all_eq_true.2 (hz.2 b h2 h3)
      rw [this] at h4; cases h4
  cases off with
  | true => rfl
  | false => dsimp only [cond_false]; rw [e]
theorem loadN_rw {n e b o : Nat} {h : H} {cs : List S} (hb : b < h.n) (hg : h.g b = .rw e cs) (ho : o + n ≤ cs.length) : loadN n h (pv b o) = some ((cs.drop o).take n) := by
  simp only [loadN, H.cells, hb, if_true, hg, Blk.cells, true_and]
  rw [if_pos ho]
theorem frz2 {h : H} {c : Int} {y : S} {l : List UInt8} {ob : Option Nat} (w : Own h (.s y) l ob) : frzV h (.agg [.int .i64 c, y]) = some (.agg [.int .i64 c, .fs (bys l)]) := by
  obtain ⟨s, h1, h2⟩ := w.frz (d := 7)
  cases h1
  simp [h2]
theorem frz1 {h : H} {v : V} {l : List UInt8} {ob : Option Nat} (w : Own h v l ob) : frzV h v = some (lv (bys l)) := by
  obtain ⟨s, rfl, h2⟩ := w.frz (d := 7)
  simp [h2]
theorem frzVs_nil {h : H} : frzVs h [] = some [] := id rfl
theorem frzVs_cons {h : H} {v w : V} {vs ws : List V} (h1 : frzV h v = some w) (h2 : frzVs h vs = some ws) : frzVs h (v :: vs) = some (w :: ws) := by simp [frzVs, h1, h2]
theorem frzV_iv {h : H} {k : IntKind} {n : Int} : frzV h (iv k n) = some (iv k n) := by simp
theorem frzV_lv {h : H} {l : List (List S)} : frzV h (lv l) = some (lv l) := by simp
theorem norm_nil {l : List V} : normVs [] l = l := by cases l <;> rfl
/-- what a function that answers with new bytes comes to: on a heap of which nothing is left -/
structure NewB (n : Nat) (h : H) (v : V) (l : List UInt8) (ob : Option Nat) : Prop where
  own : Own h v l ob
  le : n ≤ h.n
  new : ∀ b, ob = some b → n ≤ b
  z : ∀ b, n ≤ b → b < h.n → ∀ s ∈ (h.g b).cells, scaS s = true
theorem Own.sca {h : H} {y : S} {l : List UInt8} {ob : Option Nat} (w : Own h (.s y) l ob) : scaS y = true := by
  cases ob with
  | none => obtain ⟨h1, _⟩ := w; cases h1; rfl
  | some b => have := w.v; cases this; rfl
end Vm
/-
  Slices of rows: their size, a copy, a comparison, their fault.
-/
namespace Vm
open Go
def rws (rs : List RowD) : List (List S) := rs.map RowD.cs
@[simp] theorem rws_len (rs : List RowD) : (rws rs).length = rs.length := by simp [rws]
theorem rws_row {rs : List RowD} : ∀ r ∈ rws rs, r.length = 4 := by
  intro r hr
  obtain ⟨c, _, rfl⟩ := List.mem_map.1 hr
  rfl
theorem rws_get {rs : List RowD} {i : Nat} {r : RowD} (h : rs[i]? = some r) : (rws rs)[i]? = some r.cs := by simp [rws, h]
section
variable {R : Type}
end
/-! size -/
/-! a copy -/
structure NewRw (n : Nat) (h : H) (v : V) (rs : List RowD) : Prop where
  v : v = sv n 0 rs.length
  g : h.g n = .rw 4 (rws rs).flatten
  le : h.n = n + 1
/-! a comparison -/
theorem p_eqRow (r : RowD) : pureV (call Ev) Fn.laws_eqRow [.agg r.cs, .agg r.cs] = some (bv true) := by
  rw [pu_laws_eqRow]; simp
/-! the fault of rows -/
theorem p_IsBefore (a b : RowD) : pureV (call Ev) Fn.impl_IsBefore [.agg a.cs, .agg b.cs] = some (bv (befB a b)) := by
  rw [pu_impl_IsBefore]; unfold befB
  simp only [vcase_b, decide_eq_true_eq, beq_iff_eq]
  split
  · rename_i h; simp [h]
  · rename_i h
    split
    · rename_i h2; simp [h2]
    · rename_i h2; simp [h, h2]
/-- what a loop over rows ends with -/
def outI (x : Int) (h : H) : LOut := if x = 0 then .done [] h else .ret (iv .i64 x) h
theorem outI_0 (h : H) : outI 0 h = .done [] h := rfl
theorem outI_n {x : Int} (hx : x ≠ 0) (h : H) : outI x h = .ret (iv .i64 x) h := if_neg hx
section
variable {R : Type}
end
end Vm
/-
  What the laws' helpers on bytes come to: a copy, a comparison, marks written and found again.
-/
namespace Vm
open Go

theorem p_eqByteS {l m : List UInt8} (hl : l.length ≤ maxLen) : pureV (call Ev) Fn.laws_eqByteS [lv (bys l), lv (bys m)] = some (bv (decide (l = m))) := by
  unfold maxLen at hl
  rw [pu_laws_eqByteS, vcase_b, bys_len, bys_len]
  by_cases hlm : l.length = m.length
  case neg =>
    rw [if_pos (by simp; omega)]
    rw [show decide (l = m) = false from by simp; intro e; exact hlm (by rw [e])]
  rw [if_neg (by simp [hlm])]
  have loop : ∀ (k i : Nat), i + k = l.length → (∀ j : Nat, j < i → bt l j = bt m j) → Lp.laws_eqByteS 0 [lv (bys l), lv (bys m), iv .i64 i] (D 0) = some (if l = m then .done [] (D 0) else .ret (bv false) (D 0)) := by
    intro k
    induction k with
    | zero =>
      intro i hi hj
      rw [eq_laws_eqByteS_l0, vcase_b, if_neg (by simp; omega), if_pos (bt_ext hlm fun j hjl => hj j (by omega)), tidy_self]
    | succ k ih =>
      intro i hi hj
      rw [eq_laws_eqByteS_l0, vcase_b, if_pos (by simp; omega), idxF_by (by omega) (by omega)]
      simp only [List.getElem?_cons_zero, Option.bind_some, gI_i]
      rw [idxF_by (by omega) (by omega)]
      simp only [List.getElem?_cons_zero, Option.bind_some, gI_i]
      rw [vcase_b]
      by_cases hb : bt l i = bt m i
      · rw [if_neg (by simpa using hb), w64 (by omega) (by omega), show (i : Int) + 1 = ((i + 1 : Nat) : Int) from by omega, tidy_self]
        refine ih (i + 1) (by omega) fun j hji => ?_
        by_cases hje : j = i
        · subst hje; exact hb
        · exact hj j (by omega)
      · rw [if_pos (by simpa using hb), if_neg (fun e => hb (by rw [e]))]
  rw [show iv .i64 0 = iv .i64 ((0 : Nat) : Int) from rfl, loop l.length 0 (by omega) (fun j hj => by omega)]
  by_cases he : l = m <;> simp [he]

end Vm
/-
  What the functions that look for a page's fault come to.
-/
namespace Vm
open Go

@[simp] theorem w64bt {l : List UInt8} {i : Int} : IntKind.i64.wrap (bt l i) = bt l i := by
  have := bt_nn l i; have := bt_lt l i
  exact w64 (by omega) (by omega)
def plc (l : List UInt8) (i : Nat) : Int := bt l ((2 + 2 * i : Nat) : Int)
def siz (l : List UInt8) (i : Nat) : Int := bt l ((3 + 2 * i : Nat) : Int)
def slotB (l : List UInt8) (i : Nat) : Prop := if plc l i = 0 ∨ siz l i = 0 then plc l i = siz l i else bt l 1 ≤ plc l i ∧ plc l i + siz l i ≤ 64
def apartB (l : List UInt8) (i k : Nat) : Prop := siz l i = 0 ∨ siz l k = 0 ∨ plc l i + siz l i ≤ plc l k ∨ plc l k + siz l k ≤ plc l i
def cnt (l : List UInt8) : Nat := (bt l 0).toNat
theorem cnt_eq (l : List UInt8) : ((cnt l : Nat) : Int) = bt l 0 := by unfold cnt; have := bt_nn l 0; omega
def headB (l : List UInt8) : Prop := bt l 0 ≤ 16 ∧ 2 + 2 * bt l 0 ≤ bt l 1 ∧ bt l 1 ≤ 64
/-- the fault that a page has -/
def PageIs (l : List UInt8) (c : Int) : Prop :=
  (l.length ≠ 64 ∧ c = 1) ∨ (l.length = 64 ∧ ¬ headB l ∧ c = 3) ∨ (l.length = 64 ∧ headB l ∧ (∃ i, i < cnt l ∧ ¬ slotB l i) ∧ c = 3) ∨
  (l.length = 64 ∧ headB l ∧ (∀ i, i < cnt l → slotB l i) ∧ (∃ i k, i < cnt l ∧ k < i ∧ ¬ apartB l i k) ∧ c = 8) ∨
  (l.length = 64 ∧ headB l ∧ (∀ i, i < cnt l → slotB l i) ∧ (∀ i k, i < cnt l → k < i → apartB l i k) ∧ (0 < cnt l ∧ siz l (cnt l - 1) = 0) ∧ c = 8) ∨
  (l.length = 64 ∧ headB l ∧ (∀ i, i < cnt l → slotB l i) ∧ (∀ i k, i < cnt l → k < i → apartB l i k) ∧ ¬ (0 < cnt l ∧ siz l (cnt l - 1) = 0) ∧ c = 0)
theorem PageIs.uniq {l : List UInt8} {c c' : Int} (h : PageIs l c) (h' : PageIs l c') : c = c' := by
  unfold PageIs at h h'
  by_cases h1 : l.length = 64 <;> simp only [h1, ne_eq, not_true_eq_false, not_false_eq_true, true_and, false_and, false_or, or_false] at h h'
  case neg => omega
  by_cases h2 : headB l <;> simp only [h2, not_true_eq_false, not_false_eq_true, true_and, false_and, false_or, or_false] at h h'
  case neg => omega
  by_cases h3 : ∀ i, i < cnt l → slotB l i
  case neg =>
    have h3' : ∃ i, i < cnt l ∧ ¬ slotB l i := by
      apply Classical.byContradiction; intro hh
      exact h3 fun i hi => Classical.byContradiction fun hs => hh ⟨i, hi, hs⟩
    simp only [h3, h3', not_true_eq_false, not_false_eq_true, true_and, false_and, false_or, or_false] at h h'
    omega
  have h3' : ¬ ∃ i, i < cnt l ∧ ¬ slotB l i := fun ⟨i, hi, hs⟩ => hs (h3 i hi)
  simp only [h3', false_and, false_or] at h h'
  by_cases h4 : ∀ i k, i < cnt l → k < i → apartB l i k
  case neg =>
    rcases h with ⟨_, _, h⟩ | ⟨_, h, _⟩ | ⟨_, h, _⟩
    · rcases h' with ⟨_, _, h'⟩ | ⟨_, h', _⟩ | ⟨_, h', _⟩
      · omega
      · exact absurd h' h4
      · exact absurd h' h4
    · exact absurd h h4
    · exact absurd h h4
  have h4' : ¬ ∃ i k, i < cnt l ∧ k < i ∧ ¬ apartB l i k := fun ⟨i, k, hi, hk, hs⟩ => hs (h4 i k hi hk)
  simp only [h4', false_and, and_false, false_or] at h h'
  by_cases h5 : 0 < cnt l ∧ siz l (cnt l - 1) = 0
  · rcases h with ⟨_, _, _, h⟩ | ⟨_, _, h, _⟩
    · rcases h' with ⟨_, _, _, h'⟩ | ⟨_, _, h', _⟩
      · omega
      · exact absurd h5 h'
    · exact absurd h5 h
  · rcases h with ⟨_, _, h, _⟩ | ⟨_, _, _, h⟩
    · exact absurd h h5
    · rcases h' with ⟨_, _, h', _⟩ | ⟨_, _, _, h'⟩
      · exact absurd h' h5
      · omega

theorem pl_bd (l : List UInt8) (i : Nat) : 0 ≤ plc l i ∧ plc l i < 256 ∧ 0 ≤ siz l i ∧ siz l i < 256 := ⟨bt_nn _ _, bt_lt _ _, bt_nn _ _, bt_lt _ _⟩
open Classical in
/-- the fault of a page -/
noncomputable def pagF (l : List UInt8) : Int := if l.length ≠ 64 then 1 else if ¬ headB l then 3 else if ∃ i, i < cnt l ∧ ¬ slotB l i then 3 else if ∃ i k, i < cnt l ∧ k < i ∧ ¬ apartB l i k then 8 else if 0 < cnt l ∧ siz l (cnt l - 1) = 0 then 8 else 0
theorem pagF_is (l : List UInt8) : PageIs l (pagF l) := by
  unfold pagF PageIs
  by_cases h1 : l.length = 64
  case neg => simp [h1]
  by_cases h2 : headB l
  case neg => simp [h1, h2]
  by_cases h3 : ∃ i, i < cnt l ∧ ¬ slotB l i
  · simp [h1, h2, h3]
  have h3' : ∀ i, i < cnt l → slotB l i := fun i hi => Classical.byContradiction fun hs => h3 ⟨i, hi, hs⟩
  by_cases h4 : ∃ i k, i < cnt l ∧ k < i ∧ ¬ apartB l i k
  · rw [if_neg (by simpa using h1), if_neg (by simpa using h2), if_neg h3, if_pos h4]
    exact .inr (.inr (.inr (.inl ⟨h1, h2, h3', h4, rfl⟩)))
  have h4' : ∀ i k, i < cnt l → k < i → apartB l i k := fun i k hi hk => Classical.byContradiction fun hs => h4 ⟨i, k, hi, hk, hs⟩
  rw [if_neg (by simpa using h1), if_neg (by simpa using h2), if_neg h3, if_neg h4]
  by_cases h5 : 0 < cnt l ∧ siz l (cnt l - 1) = 0
  · rw [if_pos h5]; exact .inr (.inr (.inr (.inr (.inl ⟨h1, h2, h3', h4', h5, rfl⟩))))
  · rw [if_neg h5]; exact .inr (.inr (.inr (.inr (.inr ⟨h1, h2, h3', h4', h5, rfl⟩))))
theorem PageIs.f {l : List UInt8} {c : Int} (h : PageIs l c) : c = pagF l := h.uniq (pagF_is l)
/-- a page without a fault -/
theorem pagF_ok {l : List UInt8} (h : pagF l = 0) : l.length = 64 ∧ headB l ∧ (∀ i, i < cnt l → slotB l i) ∧ (∀ i k, i < cnt l → k < i → apartB l i k) ∧ ¬ (0 < cnt l ∧ siz l (cnt l - 1) = 0) := by
  have hp := pagF_is l
  rw [h] at hp
  rcases hp with ⟨_, hc⟩ | ⟨_, _, hc⟩ | ⟨_, _, _, hc⟩ | ⟨_, _, _, _, hc⟩ | ⟨_, _, _, _, _, hc⟩ | ⟨h1, h2, h3, h4, h5, _⟩
  · cases hc
  · cases hc
  · cases hc
  · cases hc
  · cases hc
  · exact ⟨h1, h2, h3, h4, h5⟩
section
variable {l : List UInt8}
theorem p_l2Count (hl : 0 < l.length) : pureV (call Ev) Fn.spec_l2Count [lv (bys l)] = some (iv .i64 (bt l 0)) := by
  rw [pu_spec_l2Count, idxF_by (by omega) (by omega)]; simp
theorem p_slots (hl : 0 < l.length) : pureV (call Ev) Fn.impl_slots [lv (bys l)] = some (iv .i64 (bt l 0)) := by
  rw [pu_impl_slots, idxF_by (by omega) (by omega)]; simp
theorem p_l2Low (hl : 1 < l.length) : pureV (call Ev) Fn.spec_l2Low [lv (bys l)] = some (iv .i64 (bt l 1)) := by
  rw [pu_spec_l2Low, idxF_by (by omega) (by omega)]; simp
theorem p_l2Place {i : Nat} (hl : 2 + 2 * i < l.length) (hi : i < 1000) : pureV (call Ev) Fn.spec_l2Place [lv (bys l), iv .i64 i] = some (iv .i64 (plc l i)) := by
  rw [pu_spec_l2Place, w64 (n := 2 * (i : Int)) (by omega) (by omega), w64 (by omega) (by omega), idxF_by (by omega) (by omega)]
  simp [plc]
theorem p_l2Size {i : Nat} (hl : 3 + 2 * i < l.length) (hi : i < 1000) : pureV (call Ev) Fn.spec_l2Size [lv (bys l), iv .i64 i] = some (iv .i64 (siz l i)) := by
  rw [pu_spec_l2Size, w64 (n := 2 * (i : Int)) (by omega) (by omega), w64 (by omega) (by omega), idxF_by (by omega) (by omega)]
  simp [siz]
theorem p_spot {i : Nat} (hl : 3 + 2 * i < l.length) (hi : i < 1000) : pureV (call Ev) Fn.impl_spot [lv (bys l), iv .i64 i] = some (.tup [.s (.int .i64 (plc l i)), .s (.int .i64 (siz l i))]) := by
  rw [pu_impl_spot, w64 (n := 2 * (i : Int)) (by omega) (by omega), w64 (by omega) (by omega), w64 (by omega) (by omega), idxF_by (by omega) (by omega)]
  simp only [gx0, ob, gI_i]
  rw [idxF_by (by omega) (by omega)]
  simp [plc, siz]
theorem p_l2Slot {i : Nat} (hl : 3 + 2 * i < l.length) (hi : i < 1000) : ∃ b, pureV (call Ev) Fn.spec_l2Slot [lv (bys l), iv .i64 i] = some (bv b) ∧ (b = true ↔ slotB l i) := by
  have q := pl_bd l i
  rw [pu_spec_l2Slot, pc (p_l2Place (by omega) hi) rfl]
  simp only [gV1_s, gI_i]
  rw [pc (p_l2Size hl hi) rfl]
  simp only [gV1_s, gI_i]
  rw [pc (p_l2Low (by omega)) rfl]
  simp only [gV1_s, gI_i, vcase_b]
  rw [w64 (n := plc l i + siz l i) (by omega) (by omega)]
  unfold slotB
  by_cases hp : plc l i = 0
  · rw [if_pos (by simpa using hp), if_pos (.inl hp)]; exact ⟨_, rfl, by simp⟩
  rw [if_neg (by simpa using hp)]
  by_cases hs : siz l i = 0
  · rw [if_pos (by simpa using hs), if_pos (.inr hs)]; exact ⟨_, rfl, by simp⟩
  rw [if_neg (by simpa using hs), if_neg (show ¬ (plc l i = 0 ∨ siz l i = 0) by omega)]
  by_cases hb : bt l 1 ≤ plc l i
  · rw [if_pos (by simpa using hb)]; exact ⟨_, rfl, by simp [hb]⟩
  · rw [if_neg (by simpa using hb)]; exact ⟨_, rfl, by simp [hb]⟩
theorem p_l2Apart {i k : Nat} (hl : 3 + 2 * i < l.length) (hi : i < 1000) (hl' : 3 + 2 * k < l.length) (hk : k < 1000) : ∃ b, pureV (call Ev) Fn.spec_l2Apart [lv (bys l), iv .i64 i, iv .i64 k] = some (bv b) ∧ (b = true ↔ apartB l i k) := by
  have q1 := pl_bd l i
  have q2 := pl_bd l k
  have j : ∀ q, Jn.spec_l2Apart_0 q (bys l) i k = some (bv (q || (decide (plc l i + siz l i ≤ plc l k) || decide (plc l k + siz l k ≤ plc l i)))) := by
    intro q
    unfold Jn.spec_l2Apart_0
    rw [vcase_b]
    cases q
    · simp only [Bool.false_eq_true, if_false, Bool.false_or]
      rw [pc (p_l2Place (by omega) hi) rfl]; simp only [gV1_s, gI_i]
      rw [pc (p_l2Size hl hi) rfl]; simp only [gV1_s, gI_i]
      rw [pc (p_l2Place (by omega) hk) rfl]; simp only [gV1_s, gI_i]
      rw [pc (p_l2Place (by omega) hk) rfl]; simp only [gV1_s, gI_i]
      rw [pc (p_l2Size hl' hk) rfl]; simp only [gV1_s, gI_i, vcase_b]
      rw [pc (p_l2Place (by omega) hi) rfl]; simp only [gV1_s, gI_i, vcase_b]
      rw [w64 (n := plc l i + siz l i) (by omega) (by omega), w64 (n := plc l k + siz l k) (by omega) (by omega)]
      by_cases h3 : plc l i + siz l i ≤ plc l k
      · rw [if_pos (by simpa using h3)]; simp [h3]
      · rw [if_neg (by simpa using h3)]; simp [h3]
    · rfl
  rw [pu_spec_l2Apart, pc (p_l2Size hl hi) rfl]
  simp only [gV1_s, gI_i, vcase_b]
  rw [pc (p_l2Size hl' hk) rfl]
  simp only [gV1_s, gI_i, j]
  unfold apartB
  by_cases h1 : siz l i = 0
  · rw [if_pos (by simpa using h1)]; exact ⟨_, rfl, by simp [h1]⟩
  rw [if_neg (by simpa using h1)]
  exact ⟨_, rfl, by simp [h1]⟩
theorem lp_l2Fault0 {n : Nat} {h : H} (hn : 2 + 2 * n ≤ l.length) (hn' : n < 1000) : ∀ k i : Nat, i + k = n →
    ((∀ j, i ≤ j → j < n → slotB l j) ∧ Lp.spec_l2Fault 0 [lv (bys l), iv .i64 n, iv .i64 i] h = some (.done [lv (bys l), iv .i64 n] h)) ∨
    ((∃ j, j < n ∧ ¬ slotB l j) ∧ Lp.spec_l2Fault 0 [lv (bys l), iv .i64 n, iv .i64 i] h = some (.ret (iv .i64 3) h)) := by
  intro k
  induction k with
  | zero =>
    intro i hi
    exact .inl ⟨fun j h1 h2 => by omega, by rw [eq_spec_l2Fault_l0, vcase_b, if_neg (by simp; omega), tidy_self]⟩
  | succ k ih =>
    intro i hi
    obtain ⟨b, e, hb⟩ := p_l2Slot (l := l) (i := i) (by omega) (by omega)
    rw [eq_spec_l2Fault_l0, vcase_b, if_pos (by simp; omega), pc e rfl]
    simp only [gV1_s, gB_b, vcase_b]
    cases b with
    | false => exact .inr ⟨⟨i, by omega, fun hh => by simpa using hb.2 hh⟩, rfl⟩
    | true =>
      rw [if_neg (by simp), w64 (by omega) (by omega), tidy_self, show (i : Int) + 1 = ((i + 1 : Nat) : Int) from by omega]
      rcases ih (i + 1) (by omega) with ⟨h1, h2⟩ | h1
      · refine .inl ⟨fun j hj1 hj2 => ?_, h2⟩
        by_cases hj : j = i
        · subst hj; exact hb.1 rfl
        · exact h1 j (by omega) hj2
      · exact .inr h1
theorem lp_l2Fault4 {n i : Nat} {h : H} (hn : 2 + 2 * n ≤ l.length) (hn' : n < 1000) (hi : i < n) : ∀ q k : Nat, k + q = i →
    ((∀ j, k ≤ j → j < i → apartB l i j) ∧ Lp.spec_l2Fault 4 [lv (bys l), iv .i64 n, iv .i64 i, iv .i64 k] h = some (.done [lv (bys l), iv .i64 n, iv .i64 i] h)) ∨
    ((∃ j, j < i ∧ ¬ apartB l i j) ∧ Lp.spec_l2Fault 4 [lv (bys l), iv .i64 n, iv .i64 i, iv .i64 k] h = some (.ret (iv .i64 8) h)) := by
  intro q
  induction q with
  | zero =>
    intro k hk
    exact .inl ⟨fun j h1 h2 => by omega, by rw [eq_spec_l2Fault_l4, vcase_b, if_neg (by simp; omega), tidy_self]⟩
  | succ q ih =>
    intro k hk
    obtain ⟨b, e, hb⟩ := p_l2Apart (l := l) (i := i) (k := k) (by omega) (by omega) (by omega) (by omega)
    rw [eq_spec_l2Fault_l4, vcase_b, if_pos (by simp; omega), pc e rfl]
    simp only [gV1_s, gB_b, vcase_b]
    cases b with
    | false => exact .inr ⟨⟨k, by omega, fun hh => by simpa using hb.2 hh⟩, rfl⟩
    | true =>
      rw [if_neg (by simp), w64 (by omega) (by omega), tidy_self, show (k : Int) + 1 = ((k + 1 : Nat) : Int) from by omega]
      rcases ih (k + 1) (by omega) with ⟨h1, h2⟩ | h1
      · refine .inl ⟨fun j hj1 hj2 => ?_, h2⟩
        by_cases hj : j = k
        · subst hj; exact hb.1 rfl
        · exact h1 j (by omega) hj2
      · exact .inr h1
theorem lp_l2Fault2 {n : Nat} {h : H} (hn : 2 + 2 * n ≤ l.length) (hn' : n < 1000) : ∀ q i : Nat, i + q = n →
    ((∀ j k, i ≤ j → j < n → k < j → apartB l j k) ∧ Lp.spec_l2Fault 2 [lv (bys l), iv .i64 n, iv .i64 i] h = some (.done [lv (bys l), iv .i64 n] h)) ∨
    ((∃ j k, j < n ∧ k < j ∧ ¬ apartB l j k) ∧ Lp.spec_l2Fault 2 [lv (bys l), iv .i64 n, iv .i64 i] h = some (.ret (iv .i64 8) h)) := by
  intro q
  induction q with
  | zero =>
    intro i hi
    exact .inl ⟨fun j k h1 h2 => by omega, by rw [eq_spec_l2Fault_l2, vcase_b, if_neg (by simp; omega), tidy_self]⟩
  | succ q ih =>
    intro i hi
    rw [eq_spec_l2Fault_l2, vcase_b, if_pos (by simp; omega), show iv .i64 0 = iv .i64 ((0 : Nat) : Int) from rfl]
    rcases lp_l2Fault4 (l := l) (h := h) hn hn' (i := i) (by omega) i 0 (by omega) with ⟨h1, h2⟩ | ⟨⟨j, h1, h1'⟩, h2⟩
    · rw [h2, ob, lcase_done]
      simp only [gx0, gx1, ob, gV1_s, gF_f, gI_i]
      rw [w64 (by omega) (by omega), tidy_self, show (i : Int) + 1 = ((i + 1 : Nat) : Int) from by omega]
      rcases ih (i + 1) (by omega) with ⟨g1, g2⟩ | g1
      · refine .inl ⟨fun j k hj1 hj2 hk => ?_, g2⟩
        by_cases hj : j = i
        · subst hj; exact h1 k (by omega) hk
        · exact g1 j k (by omega) hj2 hk
      · exact .inr g1
    · rw [h2, ob, lcase_ret]
      exact .inr ⟨⟨i, j, by omega, h1, h1'⟩, rfl⟩
theorem p_l2Fault : pureV (call Ev) Fn.spec_l2Fault [lv (bys l)] = some (iv .i64 (pagF l)) := by
  suffices hh : ∃ c, pureV (call Ev) Fn.spec_l2Fault [lv (bys l)] = some (iv .i64 c) ∧ PageIs l c by
    obtain ⟨c, e, hc⟩ := hh
    rw [e, hc.f]
  rw [pu_spec_l2Fault, vcase_b, bys_len]
  by_cases h64 : l.length = 64
  case neg => rw [if_pos (by simp; omega)]; exact ⟨_, rfl, .inl ⟨h64, rfl⟩⟩
  have b1 := bt_lt l 0
  have b2 := bt_nn l 0
  have hc := cnt_eq l
  rw [if_neg (by simp [h64]), pc (p_l2Count (by omega)) rfl]
  simp only [gV1_s, gI_i, vcase_b]
  by_cases g1 : bt l 0 ≤ 16
  case neg => rw [if_pos (by simp; omega)]; exact ⟨_, rfl, .inr (.inl ⟨h64, fun hh => g1 hh.1, rfl⟩)⟩
  have j0 : ∀ q, (q = true ∧ ¬ headB l ∨ q = false ∧ headB l) → ∃ c, Jn.spec_l2Fault_0 q (bys l) (bt l 0) = some (iv .i64 c) ∧ PageIs l c := by
    intro q hq
    unfold Jn.spec_l2Fault_0
    rw [vcase_b]
    rcases hq with ⟨rfl, hq⟩ | ⟨rfl, hd⟩
    · exact ⟨_, rfl, .inr (.inl ⟨h64, hq, rfl⟩)⟩
    have hd2 := hd
    obtain ⟨_, g2, g3⟩ := hd2
    rw [if_neg (by simp), ← hc, show iv .i64 0 = iv .i64 ((0 : Nat) : Int) from rfl]
    rcases lp_l2Fault0 (l := l) (h := D 0) (n := cnt l) (by omega) (by omega) (cnt l) 0 (by omega) with ⟨s1, s2⟩ | ⟨⟨j, s1, s1'⟩, s2⟩
    case inr => rw [s2, ob, lcase_ret]; exact ⟨_, frzV_s, .inr (.inr (.inl ⟨h64, hd, ⟨j, s1, s1'⟩, rfl⟩))⟩
    have s1' : ∀ i, i < cnt l → slotB l i := fun i hi => s1 i (Nat.zero_le _) hi
    rw [s2, ob, lcase_done]
    simp only [gx0, gx1, ob, gV1_s, gF_f, gI_i]
    rcases lp_l2Fault2 (l := l) (h := D 0) (n := cnt l) (by omega) (by omega) (cnt l) 0 (by omega) with ⟨t1, t2⟩ | ⟨⟨j, k, t1, t3, t1'⟩, t2⟩
    case inr => rw [t2, ob, lcase_ret]; exact ⟨_, frzV_s, .inr (.inr (.inr (.inl ⟨h64, hd, s1', ⟨j, k, t1, t3, t1'⟩, rfl⟩)))⟩
    have t1' : ∀ i k, i < cnt l → k < i → apartB l i k := fun i k hi hk => t1 i k (Nat.zero_le _) hi hk
    rw [t2, ob, lcase_done]
    simp only [gx0, gx1, ob, gV1_s, gF_f, gI_i, vcase_b]
    by_cases u : (0 : Int) < (cnt l : Int)
    case neg => rw [if_neg (by simp; omega)]; exact ⟨_, rfl, .inr (.inr (.inr (.inr (.inr ⟨h64, hd, s1', t1', fun hh => by omega, rfl⟩))))⟩
    rw [if_pos (by simpa using u), w64 (by omega) (by omega), show (cnt l : Int) - 1 = ((cnt l - 1 : Nat) : Int) from by omega, pc (p_l2Size (by omega) (by omega)) rfl]
    simp only [gV1_s, gI_i, vcase_b]
    by_cases u2 : siz l (cnt l - 1) = 0
    · rw [if_pos (by simpa using u2)]; exact ⟨_, rfl, .inr (.inr (.inr (.inr (.inl ⟨h64, hd, s1', t1', ⟨by omega, u2⟩, rfl⟩))))⟩
    · rw [if_neg (by simpa using u2)]; exact ⟨_, rfl, .inr (.inr (.inr (.inr (.inr ⟨h64, hd, s1', t1', fun hh => u2 hh.2, rfl⟩))))⟩
  rw [if_neg (by simpa using g1), pc (p_l2Low (by omega)) rfl]
  simp only [gV1_s, gI_i, vcase_b]
  rw [w64 (n := 2 * bt l 0) (by omega) (by omega), w64 (n := 2 + 2 * bt l 0) (by omega) (by omega)]
  by_cases g2 : 2 + 2 * bt l 0 ≤ bt l 1
  case neg => rw [if_pos (by simp; omega)]; exact j0 _ (.inl ⟨rfl, fun hh => g2 hh.2.1⟩)
  rw [if_neg (by simp; omega), pc (p_l2Low (by omega)) rfl]
  simp only [gV1_s, gI_i]
  refine j0 _ ?_
  by_cases g3 : bt l 1 ≤ 64
  · exact .inr ⟨by simpa using g3, g1, g2, g3⟩
  · exact .inl ⟨by simp; omega, fun hh => g3 hh.2.2⟩
theorem lp_PF0 {n : Nat} {h : H} (hn : 2 + 2 * n ≤ l.length) (hn' : n < 1000) : ∀ k i : Nat, i + k = n →
    ((∀ j, i ≤ j → j < n → slotB l j) ∧ Lp.impl_PageFault 0 [lv (bys l), iv .i64 n, iv .i64 (bt l 1), iv .i64 n, iv .i64 i] h = some (.done [lv (bys l), iv .i64 n] h)) ∨
    ((∃ j, j < n ∧ ¬ slotB l j) ∧ Lp.impl_PageFault 0 [lv (bys l), iv .i64 n, iv .i64 (bt l 1), iv .i64 n, iv .i64 i] h = some (.ret (iv .i64 3) h)) := by
  intro k
  induction k with
  | zero =>
    intro i hi
    exact .inl ⟨fun j h1 h2 => by omega, by rw [eq_impl_PageFault_l0, vcase_b, if_neg (by simp; omega), tidy_self]⟩
  | succ k ih =>
    intro i hi
    have q1 := pl_bd l i
    rw [eq_impl_PageFault_l0, vcase_b, if_pos (by simp; omega), pc (p_spot (by omega) (by omega)) rfl]
    simp only [gVT_t, gx0, gx1, ob, gA1_s, gI_i, ln0, ln1, Nat.zero_add, Nat.reduceAdd, if_true, vcase_b, tidy_self]
    rw [w64 (n := plc l i + siz l i) (by omega) (by omega), w64 (n := (i : Int) + 1) (by omega) (by omega), show (i : Int) + 1 = ((i + 1 : Nat) : Int) from by omega]
    have more : slotB l i → ((∀ j, i ≤ j → j < n → slotB l j) ∧ Lp.impl_PageFault 0 [lv (bys l), iv .i64 n, iv .i64 (bt l 1), iv .i64 n, iv .i64 ((i + 1 : Nat) : Int)] h = some (.done [lv (bys l), iv .i64 n] h)) ∨
        ((∃ j, j < n ∧ ¬ slotB l j) ∧ Lp.impl_PageFault 0 [lv (bys l), iv .i64 n, iv .i64 (bt l 1), iv .i64 n, iv .i64 ((i + 1 : Nat) : Int)] h = some (.ret (iv .i64 3) h)) := by
      intro hs
      rcases ih (i + 1) (by omega) with ⟨h1, h2⟩ | h1
      · refine .inl ⟨fun j hj1 hj2 => ?_, h2⟩
        by_cases hj : j = i
        · subst hj; exact hs
        · exact h1 j (by omega) hj2
      · exact .inr h1
    have bad : ¬ slotB l i → ∃ j, j < n ∧ ¬ slotB l j := fun hs => ⟨i, by omega, hs⟩
    unfold slotB at more bad
    by_cases hp : plc l i = 0
    · by_cases hs : siz l i = 0
      · rw [if_neg (by simp [hp, hs]), if_neg (by simp [hp]), if_neg (by simp [hp, hs])]
        exact more (by rw [if_pos (.inl hp)]; omega)
      · rw [if_pos (by simp [hp, hs])]
        exact .inr ⟨bad (by rw [if_pos (.inl hp)]; omega), rfl⟩
    · by_cases hs : siz l i = 0
      · rw [if_pos (by simp [hp, hs])]
        exact .inr ⟨bad (by rw [if_pos (.inr hs)]; omega), rfl⟩
      · rw [if_neg (by rw [show (plc l i == 0) = false from by simpa using hp, show (siz l i == 0) = false from by simpa using hs]; simp), if_pos (by simpa using hp)]
        by_cases hb : bt l 1 ≤ plc l i
        · rw [if_neg (by simpa using hb)]
          by_cases hz : plc l i + siz l i ≤ 64
          · rw [if_neg (by simpa using hz)]
            exact more (by rw [if_neg (by omega)]; omega)
          · rw [if_pos (by simp; omega)]
            exact .inr ⟨bad (by rw [if_neg (by omega)]; omega), rfl⟩
        · rw [if_pos (by simp; omega)]
          exact .inr ⟨bad (by rw [if_neg (by omega)]; omega), rfl⟩
end
def usedC (f : Nat → Bool) : List S := (List.range 64).map fun y => .bool (f y)
theorem usedC0 : usedC (fun _ => false) = [.bool false, .bool false, .bool false, .bool false, .bool false, .bool false, .bool false, .bool false, .bool false, .bool false, .bool false, .bool false, .bool false, .bool false, .bool false, .bool false, .bool false, .bool false, .bool false, .bool false, .bool false, .bool false, .bool false, .bool false, .bool false, .bool false, .bool false, .bool false, .bool false, .bool false, .bool false, .bool false, .bool false, .bool false, .bool false, .bool false, .bool false, .bool false, .bool false, .bool false, .bool false, .bool false, .bool false, .bool false, .bool false, .bool false, .bool false, .bool false, .bool false, .bool false, .bool false, .bool false, .bool false, .bool false, .bool false, .bool false, .bool false, .bool false, .bool false, .bool false, .bool false, .bool false, .bool false, .bool false] := by rfl
theorem usedC_get {f : Nat → Bool} {y : Nat} (h : y < 64) : (usedC f)[y]? = some (.bool (f y)) := by simp [usedC, h]
theorem usedC_set {f : Nat → Bool} {x : Nat} : (usedC f).set x (.bool true) = usedC fun y => if y = x then true else f y := by
  refine List.ext_getElem? fun y => ?_
  by_cases hy : y < 64
  · by_cases hx : y = x
    · subst hx
      rw [List.getElem?_set_self (by simp [usedC]; exact hy), usedC_get hy]; simp
    · rw [List.getElem?_set_ne (by omega), usedC_get hy, usedC_get hy]; simp [hx]
  · rw [List.getElem?_eq_none (by simp [usedC]; omega), List.getElem?_eq_none (by simp [usedC]; omega)]
theorem usedC_ext {f g : Nat → Bool} (h : ∀ y, y < 64 → f y = g y) : usedC f = usedC g := by
  unfold usedC
  exact List.map_congr_left fun y hy => by rw [h y (List.mem_range.1 hy)]
theorem idxA_of {len b : Nat} {k : IntKind} {x : Nat} (hx : x < len) : idxA len 1 (pv b 0) (iv k x) = some (pv b x) := by
  simp only [idxA]; rw [if_pos ⟨by omega, by omega⟩]; simp
/-- the heap with the bytes that are taken -/
structure Used (b : Nat) (h : H) (f : Nat → Bool) : Prop where
  n : b < h.n
  g : h.g b = .rw 0 (usedC f)
/-- only this block is another -/
def Oth (b : Nat) (h h' : H) : Prop := h'.n = h.n ∧ ∀ c, c ≠ b → h'.g c = h.g c ∧ h'.v c = h.v c
theorem Oth.refl (b : Nat) (h : H) : Oth b h h := ⟨rfl, fun _ _ => ⟨rfl, rfl⟩⟩
theorem Oth.trans {b : Nat} {h h' h'' : H} (x : Oth b h h') (y : Oth b h' h'') : Oth b h h'' := ⟨y.1.trans x.1, fun c hc => ⟨(y.2 c hc).1.trans (x.2 c hc).1, (y.2 c hc).2.trans (x.2 c hc).2⟩⟩
theorem Oth.put {b : Nat} {h : H} {x : Blk} : Oth b h (h.put b x) := ⟨rfl, fun c hc => by simp [H.put, hc]⟩
theorem Oth.tidy {b : Nat} {h h' : H} {l : List V} (x : Oth b h h') (hb : b < h.n) : tidy h l h' = h' := tidy_same' x.1 fun c hc => x.2 c (by omega)
where
  tidy_same' {h h' : H} {l : List V} (hn : h'.n = h.n) (hg : ∀ c, h.n ≤ c → h'.g c = h.g c ∧ h'.v c = h.v c) : Vm.tidy h l h' = h' := by
    unfold Vm.tidy
    split
    · obtain ⟨n', g', v'⟩ := h'
      simp only at hn
      subst hn
      simp only [H.mk.injEq, true_and]
      constructor <;> (funext b; split <;> first | rfl | (have := hg b (by omega); simp_all))
    · rfl
theorem ld_used {R : Type} {b x : Nat} {h : H} {f : Nat → Bool} {k : V → Option R} (u : Used b h f) (hx : x < 64) : ldK (.one (.b)) ⟨1, 1, [.bool false], false, .bool, false⟩ h (pv b x) k = k (bv (f x)) := by
  simp [ldK, ldT, load1, H.cells, u.n, u.g, Blk.cells, usedC_get hx]
theorem lp_PF4 {l : List UInt8} {b n i P Q : Nat} (hn : n < 1000) (hi : i < 1000) (hP : P + Q ≤ 64) : ∀ (q x : Nat) (f : Nat → Bool) (h : H), x + q = P + Q → Used b h f →
    ((∀ y, x ≤ y → y < P + Q → f y = false) ∧ ∃ h', Lp.impl_PageFault 4 [lv (bys l), iv .i64 n, pv b 0, iv .i64 P, iv .i64 Q, iv .i64 x, iv .i64 n, iv .i64 i] h =
      some (.done [lv (bys l), iv .i64 n, pv b 0, iv .i64 n, iv .i64 i] h') ∧ Oth b h h' ∧ Used b h' fun y => f y || (decide (x ≤ y) && decide (y < P + Q))) ∨
    ((∃ y, x ≤ y ∧ y < P + Q ∧ f y = true) ∧ ∃ h', Lp.impl_PageFault 4 [lv (bys l), iv .i64 n, pv b 0, iv .i64 P, iv .i64 Q, iv .i64 x, iv .i64 n, iv .i64 i] h = some (.ret (iv .i64 8) h')) := by
  intro q
  induction q with
  | zero =>
    intro x f h hx u
    refine .inl ⟨fun y h1 h2 => by omega, h, ?_, Oth.refl _ _, u.n, ?_⟩
    · rw [eq_impl_PageFault_l4, w64 (n := (P : Int) + Q) (by omega) (by omega), vcase_b, if_neg (by simp; omega), tidy_self]
    · rw [u.g]
      congr 1
      exact usedC_ext fun y hy => by
        have : (decide (x ≤ y) && decide (y < P + Q)) = false := by simp; omega
        rw [this]; simp
  | succ q ih =>
    intro x f h hx u
    rw [eq_impl_PageFault_l4, w64 (n := (P : Int) + Q) (by omega) (by omega), vcase_b, if_pos (by simp; omega), idxA_of (by omega), ob, ld_used u (by omega)]
    simp only [gV1_s, gB_b, vcase_b]
    by_cases hf : f x = true
    · rw [if_pos hf]
      exact .inr ⟨⟨x, Nat.le_refl _, by omega, hf⟩, h, rfl⟩
    · rw [if_neg hf, ob, stK_rw (z := 1) (e := 0) (cs := usedC f) (r := [.bool true]) u.n u.g (.inl ⟨_, rfl, rfl, rfl⟩) rfl (by simp [usedC]; omega)]
      have e2 : setAt (usedC f) x [.bool true] = usedC fun y => if y = x then true else f y := by
        rw [← usedC_set]
        unfold setAt
        rw [List.set_eq_take_append_cons_drop, if_pos (by simp [usedC]; omega)]
        simp
      rw [e2, tidy_put u.n, w64 (by omega) (by omega), show (x : Int) + 1 = ((x + 1 : Nat) : Int) from by omega]
      have u2 : Used b (h.put b (.rw 0 (usedC fun y => if y = x then true else f y))) (fun y => if y = x then true else f y) := ⟨u.n, put_g _ _ _⟩
      rcases ih (x + 1) _ _ (by omega) u2 with ⟨h1, h', h2, h3, h4⟩ | ⟨⟨y, h1, h2, h3⟩, h', h4⟩
      · refine .inl ⟨fun y hy1 hy2 => ?_, h', h2, Oth.put.trans h3, h4.n, ?_⟩
        · by_cases hy : y = x
          · subst hy; simpa using hf
          · have := h1 y (by omega) hy2; simpa [hy] using this
        · rw [h4.g]
          congr 1
          exact usedC_ext fun y hy => by
            by_cases hyx : y = x
            · subst hyx; simp; omega
            · simp only [if_neg hyx]
              congr 2
              simp; omega
      · refine .inr ⟨⟨y, by omega, h2, ?_⟩, h', h4⟩
        have hy : y ≠ x := by omega
        simpa [hy] using h3
/-- a cell covers a byte -/
def cov (l : List UInt8) (j y : Nat) : Prop := plc l j ≤ y ∧ (y : Int) < plc l j + siz l j
section
variable {l : List UInt8}
theorem lp_PF2 {b n : Nat} (hn : 2 + 2 * n ≤ l.length) (hn' : n < 1000) (hs : ∀ j, j < n → slotB l j) : ∀ (q i : Nat) (f : Nat → Bool) (h : H), i + q = n → Used b h f → (∀ y, y < 64 → (f y = true ↔ ∃ j, j < i ∧ cov l j y)) →
    ((∀ j k, i ≤ j → j < n → k < j → apartB l j k) ∧ ∃ h', Lp.impl_PageFault 2 [lv (bys l), iv .i64 n, pv b 0, iv .i64 n, iv .i64 i] h = some (.done [lv (bys l), iv .i64 n] h')) ∨
    ((∃ j k, j < n ∧ k < j ∧ ¬ apartB l j k) ∧ ∃ h', Lp.impl_PageFault 2 [lv (bys l), iv .i64 n, pv b 0, iv .i64 n, iv .i64 i] h = some (.ret (iv .i64 8) h')) := by
  intro q
  induction q with
  | zero =>
    intro i f h hi u hf
    exact .inl ⟨fun j k h1 h2 => by omega, _, by rw [eq_impl_PageFault_l2, vcase_b, if_neg (by simp; omega)]⟩
  | succ q ih =>
    intro i f h hi u hf
    have q1 := pl_bd l i
    have hsl := hs i (by omega)
    have hPQ : plc l i + siz l i ≤ 64 := by
      unfold slotB at hsl
      split at hsl <;> omega
    obtain ⟨P, hP⟩ : ∃ P : Nat, plc l i = P := ⟨(plc l i).toNat, by omega⟩
    obtain ⟨Q, hQ⟩ : ∃ Q : Nat, siz l i = Q := ⟨(siz l i).toNat, by omega⟩
    rw [eq_impl_PageFault_l2, vcase_b, if_pos (by simp; omega), pc (p_spot (by omega) (by omega)) rfl]
    simp only [gVT_t, gx0, gx1, ob, gA1_s, gI_i, ln0, ln1, Nat.zero_add, Nat.reduceAdd, if_true, hP, hQ]
    rcases lp_PF4 (l := l) (b := b) (n := n) (i := i) (P := P) (Q := Q) hn' (by omega) (by omega) Q P f h rfl u with ⟨h1, h', h2, h3, h4⟩ | ⟨⟨y, h1, h2, h3⟩, h', h4⟩
    · rw [h2, ob, lcase_done]
      simp only [gx0, gx1, ob, gV1_s, gF_f, gI_i]
      rw [w64 (by omega) (by omega), show (i : Int) + 1 = ((i + 1 : Nat) : Int) from by omega, h3.tidy u.n]
      have ap : ∀ j, j < i → apartB l i j := by
        intro j hj
        apply Classical.byContradiction
        intro hna
        unfold apartB at hna
        simp only [not_or] at hna
        have q2 := pl_bd l j
        have hj' := hs j (by omega)
        have hPQ' : plc l j + siz l j ≤ 64 := by
          unfold slotB at hj'
          split at hj' <;> omega
        obtain ⟨P', hP'⟩ : ∃ P : Nat, plc l j = P := ⟨(plc l j).toNat, by omega⟩
        have hy := h1 (max P P') (by omega) (by omega)
        have := (hf (max P P') (by omega)).2 ⟨j, hj, by unfold cov; omega⟩
        rw [hy] at this; cases this
      have ch : ∀ y, y < 64 → ((f y || (decide (P ≤ y) && decide (y < P + Q))) = true ↔ ∃ j, j < i + 1 ∧ cov l j y) := by
        intro y hy
        simp only [Bool.or_eq_true, Bool.and_eq_true, decide_eq_true_eq]
        constructor
        · rintro (hh | hh)
          · obtain ⟨j, hj, hc⟩ := (hf y hy).1 hh; exact ⟨j, by omega, hc⟩
          · exact ⟨i, by omega, by unfold cov; omega⟩
        · rintro ⟨j, hj, hc⟩
          by_cases hji : j = i
          · subst hji; right; unfold cov at hc; omega
          · left; exact (hf y hy).2 ⟨j, by omega, hc⟩
      rcases ih (i + 1) _ _ (by omega) h4 ch with ⟨g1, h'', g2⟩ | ⟨g1, h'', g2⟩
      · refine .inl ⟨fun j k hj1 hj2 hk => ?_, h'', g2⟩
        by_cases hj : j = i
        · subst hj; exact ap k hk
        · exact g1 j k (by omega) hj2 hk
      · exact .inr ⟨g1, h'', g2⟩
    · rw [h4, ob, lcase_ret]
      obtain ⟨j, hj, hc⟩ := (hf y (by omega)).1 h3
      refine .inr ⟨⟨i, j, by omega, hj, ?_⟩, h', rfl⟩
      unfold cov at hc; unfold apartB
      omega
theorem p_PageFault : pureV (call Ev) Fn.impl_PageFault [lv (bys l)] = some (iv .i64 (pagF l)) := by
  suffices hh : ∃ c, pureV (call Ev) Fn.impl_PageFault [lv (bys l)] = some (iv .i64 c) ∧ PageIs l c by
    obtain ⟨c, e, hc⟩ := hh
    rw [e, hc.f]
  rw [pu_impl_PageFault, vcase_b, bys_len]
  by_cases h64 : l.length = 64
  case neg => rw [if_pos (by simp; omega)]; exact ⟨_, rfl, .inl ⟨h64, rfl⟩⟩
  have b1 := bt_lt l 0
  have b2 := bt_nn l 0
  have b3 := bt_lt l 1
  have b4 := bt_nn l 1
  have hc := cnt_eq l
  rw [if_neg (by simp [h64]), idxF_by (by omega) (by omega)]
  simp only [gx0, ob, gI_i, w64bt]
  rw [pc (p_slots (by omega)) rfl]
  simp only [gV1_s, gI_i, hchk_self, vcase_b]
  by_cases g1 : bt l 0 ≤ 16
  case neg => rw [if_pos (by simp; omega)]; exact ⟨_, rfl, .inr (.inl ⟨h64, fun hh => g1 hh.1, rfl⟩)⟩
  have j0 : ∀ q, (q = true ∧ ¬ headB l ∨ q = false ∧ headB l) → ∃ c, Jn.impl_PageFault_0 q (bys l) (bt l 0) (bt l 1) = some (iv .i64 c) ∧ PageIs l c := by
    intro q hq
    unfold Jn.impl_PageFault_0
    rw [vcase_b]
    rcases hq with ⟨rfl, hq⟩ | ⟨rfl, hd⟩
    · exact ⟨_, rfl, .inr (.inl ⟨h64, hq, rfl⟩)⟩
    have hd2 := hd
    obtain ⟨_, g2, g3⟩ := hd2
    rw [if_neg (by simp), w64bt, ← hc, show iv .i64 0 = iv .i64 ((0 : Nat) : Int) from rfl]
    rcases lp_PF0 (l := l) (h := D 0) (n := cnt l) (by omega) (by omega) (cnt l) 0 (by omega) with ⟨s1, s2⟩ | ⟨⟨j, s1, s1'⟩, s2⟩
    case inr => rw [s2, ob, lcase_ret]; exact ⟨_, frzV_s, .inr (.inr (.inl ⟨h64, hd, ⟨j, s1, s1'⟩, rfl⟩))⟩
    have s1' : ∀ i, i < cnt l → slotB l i := fun i hi => s1 i (Nat.zero_le _) hi
    rw [s2, ob, lcase_done]
    simp only [gx0, gx1, ob, gV1_s, gF_f, gI_i]
    rw [← usedC0]
    rcases lp_PF2 (l := l) (b := (D 0).n) (n := cnt l) (by omega) (by omega) s1' (cnt l) 0 (fun _ => false) ((D 0).new 0 (usedC fun _ => false)) (by omega) ⟨by simp, new_g _ _ _⟩ (fun y hy => by simp) with ⟨t1, h', t2⟩ | ⟨⟨j, k, t1, t3, t1'⟩, h', t2⟩
    case inr => rw [t2, ob, lcase_ret]; exact ⟨_, frzV_s, .inr (.inr (.inr (.inl ⟨h64, hd, s1', ⟨j, k, t1, t3, t1'⟩, rfl⟩)))⟩
    have t1' : ∀ i k, i < cnt l → k < i → apartB l i k := fun i k hi hk => t1 i k (Nat.zero_le _) hi hk
    rw [t2, ob, lcase_done]
    simp only [gx0, gx1, ob, gV1_s, gF_f, gI_i, vcase_b]
    by_cases u : (0 : Int) < (cnt l : Int)
    case neg => rw [if_neg (by simp; omega)]; exact ⟨_, rfl, .inr (.inr (.inr (.inr (.inr ⟨h64, hd, s1', t1', fun hh => by omega, rfl⟩))))⟩
    rw [if_pos (by simpa using u), w64 (n := 2 * (cnt l : Int)) (by omega) (by omega), w64 (by omega) (by omega), idxF_by (by omega) (by omega)]
    have hz : bt l (2 * (cnt l : Int) + 1) = siz l (cnt l - 1) := by unfold siz; congr 1; omega
    simp only [gx0, ob, gI_i, hz, vcase_b]
    by_cases u2 : siz l (cnt l - 1) = 0
    · rw [if_pos (by simpa using u2)]; exact ⟨_, rfl, .inr (.inr (.inr (.inr (.inl ⟨h64, hd, s1', t1', ⟨by omega, u2⟩, rfl⟩))))⟩
    · rw [if_neg (by simpa using u2)]; exact ⟨_, rfl, .inr (.inr (.inr (.inr (.inr ⟨h64, hd, s1', t1', fun hh => u2 hh.2, rfl⟩))))⟩
  rw [if_neg (by simpa using g1), w64 (n := 2 * bt l 0) (by omega) (by omega), w64 (n := 2 + 2 * bt l 0) (by omega) (by omega)]
  by_cases g2 : 2 + 2 * bt l 0 ≤ bt l 1
  case neg => rw [if_pos (by simp; omega)]; exact j0 _ (.inl ⟨rfl, fun hh => g2 hh.2.1⟩)
  rw [if_neg (by simp; omega)]
  refine j0 _ ?_
  by_cases g3 : bt l 1 ≤ 64
  · exact .inr ⟨by simpa using g3, g1, g2, g3⟩
  · exact .inl ⟨by simp; omega, fun hh => g3 hh.2.2⟩
end
end Vm
/-
  A slice of seen rows being sorted: the kit's plain sort, and how the memory follows it.
-/
namespace Vm
open Go Go.Sort
structure SeenD where
  r : RowD
  page : Int
  slot : Int
  moved : Bool
  at_ : Int
  place : Int
abbrev SeenD.cs (x : SeenD) : List S := [.int .i64 x.r.tab, .int .i64 x.r.key, .int .i64 x.r.val, .str x.r.text, .int .i64 x.page, .int .i64 x.slot, .bool x.moved, .int .i64 x.at_, .int .i64 x.place]
instance : Inhabited SeenD := ⟨⟨⟨0, 0, 0, ⟨#[]⟩⟩, 0, 0, false, 0, 0⟩⟩
/-- is the row of the one before the row of the other? -/
def ltS (x y : SeenD) : Bool := befB x.r y.r
def ordI (x y : SeenD) : Int := if befB x.r y.r then -1 else if befB y.r x.r then 1 else 0
theorem ordI_lt (x y : SeenD) : decide (ordI x y < 0) = ltS x y := by
  unfold ordI ltS
  cases h1 : befB x.r y.r
  · cases h2 : befB y.r x.r <;> simp
  · simp
theorem swo_ltS : SWO ltS where
  irrefl x := by unfold ltS befB; simp
  trans x y z h1 h2 := by
    unfold ltS befB at *
    simp only [Bool.or_eq_true, Bool.and_eq_true, decide_eq_true_eq] at *
    omega
  ntrans x y z h1 h2 := by
    unfold ltS befB at *
    simp only [Bool.or_eq_false_iff, Bool.and_eq_false_iff, decide_eq_false_iff_not] at *
    omega
theorem p_order (a b : RowD) : pureV (call Ev) Fn.impl_order [.agg a.cs, .agg b.cs] = some (iv .i64 (if befB a b then -1 else if befB b a then 1 else 0)) := by
  have e := pu_impl_order a.tab a.key a.val a.text b.tab b.key b.val b.text
  refine Eq.trans e ?_
  rw [show ([.agg [.int .i64 a.tab, .int .i64 a.key, .int .i64 a.val, .str a.text], .agg [.int .i64 b.tab, .int .i64 b.key, .int .i64 b.val, .str b.text]] : List V) = [.agg a.cs, .agg b.cs] from rfl, show ([.agg [.int .i64 b.tab, .int .i64 b.key, .int .i64 b.val, .str b.text], .agg [.int .i64 a.tab, .int .i64 a.key, .int .i64 a.val, .str a.text]] : List V) = [.agg b.cs, .agg a.cs] from rfl, pc (p_IsBefore a b) rfl]
  simp only [gV1_s, gB_b]
  rw [vcase_b]
  cases befB a b
  · rw [if_neg (by simp), pc (p_IsBefore b a) rfl]
    simp only [gV1_s, gB_b]
    rw [vcase_b]
    cases befB b a
    · rfl
    · rfl
  · rfl
theorem p_look1 (x y : SeenD) : pureV (call Ev) Fn.impl_look_1 [.agg x.cs, .agg y.cs] = some (iv .i64 (ordI x y)) := by
  have e := pu_impl_look_1 x.r.tab x.r.key x.r.val x.r.text x.page x.slot x.moved x.at_ x.place y.r.tab y.r.key y.r.val y.r.text y.page y.slot y.moved y.at_ y.place
  refine Eq.trans e ?_
  rw [show ([.agg [.int .i64 x.r.tab, .int .i64 x.r.key, .int .i64 x.r.val, .str x.r.text], .agg [.int .i64 y.r.tab, .int .i64 y.r.key, .int .i64 y.r.val, .str y.r.text]] : List V) = [.agg x.r.cs, .agg y.r.cs] from rfl, pc (p_order x.r y.r) rfl]
  simp only [gV1_s, gI_i]
  rfl
/-! the memory -/
structure Hs (h : H) (b : Nat) (d : Array SeenD) : Prop where
  n : b < h.n
  g : h.g b = .rw 9 (d.toList.map SeenD.cs).flatten
theorem cs9 (x : SeenD) : x.cs.length = 9 := rfl
theorem flat9 (l : List SeenD) : (l.map SeenD.cs).flatten.length = l.length * 9 := by
  induction l with
  | nil => rfl
  | cons x l ih =>
    show (x.cs ++ (l.map SeenD.cs).flatten).length = (l.length + 1) * 9
    rw [List.length_append, ih, cs9]; omega
theorem take9 : ∀ (l : List SeenD) (i : Nat) (x : SeenD), l[i]? = some x → (((l.map SeenD.cs).flatten).drop (i * 9)).take 9 = x.cs
  | [], i, x, h => by simp at h
  | y :: l, 0, x, h => by
    simp at h; subst h
    simp only [List.map_cons, List.flatten_cons, Nat.zero_mul, List.drop_zero]
    exact List.take_left' rfl
  | y :: l, i + 1, x, h => by
    simp only [List.map_cons, List.flatten_cons]
    rw [show (i + 1) * 9 = y.cs.length + i * 9 from by rw [cs9]; omega, List.drop_append, List.drop_of_length_le (by omega), List.nil_append, show y.cs.length + i * 9 - y.cs.length = i * 9 from by omega]
    exact take9 l i x (by simpa using h)
theorem set9 : ∀ (l : List SeenD) (i : Nat) (x : SeenD), i < l.length → setAt ((l.map SeenD.cs).flatten) (i * 9) x.cs = ((l.set i x).map SeenD.cs).flatten
  | [], i, x, h => by simp at h
  | y :: l, 0, x, h => by
    have := setAt_at (A := []) (B := y.cs ++ (l.map SeenD.cs).flatten) (r := x.cs) (o := 0) (z := 9) rfl rfl
    simp only [List.nil_append] at this
    simp only [List.map_cons, List.flatten_cons, Nat.zero_mul, List.set_cons_zero]
    rw [this]
    exact congrArg (x.cs ++ ·) (List.drop_left' rfl)
  | y :: l, i + 1, x, h => by
    have ih := set9 l i x (by simpa using h)
    simp only [List.map_cons, List.flatten_cons, List.set_cons_succ]
    rw [← ih]
    unfold setAt
    rw [show (i + 1) * 9 = y.cs.length + i * 9 from by rw [cs9]; omega, List.take_append, List.take_of_length_le (by omega), show y.cs.length + i * 9 - y.cs.length = i * 9 from by omega, List.append_assoc, List.append_assoc, Nat.add_assoc, List.drop_append, List.drop_of_length_le (by omega), List.nil_append, show y.cs.length + (i * 9 + x.cs.length) - y.cs.length = i * 9 + x.cs.length from by omega, List.append_assoc]
theorem Hs.ld {R : Type} {h : H} {b i n : Nat} {d : Array SeenD} {t : VT} {w : Nat} {zz : List S} {dd : TD} {bb : Bool} {kd : IntKind} {f : V → Option R} (hs : Hs h b d) (hn : n = d.size) (hi : i < d.size) :
    (idxK 9 (sv b 0 n) (iv kd (i : Int)) fun v => ldK t ⟨9, w, zz, true, dd, bb⟩ h v f) = f (.agg d[i]!.cs) := by
  subst hn
  rw [idxK_sv hi]
  have e : d.toList[i]? = some d[i]! := by
    rw [Array.getElem?_toList, Array.getElem?_eq_getElem hi, getElem!_pos d i hi]
  show ldT _ h (pv b (i * 9)) f = _
  unfold ldT
  simp only [cond_true]
  rw [loadN_rw hs.n hs.g (by rw [flat9, Array.length_toList]; omega), ob, take9 _ _ _ e]
theorem Hs.st {R : Type} {h : H} {b i n : Nat} {d : Array SeenD} {x : SeenD} {kd : IntKind} {f : H → Option R} (hs : Hs h b d) (hn : n = d.size) (hi : i < d.size) :
    (idxK 9 (sv b 0 n) (iv kd (i : Int)) fun v => stK 9 h v (.agg x.cs) f) = f (h.put b (.rw 9 ((d.setIfInBounds i x).toList.map SeenD.cs).flatten)) := by
  subst hn
  rw [idxK_sv hi]
  rw [stK_rw (z := 9) (e := 9) (o := i * 9) (v := .agg x.cs) (r := x.cs) hs.n hs.g (.inr rfl) rfl (by rw [flat9, Array.length_toList]; omega)]
  rw [set9 _ _ _ (by simpa using hi), Array.toList_setIfInBounds]
theorem Hs.put {h : H} {b : Nat} {d : Array SeenD} (hb : b < h.n) : Hs (h.put b (.rw 9 (d.toList.map SeenD.cs).flatten)) b d := ⟨by rw [put_n]; exact hb, put_g _ _ _⟩
/-- a row read, with all its fields -/
theorem Hs.ldG {R : Type} {h : H} {b i n : Nat} {d : Array SeenD} {t : VT} {w : Nat} {zz : List S} {dd : TD} {bb : Bool} {kd : IntKind} {k : V → V → Int → Int → Int → ByteArray → Int → Int → Bool → Int → Int → Option R} (hs : Hs h b d) (hn : n = d.size) (hi : i < d.size) :
    (idxK 9 (sv b 0 n) (iv kd (i : Int)) fun v => ldK t ⟨9, w, zz, true, dd, bb⟩ h v fun u => gVA u fun c => (c[0]?).bind fun x0 => gI .i64 x0 fun i0 => (c[1]?).bind fun x1 => gI .i64 x1 fun i1 => (c[2]?).bind fun x2 => gI .i64 x2 fun i2 => (c[3]?).bind fun x3 => gS x3 fun i3 => (c[4]?).bind fun x4 => gI .i64 x4 fun i4 => (c[5]?).bind fun x5 => gI .i64 x5 fun i5 => (c[6]?).bind fun x6 => gB x6 fun i6 => (c[7]?).bind fun x7 => gI .i64 x7 fun i7 => (c[8]?).bind fun x8 => gI .i64 x8 fun i8 => if c.length = 9 then k v u i0 i1 i2 i3 i4 i5 i6 i7 i8 else none) = k (pv b (i * 9)) (.agg d[i]!.cs) d[i]!.r.tab d[i]!.r.key d[i]!.r.val d[i]!.r.text d[i]!.page d[i]!.slot d[i]!.moved d[i]!.at_ d[i]!.place := by
  have e : d.toList[i]? = some d[i]! := by
    rw [Array.getElem?_toList, Array.getElem?_eq_getElem hi, getElem!_pos d i hi]
  subst hn
  rw [idxK_sv hi]
  have e1 : ∀ (f : V → Option R), ldK t ⟨9, w, zz, true, dd, bb⟩ h (pv b (i * 9)) f = f (.agg d[i]!.cs) := fun f => by
    show ldT _ h (pv b (i * 9)) f = _
    unfold ldT
    simp only [cond_true]
    rw [loadN_rw hs.n hs.g (by rw [flat9, Array.length_toList]; omega), ob, take9 _ _ _ e]
  rw [e1]
  rfl
/-- two rows written -/
theorem Hs.st2 {h : H} {b i j n : Nat} {d : Array SeenD} {x y : SeenD} (hs : Hs h b d) (hn : n = d.size) (hi : i < d.size) (hj : j < d.size) :
    ∃ h', (∀ (R : Type) (k1 k2 : IntKind) (f : H → Option R), (idxK 9 (sv b 0 n) (iv k1 (i : Int)) fun v => stK 9 h v (.agg x.cs) fun h1 => idxK 9 (sv b 0 n) (iv k2 (j : Int)) fun v' => stK 9 h1 v' (.agg y.cs) f) = f h') ∧ Hs h' b ((d.setIfInBounds i x).setIfInBounds j y) ∧ Oth b h h' := by
  have h1 : Hs (h.put b (.rw 9 ((d.setIfInBounds i x).toList.map SeenD.cs).flatten)) b (d.setIfInBounds i x) := Hs.put hs.n
  refine ⟨_, fun R k1 k2 f => ?_, Hs.put (d := (d.setIfInBounds i x).setIfInBounds j y) h1.n, Oth.put.trans Oth.put⟩
  rw [hs.st (x := x) hn hi, h1.st (x := y) (by simpa using hn) (by simpa using hj)]
end Vm
/-
  A copy of bytes, as a call whose answer is new.
-/
namespace Vm
open Go

/-- an answer of new bytes that lie in a block -/
structure NewA (n : Nat) (h : H) (v : V) (l : List UInt8) : Prop where
  own : BysW h v l n
  le : h.n = n + 1
theorem NewA.nofz {n : Nat} {h : H} {v : V} {l : List UInt8} (w : NewA n h v l) : NoFz n (v, h) := by
  refine nofz_of ?_ fun b h1 h2 s hs => ?_
  · rw [w.own.v]; rfl
  · have : b = n := by have := w.le; omega
    subst this
    rw [w.own.g] at hs
    obtain ⟨c, _, rfl⟩ := List.mem_map.1 hs
    rfl
theorem f_toByteS {l : List UInt8} (hl : l.length ≤ lim) (n : Nat) : ∃ v h', call Ev Fn.laws_toByteS [lv (bys l)] (D n) = some (v, h') ∧ NewA n h' v l := by
  have hl' := hl
  unfold lim at hl'
  rw [eq_laws_toByteS, bys_len, mkSl_of (z := 1) (zero := [.int .u8 0]) hl (by omega) rfl, ob]
  obtain ⟨h', e1, e2, e3, e4⟩ := fill_rows (z := 1) (n := l.length) (b := n) (rows := bys l) (L := fun i h => Lp.laws_toByteS 0 [lv (bys l), sv n 0 l.length, iv .i64 i] h) (fin := [sv n 0 l.length]) (by simp) bys_row
    (fun i h r hr hi hb => by
      rw [bys_get hi] at hr; cases hr
      refine ⟨iv .u8 (bt l i), [lv (bys l), sv n 0 l.length, iv .i64 ((i + 1 : Nat) : Int)], .inl ⟨_, rfl, rfl, rfl⟩, ?_⟩
      show Lp.laws_toByteS 0 _ h = _
      rw [eq_laws_toByteS_l0, vcase_b, if_pos (by simp; omega), idxF_by (by omega) (by omega)]
      simp only [gx0, ob, gI_i]
      rw [idxK_sv hi, w64 (by omega) (by omega), show (i : Int) + 1 = ((i + 1 : Nat) : Int) from by omega])
    (fun h => by
      show Lp.laws_toByteS 0 _ h = _
      rw [eq_laws_toByteS_l0, vcase_b, if_neg (by simp), tidy_self])
    ((D n).new 1 ((List.replicate l.length [.int .u8 0]).flatten)) _ (by simp) (by exact new_g (D n) _ _) (repl_len rfl)
  rw [D_n, e1]
  simp only [ob, lcase_done, gx0]
  exact ⟨_, _, rfl, ⟨rfl, by rw [e2]; simp, by rw [e3, bys_flat]⟩, by rw [e2]; simp⟩
end Vm
/-
  Bytes appended and copied; results of a code and bytes: compared, marked, found again.
-/
namespace Vm
open Go

theorem cellsS_by {h : H} {m : List UInt8} : cellsS 1 h (lv (bys m)) = some (m.map cell8) := by
  simp only [cellsS, if_pos (show ∀ r ∈ bys m, r.length = 1 from bys_row), bys_flat]
theorem cellsS_w {h : H} {v : V} {l : List UInt8} {b : Nat} (w : BysW h v l b) : cellsS 1 h v = some (l.map cell8) := by
  have hc : h.cells b = l.map cell8 := by unfold H.cells; rw [if_pos w.n, w.g]; rfl
  rw [w.v]
  simp only [cellsS, hc]
  rw [if_pos ⟨w.n, by simp⟩, List.drop_zero, List.take_of_length_le (by simp)]
/-- bytes behind bytes that are one's own -/
theorem app_by {h : H} {v : V} {l m : List UInt8} {b : Nat} (w : BysW h v l b) (hm : l.length + m.length ≤ lim) :
    appS 1 h v (lv (bys m)) = some (sv h.n 0 (l ++ m).length, (h.put b .dead).new 1 ((l ++ m).map cell8)) := by
  have h1 := cellsS_w w
  obtain ⟨rfl, w2, w3⟩ := w
  simp only [appS, h1, cellsS_by, Option.bind_some, lenS, bys_len]
  rw [if_pos ⟨w2, hm, by omega⟩, w3]
  simp
/-- the copy of bytes that begins with nothing -/
theorem app_nil {h : H} {m : List UInt8} (hm : m.length ≤ lim) : appS 1 (h.new 1 []) (sv h.n 0 0) (lv (bys m)) = some (sv (h.n + 1) 0 m.length, ((h.new 1 []).put h.n .dead).new 1 (m.map cell8)) := by
  have := app_by (h := h.new 1 []) (v := sv h.n 0 0) (l := []) (m := m) (b := h.n) ⟨rfl, by simp, by simp⟩ (by simpa using hm)
  simpa using this
end Vm
/-
  What stands in a slot.
-/
namespace Vm
open Go

/-- is there something in this slot? -/
def hasB (l : List UInt8) (i : Int) : Bool := decide (0 ≤ i) && (decide (i < bt l 0) && siz l i.toNat != 0)
theorem hasB_nat {l : List UInt8} {i : Int} (h : hasB l i = true) : ∃ k : Nat, i = k ∧ k < cnt l ∧ siz l k ≠ 0 := by
  simp only [hasB, Bool.and_eq_true, decide_eq_true_eq, bne_iff_ne, ne_eq] at h
  have := cnt_eq l
  exact ⟨i.toNat, by omega, by omega, h.2.2⟩
section
variable {l : List UInt8} (hp : pagF l = 0)
include hp
theorem p_l2Has {i : Int} (h1 : -9223372036854775808 ≤ i) (h2 : i < 9223372036854775808) : pureV (call Ev) Fn.spec_l2Has [lv (bys l), iv .i64 i] = some (bv (hasB l i)) := by
  obtain ⟨h64, ⟨g1, g2, g3⟩, _⟩ := pagF_ok hp
  have b2 := bt_nn l 0
  rw [pu_spec_l2Has, pc (p_l2Count (by omega)) rfl]
  simp only [gV1_s, gI_i]
  rw [w64 (by omega) (by omega), pc (p_l1In _ _ _) rfl]
  simp only [gV1_s, gB_b, vcase_b]
  unfold hasB
  by_cases hi : inB i 0 (bt l 0 - 1) = true
  · have hi' := inB_iff.1 hi
    obtain ⟨k, rfl⟩ : ∃ k : Nat, i = k := ⟨i.toNat, by omega⟩
    rw [if_pos hi, pc (p_l2Size (by omega) (by omega)) rfl]
    have := (pl_bd l k).2.2.1
    simp only [gV1_s, gI_i]
    congr 2
    rw [show decide ((0 : Int) ≤ (k : Int)) = true from by simp, show decide ((k : Int) < bt l 0) = true from by simp; omega]
    simp only [Bool.true_and, Int.toNat_natCast]
    rw [show decide (siz l k > 0) = (siz l k != 0) from by rw [Bool.eq_iff_iff]; simp; omega]
  · rw [if_neg hi]
    have : ¬ (0 ≤ i ∧ i ≤ bt l 0 - 1) := fun hh => hi (inB_iff.2 hh)
    congr 2
    by_cases h0 : 0 ≤ i
    · rw [show decide (i < bt l 0) = false from by simp; omega]; simp
    · rw [show decide (0 ≤ i) = false from by simp; omega]; simp
theorem p_hasSlot {i : Int} : pureV (call Ev) Fn.impl_hasSlot [lv (bys l), iv .i64 i] = some (bv (hasB l i)) := by
  obtain ⟨h64, ⟨g1, g2, g3⟩, _⟩ := pagF_ok hp
  have b2 := bt_nn l 0
  rw [pu_impl_hasSlot, vcase_b]
  unfold hasB
  by_cases h0 : 0 ≤ i
  case neg => rw [if_neg (by simpa using h0)]; simp [h0]
  rw [if_pos (by simpa using h0), pc (p_slots (by omega)) rfl]
  simp only [gV1_s, gI_i, vcase_b]
  by_cases h1 : i < bt l 0
  case neg => rw [if_neg (by simpa using h1)]; simp [h0, h1]
  rw [if_pos (by simpa using h1)]
  obtain ⟨k, rfl⟩ : ∃ k : Nat, i = k := ⟨i.toNat, by omega⟩
  rw [w64 (n := 2 * (k : Int)) (by omega) (by omega), w64 (by omega) (by omega), idxF_by (by omega) (by omega)]
  simp only [gx0, ob, gI_i]
  have : bt l (3 + 2 * (k : Int)) = siz l k := by unfold siz; congr 1
  rw [this]
  simp [h1]
/-- the bytes of a cell -/
def cellB (l : List UInt8) (k : Nat) : List UInt8 := (l.take (plc l k + siz l k).toNat).drop (plc l k).toNat
theorem slot_bd {k : Nat} (hk : k < cnt l) : 0 ≤ plc l k ∧ 0 ≤ siz l k ∧ plc l k + siz l k ≤ 64 ∧ 3 + 2 * k < l.length ∧ k < 1000 := by
  obtain ⟨h64, ⟨g1, g2, g3⟩, h3, _⟩ := pagF_ok hp
  have hc := cnt_eq l
  have q := pl_bd l k
  have hs := h3 k hk
  unfold slotB at hs
  refine ⟨q.1, q.2.2.1, ?_, by omega, by omega⟩
  split at hs <;> omega
theorem p_cellAt {k : Nat} (hk : k < cnt l) : pureV (call Ev) Fn.impl_cellAt [lv (bys l), iv .i64 k] = some (lv (bys (cellB l k))) := by
  obtain ⟨s1, s2, s3, s4, s5⟩ := slot_bd hp hk
  obtain ⟨h64, _⟩ := pagF_ok hp
  rw [pu_impl_cellAt, pc (p_spot s4 s5) rfl]
  simp only [gVT_t, gx0, gx1, ob, gA1_s, gI_i, ln0, ln1, Nat.zero_add, Nat.reduceAdd, if_true]
  rw [w64 (by omega) (by omega), show plc l k = ((plc l k).toNat : Int) from by omega, show (((plc l k).toNat : Int) + siz l k) = ((((plc l k).toNat : Int) + siz l k).toNat : Int) from by omega, slF_lh (by omega) (by omega)]
  unfold cellB
  rw [show ((plc l k).toNat : Int) = plc l k from by omega]
theorem p_l2Cell {k : Nat} (hk : k < cnt l) : pureV (call Ev) Fn.spec_l2Cell [lv (bys l), iv .i64 k] = some (lv (bys (cellB l k))) := by
  obtain ⟨s1, s2, s3, s4, s5⟩ := slot_bd hp hk
  obtain ⟨h64, _⟩ := pagF_ok hp
  rw [pu_spec_l2Cell, pc (p_l2Place (by omega) s5) rfl]
  simp only [gV1_s, gI_i]
  rw [pc (p_l2Size s4 s5) rfl]
  simp only [gV1_s, gI_i]
  rw [w64 (by omega) (by omega), show plc l k = ((plc l k).toNat : Int) from by omega, show (((plc l k).toNat : Int) + siz l k) = ((((plc l k).toNat : Int) + siz l k).toNat : Int) from by omega, slF_lh (by omega) (by omega)]
  have hlen : ((l.take (((plc l k).toNat : Int) + siz l k).toNat).drop (plc l k).toNat).length ≤ lim := by
    rw [List.length_drop, List.length_take]; unfold lim; omega
  have := app_nil (h := D 0) hlen
  rw [D_n] at this
  rw [this, ob]
  have w : BysW ((((D 0).new 1 []).put 0 .dead).new 1 (((l.take (((plc l k).toNat : Int) + siz l k).toNat).drop (plc l k).toNat).map cell8)) (sv (0 + 1) 0 ((l.take (((plc l k).toNat : Int) + siz l k).toNat).drop (plc l k).toNat).length) _ 1 := ⟨rfl, by simp, new_g (((D 0).new 1 []).put 0 .dead) _ _⟩
  rw [frz1 (ob := some 1) w]
  unfold cellB
  rw [show ((plc l k).toNat : Int) = plc l k from by omega]
end
theorem cellB_len (l : List UInt8) (k : Nat) : (cellB l k).length ≤ l.length := by
  unfold cellB; rw [List.length_drop, List.length_take]; omega
theorem NewB.p {f : Nat} {xs : List V} {h : H} {c : Int} {y : S} {l : List UInt8} {o : Option Nat} (hc : call Ev f xs (D 0) = some (.agg [.int .i64 c, y], h)) (w : NewB 0 h (.s y) l o) : pureV (call Ev) f xs = some (.agg [.int .i64 c, .fs (bys l)]) := by
  unfold pureV
  rw [hc, Vm.ob, frz2 w.own]
end Vm
/-
  A cell's bytes, read: what both readers come to.
-/
namespace Vm
open Go

theorem w64b6 {l : List UInt8} {i : Int} : IntKind.i64.wrap (6 + bt l i) = 6 + bt l i := by
  have := bt_nn l i; have := bt_lt l i
  exact w64 (by omega) (by omega)
theorem w64b2 {l : List UInt8} {i j : Int} : IntKind.i64.wrap (IntKind.i64.wrap (bt l i * 256) + bt l j) = bt l i * 256 + bt l j := by
  have := bt_nn l i; have := bt_lt l i; have := bt_nn l j; have := bt_lt l j
  rw [w64 (n := bt l i * 256) (by omega) (by omega), w64 (by omega) (by omega)]
theorem shl8 {E : Env} {t : Nat} {l : List UInt8} {i : Int} : bin E .shl t (iv .i64 (bt l i)) (iv .u64 8) = some (iv .i64 (bt l i * 256)) := by
  have := bt_nn l i; have := bt_lt l i
  simp only [bin]
  rw [if_neg (by omega), show min (8 : Int).toNat IntKind.i64.bits = 8 from by decide, show (2 : Int) ^ 8 = 256 from by decide, w64 (by omega) (by omega)]
theorem or8 {E : Env} {t : Nat} {l : List UInt8} {i j : Int} : bin E .or t (iv .i64 (bt l i * 256)) (iv .i64 (bt l j)) = some (iv .i64 (bt l i * 256 + bt l j)) := by
  have h1 := bt_lt l i; have h2 := bt_lt l j
  unfold bt at h1 h2 ⊢
  generalize (l.getD i.toNat 0).toNat = a at *
  generalize (l.getD j.toNat 0).toNat = b at *
  have ha : a < 256 := by omega
  have hb : b < 256 := by omega
  have e : (BitVec.ofInt IntKind.i64.bits ((a : Int) * 256) ||| BitVec.ofInt IntKind.i64.bits (b : Int)).toNat = a * 256 + b := by
    rw [BitVec.toNat_or, BitVec.toNat_ofInt, BitVec.toNat_ofInt]
    have e1 : (((a : Int) * 256) % ((2 ^ IntKind.i64.bits : Nat) : Int)).toNat = a * 256 := by
      simp only [IntKind.bits]; omega
    have e2 : ((b : Int) % ((2 ^ IntKind.i64.bits : Nat) : Int)).toNat = b := by
      simp only [IntKind.bits]; omega
    rw [e1, e2]
    have := Nat.shiftLeft_add_eq_or_of_lt (i := 8) (b := b) (by omega) a
    rw [Nat.shiftLeft_eq] at this
    exact this.symm
  simp only [bin, if_true, binI, bitsI, e, Option.bind_some]
  rw [w64 (by omega) (by omega)]
  rfl

structure CellD where
  code : Int
  flag : Int
  page : Int
  slot : Int
  row : RowD
abbrev CellD.cs (c : CellD) : List S := [.int .i64 c.code, .int .i64 c.flag, .int .i64 c.page, .int .i64 c.slot, .int .i64 c.row.tab, .int .i64 c.row.key, .int .i64 c.row.val, .str c.row.text]
def noR : RowD := ⟨0, 0, 0, ⟨#[]⟩⟩
def cellRow (l : List UInt8) : RowD := ⟨bt l 1, bt l 2, bt l 3 * 256 + bt l 4, ⟨(l.drop 6).toArray⟩⟩
def isStub (l : List UInt8) : Bool := decide (l.length = 3) && bt l 0 == 1
def isCell (l : List UInt8) : Bool := decide (6 ≤ l.length) && (bt l 0 == 0 || bt l 0 == 2) && decide ((l.length : Int) = 6 + bt l 5)
/-- what stands in a cell -/
def unpC (l : List UInt8) : CellD :=
  if isStub l && (decide (bt l 1 ≤ 11) && decide (bt l 2 ≤ 15)) then ⟨0, 1, bt l 1, bt l 2, noR⟩
  else if isCell l && rowF (cellRow l) == 0 then ⟨0, bt l 0, 0, 0, cellRow l⟩ else ⟨5, 0, 0, 0, noR⟩
theorem cellRow_size {l : List UInt8} (hl : l.length ≤ lim) : (cellRow l).text.size ≤ maxLen := by
  have : (cellRow l).text.size = l.length - 6 := by simp [cellRow, ByteArray.size]
  unfold lim at hl; unfold maxLen; omega
theorem pl1F {l : List UInt8} (hl : l.length ≤ lim) : pureV (call Ev) Fn.spec_l1Fault [fv [.int .i64 (bt l 1), .int .i64 (bt l 2), .int .i64 (bt l 3 * 256 + bt l 4), .str ⟨(l.drop 6).toArray⟩] 0] = some (iv .i64 (rowF (cellRow l))) := p_l1Fault (cellRow l) (cellRow_size hl)
theorem pRF {l : List UInt8} (hl : l.length ≤ lim) : pureV (call Ev) Fn.impl_RowFault [.agg [.int .i64 (bt l 1), .int .i64 (bt l 2), .int .i64 (bt l 3 * 256 + bt l 4), .str ⟨(l.drop 6).toArray⟩]] = some (iv .i64 (rowF (cellRow l))) := p_RowFault (cellRow l) (cellRow_size hl)
theorem p_l1Place (a b : Int) : pureV (call Ev) Fn.spec_l1Place [iv .i64 a, iv .i64 b] = some (bv (inB a 0 11 && inB b 0 15)) := by
  rw [pu_spec_l1Place]
  simp only [pcallS, p_l1In, Option.bind_some, sca_v, sca_b, cond_true, gV1_s, gB_b, vcase_b]
  cases inB a 0 11 <;> cases inB b 0 15 <;> rfl
theorem p_l1Read {l : List UInt8} (hl : l.length ≤ lim) : ∃ c : CellD, ∃ b : Bool, pureV (call Ev) Fn.spec_l1Read [lv (bys l)] = some (.tup [.agg c.cs, .s (.bool b)]) ∧ (unpC l = if b then c else ⟨5, 0, 0, 0, noR⟩) ∧ c.code = 0 := by
  have hrs := cellRow_size hl
  have j0 : ∀ q, Jn.spec_l1Read_0 q (bys l) = if q = true then some (.tup [.agg (CellD.cs ⟨0, 0, 0, 0, noR⟩), .s (.bool false)]) else if 6 ≤ l.length then some (.tup [.agg (CellD.cs ⟨0, bt l 0, 0, 0, cellRow l⟩), .s (.bool (rowF (cellRow l) == 0))]) else none := by
    intro q
    unfold Jn.spec_l1Read_0
    rw [vcase_b]
    cases q
    case true => rfl
    simp only [Bool.false_eq_true, if_false]
    by_cases h6 : 6 ≤ l.length
    · simp (disch := first | omega | fail) only [idxF_by, List.getElem?_cons_zero, Option.bind_some, gI_i, w64bt, w64b2]
      rw [show iv .i64 6 = iv .i64 ((6 : Nat) : Int) from rfl, slF_lo h6, fsStr_by (by rw [List.length_drop]; omega)]
      simp only [Option.bind_some, gV1_s, gS_s, hchk_self]
      rw [hchk_of (HExt.refl _).new, pc (pl1F hl) rfl, if_pos h6]
      rfl
    · rw [if_neg h6]
      by_cases h1 : 1 < l.length
      · by_cases h2 : 2 < l.length
        · by_cases h3 : 3 < l.length
          · by_cases h4 : 4 < l.length
            · simp (disch := first | omega | fail) only [idxF_by, List.getElem?_cons_zero, Option.bind_some, gI_i]
              unfold slF
              simp only [bys_len, Option.bind_some, bnd]
              rw [if_neg (by omega)]; rfl
            · simp (disch := first | omega | (simp; omega) | fail) only [idxF_by, idxF_out, List.getElem?_cons_zero, Option.bind_some, gI_i]
          · simp (disch := first | omega | (simp; omega) | fail) only [idxF_by, idxF_out, List.getElem?_cons_zero, Option.bind_some, gI_i]
        · simp (disch := first | omega | (simp; omega) | fail) only [idxF_by, idxF_out, List.getElem?_cons_zero, Option.bind_some, gI_i]
      · simp (disch := first | omega | (simp; omega) | fail) only [idxF_by, idxF_out, List.getElem?_cons_zero, Option.bind_some, gI_i]
  have j1 : ∀ q, (q = true → l.length = 3) → ∃ c : CellD, ∃ b : Bool, Jn.spec_l1Read_1 q (bys l) = some (.tup [.agg c.cs, .s (.bool b)]) ∧ (if b = true then c else ⟨5, 0, 0, 0, noR⟩) = (if q && (decide (bt l 1 ≤ 11) && decide (bt l 2 ≤ 15)) then ⟨0, 1, bt l 1, bt l 2, noR⟩
      else if (!q) && (isCell l && rowF (cellRow l) == 0) then ⟨0, bt l 0, 0, 0, cellRow l⟩ else ⟨5, 0, 0, 0, noR⟩) ∧ c.code = 0 := by
    intro q hq
    unfold Jn.spec_l1Read_1
    rw [vcase_b]
    have n0 := bt_nn l 0; have n1 := bt_nn l 1; have n2 := bt_nn l 2
    cases q
    case true =>
      have h3 := hq rfl
      simp (disch := first | omega | fail) only [idxF_by, List.getElem?_cons_zero, Option.bind_some, gI_i, w64bt, hchk_self, if_true]
      rw [hchk_of (HExt.refl _).new, pc (p_l1Place _ _) rfl]
      refine ⟨⟨0, 1, bt l 1, bt l 2, noR⟩, _, rfl, ?_, rfl⟩
      simp [inB, n1, n2]
    case false =>
      simp only [Bool.false_eq_true, if_false, bys_len, vcase_b]
      by_cases h6 : l.length < 6
      · rw [if_pos (by simp; omega)]
        exact ⟨⟨0, 0, 0, 0, noR⟩, _, rfl, by simp [isCell, show ¬ 6 ≤ l.length by omega], rfl⟩
      rw [if_neg (by simp; omega)]
      simp (disch := first | omega | fail) only [idxF_by, List.getElem?_cons_zero, Option.bind_some, gI_i, w64bt, w64b6]
      by_cases h01 : bt l 0 = 1
      · rw [if_pos (by simp [h01])]
        exact ⟨⟨0, 0, 0, 0, noR⟩, _, rfl, by simp [isCell, h01], rfl⟩
      rw [if_neg (by simpa using h01), j0, j0]
      by_cases h02 : 2 < bt l 0
      · rw [if_pos (by simpa using h02)]
        exact ⟨⟨0, 0, 0, 0, noR⟩, _, rfl, by simp [isCell, show bt l 0 ≠ 0 by omega, show bt l 0 ≠ 2 by omega], rfl⟩
      rw [if_neg (by simpa using h02)]
      have h0 : (bt l 0 == 0 || bt l 0 == 2) = true := by simp; omega
      by_cases h5 : (l.length : Int) = 6 + bt l 5
      · rw [if_neg (by simp [← h5]), if_pos (by omega)]
        exact ⟨⟨0, bt l 0, 0, 0, cellRow l⟩, _, rfl, by simp [isCell, h0, ← h5, show 6 ≤ l.length by omega], rfl⟩
      · rw [if_pos (by simpa using h5)]
        exact ⟨⟨0, 0, 0, 0, noR⟩, _, rfl, by simp [isCell, h5], rfl⟩
  rw [pu_spec_l1Read, vcase_b, bys_len]
  unfold unpC isStub
  by_cases h3 : l.length = 3
  · rw [if_pos (by simp [h3]), idxF_by (by omega) (by omega)]
    simp only [List.getElem?_cons_zero, Option.bind_some, gI_i]
    obtain ⟨c, b, e1, e2, e3⟩ := j1 (bt l 0 == 1) (fun _ => h3)
    refine ⟨c, b, e1, ?_, e3⟩
    rw [e2]
    cases hq : bt l 0 == 1 <;> simp [h3, isCell]
  · rw [if_neg (by simp; omega)]
    obtain ⟨c, b, e1, e2, e3⟩ := j1 false (fun h => by cases h)
    refine ⟨c, b, e1, ?_, e3⟩
    rw [e2]
    simp [h3]
theorem p_UnpackCell {l : List UInt8} (hl : l.length ≤ lim) : pureV (call Ev) Fn.impl_UnpackCell [lv (bys l)] = some (.agg (unpC l).cs) := by
  have hrs := cellRow_size hl
  have n0 := bt_nn l 0; have n1 := bt_nn l 1; have n2 := bt_nn l 2
  have j0 : ∀ q, 6 ≤ l.length → Jn.impl_UnpackCell_0 q (bys l) = some (.agg (CellD.cs (if !q && rowF (cellRow l) == 0 then ⟨0, bt l 0, 0, 0, cellRow l⟩ else ⟨5, 0, 0, 0, noR⟩))) := by
    intro q h6
    unfold Jn.impl_UnpackCell_0
    rw [vcase_b]
    cases q
    case true => rfl
    simp (disch := first | omega | fail) only [idxF_by, List.getElem?_cons_zero, Option.bind_some, gI_i, w64bt, shl8, or8, gV1_s, Bool.false_eq_true, if_false]
    rw [show iv .i64 6 = iv .i64 ((6 : Nat) : Int) from rfl, slF_lo h6, fsStr_by (by rw [List.length_drop]; omega)]
    simp only [Option.bind_some, gV1_s, gS_s]
    rw [hchk_of (HExt.refl _).new, pc (pRF hl) rfl]
    simp only [gV1_s, gI_i, vcase_b]
    cases hf : rowF (cellRow l) == 0
    · rw [if_pos (by simpa using hf)]; rfl
    · rw [if_neg (by simpa using hf)]; rfl
  have j1t : Jn.impl_UnpackCell_1 true (bys l) = some (.agg (CellD.cs ⟨5, 0, 0, 0, noR⟩)) := by
    unfold Jn.impl_UnpackCell_1 Jn.impl_UnpackCell_0; rfl
  have j1f : 6 ≤ l.length → (bt l 0 == 0 || bt l 0 == 2) = true → Jn.impl_UnpackCell_1 false (bys l) = some (.agg (CellD.cs (if isCell l && rowF (cellRow l) == 0 then ⟨0, bt l 0, 0, 0, cellRow l⟩ else ⟨5, 0, 0, 0, noR⟩))) := by
    intro h6 h0
    unfold Jn.impl_UnpackCell_1
    rw [vcase_b, if_neg (by simp), idxF_by (by omega) (by omega)]
    simp only [List.getElem?_cons_zero, Option.bind_some, gI_i, w64bt, w64b6, bys_len]
    rw [j0 _ h6]
    by_cases h5 : (l.length : Int) = 6 + bt l 5
    · simp [isCell, h0, h5, h6]
    · simp [isCell, h0, h5, h6]
  have tail : ∀ (h3 : isStub l = false ∨ ¬ (bt l 1 ≤ 11 ∧ bt l 2 ≤ 15)), (vcase (bv (decide (((bys l).length : Int) < 6)))
      (Jn.impl_UnpackCell_1 true (bys l))
      (idxF 1 (bys l) 0 fun r401 =>
      (r401[0]?).bind fun x402 =>
      gI .u8 x402 fun i403 =>
      vcase (bv (i403 != 0))
      (idxF 1 (bys l) 0 fun r405 =>
      (r405[0]?).bind fun x406 =>
      gI .u8 x406 fun i407 =>
      Jn.impl_UnpackCell_1 (i407 != 2) (bys l))
      (Jn.impl_UnpackCell_1 false (bys l)))) = some (.agg (unpC l).cs) := by
    intro h3
    have hu : unpC l = if isCell l && rowF (cellRow l) == 0 then ⟨0, bt l 0, 0, 0, cellRow l⟩ else ⟨5, 0, 0, 0, noR⟩ := by
      unfold unpC
      rw [if_neg]
      rcases h3 with h3 | h3
      · simp [h3]
      · simp; intro _ a; have := fun b => h3 ⟨a, b⟩; omega
    rw [vcase_b, bys_len, hu]
    by_cases h6 : l.length < 6
    · rw [if_pos (by simp; omega), j1t]
      simp [isCell, show ¬ 6 ≤ l.length by omega]
    rw [if_neg (by simp; omega), idxF_by (by omega) (by omega)]
    simp only [List.getElem?_cons_zero, Option.bind_some, gI_i, vcase_b]
    by_cases h00 : bt l 0 = 0
    · rw [if_neg (by simp [h00]), j1f (by omega) (by simp [h00])]
    rw [if_pos (by simpa using h00), idxF_by (by omega) (by omega)]
    simp only [List.getElem?_cons_zero, Option.bind_some, gI_i, vcase_b]
    by_cases h02 : bt l 0 = 2
    · rw [show (bt l 0 != 2) = false from by simp [h02], j1f (by omega) (by simp [h02])]
    · rw [show (bt l 0 != 2) = true from by simp [h02], j1t]
      simp [isCell, h00, h02]
  have j2 : ∀ q, (q = (isStub l && decide (bt l 1 < 12))) → Jn.impl_UnpackCell_2 q (bys l) = some (.agg (unpC l).cs) := by
    intro q hq
    unfold Jn.impl_UnpackCell_2
    rw [vcase_b]
    cases q
    case false =>
      rw [if_neg (by simp)]
      refine tail ?_
      cases hs : isStub l
      · exact .inl rfl
      · rw [hs] at hq
        simp only [Bool.true_and] at hq
        have := of_decide_eq_false hq.symm
        exact .inr (by omega)
    case true =>
      rw [if_pos rfl]
      have hq' := hq.symm
      simp only [Bool.and_eq_true, decide_eq_true_eq] at hq'
      have hs := hq'.1
      unfold isStub at hs
      simp only [Bool.and_eq_true, decide_eq_true_eq] at hs
      rw [idxF_by (by omega) (by omega)]
      simp only [List.getElem?_cons_zero, Option.bind_some, gI_i]
      by_cases h2 : bt l 2 < 16
      · rw [vcase_b, if_pos (by simpa using h2)]
        simp (disch := first | omega | fail) only [idxF_by, List.getElem?_cons_zero, Option.bind_some, gI_i, w64bt]
        unfold unpC
        rw [if_pos (by rw [hq'.1]; simp; omega)]
        rfl
      · rw [vcase_b, if_neg (by simpa using h2)]
        exact tail (.inr (by omega))
  rw [pu_impl_UnpackCell, vcase_b]
  by_cases h3 : l.length = 3
  · rw [if_pos (by simp [h3]), idxF_by (by omega) (by omega)]
    simp only [List.getElem?_cons_zero, Option.bind_some, gI_i, vcase_b]
    by_cases h1 : bt l 0 = 1
    · rw [if_pos (by simp [h1]), idxF_by (by omega) (by omega)]
      simp only [List.getElem?_cons_zero, Option.bind_some, gI_i]
      exact j2 _ (by simp [isStub, h3, h1])
    · rw [if_neg (by simpa using h1)]
      exact j2 _ (by simp [isStub, h1])
  · rw [if_neg (by simp; omega)]
    exact tail (.inl (by simp [isStub, h3]))
end Vm
/-
  The rows that are seen in pages, in plain terms.
-/
namespace Vm
open Go
theorem unpC_flag (l : List UInt8) : (unpC l).code = 0 → (unpC l).flag = 0 ∨ (unpC l).flag = 1 ∨ (unpC l).flag = 2 := by
  unfold unpC
  intro h
  split
  · exact .inr (.inl rfl)
  · split
    · rename_i h2
      simp only [Bool.and_eq_true, isCell] at h2
      have := h2.1.1.2
      simp only [Bool.or_eq_true, beq_iff_eq] at this
      rcases this with h3 | h3
      · exact .inl h3
      · exact .inr (.inr h3)
    · rename_i h1 h2
      rw [if_neg h1, if_neg h2] at h
      cases h
/-! the cells of pages -/
structure SpotD where
  p : Nat
  s : Nat
  c : CellD
def spotsP (p : Nat) (l : List UInt8) : Nat → Nat → List SpotD
  | _, 0 => []
  | s, n + 1 => if hasB l (s : Int) = true then ⟨p, s, unpC (cellB l s)⟩ :: spotsP p l (s + 1) n else spotsP p l (s + 1) n
def spotsF : Nat → List (List UInt8) → List SpotD
  | _, [] => []
  | p, l :: r => spotsP p l 0 (cnt l) ++ spotsF (p + 1) r
/-- a row that stands in its place; a stub; a stub with its row -/
def mkRow (x : SpotD) : SeenD := ⟨x.c.row, x.p, x.s, false, x.p, x.s⟩
def mkStub (x : SpotD) : SeenD := ⟨noR, x.p, x.s, true, x.c.page, x.c.slot⟩
def rowsO (sp : List SpotD) : List SeenD := (sp.filter fun x => x.c.flag == 0).map mkRow
def stubsO (sp : List SpotD) : List SeenD := (sp.filter fun x => x.c.flag == 1).map mkStub
def movsO (sp : List SpotD) : List SpotD := sp.filter fun x => x.c.flag == 2
def mvF (ms : List SpotD) (a b : Int) : Option RowD := (ms.find? fun x => decide (a = (x.p : Int)) && decide (b = (x.s : Int))).map fun x => x.c.row
def seenM (ms : List SpotD) (x : SeenD) : SeenD := { x with r := (mvF ms x.at_ x.place).getD noR }
def missF (ms : List SpotD) (st : List SeenD) : Bool := st.any fun x => (mvF ms x.at_ x.place).isNone
def dupS : List (Int × Int) → List SeenD → Bool
  | _, [] => false
  | d, x :: l => decide ((x.at_, x.place) ∈ d) || dupS (d ++ [(x.at_, x.place)]) l
def seenS (ms : List SpotD) : List SpotD → List SeenD
  | [] => []
  | x :: l => if x.c.flag = 2 then seenS ms l else (if x.c.flag = 1 then seenM ms (mkStub x) else mkRow x) :: seenS ms l
theorem seen_perm (ms : List SpotD) : ∀ (sp : List SpotD), (∀ x ∈ sp, x.c.flag = 0 ∨ x.c.flag = 1 ∨ x.c.flag = 2) → (rowsO sp ++ (stubsO sp).map (seenM ms)).Perm (seenS ms sp)
  | [], _ => by simp [rowsO, stubsO, seenS]
  | x :: sp, h => by
    have ih := seen_perm ms sp fun y hy => h y (by simp [hy])
    have e0 : rowsO (x :: sp) = if x.c.flag = 0 then mkRow x :: rowsO sp else rowsO sp := by
      unfold rowsO
      by_cases h0 : x.c.flag = 0 <;> simp [List.filter_cons, h0]
    have e1 : stubsO (x :: sp) = if x.c.flag = 1 then mkStub x :: stubsO sp else stubsO sp := by
      unfold stubsO
      by_cases h0 : x.c.flag = 1 <;> simp [List.filter_cons, h0]
    rw [e0, e1]
    rcases h x (by simp) with h0 | h0 | h0
    · rw [if_pos h0, if_neg (by omega)]
      simp only [seenS]
      rw [if_neg (by omega), if_neg (by omega)]
      exact ih.cons _
    · rw [if_neg (by omega), if_pos h0]
      simp only [seenS]
      rw [if_neg (by omega), if_pos h0, List.map_cons]
      exact List.perm_middle.trans (ih.cons _)
    · rw [if_neg (by omega), if_neg (by omega)]
      simp only [seenS]
      rw [if_pos h0]
      exact ih
/-! rising rows -/
def sameK (x y : SeenD) : Bool := decide (x.r.tab = y.r.tab) && decide (x.r.key = y.r.key)
theorem ltS_iff {x y : SeenD} : ltS x y = true ↔ x.r.tab < y.r.tab ∨ (x.r.tab = y.r.tab ∧ x.r.key < y.r.key) := by
  unfold ltS befB; simp
theorem ltS_tri (x y : SeenD) : ltS x y = true ∨ sameK x y = true ∨ ltS y x = true := by
  rw [ltS_iff, ltS_iff]; unfold sameK; simp; omega
/-- does a key stand twice? -/
def dupK (l : List SeenD) : Prop := ¬ l.Pairwise fun x y => sameK x y = false
noncomputable instance dupKd (l : List SeenD) : Decidable (dupK l) := Classical.propDecidable _
theorem dupK_perm {l m : List SeenD} (h : l.Perm m) : dupK l ↔ dupK m := by
  unfold dupK
  rw [h.pairwise_iff (fun {x y} hh => by unfold sameK at *; simp at *; omega)]
def Rise (l : List SeenD) : Prop := l.Pairwise fun x y => ltS x y = true
theorem Rise.nodup {l : List SeenD} (h : Rise l) : ¬ dupK l := by
  unfold dupK
  intro hh
  refine hh (h.imp fun {x y} hx => ?_)
  rw [ltS_iff] at hx
  unfold sameK; simp; omega
theorem rise_uniq {l m : List SeenD} (hl : Rise l) (hm : Rise m) (hp : l.Perm m) : l = m := by
  refine List.Perm.eq_of_pairwise (le := fun x y => ltS x y = true) (fun a b _ _ h1 h2 => ?_) hl hm hp
  rw [ltS_iff] at h1 h2
  omega
/-- neighbours that rise, one behind the other -/
def nbr : List SeenD → Bool
  | [] => true
  | [_] => true
  | x :: y :: l => ltS x y && nbr (y :: l)
theorem nbr_rise : ∀ {l : List SeenD}, nbr l = true → Rise l
  | [], _ => List.Pairwise.nil
  | [x], _ => by unfold Rise; simp
  | x :: y :: l, h => by
    unfold nbr at h
    simp only [Bool.and_eq_true] at h
    have ih := nbr_rise (l := y :: l) h.2
    refine List.Pairwise.cons (fun z hz => ?_) ih
    rcases List.mem_cons.1 hz with rfl | hz
    · exact h.1
    · have h2 := List.rel_of_pairwise_cons ih hz
      have h1 := h.1
      rw [ltS_iff] at *
      omega
theorem rise_nbr : ∀ {l : List SeenD}, Rise l → nbr l = true
  | [], _ => rfl
  | [x], _ => rfl
  | x :: y :: l, h => by
    unfold nbr
    rw [rise_nbr (List.Pairwise.of_cons h), List.rel_of_pairwise_cons h (by simp)]; rfl
/-- behind the sort: the neighbours rise if no key stands twice -/
theorem sorted_nbr {l m : List SeenD} (hs : l.Pairwise fun x y => ltS y x = false) (hp : l.Perm m) : nbr l = true ↔ ¬ dupK m := by
  rw [← dupK_perm hp]
  constructor
  · exact fun h => (nbr_rise h).nodup
  · intro h
    refine rise_nbr ?_
    unfold dupK at h
    have h := Classical.not_not.1 h
    have := hs.and h
    refine this.imp fun {x y} hx => ?_
    rcases ltS_tri x y with h1 | h1 | h1
    · exact h1
    · rw [hx.2] at h1; cases h1
    · rw [hx.1] at h1; cases h1
/-- a row put among rising ones -/
def putS : List SeenD → SeenD → List SeenD
  | [], x => [x]
  | y :: l, x => if ltS y x = true then y :: putS l x else x :: y :: l
theorem putS_perm : ∀ (l : List SeenD) (x : SeenD), (putS l x).Perm (x :: l)
  | [], x => by simp [putS]
  | y :: l, x => by
    unfold putS
    split
    · exact ((putS_perm l x).cons y).trans (List.Perm.swap x y l)
    · exact List.Perm.refl _
theorem putS_rise : ∀ {l : List SeenD} {x : SeenD}, Rise l → (∀ y ∈ l, sameK x y = false) → Rise (putS l x)
  | [], x, _, _ => by unfold putS Rise; simp
  | y :: l, x, h, hx => by
    unfold putS
    split
    · rename_i h1
      refine List.Pairwise.cons (fun z hz => ?_) (putS_rise (List.Pairwise.of_cons h) fun w hw => hx w (by simp [hw]))
      rcases List.mem_cons.1 ((putS_perm l x).mem_iff.1 hz) with rfl | hz
      · exact h1
      · exact List.rel_of_pairwise_cons h hz
    · rename_i h1
      have hxy : ltS x y = true := by
        rcases ltS_tri x y with h2 | h2 | h2
        · exact h2
        · rw [hx y (by simp)] at h2; cases h2
        · exact absurd h2 h1
      refine List.Pairwise.cons (fun z hz => ?_) h
      rcases List.mem_cons.1 hz with rfl | hz
      · exact hxy
      · have := List.rel_of_pairwise_cons h hz
        rw [ltS_iff] at *
        omega
def srtS (l : List SeenD) : List SeenD := l.foldl putS []
theorem foldl_put : ∀ (l a : List SeenD), (l.foldl putS a).Perm (a ++ l)
  | [], a => by simp
  | x :: l, a => by
    have := foldl_put l (putS a x)
    refine this.trans ?_
    have h2 := (putS_perm a x).append_right l
    refine h2.trans ?_
    exact List.perm_middle.symm
theorem srtS_perm (l : List SeenD) : (srtS l).Perm l := by
  have := foldl_put l []
  simpa [srtS] using this
theorem foldl_rise : ∀ (l a : List SeenD), Rise a → ¬ dupK (a ++ l) → Rise (l.foldl putS a)
  | [], a, h, _ => h
  | x :: l, a, h, hd => by
    have hn := Classical.not_not.1 hd
    refine foldl_rise l (putS a x) (putS_rise h fun y hy => ?_) ?_
    · have := (List.pairwise_append.1 hn).2.2 y hy x (by simp)
      unfold sameK at *; simp at *; omega
    · rw [dupK_perm (((putS_perm a x).append_right l).trans List.perm_middle.symm)]
      exact hd
theorem srtS_rise {l : List SeenD} (h : ¬ dupK l) : Rise (srtS l) := foldl_rise l [] List.Pairwise.nil (by simpa using h)
theorem srt_uniq {l m : List SeenD} (hl : nbr l = true) (hp : l.Perm m) : l = srtS m := by
  have hr := nbr_rise hl
  have hd : ¬ dupK m := by rw [← dupK_perm hp]; exact hr.nodup
  exact rise_uniq hr (srtS_rise hd) (hp.trans (srtS_perm m).symm)
/-! a cell by its place -/
def cellAtF (pages : List (List UInt8)) (a b : Int) : Option CellD := if 0 ≤ a ∧ a < pages.length then (match pages[a.toNat]? with
  | some l => if hasB l b = true then some (unpC (cellB l b.toNat)) else none
  | none => none) else none
theorem findP_lt {p : Nat} {l : List UInt8} {f : SpotD → Bool} {a b : Int} (ha : a = p) : ∀ (n s : Nat), s + n = cnt l → (s : Int) ≤ b →
    ((spotsP p l s n).filter fun x => x.c.flag == 2).find? (fun x => decide (a = (x.p : Int)) && decide (b = (x.s : Int))) = if hasB l b = true ∧ (unpC (cellB l b.toNat)).flag = 2 then some ⟨p, b.toNat, unpC (cellB l b.toNat)⟩ else none
  | 0, s, hs, hb => by
    simp only [spotsP, List.filter_nil, List.find?_nil]
    rw [if_neg]
    rintro ⟨h, _⟩
    obtain ⟨k, h1, h2⟩ := hasB_nat h
    omega
  | n + 1, s, hs, hb => by
    simp only [spotsP]
    by_cases he : (s : Int) = b
    · have hs' : b.toNat = s := by omega
      subst he
      rw [Int.toNat_natCast]
      have hn : ((spotsP p l (s + 1) n).filter fun x => x.c.flag == 2).find? (fun x => decide (a = (x.p : Int)) && decide ((s : Int) = (x.s : Int))) = none := by
        have : ∀ (n t : Nat), s < t → ∀ x ∈ spotsP p l t n, s < x.s := by
          intro n
          induction n with
          | zero => intro t ht x hx; simp [spotsP] at hx
          | succ n ih =>
            intro t ht x hx
            simp only [spotsP] at hx
            split at hx
            · rcases List.mem_cons.1 hx with rfl | hx
              · exact ht
              · exact ih (t + 1) (by omega) x hx
            · exact ih (t + 1) (by omega) x hx
        rw [List.find?_eq_none]
        intro x hx
        have := this n (s + 1) (by omega) x (List.mem_filter.1 hx).1
        simp; omega
      by_cases hh : hasB l (s : Int) = true
      · rw [if_pos hh]
        by_cases hf : (unpC (cellB l s)).flag = 2
        · rw [if_pos ⟨hh, hf⟩, List.filter_cons, if_pos (by simpa using hf), List.find?_cons]
          simp [ha]
        · rw [if_neg (fun h => hf h.2), List.filter_cons, if_neg (by simpa using hf)]
          exact hn
      · rw [if_neg hh, if_neg (fun h => hh h.1)]
        exact hn
    · have ih := findP_lt (p := p) (l := l) (f := f) (b := b) ha n (s + 1) (by omega) (by omega)
      split
      · rw [List.filter_cons]
        split
        · rw [List.find?_cons]
          rw [show (decide (a = (p : Int)) && decide (b = (s : Int))) = false by simp; omega]
          exact ih
        · exact ih
      · exact ih
theorem spotsP_p {p : Nat} {l : List UInt8} : ∀ (n s : Nat), ∀ x ∈ spotsP p l s n, x.p = p
  | 0, s, x, hx => by simp [spotsP] at hx
  | n + 1, s, x, hx => by
    simp only [spotsP] at hx
    split at hx
    · rcases List.mem_cons.1 hx with rfl | hx
      · rfl
      · exact spotsP_p n _ x hx
    · exact spotsP_p n _ x hx
theorem mv_at : ∀ (pages : List (List UInt8)) (p : Nat) (a b : Int), (p : Int) ≤ a → mvF (movsO (spotsF p pages)) a b = (cellAtF pages (a - p) b).bind fun c => if c.flag = 2 then some c.row else none
  | [], p, a, b, hp => by
    unfold cellAtF
    rw [if_neg (by simp only [List.length_nil]; omega)]
    simp [mvF, movsO, spotsF]
  | l :: r, p, a, b, hp => by
    unfold mvF movsO
    rw [spotsF, List.filter_append, List.find?_append]
    by_cases ha : a = p
    · have h1 : ((spotsF (p + 1) r).filter fun x => x.c.flag == 2).find? (fun x => decide (a = (x.p : Int)) && decide (b = (x.s : Int))) = none := by
        rw [List.find?_eq_none]
        intro x hx
        have : ∀ (r : List (List UInt8)) (q : Nat), ∀ x ∈ spotsF q r, q ≤ x.p := by
          intro r
          induction r with
          | nil => intro q x hx; simp [spotsF] at hx
          | cons l r ih =>
            intro q x hx
            rw [spotsF] at hx
            rcases List.mem_append.1 hx with hx | hx
            · rw [spotsP_p _ _ x hx]; omega
            · have := ih (q + 1) x hx; omega
        have := this r (p + 1) x (List.mem_filter.1 hx).1
        simp; omega
      unfold cellAtF
      rw [h1, Option.or_none, if_pos (by simp; omega), show (a - (p : Int)).toNat = 0 by omega]
      simp only [List.getElem?_cons_zero]
      by_cases hb : 0 ≤ b
      · rw [findP_lt (p := p) (l := l) (f := fun _ => true) ha (cnt l) 0 (by omega) (by omega)]
        by_cases hh : hasB l b = true
        · by_cases hf : (unpC (cellB l b.toNat)).flag = 2
          · simp [hh, hf]
          · simp [hh, hf]
        · simp [hh]
      · have hh : ¬ hasB l b = true := fun h => by
          obtain ⟨k, h1, _⟩ := hasB_nat h
          omega
        rw [if_neg hh]
        simp only [Option.bind_none, Option.map_eq_none_iff, List.find?_eq_none]
        intro x hx
        simp; omega
    · have h1 : ((spotsP p l 0 (cnt l)).filter fun x => x.c.flag == 2).find? (fun x => decide (a = (x.p : Int)) && decide (b = (x.s : Int))) = none := by
        rw [List.find?_eq_none]
        intro x hx
        have := spotsP_p _ _ x (List.mem_filter.1 hx).1
        rw [this]
        simp [ha]
      rw [h1, Option.none_or]
      have ih := mv_at r (p + 1) a b (by omega)
      unfold mvF movsO at ih
      rw [ih]
      unfold cellAtF
      simp only [List.length_cons]
      by_cases h2 : 0 ≤ a - ((p + 1 : Nat) : Int) ∧ a - ((p + 1 : Nat) : Int) < r.length
      · rw [if_pos h2, if_pos (by omega), show (a - (p : Int)).toNat = (a - ((p + 1 : Nat) : Int)).toNat + 1 by omega, List.getElem?_cons_succ]
      · rw [if_neg h2, if_neg (by omega)]
end Vm
/-
  The insertion sort of seen rows.
-/
namespace Vm
open Go Go.Sort
theorem lp_ins2 {b n a e i0 : Nat} (hn : n ≤ 100000) (hi0 : i0 < n) : ∀ (j : Nat) (h : H) (d : Array SeenD), Hs h b d → n = d.size → j < n →
    ∃ h', Lp.slices_insertionSortCmpFunc_impl_seen 2 [sv b 0 n, iv .i64 (a : Nat), iv .i64 (e : Nat), .s (.fn Fn.impl_look_1 []), iv .i64 (i0 : Nat), iv .i64 (j : Nat)] h = some (.done [sv b 0 n, iv .i64 (a : Nat), iv .i64 (e : Nat), .s (.fn Fn.impl_look_1 []), iv .i64 (i0 : Nat)] h') ∧ Hs h' b (insInner ltS a j d) ∧ Oth b h h' := by
  intro j
  induction j with
  | zero =>
    intro h d hs hd hj
    rw [eq_slices_insertionSortCmpFunc_impl_seen_l2, vcase_b, if_neg (by simp), hchk_self]
    unfold Jn.slices_insertionSortCmpFunc_impl_seen_l2_0
    rw [vcase_b, if_neg (by simp), tidy_self]
    exact ⟨h, rfl, hs, Oth.refl _ _⟩
  | succ j ih =>
    intro h d hs hd hj
    have stop : ∀ {g1 g2 g3 g4 g5 g6 g7 g8 g9 g10 g11 g12 : V}, Jn.slices_insertionSortCmpFunc_impl_seen_l2_0 true g1 g2 g3 g4 g5 g6 g7 g8 g9 g10 g11 g12 false (sv b 0 n) ((j + 1 : Nat) : Int) h a e i0 = some (.done [sv b 0 n, iv .i64 (a : Nat), iv .i64 (e : Nat), .s (.fn Fn.impl_look_1 []), iv .i64 (i0 : Nat)] h) := by
      intros
      unfold Jn.slices_insertionSortCmpFunc_impl_seen_l2_0
      rw [vcase_b, if_neg (by simp), tidy_self]
    rw [eq_slices_insertionSortCmpFunc_impl_seen_l2, vcase_b]
    by_cases ha : j + 1 > a
    case neg =>
      rw [if_neg (by simp; omega), hchk_self]
      unfold Jn.slices_insertionSortCmpFunc_impl_seen_l2_0
      rw [vcase_b, if_neg (by simp), tidy_self]
      refine ⟨h, rfl, ?_, Oth.refl _ _⟩
      unfold insInner
      rw [if_neg (by simp [ha])]; exact hs
    rw [if_pos (by simp; omega), hs.ldG hd (by omega), w64 (n := ((j + 1 : Nat) : Int) - 1) (by omega) (by omega), show ((j + 1 : Nat) : Int) - 1 = (j : Int) from by omega, hs.ldG hd (by omega), pc (p_look1 d[j + 1]! d[j]!) rfl]
    simp only [gV1_s, gI_i, hchk_self]
    rw [ordI_lt]
    unfold insInner
    by_cases hl : ltS d[j + 1]! d[j]! = true
    case neg =>
      have hl' : ltS d[j + 1]! d[j]! = false := by simpa using hl
      rw [hl', if_neg (by simp)]
      unfold Jn.slices_insertionSortCmpFunc_impl_seen_l2_0
      rw [vcase_b, if_neg (by simp), tidy_self]
      exact ⟨h, rfl, hs, Oth.refl _ _⟩
    rw [hl, if_pos (by simp; omega)]
    unfold Jn.slices_insertionSortCmpFunc_impl_seen_l2_0
    rw [vcase_b, if_pos rfl, w64 (n := ((j + 1 : Nat) : Int) - 1) (by omega) (by omega), show ((j + 1 : Nat) : Int) - 1 = (j : Int) from by omega, hs.ldG hd (by omega), hs.ldG hd (by omega)]
    obtain ⟨h', e1, w1, o1⟩ := hs.st2 (x := d[j]!) (y := d[j + 1]!) hd (i := j + 1) (j := j) (by omega) (by omega)
    rw [e1, o1.tidy hs.n]
    obtain ⟨h2, e2, w2, o2⟩ := ih h' (swp d (j + 1) j) w1 (by simpa [swp] using hd) (by omega)
    exact ⟨h2, e2, w2, o1.trans o2⟩
theorem size_insInner (a : Nat) : ∀ (j : Nat) (d : Array SeenD), (insInner ltS a j d).size = d.size
  | 0, d => rfl
  | j + 1, d => by
    unfold insInner
    split
    · rw [size_insInner a j]; simp [swp]
    · rfl
theorem lp_ins {b n a e : Nat} (hn : n ≤ 100000) (he : e ≤ n) : ∀ (k i : Nat) (h : H) (d : Array SeenD), e - i = k → i ≤ n + 1 → Hs h b d → n = d.size →
    ∃ h', Lp.slices_insertionSortCmpFunc_impl_seen 0 [sv b 0 n, iv .i64 (a : Nat), iv .i64 (e : Nat), .s (.fn Fn.impl_look_1 []), iv .i64 (i : Nat)] h = some (.done [] h') ∧ Hs h' b (insOuter ltS a e i d) ∧ Oth b h h' := by
  intro k
  induction k with
  | zero =>
    intro i h d hi hin hs hd
    rw [eq_slices_insertionSortCmpFunc_impl_seen_l0, vcase_b, if_neg (by simp; omega), tidy_self]
    unfold insOuter
    rw [if_neg (by omega)]
    exact ⟨h, rfl, hs, Oth.refl _ _⟩
  | succ k ih =>
    intro i h d hi hin hs hd
    rw [eq_slices_insertionSortCmpFunc_impl_seen_l0, vcase_b, if_pos (by simp; omega)]
    obtain ⟨h1, e1, w1, o1⟩ := lp_ins2 (b := b) (n := n) (a := a) (e := e) (i0 := i) hn (by omega) i h d hs hd (by omega)
    rw [e1, ob, lcase_done]
    simp only [gx0, gx1, ob, gV1_s, gI_i]
    rw [o1.tidy hs.n, w64 (n := (i : Int) + 1) (by omega) (by omega), show (i : Int) + 1 = ((i + 1 : Nat) : Int) from by omega]
    obtain ⟨h2, e2, w2, o2⟩ := ih (i + 1) h1 _ (by omega) (by omega) w1 (by rw [size_insInner]; exact hd)
    refine ⟨h2, e2, ?_, o1.trans o2⟩
    unfold insOuter
    rw [if_pos (by omega)]; exact w2
theorem r_insertion {b n a e : Nat} {h : H} {d : Array SeenD} (hs : Hs h b d) (hd : n = d.size) (hn : n ≤ 100000) (he : e ≤ n) (ha : a ≤ n) :
    ∃ h', call Ev Fn.slices_insertionSortCmpFunc_impl_seen [sv b 0 n, iv .i64 (a : Nat), iv .i64 (e : Nat), .s (.fn Fn.impl_look_1 [])] h = some (.tup [], h') ∧ Hs h' b (insertionSort ltS d a e) ∧ Oth b h h' := by
  rw [eq_slices_insertionSortCmpFunc_impl_seen, w64 (n := (a : Int) + 1) (by omega) (by omega), show (a : Int) + 1 = ((a + 1 : Nat) : Int) from by omega]
  obtain ⟨h', e1, w1, o1⟩ := lp_ins (b := b) (a := a) hn he (e - (a + 1)) (a + 1) h d rfl (by omega) hs hd
  rw [e1, ob, lcase_done]
  exact ⟨h', rfl, w1, o1⟩
end Vm
/-
  Heap sort and reversing of seen rows.
-/
namespace Vm
open Go Go.Sort
theorem sift_J {b n first root c : Nat} {hi : Int} {h : H} {d : Array SeenD} (hn : n ≤ 100000) (hs : Hs h b d) (hd : n = d.size) (h1 : first + root < n) (h2 : first + c < n) :
    ∃ h', Hs h' b (swp d (first + root) (first + c)) ∧ Oth b h h' ∧ Jn.slices_siftDownCmpFunc_impl_seen_l0_0 (c : Int) (sv b 0 n) (first : Int) (root : Int) h hi =
      if ltS d[first + root]! d[first + c]! = true then Lp.slices_siftDownCmpFunc_impl_seen 0 [sv b 0 n, iv .i64 hi, iv .i64 (first : Int), .s (.fn Fn.impl_look_1 []), iv .i64 (c : Int)] h' else some (.ret (.tup []) h) := by
  obtain ⟨h', e1, w1, o1⟩ := hs.st2 (x := d[first + c]!) (y := d[first + root]!) hd (i := first + root) (j := first + c) (by omega) (by omega)
  refine ⟨h', w1, o1, ?_⟩
  unfold Jn.slices_siftDownCmpFunc_impl_seen_l0_0
  rw [w64 (n := (first : Int) + (root : Int)) (by omega) (by omega), w64 (n := (first : Int) + (c : Int)) (by omega) (by omega), show (first : Int) + (root : Int) = ((first + root : Nat) : Int) from by omega, show (first : Int) + (c : Int) = ((first + c : Nat) : Int) from by omega]
  rw [hs.ldG hd (by omega), hs.ldG hd (by omega), pc (p_look1 d[first + root]! d[first + c]!) rfl]
  simp only [gV1_s, gI_i, hchk_self]
  rw [ordI_lt, vcase_b]
  by_cases hl : ltS d[first + root]! d[first + c]! = true
  · rw [if_pos hl, if_neg (by simp [hl]), hs.ldG hd (by omega), hs.ldG hd (by omega), e1, o1.tidy hs.n]
  · rw [if_neg hl, if_pos (by simpa using hl)]
theorem lp_sift {b n first hi : Nat} (hn : n ≤ 100000) (hf : first + hi ≤ n) : ∀ (k root : Nat) (h : H) (d : Array SeenD), hi - root ≤ k → root ≤ n → Hs h b d → n = d.size →
    ∃ h' o, Lp.slices_siftDownCmpFunc_impl_seen 0 [sv b 0 n, iv .i64 (hi : Nat), iv .i64 (first : Nat), .s (.fn Fn.impl_look_1 []), iv .i64 (root : Nat)] h = some o ∧ (o = .done [] h' ∨ o = .ret (.tup []) h') ∧ Hs h' b (siftDown ltS hi first root d) ∧ Oth b h h' := by
  intro k
  induction k with
  | zero =>
    intro root h d hk hr hs hd
    rw [eq_slices_siftDownCmpFunc_impl_seen_l0, w64 (n := 2 * (root : Int)) (by omega) (by omega), w64 (n := 2 * (root : Int) + 1) (by omega) (by omega), vcase_b, if_pos (by simp; omega), tidy_self]
    rw [siftDown, dif_pos (by omega)]
    exact ⟨h, _, rfl, .inl rfl, hs, Oth.refl _ _⟩
  | succ k ih =>
    intro root h d hk hr hs hd
    rw [eq_slices_siftDownCmpFunc_impl_seen_l0, w64 (n := 2 * (root : Int)) (by omega) (by omega), w64 (n := 2 * (root : Int) + 1) (by omega) (by omega), vcase_b, siftDown]
    by_cases h1 : 2 * root + 1 ≥ hi
    · rw [if_pos (by simp; omega), tidy_self, dif_pos h1]
      exact ⟨h, _, rfl, .inl rfl, hs, Oth.refl _ _⟩
    rw [if_neg (by simp; omega), dif_neg h1, vcase_b, w64 (n := 2 * (root : Int) + 1 + 1) (by omega) (by omega)]
    -- one child
    have go : ∀ c : Nat, root < c → c < hi → ∃ h' o, Jn.slices_siftDownCmpFunc_impl_seen_l0_0 (c : Int) (sv b 0 n) (first : Int) (root : Int) h (hi : Int) = some o ∧ (o = .done [] h' ∨ o = .ret (.tup []) h') ∧ Hs h' b (if (!ltS d[first + root]! d[first + c]!) = true then d else siftDown ltS hi first c (swp d (first + root) (first + c))) ∧ Oth b h h' := fun c hc1 hc2 => by
      obtain ⟨h', w1, o1, e1⟩ := sift_J (hi := (hi : Int)) hn hs hd (first := first) (root := root) (c := c) (by omega) (by omega)
      rw [e1]
      by_cases hl : ltS d[first + root]! d[first + c]! = true
      · rw [if_pos hl, if_neg (by simp [hl])]
        obtain ⟨h2, o, e2, f2, w2, o2⟩ := ih c h' _ (by omega) (by omega) w1 (by simpa [swp] using hd)
        exact ⟨h2, o, e2, f2, w2, o1.trans o2⟩
      · rw [if_neg hl, if_pos (by simpa using hl)]
        exact ⟨h, _, rfl, .inr rfl, hs, Oth.refl _ _⟩
    have g1 := go (2 * root + 1) (by omega) (by omega)
    rw [show 2 * (root : Int) + 1 + 1 = ((2 * root + 2 : Nat) : Int) from by omega, show 2 * (root : Int) + 1 = ((2 * root + 1 : Nat) : Int) from by omega]
    by_cases h2 : 2 * root + 1 + 1 < hi
    case neg =>
      rw [if_neg (by simp; omega), if_neg (by simp [h2]), hchk_self]
      unfold Jn.slices_siftDownCmpFunc_impl_seen_l0_1
      rw [vcase_b, if_neg (by simp), w64 (n := 2 * (root : Int)) (by omega) (by omega), w64 (n := 2 * (root : Int) + 1) (by omega) (by omega), show 2 * (root : Int) + 1 = ((2 * root + 1 : Nat) : Int) from by omega]
      exact g1
    have g2 := go (2 * root + 2) (by omega) (by omega)
    rw [if_pos (by simp; omega), w64 (n := (first : Int) + ((2 * root + 1 : Nat) : Int)) (by omega) (by omega), show (first : Int) + ((2 * root + 1 : Nat) : Int) = ((first + (2 * root + 1) : Nat) : Int) from by omega,
      w64 (n := ((first + (2 * root + 1) : Nat) : Int) + 1) (by omega) (by omega), show ((first + (2 * root + 1) : Nat) : Int) + 1 = ((first + (2 * root + 1) + 1 : Nat) : Int) from by omega, hs.ldG hd (by omega), hs.ldG hd (by omega), pc (p_look1 d[first + (2 * root + 1)]! d[first + (2 * root + 1) + 1]!) rfl]
    simp only [gV1_s, gI_i, hchk_self]
    rw [ordI_lt]
    unfold Jn.slices_siftDownCmpFunc_impl_seen_l0_1
    rw [vcase_b, w64 (n := 2 * (root : Int)) (by omega) (by omega), w64 (n := 2 * (root : Int) + 1) (by omega) (by omega), w64 (n := 2 * (root : Int) + 1 + 1) (by omega) (by omega), show 2 * (root : Int) + 1 + 1 = ((2 * root + 2 : Nat) : Int) from by omega, show 2 * (root : Int) + 1 = ((2 * root + 1 : Nat) : Int) from by omega]
    by_cases hl : ltS d[first + (2 * root + 1)]! d[first + (2 * root + 1) + 1]! = true
    · rw [if_pos hl, if_pos (by simp [hl]; omega), dif_pos (show 2 * root + 2 < hi by omega)]
      exact g2
    · rw [if_neg hl, if_neg (by simp [hl])]
      exact g1
theorem r_sift {b n first hi root : Nat} {h : H} {d : Array SeenD} (hs : Hs h b d) (hd : n = d.size) (hn : n ≤ 100000) (hf : first + hi ≤ n) (hr : root ≤ n) :
    ∃ h', call Ev Fn.slices_siftDownCmpFunc_impl_seen [sv b 0 n, iv .i64 (root : Nat), iv .i64 (hi : Nat), iv .i64 (first : Nat), .s (.fn Fn.impl_look_1 [])] h = some (.tup [], h') ∧ Hs h' b (siftDown ltS hi first root d) ∧ Oth b h h' := by
  rw [eq_slices_siftDownCmpFunc_impl_seen]
  obtain ⟨h', o, e1, f1, w1, o1⟩ := lp_sift (b := b) hn hf (hi - root) root h d (Nat.le_refl _) hr hs hd
  rw [e1, ob]
  rcases f1 with rfl | rfl
  · exact ⟨h', rfl, w1, o1⟩
  · exact ⟨h', rfl, w1, o1⟩
theorem size_sift (hi first : Nat) : ∀ (k root : Nat) (d : Array SeenD), hi - root ≤ k → (siftDown ltS hi first root d).size = d.size
  | 0, root, d, hk => by rw [siftDown, dif_pos (by omega)]
  | k + 1, root, d, hk => by
    rw [siftDown]
    split
    · rfl
    split
    · split
      · rfl
      · split
        · rw [size_sift hi first k _ _ (by omega)]; simp [swp]
        · rfl
    · split
      · rfl
      · rw [size_sift hi first k _ _ (by omega)]; simp [swp]
end Vm
/-
  Heap sort and reversing of seen rows.
-/
namespace Vm
open Go Go.Sort
theorem bin_quo' {t : Nat} {a b : Int} (ha : 0 ≤ a) (hb : 0 < b) (h : a < 9223372036854775808) : bin Ev .quo t (iv .i64 a) (iv .i64 b) = some (iv .i64 (a / b)) := by
  have h1 : a / b ≤ a := Int.ediv_le_self _ ha
  have h2 : 0 ≤ a / b := Int.ediv_nonneg ha (by omega)
  simp only [bin, binI, if_true]
  rw [if_neg (by omega), Int.tdiv_eq_ediv_of_nonneg ha, w64 (by omega) (by omega)]
theorem lp_heap0 {b n first hi : Nat} (hn : n ≤ 100000) (hf : first + hi ≤ n) : ∀ (k : Nat) (h : H) (d : Array SeenD), k ≤ n → Hs h b d → n = d.size →
    ∃ h', Lp.slices_heapSortCmpFunc_impl_seen 0 [sv b 0 n, .s (.fn Fn.impl_look_1 []), iv .i64 (first : Nat), iv .i64 0, iv .i64 (hi : Nat), iv .i64 ((k : Int) - 1)] h = some (.done [sv b 0 n, .s (.fn Fn.impl_look_1 []), iv .i64 (first : Nat), iv .i64 0, iv .i64 (hi : Nat)] h') ∧ Hs h' b (heapBuild ltS hi first k d) ∧ Oth b h h' := by
  intro k
  induction k with
  | zero =>
    intro h d hk hs hd
    rw [eq_slices_heapSortCmpFunc_impl_seen_l0, vcase_b, if_neg (by simp), tidy_self]
    exact ⟨h, rfl, hs, Oth.refl _ _⟩
  | succ k ih =>
    intro h d hk hs hd
    rw [eq_slices_heapSortCmpFunc_impl_seen_l0, vcase_b, if_pos (by simp), show ((k + 1 : Nat) : Int) - 1 = (k : Int) from by omega]
    obtain ⟨h1, e1, w1, o1⟩ := r_sift (b := b) (first := first) (hi := hi) (root := k) hs hd hn hf (by omega)
    rw [e1, ob]
    dsimp only
    rw [o1.tidy hs.n, o1.tidy hs.n, w64 (n := (k : Int) - 1) (by omega) (by omega)]
    obtain ⟨h2, e2, w2, o2⟩ := ih h1 _ (by omega) w1 (by rw [size_sift _ _ (hi - k) _ _ (Nat.le_refl _)]; exact hd)
    exact ⟨h2, e2, w2, o1.trans o2⟩
theorem size_build (hi first : Nat) : ∀ (k : Nat) (d : Array SeenD), (heapBuild ltS hi first k d).size = d.size
  | 0, d => rfl
  | k + 1, d => by
    show (heapBuild ltS hi first k (siftDown ltS hi first k d)).size = d.size
    rw [size_build hi first k, size_sift _ _ (hi - k) _ _ (Nat.le_refl _)]
theorem lp_heap2 {b n first : Nat} (hn : n ≤ 100000) : ∀ (k : Nat) (h : H) (d : Array SeenD), first + k ≤ n → Hs h b d → n = d.size →
    ∃ h', Lp.slices_heapSortCmpFunc_impl_seen 2 [sv b 0 n, .s (.fn Fn.impl_look_1 []), iv .i64 (first : Nat), iv .i64 0, iv .i64 ((k : Int) - 1)] h = some (.done [] h') ∧ Hs h' b (heapPop ltS first k d) ∧ Oth b h h' := by
  intro k
  induction k with
  | zero =>
    intro h d hk hs hd
    rw [eq_slices_heapSortCmpFunc_impl_seen_l2, vcase_b, if_neg (by simp), tidy_self]
    exact ⟨h, rfl, hs, Oth.refl _ _⟩
  | succ k ih =>
    intro h d hk hs hd
    rw [eq_slices_heapSortCmpFunc_impl_seen_l2, vcase_b, if_pos (by simp), show ((k + 1 : Nat) : Int) - 1 = (k : Int) from by omega]
    rw [w64 (n := (first : Int) + (k : Int)) (by omega) (by omega), show (first : Int) + (k : Int) = ((first + k : Nat) : Int) from by omega, hs.ldG hd (by omega), hs.ldG hd (by omega)]
    obtain ⟨h1, e1, w1, o1⟩ := hs.st2 (x := d[first + k]!) (y := d[first]!) hd (i := first) (j := first + k) (by omega) (by omega)
    rw [e1]
    have hd1 : n = (swp d first (first + k)).size := by simpa [swp] using hd
    obtain ⟨h2, e2, w2, o2⟩ := r_sift (b := b) (first := first) (hi := k) (root := 0) (d := swp d first (first + k)) w1 hd1 hn (by omega) (by omega)
    have e2' : call Ev Fn.slices_siftDownCmpFunc_impl_seen [sv b 0 n, iv .i64 0, iv .i64 (k : Nat), iv .i64 (first : Nat), .s (.fn Fn.impl_look_1 [])] h1 = some (.tup [], h2) := e2
    rw [e2', ob]
    dsimp only
    rw [o2.tidy w1.n, (o1.trans o2).tidy hs.n, w64 (n := (k : Int) - 1) (by omega) (by omega)]
    obtain ⟨h3, e3, w3, o3⟩ := ih h2 _ (by omega) w2 (by rw [size_sift _ _ (k - 0) _ _ (Nat.le_refl _)]; exact hd1)
    exact ⟨h3, e3, w3, (o1.trans o2).trans o3⟩
theorem r_heap {b n a e : Nat} {h : H} {d : Array SeenD} (hs : Hs h b d) (hd : n = d.size) (hn : n ≤ 100000) (he : e ≤ n) (ha : a < e) :
    ∃ h', call Ev Fn.slices_heapSortCmpFunc_impl_seen [sv b 0 n, iv .i64 (a : Nat), iv .i64 (e : Nat), .s (.fn Fn.impl_look_1 [])] h = some (.tup [], h') ∧ Hs h' b (heapSort ltS d a e) ∧ Oth b h h' := by
  rw [eq_slices_heapSortCmpFunc_impl_seen, w64 (n := (e : Int) - (a : Int)) (by omega) (by omega), w64 (n := (e : Int) - (a : Int) - 1) (by omega) (by omega), bin_quo' (by omega) (by omega) (by omega), ob]
  simp only [gV1_s, gI_i]
  rw [show ((e : Int) - (a : Int) - 1) / 2 = ((((e - a - 1) / 2 + 1 : Nat) : Int) - 1) from by omega, show (e : Int) - (a : Int) = ((e - a : Nat) : Int) from by omega]
  obtain ⟨h1, e1, w1, o1⟩ := lp_heap0 (b := b) (n := n) (first := a) (hi := e - a) hn (by omega) ((e - a - 1) / 2 + 1) h d (by omega) hs hd
  rw [e1, ob, lcase_done]
  simp only [gx0, gx1, ob, gV1_s, gI_i]
  rw [w64 (n := ((e - a : Nat) : Int) - 1) (by omega) (by omega)]
  obtain ⟨h2, e2, w2, o2⟩ := lp_heap2 (b := b) (n := n) (first := a) hn (e - a) h1 _ (by omega) w1 (by rw [size_build]; exact hd)
  rw [e2, ob, lcase_done]
  exact ⟨h2, rfl, w2, o1.trans o2⟩
theorem lp_rev {b n : Nat} (hn : n ≤ 100000) : ∀ (k i j : Nat) (h : H) (d : Array SeenD), j - i ≤ k → i ≤ n → j < n → Hs h b d → n = d.size →
    ∃ h', Lp.slices_reverseRangeCmpFunc_impl_seen 0 [sv b 0 n, iv .i64 (i : Nat), iv .i64 (j : Nat)] h = some (.done [] h') ∧ Hs h' b (reverseLoop i j d) ∧ Oth b h h' := by
  intro k
  induction k with
  | zero =>
    intro i j h d hk hi hj hs hd
    rw [eq_slices_reverseRangeCmpFunc_impl_seen_l0, vcase_b, if_neg (by simp; omega), tidy_self, reverseLoop, if_neg (by omega)]
    exact ⟨h, rfl, hs, Oth.refl _ _⟩
  | succ k ih =>
    intro i j h d hk hi hj hs hd
    rw [eq_slices_reverseRangeCmpFunc_impl_seen_l0, vcase_b, reverseLoop]
    by_cases hij : i < j
    case neg =>
      rw [if_neg (by simp; omega), tidy_self, if_neg hij]
      exact ⟨h, rfl, hs, Oth.refl _ _⟩
    rw [if_pos (by simp; omega), if_pos hij, hs.ldG hd (by omega), hs.ldG hd (by omega)]
    obtain ⟨h1, e1, w1, o1⟩ := hs.st2 (x := d[j]!) (y := d[i]!) hd (i := i) (j := j) (by omega) (by omega)
    rw [e1, o1.tidy hs.n, w64 (n := (i : Int) + 1) (by omega) (by omega), w64 (n := (j : Int) - 1) (by omega) (by omega), show (i : Int) + 1 = ((i + 1 : Nat) : Int) from by omega, show (j : Int) - 1 = ((j - 1 : Nat) : Int) from by omega]
    obtain ⟨h2, e2, w2, o2⟩ := ih (i + 1) (j - 1) h1 _ (by omega) (by omega) (by omega) w1 (by simpa [swp] using hd)
    exact ⟨h2, e2, w2, o1.trans o2⟩
theorem r_reverse {b n a e : Nat} {h : H} {d : Array SeenD} (hs : Hs h b d) (hd : n = d.size) (hn : n ≤ 100000) (he : e ≤ n) (ha : a < e) :
    ∃ h', call Ev Fn.slices_reverseRangeCmpFunc_impl_seen [sv b 0 n, iv .i64 (a : Nat), iv .i64 (e : Nat), .s (.fn Fn.impl_look_1 [])] h = some (.tup [], h') ∧ Hs h' b (reverseRange d a e) ∧ Oth b h h' := by
  rw [eq_slices_reverseRangeCmpFunc_impl_seen, w64 (n := (e : Int) - 1) (by omega) (by omega), show (e : Int) - 1 = ((e - 1 : Nat) : Int) from by omega]
  obtain ⟨h1, e1, w1, o1⟩ := lp_rev (b := b) hn (e - 1 - a) a (e - 1) h d (Nat.le_refl _) (by omega) (by omega) hs hd
  rw [e1, ob, lcase_done]
  exact ⟨h1, rfl, w1, o1⟩
end Vm
/-
  The two partitions of seen rows. (Printed by wip/tools/so5.py.)
-/
namespace Vm
open Go Go.Sort
theorem scan_upL {p : SeenD → Bool} {d : Array SeenD} {j N : Nat} (L : Nat → Option LOut) (O : Nat → LOut) (hj : j ≤ N) (hL : ∀ i, i ≤ N + 1 → L i = if i ≤ j ∧ p d[i]! = true then L (i + 1) else some (O i)) : ∀ (k i : Nat), j + 1 - i ≤ k → i ≤ N + 1 → L i = some (O (scanUp p d j i))
  | 0, i, hk, hi => by
    rw [hL i hi, if_neg (by omega), scanUp, if_neg (by simp; omega)]
  | k + 1, i, hk, hi => by
    rw [hL i hi, scanUp]
    by_cases h : i ≤ j ∧ p d[i]! = true
    · rw [if_pos h, if_pos (by simp [h.1, h.2])]
      exact scan_upL L O hj hL k (i + 1) (by omega) (by omega)
    · rw [if_neg h, if_neg (by simpa using h)]
theorem scan_downL {p : SeenD → Bool} {d : Array SeenD} {i n : Nat} (L : Nat → Option LOut) (O : Nat → LOut) (hi : 1 ≤ i) (hL : ∀ j, j < n → L j = if i ≤ j ∧ p d[j]! = true then L (j - 1) else some (O j)) : ∀ (j : Nat), j < n → L j = some (O (scanDown p d i j))
  | 0, hj => by
    rw [hL 0 hj, if_neg (by omega)]; rfl
  | j + 1, hj => by
    rw [hL (j + 1) hj]
    unfold scanDown
    by_cases h : i ≤ j + 1 ∧ p d[j + 1]! = true
    · rw [if_pos h, if_pos (by simp [h.1, h.2])]
      exact scan_downL L O hi hL j (by omega)
    · rw [if_neg h, if_neg (by simpa using h)]
theorem lp_pt0 {b n a i j : Nat} {h : H} {d : Array SeenD} (hn : n ≤ 100000) (hs : Hs h b d) (hd : n = d.size) (ha : a < n) (hj : j < n) (hi : i ≤ n + 1) :
    Lp.slices_partitionCmpFunc_impl_seen 0 [sv b 0 n, iv .i64 (a : Nat), .s (.fn Fn.impl_look_1 []), iv .i64 (i : Nat), iv .i64 (j : Nat)] h = some (.done [sv b 0 n, iv .i64 (a : Nat), .s (.fn Fn.impl_look_1 []), iv .i64 ((scanUp (fun x => ltS x d[a]!) d j i : Nat) : Int), iv .i64 (j : Nat)] h) := by
  refine scan_upL (p := (fun x => ltS x d[a]!)) (d := d) (j := j) (N := n) (fun i => Lp.slices_partitionCmpFunc_impl_seen 0 [sv b 0 n, iv .i64 (a : Nat), .s (.fn Fn.impl_look_1 []), iv .i64 (i : Nat), iv .i64 (j : Nat)] h) (fun i => .done [sv b 0 n, iv .i64 (a : Nat), .s (.fn Fn.impl_look_1 []), iv .i64 (i : Nat), iv .i64 (j : Nat)] h) (by omega) ?_ (j + 1 - i) i (Nat.le_refl _) hi
  intro i hi
  show Lp.slices_partitionCmpFunc_impl_seen 0 [sv b 0 n, iv .i64 (a : Nat), .s (.fn Fn.impl_look_1 []), iv .i64 (i : Nat), iv .i64 (j : Nat)] h = _
  rw [eq_slices_partitionCmpFunc_impl_seen_l0, vcase_b]
  by_cases hij : i ≤ j
  case neg =>
    rw [if_neg (by simp; omega), if_neg (fun hh => hij hh.1), hchk_self, tidy_self]
  rw [if_pos (by simp; omega), hs.ldG hd (by omega), hs.ldG hd (by omega), pc (p_look1 d[i]! d[a]!) rfl]
  simp only [gV1_s, gI_i, hchk_self]
  rw [ordI_lt, vcase_b, tidy_self, tidy_self]
  cases hl : ltS d[i]! d[a]!
  · rw [if_neg (by simp), if_neg (by simp)]
  · rw [if_pos (by simp), if_pos ⟨hij, by simp [hl]⟩, w64 (n := (i : Int) + 1) (by omega) (by omega), show (i : Int) + 1 = ((i + 1 : Nat) : Int) from by omega]
theorem lp_pt2 {b n a i j : Nat} {h : H} {d : Array SeenD} (hn : n ≤ 100000) (hs : Hs h b d) (hd : n = d.size) (ha : a < n) (hi : 1 ≤ i) (hin : i ≤ n + 1) (hj : j < n) :
    Lp.slices_partitionCmpFunc_impl_seen 2 [sv b 0 n, iv .i64 (a : Nat), .s (.fn Fn.impl_look_1 []), iv .i64 (i : Nat), iv .i64 (j : Nat)] h = some (.done [sv b 0 n, iv .i64 (a : Nat), .s (.fn Fn.impl_look_1 []), iv .i64 (i : Nat), iv .i64 ((scanDown (fun x => !ltS x d[a]!) d i j : Nat) : Int)] h) := by
  refine scan_downL (p := (fun x => !ltS x d[a]!)) (d := d) (i := i) (n := n) (fun j => Lp.slices_partitionCmpFunc_impl_seen 2 [sv b 0 n, iv .i64 (a : Nat), .s (.fn Fn.impl_look_1 []), iv .i64 (i : Nat), iv .i64 (j : Nat)] h) (fun j => .done [sv b 0 n, iv .i64 (a : Nat), .s (.fn Fn.impl_look_1 []), iv .i64 (i : Nat), iv .i64 (j : Nat)] h) hi ?_ j hj
  intro j hj
  show Lp.slices_partitionCmpFunc_impl_seen 2 [sv b 0 n, iv .i64 (a : Nat), .s (.fn Fn.impl_look_1 []), iv .i64 (i : Nat), iv .i64 (j : Nat)] h = _
  rw [eq_slices_partitionCmpFunc_impl_seen_l2, vcase_b]
  by_cases hij : i ≤ j
  case neg =>
    rw [if_neg (by simp; omega), if_neg (fun hh => hij hh.1), hchk_self, tidy_self]
  rw [if_pos (by simp; omega), hs.ldG hd (by omega), hs.ldG hd (by omega), pc (p_look1 d[j]! d[a]!) rfl]
  simp only [gV1_s, gI_i, hchk_self]
  rw [ordI_lt, vcase_b, tidy_self, tidy_self]
  cases hl : ltS d[j]! d[a]!
  · rw [if_pos (by simp), if_pos ⟨hij, by simp [hl]⟩, w64 (n := (j : Int) - 1) (by omega) (by omega), show (j : Int) - 1 = ((j - 1 : Nat) : Int) from by omega]
  · rw [if_neg (by simp), if_neg (by simp)]
theorem lp_pt6 {b n a i j : Nat} {h : H} {d : Array SeenD} (hn : n ≤ 100000) (hs : Hs h b d) (hd : n = d.size) (ha : a < n) (hj : j < n) (hi : i ≤ n + 1) :
    Lp.slices_partitionCmpFunc_impl_seen 6 [sv b 0 n, iv .i64 (a : Nat), .s (.fn Fn.impl_look_1 []), iv .i64 (i : Nat), iv .i64 (j : Nat)] h = some (.done [sv b 0 n, iv .i64 (a : Nat), .s (.fn Fn.impl_look_1 []), iv .i64 ((scanUp (fun x => ltS x d[a]!) d j i : Nat) : Int), iv .i64 (j : Nat)] h) := by
  refine scan_upL (p := (fun x => ltS x d[a]!)) (d := d) (j := j) (N := n) (fun i => Lp.slices_partitionCmpFunc_impl_seen 6 [sv b 0 n, iv .i64 (a : Nat), .s (.fn Fn.impl_look_1 []), iv .i64 (i : Nat), iv .i64 (j : Nat)] h) (fun i => .done [sv b 0 n, iv .i64 (a : Nat), .s (.fn Fn.impl_look_1 []), iv .i64 (i : Nat), iv .i64 (j : Nat)] h) (by omega) ?_ (j + 1 - i) i (Nat.le_refl _) hi
  intro i hi
  show Lp.slices_partitionCmpFunc_impl_seen 6 [sv b 0 n, iv .i64 (a : Nat), .s (.fn Fn.impl_look_1 []), iv .i64 (i : Nat), iv .i64 (j : Nat)] h = _
  rw [eq_slices_partitionCmpFunc_impl_seen_l6, vcase_b]
  by_cases hij : i ≤ j
  case neg =>
    rw [if_neg (by simp; omega), if_neg (fun hh => hij hh.1), hchk_self, tidy_self]
  rw [if_pos (by simp; omega), hs.ldG hd (by omega), hs.ldG hd (by omega), pc (p_look1 d[i]! d[a]!) rfl]
  simp only [gV1_s, gI_i, hchk_self]
  rw [ordI_lt, vcase_b, tidy_self, tidy_self]
  cases hl : ltS d[i]! d[a]!
  · rw [if_neg (by simp), if_neg (by simp)]
  · rw [if_pos (by simp), if_pos ⟨hij, by simp [hl]⟩, w64 (n := (i : Int) + 1) (by omega) (by omega), show (i : Int) + 1 = ((i + 1 : Nat) : Int) from by omega]
theorem lp_pt8 {b n a i j : Nat} {h : H} {d : Array SeenD} (hn : n ≤ 100000) (hs : Hs h b d) (hd : n = d.size) (ha : a < n) (hi : 1 ≤ i) (hin : i ≤ n + 1) (hj : j < n) :
    Lp.slices_partitionCmpFunc_impl_seen 8 [sv b 0 n, iv .i64 (a : Nat), .s (.fn Fn.impl_look_1 []), iv .i64 (i : Nat), iv .i64 (j : Nat)] h = some (.done [sv b 0 n, iv .i64 (a : Nat), .s (.fn Fn.impl_look_1 []), iv .i64 (i : Nat), iv .i64 ((scanDown (fun x => !ltS x d[a]!) d i j : Nat) : Int)] h) := by
  refine scan_downL (p := (fun x => !ltS x d[a]!)) (d := d) (i := i) (n := n) (fun j => Lp.slices_partitionCmpFunc_impl_seen 8 [sv b 0 n, iv .i64 (a : Nat), .s (.fn Fn.impl_look_1 []), iv .i64 (i : Nat), iv .i64 (j : Nat)] h) (fun j => .done [sv b 0 n, iv .i64 (a : Nat), .s (.fn Fn.impl_look_1 []), iv .i64 (i : Nat), iv .i64 (j : Nat)] h) hi ?_ j hj
  intro j hj
  show Lp.slices_partitionCmpFunc_impl_seen 8 [sv b 0 n, iv .i64 (a : Nat), .s (.fn Fn.impl_look_1 []), iv .i64 (i : Nat), iv .i64 (j : Nat)] h = _
  rw [eq_slices_partitionCmpFunc_impl_seen_l8, vcase_b]
  by_cases hij : i ≤ j
  case neg =>
    rw [if_neg (by simp; omega), if_neg (fun hh => hij hh.1), hchk_self, tidy_self]
  rw [if_pos (by simp; omega), hs.ldG hd (by omega), hs.ldG hd (by omega), pc (p_look1 d[j]! d[a]!) rfl]
  simp only [gV1_s, gI_i, hchk_self]
  rw [ordI_lt, vcase_b, tidy_self, tidy_self]
  cases hl : ltS d[j]! d[a]!
  · rw [if_pos (by simp), if_pos ⟨hij, by simp [hl]⟩, w64 (n := (j : Int) - 1) (by omega) (by omega), show (j : Int) - 1 = ((j - 1 : Nat) : Int) from by omega]
  · rw [if_neg (by simp), if_neg (by simp)]
theorem lp_pe2 {b n a i j : Nat} {h : H} {d : Array SeenD} (hn : n ≤ 100000) (hs : Hs h b d) (hd : n = d.size) (ha : a < n) (hj : j < n) (hi : i ≤ n + 1) :
    Lp.slices_partitionEqualCmpFunc_impl_seen 2 [sv b 0 n, iv .i64 (a : Nat), .s (.fn Fn.impl_look_1 []), iv .i64 (i : Nat), iv .i64 (j : Nat)] h = some (.done [sv b 0 n, iv .i64 (a : Nat), .s (.fn Fn.impl_look_1 []), iv .i64 ((scanUp (fun x => !ltS d[a]! x) d j i : Nat) : Int), iv .i64 (j : Nat)] h) := by
  refine scan_upL (p := (fun x => !ltS d[a]! x)) (d := d) (j := j) (N := n) (fun i => Lp.slices_partitionEqualCmpFunc_impl_seen 2 [sv b 0 n, iv .i64 (a : Nat), .s (.fn Fn.impl_look_1 []), iv .i64 (i : Nat), iv .i64 (j : Nat)] h) (fun i => .done [sv b 0 n, iv .i64 (a : Nat), .s (.fn Fn.impl_look_1 []), iv .i64 (i : Nat), iv .i64 (j : Nat)] h) (by omega) ?_ (j + 1 - i) i (Nat.le_refl _) hi
  intro i hi
  show Lp.slices_partitionEqualCmpFunc_impl_seen 2 [sv b 0 n, iv .i64 (a : Nat), .s (.fn Fn.impl_look_1 []), iv .i64 (i : Nat), iv .i64 (j : Nat)] h = _
  rw [eq_slices_partitionEqualCmpFunc_impl_seen_l2, vcase_b]
  by_cases hij : i ≤ j
  case neg =>
    rw [if_neg (by simp; omega), if_neg (fun hh => hij hh.1), hchk_self, tidy_self]
  rw [if_pos (by simp; omega), hs.ldG hd (by omega), hs.ldG hd (by omega), pc (p_look1 d[a]! d[i]!) rfl]
  simp only [gV1_s, gI_i, hchk_self]
  rw [ordI_lt, vcase_b, tidy_self, tidy_self]
  cases hl : ltS d[a]! d[i]!
  · rw [if_pos (by simp), if_pos ⟨hij, by simp [hl]⟩, w64 (n := (i : Int) + 1) (by omega) (by omega), show (i : Int) + 1 = ((i + 1 : Nat) : Int) from by omega]
  · rw [if_neg (by simp), if_neg (by simp)]
theorem lp_pe4 {b n a i j : Nat} {h : H} {d : Array SeenD} (hn : n ≤ 100000) (hs : Hs h b d) (hd : n = d.size) (ha : a < n) (hi : 1 ≤ i) (hin : i ≤ n + 1) (hj : j < n) :
    Lp.slices_partitionEqualCmpFunc_impl_seen 4 [sv b 0 n, iv .i64 (a : Nat), .s (.fn Fn.impl_look_1 []), iv .i64 (i : Nat), iv .i64 (j : Nat)] h = some (.done [sv b 0 n, iv .i64 (a : Nat), .s (.fn Fn.impl_look_1 []), iv .i64 (i : Nat), iv .i64 ((scanDown (fun x => ltS d[a]! x) d i j : Nat) : Int)] h) := by
  refine scan_downL (p := (fun x => ltS d[a]! x)) (d := d) (i := i) (n := n) (fun j => Lp.slices_partitionEqualCmpFunc_impl_seen 4 [sv b 0 n, iv .i64 (a : Nat), .s (.fn Fn.impl_look_1 []), iv .i64 (i : Nat), iv .i64 (j : Nat)] h) (fun j => .done [sv b 0 n, iv .i64 (a : Nat), .s (.fn Fn.impl_look_1 []), iv .i64 (i : Nat), iv .i64 (j : Nat)] h) hi ?_ j hj
  intro j hj
  show Lp.slices_partitionEqualCmpFunc_impl_seen 4 [sv b 0 n, iv .i64 (a : Nat), .s (.fn Fn.impl_look_1 []), iv .i64 (i : Nat), iv .i64 (j : Nat)] h = _
  rw [eq_slices_partitionEqualCmpFunc_impl_seen_l4, vcase_b]
  by_cases hij : i ≤ j
  case neg =>
    rw [if_neg (by simp; omega), if_neg (fun hh => hij hh.1), hchk_self, tidy_self]
  rw [if_pos (by simp; omega), hs.ldG hd (by omega), hs.ldG hd (by omega), pc (p_look1 d[a]! d[j]!) rfl]
  simp only [gV1_s, gI_i, hchk_self]
  rw [ordI_lt, vcase_b, tidy_self, tidy_self]
  cases hl : ltS d[a]! d[j]!
  · rw [if_neg (by simp), if_neg (by simp)]
  · rw [if_pos (by simp), if_pos ⟨hij, by simp [hl]⟩, w64 (n := (j : Int) - 1) (by omega) (by omega), show (j : Int) - 1 = ((j - 1 : Nat) : Int) from by omega]
theorem scanUp_le (p : SeenD → Bool) (d : Array SeenD) (j : Nat) : ∀ i : Nat, scanUp p d j i ≤ i ∨ scanUp p d j i ≤ j + 1 := by
  have : ∀ (k i : Nat), j + 1 - i ≤ k → scanUp p d j i ≤ i ∨ scanUp p d j i ≤ j + 1 := by
    intro k
    induction k with
    | zero => intro i hk; rw [scanUp, if_neg (by simp; omega)]; exact .inl (Nat.le_refl _)
    | succ k ih =>
      intro i hk
      rw [scanUp]
      split
      · rename_i h
        have hi : i ≤ j := by simp at h; exact h.1
        rcases ih (i + 1) (by omega) with h1 | h1
        · exact .inr (by omega)
        · exact .inr h1
      · exact .inl (Nat.le_refl _)
  intro i
  exact this _ i (Nat.le_refl _)
theorem lp_pt4 {b n a : Nat} (hn : n ≤ 100000) : ∀ (k i j : Nat) (h : H) (d : Array SeenD), j + 1 - i ≤ k → a < i → i ≤ n + 1 → j < n → Hs h b d → n = d.size → a < n →
    ∃ h', Lp.slices_partitionCmpFunc_impl_seen 4 [sv b 0 n, iv .i64 (a : Nat), .s (.fn Fn.impl_look_1 []), iv .i64 (i : Nat), iv .i64 (j : Nat)] h = some (.done [sv b 0 n, iv .i64 (a : Nat), iv .i64 ((partLoop ltS a i j d).1 : Nat)] h') ∧ Hs h' b (partLoop ltS a i j d).2 ∧ Oth b h h' := by
  intro k
  induction k with
  | zero =>
    intro i j h d hk hai hi hj hs hd ha
    rw [eq_slices_partitionCmpFunc_impl_seen_l4, lp_pt6 hn hs hd ha hj hi, partLoop_eq, ob, lcase_done]
    have u0 := scanUp_ge (fun x => ltS x d[a]!) d j i
    have u1 := scanUp_le (fun x => ltS x d[a]!) d j i
    generalize scanUp (fun x => ltS x d[a]!) d j i = i2 at u0 u1 ⊢
    have hu : i2 ≤ n + 1 := by omega
    simp only [gx0, gx1, ob, gV1_s, gI_i]
    rw [lp_pt8 hn hs hd ha (by omega) hu hj, ob, lcase_done]
    have v0 := scanDown_le (fun x => !ltS x d[a]!) d i2 j
    generalize scanDown (fun x => !ltS x d[a]!) d i2 j = j2 at v0 ⊢
    simp only [gx0, gx1, ob, gV1_s, gI_i]
    rw [vcase_b, if_pos (by simp; omega), if_pos (by omega), tidy_self]
    exact ⟨h, rfl, hs, Oth.refl _ _⟩
  | succ k ih =>
    intro i j h d hk hai hi hj hs hd ha
    rw [eq_slices_partitionCmpFunc_impl_seen_l4, lp_pt6 hn hs hd ha hj hi, partLoop_eq, ob, lcase_done]
    have u0 := scanUp_ge (fun x => ltS x d[a]!) d j i
    have u1 := scanUp_le (fun x => ltS x d[a]!) d j i
    generalize scanUp (fun x => ltS x d[a]!) d j i = i2 at u0 u1 ⊢
    have hu : i2 ≤ n + 1 := by omega
    simp only [gx0, gx1, ob, gV1_s, gI_i]
    rw [lp_pt8 hn hs hd ha (by omega) hu hj, ob, lcase_done]
    have v0 := scanDown_le (fun x => !ltS x d[a]!) d i2 j
    generalize scanDown (fun x => !ltS x d[a]!) d i2 j = j2 at v0 ⊢
    simp only [gx0, gx1, ob, gV1_s, gI_i]
    rw [vcase_b]
    by_cases hij : i2 > j2
    · rw [if_pos (by simp; omega), if_pos hij, tidy_self]
      exact ⟨h, rfl, hs, Oth.refl _ _⟩
    rw [if_neg (by simp; omega), if_neg hij, hs.ldG hd (by omega), hs.ldG hd (by omega)]
    obtain ⟨h1, e1, w1, o1⟩ := hs.st2 (x := d[j2]!) (y := d[i2]!) hd (i := i2) (j := j2) (by omega) (by omega)
    rw [e1, o1.tidy hs.n, w64 (n := (i2 : Int) + 1) (by omega) (by omega), w64 (n := (j2 : Int) - 1) (by omega) (by omega), show (i2 : Int) + 1 = ((i2 + 1 : Nat) : Int) from by omega, show (j2 : Int) - 1 = ((j2 - 1 : Nat) : Int) from by omega]
    obtain ⟨h2, e2, w2, o2⟩ := ih (i2 + 1) (j2 - 1) h1 (swp d i2 j2) (by omega) (by omega) (by omega) (by omega) w1 (by simpa [swp] using hd) ha
    exact ⟨h2, e2, w2, o1.trans o2⟩
theorem lp_pe0 {b n a : Nat} (hn : n ≤ 100000) : ∀ (k i j : Nat) (h : H) (d : Array SeenD), j + 1 - i ≤ k → a < i → i ≤ n + 1 → j < n → Hs h b d → n = d.size → a < n →
    ∃ h', Lp.slices_partitionEqualCmpFunc_impl_seen 0 [sv b 0 n, iv .i64 (a : Nat), .s (.fn Fn.impl_look_1 []), iv .i64 (i : Nat), iv .i64 (j : Nat)] h = some (.done [iv .i64 ((partEqLoop ltS a i j d).1 : Nat)] h') ∧ Hs h' b (partEqLoop ltS a i j d).2 ∧ Oth b h h' := by
  intro k
  induction k with
  | zero =>
    intro i j h d hk hai hi hj hs hd ha
    rw [eq_slices_partitionEqualCmpFunc_impl_seen_l0, lp_pe2 hn hs hd ha hj hi, partEqLoop_eq, ob, lcase_done]
    have u0 := scanUp_ge (fun x => !ltS d[a]! x) d j i
    have u1 := scanUp_le (fun x => !ltS d[a]! x) d j i
    generalize scanUp (fun x => !ltS d[a]! x) d j i = i2 at u0 u1 ⊢
    have hu : i2 ≤ n + 1 := by omega
    simp only [gx0, gx1, ob, gV1_s, gI_i]
    rw [lp_pe4 hn hs hd ha (by omega) hu hj, ob, lcase_done]
    have v0 := scanDown_le (fun x => ltS d[a]! x) d i2 j
    generalize scanDown (fun x => ltS d[a]! x) d i2 j = j2 at v0 ⊢
    simp only [gx0, gx1, ob, gV1_s, gI_i]
    rw [vcase_b, if_pos (by simp; omega), if_pos (by omega), tidy_self]
    exact ⟨h, rfl, hs, Oth.refl _ _⟩
  | succ k ih =>
    intro i j h d hk hai hi hj hs hd ha
    rw [eq_slices_partitionEqualCmpFunc_impl_seen_l0, lp_pe2 hn hs hd ha hj hi, partEqLoop_eq, ob, lcase_done]
    have u0 := scanUp_ge (fun x => !ltS d[a]! x) d j i
    have u1 := scanUp_le (fun x => !ltS d[a]! x) d j i
    generalize scanUp (fun x => !ltS d[a]! x) d j i = i2 at u0 u1 ⊢
    have hu : i2 ≤ n + 1 := by omega
    simp only [gx0, gx1, ob, gV1_s, gI_i]
    rw [lp_pe4 hn hs hd ha (by omega) hu hj, ob, lcase_done]
    have v0 := scanDown_le (fun x => ltS d[a]! x) d i2 j
    generalize scanDown (fun x => ltS d[a]! x) d i2 j = j2 at v0 ⊢
    simp only [gx0, gx1, ob, gV1_s, gI_i]
    rw [vcase_b]
    by_cases hij : i2 > j2
    · rw [if_pos (by simp; omega), if_pos hij, tidy_self]
      exact ⟨h, rfl, hs, Oth.refl _ _⟩
    rw [if_neg (by simp; omega), if_neg hij, hs.ldG hd (by omega), hs.ldG hd (by omega)]
    obtain ⟨h1, e1, w1, o1⟩ := hs.st2 (x := d[j2]!) (y := d[i2]!) hd (i := i2) (j := j2) (by omega) (by omega)
    rw [e1, o1.tidy hs.n, w64 (n := (i2 : Int) + 1) (by omega) (by omega), w64 (n := (j2 : Int) - 1) (by omega) (by omega), show (i2 : Int) + 1 = ((i2 + 1 : Nat) : Int) from by omega, show (j2 : Int) - 1 = ((j2 - 1 : Nat) : Int) from by omega]
    obtain ⟨h2, e2, w2, o2⟩ := ih (i2 + 1) (j2 - 1) h1 (swp d i2 j2) (by omega) (by omega) (by omega) (by omega) w1 (by simpa [swp] using hd) ha
    exact ⟨h2, e2, w2, o1.trans o2⟩
theorem partLoop_bd (a : Nat) : ∀ (k i j : Nat) (d : Array SeenD), j + 1 - i ≤ k → (partLoop ltS a i j d).1 ≤ j ∧ (partLoop ltS a i j d).2.size = d.size := by
  intro k
  induction k with
  | zero =>
    intro i j d hk
    rw [partLoop_eq]
    have u0 := scanUp_ge (fun x => ltS x d[a]!) d j i
    have v0 := scanDown_le (fun x => !ltS x d[a]!) d (scanUp (fun x => ltS x d[a]!) d j i) j
    rw [if_pos (by omega)]
    exact ⟨v0, rfl⟩
  | succ k ih =>
    intro i j d hk
    rw [partLoop_eq]
    have u0 := scanUp_ge (fun x => ltS x d[a]!) d j i
    have v0 := scanDown_le (fun x => !ltS x d[a]!) d (scanUp (fun x => ltS x d[a]!) d j i) j
    split
    · exact ⟨v0, rfl⟩
    · obtain ⟨h1, h2⟩ := ih (scanUp (fun x => ltS x d[a]!) d j i + 1) (scanDown (fun x => !ltS x d[a]!) d (scanUp (fun x => ltS x d[a]!) d j i) j - 1) (swp d (scanUp (fun x => ltS x d[a]!) d j i) (scanDown (fun x => !ltS x d[a]!) d (scanUp (fun x => ltS x d[a]!) d j i) j)) (by omega)
      exact ⟨by omega, by rw [h2]; simp [swp]⟩
theorem r_partEq {b n a e pv : Nat} {h : H} {d : Array SeenD} (hs : Hs h b d) (hd : n = d.size) (hn : n ≤ 100000) (he : e ≤ n) (ha : a < e) (hp : a ≤ pv) (hp2 : pv < e) :
    ∃ h', call Ev Fn.slices_partitionEqualCmpFunc_impl_seen [sv b 0 n, iv .i64 (a : Nat), iv .i64 (e : Nat), iv .i64 (pv : Nat), .s (.fn Fn.impl_look_1 [])] h = some (iv .i64 ((partitionEqual ltS d a e pv).1 : Nat), h') ∧ Hs h' b (partitionEqual ltS d a e pv).2 ∧ Oth b h h' := by
  rw [eq_slices_partitionEqualCmpFunc_impl_seen, hs.ldG hd (by omega), hs.ldG hd (by omega)]
  obtain ⟨h1, e1, w1, o1⟩ := hs.st2 (x := d[pv]!) (y := d[a]!) hd (i := a) (j := pv) (by omega) (by omega)
  rw [e1, w64 (n := (a : Int) + 1) (by omega) (by omega), w64 (n := (e : Int) - 1) (by omega) (by omega), show (a : Int) + 1 = ((a + 1 : Nat) : Int) from by omega, show (e : Int) - 1 = ((e - 1 : Nat) : Int) from by omega]
  obtain ⟨h2, e2, w2, o2⟩ := lp_pe0 (b := b) (a := a) hn (e - 1 + 1 - (a + 1)) (a + 1) (e - 1) h1 (swp d a pv) (Nat.le_refl _) (by omega) (by omega) (by omega) w1 (by simpa [swp] using hd) (by omega)
  rw [e2, ob, lcase_done]
  simp only [gx0, gx1, ob, gV1_s, gI_i]
  exact ⟨h2, rfl, w2, o1.trans o2⟩
theorem r_part {b n a e pv : Nat} {h : H} {d : Array SeenD} (hs : Hs h b d) (hd : n = d.size) (hn : n ≤ 100000) (he : e ≤ n) (ha : a < e) (hp : a ≤ pv) (hp2 : pv < e) :
    ∃ h', call Ev Fn.slices_partitionCmpFunc_impl_seen [sv b 0 n, iv .i64 (a : Nat), iv .i64 (e : Nat), iv .i64 (pv : Nat), .s (.fn Fn.impl_look_1 [])] h = some (.tup [.s (.int .i64 ((partition ltS d a e pv).1 : Nat)), .s (.bool (partition ltS d a e pv).2.1)], h') ∧ Hs h' b (partition ltS d a e pv).2.2 ∧ Oth b h h' := by
  rw [eq_slices_partitionCmpFunc_impl_seen, hs.ldG hd (by omega), hs.ldG hd (by omega)]
  obtain ⟨h1, e1, w1, o1⟩ := hs.st2 (x := d[pv]!) (y := d[a]!) hd (i := a) (j := pv) (by omega) (by omega)
  rw [e1, w64 (n := (a : Int) + 1) (by omega) (by omega), w64 (n := (e : Int) - 1) (by omega) (by omega), show (a : Int) + 1 = ((a + 1 : Nat) : Int) from by omega, show (e : Int) - 1 = ((e - 1 : Nat) : Int) from by omega]
  unfold partition
  have w1' : Hs h1 b (swp d a pv) := w1
  have hd1 : n = (swp d a pv).size := by simpa [swp] using hd
  generalize swp d a pv = d1 at w1' hd1
  simp only []
  rw [lp_pt0 hn w1' hd1 (by omega) (by omega) (by omega), ob, lcase_done]
  have u0 := scanUp_ge (fun x => ltS x d1[a]!) d1 (e - 1) (a + 1)
  have u1 := scanUp_le (fun x => ltS x d1[a]!) d1 (e - 1) (a + 1)
  generalize scanUp (fun x => ltS x d1[a]!) d1 (e - 1) (a + 1) = i2 at u0 u1 ⊢
  simp only [gx0, gx1, ob, gV1_s, gI_i]
  rw [lp_pt2 hn w1' hd1 (by omega) (by omega) (by omega) (by omega), ob, lcase_done]
  have v0 := scanDown_le (fun x => !ltS x d1[a]!) d1 i2 (e - 1)
  generalize scanDown (fun x => !ltS x d1[a]!) d1 i2 (e - 1) = j2 at v0 ⊢
  simp only [gx0, gx1, ob, gV1_s, gI_i]
  rw [vcase_b]
  by_cases hij : i2 > j2
  · rw [if_pos (by simp; omega), if_pos hij, w1'.ldG hd1 (by omega), w1'.ldG hd1 (by omega)]
    obtain ⟨h2, e2, w2, o2⟩ := w1'.st2 (x := d1[a]!) (y := d1[j2]!) hd1 (i := j2) (j := a) (by omega) (by omega)
    rw [e2]
    exact ⟨h2, rfl, w2, o1.trans o2⟩
  rw [if_neg (by simp; omega), if_neg hij, w1'.ldG hd1 (by omega), w1'.ldG hd1 (by omega)]
  obtain ⟨h2, e2, w2, o2⟩ := w1'.st2 (x := d1[j2]!) (y := d1[i2]!) hd1 (i := i2) (j := j2) (by omega) (by omega)
  rw [e2, w64 (n := (i2 : Int) + 1) (by omega) (by omega), w64 (n := (j2 : Int) - 1) (by omega) (by omega), show (i2 : Int) + 1 = ((i2 + 1 : Nat) : Int) from by omega, show (j2 : Int) - 1 = ((j2 - 1 : Nat) : Int) from by omega]
  have hd2 : n = (swp d1 i2 j2).size := by simpa [swp] using hd1
  obtain ⟨h3, e3, w3, o3⟩ := lp_pt4 (b := b) (a := a) hn (j2 - 1 + 1 - (i2 + 1)) (i2 + 1) (j2 - 1) h2 (swp d1 i2 j2) (Nat.le_refl _) (by omega) (by omega) (by omega) w2 hd2 (by omega)
  have r1 := partLoop_bd a (j2 - 1 + 1 - (i2 + 1)) (i2 + 1) (j2 - 1) (swp d1 i2 j2) (Nat.le_refl _)
  rw [e3, ob, lcase_done]
  generalize partLoop ltS a (i2 + 1) (j2 - 1) (swp d1 i2 j2) = r at w3 r1 ⊢
  simp only [gx0, gx1, ob, gV1_s, gI_i]
  have hd3 : n = r.2.size := by rw [r1.2]; exact hd2
  rw [w3.ldG hd3 (by omega), w3.ldG hd3 (by omega)]
  obtain ⟨h4, e4, w4, o4⟩ := w3.st2 (x := r.2[a]!) (y := r.2[r.1]!) hd3 (i := r.1) (j := a) (by omega) (by omega)
  rw [e4]
  exact ⟨h4, rfl, w4, ((o1.trans o2).trans o3).trans o4⟩
end Vm
/-
  The partial insertion sort of seen rows.
-/
namespace Vm
open Go Go.Sort
section
variable {b n a e : Nat} (hn : n ≤ 100000) (he : e ≤ n)
include hn he
theorem lp_pi2 {s : Int} : ∀ (k i : Nat) (h : H) (d : Array SeenD), e - i ≤ k → 1 ≤ i → i ≤ n + 1 → Hs h b d → n = d.size →
    Lp.slices_partialInsertionSortCmpFunc_impl_seen 2 [sv b 0 n, iv .i64 (a : Nat), iv .i64 (e : Nat), .s (.fn Fn.impl_look_1 []), iv .i64 (i : Nat), iv .i64 s] h = some (.done [sv b 0 n, iv .i64 (a : Nat), iv .i64 (e : Nat), .s (.fn Fn.impl_look_1 []), iv .i64 (scanSorted ltS d e i : Nat), iv .i64 s] h) := by
  intro k
  induction k with
  | zero =>
    intro i h d hk hi hin hs hd
    rw [eq_slices_partialInsertionSortCmpFunc_impl_seen_l2, vcase_b, if_neg (by simp; omega), hchk_self, tidy_self, scanSorted, if_neg (by simp; omega)]
  | succ k ih =>
    intro i h d hk hi hin hs hd
    rw [eq_slices_partialInsertionSortCmpFunc_impl_seen_l2, vcase_b, scanSorted]
    by_cases hie : i < e
    case neg => rw [if_neg (by simp; omega), hchk_self, tidy_self, if_neg (by simp; omega)]
    rw [if_pos (by simp; omega), hs.ldG hd (by omega), w64 (n := (i : Int) - 1) (by omega) (by omega), show (i : Int) - 1 = ((i - 1 : Nat) : Int) from by omega, hs.ldG hd (by omega), pc (p_look1 d[i]! d[i - 1]!) rfl]
    simp only [gV1_s, gI_i, hchk_self]
    rw [ordI_lt, vcase_b, tidy_self, tidy_self]
    cases hl : ltS d[i]! d[i - 1]!
    · rw [if_pos (by simp), if_pos (by simp [hie]), w64 (n := (i : Int) + 1) (by omega) (by omega), show (i : Int) + 1 = ((i + 1 : Nat) : Int) from by omega]
      exact ih (i + 1) h d (by omega) (by omega) (by omega) hs hd
    · rw [if_neg (by simp), if_neg (by simp)]
theorem lp_pi4 {i0 : Nat} {s : Int} : ∀ (j : Nat) (h : H) (d : Array SeenD), j < n → Hs h b d → n = d.size →
    ∃ h', Lp.slices_partialInsertionSortCmpFunc_impl_seen 4 [sv b 0 n, iv .i64 (a : Nat), iv .i64 (e : Nat), .s (.fn Fn.impl_look_1 []), iv .i64 (i0 : Nat), iv .i64 s, iv .i64 (j : Nat)] h = some (.done [sv b 0 n, iv .i64 (a : Nat), iv .i64 (e : Nat), .s (.fn Fn.impl_look_1 []), iv .i64 (i0 : Nat), iv .i64 s] h') ∧ Hs h' b (shiftDown ltS j d) ∧ Oth b h h' := by
  intro j
  induction j with
  | zero =>
    intro h d hj hs hd
    rw [eq_slices_partialInsertionSortCmpFunc_impl_seen_l4, vcase_b, if_neg (by simp), tidy_self]
    exact ⟨h, rfl, hs, Oth.refl _ _⟩
  | succ j ih =>
    intro h d hj hs hd
    rw [eq_slices_partialInsertionSortCmpFunc_impl_seen_l4, vcase_b, if_pos (by simp; omega), hs.ldG hd (by omega), w64 (n := ((j + 1 : Nat) : Int) - 1) (by omega) (by omega), show ((j + 1 : Nat) : Int) - 1 = (j : Int) from by omega, hs.ldG hd (by omega), pc (p_look1 d[j + 1]! d[j]!) rfl]
    simp only [gV1_s, gI_i, hchk_self]
    rw [ordI_lt, vcase_b]
    unfold shiftDown
    cases hl : ltS d[j + 1]! d[j]!
    · rw [if_pos (by simp), if_pos (by simp), tidy_self]
      exact ⟨h, rfl, hs, Oth.refl _ _⟩
    · rw [if_neg (by simp), if_neg (by simp), hs.ldG hd (by omega), hs.ldG hd (by omega)]
      obtain ⟨h1, e1, w1, o1⟩ := hs.st2 (x := d[j]!) (y := d[j + 1]!) hd (i := j + 1) (j := j) (by omega) (by omega)
      rw [e1, o1.tidy hs.n]
      obtain ⟨h2, e2, w2, o2⟩ := ih h1 (swp d (j + 1) j) (by omega) w1 (by simpa [swp] using hd)
      exact ⟨h2, e2, w2, o1.trans o2⟩
theorem lp_pi6 {i0 : Nat} {s : Int} : ∀ (k j : Nat) (h : H) (d : Array SeenD), e - j ≤ k → 1 ≤ j → j ≤ n + 1 → Hs h b d → n = d.size →
    ∃ h', Lp.slices_partialInsertionSortCmpFunc_impl_seen 6 [sv b 0 n, iv .i64 (a : Nat), iv .i64 (e : Nat), .s (.fn Fn.impl_look_1 []), iv .i64 (i0 : Nat), iv .i64 s, iv .i64 (j : Nat)] h = some (.done [sv b 0 n, iv .i64 (a : Nat), iv .i64 (e : Nat), .s (.fn Fn.impl_look_1 []), iv .i64 (i0 : Nat), iv .i64 s] h') ∧ Hs h' b (shiftUp ltS e j d) ∧ Oth b h h' := by
  intro k
  induction k with
  | zero =>
    intro j h d hk hj hjn hs hd
    rw [eq_slices_partialInsertionSortCmpFunc_impl_seen_l6, vcase_b, if_neg (by simp; omega), tidy_self, shiftUp, if_neg (by omega)]
    exact ⟨h, rfl, hs, Oth.refl _ _⟩
  | succ k ih =>
    intro j h d hk hj hjn hs hd
    rw [eq_slices_partialInsertionSortCmpFunc_impl_seen_l6, vcase_b, shiftUp]
    by_cases hje : j < e
    case neg =>
      rw [if_neg (by simp; omega), tidy_self, if_neg hje]
      exact ⟨h, rfl, hs, Oth.refl _ _⟩
    rw [if_pos (by simp; omega), if_pos hje, hs.ldG hd (by omega), w64 (n := (j : Int) - 1) (by omega) (by omega), show (j : Int) - 1 = ((j - 1 : Nat) : Int) from by omega, hs.ldG hd (by omega), pc (p_look1 d[j]! d[j - 1]!) rfl]
    simp only [gV1_s, gI_i, hchk_self]
    rw [ordI_lt, vcase_b]
    cases hl : ltS d[j]! d[j - 1]!
    · rw [if_pos (by simp), if_pos (by simp), tidy_self]
      exact ⟨h, rfl, hs, Oth.refl _ _⟩
    · rw [if_neg (by simp), if_neg (by simp), hs.ldG hd (by omega), hs.ldG hd (by omega)]
      obtain ⟨h1, e1, w1, o1⟩ := hs.st2 (x := d[j - 1]!) (y := d[j]!) hd (i := j) (j := j - 1) (by omega) (by omega)
      rw [e1, o1.tidy hs.n, w64 (n := (j : Int) + 1) (by omega) (by omega), show (j : Int) + 1 = ((j + 1 : Nat) : Int) from by omega]
      obtain ⟨h2, e2, w2, o2⟩ := ih (j + 1) h1 (swp d j (j - 1)) (by omega) (by omega) (by omega) w1 (by simpa [swp] using hd)
      exact ⟨h2, e2, w2, o1.trans o2⟩
end
theorem size_shiftDown : ∀ (j : Nat) (d : Array SeenD), (shiftDown ltS j d).size = d.size
  | 0, d => rfl
  | j + 1, d => by
    unfold shiftDown
    split
    · rfl
    · rw [size_shiftDown j]; simp [swp]
theorem size_shiftUp (e : Nat) : ∀ (k j : Nat) (d : Array SeenD), e - j ≤ k → (shiftUp ltS e j d).size = d.size
  | 0, j, d, hk => by rw [shiftUp, if_neg (by omega)]
  | k + 1, j, d, hk => by
    rw [shiftUp]
    split
    · split
      · rfl
      · rw [size_shiftUp e k (j + 1) _ (by omega)]; simp [swp]
    · rfl
theorem scanSorted_bd (d : Array SeenD) (e : Nat) : ∀ (k i : Nat), e - i ≤ k → i ≤ scanSorted ltS d e i ∧ (scanSorted ltS d e i ≤ i ∨ scanSorted ltS d e i ≤ e)
  | 0, i, hk => by rw [scanSorted, if_neg (by simp; omega)]; exact ⟨Nat.le_refl _, .inl (Nat.le_refl _)⟩
  | k + 1, i, hk => by
    rw [scanSorted]
    split
    · rename_i h
      have hi : i < e := by simp at h; exact h.1
      obtain ⟨h1, h2⟩ := scanSorted_bd d e k (i + 1) (by omega)
      exact ⟨by omega, .inr (by omega)⟩
    · exact ⟨Nat.le_refl _, .inl (Nat.le_refl _)⟩
theorem lp_pi0 {b n a e : Nat} (hn : n ≤ 100000) (he : e ≤ n) (hae : a < e) : ∀ (k i : Nat) (s : Int) (h : H) (d : Array SeenD), s = 5 - (k : Int) → k ≤ 5 → a + 1 ≤ i → i ≤ e → Hs h b d → n = d.size →
    ∃ h' o, Lp.slices_partialInsertionSortCmpFunc_impl_seen 0 [sv b 0 n, iv .i64 (a : Nat), iv .i64 (e : Nat), .s (.fn Fn.impl_look_1 []), iv .i64 (i : Nat), iv .i64 s] h = some o ∧ ((o = .done [] h' ∧ (partialIns ltS a e k i d).2 = false) ∨ o = .ret (bv (partialIns ltS a e k i d).2) h') ∧ Hs h' b (partialIns ltS a e k i d).1 ∧ (partialIns ltS a e k i d).1.size = d.size ∧ Oth b h h' := by
  intro k
  induction k with
  | zero =>
    intro i s h d hsk hk5 hai hie hs hd
    rw [eq_slices_partialInsertionSortCmpFunc_impl_seen_l0, vcase_b, if_neg (by simp; omega), tidy_self]
    exact ⟨h, _, rfl, .inl ⟨rfl, rfl⟩, hs, rfl, Oth.refl _ _⟩
  | succ k ih =>
    intro i s h d hsk hk5 hai hie hs hd
    rw [eq_slices_partialInsertionSortCmpFunc_impl_seen_l0, vcase_b, if_pos (by simp; omega), lp_pi2 hn he (e - i) i h d (Nat.le_refl _) (by omega) (by omega) hs hd, ob, lcase_done, partialIns_succ]
    have bd := scanSorted_bd d e (e - i) i (Nat.le_refl _)
    generalize scanSorted ltS d e i = i2 at bd ⊢
    simp only [gx0, gx1, ob, gV1_s, gI_i]
    rw [vcase_b]
    by_cases h1 : i2 = e
    · rw [if_pos (by simp [h1]), if_pos h1]
      exact ⟨h, _, rfl, .inr rfl, hs, rfl, Oth.refl _ _⟩
    rw [if_neg (by simp; omega), if_neg h1, vcase_b, w64 (n := (e : Int) - (a : Int)) (by omega) (by omega)]
    by_cases h2 : e - a < 50
    · rw [if_pos (by simp; omega), if_pos h2]
      exact ⟨h, _, rfl, .inr rfl, hs, rfl, Oth.refl _ _⟩
    rw [if_neg (by simp; omega), if_neg h2, w64 (n := (i2 : Int) - 1) (by omega) (by omega), show (i2 : Int) - 1 = ((i2 - 1 : Nat) : Int) from by omega, hs.ldG hd (by omega), hs.ldG hd (by omega)]
    obtain ⟨h3, e3, w3, o3⟩ := hs.st2 (x := d[i2 - 1]!) (y := d[i2]!) hd (i := i2) (j := i2 - 1) (by omega) (by omega)
    have w3' : Hs h3 b (swp d i2 (i2 - 1)) := w3
    have hd3 : n = (swp d i2 (i2 - 1)).size := by simpa [swp] using hd
    rw [e3, vcase_b, w64 (n := (i2 : Int) - (a : Int)) (by omega) (by omega)]
    have hsz : (swp d i2 (i2 - 1)).size = d.size := by omega
    generalize swp d i2 (i2 - 1) = d3 at w3' hd3 hsz ⊢
    -- the end of a round
    have fin : ∀ (h5 : H) (d5 : Array SeenD), Hs h5 b d5 → n = d5.size → Oth b h h5 → ∃ h' o, Lp.slices_partialInsertionSortCmpFunc_impl_seen 0 [sv b 0 n, iv .i64 (a : Nat), iv .i64 (e : Nat), .s (.fn Fn.impl_look_1 []), iv .i64 (i2 : Nat), iv .i64 (IntKind.i64.wrap (s + 1))] (Vm.tidy h [sv b 0 n, iv .i64 (a : Nat), iv .i64 (e : Nat), .s (.fn Fn.impl_look_1 []), iv .i64 (i2 : Nat), iv .i64 (IntKind.i64.wrap (s + 1))] h5) = some o ∧ ((o = .done [] h' ∧ (partialIns ltS a e k i2 d5).2 = false) ∨ o = .ret (bv (partialIns ltS a e k i2 d5).2) h') ∧ Hs h' b (partialIns ltS a e k i2 d5).1 ∧ (partialIns ltS a e k i2 d5).1.size = d.size ∧ Oth b h h' := fun h5 d5 w5 hd5 o5 => by
      rw [o5.tidy hs.n, w64 (n := s + 1) (by omega) (by omega)]
      obtain ⟨h', o, x1, x2, x3, x4, x5⟩ := ih i2 (s + 1) h5 d5 (by omega) (by omega) (by omega) (by omega) w5 hd5
      exact ⟨h', o, x1, x2, x3, by omega, o5.trans x5⟩
    have up : ∀ (h4 : H) (d4 : Array SeenD), Hs h4 b d4 → n = d4.size → Oth b h h4 → e - i2 ≥ 2 → ∃ h5, Lp.slices_partialInsertionSortCmpFunc_impl_seen 6 [sv b 0 n, iv .i64 (a : Nat), iv .i64 (e : Nat), .s (.fn Fn.impl_look_1 []), iv .i64 (i2 : Nat), iv .i64 s, iv .i64 (IntKind.i64.wrap ((i2 : Int) + 1))] h4 = some (.done [sv b 0 n, iv .i64 (a : Nat), iv .i64 (e : Nat), .s (.fn Fn.impl_look_1 []), iv .i64 (i2 : Nat), iv .i64 s] h5) ∧ Hs h5 b (shiftUp ltS e (i2 + 1) d4) ∧ n = (shiftUp ltS e (i2 + 1) d4).size ∧ Oth b h h5 := fun h4 d4 w4 hd4 o4 hg => by
      rw [w64 (n := (i2 : Int) + 1) (by omega) (by omega), show (i2 : Int) + 1 = ((i2 + 1 : Nat) : Int) from by omega]
      obtain ⟨h5, e5, w5, o5⟩ := lp_pi6 (b := b) (a := a) hn he (i0 := i2) (s := s) (e - (i2 + 1)) (i2 + 1) h4 d4 (Nat.le_refl _) (by omega) (by omega) w4 hd4
      exact ⟨h5, e5, w5, by rw [size_shiftUp e (e - (i2 + 1)) (i2 + 1) _ (Nat.le_refl _)]; exact hd4, o4.trans o5⟩
    unfold fixUp fixDown
    by_cases h6 : i2 - a ≥ 2
    · rw [if_pos (by simp; omega), if_pos h6]
      obtain ⟨h4, e4, w4, o4⟩ := lp_pi4 (b := b) (a := a) hn he (i0 := i2) (s := s) (i2 - 1) h3 d3 (by omega) w3' hd3
      rw [e4, ob, lcase_done]
      simp only [gx0, gx1, ob, gV1_s, gI_i]
      rw [vcase_b, w64 (n := (e : Int) - (i2 : Int)) (by omega) (by omega)]
      have hd4 : n = (shiftDown ltS (i2 - 1) d3).size := by rw [size_shiftDown]; exact hd3
      by_cases h7 : e - i2 ≥ 2
      · rw [if_pos (by simp; omega), if_pos h7]
        obtain ⟨h5, e5, w5, hd5, o5⟩ := up h4 _ w4 hd4 (o3.trans o4) h7
        rw [e5, ob, lcase_done]
        simp only [gx0, gx1, ob, gV1_s, gI_i]
        exact fin h5 _ w5 hd5 o5
      · rw [if_neg (by simp; omega), if_neg h7]
        exact fin h4 _ w4 hd4 (o3.trans o4)
    · rw [if_neg (by simp; omega), if_neg h6, vcase_b, w64 (n := (e : Int) - (i2 : Int)) (by omega) (by omega)]
      by_cases h7 : e - i2 ≥ 2
      · rw [if_pos (by simp; omega), if_pos h7]
        obtain ⟨h5, e5, w5, hd5, o5⟩ := up h3 _ w3' hd3 o3 h7
        rw [e5, ob, lcase_done]
        simp only [gx0, gx1, ob, gV1_s, gI_i]
        exact fin h5 _ w5 hd5 o5
      · rw [if_neg (by simp; omega), if_neg h7]
        exact fin h3 _ w3' hd3 o3
theorem r_partial {b n a e : Nat} {h : H} {d : Array SeenD} (hs : Hs h b d) (hd : n = d.size) (hn : n ≤ 100000) (he : e ≤ n) (ha : a < e) :
    ∃ h', call Ev Fn.slices_partialInsertionSortCmpFunc_impl_seen [sv b 0 n, iv .i64 (a : Nat), iv .i64 (e : Nat), .s (.fn Fn.impl_look_1 [])] h = some (bv (partialInsertionSort ltS d a e).2, h') ∧ Hs h' b (partialInsertionSort ltS d a e).1 ∧ (partialInsertionSort ltS d a e).1.size = d.size ∧ Oth b h h' := by
  rw [eq_slices_partialInsertionSortCmpFunc_impl_seen, w64 (n := (a : Int) + 1) (by omega) (by omega), show (a : Int) + 1 = ((a + 1 : Nat) : Int) from by omega]
  obtain ⟨h', o, e1, f1, w1, z1, o1⟩ := lp_pi0 (b := b) hn he ha 5 (a + 1) 0 h d (by omega) (by omega) (by omega) (by omega) hs hd
  rw [e1, ob]
  unfold partialInsertionSort
  rcases f1 with ⟨rfl, f2⟩ | rfl
  · exact ⟨h', by rw [lcase_done, f2], w1, z1, o1⟩
  · exact ⟨h', rfl, w1, z1, o1⟩
end Vm
/-
  The choice of a pivot among frozen seen rows.
-/
namespace Vm
open Go Go.Sort
def sns (d : Array SeenD) : List (List S) := d.toList.map SeenD.cs
theorem ldK_sn {R : Type} {x : SeenD} {h : H} {dd : TD} {bb : Bool} {w : Nat} {zz : List S} {k : V → Option R} : ldK (.agg [.i .i64, .i .i64, .i .i64, .s, .i .i64, .i .i64, .b, .i .i64, .i .i64]) ⟨9, w, zz, true, dd, bb⟩ h (fv x.cs 0) k = k (.agg x.cs) := by
  simp only [ldK, ldT, cond_true, loadN]
  rw [show rowN 9 x.cs 0 = some x.cs from rowN_all rfl]
  simp [tyV, tyL, tyS]
theorem ldF {R : Type} {h : H} {i : Nat} {d : Array SeenD} {w : Nat} {zz : List S} {dd : TD} {bb : Bool} {kd : IntKind} {k : V → V → Int → Int → Int → ByteArray → Int → Int → Bool → Int → Int → Option R} (hi : i < d.size) :
    (idxK 9 (lv (sns d)) (iv kd (i : Int)) fun v => ldK (.agg [.i .i64, .i .i64, .i .i64, .s, .i .i64, .i .i64, .b, .i .i64, .i .i64]) ⟨9, w, zz, true, dd, bb⟩ h v fun u => gVA u fun c => (c[0]?).bind fun x0 => gI .i64 x0 fun i0 => (c[1]?).bind fun x1 => gI .i64 x1 fun i1 => (c[2]?).bind fun x2 => gI .i64 x2 fun i2 => (c[3]?).bind fun x3 => gS x3 fun i3 => (c[4]?).bind fun x4 => gI .i64 x4 fun i4 => (c[5]?).bind fun x5 => gI .i64 x5 fun i5 => (c[6]?).bind fun x6 => gB x6 fun i6 => (c[7]?).bind fun x7 => gI .i64 x7 fun i7 => (c[8]?).bind fun x8 => gI .i64 x8 fun i8 => if c.length = 9 then k v u i0 i1 i2 i3 i4 i5 i6 i7 i8 else none) = k (fv d[i]!.cs 0) (.agg d[i]!.cs) d[i]!.r.tab d[i]!.r.key d[i]!.r.val d[i]!.r.text d[i]!.page d[i]!.slot d[i]!.moved d[i]!.at_ d[i]!.place := by
  have e : (sns d)[i]? = some d[i]!.cs := by
    unfold sns
    rw [List.getElem?_map, Array.getElem?_toList, Array.getElem?_eq_getElem hi, getElem!_pos d i hi]; rfl
  generalize d[i]! = x at e ⊢
  show idxF 9 (sns d) (i : Int) _ = _
  rw [idxF_at (z := 9) e rfl]
  dsimp only
  rw [ldK_sn]
  simp only [gVA_a, gx0, gx1, ob, gI_i, gS_s, gB_b]
  rw [if_pos (cs9 x)]
/-- a counter in block 0 -/
structure Ct (h : H) (s : Nat) : Prop where
  n : 0 < h.n
  g : h.g 0 = .rw 0 [.int .i64 s]
theorem r_order2 {d : Array SeenD} {x y s : Nat} {h : H} (hx : x < d.size) (hy : y < d.size) (hc : Ct h s) (hs : s < 100) :
    ∃ h', call Ev Fn.slices_order2CmpFunc_impl_seen [lv (sns d), iv .i64 (x : Nat), iv .i64 (y : Nat), pv 0 0, .s (.fn Fn.impl_look_1 [])] h = some (.tup [.s (.int .i64 ((order2 ltS d x y s).1 : Nat)), .s (.int .i64 ((order2 ltS d x y s).2.1 : Nat))], h') ∧ Ct h' (order2 ltS d x y s).2.2 ∧ Oth 0 h h' := by
  rw [eq_slices_order2CmpFunc_impl_seen, ldF hy, ldF hx, pc (p_look1 d[y]! d[x]!) rfl]
  simp only [gV1_s, gI_i, hchk_self]
  rw [ordI_lt, vcase_b]
  unfold order2
  cases hl : ltS d[y]! d[x]!
  · rw [if_neg (by simp), if_neg (by simp)]
    exact ⟨h, rfl, hc, Oth.refl _ _⟩
  · have ld : load1 h (pv 0 0) = some (.int .i64 (s : Nat)) := by simp [load1, H.cells, hc.n, hc.g, Blk.cells]
    rw [if_pos rfl, if_pos rfl, ld, ob]
    simp only [gI_i]
    rw [w64 (n := (s : Int) + 1) (by omega) (by omega), show (s : Int) + 1 = ((s + 1 : Nat) : Int) from by omega]
    rw [stK_rw (z := 1) (e := 0) (o := 0) (b := 0) (cs := [.int .i64 s]) (r := [.int .i64 ((s + 1 : Nat) : Int)]) hc.n hc.g (.inl ⟨_, rfl, rfl, rfl⟩) rfl (by simp)]
    exact ⟨_, rfl, ⟨by rw [put_n]; exact hc.n, by rw [put_g]; rfl⟩, Oth.put⟩
theorem r_median {d : Array SeenD} {x y z s : Nat} {h : H} (hx : x < d.size) (hy : y < d.size) (hz : z < d.size) (hc : Ct h s) (hs : s < 90) :
    ∃ h', call Ev Fn.slices_medianCmpFunc_impl_seen [lv (sns d), iv .i64 (x : Nat), iv .i64 (y : Nat), iv .i64 (z : Nat), pv 0 0, .s (.fn Fn.impl_look_1 [])] h = some (iv .i64 ((median ltS d x y z s).1 : Nat), h') ∧ Ct h' (median ltS d x y z s).2 ∧ Oth 0 h h' := by
  rw [eq_slices_medianCmpFunc_impl_seen]
  unfold median
  simp only []
  obtain ⟨h1, e1, c1, t1⟩ := r_order2 hx hy hc (by omega)
  have k1 := order2_count ltS d x y s
  have m1 : (order2 ltS d x y s).1 < d.size ∧ (order2 ltS d x y s).2.1 < d.size := by unfold order2; split <;> exact ⟨by assumption, by assumption⟩
  rw [e1, ob]
  dsimp only
  simp only [gVT_t, gx0, gx1, ob, gA1_s, gI_i]
  rw [if_pos (show ([_, _] : List A).length = 2 from rfl), t1.tidy hc.n]
  generalize order2 ltS d x y s = q1 at c1 k1 m1 ⊢
  obtain ⟨h2, e2, c2, t2⟩ := r_order2 m1.2 hz c1 (by omega)
  have k2 := order2_count ltS d q1.2.1 z q1.2.2
  have m2 : (order2 ltS d q1.2.1 z q1.2.2).1 < d.size ∧ (order2 ltS d q1.2.1 z q1.2.2).2.1 < d.size := by
    have := m1.2
    unfold order2; split <;> exact ⟨by assumption, by assumption⟩
  rw [e2, ob]
  dsimp only
  simp only [gVT_t, gx0, gx1, ob, gA1_s, gI_i]
  rw [if_pos (show ([_, _] : List A).length = 2 from rfl), t2.tidy c1.n]
  generalize order2 ltS d q1.2.1 z q1.2.2 = q2 at c2 k2 m2 ⊢
  obtain ⟨h3, e3, c3, t3⟩ := r_order2 m1.1 m2.1 c2 (by omega)
  rw [e3, ob]
  dsimp only
  simp only [gVT_t, gx0, gx1, ob, gA1_s, gI_i]
  rw [if_pos (show ([_, _] : List A).length = 2 from rfl), t3.tidy c2.n]
  exact ⟨h3, rfl, c3, (t1.trans t2).trans t3⟩
theorem r_medAdj {d : Array SeenD} {x s : Nat} {h : H} (hx : 1 ≤ x) (hy : x + 1 < d.size) (hl : d.size ≤ 100000) (hc : Ct h s) (hs : s < 90) :
    ∃ h', call Ev Fn.slices_medianAdjacentCmpFunc_impl_seen [lv (sns d), iv .i64 (x : Nat), pv 0 0, .s (.fn Fn.impl_look_1 [])] h = some (iv .i64 ((medianAdjacent ltS d x s).1 : Nat), h') ∧ Ct h' (medianAdjacent ltS d x s).2 ∧ Oth 0 h h' := by
  rw [eq_slices_medianAdjacentCmpFunc_impl_seen, w64 (n := (x : Int) - 1) (by omega) (by omega), w64 (n := (x : Int) + 1) (by omega) (by omega), show (x : Int) - 1 = ((x - 1 : Nat) : Int) from by omega, show (x : Int) + 1 = ((x + 1 : Nat) : Int) from by omega]
  obtain ⟨h1, e1, c1, t1⟩ := r_median (d := d) (x := x - 1) (y := x) (z := x + 1) (by omega) (by omega) hy hc hs
  rw [e1, ob]
  dsimp only
  simp only [gV1_s, gI_i]
  rw [t1.tidy hc.n]
  exact ⟨h1, rfl, c1, t1⟩
theorem med_lt {d : Array SeenD} {x y z s n : Nat} (hx : x < n) (hy : y < n) (hz : z < n) : (median ltS d x y z s).1 < n := by
  rcases median_mem ltS d x y z s with h | h | h <;> omega
theorem p_choose {d : Array SeenD} {a e : Nat} (hl : d.size ≤ 100000) (he : e ≤ d.size) (ha : a < e) :
    pureV (call Ev) Fn.slices_choosePivotCmpFunc_impl_seen [lv (sns d), iv .i64 (a : Nat), iv .i64 (e : Nat), .s (.fn Fn.impl_look_1 [])] = some (.tup [.s (.int .i64 ((choosePivot ltS d a e).1 : Nat)), .s (.int .i64 (hintCode (choosePivot ltS d a e).2))]) := by
  rw [choosePivot_eq, pu_slices_choosePivotCmpFunc_impl_seen, w64 (n := (e : Int) - (a : Int)) (by omega) (by omega), show (e : Int) - (a : Int) = ((e - a : Nat) : Int) from by omega, bin_quo' (by omega) (by omega) (by omega)]
  simp only [ob, gV1_s, gI_i]
  rw [show ((e - a : Nat) : Int) / 4 = (((e - a) / 4 : Nat) : Int) from by omega]
  have hq : (e - a) / 4 * 4 ≤ e - a := Nat.div_mul_le_self _ _
  generalize hg : (e - a) / 4 = q at hq
  rw [w64 (n := (q : Int) * 1) (by omega) (by omega), w64 (n := (q : Int) * 2) (by omega) (by omega), w64 (n := (q : Int) * 3) (by omega) (by omega), w64 (n := (a : Int) + (q : Int) * 1) (by omega) (by omega), w64 (n := (a : Int) + (q : Int) * 2) (by omega) (by omega), w64 (n := (a : Int) + (q : Int) * 3) (by omega) (by omega),
    show (a : Int) + (q : Int) * 1 = ((a + q * 1 : Nat) : Int) from by omega, show (a : Int) + (q : Int) * 2 = ((a + q * 2 : Nat) : Int) from by omega, show (a : Int) + (q : Int) * 3 = ((a + q * 3 : Nat) : Int) from by omega]
  unfold rawPivot
  rw [hg]
  have c0 : Ct ((D 0).new 0 [.int .i64 0]) 0 := ⟨by simp, new_g (D 0) _ _⟩
  generalize (D 0).new 0 [.int .i64 0] = h0 at c0
  have ldc : ∀ {h : H} {s : Nat}, Ct h s → load1 h (pv 0 0) = some (.int .i64 (s : Nat)) := fun {h s} hc => by simp [load1, H.cells, hc.n, hc.g, Blk.cells]
  have fin : ∀ (x s : Nat), s ≤ 12 → vcase (bv ((s : Int) == 0)) (some (V.tup [.s (.int .i64 (x : Nat)), .s (.int .i64 1)])) (vcase (bv ((s : Int) == 12)) (some (V.tup [.s (.int .i64 (x : Nat)), .s (.int .i64 2)])) (some (V.tup [.s (.int .i64 (x : Nat)), .s (.int .i64 0)]))) = some (V.tup [.s (.int .i64 (x : Nat)), .s (.int .i64 (hintCode (hintOf s)))]) := fun x s hs => by
    rw [vcase_b, vcase_b]
    unfold hintOf
    by_cases h1 : s = 0
    · rw [if_pos (by simp [h1]), if_pos h1]; rfl
    · rw [if_neg (by simpa using h1), if_neg h1]
      by_cases h2 : s = 12
      · rw [if_pos (by simp [h2]), if_pos h2]; rfl
      · rw [if_neg (by simp; omega), if_neg h2]; rfl
  rw [vcase_b]
  by_cases h8 : e - a ≥ 8
  case neg =>
    rw [if_neg (by simp; omega), if_neg h8]
    exact fin (a + q * 2) 0 (by omega)
  rw [if_pos (by simp; omega), if_pos h8, vcase_b]
  by_cases h50 : e - a ≥ 50
  case neg =>
    rw [if_neg (by simp; omega), if_neg h50]
    obtain ⟨h1, e1, c1, t1⟩ := r_median (d := d) (x := a + q * 1) (y := a + q * 2) (z := a + q * 3) (by omega) (by omega) (by omega) c0 (by omega)
    have k1 := median_count ltS d (a + q * 1) (a + q * 2) (a + q * 3) 0
    rw [e1, ob]
    dsimp only
    simp only [gV1_s, gI_i]
    rw [t1.tidy c0.n, ldc c1, ob]
    simp only [gI_i]
    exact fin _ _ (by omega)
  rw [if_pos (by simp; omega), if_pos h50]
  obtain ⟨h1, e1, c1, t1⟩ := r_medAdj (d := d) (x := a + q * 1) (by omega) (by omega) hl c0 (by omega)
  have k1 := medianAdjacent_count ltS d (a + q * 1) 0
  have m1 : (medianAdjacent ltS d (a + q * 1) 0).1 < d.size := med_lt (by omega) (by omega) (by omega)
  rw [e1, ob]
  dsimp only
  simp only [gV1_s, gI_i]
  rw [t1.tidy c0.n]
  generalize medianAdjacent ltS d (a + q * 1) 0 = r1 at c1 k1 m1 ⊢
  obtain ⟨h2, e2, c2, t2⟩ := r_medAdj (d := d) (x := a + q * 2) (by omega) (by omega) hl c1 (by omega)
  have k2 := medianAdjacent_count ltS d (a + q * 2) r1.2
  have m2 : (medianAdjacent ltS d (a + q * 2) r1.2).1 < d.size := med_lt (by omega) (by omega) (by omega)
  rw [e2, ob]
  dsimp only
  simp only [gV1_s, gI_i]
  rw [t2.tidy c1.n]
  generalize medianAdjacent ltS d (a + q * 2) r1.2 = r2 at c2 k2 m2 ⊢
  obtain ⟨h3, e3, c3, t3⟩ := r_medAdj (d := d) (x := a + q * 3) (by omega) (by omega) hl c2 (by omega)
  have k3 := medianAdjacent_count ltS d (a + q * 3) r2.2
  have m3 : (medianAdjacent ltS d (a + q * 3) r2.2).1 < d.size := med_lt (by omega) (by omega) (by omega)
  rw [e3, ob]
  dsimp only
  simp only [gV1_s, gI_i]
  rw [t3.tidy c2.n]
  generalize medianAdjacent ltS d (a + q * 3) r2.2 = r3 at c3 k3 m3 ⊢
  obtain ⟨h4, e4, c4, t4⟩ := r_median (d := d) (x := r1.1) (y := r2.1) (z := r3.1) m1 m2 m3 c3 (by omega)
  have k4 := median_count ltS d r1.1 r2.1 r3.1 r3.2
  rw [e4, ob]
  dsimp only
  simp only [gV1_s, gI_i]
  rw [t4.tidy c3.n, ldc c4, ob]
  simp only [gI_i]
  exact fin _ _ (by omega)
end Vm
/-
  Breaking patterns of seen rows.
-/
namespace Vm
open Go Go.Sort
theorem u64w {n : Int} (h0 : 0 ≤ n) (h1 : n < 18446744073709551616) : IntKind.u64.wrap n = n := by
  simp [IntKind.wrap, IntKind.bits, IntKind.signed]
  omega
theorem u64m {n : Nat} : IntKind.u64.wrap (n : Int) = ((n % 18446744073709551616 : Nat) : Int) := by
  simp [IntKind.wrap, IntKind.bits, IntKind.signed]
theorem bin_shl {t x k : Nat} (hk : k ≤ 64) : bin Ev .shl t (iv .u64 (x : Nat)) (iv .u64 (k : Nat)) = some (iv .u64 ((x * 2 ^ k % 18446744073709551616 : Nat) : Int)) := by
  simp only [bin]
  rw [if_neg (by omega)]
  have : min (k : Int).toNat (IntKind.u64.bits) = k := by
    rw [Int.toNat_natCast]; exact Nat.min_eq_left hk
  rw [this, show (x : Int) * 2 ^ k = ((x * 2 ^ k : Nat) : Int) from by simp, u64m]
theorem bin_shr {t x k : Nat} (hk : k ≤ 64) : bin Ev .shr t (iv .u64 (x : Nat)) (iv .u64 (k : Nat)) = some (iv .u64 ((x / 2 ^ k : Nat) : Int)) := by
  simp only [bin]
  rw [if_neg (by omega)]
  have : min (k : Int).toNat (IntKind.u64.bits) = k := by
    rw [Int.toNat_natCast]; exact Nat.min_eq_left hk
  rw [this]
  rw [show (2 : Int) ^ k = ((2 ^ k : Nat) : Int) from by simp, Int.fdiv_eq_ediv_of_nonneg _ (Int.natCast_nonneg _), ← Int.natCast_ediv]
theorem ofI {x : Nat} (hx : x < 18446744073709551616) : (BitVec.ofInt IntKind.u64.bits (x : Int)).toNat = x := by
  show (BitVec.ofInt 64 (x : Int)).toNat = x
  rw [BitVec.toNat_ofInt]
  omega
theorem bin_xor {t x y : Nat} (hx : x < 18446744073709551616) (hy : y < 18446744073709551616) : bin Ev .xor t (iv .u64 (x : Nat)) (iv .u64 (y : Nat)) = some (iv .u64 ((x ^^^ y : Nat) : Int)) := by
  have hlt : x ^^^ y < 18446744073709551616 := Nat.xor_lt_two_pow (n := 64) hx hy
  simp only [bin, binI, bitsI, if_true, Vm.ob]
  rw [BitVec.toNat_xor, ofI hx, ofI hy, u64m, Nat.mod_eq_of_lt hlt]
theorem bin_and {t x y : Nat} (hx : x < 18446744073709551616) (hy : y < 18446744073709551616) : bin Ev .and t (iv .u64 (x : Nat)) (iv .u64 (y : Nat)) = some (iv .u64 ((x &&& y : Nat) : Int)) := by
  have hlt : x &&& y < 18446744073709551616 := Nat.lt_of_le_of_lt Nat.and_le_left hx
  simp only [bin, binI, bitsI, if_true, Vm.ob]
  rw [BitVec.toNat_and, ofI hx, ofI hy, u64m, Nat.mod_eq_of_lt hlt]
/-- a state of random numbers, in block q -/
structure Xs (h : H) (q x : Nat) : Prop where
  n : q < h.n
  g : h.g q = .rw 0 [.int .u64 x]
theorem Xs.ld {h : H} {q x : Nat} (w : Xs h q x) : load1 h (pv q 0) = some (.int .u64 (x : Nat)) := by simp [load1, H.cells, w.n, w.g, Blk.cells]
theorem Xs.st {R : Type} {h : H} {q x y : Nat} {f : H → Option R} (w : Xs h q x) : stK 1 h (pv q 0) (iv .u64 (y : Nat)) f = f (h.put q (.rw 0 [.int .u64 y])) := by
  rw [stK_rw (z := 1) (e := 0) (o := 0) (b := q) (cs := [.int .u64 x]) (r := [.int .u64 (y : Nat)]) w.n w.g (.inl ⟨_, rfl, rfl, rfl⟩) rfl (by simp)]
  rfl
theorem Xs.put {h : H} {q y : Nat} (hq : q < h.n) : Xs (h.put q (.rw 0 [.int .u64 y])) q y := ⟨by rw [put_n]; exact hq, put_g _ _ _⟩
theorem r_next64 {h : H} {q x : Nat} (w : Xs h q x) (hx : x < 18446744073709551616) :
    ∃ h', call Ev Fn.slices_xorshift_Next [pv q 0] h = some (iv .u64 (xorNextN x : Nat), h') ∧ Xs h' q (xorNextN x) ∧ Oth q h h' := by
  rw [eq_slices_xorshift_Next, w.ld, ob]
  simp only [gI_i, ob]
  have e13 : bin Ev .shl 234 (iv .u64 (x : Nat)) (iv .u64 13) = some (iv .u64 ((x * 8192 % 18446744073709551616 : Nat) : Int)) := bin_shl (k := 13) (by omega)
  have ha : x ^^^ (x * 8192 % 18446744073709551616) < 18446744073709551616 := Nat.xor_lt_two_pow (n := 64) hx (by omega)
  rw [e13, ob]
  simp only [gV1_s, gI_i]
  rw [bin_xor hx (by omega), ob]
  simp only [gV1_s, gI_i]
  rw [w.st]
  have w1 := Xs.put (y := x ^^^ (x * 8192 % 18446744073709551616)) w.n
  have o1 : Oth q h (h.put q (.rw 0 [.int .u64 ((x ^^^ (x * 8192 % 18446744073709551616) : Nat) : Int)])) := Oth.put
  generalize h.put q (.rw 0 [.int .u64 ((x ^^^ (x * 8192 % 18446744073709551616) : Nat) : Int)]) = h1 at w1 o1 ⊢
  unfold xorNextN
  simp only []
  generalize x ^^^ (x * 8192 % 18446744073709551616) = a at ha w1 ⊢
  rw [w1.ld, ob]
  simp only [gI_i, ob]
  have e7 : bin Ev .shr 234 (iv .u64 (a : Nat)) (iv .u64 7) = some (iv .u64 ((a / 128 : Nat) : Int)) := bin_shr (k := 7) (by omega)
  have hb : a ^^^ (a / 128) < 18446744073709551616 := Nat.xor_lt_two_pow (n := 64) ha (by omega)
  rw [e7, ob]
  simp only [gV1_s, gI_i]
  rw [bin_xor ha (by omega), ob]
  simp only [gV1_s, gI_i]
  rw [w1.st]
  have w2 := Xs.put (y := a ^^^ (a / 128)) w1.n
  have o2 : Oth q h1 (h1.put q (.rw 0 [.int .u64 ((a ^^^ (a / 128) : Nat) : Int)])) := Oth.put
  generalize h1.put q (.rw 0 [.int .u64 ((a ^^^ (a / 128) : Nat) : Int)]) = h2 at w2 o2 ⊢
  generalize a ^^^ (a / 128) = b at hb w2 ⊢
  rw [w2.ld, ob]
  simp only [gI_i, ob]
  have e17 : bin Ev .shl 234 (iv .u64 (b : Nat)) (iv .u64 17) = some (iv .u64 ((b * 131072 % 18446744073709551616 : Nat) : Int)) := bin_shl (k := 17) (by omega)
  rw [e17, ob]
  simp only [gV1_s, gI_i]
  rw [bin_xor hb (by omega), ob]
  simp only [gV1_s, gI_i]
  rw [w2.st]
  have w3 := Xs.put (y := b ^^^ (b * 131072 % 18446744073709551616)) w2.n
  have o3 : Oth q h2 (h2.put q (.rw 0 [.int .u64 ((b ^^^ (b * 131072 % 18446744073709551616) : Nat) : Int)])) := Oth.put
  generalize h2.put q (.rw 0 [.int .u64 ((b ^^^ (b * 131072 % 18446744073709551616) : Nat) : Int)]) = h3 at w3 o3 ⊢
  rw [w3.ld, ob]
  simp only [gI_i]
  exact ⟨h3, rfl, w3, (o1.trans o2).trans o3⟩
end Vm
/-
  Breaking patterns of seen rows: how long a number is, a power of two.
-/
namespace Vm
open Go Go.Sort
def tabL : ByteArray := ⟨#[0, 1, 2, 2, 3, 3, 3, 3, 4, 4, 4, 4, 4, 4, 4, 4, 5, 5, 5, 5, 5, 5, 5, 5, 5, 5, 5, 5, 5, 5, 5, 5, 6, 6, 6, 6, 6, 6, 6, 6, 6, 6, 6, 6, 6, 6, 6, 6, 6, 6, 6, 6, 6, 6, 6, 6, 6, 6, 6, 6, 6, 6, 6, 6, 7, 7, 7, 7, 7, 7, 7, 7, 7, 7, 7, 7, 7, 7, 7, 7, 7, 7, 7, 7, 7, 7, 7, 7, 7, 7, 7, 7, 7, 7, 7, 7, 7, 7, 7, 7, 7, 7, 7, 7, 7, 7, 7, 7, 7, 7, 7, 7, 7, 7, 7, 7, 7, 7, 7, 7, 7, 7, 7, 7, 7, 7, 7, 7, 8, 8, 8, 8, 8, 8, 8, 8, 8, 8, 8, 8, 8, 8, 8, 8, 8, 8, 8, 8, 8, 8, 8, 8, 8, 8, 8, 8, 8, 8, 8, 8, 8, 8, 8, 8, 8, 8, 8, 8, 8, 8, 8, 8, 8, 8, 8, 8, 8, 8, 8, 8, 8, 8, 8, 8, 8, 8, 8, 8, 8, 8, 8, 8, 8, 8, 8, 8, 8, 8, 8, 8, 8, 8, 8, 8, 8, 8, 8, 8, 8, 8, 8, 8, 8, 8, 8, 8, 8, 8, 8, 8, 8, 8, 8, 8, 8, 8, 8, 8, 8, 8, 8, 8, 8, 8, 8, 8, 8, 8, 8, 8, 8, 8, 8, 8, 8, 8, 8, 8, 8, 8, 8, 8, 8, 8, 8, 8]⟩
theorem tab_ok : ∀ n, n < 256 → (tabL.get! n).toNat = bitsLen n := by decide +kernel
theorem tab_size : tabL.size = 256 := by decide +kernel
theorem bitsLen_255 {n : Nat} (hn : n < 256) : bitsLen n ≤ 8 := (bitsLen_le_iff n 8).2 hn
theorem p_Len64 {n : Nat} (hn : n < 256) : pureV (call Ev) Fn.bits_Len64 [iv .u64 (n : Nat)] = some (iv .i64 (bitsLen n : Nat)) := by
  rw [pu_bits_Len64, vcase_b, if_neg (by simp; omega), vcase_b, if_neg (by simp; omega), vcase_b, if_neg (by simp; omega)]
  unfold Jn.bits_Len64_0
  have e8 : IntKind.u8.wrap (n : Int) = (n : Int) := w8 (by omega) (by omega)
  rw [e8]
  show (idxStr (.s (.str tabL)) (iv .u8 (n : Nat))).bind _ = _
  have e : idxStr (.s (.str tabL)) (iv .u8 (n : Nat)) = some (iv .u8 (bitsLen n : Nat)) := by
    show (if 0 ≤ (n : Int) ∧ (n : Int) < (tabL.size : Int) then some (V.s (.int .u8 (tabL.get! (n : Int).toNat).toNat)) else none) = _
    rw [tab_size, if_pos ⟨by omega, by omega⟩, Int.toNat_natCast, tab_ok n hn]
  have h8 := bitsLen_255 hn
  rw [e, ob]
  simp only [gV1_s, gI_i]
  rw [w64 (n := (bitsLen n : Nat)) (by omega) (by omega), w64 (by omega) (by omega), Int.zero_add]
theorem p_Len {n : Nat} (hn : n < 256) : pureV (call Ev) Fn.bits_Len [iv .u64 (n : Nat)] = some (iv .i64 (bitsLen n : Nat)) := by
  rw [pu_bits_Len, pc (p_Len64 hn) rfl]
  simp only [gV1_s, gI_i]
theorem p_pow2 {n : Nat} (hn : n < 256) : pureV (call Ev) Fn.slices_nextPowerOfTwo [iv .i64 (n : Nat)] = some (iv .u64 (2 ^ bitsLen n : Nat)) := by
  rw [pu_slices_nextPowerOfTwo, u64w (by omega) (by omega), pc (p_Len hn) rfl]
  simp only [gV1_s, gI_i]
  have h8 := bitsLen_255 hn
  have e : bin Ev .shl 177 (iv .u64 1) (iv .i64 (bitsLen n : Nat)) = some (iv .u64 ((1 * 2 ^ bitsLen n % 18446744073709551616 : Nat) : Int)) :=
    (show bin Ev .shl 177 (iv .u64 1) (iv .i64 (bitsLen n : Nat)) = bin Ev .shl 177 (iv .u64 ((1 : Nat) : Int)) (iv .u64 (bitsLen n : Nat)) from rfl).trans (bin_shl (k := bitsLen n) (x := 1) (by omega))
  rw [e, ob]
  simp only [gV1_s, gI_i]
  have hp : 2 ^ bitsLen n ≤ 2 ^ 8 := Nat.pow_le_pow_right (by omega) h8
  rw [Nat.one_mul, Nat.mod_eq_of_lt (by omega)]
end Vm
/-
  Breaking patterns of seen rows.
-/
namespace Vm
open Go Go.Sort
/-- two blocks turned -/
def Ot2 (b q : Nat) (h h' : H) : Prop := h'.n = h.n ∧ ∀ c, c ≠ b → c ≠ q → h'.g c = h.g c ∧ h'.v c = h.v c
theorem Ot2.trans {b q : Nat} {h h' h'' : H} (x : Ot2 b q h h') (y : Ot2 b q h' h'') : Ot2 b q h h'' := ⟨y.1.trans x.1, fun c h1 h2 => ⟨(y.2 c h1 h2).1.trans (x.2 c h1 h2).1, (y.2 c h1 h2).2.trans (x.2 c h1 h2).2⟩⟩
theorem Ot2.refl (b q : Nat) (h : H) : Ot2 b q h h := ⟨rfl, fun _ _ _ => ⟨rfl, rfl⟩⟩
theorem Oth.l {b q : Nat} {h h' : H} (x : Oth b h h') : Ot2 b q h h' := ⟨x.1, fun c h1 _ => x.2 c h1⟩
theorem Oth.r {b q : Nat} {h h' : H} (x : Oth q h h') : Ot2 b q h h' := ⟨x.1, fun c _ h2 => x.2 c h2⟩
theorem Ot2.tidy {b q : Nat} {h h' : H} {l : List V} (x : Ot2 b q h h') (hb : b < h.n) (hq : q < h.n) : Vm.tidy h l h' = h' := by
  obtain ⟨hn, hg⟩ := x
  unfold Vm.tidy
  split
  · obtain ⟨n', g', v'⟩ := h'
    simp only at hn hg
    subst hn
    congr 1
    · funext c
      split
      · rfl
      · exact (hg c (by omega) (by omega)).1.symm
    · funext c
      split
      · rfl
      · exact (hg c (by omega) (by omega)).2.symm
  · rfl
/-- behind a call that used a block of its own -/
theorem Ot2.out {b : Nat} {h h1 : H} (x : h1.n = h.n + 1 ∧ ∀ c, c ≠ b → c < h.n → h1.g c = h.g c ∧ h1.v c = h.v c) {d : Array SeenD} (hs : Hs h1 b d) (hb : b < h.n) :
    ∃ h', Vm.tidy h [.tup []] h1 = h' ∧ Hs h' b d ∧ Oth b h h' := by
  refine ⟨_, rfl, ?_⟩
  have hT : Tidy h [.tup []] h1 := by
    refine ⟨by omega, by simp [belV], fun c hc => ?_⟩
    by_cases hcb : c = b
    · subst hcb
      right
      rw [hs.g]
      simp only [List.all_eq_true]
      intro s hm
      obtain ⟨l, hl, hm⟩ := List.mem_flatten.1 hm
      obtain ⟨y, _, rfl⟩ := List.mem_map.1 hl
      simp only [SeenD.cs, List.mem_cons, List.not_mem_nil, or_false] at hm
      rcases hm with rfl | rfl | rfl | rfl | rfl | rfl | rfl | rfl | rfl <;> rfl
    · exact .inl (x.2 c hcb hc)
  have e : Vm.tidy h [.tup []] h1 = ⟨h.n, fun b => if b < h.n then h1.g b else h.g b, fun b => if b < h.n then h1.v b else h.v b⟩ := if_pos hT
  rw [e]
  have o : Oth b h ⟨h.n, fun b => if b < h.n then h1.g b else h.g b, fun b => if b < h.n then h1.v b else h.v b⟩ := by
    refine And.intro rfl fun c hc => ?_
    by_cases hcn : c < h.n
    · simp only [if_pos hcn]; exact x.2 c hc hcn
    · exact And.intro (if_neg hcn) (if_neg hcn)
  exact And.intro (Hs.mk hb (by simp only [if_pos hb]; exact hs.g)) o
end Vm
/-
  Breaking patterns of seen rows.
-/
namespace Vm
open Go Go.Sort
theorem brk_step {b q n a len m idx x : Nat} {h : H} {d : Array SeenD} (hs : Hs h b d) (hd : n = d.size) (hn : n ≤ 200) (xs : Xs h q x) (hx : x < 18446744073709551616) (hqb : q ≠ b) (h8 : 8 ≤ len) (hal : a + len ≤ n) (hm : m ≤ 2 * len) (hm0 : 1 ≤ m) (h1 : a + len / 4 * 2 ≤ idx + 1) (h2 : idx ≤ a + len / 4 * 2 + 1) (y : Nat) (hy : y = (if (xorNextN x &&& (m - 1)) ≥ len then (xorNextN x &&& (m - 1)) - len else xorNextN x &&& (m - 1))) :
    ∃ h', Lp.slices_breakPatternsCmpFunc_impl_seen 0 [sv b 0 n, iv .i64 (a : Nat), iv .i64 (len : Nat), pv q 0, iv .u64 (m : Nat), iv .i64 (idx : Nat)] h = Lp.slices_breakPatternsCmpFunc_impl_seen 0 [sv b 0 n, iv .i64 (a : Nat), iv .i64 (len : Nat), pv q 0, iv .u64 (m : Nat), iv .i64 ((idx + 1 : Nat) : Int)] h' ∧ Hs h' b (swp d idx (a + y)) ∧ Xs h' q (xorNextN x) ∧ Ot2 b q h h' := by
  have hl4 : len / 4 * 4 ≤ len := Nat.div_mul_le_self _ _
  have hl1 : 2 ≤ len / 4 := by omega
  rw [eq_slices_breakPatternsCmpFunc_impl_seen_l0, bin_quo' (by omega) (by omega) (by omega), ob]
  simp only [gV1_s, gI_i]
  rw [show (len : Int) / 4 = ((len / 4 : Nat) : Int) from by omega, w64 (n := ((len / 4 : Nat) : Int) * 2) (by omega) (by omega), w64 (n := (a : Int) + ((len / 4 : Nat) : Int) * 2) (by omega) (by omega), w64 (n := (a : Int) + ((len / 4 : Nat) : Int) * 2 + 1) (by omega) (by omega), vcase_b, if_pos (by simp; omega)]
  obtain ⟨h1', e1, x1, o1⟩ := r_next64 xs hx
  have hxn := xorNextN_lt x hx
  rw [e1, ob]
  dsimp only
  simp only [gV1_s, gI_i]
  rw [u64w (n := (m : Int) - 1) (by omega) (by omega), show (m : Int) - 1 = ((m - 1 : Nat) : Int) from by omega, bin_and hxn (by omega), ob]
  simp only [gV1_s, gI_i]
  have hand : xorNextN x &&& (m - 1) ≤ m - 1 := Nat.and_le_right
  generalize xorNextN x &&& (m - 1) = o at hy hand
  have hs1 : Hs h1' b d := ⟨by have := hs.n; have := o1.1; omega, ((o1.2 b (fun e => hqb e.symm)).1).trans hs.g⟩
  rw [w64 (n := (o : Int)) (by omega) (by omega), vcase_b]
  have go : ∀ z : Nat, z < len → ∃ h', Jn.slices_breakPatternsCmpFunc_impl_seen_l0_0 (z : Int) (sv b 0 n) (a : Int) h (iv .u64 (xorNextN x : Nat), h1') (idx : Int) (len : Int) (pv q 0) (m : Int) = Lp.slices_breakPatternsCmpFunc_impl_seen 0 [sv b 0 n, iv .i64 (a : Nat), iv .i64 (len : Nat), pv q 0, iv .u64 (m : Nat), iv .i64 ((idx + 1 : Nat) : Int)] h' ∧ Hs h' b (swp d idx (a + z)) ∧ Xs h' q (xorNextN x) ∧ Ot2 b q h h' := fun z hz => by
    unfold Jn.slices_breakPatternsCmpFunc_impl_seen_l0_0
    dsimp only
    rw [o1.tidy xs.n, w64 (n := (a : Int) + (z : Int)) (by omega) (by omega), show (a : Int) + (z : Int) = ((a + z : Nat) : Int) from by omega, hs1.ldG hd (by omega), hs1.ldG hd (by omega)]
    obtain ⟨h2, e2, w2, o2⟩ := hs1.st2 (x := d[a + z]!) (y := d[idx]!) hd (i := idx) (j := a + z) (by omega) (by omega)
    have oo : Ot2 b q h h2 := (Oth.r (b := b) o1).trans (Oth.l o2)
    rw [e2, oo.tidy hs.n xs.n, w64 (n := (idx : Int) + 1) (by omega) (by omega), show (idx : Int) + 1 = ((idx + 1 : Nat) : Int) from by omega]
    exact ⟨h2, rfl, w2, ⟨by have := x1.n; have := o2.1; omega, ((o2.2 q hqb).1).trans x1.g⟩, oo⟩
  by_cases ho : o ≥ len
  · rw [if_pos (by simp; omega), w64 (n := (o : Int) - (len : Int)) (by omega) (by omega), show (o : Int) - (len : Int) = ((o - len : Nat) : Int) from by omega]
    rw [hy, if_pos ho]
    exact go (o - len) (by omega)
  · rw [if_neg (by simp; omega), hy, if_neg ho]
    exact go o (by omega)
end Vm
/-
  Breaking patterns of seen rows, whole.
-/
namespace Vm
open Go Go.Sort
theorem brk_model {a len m idx : Nat} {st : UInt64 × Array SeenD} : (breakStep a len m st idx).1.toNat = xorNextN st.1.toNat ∧ (breakStep a len m st idx).2 = swp st.2 idx (a + (if (xorNextN st.1.toNat &&& (m - 1)) ≥ len then (xorNextN st.1.toNat &&& (m - 1)) - len else xorNextN st.1.toNat &&& (m - 1))) := by
  unfold breakStep
  simp only [xorNext_toNat, and_self]
theorem brk_step2 {b q n a len m idx : Nat} {h : H} {st : UInt64 × Array SeenD} (hs : Hs h b st.2) (hd : n = st.2.size) (hn : n ≤ 200) (xs : Xs h q st.1.toNat) (hqb : q ≠ b) (h8 : 8 ≤ len) (hal : a + len ≤ n) (hm : m ≤ 2 * len) (hm0 : 1 ≤ m) (h1 : a + len / 4 * 2 ≤ idx + 1) (h2 : idx ≤ a + len / 4 * 2 + 1) :
    ∃ h', Lp.slices_breakPatternsCmpFunc_impl_seen 0 [sv b 0 n, iv .i64 (a : Nat), iv .i64 (len : Nat), pv q 0, iv .u64 (m : Nat), iv .i64 (idx : Nat)] h = Lp.slices_breakPatternsCmpFunc_impl_seen 0 [sv b 0 n, iv .i64 (a : Nat), iv .i64 (len : Nat), pv q 0, iv .u64 (m : Nat), iv .i64 ((idx + 1 : Nat) : Int)] h' ∧ Hs h' b (breakStep a len m st idx).2 ∧ n = (breakStep a len m st idx).2.size ∧ Xs h' q (breakStep a len m st idx).1.toNat ∧ Ot2 b q h h' := by
  obtain ⟨m1, m2⟩ := brk_model (a := a) (len := len) (m := m) (idx := idx) (st := st)
  obtain ⟨h', e, w, x, o⟩ := brk_step (x := st.1.toNat) hs hd hn xs (by have := st.1.toNat_lt; omega) hqb h8 hal hm hm0 h1 h2 _ rfl
  exact ⟨h', e, by rw [m2]; exact w, by rw [m2]; simpa [swp] using hd, by rw [m1]; exact x, o⟩
theorem r_break {b n a e : Nat} {h : H} {d : Array SeenD} (hs : Hs h b d) (hd : n = d.size) (hn : n ≤ 200) (he : e ≤ n) (ha : a < e) :
    ∃ h1 h', call Ev Fn.slices_breakPatternsCmpFunc_impl_seen [sv b 0 n, iv .i64 (a : Nat), iv .i64 (e : Nat), .s (.fn Fn.impl_look_1 [])] h = some (.tup [], h1) ∧ Vm.tidy h [.tup []] h1 = h' ∧ Hs h' b (breakPatterns d a e) ∧ n = (breakPatterns d a e).size ∧ Oth b h h' := by
  rw [eq_slices_breakPatternsCmpFunc_impl_seen, w64 (n := (e : Int) - (a : Int)) (by omega) (by omega), show (e : Int) - (a : Int) = ((e - a : Nat) : Int) from by omega, vcase_b]
  unfold breakPatterns
  simp only []
  by_cases h8 : e - a ≥ 8
  case neg =>
    rw [if_neg (by simp; omega), if_neg h8]
    exact ⟨h, h, rfl, tidy_self _ _, hs, hd, Oth.refl _ _⟩
  rw [if_pos (by simp; omega), if_pos h8]
  have hbn := hs.n
  have x0 : Xs (h.new 0 [.int .u64 0]) h.n 0 := ⟨by simp, new_g _ _ _⟩
  rw [u64w (by omega) (by omega), x0.st, pc (p_pow2 (n := e - a) (by omega)) rfl]
  simp only [gV1_s, gI_i]
  rw [bin_quo' (by omega) (by omega) (by omega), ob]
  simp only [gV1_s, gI_i]
  have hl4 : (e - a) / 4 * 4 ≤ e - a := Nat.div_mul_le_self _ _
  have hl1 : 2 ≤ (e - a) / 4 := by omega
  rw [show ((e - a : Nat) : Int) / 4 = (((e - a) / 4 : Nat) : Int) from by omega, w64 (n := (((e - a) / 4 : Nat) : Int) * 2) (by omega) (by omega), w64 (n := (a : Int) + (((e - a) / 4 : Nat) : Int) * 2) (by omega) (by omega), w64 (n := (a : Int) + (((e - a) / 4 : Nat) : Int) * 2 - 1) (by omega) (by omega), show (a : Int) + (((e - a) / 4 : Nat) : Int) * 2 - 1 = ((a + (e - a) / 4 * 2 - 1 : Nat) : Int) from by omega]
  have hm : 2 ^ bitsLen (e - a) ≤ 2 * (e - a) := two_pow_bitsLen_le (by omega)
  have hm0 : 1 ≤ 2 ^ bitsLen (e - a) := Nat.one_le_two_pow
  rw [Nat.one_shiftLeft]
  generalize 2 ^ bitsLen (e - a) = m at hm hm0 ⊢
  have hl : (UInt64.ofNat (e - a)).toNat = e - a := by
    rw [UInt64.toNat_ofNat']; omega
  have k0 : Hs ((h.new 0 [.int .u64 0]).put h.n (.rw 0 [.int .u64 ((e - a : Nat) : Int)])) b d := ⟨by simp; omega, by rw [put_g' (by omega), new_g' (by omega)]; exact hs.g⟩
  have x1 : Xs ((h.new 0 [.int .u64 0]).put h.n (.rw 0 [.int .u64 ((e - a : Nat) : Int)])) h.n (UInt64.ofNat (e - a)).toNat := by rw [hl]; exact Xs.put x0.n
  have kn : ((h.new 0 [.int .u64 0]).put h.n (.rw 0 [.int .u64 ((e - a : Nat) : Int)])).n = h.n + 1 := by simp
  have kg : ∀ c, c < h.n → ((h.new 0 [.int .u64 0]).put h.n (.rw 0 [.int .u64 ((e - a : Nat) : Int)])).g c = h.g c ∧ ((h.new 0 [.int .u64 0]).put h.n (.rw 0 [.int .u64 ((e - a : Nat) : Int)])).v c = h.v c := fun c hc => by
    refine ⟨by rw [put_g' (by omega), new_g' (by omega)], ?_⟩
    simp [H.put, H.new, show c ≠ h.n by omega]
  generalize (h.new 0 [.int .u64 0]).put h.n (.rw 0 [.int .u64 ((e - a : Nat) : Int)]) = K at k0 x1 kn kg ⊢
  obtain ⟨h2, e2, w2, d2, y2, o2⟩ := brk_step2 (st := (UInt64.ofNat (e - a), d)) (a := a) (len := e - a) (m := m) (idx := a + (e - a) / 4 * 2 - 1) k0 hd hn x1 (by omega) h8 (by omega) hm hm0 (by omega) (by omega)
  rw [e2]
  generalize breakStep a (e - a) m (UInt64.ofNat (e - a), d) (a + (e - a) / 4 * 2 - 1) = s2 at w2 d2 y2 ⊢
  obtain ⟨h3, e3, w3, d3, y3, o3⟩ := brk_step2 (st := s2) (a := a) (len := e - a) (m := m) (idx := a + (e - a) / 4 * 2 - 1 + 1) w2 d2 hn y2 (by omega) h8 (by omega) hm hm0 (by omega) (by omega)
  rw [e3]
  generalize breakStep a (e - a) m s2 (a + (e - a) / 4 * 2 - 1 + 1) = s3 at w3 d3 y3 ⊢
  obtain ⟨h4, e4, w4, d4, y4, o4⟩ := brk_step2 (st := s3) (a := a) (len := e - a) (m := m) (idx := a + (e - a) / 4 * 2 - 1 + 1 + 1) w3 d3 hn y3 (by omega) h8 (by omega) hm hm0 (by omega) (by omega)
  rw [e4, show a + (e - a) / 4 * 2 - 1 + 2 = a + (e - a) / 4 * 2 - 1 + 1 + 1 from rfl]
  generalize breakStep a (e - a) m s3 (a + (e - a) / 4 * 2 - 1 + 1 + 1) = s4 at w4 d4 y4 ⊢
  rw [eq_slices_breakPatternsCmpFunc_impl_seen_l0, bin_quo' (by omega) (by omega) (by omega), ob]
  simp only [gV1_s, gI_i]
  rw [show ((e - a : Nat) : Int) / 4 = (((e - a) / 4 : Nat) : Int) from by omega, w64 (n := (((e - a) / 4 : Nat) : Int) * 2) (by omega) (by omega), w64 (n := (a : Int) + (((e - a) / 4 : Nat) : Int) * 2) (by omega) (by omega), w64 (n := (a : Int) + (((e - a) / 4 : Nat) : Int) * 2 + 1) (by omega) (by omega), vcase_b, if_neg (by simp; omega), tidy_self, ob, lcase_done]
  have oo := (o2.trans o3).trans o4
  obtain ⟨h', t1, t2, t3⟩ := Ot2.out (b := b) (h := h) (h1 := h4) ⟨oo.1.trans kn, fun c hcb hc => ⟨((oo.2 c hcb (by omega)).1).trans (kg c hc).1, ((oo.2 c hcb (by omega)).2).trans (kg c hc).2⟩⟩ w4 hbn
  exact ⟨h4, h', rfl, t1, t2, d4, t3⟩
end Vm
/-
  pdqsort of seen rows. (Printed by wip/tools/so13.py.)
-/
namespace Vm
open Go Go.Sort
/-- the loop from a heap on ends well -/
def Ends (b n a e : Nat) (d : Array SeenD) (h : H) (r : Option LOut) : Prop := ∃ h' d' o, r = some o ∧ ((∃ l, o = .done l h') ∨ o = .ret (.tup []) h') ∧ Hs h' b d' ∧ Oth b h h' ∧ PermIn a e d d' ∧ SortedIn ltS a e d'
/-- what is known of shorter stretches -/
def Shorter (b n k : Nat) : Prop := ∀ (a e limit : Nat) (wb wp : Bool) (h : H) (d : Array SeenD), e - a < k → a ≤ e → e ≤ n → limit ≤ 1000 → Hs h b d → n = d.size → Below ltS a e d →
  Ends b n a e d h (Lp.slices_pdqsortCmpFunc_impl_seen 0 [sv b 0 n, iv .i64 (a : Nat), iv .i64 (e : Nat), iv .i64 (limit : Nat), .s (.fn Fn.impl_look_1 []), bv wb, bv wp] h)
theorem Shorter.call {b n k a e limit : Nat} {h : H} {d : Array SeenD} (w : Shorter b n k) (hk : e - a < k) (hae : a ≤ e) (he : e ≤ n) (hl : limit ≤ 1000) (hs : Hs h b d) (hd : n = d.size) (hB : Below ltS a e d) :
    ∃ h' d', call Ev Fn.slices_pdqsortCmpFunc_impl_seen [sv b 0 n, iv .i64 (a : Nat), iv .i64 (e : Nat), iv .i64 (limit : Nat), .s (.fn Fn.impl_look_1 [])] h = some (.tup [], h') ∧ Hs h' b d' ∧ Oth b h h' ∧ PermIn a e d d' ∧ SortedIn ltS a e d' := by
  rw [eq_slices_pdqsortCmpFunc_impl_seen]
  obtain ⟨h', d', o, e1, f1, w1, o1, p1, s1⟩ := w a e limit true true h d hk hae he hl hs hd hB
  rw [e1, ob]
  rcases f1 with ⟨l, rfl⟩ | rfl
  · exact ⟨h', d', rfl, w1, o1, p1, s1⟩
  · exact ⟨h', d', rfl, w1, o1, p1, s1⟩
theorem pd_J5 {b n a e limit p : Nat} {i858 : Int} {wb wp : Bool} {h h3 : H} {d3 : Array SeenD} (w : Shorter b n (e - a)) (hn : n ≤ 200) (hb : b < h.n) (o3 : Oth b h h3) (hs : Hs h3 b d3) (hd : n = d3.size) (he : e ≤ n) (hae : a < e) (hl : limit ≤ 1000) (hB : Below ltS a e d3) (p1 : a ≤ p) (p2 : p < e)
    (hp3 : i858 = (p : Int)) :
    ∃ h' d' o, Jn.slices_pdqsortCmpFunc_impl_seen_l0_5 h3 (a : Int) (sv b 0 n) i858 (e : Int) (limit : Int) wb wp h = some o ∧ ((∃ l, o = .done l h') ∨ o = .ret (.tup []) h') ∧ Hs h' b d' ∧ Oth b h h' ∧ PermIn a e d3 d' ∧ SortedIn ltS a e d' := by
  subst hp3
  have part : ∀ {g1 g2 g3 g4 g5 g6 g7 g8 g9 g10 g11 g12 g13 : V} {q : Bool}, ∃ h' d' o, Jn.slices_pdqsortCmpFunc_impl_seen_l0_4 q g1 g2 g3 g4 g5 g6 g7 g8 g9 g10 g11 g12 g13 false (sv b 0 n) (a : Int) (e : Int) (p : Int) h3 (limit : Int) wb wp h = some o ∧ ((∃ l, o = .done l h') ∨ o = .ret (.tup []) h') ∧ Hs h' b d' ∧ Oth b h h' ∧ PermIn a e d3 d' ∧ SortedIn ltS a e d' := by
    intros
    unfold Jn.slices_pdqsortCmpFunc_impl_seen_l0_4
    rw [vcase_b, if_neg (by simp)]
    obtain ⟨h4, e4, w4, o4⟩ := r_part (b := b) hs hd (by omega) he hae p1 p2
    rcases hx : partition ltS d3 a e p with ⟨mid, ap, d4⟩
    rw [hx] at e4 w4
    obtain ⟨m1, m2, m3, m4, m5, m6, m7⟩ := round_part swo_ltS (partition_holds _) p1 p2 (by omega) hB hx
    simp only [] at e4 w4
    rw [e4, ob]
    dsimp only
    simp only [gVT_t, gx0, gx1, ob, gA1_s, gI_i, gB_b]
    rw [if_pos (show ([_, _] : List A).length = 2 from rfl), w64 (n := (e : Int) - (a : Int)) (by omega) (by omega), bin_quo' (by omega) (by omega) (by omega), ob]
    simp only [gV1_s, gI_i]
    have o34 := o3.trans o4
    have hd4 : n = d4.size := by omega
    rw [w64 (n := (mid : Int) - (a : Int)) (by omega) (by omega), w64 (n := (e : Int) - (mid : Int)) (by omega) (by omega), w64 (n := (mid : Int) + 1) (by omega) (by omega), show (mid : Int) + 1 = ((mid + 1 : Nat) : Int) from by omega, o4.tidy hs.n, vcase_b]
    by_cases hm : mid - a < e - mid
    · rw [if_pos (by simp; omega)]
      obtain ⟨h5, L, e5, w5, o5, pL, sL⟩ := w.call (a := a) (e := mid) (limit := limit) (by omega) m1 (by omega) hl w4 hd4 m4
      rw [e5, ob]
      dsimp only
      have o35 := o34.trans o5
      rw [o5.tidy w4.n, o35.tidy hb]
      obtain ⟨bl, fin⟩ := m6 L pL sL
      obtain ⟨h6, R, o, e6, f6, w6, o6, pR, sR⟩ := w (mid + 1) e limit _ _ h5 L (by omega) (by omega) he hl w5 (by rw [pL.1]; exact hd4) bl
      obtain ⟨x1, x2⟩ := fin R pR sR
      exact ⟨h6, R, o, e6, f6, w6, o35.trans o6, x1, x2⟩
    · rw [if_neg (by simp; omega)]
      obtain ⟨h5, L, e5, w5, o5, pL, sL⟩ := w.call (a := mid + 1) (e := e) (limit := limit) (by omega) (by omega) he hl w4 hd4 m5
      rw [e5, ob]
      dsimp only
      have o35 := o34.trans o5
      rw [o5.tidy w4.n, o35.tidy hb]
      obtain ⟨bl, fin⟩ := m7 L pL sL
      obtain ⟨h6, R, o, e6, f6, w6, o6, pR, sR⟩ := w a mid limit _ _ h5 L (by omega) m1 (by omega) hl w5 (by rw [pL.1]; exact hd4) bl
      obtain ⟨x1, x2⟩ := fin R pR sR
      exact ⟨h6, R, o, e6, f6, w6, o35.trans o6, x1, x2⟩
  unfold Jn.slices_pdqsortCmpFunc_impl_seen_l0_5
  rw [vcase_b]
  by_cases ha0 : 0 < a
  case neg =>
    rw [if_neg (by simp; omega), hchk_self]
    exact part
  rw [if_pos (by simp; omega), w64 (n := (a : Int) - 1) (by omega) (by omega), show (a : Int) - 1 = ((a - 1 : Nat) : Int) from by omega, hs.ldG hd (by omega), hs.ldG hd (by omega), pc (p_look1 d3[a - 1]! d3[p]!) rfl]
  simp only [gV1_s, gI_i, hchk_self]
  rw [ordI_lt]
  cases hl2 : ltS d3[a - 1]! d3[p]!
  case true => exact part
  unfold Jn.slices_pdqsortCmpFunc_impl_seen_l0_4
  rw [vcase_b, if_pos (by simp)]
  obtain ⟨h4, e4, w4, o4⟩ := r_partEq (b := b) hs hd (by omega) he hae p1 p2
  rcases hx : partitionEqual ltS d3 a e p with ⟨mid, d4⟩
  rw [hx] at e4 w4
  obtain ⟨m1, m2, m3, m4, m5⟩ := round_eq swo_ltS (partitionEqual_holds _) ha0 p1 p2 (by omega) hB hl2 hx
  simp only [] at e4 w4
  rw [e4, ob]
  dsimp only
  simp only [gV1_s, gI_i]
  have o34 := o3.trans o4
  rw [o4.tidy hs.n, o34.tidy hb]
  obtain ⟨h6, R, o, e6, f6, w6, o6, pR, sR⟩ := w mid e limit wb wp h4 d4 (by omega) m2 he hl w4 (by omega) m4
  obtain ⟨x1, x2⟩ := m5 R pR sR
  exact ⟨h6, R, o, e6, f6, w6, o34.trans o6, x1, x2⟩
theorem pd_J1 {b n a e limit p : Nat} {i858 : Int} {wb wp : Bool} {h h3 : H} {d3 : Array SeenD} (w : Shorter b n (e - a)) (hn : n ≤ 200) (hb : b < h.n) (o3 : Oth b h h3) (hs : Hs h3 b d3) (hd : n = d3.size) (he : e ≤ n) (hae : a < e) (hl : limit ≤ 1000) (hB : Below ltS a e d3) (p1 : a ≤ p) (p2 : p < e)
    (hp3 : IntKind.i64.wrap ((IntKind.i64.wrap ((e : Int) - 1)) - (IntKind.i64.wrap (i858 - (a : Int)))) = (p : Int)) :
    ∃ h' d' o, Jn.slices_pdqsortCmpFunc_impl_seen_l0_1 h3 (a : Int) (sv b 0 n) (e : Int) i858 (limit : Int) wb wp h = some o ∧ ((∃ l, o = .done l h') ∨ o = .ret (.tup []) h') ∧ Hs h' b d' ∧ Oth b h h' ∧ PermIn a e d3 d' ∧ SortedIn ltS a e d' := by
  have part : ∀ {g1 g2 g3 g4 g5 g6 g7 g8 g9 g10 g11 g12 g13 : V} {q : Bool}, ∃ h' d' o, Jn.slices_pdqsortCmpFunc_impl_seen_l0_0 q g1 g2 g3 g4 g5 g6 g7 g8 g9 g10 g11 g12 g13 false (sv b 0 n) (a : Int) (e : Int) i858 h3 (limit : Int) wb wp h = some o ∧ ((∃ l, o = .done l h') ∨ o = .ret (.tup []) h') ∧ Hs h' b d' ∧ Oth b h h' ∧ PermIn a e d3 d' ∧ SortedIn ltS a e d' := by
    intros
    unfold Jn.slices_pdqsortCmpFunc_impl_seen_l0_0
    rw [vcase_b, if_neg (by simp), hp3]
    obtain ⟨h4, e4, w4, o4⟩ := r_part (b := b) hs hd (by omega) he hae p1 p2
    rcases hx : partition ltS d3 a e p with ⟨mid, ap, d4⟩
    rw [hx] at e4 w4
    obtain ⟨m1, m2, m3, m4, m5, m6, m7⟩ := round_part swo_ltS (partition_holds _) p1 p2 (by omega) hB hx
    simp only [] at e4 w4
    rw [e4, ob]
    dsimp only
    simp only [gVT_t, gx0, gx1, ob, gA1_s, gI_i, gB_b]
    rw [if_pos (show ([_, _] : List A).length = 2 from rfl), w64 (n := (e : Int) - (a : Int)) (by omega) (by omega), bin_quo' (by omega) (by omega) (by omega), ob]
    simp only [gV1_s, gI_i]
    have o34 := o3.trans o4
    have hd4 : n = d4.size := by omega
    rw [w64 (n := (mid : Int) - (a : Int)) (by omega) (by omega), w64 (n := (e : Int) - (mid : Int)) (by omega) (by omega), w64 (n := (mid : Int) + 1) (by omega) (by omega), show (mid : Int) + 1 = ((mid + 1 : Nat) : Int) from by omega, o4.tidy hs.n, vcase_b]
    by_cases hm : mid - a < e - mid
    · rw [if_pos (by simp; omega)]
      obtain ⟨h5, L, e5, w5, o5, pL, sL⟩ := w.call (a := a) (e := mid) (limit := limit) (by omega) m1 (by omega) hl w4 hd4 m4
      rw [e5, ob]
      dsimp only
      have o35 := o34.trans o5
      rw [o5.tidy w4.n, o35.tidy hb]
      obtain ⟨bl, fin⟩ := m6 L pL sL
      obtain ⟨h6, R, o, e6, f6, w6, o6, pR, sR⟩ := w (mid + 1) e limit _ _ h5 L (by omega) (by omega) he hl w5 (by rw [pL.1]; exact hd4) bl
      obtain ⟨x1, x2⟩ := fin R pR sR
      exact ⟨h6, R, o, e6, f6, w6, o35.trans o6, x1, x2⟩
    · rw [if_neg (by simp; omega)]
      obtain ⟨h5, L, e5, w5, o5, pL, sL⟩ := w.call (a := mid + 1) (e := e) (limit := limit) (by omega) (by omega) he hl w4 hd4 m5
      rw [e5, ob]
      dsimp only
      have o35 := o34.trans o5
      rw [o5.tidy w4.n, o35.tidy hb]
      obtain ⟨bl, fin⟩ := m7 L pL sL
      obtain ⟨h6, R, o, e6, f6, w6, o6, pR, sR⟩ := w a mid limit _ _ h5 L (by omega) m1 (by omega) hl w5 (by rw [pL.1]; exact hd4) bl
      obtain ⟨x1, x2⟩ := fin R pR sR
      exact ⟨h6, R, o, e6, f6, w6, o35.trans o6, x1, x2⟩
  unfold Jn.slices_pdqsortCmpFunc_impl_seen_l0_1
  rw [vcase_b]
  by_cases ha0 : 0 < a
  case neg =>
    rw [if_neg (by simp; omega), hchk_self]
    exact part
  rw [if_pos (by simp; omega), w64 (n := (a : Int) - 1) (by omega) (by omega), show (a : Int) - 1 = ((a - 1 : Nat) : Int) from by omega, hs.ldG hd (by omega), hp3, hs.ldG hd (by omega), pc (p_look1 d3[a - 1]! d3[p]!) rfl]
  simp only [gV1_s, gI_i, hchk_self]
  rw [ordI_lt]
  cases hl2 : ltS d3[a - 1]! d3[p]!
  case true => exact part
  unfold Jn.slices_pdqsortCmpFunc_impl_seen_l0_0
  rw [vcase_b, if_pos (by simp), hp3]
  obtain ⟨h4, e4, w4, o4⟩ := r_partEq (b := b) hs hd (by omega) he hae p1 p2
  rcases hx : partitionEqual ltS d3 a e p with ⟨mid, d4⟩
  rw [hx] at e4 w4
  obtain ⟨m1, m2, m3, m4, m5⟩ := round_eq swo_ltS (partitionEqual_holds _) ha0 p1 p2 (by omega) hB hl2 hx
  simp only [] at e4 w4
  rw [e4, ob]
  dsimp only
  simp only [gV1_s, gI_i]
  have o34 := o3.trans o4
  rw [o4.tidy hs.n, o34.tidy hb]
  obtain ⟨h6, R, o, e6, f6, w6, o6, pR, sR⟩ := w mid e limit wb wp h4 d4 (by omega) m2 he hl w4 (by omega) m4
  obtain ⟨x1, x2⟩ := m5 R pR sR
  exact ⟨h6, R, o, e6, f6, w6, o34.trans o6, x1, x2⟩
end Vm
/-
  pdqsort of seen rows: partial insertion ahead of the partition.
-/
namespace Vm
open Go Go.Sort
theorem pd_J6 {b n a e limit p : Nat} {q wb wp : Bool} {h h2 : H} {d2 : Array SeenD} (w : Shorter b n (e - a)) (hn : n ≤ 200) (hb : b < h.n) (o2 : Oth b h h2) (hs : Hs h2 b d2) (hd : n = d2.size) (he : e ≤ n) (hae : a < e) (hl : limit ≤ 1000) (hB : Below ltS a e d2) (p1 : a ≤ p) (p2 : p < e) :
    ∃ h' d' o, Jn.slices_pdqsortCmpFunc_impl_seen_l0_6 q (sv b 0 n) (a : Int) (e : Int) h2 (p : Int) (limit : Int) wb wp h = some o ∧ ((∃ l, o = .done l h') ∨ o = .ret (.tup []) h') ∧ Hs h' b d' ∧ Oth b h h' ∧ PermIn a e d2 d' ∧ SortedIn ltS a e d' := by
  unfold Jn.slices_pdqsortCmpFunc_impl_seen_l0_6
  rw [vcase_b]
  cases q
  · rw [if_neg (by simp)]
    exact pd_J5 w hn hb o2 hs hd he hae hl hB p1 p2 rfl
  rw [if_pos rfl]
  obtain ⟨h3, e3, w3, z3, o3⟩ := r_partial (b := b) hs hd (by omega) he hae
  obtain ⟨q1, q2⟩ := partialInsertionSort_holds swo_ltS d2 a e hae (by omega) hB
  rw [e3, ob]
  dsimp only
  simp only [gV1_s, gB_b]
  rw [o3.tidy hs.n, vcase_b]
  cases hq : (partialInsertionSort ltS d2 a e).2
  · rw [if_neg (by simp)]
    obtain ⟨h', d', o, x1, x2, x3, x4, x5, x6⟩ := pd_J5 (limit := limit) (p := p) (wb := wb) (wp := wp) (i858 := (p : Int)) w hn hb (o2.trans o3) w3 (by omega) he hae hl (hB.perm (by omega) q1) p1 p2 rfl
    exact ⟨h', d', o, x1, x2, x3, x4, permIn_trans _ _ _ _ _ q1 x5, x6⟩
  · rw [if_pos rfl]
    exact ⟨h3, _, _, rfl, .inr rfl, w3, o2.trans o3, q1, q2 hq⟩
theorem pd_J2 {b n a e limit p : Nat} {i858 : Int} {q wb wp : Bool} {h h0 h2 : H} {d2 : Array SeenD} (w : Shorter b n (e - a)) (hn : n ≤ 200) (hb : b < h.n) (ht : Vm.tidy h0 [.tup []] h2 = h2) (o2 : Oth b h h2) (hs : Hs h2 b d2) (hd : n = d2.size) (he : e ≤ n) (hae : a < e) (hl : limit ≤ 1000) (hB : Below ltS a e d2) (p1 : a ≤ p) (p2 : p < e)
    (hp3 : IntKind.i64.wrap ((IntKind.i64.wrap ((e : Int) - 1)) - (IntKind.i64.wrap (i858 - (a : Int)))) = (p : Int)) :
    ∃ h' d' o, Jn.slices_pdqsortCmpFunc_impl_seen_l0_2 q (sv b 0 n) (a : Int) (e : Int) h0 (.tup [], h2) i858 (limit : Int) wb wp h = some o ∧ ((∃ l, o = .done l h') ∨ o = .ret (.tup []) h') ∧ Hs h' b d' ∧ Oth b h h' ∧ PermIn a e d2 d' ∧ SortedIn ltS a e d' := by
  unfold Jn.slices_pdqsortCmpFunc_impl_seen_l0_2
  dsimp only
  rw [vcase_b, ht]
  cases q
  · rw [if_neg (by simp)]
    exact pd_J1 w hn hb o2 hs hd he hae hl hB p1 p2 hp3
  rw [if_pos rfl]
  obtain ⟨h3, e3, w3, z3, o3⟩ := r_partial (b := b) hs hd (by omega) he hae
  obtain ⟨q1, q2⟩ := partialInsertionSort_holds swo_ltS d2 a e hae (by omega) hB
  rw [e3, ob]
  dsimp only
  simp only [gV1_s, gB_b]
  rw [o3.tidy hs.n, vcase_b]
  cases hq : (partialInsertionSort ltS d2 a e).2
  · rw [if_neg (by simp)]
    obtain ⟨h', d', o, x1, x2, x3, x4, x5, x6⟩ := pd_J1 (limit := limit) (p := p) (wb := wb) (wp := wp) (i858 := i858) w hn hb (o2.trans o3) w3 (by omega) he hae hl (hB.perm (by omega) q1) p1 p2 hp3
    exact ⟨h', d', o, x1, x2, x3, x4, permIn_trans _ _ _ _ _ q1 x5, x6⟩
  · rw [if_pos rfl]
    exact ⟨h3, _, _, rfl, .inr rfl, w3, o2.trans o3, q1, q2 hq⟩
end Vm
/-
  pdqsort of seen rows, whole.
-/
namespace Vm
open Go Go.Sort
theorem Hs.frz {h : H} {b n : Nat} {d : Array SeenD} (hs : Hs h b d) (hd : n = d.size) : frzV h (sv b 0 n) = some (lv (sns d)) := by
  have := frzS_sl (h := h) (b := b) (z := 9) (d := 7) (rows := sns d) hs.n (by omega) hs.g (fun r hr => by
    obtain ⟨x, _, rfl⟩ := List.mem_map.1 hr; rfl) (fun r hr s hm => by
    obtain ⟨x, _, rfl⟩ := List.mem_map.1 hr
    simp only [SeenD.cs, List.mem_cons, List.not_mem_nil, or_false] at hm
    rcases hm with rfl | rfl | rfl | rfl | rfl | rfl | rfl | rfl | rfl <;> first | exact cl_i | exact cl_s | exact cl_b)
  have hl : (sns d).length = n := by unfold sns; simp [hd]
  rw [hl] at this
  rw [frzV_s, this]; rfl
theorem pd_J8 {b n a e limit : Nat} {wb wp : Bool} {h h1 : H} {d : Array SeenD} (w : Shorter b n (e - a)) (hn : n ≤ 200) (hb : b < h.n) (o1 : Oth b h h1) (hs : Hs h1 b d) (hd : n = d.size) (he : e ≤ n) (hae : a < e) (hl : limit ≤ 1000) (hB : Below ltS a e d) :
    ∃ h' d' o, Jn.slices_pdqsortCmpFunc_impl_seen_l0_8 (limit : Int) h1 (sv b 0 n) (a : Int) (e : Int) wb wp h = some o ∧ ((∃ l, o = .done l h') ∨ o = .ret (.tup []) h') ∧ Hs h' b d' ∧ Oth b h h' ∧ PermIn a e d d' ∧ SortedIn ltS a e d' := by
  unfold Jn.slices_pdqsortCmpFunc_impl_seen_l0_8
  rw [frzVs_cons (hs.frz hd) (frzVs_cons frzV_iv (frzVs_cons frzV_iv (frzVs_cons (show frzV h1 (V.s (.fn Fn.impl_look_1 [])) = some (.s (.fn Fn.impl_look_1 [])) from rfl) frzVs_nil))), ob, norm_nil, pc (p_choose (d := d) (by omega) (by omega) hae) rfl]
  obtain ⟨c1, c2⟩ := choosePivot_holds ltS d a e hae
  generalize choosePivot ltS d a e = c at c1 c2 ⊢
  simp only [gVT_t, gx0, gx1, ob, gA1_s, gI_i]
  rw [if_pos (show ([_, _] : List A).length = 2 from rfl), vcase_b]
  by_cases hc : hintCode c.2 = 2
  · rw [if_pos (by simp [hc])]
    obtain ⟨h2, e2, w2, o2⟩ := r_reverse (b := b) hs hd (by omega) he hae
    have q1 := reverseRange_holds d a e (by omega) (by omega)
    rw [e2, ob]
    have k : ∀ q : Bool, ∃ h' d' o, Jn.slices_pdqsortCmpFunc_impl_seen_l0_2 q (sv b 0 n) (a : Int) (e : Int) h1 (.tup [], h2) (c.1 : Int) (limit : Int) wb wp h = some o ∧ ((∃ l, o = .done l h') ∨ o = .ret (.tup []) h') ∧ Hs h' b d' ∧ Oth b h h' ∧ PermIn a e d d' ∧ SortedIn ltS a e d' := fun q => by
      obtain ⟨h', d', o, x1, x2, x3, x4, x5, x6⟩ := pd_J2 (q := q) (limit := limit) (p := e - 1 - (c.1 - a)) (wb := wb) (wp := wp) (i858 := (c.1 : Int)) (h0 := h1) w hn hb (o2.tidy hs.n) (o1.trans o2) w2 (by rw [q1.1]; exact hd) he hae hl (hB.perm (by omega) q1) (by omega) (by omega) (by rw [w64 (n := (e : Int) - 1) (by omega) (by omega), w64 (n := (c.1 : Int) - (a : Int)) (by omega) (by omega), w64 (by omega) (by omega)]; omega)
      exact ⟨h', d', o, x1, x2, x3, x4, permIn_trans _ _ _ _ _ q1 x5, x6⟩
    have k3 : ∀ q : Bool, ∃ h' d' o, Jn.slices_pdqsortCmpFunc_impl_seen_l0_3 q (sv b 0 n) (a : Int) (e : Int) h1 (.tup [], h2) (c.1 : Int) (limit : Int) wb wp h = some o ∧ ((∃ l, o = .done l h') ∨ o = .ret (.tup []) h') ∧ Hs h' b d' ∧ Oth b h h' ∧ PermIn a e d d' ∧ SortedIn ltS a e d' := fun q => by
      unfold Jn.slices_pdqsortCmpFunc_impl_seen_l0_3
      rw [vcase_b]
      cases q
      · rw [if_neg (by simp)]; exact k _
      · rw [if_pos rfl]; exact k _
    rw [vcase_b]
    cases wb
    · rw [if_neg (by simp)]; exact k3 _
    · rw [if_pos rfl]; exact k3 _
  · rw [if_neg (by simpa using hc)]
    have k3 : ∀ q : Bool, ∃ h' d' o, Jn.slices_pdqsortCmpFunc_impl_seen_l0_7 q (hintCode c.2) (sv b 0 n) (a : Int) (e : Int) h1 (c.1 : Int) (limit : Int) wb wp h = some o ∧ ((∃ l, o = .done l h') ∨ o = .ret (.tup []) h') ∧ Hs h' b d' ∧ Oth b h h' ∧ PermIn a e d d' ∧ SortedIn ltS a e d' := fun q => by
      unfold Jn.slices_pdqsortCmpFunc_impl_seen_l0_7
      rw [vcase_b]
      cases q
      · rw [if_neg (by simp)]; exact pd_J6 w hn hb o1 hs hd he hae hl hB c1 c2
      · rw [if_pos rfl]; exact pd_J6 w hn hb o1 hs hd he hae hl hB c1 c2
    rw [vcase_b]
    cases wb
    · rw [if_neg (by simp)]; exact k3 _
    · rw [if_pos rfl]; exact k3 _
end Vm
/-
  The sort of seen rows.
-/
namespace Vm
open Go Go.Sort
theorem pd_all {b n : Nat} (hn : n ≤ 200) : ∀ k, Shorter b n k := by
  intro k
  induction k with
  | zero => intro a e limit wb wp h d hk; omega
  | succ k ih =>
    intro a e limit wb wp h d hk hae he hl hs hd hB
    have w : Shorter b n (e - a) := fun a' e' l' wb' wp' h' d' h1 => ih a' e' l' wb' wp' h' d' (by omega)
    unfold Ends
    rw [eq_slices_pdqsortCmpFunc_impl_seen_l0, w64 (n := (e : Int) - (a : Int)) (by omega) (by omega), vcase_b]
    by_cases h12 : e - a ≤ 12
    · rw [if_pos (by simp; omega)]
      obtain ⟨h1, e1, w1, o1⟩ := r_insertion (b := b) (a := a) hs hd (by omega) he (by omega)
      obtain ⟨p1, s1⟩ := insertionSort_holds swo_ltS d a e hae (by omega)
      rw [e1, ob]
      dsimp only
      rw [o1.tidy hs.n]
      exact ⟨h1, _, _, rfl, .inr rfl, w1, o1, p1, s1⟩
    rw [if_neg (by simp; omega), vcase_b]
    by_cases h0 : limit = 0
    · rw [if_pos (by simp [h0])]
      obtain ⟨h1, e1, w1, o1⟩ := r_heap (b := b) (a := a) hs hd (by omega) he (by omega)
      obtain ⟨p1, s1⟩ := heapSort_holds swo_ltS d a e hae (by omega)
      rw [e1, ob]
      dsimp only
      rw [o1.tidy hs.n]
      exact ⟨h1, _, _, rfl, .inr rfl, w1, o1, p1, s1⟩
    rw [if_neg (by simpa using h0), vcase_b]
    cases wb
    · rw [if_pos (show (!false) = true from rfl)]
      obtain ⟨h1, h', e1, t1, w1, z1, o1⟩ := r_break (b := b) (a := a) hs hd hn he (by omega)
      have q1 := breakPatterns_holds d a e hae (by omega)
      rw [e1, ob]
      dsimp only
      rw [t1, w64 (n := (limit : Int) - 1) (by omega) (by omega), show (limit : Int) - 1 = ((limit - 1 : Nat) : Int) from by omega]
      obtain ⟨h'', d', o, x1, x2, x3, x4, x5, x6⟩ := pd_J8 (limit := limit - 1) (wb := false) (wp := wp) w hn hs.n o1 w1 z1 he (by omega) (by omega) (hB.perm (by omega) q1)
      exact ⟨h'', d', o, x1, x2, x3, x4, permIn_trans _ _ _ _ _ q1 x5, x6⟩
    · rw [if_neg (by simp)]
      exact pd_J8 w hn hs.n (Oth.refl _ _) hs hd he (by omega) hl hB
theorem r_sort {b n : Nat} {h : H} {d : Array SeenD} (hs : Hs h b d) (hd : n = d.size) (hn : n ≤ 200) :
    ∃ h' d', call Ev Fn.slices_SortFunc_impl_seen_impl_seen [sv b 0 n, .s (.fn Fn.impl_look_1 [])] h = some (.tup [], h') ∧ Hs h' b d' ∧ Oth b h h' ∧ PermIn 0 n d d' ∧ SortedIn ltS 0 n d' := by
  rw [eq_slices_SortFunc_impl_seen_impl_seen]
  simp only [lenV, ob, gV1_s, gI_i]
  rw [u64w (by omega) (by omega), pc (p_Len (n := n) (by omega)) rfl]
  simp only [gV1_s, gI_i]
  have h8 := bitsLen_255 (n := n) (by omega)
  obtain ⟨h', d', e1, w1, o1, p1, s1⟩ := (pd_all (b := b) hn (n + 1)).call (a := 0) (e := n) (limit := bitsLen n) (by omega) (by omega) (Nat.le_refl _) (by omega) hs hd (.inl rfl)
  have e2 : call Ev Fn.slices_pdqsortCmpFunc_impl_seen [sv b 0 n, iv .i64 0, iv .i64 (n : Nat), iv .i64 (bitsLen n : Nat), .s (.fn Fn.impl_look_1 [])] h = some (.tup [], h') := e1
  rw [e2, ob]
  dsimp only
  rw [o1.tidy hs.n]
  exact ⟨h', d', rfl, w1, o1, p1, s1⟩
end Vm
/-
  The sort of no rows.
-/
namespace Vm
open Go Go.Sort
theorem r_sort_nil {h : H} : call Ev Fn.slices_SortFunc_impl_seen_impl_seen [.s (.sl none 0), .s (.fn Fn.impl_look_1 [])] h = some (.tup [], h) := by
  rw [eq_slices_SortFunc_impl_seen_impl_seen]
  have e0 : lenV (.sl 89) (.s (.sl none 0)) = some (iv .i64 ((0 : Nat) : Int)) := rfl
  rw [e0]
  simp only [ob, gV1_s, gI_i]
  rw [u64w (by omega) (by omega), pc (p_Len (n := 0) (by omega)) rfl]
  simp only [gV1_s, gI_i]
  have i1 : call Ev Fn.slices_insertionSortCmpFunc_impl_seen [.s (.sl none 0), iv .i64 0, iv .i64 0, .s (.fn Fn.impl_look_1 [])] h = some (.tup [], h) := by
    rw [eq_slices_insertionSortCmpFunc_impl_seen, w64 (by omega) (by omega), eq_slices_insertionSortCmpFunc_impl_seen_l0, vcase_b, if_neg (by simp), tidy_self, ob, lcase_done]
  have p1 : call Ev Fn.slices_pdqsortCmpFunc_impl_seen [.s (.sl none 0), iv .i64 0, iv .i64 ((0 : Nat) : Int), iv .i64 (bitsLen 0 : Nat), .s (.fn Fn.impl_look_1 [])] h = some (.tup [], h) := by
    rw [eq_slices_pdqsortCmpFunc_impl_seen, eq_slices_pdqsortCmpFunc_impl_seen_l0, w64 (by omega) (by omega), vcase_b, if_pos (by simp)]
    show ((call Ev Fn.slices_insertionSortCmpFunc_impl_seen [.s (.sl none 0), iv .i64 0, iv .i64 0, .s (.fn Fn.impl_look_1 [])] h).bind _).bind _ = _
    rw [i1, ob]
    dsimp only
    rw [tidy_self, ob]
    rfl
  rw [p1, ob]
  dsimp only
  rw [tidy_self]
end Vm
/-
  Cells that lie in a new block.
-/
namespace Vm
open Go
theorem setAt_full {cs r : List S} (h : cs.length ≤ r.length) : setAt cs 0 r = r := by simp [setAt, List.drop_of_length_le h]
/-! cells that lie in a new block -/
def putX (h : H) (zs cs : List S) : H := (h.new 0 zs).put h.n (.rw 0 cs)
theorem putX_keep (h : H) (zs cs : List S) : HKeep h (putX h zs cs) := ((HKeep.refl h).new).put (Nat.le_refl _)
theorem putX_n (h : H) (zs cs : List S) : (putX h zs cs).n = h.n + 1 := rfl
theorem putX_g (h : H) (zs cs : List S) : (putX h zs cs).g h.n = .rw 0 cs := put_g _ _ _
theorem putX_cells (h : H) (zs cs : List S) : (putX h zs cs).cells h.n = cs := by
  unfold H.cells; rw [if_pos (by rw [putX_n]; omega), putX_g]; rfl
theorem putX_tidy {h : H} {zs cs : List S} {l : List V} (hl : l.all (belV h.n) = true) : tidy h l (putX h zs cs) = h := tidy_ext (putX_keep h zs cs) hl
section
variable {R : Type}
theorem stK_X {z : Nat} {h : H} {zs cs : List S} {k : H → Option R} (hz : zs.length = z) (hc : cs.length = z) : stK z (h.new 0 zs) (pv h.n 0) (.agg cs) k = k (putX h zs cs) := by
  rw [stK_rw (z := z) (o := 0) (b := h.n) (r := cs) (e := 0) (cs := zs) (by simp) (new_g h _ _) (.inr rfl) hc (by omega), setAt_full (by omega)]
  rfl
end
theorem loadN_X {h : H} {zs cs : List S} {n o : Nat} {r : List S} (hn : o + n ≤ cs.length) (hr : (cs.drop o).take n = r) : loadN n (putX h zs cs) (pv h.n o) = some r := by
  have := putX_cells h zs cs
  have h2 : h.n < (putX h zs cs).n := by rw [putX_n]; omega
  simp only [loadN]
  rw [if_pos ⟨h2, by rw [this]; exact hn⟩, this, hr]
theorem load1_X {h : H} {zs cs : List S} {o : Nat} {x : S} (hx : cs[o]? = some x) : load1 (putX h zs cs) (pv h.n o) = some x := by
  simp only [load1]; rw [putX_cells, hx]
end Vm
/-
  Slices of seen rows of one's own, and maps of places.
-/
namespace Vm
open Go Go.Sort
/-- seen rows in a block of one's own -/
def Ls (h : H) (y : S) (l : List SeenD) : Option Nat → Prop
  | none => y = .sl none 0 ∧ l = []
  | some b => y = .sl (some (b, 0)) l.length ∧ b < h.n ∧ h.g b = .rw 9 (l.map SeenD.cs).flatten
theorem Ls.frame {h h' : H} {y : S} {l : List SeenD} {o : Option Nat} (w : Ls h y l o) (hf : ∀ b, o = some b → b < h'.n ∧ h'.g b = h.g b) : Ls h' y l o := by
  cases o with
  | none => exact w
  | some b =>
    obtain ⟨h1, h2, h3⟩ := w
    obtain ⟨h4, h5⟩ := hf b rfl
    exact ⟨h1, h4, by rw [h5]; exact h3⟩
theorem Ls.lt {h : H} {y : S} {l : List SeenD} {b : Nat} (w : Ls h y l (some b)) : b < h.n := w.2.1
theorem Ls.len {h : H} {y : S} {l : List SeenD} {o : Option Nat} {t : Nat} (w : Ls h y l o) : lenV (.sl t) (.s y) = some (iv .i64 (l.length : Int)) := by
  cases o with
  | none => obtain ⟨rfl, rfl⟩ := w; rfl
  | some b => obtain ⟨rfl, _⟩ := w; rfl
theorem Ls.hs {h : H} {y : S} {l : List SeenD} {b : Nat} (w : Ls h y l (some b)) : Hs h b l.toArray := ⟨w.2.1, by simpa using w.2.2⟩
theorem Ls.no {h : H} {y : S} {l : List SeenD} {o : Option Nat} (w : Ls h y l o) : isNo y = false := by
  cases o with
  | none => obtain ⟨rfl, rfl⟩ := w; rfl
  | some b => obtain ⟨rfl, _⟩ := w; rfl
/-- a row appended -/
theorem Ls.app {h : H} {y : S} {l : List SeenD} {o : Option Nat} {x : SeenD} (w : Ls h y l o) (hl : l.length + 1 ≤ lim) :
    ∃ h', appS 9 (h.new 9 x.cs) (.s y) (sv h.n 0 1) = some (sv (h.n + 1) 0 (l.length + 1), h') ∧ Ls h' (.sl (some (h.n + 1, 0)) (l.length + 1)) (l ++ [x]) (some (h.n + 1)) ∧ h'.n = h.n + 2 ∧ ∀ c, c < h.n → o ≠ some c → h'.g c = h.g c := by
  have cy : cellsS 9 (h.new 9 x.cs) (sv h.n 0 1) = some x.cs := by
    simp only [cellsS, H.cells, new_n, new_g, Blk.cells]
    rw [if_pos ⟨by omega, by simp⟩]
    simp
  cases o with
  | none =>
    obtain ⟨rfl, rfl⟩ := w
    refine ⟨(h.new 9 x.cs).new 9 x.cs, ?_, ⟨by simp, by simp, ?_⟩, by simp, fun c hc _ => ?_⟩
    · simp only [appS, cy, ob, lenS]
      rw [if_pos ⟨trivial, by simpa using hl, by omega⟩, if_neg (by omega)]
      simp
    · have := new_g (h.new 9 x.cs) 9 x.cs
      simpa using this
    · rw [new_g' (by simp; omega), new_g' (by omega)]
  | some b =>
    obtain ⟨rfl, h2, h3⟩ := w
    have hbn : b ≠ h.n := by omega
    have cx : cellsS 9 (h.new 9 x.cs) (sv b 0 l.length) = some (l.map SeenD.cs).flatten := by
      have hc : (h.new 9 x.cs).cells b = (l.map SeenD.cs).flatten := by unfold H.cells; rw [if_pos (by simp; omega), new_g' hbn, h3]; rfl
      have := flat9 l
      simp only [cellsS, hc]
      rw [if_pos ⟨by simp; omega, by omega⟩, List.drop_zero, List.take_of_length_le (by omega)]
    refine ⟨((h.new 9 x.cs).put b .dead).new 9 ((l.map SeenD.cs).flatten ++ x.cs), ?_, ⟨by simp, by simp, ?_⟩, by simp, fun c hc hcb => ?_⟩
    · simp only [appS, cx, cy, ob, lenS]
      rw [if_pos ⟨by rw [new_n]; omega, hl, by omega⟩, new_g' hbn, h3]
      simp only [if_true]
      rfl
    · have := new_g ((h.new 9 x.cs).put b .dead) 9 ((l.map SeenD.cs).flatten ++ x.cs)
      simpa using this
    · rw [new_g' (by simp; omega), put_g' (fun e => hcb (by rw [e])), new_g' (by omega)]
theorem tidy_new {h h' : H} {l : List V} (hl : l.all (belV h.n) = false) : tidy h l h' = h' := by
  unfold tidy
  rw [if_neg]
  rintro ⟨_, h2, _⟩
  rw [hl] at h2; cases h2
/-! maps of places -/
abbrev ptC (a b : Int) : List S := [.int .i64 a, .int .i64 b]
def mvE (ms : List SpotD) : List (List S × A) := ms.map fun x => (ptC x.p x.s, .agg x.c.row.cs)
def mtE (d : List (Int × Int)) : List (List S × A) := d.map fun x => (ptC x.1 x.2, .s (.bool true))
theorem eqC_pt (a b c d : Int) : eqC Ev 8 179 (ptC a b) (ptC c d) = some ((a == c) && ((b == d) && true)) := by kernel_rfl
theorem keyM_mv (a b : Int) : keyM Ev 178 (.agg (ptC a b)) = some (179, 29, ptC a b) := by
  have e : keyM Ev 178 (.agg (ptC a b)) = (eqC Ev 8 179 (ptC a b) (ptC a b)).bind fun _ => some (179, 29, ptC a b) := by kernel_rfl
  rw [e, eqC_pt, ob]
theorem keyM_mt (a b : Int) : keyM Ev 181 (.agg (ptC a b)) = some (179, 4, ptC a b) := by
  have e : keyM Ev 181 (.agg (ptC a b)) = (eqC Ev 8 179 (ptC a b) (ptC a b)).bind fun _ => some (179, 4, ptC a b) := by kernel_rfl
  rw [e, eqC_pt, ob]
theorem mpOf_b {h : H} {b : Nat} {es : List (List S × A)} (hb : b < h.n) (hg : h.g b = .mp es) : mpOf h (.s (.mp (some b))) = some (b, es) := by
  simp only [mpOf, hb, if_true, hg]
theorem find_mv (a b : Int) : ∀ (ms : List SpotD) (i : Nat), (mvF ms a b = none ∧ findM Ev 179 (ptC a b) (mvE ms) i = some none) ∨ ∃ r j k, mvF ms a b = some r ∧ findM Ev 179 (ptC a b) (mvE ms) i = some (some (j, k, .agg r.cs))
  | [], i => .inl ⟨rfl, rfl⟩
  | x :: ms, i => by
    have ih := find_mv a b ms (i + 1)
    have e : findM Ev 179 (ptC a b) (mvE (x :: ms)) i = bif ((a == (x.p : Int)) && ((b == (x.s : Int)) && true)) then some (some (i, ptC x.p x.s, .agg x.c.row.cs)) else findM Ev 179 (ptC a b) (mvE ms) (i + 1) := by
      rw [show mvE (x :: ms) = (ptC x.p x.s, A.agg x.c.row.cs) :: mvE ms from rfl, findM, eqC_pt, ob]
    have e2 : mvF (x :: ms) a b = bif ((a == (x.p : Int)) && ((b == (x.s : Int)) && true)) then some x.c.row else mvF ms a b := by
      unfold mvF
      have hd : ∀ a b : Int, decide (a = b) = (a == b) := fun a b => by by_cases h : a = b <;> simp [h]
      rw [List.find?_cons, hd, hd, Bool.and_true]
      cases (a == (x.p : Int) && b == (x.s : Int)) <;> rfl
    rw [e, e2]
    cases hc : ((a == (x.p : Int)) && ((b == (x.s : Int)) && true))
    · simpa using ih
    · exact .inr ⟨_, _, _, rfl, rfl⟩
theorem look_mv {h : H} {b : Nat} {ms : List SpotD} (hb : b < h.n) (hg : h.g b = .mp (mvE ms)) (p s : Int) : lookM Ev 178 true h (.s (.mp (some b))) (.agg (ptC p s)) = some (.tup [.agg ((mvF ms p s).getD noR).cs, .s (.bool (mvF ms p s).isSome)]) := by
  unfold lookM
  rw [mpOf_b hb hg, ob, keyM_mv, ob]
  have h4 : ∃ te, Ev.ty 29 = some te ∧ zeroA te = some (.agg noR.cs) := ⟨⟨4, 40, [.int .i64 0, .int .i64 0, .int .i64 0, .str ⟨#[]⟩], true, .st [(0, 2), (1, 2), (2, 2), (3, 9)], true⟩, by kernel_rfl, rfl⟩
  obtain ⟨te, h5, h6⟩ := h4
  simp only [h5, h6, ob]
  rcases find_mv p s ms 0 with ⟨h7, h8⟩ | ⟨r, j, k, h7, h8⟩
  · rw [h7, h8]; rfl
  · rw [h7, h8]; rfl
theorem look_mv1 {h : H} {b : Nat} {ms : List SpotD} (hb : b < h.n) (hg : h.g b = .mp (mvE ms)) (p s : Int) : lookM Ev 178 false h (.s (.mp (some b))) (.agg (ptC p s)) = some (.agg ((mvF ms p s).getD noR).cs) := by
  unfold lookM
  rw [mpOf_b hb hg, ob, keyM_mv, ob]
  have h4 : ∃ te, Ev.ty 29 = some te ∧ zeroA te = some (.agg noR.cs) := ⟨⟨4, 40, [.int .i64 0, .int .i64 0, .int .i64 0, .str ⟨#[]⟩], true, .st [(0, 2), (1, 2), (2, 2), (3, 9)], true⟩, by kernel_rfl, rfl⟩
  obtain ⟨te, h5, h6⟩ := h4
  simp only [h5, h6, ob]
  rcases find_mv p s ms 0 with ⟨h7, h8⟩ | ⟨r, j, k, h7, h8⟩
  · rw [h7, h8]; rfl
  · rw [h7, h8]; rfl
theorem upd_mv {h : H} {b : Nat} {ms : List SpotD} (hb : b < h.n) (hg : h.g b = .mp (mvE ms)) {x : SpotD} (hn : mvF ms x.p x.s = none) : updM Ev 178 h (.s (.mp (some b))) (.agg (ptC x.p x.s)) (.agg x.c.row.cs) = some (h.put b (.mp (mvE (ms ++ [x])))) := by
  unfold updM
  rw [mpOf_b hb hg, ob, keyM_mv, ob]
  rw [show V.toA (.agg x.c.row.cs) = some (.agg x.c.row.cs) from rfl, ob, show ((ptC (x.p : Int) (x.s : Int)).all plS && plA (.agg x.c.row.cs)) = true from rfl, cond_true]
  rcases find_mv x.p x.s ms 0 with ⟨h7, h8⟩ | ⟨r, j, k, h7, h8⟩
  · rw [h8, ob]; simp [mvE]
  · rw [h7] at hn; cases hn
theorem find_mt (a b : Int) : ∀ (d : List (Int × Int)) (i : Nat), ((a, b) ∉ d ∧ findM Ev 179 (ptC a b) (mtE d) i = some none) ∨ ((a, b) ∈ d ∧ ∃ j k, findM Ev 179 (ptC a b) (mtE d) i = some (some (j, k, .s (.bool true))))
  | [], i => .inl ⟨by simp, rfl⟩
  | x :: d, i => by
    have ih := find_mt a b d (i + 1)
    have e : findM Ev 179 (ptC a b) (mtE (x :: d)) i = bif ((a == x.1) && ((b == x.2) && true)) then some (some (i, ptC x.1 x.2, .s (.bool true))) else findM Ev 179 (ptC a b) (mtE d) (i + 1) := by
      rw [show mtE (x :: d) = (ptC x.1 x.2, A.s (.bool true)) :: mtE d from rfl, findM, eqC_pt, ob]
    rw [e]
    cases hc : ((a == x.1) && ((b == x.2) && true))
    · have hne : (a, b) ≠ x := by
        intro hh
        rw [← hh] at hc
        simp at hc
      rcases ih with ⟨h1, h2⟩ | ⟨h1, h2⟩
      · exact .inl ⟨by simp [hne, h1], h2⟩
      · exact .inr ⟨by simp [h1], h2⟩
    · have hq : (a, b) = x := by
        simp only [Bool.and_true, Bool.and_eq_true, beq_iff_eq] at hc
        exact Prod.ext hc.1 hc.2
      exact .inr ⟨by simp [hq], _, _, rfl⟩
theorem look_mt {h : H} {b : Nat} {d : List (Int × Int)} (hb : b < h.n) (hg : h.g b = .mp (mtE d)) (p s : Int) : lookM Ev 181 false h (.s (.mp (some b))) (.agg (ptC p s)) = some (bv (decide ((p, s) ∈ d))) := by
  unfold lookM
  rw [mpOf_b hb hg, ob, keyM_mt, ob]
  have h4 : ∃ te, Ev.ty 4 = some te ∧ zeroA te = some (.s (.bool false)) := ⟨⟨1, 1, [.bool false], false, .bool, false⟩, by kernel_rfl, rfl⟩
  obtain ⟨te, h5, h6⟩ := h4
  simp only [h5, h6, ob]
  rcases find_mt p s d 0 with ⟨h7, h8⟩ | ⟨h7, j, k, h8⟩
  · rw [h8]; simp [h7, A.v]
  · rw [h8]; simp [h7, A.v]
theorem upd_mt {h : H} {b : Nat} {d : List (Int × Int)} (hb : b < h.n) (hg : h.g b = .mp (mtE d)) {p s : Int} (hn : (p, s) ∉ d) : updM Ev 181 h (.s (.mp (some b))) (.agg (ptC p s)) (bv true) = some (h.put b (.mp (mtE (d ++ [(p, s)])))) := by
  unfold updM
  rw [mpOf_b hb hg, ob, keyM_mt, ob]
  rw [show V.toA (bv true) = some (.s (.bool true)) from rfl, ob, show ((ptC p s).all plS && plA (.s (.bool true))) = true from rfl, cond_true]
  rcases find_mt p s d 0 with ⟨h7, h8⟩ | ⟨h7, _⟩
  · rw [h8, ob]; simp [mtE]
  · exact absurd h7 hn
/-- a map's block alone was turned -/
structure Kb (b : Nat) (h h' : H) : Prop where
  n : h'.n = h.n
  o : ∀ c, c < h.n → c ≠ b → h'.g c = h.g c ∧ h'.v c = h.v c
theorem tidy_mp {h h' : H} {l : List V} {b : Nat} {es : List (List S × A)} (hn : h.n ≤ h'.n) (hl : l.all (belV h.n) = true) (hb : b < h.n) (hg : h'.g b = .mp es) (ho : ∀ c, c < h.n → c ≠ b → h'.g c = h.g c ∧ h'.v c = h.v c) :
    Kb b h (tidy h l h') ∧ (tidy h l h').g b = .mp es := by
  unfold tidy
  rw [if_pos]
  · refine ⟨⟨rfl, fun c hc hcb => ?_⟩, ?_⟩
    · simp only [if_pos hc]; exact ho c hc hcb
    · simp only [if_pos hb]; exact hg
  · refine ⟨hn, hl, fun c hc => ?_⟩
    by_cases hcb : c = b
    · subst hcb; right; rw [hg]; rfl
    · exact .inl (ho c hc hcb)
end Vm
