/-
  What both ways of the law come to, and that the law returns true.
-/
import Derived.Test.YtpdoloemacmbaaaTyp
import Derived.Test.YtpdoloemacmbaaaEqs
import Derived.Test.YtpdoloemacmbaaaDl
set_option linter.unusedVariables false
set_option maxRecDepth 100000
set_option linter.unusedSimpArgs false
set_option linter.unusedSectionVars false
/-
  Numbers between two others.
-/
namespace Vm
open Go
def inB (n a b : Int) : Bool := decide (a ≤ n) && decide (n ≤ b)
theorem inB_iff {n a b : Int} : inB n a b = true ↔ a ≤ n ∧ n ≤ b := by simp [inB]
theorem p_l1In (n a b : Int) : pureV (call Ev) Fn.spec_l1In [iv .i64 n, iv .i64 a, iv .i64 b] = some (bv (inB n a b)) := by
  rw [pu_spec_l1In, vcase_b]
  unfold inB
  split <;> simp_all <;> omega
theorem p_in (n a b : Int) : pureV (call Ev) Fn.impl_in [iv .i64 n, iv .i64 a, iv .i64 b] = some (bv (inB n a b)) := by
  rw [pu_impl_in, vcase_b]
  unfold inB
  split <;> simp_all <;> omega
end Vm
/-
  What the functions on rows come to.
-/
namespace Vm
open Go

structure RowD where
  tab : Int
  key : Int
  val : Int
  text : ByteArray
abbrev RowD.cs (r : RowD) : List S := [.int .i64 r.tab, .int .i64 r.key, .int .i64 r.val, .str r.text]
structure RowD.ok (r : RowD) : Prop where
  t1 : -9223372036854775808 ≤ r.tab
  t2 : r.tab < 9223372036854775808
  k1 : -9223372036854775808 ≤ r.key
  k2 : r.key < 9223372036854775808
  v1 : -9223372036854775808 ≤ r.val
  v2 : r.val < 9223372036854775808
  s : r.text.size ≤ maxLen
/-! the faults of a row -/
def low (c : UInt8) : Bool := decide (97 ≤ (c.toNat : Int)) && decide ((c.toNat : Int) ≤ 122)
def allLow (s : ByteArray) (i : Nat) : Bool := (s.data.toList.drop i).all low
def rowF (r : RowD) : Int := if inB r.tab 0 3 && inB r.key 1 99 && inB r.val 0 999 then (if decide (r.text.size ≤ 8) && allLow r.text 0 then 0 else 5) else 3
theorem allLow_step {s : ByteArray} {i : Nat} (h : i < s.size) : allLow s i = (low (s.get! i) && allLow s (i + 1)) := by
  unfold allLow; rw [str_drop h]; rfl
theorem allLow_end {s : ByteArray} {i : Nat} (h : s.size ≤ i) : allLow s i = true := by
  unfold allLow; rw [str_drop_all h]; rfl
theorem lp_l1Text (s : ByteArray) (hs : s.size ≤ maxLen) (h : H) : ∀ k i : Nat, i + k = s.size → Lp.spec_l1Text 0 [.s (.str s), iv .i64 i] h = some (if allLow s i then .done [.s (.str s)] h else .ret (bv false) h) := by
  unfold maxLen at hs
  intro k
  induction k with
  | zero =>
    intro i hi
    rw [eq_spec_l1Text_l0, vcase_b, if_neg (by simp; omega), allLow_end (by omega)]; simp
  | succ k ih =>
    intro i hi
    rw [eq_spec_l1Text_l0, vcase_b, if_pos (by simp; omega), idxStr_of (by omega) (by omega), allLow_step (by omega), w64 (by omega) (by omega), show (i : Int) + 1 = ((i + 1 : Nat) : Int) from by omega, tidy_self, ih (i + 1) (by omega)]
    have e : sby s i = ((s.get! i).toNat : Int) := by simp [sby]
    simp only [Option.bind_some, gV1_s, gI_i, vcase_b, e, decide_eq_true_eq, low, Bool.and_eq_true]
    split
    · rw [if_neg (by omega)]
    · split
      · rw [if_neg (by omega)]
      · simp only [show (97 ≤ ((s.get! i).toNat : Int)) from by omega, show ((s.get! i).toNat : Int) ≤ 122 from by omega, true_and]
theorem p_l1Text (s : ByteArray) (hs : s.size ≤ maxLen) : pureV (call Ev) Fn.spec_l1Text [.s (.str s)] = some (bv (decide (s.size ≤ 8) && allLow s 0)) := by
  rw [pu_spec_l1Text, show iv .i64 0 = iv .i64 ((0 : Nat) : Int) from rfl, lp_l1Text s hs _ s.size 0 (by omega)]
  cases allLow s 0 <;> simp <;> omega
theorem p_l1Fault (r : RowD) (hs : r.text.size ≤ maxLen) : pureV (call Ev) Fn.spec_l1Fault [fv r.cs 0] = some (iv .i64 (rowF r)) := by
  rw [pu_spec_l1Fault]
  simp only [pcallS, p_l1In, p_l1Text _ hs, Option.bind_some, sca_v, sca_b, cond_true, gV1_s, gB_b, vcase_b]
  unfold rowF
  cases inB r.tab 0 3 <;> cases inB r.key 1 99 <;> cases inB r.val 0 999 <;> cases (decide (r.text.size ≤ 8) && allLow r.text 0) <;> simp
theorem lp_RowFault (r : RowD) (hs : r.text.size ≤ maxLen) (h : H) (p : Nat) (hp : h.cells p = r.cs) : ∀ k i : Nat, i + k = r.text.size → Lp.impl_RowFault 0 [pv p 0, iv .i64 (r.text.size : Int), iv .i64 i] h = some (if allLow r.text i then .done [] h else .ret (iv .i64 5) h) := by
  unfold maxLen at hs
  intro k
  have ld : ∀ (q : V → Option LOut), ldK (.one (.s)) ⟨1, 16, [.str ⟨#[]⟩], false, .str, false⟩ h (pv p (0 + 3)) q = q (.s (.str r.text)) := by
    intro q; simp [ldK, ldT, load1, hp]
  have pa : padd 3 (pv p 0) = some (pv p (0 + 3)) := rfl
  induction k with
  | zero =>
    intro i hi
    rw [eq_impl_RowFault_l0, vcase_b, if_neg (by simp; omega), allLow_end (by omega)]; simp
  | succ k ih =>
    intro i hi
    rw [eq_impl_RowFault_l0, vcase_b, if_pos (by simp; omega), allLow_step (by omega), w64 (by omega) (by omega), show (i : Int) + 1 = ((i + 1 : Nat) : Int) from by omega, tidy_self, ih (i + 1) (by omega)]
    have e : sby r.text i = ((r.text.get! i).toNat : Int) := by simp [sby]
    simp only [pa, Option.bind_some, ld, gV1_s, gS_s]
    rw [idxStr_of (by omega) (by omega)]
    simp only [Option.bind_some, gV1_s, gI_i, vcase_b, e, decide_eq_true_eq, low, Bool.and_eq_true]
    split
    · rw [if_neg (by omega)]
    · split
      · rw [if_neg (by omega)]
      · simp only [show (97 ≤ ((r.text.get! i).toNat : Int)) from by omega, show ((r.text.get! i).toNat : Int) ≤ 122 from by omega, true_and]
theorem p_RowFault (r : RowD) (hs : r.text.size ≤ maxLen) : pureV (call Ev) Fn.impl_RowFault [.agg r.cs] = some (iv .i64 (rowF r)) := by
  have hl := lp_RowFault r hs ((D 0).new 0 r.cs) 0 (by simp [H.cells, H.new, D, Blk.cells]) r.text.size 0 (by omega)
  rw [pu_impl_RowFault]
  simp only [pcallS, p_in, Option.bind_some, sca_v, sca_b, cond_true, gV1_s, gB_b, vcase_b]
  rw [show iv .i64 0 = iv .i64 ((0 : Nat) : Int) from rfl, hl]
  unfold rowF
  cases inB r.tab 0 3 <;> cases inB r.key 1 99 <;> cases inB r.val 0 999 <;> simp
  by_cases h8 : r.text.size ≤ 8
  · rw [if_neg (by omega)]
    cases allLow r.text 0 <;> simp [h8]
  · rw [if_pos (by omega)]; simp [h8]
def befB (a b : RowD) : Bool := decide (a.tab < b.tab) || (decide (a.tab = b.tab) && decide (a.key < b.key))
end Vm
/-
  A row that came in, its size and its copy.
-/
namespace Vm
open Go

theorem rp_Row {n : Nat} {xs : List S} (hr : Rp PR n T.laws_Row xs) : ∃ r : RowD, xs = r.cs ∧ r.ok := by
  obtain ⟨m, hf⟩ := hr.st und_laws_Row
  obtain ⟨a0, b0, rfl, h0, a1, b1, rfl, h1, a2, b2, rfl, h2, a3, b3, rfl, h3, rfl⟩ := hf
  obtain ⟨x0, rfl, w0⟩ := h0.int und_int64
  obtain ⟨x1, rfl, w1⟩ := h1.int und_int64
  obtain ⟨x2, rfl, w2⟩ := h2.int und_int64
  obtain ⟨x3, rfl, w3⟩ := h3.str und_string
  exact ⟨⟨x0, x1, x2, x3⟩, rfl, (wf64 w0).1, (wf64 w0).2, (wf64 w1).1, (wf64 w1).2, (wf64 w2).1, (wf64 w2).2, w3⟩
theorem arg_Row {x : V} (hr : ArgRp PR T.laws_Row x) : ∃ r : RowD, x = .agg r.cs ∧ r.ok := by
  obtain ⟨cs, n, rfl, h1⟩ := hr.st und_laws_Row
  obtain ⟨r, rfl, h2⟩ := rp_Row h1
  exact ⟨r, rfl, h2⟩
theorem p_szRow (r : RowD) (left : Int) (h1 : 0 ≤ left) (h2 : left < 9223372036854775808) (hz : r.text.size ≤ maxLen) :
    pureV (call Ev) Fn.laws_szRow [.agg r.cs, iv .i64 left] = some (iv .i64 (if (r.text.size : Int) ≤ left then left - r.text.size else -1)) := by
  unfold maxLen at hz
  rw [pu_laws_szRow, vcase_b, w64 (by omega) (by omega)]
  simp only [decide_eq_true_eq]
  split <;> split <;> first | rfl | omega
theorem p_toRow (r : RowD) : pureV (call Ev) Fn.laws_toRow [.agg r.cs] = some (.agg r.cs) := pu_laws_toRow _ _ _ _

end Vm
/-
  Loops that fill a new slice, and what is frozen of it.
-/
namespace Vm
open Go

@[simp] theorem tidy_put {h : H} {l : List V} {b : Nat} {x : Blk} (hb : b < h.n) : tidy h l (h.put b x) = h.put b x := by
  unfold tidy
  split
  · obtain ⟨n, g, v⟩ := h
    simp only [H.put, H.mk.injEq, true_and]
    constructor <;> (funext c; split <;> first | rfl | (rename_i hc; rw [if_neg (by intro e; subst e; exact hc hb)]))
  · rfl
/-- a value that fills a row -/
def VRow (v : V) (r : List S) : Prop := (∃ x, v = .s x ∧ r = [x] ∧ isNo x = false) ∨ v = .agg r
theorem stK_rw {R : Type} {z e o b : Nat} {h : H} {cs r : List S} {v : V} {k : H → Option R} (hb : b < h.n) (hg : h.g b = .rw e cs) (hv : VRow v r) (hr : r.length = z) (ho : o + z ≤ cs.length) :
    stK z h (pv b o) v k = k (h.put b (.rw e (setAt cs o r))) := by
  rcases hv with ⟨x, rfl, rfl, hx⟩ | rfl
  · simp only [List.length_cons, List.length_nil, Nat.zero_add] at hr
    subst hr
    simp only [stK, if_true, put1K, if_pos hb, hg]
    rw [if_pos (by omega), hx]
    have : cs.set o x = setAt cs o [x] := by
      unfold setAt
      rw [List.set_eq_take_append_cons_drop, if_pos (by omega)]
      simp
    rw [this]; rfl
  · simp only [stK, putNK]
    rw [if_pos ⟨hb, hr⟩, hg]
    simp only
    rw [if_pos ho]
theorem idxK_sv {R : Type} {z b n i : Nat} {kd : IntKind} {f : V → Option R} (hi : i < n) : idxK z (sv b 0 n) (iv kd (i : Int)) f = f (pv b (i * z)) := by
  simp only [idxK, idxS]
  rw [if_pos ⟨by omega, by omega⟩]
  simp
theorem setAt_at {A r B : List S} {o z : Nat} (ho : A.length = o) (hz : r.length = z) : setAt (A ++ B) o r = A ++ r ++ B.drop z := by
  subst ho; subst hz
  unfold setAt
  simp
theorem map_flat_len {T : Nat → List S} {z : Nat} : ∀ (i : Nat), (∀ j, j < i → (T j).length = z) → (((List.range i).map T).flatten).length = i * z
  | 0, _ => by simp
  | i + 1, h => by
    rw [List.range_succ, List.map_append, List.flatten_append, List.length_append, map_flat_len i fun j hj => h j (by omega)]
    simp [h i (by omega), Nat.succ_mul]
theorem fill_loop {z n b : Nat} {T : Nat → List S} {L : Int → H → Option LOut} {fin : List V} (hT : ∀ i, i < n → (T i).length = z)
    (hstep : ∀ (i : Nat) (h : H), i < n → b < h.n → ∃ v l, VRow v (T i) ∧ L i h = stK z h (pv b (i * z)) v fun h' => L ((i + 1 : Nat) : Int) (tidy h l h'))
    (hend : ∀ h, L n h = some (.done fin h)) :
    ∀ (k i : Nat) (h : H) (cs : List S), i + k = n → b < h.n → h.g b = .rw z (((List.range i).map T).flatten ++ cs) → cs.length = k * z →
      ∃ h', L i h = some (.done fin h') ∧ h'.n = h.n ∧ h'.g b = .rw z (((List.range n).map T).flatten) ∧ ∀ c, c ≠ b → h'.g c = h.g c ∧ h'.v c = h.v c := by
  intro k
  induction k with
  | zero =>
    intro i h cs hi hb hg hl
    obtain rfl : i = n := by omega
    have : cs = [] := List.eq_nil_of_length_eq_zero (by omega)
    subst this
    exact ⟨h, hend h, rfl, by simpa using hg, fun _ _ => ⟨rfl, rfl⟩⟩
  | succ k ih =>
    intro i h cs hi hb hg hl
    obtain ⟨v, l, hv, e⟩ := hstep i h (by omega) hb
    have hz := hT i (by omega)
    have hp := map_flat_len (T := T) (z := z) i fun j hj => hT j (by omega)
    have hl' : cs.length = z + k * z := by rw [hl, Nat.succ_mul]; omega
    rw [e, stK_rw hb hg hv hz (by rw [List.length_append, hp]; omega), tidy_put hb, setAt_at hp hz]
    obtain ⟨h', g1, g2, g3, g4⟩ := ih (i + 1) (h.put b (.rw z (((List.range i).map T).flatten ++ T i ++ cs.drop z))) (cs.drop z) (by omega) hb
      (by rw [put_g, List.range_succ, List.map_append, List.flatten_append]; simp) (by rw [List.length_drop]; omega)
    refine ⟨h', g1, g2, g3, fun c hc => ?_⟩
    have := g4 c hc
    simp only [H.put, if_neg hc] at this
    exact this
/-- a cell that is frozen as it stands -/
def Cl (s : S) : Prop := ∀ (h : H) (d : Nat), frzS h d s = some s
theorem cl_i {k : IntKind} {n : Int} : Cl (.int k n) := fun _ _ => frz_i
theorem cl_b {n : Bool} : Cl (.bool n) := fun _ _ => frz_b
theorem cl_s {n : ByteArray} : Cl (.str n) := fun _ _ => frz_s
theorem cl_f {n : List (List S)} : Cl (.fs n) := fun _ _ => frz_f
theorem mapO_cl {h : H} {d : Nat} : ∀ {l : List S}, (∀ s ∈ l, Cl s) → mapO (frzS h d) l = some l
  | [], _ => rfl
  | s :: l, hl => by
    have h2 : mapO (frzS h d) l = some l := mapO_cl fun s hs => hl s (List.mem_cons_of_mem _ hs)
    simp [mapO, hl s (by simp) h d, h2]
theorem flat_len {z : Nat} : ∀ {rows : List (List S)}, (∀ r ∈ rows, r.length = z) → rows.flatten.length = rows.length * z
  | [], _ => by simp
  | r :: rows, h => by
    rw [List.flatten_cons, List.length_append, h r (by simp), flat_len fun r hr => h r (by simp [hr]), List.length_cons, Nat.succ_mul]; omega
theorem chunk_rows {z : Nat} : ∀ {rows : List (List S)}, (∀ r ∈ rows, r.length = z) → chunk z rows.length rows.flatten = rows
  | [], _ => rfl
  | r :: rows, h => by
    have hr := h r (by simp)
    have ih := chunk_rows (rows := rows) fun r hr => h r (by simp [hr])
    unfold chunk at ih ⊢
    rw [List.length_cons, List.range_succ_eq_map, List.map_cons, List.map_map]
    congr 1
    · simp [← hr]
    · conv => rhs; rw [← ih]
      refine List.map_congr_left fun i _ => ?_
      simp only [Function.comp_apply, List.flatten_cons]
      rw [Nat.succ_mul, Nat.add_comm, ← List.drop_drop, ← hr, List.drop_left]
theorem frzS_sl {h : H} {b z d : Nat} {rows : List (List S)} (hb : b < h.n) (hz0 : 0 < z) (hg : h.g b = .rw z rows.flatten) (hz : ∀ r ∈ rows, r.length = z) (hc : ∀ r ∈ rows, ∀ s ∈ r, Cl s) : frzS h (d + 1) (.sl (some (b, 0)) rows.length) = some (.fs rows) := by
  simp only [frzS]
  split
  · rename_i h0; rw [List.eq_nil_of_length_eq_zero h0]
  · have hl := flat_len hz
    simp only [hb, if_true, hg]
    rw [if_pos ⟨hz0, by omega⟩, List.drop_zero, List.take_of_length_le (by omega), mapO_cl (fun s hs => by
      obtain ⟨r, h1, h2⟩ := List.mem_flatten.1 hs
      exact hc r h1 s h2)]
    simp [chunk_rows hz]
theorem frzV_sv {h : H} {b z : Nat} {rows : List (List S)} (hb : b < h.n) (hz0 : 0 < z) (hg : h.g b = .rw z rows.flatten) (hz : ∀ r ∈ rows, r.length = z) (hc : ∀ r ∈ rows, ∀ s ∈ r, Cl s) : frzV h (sv b 0 rows.length) = some (lv rows) := by
  rw [frzV_s, frzS_sl hb hz0 hg hz hc]; rfl
theorem mkSl_of {z n : Nat} {zero : List S} {h : H} (hn : n ≤ lim) (hz0 : 0 < z) (hz : zero.length = z) {k1 k2 : IntKind} : mkSl z zero h (iv k1 (n : Int)) (iv k2 (n : Int)) = some (sv h.n 0 n, h.new z ((List.replicate n zero).flatten)) := by
  simp only [mkSl]
  rw [if_pos ⟨by omega, trivial, by omega, hz0, hz⟩]
  simp
theorem repl_len {n z : Nat} {zero : List S} (hz : zero.length = z) : ((List.replicate n zero).flatten).length = n * z := by
  rw [flat_len (z := z) (fun r hr => by rw [List.eq_of_mem_replicate hr, hz])]; simp
/-- a loop over rows that fills a slice -/
theorem fill_rows {z n b : Nat} {rows : List (List S)} {L : Int → H → Option LOut} {fin : List V} (hn : rows.length = n) (hr : ∀ r ∈ rows, r.length = z)
    (hstep : ∀ (i : Nat) (h : H) (r : List S), rows[i]? = some r → i < n → b < h.n → ∃ v l, VRow v r ∧ L i h = stK z h (pv b (i * z)) v fun h' => L ((i + 1 : Nat) : Int) (tidy h l h'))
    (hend : ∀ h, L n h = some (.done fin h)) (h : H) (cs : List S) (hb : b < h.n) (hg : h.g b = .rw z cs) (hl : cs.length = n * z) :
      ∃ h', L 0 h = some (.done fin h') ∧ h'.n = h.n ∧ h'.g b = .rw z rows.flatten ∧ ∀ c, c ≠ b → h'.g c = h.g c ∧ h'.v c = h.v c := by
  have hT : ∀ i, i < n → rows[i]? = some (rows.getD i []) := fun i hi => by rw [List.getD, List.getElem?_eq_getElem (by omega)]; rfl
  obtain ⟨h', g1, g2, g3, g4⟩ := fill_loop (z := z) (n := n) (b := b) (T := fun i => rows.getD i []) (L := L) (fin := fin) (fun i hi => hr _ (List.mem_of_getElem? (hT i hi)))
    (fun i h hi hb => hstep i h _ (hT i hi) hi hb) hend n 0 h cs (by omega) hb (by simpa using hg) hl
  refine ⟨h', g1, g2, ?_, g4⟩
  rw [g3]
  congr 2
  refine List.ext_getElem? fun i => ?_
  by_cases hi : i < n
  · rw [List.getElem?_map, List.getElem?_range hi, hT i hi]; rfl
  · rw [List.getElem?_eq_none (by simp; omega), List.getElem?_eq_none (by omega)]
end Vm
/-
  Bytes: as frozen slices, and as slices that are one's own.
-/
namespace Vm
open Go

def cell8 (c : UInt8) : S := .int .u8 c.toNat
/-- bytes as rows -/
def bys (l : List UInt8) : List (List S) := l.map fun c => [cell8 c]
/-- the byte at a place, as a number -/
def bt (l : List UInt8) (i : Int) : Int := ((l.getD i.toNat 0).toNat : Int)
theorem bt_nn (l : List UInt8) (i : Int) : 0 ≤ bt l i := by unfold bt; omega
theorem bt_lt (l : List UInt8) (i : Int) : bt l i < 256 := by
  unfold bt
  have := (l.getD i.toNat 0).toNat_lt
  omega
@[simp] theorem bys_len (l : List UInt8) : (bys l).length = l.length := by simp [bys]
theorem bys_row {l : List UInt8} : ∀ r ∈ bys l, r.length = 1 := by
  intro r hr
  obtain ⟨c, _, rfl⟩ := List.mem_map.1 hr
  rfl
theorem bys_cl {l : List UInt8} : ∀ r ∈ bys l, ∀ s ∈ r, Cl s := by
  intro r hr s hs
  obtain ⟨c, _, rfl⟩ := List.mem_map.1 hr
  rw [List.mem_singleton.1 hs]
  exact cl_i
theorem bys_flat (l : List UInt8) : (bys l).flatten = l.map cell8 := by
  induction l with
  | nil => rfl
  | cons c l ih => simp only [bys, List.map_cons, List.flatten_cons, List.singleton_append] at ih ⊢; rw [ih]
theorem bys_get {l : List UInt8} {i : Nat} (h : i < l.length) : (bys l)[i]? = some [.int .u8 (bt l i)] := by
  simp [bys, h, cell8, bt]
theorem bys_take (l : List UInt8) (n : Nat) : (bys l).take n = bys (l.take n) := by simp [bys, List.map_take]
theorem bys_drop (l : List UInt8) (n : Nat) : (bys l).drop n = bys (l.drop n) := by simp [bys, List.map_drop]
theorem bys_app (l m : List UInt8) : bys (l ++ m) = bys l ++ bys m := by simp [bys]
section
variable {R : Type}
/-- reading a byte -/
theorem idxF_by {l : List UInt8} {i : Int} {k : List S → Option R} (h0 : 0 ≤ i) (h1 : i < l.length) : idxF 1 (bys l) i k = k [.int .u8 (bt l i)] := by
  obtain ⟨n, rfl⟩ : ∃ n : Nat, i = n := ⟨i.toNat, by omega⟩
  exact idxF_at (bys_get (by omega)) rfl
theorem idxF_out {z : Nat} {rows : List (List S)} {i : Int} {k : List S → Option R} (h : ¬ (0 ≤ i ∧ i < rows.length)) : idxF z rows i k = none := by
  unfold idxF; rw [if_neg h]
theorem bnd_of {y n : Nat} {kd : IntKind} (h : n ≤ y) : bnd y (iv kd (n : Int)) = some n := by
  simp only [bnd]; rw [if_pos ⟨by omega, by omega⟩]; simp
theorem slF_lo {l : List UInt8} {a : Nat} {kd : IntKind} {k : List (List S) → Option R} (h : a ≤ l.length) : slF 1 (bys l) (some (iv kd (a : Int))) none k = k (bys (l.drop a)) := by
  unfold slF
  simp only [bys_len, Option.bind_some, bnd_of h, if_pos (show ∀ r ∈ bys l, r.length = 1 from bys_row)]
  rw [show l.length = (bys l).length from (bys_len l).symm, List.take_length, bys_drop]
theorem slF_hi {l : List UInt8} {b : Nat} {kd : IntKind} {k : List (List S) → Option R} (h : b ≤ l.length) : slF 1 (bys l) none (some (iv kd (b : Int))) k = k (bys (l.take b)) := by
  unfold slF
  simp only [bys_len, Option.bind_some, bnd_of h, if_pos (show ∀ r ∈ bys l, r.length = 1 from bys_row)]
  rw [bys_take, List.drop_zero]
theorem slF_lh {l : List UInt8} {a b : Nat} {kd kd' : IntKind} {k : List (List S) → Option R} (h : a ≤ b) (h2 : b ≤ l.length) : slF 1 (bys l) (some (iv kd (a : Int))) (some (iv kd' (b : Int))) k = k (bys ((l.take b).drop a)) := by
  unfold slF
  simp only [bys_len, Option.bind_some, bnd_of h, bnd_of h2, if_pos (show ∀ r ∈ bys l, r.length = 1 from bys_row)]
  rw [bys_take, bys_drop]
end
theorem bytesS_map (l : List UInt8) : bytesS (l.map cell8) = some l := by
  induction l with
  | nil => rfl
  | cons c l ih =>
    have := c.toNat_lt
    simp only [List.map_cons, cell8, bytesS] at ih ⊢
    rw [ih, Option.bind_some, if_pos ⟨by omega, by omega⟩]
    simp
theorem fsStr_by {l : List UInt8} (h : l.length ≤ lim) : fsStr (bys l) = some (.s (.str ⟨l.toArray⟩)) := by
  unfold fsStr
  rw [if_pos bys_row, Option.bind_some, bys_flat, bytesS_map, Option.bind_some, bys_len, if_pos h]

/-- a slice that holds all of a block's bytes, and may be written -/
structure BysW (h : H) (v : V) (l : List UInt8) (b : Nat) : Prop where
  v : v = sv b 0 l.length
  n : b < h.n
  g : h.g b = .rw 1 (l.map cell8)
theorem BysW.newly (h : H) (l : List UInt8) : BysW (h.new 1 (l.map cell8)) (sv h.n 0 l.length) l h.n := ⟨rfl, by simp, by simp⟩
theorem BysW.frz {h : H} {v : V} {l : List UInt8} {b d : Nat} (w : BysW h v l b) : v = sv b 0 l.length ∧ frzS h (d + 1) (.sl (some (b, 0)) l.length) = some (.fs (bys l)) := by
  refine ⟨w.v, ?_⟩
  have := frzS_sl (h := h) (b := b) (z := 1) (d := d) (rows := bys l) w.n (by omega) (by rw [bys_flat]; exact w.g) bys_row bys_cl
  rwa [bys_len] at this
/-- bytes that are one's own: none at all, or a block -/
def Own (h : H) (v : V) (l : List UInt8) : Option Nat → Prop
  | none => v = .s (.sl none 0) ∧ l = []
  | some b => BysW h v l b
theorem Own.frz {h : H} {v : V} {l : List UInt8} {ob : Option Nat} {d : Nat} (w : Own h v l ob) : ∃ s, v = .s s ∧ frzS h (d + 1) s = some (.fs (bys l)) := by
  cases ob with
  | none => obtain ⟨rfl, rfl⟩ := w; exact ⟨_, rfl, frz_n⟩
  | some b => obtain ⟨h1, h2⟩ := BysW.frz (d := d) w; exact ⟨_, h1, h2⟩
theorem BysW.set {R : Type} {h : H} {n : Nat} {l : List UInt8} {b i : Nat} {c : UInt8} {x : Int} {k : H → Option R} (w : BysW h (sv b 0 n) l b) (hi : i < l.length) (hx : x = (c.toNat : Int)) : stK 1 h (pv b (i * 1)) (iv .u8 x) k = k (h.put b (.rw 1 ((l.set i c).map cell8))) := by
  subst hx
  rw [stK_rw (z := 1) (e := 1) (o := i * 1) (v := iv .u8 c.toNat) (cs := l.map cell8) (r := [cell8 c]) w.n w.g (.inl ⟨_, rfl, rfl, rfl⟩) rfl (by simp; omega)]
  congr 3
  unfold setAt
  rw [List.map_set, List.set_eq_take_append_cons_drop, if_pos (by simp; omega)]
  simp
theorem BysW.set_w {h : H} {n : Nat} {l : List UInt8} {b i : Nat} {c : UInt8} (w : BysW h (sv b 0 n) l b) : BysW (h.put b (.rw 1 ((l.set i c).map cell8))) (sv b 0 n) (l.set i c) b := by
  refine ⟨?_, w.n, put_g _ _ _⟩
  rw [w.v, List.length_set]
theorem BysW.len {h : H} {n : Nat} {l : List UInt8} {b : Nat} (w : BysW h (sv b 0 n) l b) : n = l.length := by
  have := w.v
  injection this with h1
  injection h1
theorem BysW.get {R : Type} {h : H} {n : Nat} {l : List UInt8} {b i : Nat} {ti : TI} {k : V → Option R} (w : BysW h (sv b 0 n) l b) (hi : i < l.length) (hz : ti.agg = false) : ldK (.one (.i .u8)) ti h (pv b (i * 1)) k = k (iv .u8 (bt l i)) := by
  have : load1 h (pv b (i * 1)) = some (.int .u8 (bt l i)) := by
    simp [load1, H.cells, w.n, w.g, Blk.cells, hi, cell8, bt]
  simp only [ldK, ldT, hz, cond_false, this, Option.bind_some]
theorem bt_ext {l m : List UInt8} (hl : l.length = m.length) (h : ∀ i : Nat, i < l.length → bt l i = bt m i) : l = m := by
  refine List.ext_getElem hl fun i h1 h2 => ?_
  have := h i h1
  simp only [bt, Int.toNat_natCast, List.getD, List.getElem?_eq_getElem h1, List.getElem?_eq_getElem h2, Option.getD_some] at this
  exact UInt8.toNat_inj.1 (by omega)
end Vm
/-
  Calls with an answer that is new, and what is one's own of it.
-/
namespace Vm
open Go

theorem over_n {h h1 : H} (hn : h.n ≤ h1.n) : (h.over h1).n = h1.n := by simp only [H.over]; omega
theorem over_lt {h h1 : H} {b : Nat} (hb : b < h.n) : (h.over h1).g b = h.g b ∧ (h.over h1).v b = h.v b := by simp [H.over, hb]
theorem over_ge {h h1 : H} {b : Nat} (hb : h.n ≤ b) : (h.over h1).g b = h1.g b := by simp only [H.over]; rw [if_neg (by omega)]
/-- a heap with what was there, and more -/
structure Up (h h' : H) : Prop where
  n : h.n ≤ h'.n
  g : ∀ b, b < h.n → h'.g b = h.g b
theorem Up.refl (h : H) : Up h h := ⟨Nat.le_refl _, fun _ _ => rfl⟩
theorem Up.trans {a b c : H} (x : Up a b) (y : Up b c) : Up a c := ⟨Nat.le_trans x.n y.n, fun i hi => (y.g i (Nat.lt_of_lt_of_le hi x.n)).trans (x.g i hi)⟩
theorem up_over {h h1 : H} (hn : h.n ≤ h1.n) : Up h (h.over h1) := ⟨by rw [over_n hn]; exact hn, fun b hb => (over_lt hb).1⟩
theorem up_new {h : H} {e : Nat} {cs : List S} : Up h (h.new e cs) := ⟨by simp, fun b hb => new_g' (by omega)⟩
theorem Own.up {h h' : H} (u : Up h h') {v : V} {l : List UInt8} {ob : Option Nat} (x : Own h v l ob) : Own h' v l ob := by
  cases ob with
  | none => exact x
  | some b => exact ⟨x.v, Nat.lt_of_lt_of_le x.n u.n, by rw [u.g b x.n]; exact x.g⟩
/-- all but one block as it was -/
structure But (b : Option Nat) (h h' : H) : Prop where
  n : h'.n = h.n
  g : ∀ c, b ≠ some c → h'.g c = h.g c
theorem Own.but {h h' : H} {o : Option Nat} (u : But o h h') {v : V} {l : List UInt8} {ob : Option Nat} (x : Own h v l ob) (hne : ∀ b, ob = some b → o ≠ some b) : Own h' v l ob := by
  cases ob with
  | none => exact x
  | some b => exact ⟨x.v, by rw [u.n]; exact x.n, by rw [u.g b (hne b rfl)]; exact x.g⟩
theorem tidy_same {h h' : H} {l : List V} (hn : h'.n = h.n) (hg : ∀ c, h.n ≤ c → h'.g c = h.g c ∧ h'.v c = h.v c) : tidy h l h' = h' := by
  unfold tidy
  split
  · obtain ⟨n', g', v'⟩ := h'
    simp only at hn
    subst hn
    simp only [H.mk.injEq, true_and]
    constructor <;> (funext b; split <;> first | rfl | (have := hg b (by omega); simp_all))
  · rfl
/-- cells that lead nowhere, once they are frozen -/
theorem nofz_of {n : Nat} {v : V} {h : H} (h1 : scaV v = true) (h2 : ∀ b, n ≤ b → b < h.n → ∀ s ∈ (h.g b).cells, scaS s = true) : NoFz n (v, h) := ⟨h1, h2⟩
theorem pF {R : Type} {cl : Nat → List V → H → Option (V × H)} {g : Nat} {off : Bool} {xs : List V} {h h1 : H} {v : V} {k : V → H → Option R} (hc : cl g xs (D h.n) = some (v, h1)) (hz : NoFz h.n (v, h1)) : pcallF cl g off xs h k = k v (h.over h1) := by
  unfold pcallF
  rw [hc, ob]
  unfold fchk
  rw [if_pos (.inr hz.1)]
  have e : h.over (scrub h.n h1) = h.over h1 := by
    unfold H.over scrub
    simp only [H.mk.injEq, true_and, and_true]
    funext b
    by_cases hb : b < h.n
    · rw [if_pos hb, if_pos hb]
    · rw [if_neg hb, if_neg hb, if_neg]
      rintro ⟨h2, h3, h4⟩
      have : ((h1.g b).cells.all scaS) = true := List.all_eq_true.2 (hz.2 b h2 h3)
      rw [this] at h4; cases h4
  cases off with
  | true => rfl
  | false => dsimp only [cond_false]; rw [e]
theorem loadN_rw {n e b o : Nat} {h : H} {cs : List S} (hb : b < h.n) (hg : h.g b = .rw e cs) (ho : o + n ≤ cs.length) : loadN n h (pv b o) = some ((cs.drop o).take n) := by
  simp only [loadN, H.cells, hb, if_true, hg, Blk.cells, true_and]
  rw [if_pos ho]
theorem loadN_2 {e b : Nat} {h : H} {x y : S} (hb : b < h.n) (hg : h.g b = .rw e [x, y]) : loadN 2 h (pv b 0) = some [x, y] := loadN_rw hb hg (by simp)
/-- a pair stored into a new block -/
theorem st2_new {R : Type} {h : H} {x y a b : S} {k : H → Option R} : stK 2 (h.new 0 [a, b]) (pv h.n 0) (.agg [x, y]) k = k ((h.new 0 [a, b]).put h.n (.rw 0 [x, y])) :=
  stK_rw (z := 2) (e := 0) (o := 0) (b := h.n) (cs := [a, b]) (r := [x, y]) (by simp) (new_g _ _ _) (.inr rfl) rfl (by simp)
theorem up_st {h : H} {e e' : Nat} {cs cs' : List S} : Up h ((h.new e cs).put h.n (.rw e' cs')) := ⟨by simp, fun b hb => by rw [put_g' (by omega), new_g' (by omega)]⟩
theorem g_st {h : H} {e e' : Nat} {cs cs' : List S} : ((h.new e cs).put h.n (.rw e' cs')).g h.n = .rw e' cs' := put_g _ _ _
theorem n_st {h : H} {e e' : Nat} {cs cs' : List S} : ((h.new e cs).put h.n (.rw e' cs')).n = h.n + 1 := by simp
/-- a result of a code and bytes: its two cells -/
def Own2 (h : H) (c : Int) (y : S) (l : List UInt8) (ob : Option Nat) : Prop := Own h (.s y) l ob
theorem frz2 {h : H} {c : Int} {y : S} {l : List UInt8} {ob : Option Nat} (w : Own h (.s y) l ob) : frzV h (.agg [.int .i64 c, y]) = some (.agg [.int .i64 c, .fs (bys l)]) := by
  obtain ⟨s, h1, h2⟩ := w.frz (d := 7)
  cases h1
  simp [h2]
theorem frz1 {h : H} {v : V} {l : List UInt8} {ob : Option Nat} (w : Own h v l ob) : frzV h v = some (lv (bys l)) := by
  obtain ⟨s, rfl, h2⟩ := w.frz (d := 7)
  simp [h2]
theorem frzVs_nil {h : H} : frzVs h [] = some [] := id rfl
theorem frzVs_cons {h : H} {v w : V} {vs ws : List V} (h1 : frzV h v = some w) (h2 : frzVs h vs = some ws) : frzVs h (v :: vs) = some (w :: ws) := by simp [frzVs, h1, h2]
theorem frzV_iv {h : H} {k : IntKind} {n : Int} : frzV h (iv k n) = some (iv k n) := by simp
theorem frzV_lv {h : H} {l : List (List S)} : frzV h (lv l) = some (lv l) := by simp
theorem frzV_agf {h : H} {c : Int} {l : List (List S)} : frzV h (.agg [.int .i64 c, .fs l]) = some (.agg [.int .i64 c, .fs l]) := by simp
theorem norm_nil {l : List V} : normVs [] l = l := by cases l <;> rfl
/-- what a function that answers with new bytes comes to: on a heap of which nothing is left -/
structure NewB (n : Nat) (h : H) (v : V) (l : List UInt8) (ob : Option Nat) : Prop where
  own : Own h v l ob
  le : n ≤ h.n
  new : ∀ b, ob = some b → n ≤ b
  z : ∀ b, n ≤ b → b < h.n → ∀ s ∈ (h.g b).cells, scaS s = true
theorem Own.sca {h : H} {y : S} {l : List UInt8} {ob : Option Nat} (w : Own h (.s y) l ob) : scaS y = true := by
  cases ob with
  | none => obtain ⟨h1, _⟩ := w; cases h1; rfl
  | some b => have := w.v; cases this; rfl
end Vm
/-
  Slices of rows: their size, a copy, a comparison, their fault.
-/
namespace Vm
open Go
def rws (rs : List RowD) : List (List S) := rs.map RowD.cs
@[simp] theorem rws_len (rs : List RowD) : (rws rs).length = rs.length := by simp [rws]
theorem rws_row {rs : List RowD} : ∀ r ∈ rws rs, r.length = 4 := by
  intro r hr
  obtain ⟨c, _, rfl⟩ := List.mem_map.1 hr
  rfl
theorem row_cl {r : RowD} : ∀ s ∈ r.cs, Cl s := by
  intro s hs
  simp only [List.mem_cons, List.not_mem_nil, or_false] at hs
  rcases hs with rfl | rfl | rfl | rfl
  · exact cl_i
  · exact cl_i
  · exact cl_i
  · exact cl_s
theorem rws_cl {rs : List RowD} : ∀ r ∈ rws rs, ∀ s ∈ r, Cl s := by
  intro r hr
  obtain ⟨c, _, rfl⟩ := List.mem_map.1 hr
  exact row_cl
theorem rws_get {rs : List RowD} {i : Nat} {r : RowD} (h : rs[i]? = some r) : (rws rs)[i]? = some r.cs := by simp [rws, h]
section
variable {R : Type}
theorem idxF_rw {rs : List RowD} {i : Nat} {r : RowD} {k : List S → Option R} (h : rs[i]? = some r) : idxF 4 (rws rs) (i : Int) k = k r.cs := idxF_at (rws_get h) rfl
end
theorem rowN_rw {r : RowD} : rowN 4 r.cs 0 = some r.cs := rowN_all rfl
theorem normV_rw {r : RowD} : normV 4 (fv r.cs 0) = fv r.cs 0 := rfl
theorem rows_Row {m : Nat} : ∀ rows : List (List S), (∀ r ∈ rows, r.length = PR.cellsOf T.laws_Row ∧ Rp PR m T.laws_Row r) → ∃ rs : List RowD, rows = rws rs ∧ ∀ r ∈ rs, r.ok
  | [], _ => ⟨[], rfl, by simp⟩
  | r :: rows, hr => by
    obtain ⟨rs, h1, h2⟩ := rows_Row rows fun r hm => hr r (by simp [hm])
    obtain ⟨a, h3, h4⟩ := rp_Row (hr r (by simp)).2
    refine ⟨a :: rs, by rw [h1, h3]; rfl, fun x hx => ?_⟩
    rcases List.mem_cons.1 hx with rfl | hx
    · exact h4
    · exact h2 x hx
theorem arg_Rows {x : V} (hr : ArgRp PR T.S_laws_Row x) : ∃ rs : List RowD, x = lv (rws rs) ∧ (∀ r ∈ rs, r.ok) ∧ rs.length ≤ maxLen := by
  obtain ⟨s, n, rfl, h1⟩ := hr.slice und_S_laws_Row
  obtain ⟨m, rows, h1, h2, h3⟩ := h1.slice und_S_laws_Row
  cases h1
  obtain ⟨rs, rfl, h4⟩ := rows_Row rows h3
  exact ⟨rs, rfl, h4, by simpa using h2⟩

/-! size -/
def szRows : List RowD → Int → Int
  | [], left => left
  | r :: rs, left => if (r.text.size : Int) ≤ left then szRows rs (left - r.text.size) else -1
theorem szRows_le : ∀ (rs : List RowD) (left : Int), 0 ≤ left → szRows rs left ≤ left ∧ -1 ≤ szRows rs left
  | [], left, h => ⟨Int.le_refl _, by simp only [szRows]; omega⟩
  | r :: rs, left, h => by
    simp only [szRows]
    split
    · have := szRows_le rs (left - r.text.size) (by omega); omega
    · omega
theorem p_szRowS {all : List RowD} {left : Int} (h1 : 0 ≤ left) (h2 : left < 9223372036854775808) (hl : all.length ≤ maxLen) (hr : ∀ r ∈ all, r.text.size ≤ maxLen) : pureV (call Ev) Fn.laws_szRowS [lv (rws all), iv .i64 left] = some (iv .i64 (if (all.length : Int) ≤ left then szRows all (left - all.length) else -1)) := by
  unfold maxLen at hl
  have loop : ∀ (rs : List RowD) (i : Nat) (q : Int), all.drop i = rs → 0 ≤ q → q < 9223372036854775808 →
      (Lp.laws_szRowS 0 [lv (rws all), iv .i64 q, iv .i64 i] (D 0)).bind (fun o102 => lcase o102 (fun l103 h104 =>
        (l103[0]?).bind fun w107 =>
        gV1 w107 fun x108 =>
        gI .i64 x108 fun i109 =>
        some (iv .i64 i109)) (fun v105 h106 =>
        frzV h106 v105)) = some (iv .i64 (szRows rs q)) := by
    intro rs
    induction rs with
    | nil =>
      intro i q hi h1 h2
      have := drop_nil hi
      rw [eq_laws_szRowS_l0, vcase_b, if_neg (by simp; omega), tidy_self, ob, lcase_done]
      simp only [gx0, ob, gV1_s, gI_i, szRows]
    | cons r rs ih =>
      intro i q hi h1 h2
      obtain ⟨g1, g2, g3⟩ := drop_cons hi
      rw [eq_laws_szRowS_l0, vcase_b, if_pos (by simp; omega), idxF_rw g1, rowN_rw]
      simp only [ob, gx0, gx1, gI_i, gS_s, ln0, ln1, Nat.zero_add, Nat.reduceAdd, if_true]
      rw [pc (p_szRow r q h1 h2 (hr r (List.mem_of_getElem? g1))) rfl]
      simp only [gV1_s, gI_i, vcase_b, decide_eq_true_eq, szRows]
      by_cases hle : (r.text.size : Int) ≤ q
      · rw [if_pos hle, if_neg (by omega), w64 (by omega) (by omega), tidy_self, show (i : Int) + 1 = ((i + 1 : Nat) : Int) from by omega, if_pos hle]
        exact ih (i + 1) _ g2 (by omega) (by omega)
      · rw [if_neg hle, if_pos (by omega), if_neg hle]; rfl
  rw [pu_laws_szRowS, vcase_b, rws_len, w64 (by omega) (by omega)]
  by_cases hq : (all.length : Int) ≤ left
  · rw [if_neg (by simp; omega), if_pos hq]
    exact loop all 0 _ rfl (by omega) (by omega)
  · rw [if_pos (by simp; omega), if_neg hq]

/-! a copy -/
structure NewRw (n : Nat) (h : H) (v : V) (rs : List RowD) : Prop where
  v : v = sv n 0 rs.length
  g : h.g n = .rw 4 (rws rs).flatten
  le : h.n = n + 1
/-! a comparison -/
theorem p_eqRow (r : RowD) : pureV (call Ev) Fn.laws_eqRow [.agg r.cs, .agg r.cs] = some (bv true) := by
  rw [pu_laws_eqRow]; simp
theorem p_eqRowS {all : List RowD} (hl : all.length ≤ maxLen) : pureV (call Ev) Fn.laws_eqRowS [lv (rws all), lv (rws all)] = some (bv true) := by
  unfold maxLen at hl
  have loop : ∀ (rs : List RowD) (i : Nat), all.drop i = rs → Lp.laws_eqRowS 0 [lv (rws all), lv (rws all), iv .i64 i] (D 0) = some (.done [] (D 0)) := by
    intro rs
    induction rs with
    | nil =>
      intro i hi
      have := drop_nil hi
      rw [eq_laws_eqRowS_l0, vcase_b, if_neg (by simp; omega), tidy_self]
    | cons r rs ih =>
      intro i hi
      obtain ⟨g1, g2, g3⟩ := drop_cons hi
      rw [eq_laws_eqRowS_l0, vcase_b, if_pos (by simp; omega), idxF_rw g1, rowN_rw]
      simp only [ob, gx0, gx1, gI_i, gS_s, ln0, ln1, Nat.zero_add, Nat.reduceAdd, if_true]
      rw [idxF_rw g1, rowN_rw]
      simp only [ob, gx0, gx1, gI_i, gS_s, ln0, ln1, Nat.zero_add, Nat.reduceAdd, if_true]
      rw [pc (p_eqRow r) rfl]
      simp only [gV1_s, gB_b, hchk_self, vcase_b]
      rw [if_neg (by simp), tidy_self, w64 (by omega) (by omega), show (i : Int) + 1 = ((i + 1 : Nat) : Int) from by omega]
      exact ih (i + 1) g2
  rw [pu_laws_eqRowS, vcase_b, if_neg (by simp), show iv .i64 0 = iv .i64 ((0 : Nat) : Int) from rfl, loop all 0 rfl]
  simp

/-! the fault of rows -/
def rowsFrom : Option RowD → List RowD → Int
  | _, [] => 0
  | p, r :: rs => if rowF r = 0 then (if (match p with | none => false | some q => !befB q r) then 1 else rowsFrom (some r) rs) else rowF r
def rowsF (rs : List RowD) : Int := if 60 < rs.length then 2 else rowsFrom none rs
/-- the row before -/
def lastOf (all : List RowD) (i : Nat) : Option RowD := if i = 0 then none else all[i - 1]?
theorem p_l1Before (a b : RowD) : pureV (call Ev) Fn.spec_l1Before [fv a.cs 0, fv b.cs 0] = some (bv (befB a b)) := by
  rw [pu_spec_l1Before]; unfold befB
  simp only [vcase_b, decide_eq_true_eq, beq_iff_eq]
  split
  · rename_i h; simp [h]
  · rename_i h
    split
    · rename_i h2; simp [h2]
    · rename_i h2; simp [h, h2]
theorem p_IsBefore (a b : RowD) : pureV (call Ev) Fn.impl_IsBefore [.agg a.cs, .agg b.cs] = some (bv (befB a b)) := by
  rw [pu_impl_IsBefore]; unfold befB
  simp only [vcase_b, decide_eq_true_eq, beq_iff_eq]
  split
  · rename_i h; simp [h]
  · rename_i h
    split
    · rename_i h2; simp [h2]
    · rename_i h2; simp [h, h2]
/-- what a loop over rows ends with -/
def outI (x : Int) (h : H) : LOut := if x = 0 then .done [] h else .ret (iv .i64 x) h
theorem outI_0 (h : H) : outI 0 h = .done [] h := rfl
theorem outI_n {x : Int} (hx : x ≠ 0) (h : H) : outI x h = .ret (iv .i64 x) h := if_neg hx
theorem rowsFrom_n {p : Option RowD} {r : RowD} {rs : List RowD} (h : rowF r ≠ 0) : rowsFrom p (r :: rs) = rowF r := by simp [rowsFrom, h]
theorem rowsFrom_0 {r : RowD} {rs : List RowD} (h : rowF r = 0) : rowsFrom none (r :: rs) = rowsFrom (some r) rs := by simp [rowsFrom, h]
theorem rowsFrom_1 {q r : RowD} {rs : List RowD} (h : rowF r = 0) (hb : befB q r = false) : rowsFrom (some q) (r :: rs) = 1 := by simp [rowsFrom, h, hb]
theorem rowsFrom_2 {q r : RowD} {rs : List RowD} (h : rowF r = 0) (hb : befB q r = true) : rowsFrom (some q) (r :: rs) = rowsFrom (some r) rs := by simp [rowsFrom, h, hb]
theorem lastOf_0 {all : List RowD} : lastOf all 0 = none := rfl
theorem lastOf_s {all : List RowD} {i : Nat} {r : RowD} (h : all[i]? = some r) : lastOf all (i + 1) = some r := by simp [lastOf, h]
theorem p_l6Rows {all : List RowD} (hs : ∀ r ∈ all, r.text.size ≤ maxLen) (hl : all.length ≤ maxLen) : pureV (call Ev) Fn.spec_l6Rows [lv (rws all)] = some (iv .i64 (rowsF all)) := by
  unfold maxLen at hl
  have loop : ∀ (rs : List RowD) (i : Nat), all.drop i = rs → Lp.spec_l6Rows 0 [lv (rws all), iv .i64 i] (D 0) = some (outI (rowsFrom (lastOf all i) rs) (D 0)) := by
    intro rs
    induction rs with
    | nil =>
      intro i hi
      have := drop_nil hi
      rw [eq_spec_l6Rows_l0, vcase_b, if_neg (by simp; omega), tidy_self]; rfl
    | cons r rs ih =>
      intro i hi
      obtain ⟨g1, g2, g3⟩ := drop_cons hi
      have hz := hs r (List.mem_of_getElem? g1)
      have ih' := ih (i + 1) g2
      rw [lastOf_s g1] at ih'
      rw [eq_spec_l6Rows_l0, vcase_b, if_pos (by simp; omega), idxF_rw g1, normV_rw, pc (p_l1Fault r hz) rfl]
      simp only [gV1_s, gI_i, vcase_b, bne_iff_ne, ne_eq, decide_eq_true_eq]
      by_cases h0 : rowF r = 0
      · rw [if_neg (by simp [h0])]
        by_cases hi0 : i = 0
        · subst hi0
          rw [if_neg (by omega), hchk_self, tidy_self, w64 (by omega) (by omega), lastOf_0, rowsFrom_0 h0]
          exact ih'
        · obtain ⟨p, hp⟩ : ∃ p, all[i - 1]? = some p := ⟨_, List.getElem?_eq_getElem (by omega)⟩
          rw [if_pos (by omega), w64 (n := (i : Int) - 1) (by omega) (by omega), show (i : Int) - 1 = ((i - 1 : Nat) : Int) from by omega, idxF_rw hp, idxF_rw g1, normV_rw, normV_rw, pc (p_l1Before p r) rfl,
            show lastOf all i = some p from by rw [← lastOf_s hp, Nat.sub_add_cancel (by omega)]]
          simp only [gV1_s, gB_b, hchk_self, vcase_b]
          cases hb : befB p r
          · rw [rowsFrom_1 h0 hb]; rfl
          · rw [rowsFrom_2 h0 hb, if_neg (by simp), tidy_self, w64 (by omega) (by omega), show (i : Int) + 1 = ((i + 1 : Nat) : Int) from by omega]
            exact ih'
      · rw [if_pos h0, rowsFrom_n h0, outI_n h0]
  rw [pu_spec_l6Rows, vcase_b, rws_len]; unfold rowsF
  by_cases h60 : 60 < all.length
  · rw [if_pos (by simp; omega), if_pos h60]
  rw [if_neg (by simp; omega), if_neg h60, show iv .i64 0 = iv .i64 ((0 : Nat) : Int) from rfl, loop all 0 rfl, ob, lastOf_0]
  by_cases h0 : rowsFrom none all = 0
  · rw [h0]; rfl
  · rw [outI_n h0, lcase_ret]; simp
theorem setAt_all {cs r : List S} (h : cs.length ≤ r.length) : setAt cs 0 r = r := by simp [setAt, List.drop_of_length_le h]
/-- a row that lies in a new block -/
def putR (h : H) (r : RowD) : H := (h.new 0 [.int .i64 0, .int .i64 0, .int .i64 0, .str ⟨#[]⟩]).put h.n (.rw 0 r.cs)
theorem putR_keep (h : H) (r : RowD) : HKeep h (putR h r) := ((HKeep.refl h).new).put (Nat.le_refl _)
theorem putR_n (h : H) (r : RowD) : (putR h r).n = h.n + 1 := rfl
theorem putR_g (h : H) (r : RowD) : (putR h r).g h.n = .rw 0 r.cs := put_g _ _ _
theorem putR_cells (h : H) (r : RowD) : (putR h r).cells h.n = r.cs := by
  unfold H.cells; rw [if_pos (by rw [putR_n]; omega), putR_g]; rfl
theorem putR_tidy {h : H} {r : RowD} {l : List V} (hl : l.all (belV h.n) = true) : tidy h l (putR h r) = h := tidy_ext (putR_keep h r) hl
section
variable {R : Type}
theorem stK_row {h : H} {r : RowD} {k : H → Option R} : stK 4 (h.new 0 [.int .i64 0, .int .i64 0, .int .i64 0, .str ⟨#[]⟩]) (pv h.n 0) (.agg r.cs) k = k (putR h r) := by
  rw [stK_rw (z := 4) (o := 0) (b := h.n) (r := r.cs) (e := 0) (cs := [.int .i64 0, .int .i64 0, .int .i64 0, .str ⟨#[]⟩]) (by simp) (new_g h _ _) (.inr rfl) rfl (by simp), setAt_all (by simp)]
  rfl
end
theorem loadN_row {h : H} {r : RowD} : loadN 4 (putR h r) (pv h.n 0) = some r.cs := by
  have := putR_cells h r
  have h2 : h.n < (putR h r).n := by rw [putR_n]; omega
  simp only [loadN]
  rw [if_pos ⟨h2, by rw [this]; simp⟩, this]; rfl
theorem load_0 {h : H} {r : RowD} : load1 (putR h r) (pv h.n 0) = some (.int .i64 r.tab) := by simp only [load1]; rw [putR_cells]; rfl
theorem load_1 {h : H} {r : RowD} : load1 (putR h r) (pv h.n 1) = some (.int .i64 r.key) := by simp only [load1]; rw [putR_cells]; rfl
theorem load_2 {h : H} {r : RowD} : load1 (putR h r) (pv h.n 2) = some (.int .i64 r.val) := by simp only [load1]; rw [putR_cells]; rfl
theorem load_3 {h : H} {r : RowD} : load1 (putR h r) (pv h.n 3) = some (.str r.text) := by simp only [load1]; rw [putR_cells]; rfl
theorem p_RowsFault {all : List RowD} (hs : ∀ r ∈ all, r.text.size ≤ maxLen) (hl : all.length ≤ maxLen) : pureV (call Ev) Fn.impl_RowsFault [lv (rws all)] = some (iv .i64 (rowsF all)) := by
  unfold maxLen at hl
  have loop : ∀ (rs : List RowD) (i : Nat), all.drop i = rs → ∃ h', Lp.impl_RowsFault 0 [lv (rws all), lv (rws all), iv .i64 (all.length : Int), iv .i64 i] (D 0) = some (outI (rowsFrom (lastOf all i) rs) h') := by
    intro rs
    induction rs with
    | nil =>
      intro i hi
      have := drop_nil hi
      refine ⟨D 0, ?_⟩
      rw [eq_impl_RowsFault_l0, vcase_b, if_neg (by simp; omega), tidy_self]; rfl
    | cons r rs ih =>
      intro i hi
      obtain ⟨g1, g2, g3⟩ := drop_cons hi
      have hz := hs r (List.mem_of_getElem? g1)
      obtain ⟨h', ih'⟩ := ih (i + 1) g2
      rw [lastOf_s g1] at ih'
      rw [eq_impl_RowsFault_l0, vcase_b, if_pos (by simp; omega), idxF_rw g1, rowN_rw]
      simp only [ob, gx0, gx1, gI_i, gS_s, ln0, ln1, Nat.zero_add, Nat.reduceAdd, if_true]
      rw [stK_row, loadN_row]
      simp only [ob, gx0, gx1, gI_i, gS_s, ln0, ln1, Nat.zero_add, Nat.reduceAdd, if_true]
      rw [pc (p_RowFault r hz) rfl]
      simp only [gV1_s, gI_i, vcase_b, bne_iff_ne, ne_eq, decide_eq_true_eq]
      by_cases h0 : rowF r = 0
      · rw [if_neg (by simp [h0])]
        by_cases hi0 : i = 0
        · subst hi0
          rw [if_neg (by omega), hchk_self, putR_tidy rfl, w64 (by omega) (by omega), lastOf_0, rowsFrom_0 h0]
          exact ⟨h', ih'⟩
        · obtain ⟨p, hp⟩ : ∃ p, all[i - 1]? = some p := ⟨_, List.getElem?_eq_getElem (by omega)⟩
          rw [if_pos (by omega), w64 (n := (i : Int) - 1) (by omega) (by omega), show (i : Int) - 1 = ((i - 1 : Nat) : Int) from by omega, idxF_rw hp, rowN_rw, 
            show lastOf all i = some p from by rw [← lastOf_s hp, Nat.sub_add_cancel (by omega)]]
          simp only [ob, gx0, gx1, gI_i, gS_s, ln0, ln1, Nat.zero_add, Nat.reduceAdd, if_true]
          rw [pc (p_IsBefore p r) rfl]
          simp only [gV1_s, gB_b, hchk_self, vcase_b]
          cases hb : befB p r
          · rw [rowsFrom_1 h0 hb]; exact ⟨_, rfl⟩
          · rw [rowsFrom_2 h0 hb, if_neg (by simp), putR_tidy rfl, w64 (by omega) (by omega), show (i : Int) + 1 = ((i + 1 : Nat) : Int) from by omega]
            exact ⟨h', ih'⟩
      · rw [if_pos h0, rowsFrom_n h0]; exact ⟨putR (D 0) r, by rw [outI_n h0]⟩
  rw [pu_impl_RowsFault, vcase_b, rws_len]; unfold rowsF
  by_cases h60 : 60 < all.length
  · rw [if_pos (by simp; omega), if_pos h60]
  obtain ⟨h', e⟩ := loop all 0 rfl
  rw [if_neg (by simp; omega), if_neg h60, show iv .i64 0 = iv .i64 ((0 : Nat) : Int) from rfl, e, ob, lastOf_0]
  by_cases h0 : rowsFrom none all = 0
  · rw [h0]; rfl
  · rw [outI_n h0, lcase_ret]; simp
end Vm
/-
  Where a row with a table and a key stands; how long texts of a table may be.
-/
namespace Vm
open Go
def atF (t k : Int) : List RowD → Nat → Int
  | [], _ => -1
  | r :: rs, i => if r.tab = t ∧ r.key = k then i else atF t k rs (i + 1)
theorem atF_some {t k : Int} : ∀ (rs : List RowD) (i : Nat), atF t k rs i = -1 ∨ ∃ j r, rs[j]? = some r ∧ atF t k rs i = ((i + j : Nat) : Int) ∧ r.tab = t ∧ r.key = k
  | [], i => .inl rfl
  | r :: rs, i => by
    unfold atF
    by_cases h : r.tab = t ∧ r.key = k
    · rw [if_pos h]; exact .inr ⟨0, r, rfl, rfl, h⟩
    · rw [if_neg h]
      rcases atF_some rs (i + 1) with h1 | ⟨j, q, h1, h2, h3⟩
      · exact .inl h1
      · exact .inr ⟨j + 1, q, by simpa using h1, by rw [h2]; omega, h3⟩
theorem p_l6At {all : List RowD} {t k : Int} (hl : all.length ≤ maxLen) : pureV (call Ev) Fn.spec_l6At [lv (rws all), iv .i64 t, iv .i64 k] = some (iv .i64 (atF t k all 0)) := by
  unfold maxLen at hl
  have loop : ∀ (rs : List RowD) (i : Nat), all.drop i = rs → Lp.spec_l6At 0 [lv (rws all), iv .i64 t, iv .i64 k, iv .i64 i] (D 0) = some (if atF t k rs i = -1 then .done [] (D 0) else .ret (iv .i64 (atF t k rs i)) (D 0)) := by
    intro rs
    induction rs with
    | nil =>
      intro i hi
      have := drop_nil hi
      rw [eq_spec_l6At_l0, vcase_b, if_neg (by simp; omega), tidy_self]; rfl
    | cons r rs ih =>
      intro i hi
      obtain ⟨g1, g2, g3⟩ := drop_cons hi
      have ih' := ih (i + 1) g2
      rw [eq_spec_l6At_l0, vcase_b, if_pos (by simp; omega), idxF_rw g1]
      simp only [ob, gx0, gI_i, vcase_b, beq_iff_eq, tidy_self]
      rw [idxF_rw g1, w64 (by omega) (by omega), show (i : Int) + 1 = ((i + 1 : Nat) : Int) from by omega]
      simp only [ob, gx0, gx1, gI_i, vcase_b, beq_iff_eq]
      rw [ih']
      by_cases h1 : r.tab = t
      · by_cases h2 : r.key = k
        · have e : atF t k (r :: rs) i = i := by unfold atF; rw [if_pos ⟨h1, h2⟩]
          rw [if_pos h1, if_pos h2, e, if_neg (by omega)]
        · have e : atF t k (r :: rs) i = atF t k rs (i + 1) := by rw [atF]; rw [if_neg (fun h => h2 h.2)]
          rw [if_pos h1, if_neg h2, e]
      · have e : atF t k (r :: rs) i = atF t k rs (i + 1) := by rw [atF]; rw [if_neg (fun h => h1 h.1)]
        rw [if_neg h1, e]
  rw [pu_spec_l6At, show iv .i64 0 = iv .i64 ((0 : Nat) : Int) from rfl, loop all 0 rfl, ob]
  by_cases h0 : atF t k all 0 = -1
  · rw [if_pos h0, h0]; rfl
  · rw [if_neg h0, lcase_ret]; simp
/-- how long texts of a table may be -/
def lngF (t : Int) : List RowD → Option Int
  | [] => none
  | r :: rs => if r.tab = 0 ∧ r.key = t then some r.val else lngF t rs
theorem lng_at {t : Int} : ∀ (rs : List RowD) (i : Nat), (atF 0 t rs i = -1 ∧ lngF t rs = none) ∨ ∃ j r, rs[j]? = some r ∧ atF 0 t rs i = ((i + j : Nat) : Int) ∧ lngF t rs = some r.val
  | [], i => .inl ⟨rfl, rfl⟩
  | r :: rs, i => by
    unfold atF lngF
    by_cases h : r.tab = 0 ∧ r.key = t
    · rw [if_pos h, if_pos h]; exact .inr ⟨0, r, rfl, rfl, rfl⟩
    · rw [if_neg h, if_neg h]
      rcases lng_at rs (i + 1) with h1 | ⟨j, q, h1, h2, h3⟩
      · exact .inl h1
      · exact .inr ⟨j + 1, q, by simpa using h1, by rw [h2]; omega, h3⟩
/-- rows without a fault have no value below 0 -/
theorem rowF_val {r : RowD} (h : rowF r = 0) : 0 ≤ r.val := by
  unfold rowF inB at h
  split at h
  · rename_i h2; simp only [Bool.and_eq_true, decide_eq_true_eq] at h2; omega
  · omega
theorem rowsFrom_all : ∀ {rs : List RowD} {p : Option RowD}, rowsFrom p rs = 0 → ∀ r ∈ rs, rowF r = 0
  | [], _, _ => by simp
  | r :: rs, p, h => by
    have h0 : rowF r = 0 := by
      by_cases h0 : rowF r = 0
      · exact h0
      · rw [rowsFrom_n h0] at h; exact absurd h h0
    have h2 : rowsFrom (some r) rs = 0 := by
      cases p with
      | none => rw [rowsFrom_0 h0] at h; exact h
      | some q =>
        cases hb : befB q r with
        | false => rw [rowsFrom_1 h0 hb] at h; omega
        | true => rw [rowsFrom_2 h0 hb] at h; exact h
    intro x hx
    rcases List.mem_cons.1 hx with rfl | hx
    · exact h0
    · exact rowsFrom_all h2 x hx
theorem rowsF_all {rs : List RowD} (h : rowsF rs = 0) : ∀ r ∈ rs, rowF r = 0 := by
  unfold rowsF at h
  split at h
  · omega
  · exact rowsFrom_all h
theorem lngF_pos {t : Int} : ∀ {rs : List RowD} {x : Int}, (∀ r ∈ rs, rowF r = 0) → lngF t rs = some x → 0 ≤ x
  | [], x, _, h => by cases h
  | r :: rs, x, hr, h => by
    unfold lngF at h
    split at h
    · cases h; exact rowF_val (hr r (by simp))
    · exact lngF_pos (fun q hq => hr q (by simp [hq])) h
def longF (rs : List RowD) (t : Int) : Int × Int := if rowsF rs = 0 then (if inB t 1 3 then (match lngF t rs with | none => (4, 0) | some x => (0, x)) else (3, 0)) else (rowsF rs, 0)
end Vm
/-
  Changes: their size, a copy, a comparison, their fault; whether a change may be.
-/
namespace Vm
open Go
structure ChgD where
  was : Bool
  b : RowD
  is : Bool
  a : RowD
abbrev ChgD.cs (c : ChgD) : List S := [.bool c.was, .int .i64 c.b.tab, .int .i64 c.b.key, .int .i64 c.b.val, .str c.b.text, .bool c.is, .int .i64 c.a.tab, .int .i64 c.a.key, .int .i64 c.a.val, .str c.a.text]
structure ChgD.ok (c : ChgD) : Prop where
  b : c.b.ok
  a : c.a.ok
theorem rp_Change {n : Nat} {xs : List S} (hr : Rp PR n T.laws_Change xs) : ∃ c : ChgD, xs = c.cs ∧ c.ok := by
  obtain ⟨m, hf⟩ := hr.st und_laws_Change
  obtain ⟨a0, b0, rfl, h0, a1, b1, rfl, h1, a2, b2, rfl, h2, a3, b3, rfl, h3, rfl⟩ := hf
  obtain ⟨x0, rfl⟩ := h0.bool und_bool
  obtain ⟨x1, rfl, w1⟩ := rp_Row h1
  obtain ⟨x2, rfl⟩ := h2.bool und_bool
  obtain ⟨x3, rfl, w3⟩ := rp_Row h3
  exact ⟨⟨x0, x1, x2, x3⟩, rfl, w1, w3⟩
theorem arg_Change {x : V} (hr : ArgRp PR T.laws_Change x) : ∃ c : ChgD, x = .agg c.cs ∧ c.ok := by
  obtain ⟨cs, n, rfl, h1⟩ := hr.st und_laws_Change
  obtain ⟨r, rfl, h2⟩ := rp_Change h1
  exact ⟨r, rfl, h2⟩
theorem cl_bool {n : Bool} : Cl (.bool n) := fun _ _ => frz_b
theorem chg_cl {c : ChgD} : ∀ s ∈ c.cs, Cl s := by
  intro s hs
  simp only [List.mem_cons, List.not_mem_nil, or_false] at hs
  rcases hs with rfl | rfl | rfl | rfl | rfl | rfl | rfl | rfl | rfl | rfl <;> first | exact cl_i | exact cl_s | exact cl_bool
def szChg (c : ChgD) (left : Int) : Int := if (c.b.text.size : Int) ≤ left then (if (c.a.text.size : Int) ≤ left - c.b.text.size then left - c.b.text.size - c.a.text.size else -1) else -1
theorem p_szChange (c : ChgD) {left : Int} (h1 : 0 ≤ left) (h2 : left < 9223372036854775808) (hc : c.ok) : pureV (call Ev) Fn.laws_szChange [.agg c.cs, iv .i64 left] = some (iv .i64 (szChg c left)) := by
  rw [pu_laws_szChange, pc (p_szRow c.b left h1 h2 hc.b.s) rfl]
  simp only [gV1_s, gI_i, vcase_b, decide_eq_true_eq, szChg]
  by_cases hle : (c.b.text.size : Int) ≤ left
  · rw [if_pos hle, if_neg (by omega), pc (p_szRow c.a _ (by omega) (by omega) hc.a.s) rfl, if_pos hle]
    simp only [gV1_s, gI_i, vcase_b, decide_eq_true_eq]
    by_cases hle2 : (c.a.text.size : Int) ≤ left - c.b.text.size
    · rw [if_pos hle2, if_neg (by omega)]
    · rw [if_neg hle2, if_pos (by omega)]
  · rw [if_neg hle, if_pos (by omega), if_neg hle]
theorem p_toChange (c : ChgD) : pureV (call Ev) Fn.laws_toChange [.agg c.cs] = some (.agg c.cs) := by
  rw [pu_laws_toChange, pc (p_toRow c.b) rfl]
  simp only [ob, gx0, gx1, gVA_a, gI_i, gS_s, ln0, ln1, Nat.zero_add, Nat.reduceAdd, if_true]
  rw [pc (p_toRow c.a) rfl]
  simp only [ob, gx0, gx1, gVA_a, gI_i, gS_s, ln0, ln1, Nat.zero_add, Nat.reduceAdd, if_true]
/-! the fault -/
def sameK (a b : RowD) : Bool := decide (a.tab = b.tab) && decide (a.key = b.key)
def chgF (c : ChgD) : Int :=
  if (!c.was && !c.is) || (c.was && c.is && !sameK c.b c.a) then 1
  else if c.was = true ∧ rowF c.b ≠ 0 then rowF c.b else if c.is then rowF c.a else 0
def ordI (a b : RowD) : Int := if befB a b then -1 else if befB b a then 1 else 0
theorem p_order (a b : RowD) : pureV (call Ev) Fn.impl_order [.agg a.cs, .agg b.cs] = some (iv .i64 (ordI a b)) := by
  rw [pu_impl_order, pc (p_IsBefore a b) rfl]
  simp only [gV1_s, gB_b, vcase_b]
  unfold ordI
  cases befB a b
  · rw [if_neg (by simp), if_neg (by simp), pc (p_IsBefore b a) rfl]
    simp only [gV1_s, gB_b, vcase_b]
    cases befB b a <;> rfl
  · rfl
theorem ordI_0 {a b : RowD} : ordI a b = 0 ↔ sameK a b = true := by
  unfold ordI befB sameK
  simp only [Bool.or_eq_true, Bool.and_eq_true, decide_eq_true_eq]
  split
  · omega
  · split <;> omega
/-- the fault of the rows of a change -/
def chgR (c : ChgD) : Int := if c.was = true ∧ rowF c.b ≠ 0 then rowF c.b else if c.is then rowF c.a else 0
theorem chgF_eq (c : ChgD) : chgF c = if (!c.was && !c.is) || (c.was && c.is && !sameK c.b c.a) then 1 else chgR c := rfl
theorem p_l6Change (c : ChgD) (hc : c.ok) : pureV (call Ev) Fn.spec_l6Change [fv c.cs 0] = some (iv .i64 (chgF c)) := by
  have fin : ∀ q w1 w2 w3 w4 w5 w6 w7 w8 w9 w10 w11 w12 w13 w14 w15 w16 w17 w18 w19 w20 w21 w22 w23 w24 w25 w26 w27 w28 w29 w30 w31 w32 w33 w34 w35 w36 q2,
      Jn.spec_l6Change_0 q w1 w2 w3 w4 w5 w6 w7 w8 w9 w10 w11 w12 w13 w14 w15 w16 w17 w18 w19 w20 w21 w22 w23 w24 w25 w26 w27 w28 w29 w30 w31 w32 w33 w34 w35 w36 q2 c.was c.b.tab c.b.key c.b.val c.b.text c.is c.a.tab c.a.key c.a.val c.a.text = some (iv .i64 (if q2 = true then 1 else chgR c)) := by
    intro q w1 w2 w3 w4 w5 w6 w7 w8 w9 w10 w11 w12 w13 w14 w15 w16 w17 w18 w19 w20 w21 w22 w23 w24 w25 w26 w27 w28 w29 w30 w31 w32 w33 w34 w35 w36 q2
    unfold Jn.spec_l6Change_0 chgR
    rw [pc (p_l1Fault c.b hc.b.s) rfl]
    simp only [gV1_s, gI_i, vcase_b, bne_iff_ne, ne_eq]
    rw [pc (p_l1Fault c.a hc.a.s) rfl]
    simp only [gV1_s, gI_i]
    by_cases h0 : rowF c.b = 0 <;> cases q2 <;> cases c.was <;> cases c.is <;> simp [h0]
  rw [pu_spec_l6Change, chgF_eq]
  unfold Jn.spec_l6Change_1
  simp only [vcase_b, bne_iff_ne, ne_eq, fin]
  have hs : sameK c.b c.a = (decide (c.b.tab = c.a.tab) && decide (c.b.key = c.a.key)) := rfl
  rw [hs]
  cases c.was <;> cases c.is <;> simp only [Bool.not_true, Bool.not_false, Bool.false_eq_true, if_false, if_true, Bool.and_true, Bool.true_and, Bool.and_false, Bool.false_and, Bool.or_false, Bool.false_or]
  by_cases h1 : c.b.tab = c.a.tab
  · rw [if_neg (by simpa using h1), decide_eq_true h1, Bool.true_and]
    by_cases h2 : c.b.key = c.a.key <;> simp [h2]
  · rw [if_pos h1, decide_eq_false h1]; rfl
theorem p_changeFault (c : ChgD) (hc : c.ok) : pureV (call Ev) Fn.impl_changeFault [.agg c.cs] = some (iv .i64 (chgF c)) := by
  have fin : ∀ q2, Jn.impl_changeFault_0 q2 c.was c.b.tab c.b.key c.b.val c.b.text c.is c.a.tab c.a.key c.a.val c.a.text = some (iv .i64 (if q2 = true then 1 else chgR c)) := by
    intro q2
    unfold Jn.impl_changeFault_0 chgR
    rw [pc (p_RowFault c.b hc.b.s) rfl]
    simp only [gV1_s, gI_i, vcase_b, bne_iff_ne, ne_eq]
    rw [pc (p_RowFault c.a hc.a.s) rfl]
    simp only [gV1_s, gI_i]
    by_cases h0 : rowF c.b = 0 <;> cases q2 <;> cases c.was <;> cases c.is <;> simp [h0]
  rw [pu_impl_changeFault, chgF_eq]
  unfold Jn.impl_changeFault_2 Jn.impl_changeFault_1
  rw [pc (p_order c.b c.a) rfl]
  simp only [gV1_s, gI_i, vcase_b, fin, bne_iff_ne, ne_eq, ordI_0]
  cases c.was <;> cases c.is <;> simp
/-! whether a change may be -/
def ChgD.k (c : ChgD) : RowD := if c.is then c.a else c.b
theorem p_Change_key (c : ChgD) : pureV (call Ev) Fn.impl_Change_key [.agg c.cs] = some (.agg c.k.cs) := by
  rw [pu_impl_Change_key, vcase_b]; unfold ChgD.k
  cases c.is <;> rfl
theorem p_l6Key (c : ChgD) : pureV (call Ev) Fn.spec_l6Key [fv c.cs 0] = some (.tup [.s (.int .i64 c.k.tab), .s (.int .i64 c.k.key)]) := by
  rw [pu_spec_l6Key, vcase_b]; unfold ChgD.k
  cases c.is <;> rfl
/-- a row stands in the way of a change of a table -/
def hinders (c : ChgD) (r : RowD) : Bool := decide (r.tab = c.k.key) && !decide (r.tab = 0) && (!c.is || decide ((r.text.size : Int) > c.a.val))
def catF (rs : List RowD) (c : ChgD) : Int := if c.is && (!inB c.k.key 1 3 || decide (c.a.val > 8) || !(c.a.text.toList == (⟨#[]⟩ : ByteArray).toList)) then 10 else if rs.any (hinders c) then 8 else 0
end Vm
/-
  Whether a change may be: the program and the specification.
-/
namespace Vm
open Go
section
variable {R : Type}
theorem ldK_agg {t : VT} {ti : TI} {h : H} {b o : Nat} {cs : List S} {k : V → Option R} (ha : ti.agg = true) (hl : loadN ti.z h (pv b o) = some cs) : ldK t ti h (pv b o) k = k (.agg cs) := by
  simp only [ldK, ldT, ha, cond_true]; rw [hl, ob]
theorem ldK_one {t : VT} {ti : TI} {h : H} {b o : Nat} {x : S} {k : V → Option R} (ha : ti.agg = false) (hl : load1 h (pv b o) = some x) : ldK t ti h (pv b o) k = k (.s x) := by
  simp only [ldK, ldT, ha, cond_false]; rw [hl, ob]
end
theorem loadN_cs {h : H} {b : Nat} {cs : List S} {n : Nat} (hb : b < h.n) (hc : h.cells b = cs) (hn : cs.length = n) : loadN n h (pv b 0) = some cs := by
  simp only [loadN]
  rw [if_pos ⟨hb, by rw [hc]; omega⟩, hc, List.drop_zero, List.take_of_length_le (by omega)]
theorem load1_cs {h : H} {b o : Nat} {cs : List S} {x : S} (hc : h.cells b = cs) (hx : cs[o]? = some x) : load1 h (pv b o) = some x := by
  simp only [load1]; rw [hc, hx]
theorem keep_cells {h h' : H} (x : HKeep h h') {b : Nat} (hb : b < h.n) : h'.cells b = h.cells b := by
  unfold H.cells; rw [if_pos hb, if_pos (by have := x.1; omega), (x.2 b hb).1]
def mayC (rs : List RowD) (c : ChgD) : Int := if c.k.tab = 0 then catF rs c else if c.is then (match lngF c.k.tab rs with | none => 4 | some n => if (c.a.text.size : Int) > n then 10 else 0) else 0
def mayF (rs : List RowD) (c : ChgD) : Int := if rowsF rs = 0 then (if chgF c = 0 then mayC rs c else chgF c) else rowsF rs
end Vm
/-
  What the laws' helpers on bytes come to: a copy, a comparison, marks written and found again.
-/
namespace Vm
open Go

theorem p_eqByteS {l m : List UInt8} (hl : l.length ≤ maxLen) : pureV (call Ev) Fn.laws_eqByteS [lv (bys l), lv (bys m)] = some (bv (decide (l = m))) := by
  unfold maxLen at hl
  rw [pu_laws_eqByteS, vcase_b, bys_len, bys_len]
  by_cases hlm : l.length = m.length
  case neg =>
    rw [if_pos (by simp; omega)]
    rw [show decide (l = m) = false from by simp; intro e; exact hlm (by rw [e])]
  rw [if_neg (by simp [hlm])]
  have loop : ∀ (k i : Nat), i + k = l.length → (∀ j : Nat, j < i → bt l j = bt m j) → Lp.laws_eqByteS 0 [lv (bys l), lv (bys m), iv .i64 i] (D 0) = some (if l = m then .done [] (D 0) else .ret (bv false) (D 0)) := by
    intro k
    induction k with
    | zero =>
      intro i hi hj
      rw [eq_laws_eqByteS_l0, vcase_b, if_neg (by simp; omega), if_pos (bt_ext hlm fun j hjl => hj j (by omega)), tidy_self]
    | succ k ih =>
      intro i hi hj
      rw [eq_laws_eqByteS_l0, vcase_b, if_pos (by simp; omega), idxF_by (by omega) (by omega)]
      simp only [List.getElem?_cons_zero, Option.bind_some, gI_i]
      rw [idxF_by (by omega) (by omega)]
      simp only [List.getElem?_cons_zero, Option.bind_some, gI_i]
      rw [vcase_b]
      by_cases hb : bt l i = bt m i
      · rw [if_neg (by simpa using hb), w64 (by omega) (by omega), show (i : Int) + 1 = ((i + 1 : Nat) : Int) from by omega, tidy_self]
        refine ih (i + 1) (by omega) fun j hji => ?_
        by_cases hje : j = i
        · subst hje; exact hb
        · exact hj j (by omega)
      · rw [if_pos (by simpa using hb), if_neg (fun e => hb (by rw [e]))]
  rw [show iv .i64 0 = iv .i64 ((0 : Nat) : Int) from rfl, loop l.length 0 (by omega) (fun j hj => by omega)]
  by_cases he : l = m <;> simp [he]

def marks (k : Nat) (n : Nat) : List UInt8 := (List.range n).map fun i => UInt8.ofNat ((k + i) % 256)
theorem marks_len (k n : Nat) : (marks k n).length = n := by simp [marks]
theorem marks_get {k n i : Nat} (h : i < n) : (marks k n)[i]? = some (UInt8.ofNat ((k + i) % 256)) := by simp [marks, h]
theorem wrap8 (k : Nat) : IntKind.u8.wrap (k : Int) = ((UInt8.ofNat (k % 256)).toNat : Int) := by
  simp [IntKind.wrap, IntKind.signed, IntKind.bits]
theorem marks_bt {k n i : Nat} (h : i < n) : bt (marks k n) i = IntKind.u8.wrap ((k + i : Nat) : Int) := by
  rw [wrap8]
  simp only [bt, Int.toNat_natCast, List.getD, marks_get h, Option.getD_some]
theorem r_mark {h : H} {v : V} {l : List UInt8} {ob : Option Nat} {k : Nat} (hv : Own h v l ob) (hl : k + l.length < 2 ^ 62) :
    ∃ h', call Ev Fn.laws_markByteS [v, iv .i64 k] h = some (iv .i64 ((k + l.length : Nat) : Int), h') ∧ Own h' v (marks k l.length) ob ∧ h'.n = h.n ∧ ∀ c, ob ≠ some c → h'.g c = h.g c ∧ h'.v c = h.v c := by
  cases ob with
  | none =>
    obtain ⟨rfl, rfl⟩ := hv
    refine ⟨h, ?_, ⟨rfl, rfl⟩, rfl, fun _ _ => ⟨rfl, rfl⟩⟩
    rw [eq_laws_markByteS, eq_laws_markByteS_l0]
    simp only [lenV, Option.bind_some, gV1_s, gI_i, vcase_b]
    simp
  | some b =>
    obtain ⟨rfl, hb, hg⟩ := hv
    obtain ⟨h', e1, e2, e3, e4⟩ := fill_rows (z := 1) (n := l.length) (b := b) (rows := bys (marks k l.length)) (L := fun i h => Lp.laws_markByteS 0 [sv b 0 l.length, iv .i64 (k + i), iv .i64 i] h) (fin := [iv .i64 ((k + l.length : Nat) : Int)]) (by simp [marks_len]) bys_row
      (fun i h r hr hi hb => by
        rw [bys_get (by rw [marks_len]; exact hi), marks_bt hi] at hr; cases hr
        refine ⟨iv .u8 (IntKind.u8.wrap ((k + i : Nat) : Int)), [sv b 0 l.length, iv .i64 ((k : Int) + ((i + 1 : Nat) : Int)), iv .i64 ((i + 1 : Nat) : Int)], .inl ⟨_, rfl, rfl, rfl⟩, ?_⟩
        show Lp.laws_markByteS 0 _ h = _
        rw [eq_laws_markByteS_l0]
        simp only [lenV, Option.bind_some, gV1_s, gI_i, vcase_b]
        rw [if_pos (by simp; omega), idxK_sv hi, w64 (by omega) (by omega), w64 (by omega) (by omega), show (i : Int) + 1 = ((i + 1 : Nat) : Int) from by omega, show (k : Int) + (i : Int) + 1 = (k : Int) + ((i + 1 : Nat) : Int) from by omega]
        rfl)
      (fun h => by
        show Lp.laws_markByteS 0 _ h = _
        rw [eq_laws_markByteS_l0]
        simp only [lenV, Option.bind_some, gV1_s, gI_i, vcase_b]
        rw [if_neg (by simp), tidy_self]
        rfl) h _ hb hg (by simp)
    rw [eq_laws_markByteS]
    rw [Int.add_zero] at e1
    rw [e1]
    exact ⟨h', rfl, ⟨by rw [marks_len], by rw [e2]; exact hb, by rw [e3, bys_flat]⟩, e2, fun c hc => e4 c (by intro e; subst e; exact hc rfl)⟩
theorem p_held {k n : Nat} (hl : k + n < 2 ^ 62) : pureV (call Ev) Fn.laws_heldByteS [lv (bys (marks k n)), iv .i64 k] = some (iv .i64 ((k + n : Nat) : Int)) := by
  have hlen := marks_len k n
  have loop : ∀ (q i : Nat), i + q = n → Lp.laws_heldByteS 0 [lv (bys (marks k n)), iv .i64 ((k + i : Nat) : Int), iv .i64 i] (D 0) = some (.done [iv .i64 ((k + n : Nat) : Int)] (D 0)) := by
    intro q
    induction q with
    | zero =>
      intro i hi
      rw [eq_laws_heldByteS_l0, vcase_b, bys_len, hlen, if_neg (by simp; omega), tidy_self, show k + i = k + n from by omega]
    | succ q ih =>
      intro i hi
      rw [eq_laws_heldByteS_l0, vcase_b, bys_len, hlen, if_pos (by simp; omega), idxF_by (by omega) (by omega), marks_bt (by omega)]
      simp only [List.getElem?_cons_zero, Option.bind_some, gI_i]
      rw [vcase_b, if_neg (by simp), w64 (by omega) (by omega), w64 (by omega) (by omega), tidy_self,
          show ((k + i : Nat) : Int) + 1 = ((k + (i + 1) : Nat) : Int) from by omega, show (i : Int) + 1 = ((i + 1 : Nat) : Int) from by omega]
      exact ih (i + 1) (by omega)
  rw [pu_laws_heldByteS, show iv .i64 0 = iv .i64 ((0 : Nat) : Int) from rfl, show iv .i64 (k : Int) = iv .i64 ((k + 0 : Nat) : Int) from rfl, loop n 0 (by omega)]
  simp
end Vm
/-
  A copy of bytes, as a call whose answer is new.
-/
namespace Vm
open Go

/-- an answer of new bytes that lie in a block -/
structure NewA (n : Nat) (h : H) (v : V) (l : List UInt8) : Prop where
  own : BysW h v l n
  le : h.n = n + 1
theorem NewA.nofz {n : Nat} {h : H} {v : V} {l : List UInt8} (w : NewA n h v l) : NoFz n (v, h) := by
  refine nofz_of ?_ fun b h1 h2 s hs => ?_
  · rw [w.own.v]; rfl
  · have : b = n := by have := w.le; omega
    subst this
    rw [w.own.g] at hs
    obtain ⟨c, _, rfl⟩ := List.mem_map.1 hs
    rfl
theorem f_toByteS {l : List UInt8} (hl : l.length ≤ lim) (n : Nat) : ∃ v h', call Ev Fn.laws_toByteS [lv (bys l)] (D n) = some (v, h') ∧ NewA n h' v l := by
  have hl' := hl
  unfold lim at hl'
  rw [eq_laws_toByteS, bys_len, mkSl_of (z := 1) (zero := [.int .u8 0]) hl (by omega) rfl, ob]
  obtain ⟨h', e1, e2, e3, e4⟩ := fill_rows (z := 1) (n := l.length) (b := n) (rows := bys l) (L := fun i h => Lp.laws_toByteS 0 [lv (bys l), sv n 0 l.length, iv .i64 i] h) (fin := [sv n 0 l.length]) (by simp) bys_row
    (fun i h r hr hi hb => by
      rw [bys_get hi] at hr; cases hr
      refine ⟨iv .u8 (bt l i), [lv (bys l), sv n 0 l.length, iv .i64 ((i + 1 : Nat) : Int)], .inl ⟨_, rfl, rfl, rfl⟩, ?_⟩
      show Lp.laws_toByteS 0 _ h = _
      rw [eq_laws_toByteS_l0, vcase_b, if_pos (by simp; omega), idxF_by (by omega) (by omega)]
      simp only [gx0, ob, gI_i]
      rw [idxK_sv hi, w64 (by omega) (by omega), show (i : Int) + 1 = ((i + 1 : Nat) : Int) from by omega])
    (fun h => by
      show Lp.laws_toByteS 0 _ h = _
      rw [eq_laws_toByteS_l0, vcase_b, if_neg (by simp), tidy_self])
    ((D n).new 1 ((List.replicate l.length [.int .u8 0]).flatten)) _ (by simp) (by exact new_g (D n) _ _) (repl_len rfl)
  rw [D_n, e1]
  simp only [ob, lcase_done, gx0]
  exact ⟨_, _, rfl, ⟨rfl, by rw [e2]; simp, by rw [e3, bys_flat]⟩, by rw [e2]; simp⟩
theorem p_toByteS {l : List UInt8} (hl : l.length ≤ lim) : pureV (call Ev) Fn.laws_toByteS [lv (bys l)] = some (lv (bys l)) := by
  obtain ⟨v, h', e, w⟩ := f_toByteS hl 0
  unfold pureV
  rw [e, ob, frz1 (ob := some 0) w.own]
end Vm
/-
  Bytes appended and copied; results of a code and bytes: compared, marked, found again.
-/
namespace Vm
open Go

theorem cellsS_by {h : H} {m : List UInt8} : cellsS 1 h (lv (bys m)) = some (m.map cell8) := by
  simp only [cellsS, if_pos (show ∀ r ∈ bys m, r.length = 1 from bys_row), bys_flat]
theorem cellsS_w {h : H} {v : V} {l : List UInt8} {b : Nat} (w : BysW h v l b) : cellsS 1 h v = some (l.map cell8) := by
  have hc : h.cells b = l.map cell8 := by unfold H.cells; rw [if_pos w.n, w.g]; rfl
  rw [w.v]
  simp only [cellsS, hc]
  rw [if_pos ⟨w.n, by simp⟩, List.drop_zero, List.take_of_length_le (by simp)]
/-- bytes behind bytes that are one's own -/
theorem app_by {h : H} {v : V} {l m : List UInt8} {b : Nat} (w : BysW h v l b) (hm : l.length + m.length ≤ lim) :
    appS 1 h v (lv (bys m)) = some (sv h.n 0 (l ++ m).length, (h.put b .dead).new 1 ((l ++ m).map cell8)) := by
  have h1 := cellsS_w w
  obtain ⟨rfl, w2, w3⟩ := w
  simp only [appS, h1, cellsS_by, Option.bind_some, lenS, bys_len]
  rw [if_pos ⟨w2, hm, by omega⟩, w3]
  simp
theorem app_own {h : H} {l m : List UInt8} {b : Nat} : BysW ((h.put b .dead).new 1 ((l ++ m).map cell8)) (sv h.n 0 (l ++ m).length) (l ++ m) h.n := ⟨rfl, by simp, new_g (h.put b .dead) _ _⟩
/-- the copy of bytes that begins with nothing -/
theorem app_nil {h : H} {m : List UInt8} (hm : m.length ≤ lim) : appS 1 (h.new 1 []) (sv h.n 0 0) (lv (bys m)) = some (sv (h.n + 1) 0 m.length, ((h.new 1 []).put h.n .dead).new 1 (m.map cell8)) := by
  have := app_by (h := h.new 1 []) (v := sv h.n 0 0) (l := []) (m := m) (b := h.n) ⟨rfl, by simp, by simp⟩ (by simpa using hm)
  simpa using this
theorem f_copied {m : List UInt8} (hm : m.length ≤ lim) (n : Nat) : ∃ v h', call Ev Fn.impl_copied [lv (bys m)] (D n) = some (v, h') ∧ NewB n h' v m (some (n + 1)) ∧ h'.n = n + 2 := by
  rw [eq_impl_copied, app_nil hm, ob]
  refine ⟨_, _, rfl, ⟨⟨rfl, by simp, ?_⟩, by simp; omega, fun b hb => by cases hb; omega, fun b h1 h2 s hs => ?_⟩, by simp⟩
  · exact new_g (((D n).new 1 []).put n .dead) _ _
  · have h3 : b = n ∨ b = n + 1 := by simp at h2; omega
    rcases h3 with rfl | rfl
    · rw [new_g' (by simp)] at hs
      simp [Blk.cells] at hs
    · have e : ((((D n).new 1 []).put (D n).n .dead).new 1 (m.map cell8)).g (n + 1) = .rw 1 (m.map cell8) := new_g (((D n).new 1 []).put n .dead) _ _
      dsimp only at hs
      rw [e] at hs
      obtain ⟨c, _, rfl⟩ := List.mem_map.1 hs
      rfl

theorem tidy_but {h h' : H} {o : Option Nat} {n : Int} (hn : h.n ≤ h'.n) (hg : ∀ c, c < h.n → o ≠ some c → h'.g c = h.g c ∧ h'.v c = h.v c) (hc : ∀ b, o = some b → (h'.g b).cells.all (belS h.n) = true) :
    (tidy h [iv .i64 n] h').n = h.n ∧ ∀ c, c < h.n → (tidy h [iv .i64 n] h').g c = h'.g c := by
  unfold tidy
  rw [if_pos]
  · exact ⟨rfl, fun c hc => by simp [hc]⟩
  · refine ⟨hn, by simp [belV, belS], fun b hb => ?_⟩
    by_cases ho : o = some b
    · exact .inr (hc b ho)
    · exact .inl (hg b hb ho)
theorem cell8_bel {n : Nat} (l : List UInt8) : (l.map cell8).all (belS n) = true := by
  rw [List.all_eq_true]
  intro s hs
  obtain ⟨c, _, rfl⟩ := List.mem_map.1 hs
  rfl
end Vm
/-
  What is one's own in a stretch of blocks: kept when other blocks change.
-/
namespace Vm
open Go
/-- a fact on the blocks from lo to hi alone -/
structure Sep (Q : H → Prop) (lo hi : Nat) (h : H) : Prop where
  top : hi ≤ h.n
  q : ∀ h' : H, hi ≤ h'.n → (∀ b, lo ≤ b → b < hi → h'.g b = h.g b) → Q h'
/-- all but the blocks from lo to hi as it was -/
structure ButR (lo hi : Nat) (h h' : H) : Prop where
  n : h'.n = h.n
  g : ∀ c, (c < lo ∨ hi ≤ c) → h'.g c = h.g c
section
variable {Q : H → Prop} {lo hi : Nat} {h h' : H}
theorem Sep.now (w : Sep Q lo hi h) : Q h := w.q h w.top fun _ _ _ => rfl
theorem Sep.up (w : Sep Q lo hi h) (u : Up h h') : Sep Q lo hi h' := ⟨Nat.le_trans w.top u.n, fun h2 hn hg => w.q h2 hn fun b h1 h3 => (hg b h1 h3).trans (u.g b (by have := w.top; omega))⟩
theorem Sep.but {a b : Nat} (w : Sep Q lo hi h) (u : ButR a b h h') (hd : hi ≤ a ∨ b ≤ lo) : Sep Q lo hi h' := ⟨by rw [u.n]; exact w.top, fun h2 hn hg => w.q h2 hn fun c h1 h3 => (hg c h1 h3).trans (u.g c (by omega))⟩
theorem Sep.over {h1 : H} {hi : Nat} {n : Nat} (hn : n = h.n) (hl : h.n ≤ h1.n) (w : Sep Q n hi h1) : Sep Q n hi (h.over h1) := by
  subst hn
  exact ⟨by rw [over_n hl]; exact w.top, fun h2 hn hg => w.q h2 hn fun b h1 h3 => (hg b h1 h3).trans (over_ge h1)⟩
theorem Sep.mono {lo' hi' : Nat} (w : Sep Q lo hi h) (h1 : lo' ≤ lo) (h2 : hi ≤ hi') (h3 : hi' ≤ h.n) : Sep Q lo' hi' h := ⟨h3, fun h' hn hg => w.q h' (by omega) fun b a b' => hg b (by omega) (by omega)⟩
end
/-- what stands in one block -/
def At (b : Nat) (x : Blk) (h : H) : Prop := b < h.n ∧ h.g b = x
theorem Sep.at {h : H} {b : Nat} {x : Blk} (hb : b < h.n) (hg : h.g b = x) : Sep (At b x) b (b + 1) h := ⟨hb, fun h' hn hg' => ⟨by omega, by rw [hg' b (Nat.le_refl _) (by omega), hg]⟩⟩
/-- bytes in a stretch of blocks -/
def OwnB (v : V) (l : List UInt8) (lo hi : Nat) (h : H) : Prop := ∃ ob, Own h v l ob ∧ ∀ b, ob = some b → lo ≤ b ∧ b < hi
theorem OwnB.sep {v : V} {l : List UInt8} {lo hi : Nat} {h : H} (w : OwnB v l lo hi h) (hn : hi ≤ h.n) : Sep (OwnB v l lo hi) lo hi h := ⟨hn, fun h' hn' hg => by
  obtain ⟨ob, h1, h2⟩ := w
  refine ⟨ob, ?_, h2⟩
  cases ob with
  | none => exact h1
  | some b =>
    have := h2 b rfl
    exact ⟨h1.v, by omega, by rw [hg b this.1 this.2]; exact h1.g⟩⟩
theorem OwnB.frz {v : V} {l : List UInt8} {lo hi : Nat} {h : H} (w : OwnB v l lo hi h) : frzV h v = some (lv (bys l)) := by
  obtain ⟨ob, h1, _⟩ := w
  exact frz1 h1
/-- the answer of a call on a dead heap -/
structure NewS (Q : Nat → Nat → H → Prop) (v : V) (n : Nat) (h : H) : Prop where
  le : n ≤ h.n
  q : Sep (Q n h.n) n h.n h
  z : NoFz n (v, h)
theorem NewA.s {n : Nat} {h : H} {v : V} {l : List UInt8} (w : NewA n h v l) : NewS (OwnB v l) v n h := by
  have := w.le
  exact ⟨by omega, OwnB.sep ⟨some n, w.own, fun b hb => by cases hb; omega⟩ (Nat.le_refl _), w.nofz⟩
theorem NewB.s {n : Nat} {h : H} {v : V} {l : List UInt8} {o : Option Nat} (w : NewB n h v l o) : Sep (OwnB v l n h.n) n h.n h := by
  refine OwnB.sep ⟨o, w.own, fun b hb => ⟨w.new b hb, ?_⟩⟩ (Nat.le_refl _)
  subst hb
  exact w.own.n
/-- a call with a new answer -/
theorem pN {R : Type} {Q : Nat → Nat → H → Prop} {cl : Nat → List V → H → Option (V × H)} {g : Nat} {off : Bool} {xs : List V} {h : H} {n : Nat} {v : V} {h1 : H} {k : V → H → Option R} (hn : h.n = n) (hc : cl g xs (D n) = some (v, h1)) (w : NewS Q v n h1) :
    ∃ h', pcallF cl g off xs h k = k v h' ∧ Up h h' ∧ n ≤ h'.n ∧ Sep (Q n h'.n) n h'.n h' := by
  subst hn
  refine ⟨h.over h1, pF hc w.z, up_over w.le, ?_, ?_⟩
  · rw [over_n w.le]; exact w.le
  · have := Sep.over rfl w.le w.q
    rwa [over_n w.le]
/-- marked bytes -/
theorem OwnB.mark {h : H} {v : V} {l : List UInt8} {lo hi k : Nat} (w : Sep (OwnB v l lo hi) lo hi h) (hl : k + l.length < 2 ^ 62) :
    ∃ p, call Ev Fn.laws_markByteS [v, iv .i64 k] h = some (iv .i64 ((k + l.length : Nat) : Int), p) ∧ Sep (OwnB v (marks k l.length) lo hi) lo hi (tidy h [iv .i64 ((k + l.length : Nat) : Int)] p) ∧ ButR lo hi h (tidy h [iv .i64 ((k + l.length : Nat) : Int)] p) := by
  obtain ⟨ob, h1, h2⟩ := w.now
  obtain ⟨p, e1, e2, e3, e4⟩ := r_mark (k := k) h1 hl
  have t : tidy h [iv .i64 ((k + l.length : Nat) : Int)] p = p := tidy_same e3 fun c hc => e4 c (fun hh => by have := h2 c hh; have := w.top; omega)
  refine ⟨p, e1, ?_, ?_⟩
  · rw [t]; exact OwnB.sep ⟨ob, e2, h2⟩ (by rw [e3]; exact w.top)
  · rw [t]
    refine ⟨e3, fun c hc => (e4 c (fun hh => ?_)).1⟩
    have := h2 c hh
    omega
/-- from one block's change to a stretch's -/
theorem But.r {h h' : H} {ob : Option Nat} {lo hi : Nat} (u : But ob h h') (h2 : ∀ b, ob = some b → lo ≤ b ∧ b < hi) : ButR lo hi h h' := ⟨u.n, fun c hc => u.g c (fun hh => by have := h2 c hh; omega)⟩

/-! results of a code and bytes, and of a code, a number and bytes -/
theorem NewB.s2 {n : Nat} {h : H} {y : S} {l : List UInt8} {o : Option Nat} {c : Int} (w : NewB n h (.s y) l o) : NewS (OwnB (.s y) l) (.agg [.int .i64 c, y]) n h :=
  ⟨w.le, w.s, ⟨by simp [w.own.sca], w.z⟩⟩
theorem OwnB.frz2 {y : S} {l : List UInt8} {lo hi : Nat} {h : H} {c : Int} (w : OwnB (.s y) l lo hi h) : frzV h (.agg [.int .i64 c, y]) = some (.agg [.int .i64 c, .fs (bys l)]) := by
  obtain ⟨ob, h1, _⟩ := w
  exact Vm.frz2 h1
/-- the same answer, frozen -/
theorem NewS.p {Q : Nat → Nat → H → Prop} {f : Nat} {xs : List V} {h : H} {v w : V} (hc : call Ev f xs (D 0) = some (v, h)) (hq : NewS Q v 0 h) (hf : Q 0 h.n h → frzV h v = some w) : pureV (call Ev) f xs = some w := by
  unfold pureV
  rw [hc, Vm.ob, hf hq.q.now]
end Vm
/-
  Live values of any depth: what they are once frozen, and which blocks they lie in.
-/
namespace Vm
open Go
/-- a cell that leads nowhere, and is not frozen -/
def Sc : S → Prop
  | .int _ _ => True
  | .bool _ => True
  | .str _ => True
  | _ => False
theorem Sc.cl {s : S} (h : Sc s) : Cl s := by cases s <;> first | exact h.elim | exact cl_i | exact cl_b | exact cl_s
theorem Sc.sca {s : S} (h : Sc s) : scaS s = true := by cases s <;> first | exact h.elim | rfl
theorem Sc.no {s : S} (h : Sc s) : isNo s = false := by cases s <;> first | exact h.elim | rfl
inductive RepL (R : S → S → List Nat → Prop) : List S → List S → List Nat → Prop
  | nil : RepL R [] [] []
  | cons {y f : S} {bs : List Nat} {ys fs : List S} {bss : List Nat} : R y f bs → RepL R ys fs bss → RepL R (y :: ys) (f :: fs) (bs ++ bss)
def Rep (h : H) : Nat → S → S → List Nat → Prop
  | 0 => fun y f bs => (Sc y ∧ f = y ∨ y = .sl none 0 ∧ f = .fs []) ∧ bs = []
  | d + 1 => fun y f bs => ((Sc y ∧ f = y ∨ y = .sl none 0 ∧ f = .fs []) ∧ bs = []) ∨ ∃ b z cs rows bss, y = .sl (some (b, 0)) rows.length ∧ f = .fs rows ∧ bs = b :: bss ∧ b < h.n ∧ 0 < z ∧ h.g b = .rw z cs ∧ (∀ r ∈ rows, r.length = z) ∧ RepL (Rep h d) cs rows.flatten bss
section
variable {R R' : S → S → List Nat → Prop}
theorem RepL.mono {cs fs : List S} {bss : List Nat} (w : RepL R cs fs bss) (hr : ∀ y f bs, (∀ b ∈ bs, b ∈ bss) → R y f bs → R' y f bs) : RepL R' cs fs bss := by
  induction w with
  | nil => exact .nil
  | @cons y f bs ys fs bss h1 h2 ih => exact .cons (hr _ _ _ (fun b hb => by simp [hb]) h1) (ih fun y f bs hb => hr y f bs fun b hh => by simp [hb b hh])
theorem RepL.len {cs fs : List S} {bss : List Nat} (w : RepL R cs fs bss) : cs.length = fs.length := by
  induction w with
  | nil => rfl
  | cons h1 h2 ih => simp [ih]
theorem RepL.append {cs fs cs' fs' : List S} {bss bss' : List Nat} (w : RepL R cs fs bss) (w' : RepL R cs' fs' bss') : RepL R (cs ++ cs') (fs ++ fs') (bss ++ bss') := by
  induction w with
  | nil => exact w'
  | cons h1 h2 ih => rw [List.cons_append, List.cons_append, List.append_assoc]; exact .cons h1 ih
theorem RepL.split : ∀ {fs fs' : List S} {cs : List S} {bss : List Nat}, RepL R cs (fs ++ fs') bss → ∃ a a' b b', cs = a ++ a' ∧ bss = b ++ b' ∧ RepL R a fs b ∧ RepL R a' fs' b'
  | [], fs', cs, bss, w => ⟨[], cs, [], bss, rfl, rfl, .nil, w⟩
  | f :: fs, fs', cs, bss, w => by
    cases w with
    | @cons y f bs ys fs bss h1 h2 =>
      obtain ⟨a, a', b, b', rfl, rfl, w1, w2⟩ := RepL.split h2
      exact ⟨y :: a, a', bs ++ b, b', rfl, by simp, .cons h1 w1, w2⟩
end
section
variable {h h' : H}
theorem Rep.sc {d : Nat} {s : S} (hs : Sc s) : Rep h d s s [] := by
  cases d with
  | zero => exact ⟨.inl ⟨hs, rfl⟩, rfl⟩
  | succ d => exact .inl ⟨.inl ⟨hs, rfl⟩, rfl⟩
theorem Rep.nil {d : Nat} : Rep h d (.sl none 0) (.fs []) [] := by
  cases d with
  | zero => exact ⟨.inr ⟨rfl, rfl⟩, rfl⟩
  | succ d => exact .inl ⟨.inr ⟨rfl, rfl⟩, rfl⟩
theorem Rep.sl {d b z : Nat} {cs : List S} {rows : List (List S)} {bss : List Nat} (hb : b < h.n) (hz : 0 < z) (hg : h.g b = .rw z cs) (hr : ∀ r ∈ rows, r.length = z) (w : RepL (Rep h d) cs rows.flatten bss) : Rep h (d + 1) (.sl (some (b, 0)) rows.length) (.fs rows) (b :: bss) :=
  .inr ⟨b, z, cs, rows, bss, rfl, rfl, rfl, hb, hz, hg, hr, w⟩
theorem RepL.sc {d : Nat} : ∀ {l : List S}, (∀ s ∈ l, Sc s) → RepL (Rep h d) l l []
  | [], _ => .nil
  | s :: l, hl => RepL.cons (bs := []) (Rep.sc (hl s (by simp))) (RepL.sc fun s hs => hl s (by simp [hs]))
theorem Rep.of_sc {d : Nat} {y f : S} {bs : List Nat} (w : Rep h d y f bs) (hf : Sc f) : y = f ∧ bs = [] := by
  cases d with
  | zero =>
    obtain ⟨⟨h1, rfl⟩ | ⟨rfl, rfl⟩, rfl⟩ := w
    · exact ⟨rfl, rfl⟩
    · exact hf.elim
  | succ d =>
    obtain ⟨⟨h1, rfl⟩ | ⟨rfl, rfl⟩, rfl⟩ | ⟨b, z, cs, rows, bss, rfl, rfl, rfl, h1⟩ := w
    · exact ⟨rfl, rfl⟩
    · exact hf.elim
    · exact hf.elim
theorem RepL.of_sc {d : Nat} : ∀ {cs fs : List S} {bss : List Nat}, RepL (Rep h d) cs fs bss → (∀ s ∈ fs, Sc s) → cs = fs ∧ bss = []
  | _, _, _, .nil, _ => ⟨rfl, rfl⟩
  | _, _, _, .cons h1 h2, hs => by
    obtain ⟨rfl, rfl⟩ := Rep.of_sc h1 (hs _ (by simp))
    obtain ⟨rfl, rfl⟩ := RepL.of_sc h2 fun s hs' => hs s (by simp [hs'])
    exact ⟨rfl, rfl⟩
theorem Rep.frame : ∀ {d : Nat} {y f : S} {bs : List Nat}, Rep h d y f bs → (∀ b ∈ bs, b < h'.n ∧ h'.g b = h.g b) → Rep h' d y f bs
  | 0, y, f, bs, w, _ => w
  | d + 1, y, f, bs, w, hb => by
    rcases w with w | ⟨b, z, cs, rows, bss, rfl, rfl, rfl, h1, h2, h3, h4, h5⟩
    · exact .inl w
    · have := hb b (by simp)
      exact .inr ⟨b, z, cs, rows, bss, rfl, rfl, rfl, this.1, h2, this.2.trans h3, h4, h5.mono fun y f bs hs w => Rep.frame w fun b' hb' => hb b' (by simp [hs b' hb'])⟩
theorem RepL.frame {d : Nat} {cs fs : List S} {bss : List Nat} (w : RepL (Rep h d) cs fs bss) (hb : ∀ b ∈ bss, b < h'.n ∧ h'.g b = h.g b) : RepL (Rep h' d) cs fs bss :=
  w.mono fun y f bs hs w => w.frame fun b hbb => hb b (hs b hbb)
theorem Rep.lift : ∀ {d : Nat} {y f : S} {bs : List Nat}, Rep h d y f bs → Rep h (d + 1) y f bs
  | 0, y, f, bs, w => .inl w
  | d + 1, y, f, bs, w => by
    rcases w with w | ⟨b, z, cs, rows, bss, rfl, rfl, rfl, h1, h2, h3, h4, h5⟩
    · exact .inl w
    · exact .inr ⟨b, z, cs, rows, bss, rfl, rfl, rfl, h1, h2, h3, h4, h5.mono fun y f bs hs w => w.lift⟩
theorem Rep.lifts {d k : Nat} {y f : S} {bs : List Nat} (w : Rep h d y f bs) (hd : d ≤ k) : Rep h k y f bs := by
  obtain ⟨j, rfl⟩ := Nat.exists_eq_add_of_le hd
  induction j with
  | zero => exact w
  | succ j ih => exact (ih (by omega)).lift
theorem RepL.lifts {d k : Nat} {cs fs : List S} {bss : List Nat} (w : RepL (Rep h d) cs fs bss) (hd : d ≤ k) : RepL (Rep h k) cs fs bss := w.mono fun y f bs _ w => w.lifts hd
theorem Rep.lt : ∀ {d : Nat} {y f : S} {bs : List Nat}, Rep h d y f bs → ∀ b ∈ bs, b < h.n
  | 0, y, f, bs, w => by obtain ⟨_, rfl⟩ := w; simp
  | d + 1, y, f, bs, w => by
    rcases w with ⟨_, rfl⟩ | ⟨b, z, cs, rows, bss, rfl, rfl, rfl, h1, h2, h3, h4, h5⟩
    · simp
    · intro c hc
      rcases List.mem_cons.1 hc with rfl | hc
      · exact h1
      · clear h3 h4
        generalize rows.flatten = fl at h5
        induction h5 with
        | nil => simp at hc
        | cons w1 w2 ih =>
          rcases List.mem_append.1 hc with hc | hc
          · exact w1.lt _ hc
          · exact ih (by simp [hc]) hc
theorem RepL.lt {d : Nat} {cs fs : List S} {bss : List Nat} (w : RepL (Rep h d) cs fs bss) : ∀ b ∈ bss, b < h.n := by
  induction w with
  | nil => simp
  | cons w1 w2 ih =>
    intro c hc
    rcases List.mem_append.1 hc with hc | hc
    · exact w1.lt _ hc
    · exact ih _ hc
theorem Rep.sca {d : Nat} {y f : S} {bs : List Nat} (w : Rep h d y f bs) : scaS y = true := by
  cases d with
  | zero =>
    obtain ⟨⟨h1, rfl⟩ | ⟨rfl, rfl⟩, rfl⟩ := w
    · exact h1.sca
    · rfl
  | succ d =>
    obtain ⟨⟨h1, rfl⟩ | ⟨rfl, rfl⟩, rfl⟩ | ⟨b, z, cs, rows, bss, rfl, rfl, rfl, h1⟩ := w
    · exact h1.sca
    · rfl
    · rfl
theorem Rep.isNo {d : Nat} {y f : S} {bs : List Nat} (w : Rep h d y f bs) : isNo y = false := by
  cases d with
  | zero =>
    obtain ⟨⟨h1, rfl⟩ | ⟨rfl, rfl⟩, rfl⟩ := w
    · exact h1.no
    · rfl
  | succ d =>
    obtain ⟨⟨h1, rfl⟩ | ⟨rfl, rfl⟩, rfl⟩ | ⟨b, z, cs, rows, bss, rfl, rfl, rfl, h1⟩ := w
    · exact h1.no
    · rfl
    · rfl
/-- what it is once frozen -/
theorem Rep.frz : ∀ {d k : Nat} {y f : S} {bs : List Nat}, Rep h d y f bs → d ≤ k → frzS h k y = some f
  | 0, k, y, f, bs, w, _ => by
    obtain ⟨⟨h1, rfl⟩ | ⟨rfl, rfl⟩, rfl⟩ := w
    · exact h1.cl h k
    · exact frz_n
  | d + 1, 0, y, f, bs, w, hk => by omega
  | d + 1, k + 1, y, f, bs, w, hk => by
    rcases w with ⟨⟨h1, rfl⟩ | ⟨rfl, rfl⟩, rfl⟩ | ⟨b, z, cs, rows, bss, rfl, rfl, rfl, h1, h2, h3, h4, h5⟩
    · exact h1.cl h (k + 1)
    · exact frz_n
    · have hl := flat_len h4
      have hc := h5.len
      have hm : mapO (frzS h k) cs = some rows.flatten := by
        clear h3 h4 hl hc
        generalize rows.flatten = fl at h5
        induction h5 with
        | nil => rfl
        | cons w1 w2 ih => simp only [mapO, Rep.frz w1 (show d ≤ k by omega), ih, Option.bind_some]
      simp only [frzS]
      split
      · rename_i h0; rw [List.eq_nil_of_length_eq_zero h0]
      · rw [h3]
        simp only
        rw [if_pos ⟨h2, by omega⟩, List.drop_zero, List.take_of_length_le (by omega), hm]
        simp [chunk_rows h4]
theorem RepL.mapO {d k : Nat} {cs fs : List S} {bss : List Nat} (w : RepL (Rep h d) cs fs bss) (hd : d ≤ k) : Vm.mapO (frzS h k) cs = some fs := by
  induction w with
  | nil => rfl
  | cons w1 w2 ih => simp only [Vm.mapO, w1.frz hd, ih, Option.bind_some]
end
/-- bytes -/
theorem bys_sc {l : List UInt8} : ∀ s ∈ (bys l).flatten, Sc s := by
  rw [bys_flat]
  intro s hs
  obtain ⟨c, _, rfl⟩ := List.mem_map.1 hs
  trivial
theorem Rep.of_bys {h : H} {d : Nat} {y : S} {l : List UInt8} {bs : List Nat} (w : Rep h (d + 1) y (.fs (bys l)) bs) : (l = [] ∧ ∃ o, y = .sl o 0) ∨ ∃ b, BysW h (.s y) l b ∧ bs = [b] := by
  rcases w with ⟨⟨h1, rfl⟩ | ⟨rfl, h2⟩, rfl⟩ | ⟨b, z, cs, rows, bss, rfl, h0, rfl, h1, h2, h3, h4, h5⟩
  · exact h1.elim
  · injection h2 with h2
    exact .inl ⟨List.eq_nil_of_length_eq_zero (by simpa using congrArg List.length h2), _, rfl⟩
  · injection h0 with h0
    subst h0
    obtain ⟨rfl, rfl⟩ := h5.of_sc bys_sc
    by_cases hl : l = []
    · subst hl; exact .inl ⟨rfl, _, rfl⟩
    · refine .inr ⟨b, ⟨by simp, h1, ?_⟩, rfl⟩
      have hh : (bys l) ≠ [] := by simp [bys, hl]
      have h6 := h4 _ (List.head_mem hh)
      have h7 : ((bys l).head hh).length = 1 := bys_row _ (List.head_mem hh)
      rw [h3, bys_flat, ← h6, h7]
theorem Own.rep {h : H} {d : Nat} {y : S} {l : List UInt8} {ob : Option Nat} (h1 : Own h (.s y) l ob) : Rep h (d + 1) y (.fs (bys l)) ob.toList := by
  cases ob with
  | none => obtain ⟨h1, rfl⟩ := h1; cases h1; exact Rep.nil
  | some b =>
    have hv := h1.v
    injection hv with hv
    subst hv
    have := Rep.sl (d := d) (h := h) (b := b) (z := 1) (rows := bys l) (bss := []) h1.n (by omega) (by rw [bys_flat]; exact h1.g) bys_row (RepL.sc (by exact bys_sc))
    rwa [bys_len] at this
/-- a value of one's own in a stretch of blocks -/
def OwnF (d : Nat) (y f : S) (lo hi : Nat) (h : H) : Prop := ∃ bs, Rep h d y f bs ∧ bs.Nodup ∧ ∀ b ∈ bs, lo ≤ b ∧ b < hi
theorem OwnF.sep {d : Nat} {y f : S} {lo hi : Nat} {h : H} (w : OwnF d y f lo hi h) (hn : hi ≤ h.n) : Sep (OwnF d y f lo hi) lo hi h := ⟨hn, fun h' hn' hg => by
  obtain ⟨bs, h1, h2, h3⟩ := w
  exact ⟨bs, h1.frame fun b hb => ⟨by have := h3 b hb; omega, hg b (h3 b hb).1 (h3 b hb).2⟩, h2, h3⟩⟩
theorem OwnF.frz {d : Nat} {y f : S} {lo hi : Nat} {h : H} (w : OwnF d y f lo hi h) (hd : d ≤ 8 := by omega) : frzV h (.s y) = some (.s f) := by
  obtain ⟨bs, h1, _⟩ := w
  simp only [frzV, h1.frz hd, Vm.ob]
theorem OwnB.f {d : Nat} {y : S} {l : List UInt8} {lo hi : Nat} {h : H} (w : OwnB (.s y) l lo hi h) : OwnF (d + 1) y (.fs (bys l)) lo hi h := by
  obtain ⟨ob, h1, h2⟩ := w
  refine ⟨ob.toList, h1.rep, ?_, fun b hb => h2 b (by simpa using hb)⟩
  cases ob <;> simp
/-- marked bytes -/
theorem Rep.mark {h : H} {d : Nat} {y : S} {l : List UInt8} {bs : List Nat} {k : Nat} (w : Rep h (d + 1) y (.fs (bys l)) bs) (hl : k + l.length < 2 ^ 62) :
    ∃ h', call Ev Fn.laws_markByteS [.s y, iv .i64 k] h = some (iv .i64 ((k + l.length : Nat) : Int), h') ∧ Rep h' (d + 1) y (.fs (bys (marks k l.length))) bs ∧ h'.n = h.n ∧ ∀ c, c ∉ bs → h'.g c = h.g c ∧ h'.v c = h.v c := by
  rcases w.of_bys with ⟨rfl, o, rfl⟩ | ⟨b, w1, rfl⟩
  · refine ⟨h, ?_, w, rfl, fun _ _ => ⟨rfl, rfl⟩⟩
    rw [eq_laws_markByteS, eq_laws_markByteS_l0]
    simp only [lenV, Option.bind_some, gV1_s, gI_i, vcase_b]
    simp
  · obtain ⟨h', e1, e2, e3, e4⟩ := r_mark (k := k) (ob := some b) w1 hl
    exact ⟨h', e1, Own.rep (ob := some b) e2, e3, fun c hc => e4 c (by simpa using fun hh => hc (by simp [hh]))⟩

/-! loops that mark the rows of a slice -/
section
variable {α : Type} (cs : α → List S) (mk : Nat → α → α) (sz : α → Nat)
def mkAll : Nat → List α → List α
  | _, [] => []
  | k, a :: xs => mk k a :: mkAll (k + sz a) xs
def szAll : List α → Nat
  | [] => 0
  | a :: xs => sz a + szAll xs
theorem mkAll_len : ∀ (k : Nat) (xs : List α), (mkAll mk sz k xs).length = xs.length
  | _, [] => rfl
  | k, a :: xs => by simp [mkAll, mkAll_len]
/-- one round: the row in its place is marked -/
def MarkStep (z b d : Nat) (L : Nat → Nat → H → Option LOut) : Prop := ∀ (i k : Nat) (a : α) (h : H) (pre ys post : List S) (bs : List Nat), pre.length = i * z → ys.length = z → k + sz a < 2 ^ 62 → b < h.n →
  h.g b = .rw z (pre ++ ys ++ post) → RepL (Rep h d) ys (cs a) bs → bs.Nodup → b ∉ bs →
  ∃ h' ys', L k i h = L (k + sz a) (i + 1) h' ∧ h'.n = h.n ∧ ys'.length = z ∧ h'.g b = .rw z (pre ++ ys' ++ post) ∧ RepL (Rep h' d) ys' (cs (mk k a)) bs ∧ ∀ c, c ≠ b → c ∉ bs → h'.g c = h.g c ∧ h'.v c = h.v c
variable {cs mk sz}
theorem mark_loop {z b d : Nat} {L : Nat → Nat → H → Option LOut} {n : Nat} {fin : Nat → List V} (step : ∀ (i k : Nat) (a : α) (h : H) (pre ys post : List S) (bs : List Nat), i < n → pre.length = i * z → ys.length = z → k + sz a < 2 ^ 62 → b < h.n →
    h.g b = .rw z (pre ++ ys ++ post) → RepL (Rep h d) ys (cs a) bs → bs.Nodup → b ∉ bs →
    ∃ h' ys', L k i h = L (k + sz a) (i + 1) h' ∧ h'.n = h.n ∧ ys'.length = z ∧ h'.g b = .rw z (pre ++ ys' ++ post) ∧ RepL (Rep h' d) ys' (cs (mk k a)) bs ∧ ∀ c, c ≠ b → c ∉ bs → h'.g c = h.g c ∧ h'.v c = h.v c)
    (last : ∀ k h, L k n h = some (.done (fin k) h)) :
    ∀ (xs : List α) (i k : Nat) (h : H) (pre ys : List S) (bs : List Nat), (∀ a ∈ xs, (cs a).length = z) → i + xs.length = n → pre.length = i * z → k + szAll sz xs < 2 ^ 62 → b < h.n → h.g b = .rw z (pre ++ ys) → RepL (Rep h d) ys (xs.map cs).flatten bs → bs.Nodup → b ∉ bs →
    ∃ h' ys', L k i h = some (.done (fin (k + szAll sz xs)) h') ∧ h'.n = h.n ∧ h'.g b = .rw z (pre ++ ys') ∧ RepL (Rep h' d) ys' ((mkAll mk sz k xs).map cs).flatten bs ∧ ∀ c, c ≠ b → c ∉ bs → h'.g c = h.g c ∧ h'.v c = h.v c
  | [], i, k, h, pre, ys, bs, hz, hi, hp, hk, hb, hg, w, hd, hn => by
    obtain rfl : i = n := by simpa using hi
    refine ⟨h, ys, ?_, rfl, hg, ?_, fun _ _ _ => ⟨rfl, rfl⟩⟩
    · rw [last]; rfl
    · exact w
  | a :: xs, i, k, h, pre, ys, bs, hz, hi, hp, hk, hb, hg, w, hd, hn => by
    simp only [List.map_cons, List.flatten_cons] at w
    obtain ⟨y1, y2, b1, b2, rfl, rfl, w1, w2⟩ := w.split
    have hza := hz a (by simp)
    simp only [szAll] at hk
    simp only [List.length_cons] at hi
    have hd' := List.nodup_append.1 hd
    obtain ⟨h1, ys1, e1, n1, l1, g1, r1, o1⟩ := step i k a h pre y1 y2 b1 (by omega) hp (w1.len.trans hza) (by omega) hb (by rw [hg, List.append_assoc]) w1 hd'.1 (fun hh => hn (by simp [hh]))
    have w2' : RepL (Rep h1 d) y2 (xs.map cs).flatten b2 := w2.frame fun c hc => by
      have hcb : c ≠ b := fun hh => hn (by simp [← hh, hc])
      exact ⟨by rw [n1]; exact w2.lt c hc, (o1 c hcb fun hh => hd'.2.2 c hh c hc rfl).1⟩
    obtain ⟨h2, ys2, e2, n2, g2, r2, o2⟩ := mark_loop step last xs (i + 1) (k + sz a) h1 (pre ++ ys1) y2 b2 (fun a ha => hz a (by simp [ha])) (by omega) (by rw [List.length_append, hp, l1, Nat.succ_mul]) (by omega) (by rw [n1]; exact hb) g1 w2' hd'.2.1 (fun hh => hn (by simp [hh]))
    refine ⟨h2, ys1 ++ ys2, ?_, by rw [n2, n1], by rw [g2, List.append_assoc], ?_, fun c hc hcb => ?_⟩
    · rw [e1, e2]; simp only [szAll]; rw [Nat.add_assoc]
    · simp only [mkAll, List.map_cons, List.flatten_cons]
      refine (r1.frame fun c hc => ?_).append r2
      have hcb : c ≠ b := fun hh => hn (by simp [← hh, hc])
      exact ⟨by rw [n2]; exact r1.lt c hc, (o2 c hcb fun hh => hd'.2.2 c hc c hh rfl).1⟩
    · have a1 := o1 c hc fun hh => hcb (by simp [hh])
      have a2 := o2 c hc fun hh => hcb (by simp [hh])
      exact ⟨a2.1.trans a1.1, a2.2.trans a1.2⟩
/-- a whole slice is marked -/
theorem Rep.marks {z d : Nat} {y : S} {xs : List α} {bs : List Nat} {h : H} {k : Nat} {Lv : V → Nat → Nat → H → Option LOut} {fin : Nat → List V} (hz0 : 0 < z) (hz : ∀ a, (cs a).length = z) (w : Rep h (d + 1) y (.fs (xs.map cs)) bs) (hd : bs.Nodup) (hk : k + szAll sz xs < 2 ^ 62)
    (step : ∀ (b i k : Nat) (a : α) (h : H) (pre ys post : List S) (bs : List Nat), i < xs.length → pre.length = i * z → ys.length = z → k + sz a < 2 ^ 62 → b < h.n →
      h.g b = .rw z (pre ++ ys ++ post) → RepL (Rep h d) ys (cs a) bs → bs.Nodup → b ∉ bs →
      ∃ h' ys', Lv (sv b 0 xs.length) k i h = Lv (sv b 0 xs.length) (k + sz a) (i + 1) h' ∧ h'.n = h.n ∧ ys'.length = z ∧ h'.g b = .rw z (pre ++ ys' ++ post) ∧ RepL (Rep h' d) ys' (cs (mk k a)) bs ∧ ∀ c, c ≠ b → c ∉ bs → h'.g c = h.g c ∧ h'.v c = h.v c)
    (last : ∀ o k h, Lv (.s (.sl o xs.length)) k xs.length h = some (.done (fin k) h)) :
    ∃ h', Lv (.s y) k 0 h = some (.done (fin (k + szAll sz xs)) h') ∧ Rep h' (d + 1) y (.fs ((mkAll mk sz k xs).map cs)) bs ∧ h'.n = h.n ∧ ∀ c, c ∉ bs → h'.g c = h.g c ∧ h'.v c = h.v c := by
  have base : xs = [] → ∀ o, y = .sl o 0 → ∃ h', Lv (.s y) k 0 h = some (.done (fin (k + szAll sz xs)) h') ∧ Rep h' (d + 1) y (.fs ((mkAll mk sz k xs).map cs)) bs ∧ h'.n = h.n ∧ ∀ c, c ∉ bs → h'.g c = h.g c ∧ h'.v c = h.v c := by
    rintro rfl o rfl
    exact ⟨h, last o k h, w, rfl, fun _ _ => ⟨rfl, rfl⟩⟩
  rcases w with ⟨⟨h1, h2⟩ | ⟨h1, h2⟩, h3⟩ | ⟨b, z', ys, rows, bss, h1, h0, h2, h3, h4, h5, h6, h7⟩
  · rw [← h2] at h1; exact h1.elim
  · injection h2 with h2
    exact base (List.eq_nil_of_length_eq_zero (by simpa using congrArg List.length h2)) none h1
  · injection h0 with h0
    by_cases has : xs = []
    · refine base has (some (b, 0)) ?_
      rw [h1, ← h0, has]; rfl
    · have hzz : z' = z := by
        obtain ⟨a, xs', rfl⟩ := List.exists_cons_of_ne_nil has
        have := h6 (cs a) (by rw [← h0]; simp)
        rw [← this, hz]
      subst hzz
      subst h0
      subst h2
      have hlen : (xs.map cs).length = xs.length := by simp
      rw [hlen] at h1
      subst h1
      have hd2 := List.nodup_cons.1 hd
      obtain ⟨h', ys', e1, n1, g1, r1, o1⟩ := mark_loop (cs := cs) (mk := mk) (sz := sz) (fin := fin) (L := Lv (sv b 0 xs.length)) (n := xs.length) (step b) (fun k h => last _ k h) xs 0 k h [] ys bss (fun a _ => hz a) (by simp) (by simp) hk h3 (by simpa using h5) h7 hd2.2 hd2.1
      refine ⟨h', e1, ?_, n1, fun c hc => ?_⟩
      · have := Rep.sl (d := d) (h := h') (b := b) (z := z') (rows := (mkAll mk sz k xs).map cs) (bss := bss) (by rw [n1]; exact h3) hz0 (by simpa using g1) (fun r hr => by
          obtain ⟨a, _, rfl⟩ := List.mem_map.1 hr
          exact hz a) r1
        simpa [mkAll_len] using this
      · exact o1 c (fun hh => hc (by simp [hh])) (fun hh => hc (by simp [hh]))
end
end Vm
/-
  Cells of one's own; results that are marked; slices that are filled row by row.
-/
namespace Vm
open Go
theorem sc_bel {n : Nat} {s : S} (h : Sc s) : belS n s = true := by cases s <;> first | exact h.elim | rfl
theorem Rep.top {h : H} {d N : Nat} {y f : S} {bs : List Nat} (w : Rep h d y f bs) (hb : ∀ b ∈ bs, b < N) : belS N y = true := by
  cases d with
  | zero =>
    obtain ⟨⟨h1, rfl⟩ | ⟨rfl, rfl⟩, rfl⟩ := w
    · exact sc_bel h1
    · rfl
  | succ d =>
    obtain ⟨⟨h1, rfl⟩ | ⟨rfl, rfl⟩, rfl⟩ | ⟨b, z, cs, rows, bss, rfl, rfl, rfl, h1⟩ := w
    · exact sc_bel h1
    · rfl
    · simpa [belS] using hb b (by simp)
theorem RepL.top {h : H} {d N : Nat} {cs fs : List S} {bss : List Nat} (w : RepL (Rep h d) cs fs bss) (hb : ∀ b ∈ bss, b < N) : cs.all (belS N) = true := by
  induction w with
  | nil => rfl
  | cons w1 w2 ih =>
    rw [List.all_cons, w1.top fun b hh => hb b (by simp [hh]), ih fun b hh => hb b (by simp [hh])]; rfl
theorem Rep.bel {h : H} {N : Nat} : ∀ {d : Nat} {y f : S} {bs : List Nat}, Rep h d y f bs → (∀ b ∈ bs, b < N) → ∀ b ∈ bs, (h.g b).cells.all (belS N) = true
  | 0, y, f, bs, w, _ => by obtain ⟨_, rfl⟩ := w; simp
  | d + 1, y, f, bs, w, hb => by
    rcases w with ⟨_, rfl⟩ | ⟨b, z, cs, rows, bss, rfl, rfl, rfl, h1, h2, h3, h4, h5⟩
    · simp
    · intro c hc
      rcases List.mem_cons.1 hc with rfl | hc
      · rw [h3]; exact h5.top fun b hh => hb b (by simp [hh])
      · have hb' : ∀ b ∈ bss, b < N := fun b hh => hb b (by simp [hh])
        clear h3 h4 hb
        generalize rows.flatten = fl at h5
        induction h5 with
        | nil => simp at hc
        | cons w1 w2 ih =>
          rcases List.mem_append.1 hc with hc | hc
          · exact w1.bel (fun b hh => hb' b (by simp [hh])) _ hc
          · exact ih (by simp [hc]) hc fun b hh => hb' b (by simp [hh])
theorem RepL.bel {h : H} {d N : Nat} {cs fs : List S} {bss : List Nat} (w : RepL (Rep h d) cs fs bss) (hb : ∀ b ∈ bss, b < N) : ∀ b ∈ bss, (h.g b).cells.all (belS N) = true := by
  induction w with
  | nil => simp
  | cons w1 w2 ih =>
    intro c hc
    rcases List.mem_append.1 hc with hc | hc
    · exact w1.bel (fun b hh => hb b (by simp [hh])) _ hc
    · exact ih (fun b hh => hb b (by simp [hh])) _ hc
/-- what was marked, once what else was made is let go -/
theorem mark_tidy {h h' : H} {d : Nat} {ys fs : List S} {bs : List Nat} {n : Int} (w : RepL (Rep h' d) ys fs bs) (hb : ∀ b ∈ bs, b < h.n) (hn : h.n ≤ h'.n) (ho : ∀ c, c ∉ bs → c < h.n → h'.g c = h.g c ∧ h'.v c = h.v c) (h2 : h'.n = h.n → ∀ c, h.n ≤ c → h'.g c = h.g c) :
    (tidy h [iv .i64 n] h').n = h.n ∧ RepL (Rep (tidy h [iv .i64 n] h') d) ys fs bs ∧ ∀ c, c ∉ bs → (tidy h [iv .i64 n] h').g c = h.g c := by
  have hT : Tidy h [iv .i64 n] h' := ⟨hn, by simp [belV, belS], fun b hb' => by
    by_cases hbb : b ∈ bs
    · exact .inr (w.bel hb b hbb)
    · exact .inl (ho b hbb hb')⟩
  unfold tidy
  rw [if_pos hT]
  refine ⟨rfl, w.frame fun b hbb => ⟨hb b hbb, by simp [hb b hbb]⟩, fun c hc => ?_⟩
  by_cases hcn : c < h.n
  · simp only [if_pos hcn]; exact (ho c hc hcn).1
  · simp only [if_neg hcn]
/-- cells of one's own in a stretch of blocks -/
def OwnC (d : Nat) (ys fs : List S) (lo hi : Nat) (h : H) : Prop := ∃ bs, RepL (Rep h d) ys fs bs ∧ bs.Nodup ∧ ∀ b ∈ bs, lo ≤ b ∧ b < hi
theorem OwnC.sep {d : Nat} {ys fs : List S} {lo hi : Nat} {h : H} (w : OwnC d ys fs lo hi h) (hn : hi ≤ h.n) : Sep (OwnC d ys fs lo hi) lo hi h := ⟨hn, fun h' hn' hg => by
  obtain ⟨bs, h1, h2, h3⟩ := w
  exact ⟨bs, h1.frame fun b hb => ⟨by have := h3 b hb; omega, hg b (h3 b hb).1 (h3 b hb).2⟩, h2, h3⟩⟩
theorem OwnC.frz {d : Nat} {ys fs : List S} {lo hi : Nat} {h : H} (w : OwnC d ys fs lo hi h) (hd : d ≤ 8 := by omega) : frzV h (.agg ys) = some (.agg fs) := by
  obtain ⟨bs, h1, _⟩ := w
  simp only [frzV, h1.mapO hd, Vm.ob]
theorem RepL.sca {h : H} {d : Nat} {cs fs : List S} {bss : List Nat} (w : RepL (Rep h d) cs fs bss) : cs.all scaS = true := by
  induction w with
  | nil => rfl
  | cons w1 w2 ih => rw [List.all_cons, w1.sca, ih]; rfl
theorem OwnC.scaV {d : Nat} {ys fs : List S} {lo hi : Nat} {h : H} (w : OwnC d ys fs lo hi h) : Vm.scaV (.agg ys) = true := by
  obtain ⟨bs, h1, _⟩ := w
  exact h1.sca
/-- one value behind plain cells -/
theorem OwnF.c {d : Nat} {pre : List S} {y f : S} {lo hi : Nat} {h : H} (hp : ∀ s ∈ pre, Sc s) (w : OwnF d y f lo hi h) : OwnC d (pre ++ [y]) (pre ++ [f]) lo hi h := by
  obtain ⟨bs, h1, h2, h3⟩ := w
  exact ⟨bs, by simpa using (RepL.sc (d := d) hp).append (.cons h1 .nil), h2, h3⟩
theorem OwnC.f {d : Nat} {pre : List S} {y f : S} {lo hi : Nat} {h : H} (hp : ∀ s ∈ pre, Sc s) (w : OwnC d (pre ++ [y]) (pre ++ [f]) lo hi h) : OwnF d y f lo hi h := by
  obtain ⟨bs, h1, h2, h3⟩ := w
  obtain ⟨a, a', b, b', e1, rfl, w1, w2⟩ := h1.split
  obtain ⟨rfl, rfl⟩ := w1.of_sc hp
  have := List.append_cancel_left e1
  subst this
  cases w2 with
  | cons w3 w4 => cases w4; exact ⟨_, by simpa using w3, by simpa using h2, by simpa using h3⟩
/-- a result whose last cell is marked -/
theorem markC {h h' : H} {pre : List S} {y f' : S} {lo hi d : Nat} {n : Int} {bs : List Nat} (hp : ∀ s ∈ pre, Sc s) (hb : ∀ b ∈ bs, lo ≤ b ∧ b < hi) (hd : bs.Nodup) (ht : hi ≤ h.n) (w : Rep h' d y f' bs) (hn : h.n ≤ h'.n) (ho : ∀ c, c ∉ bs → c < h.n → h'.g c = h.g c ∧ h'.v c = h.v c) (h2 : h'.n = h.n → ∀ c, h.n ≤ c → h'.g c = h.g c) :
    Sep (OwnC d (pre ++ [y]) (pre ++ [f']) lo hi) lo hi (tidy h [iv .i64 n] h') ∧ ButR lo hi h (tidy h [iv .i64 n] h') := by
  have w' : RepL (Rep h' d) (pre ++ [y]) (pre ++ [f']) bs := by simpa using (RepL.sc (d := d) hp).append (.cons w .nil)
  obtain ⟨t1, t2, t3⟩ := mark_tidy (n := n) w' (fun b hbb => by have := hb b hbb; omega) hn ho h2
  refine ⟨OwnC.sep ⟨bs, t2, hd, hb⟩ (by rw [t1]; exact ht), t1, fun c hc => t3 c fun hh => ?_⟩
  have := hb c hh
  omega
/-- the answer of a call: new cells of one's own -/
structure NewC (d : Nat) (ys fs : List S) (n : Nat) (h : H) : Prop where
  le : n ≤ h.n
  q : OwnC d ys fs n h.n h
theorem scrub_g {n : Nat} {h : H} {b : Nat} (hb : (h.g b).cells.all scaS = true) : (scrub n h).g b = h.g b := by
  simp only [scrub]
  rw [if_neg (fun hh => by rw [hb] at hh; cases hh.2.2)]
theorem Rep.scaB {h : H} : ∀ {d : Nat} {y f : S} {bs : List Nat}, Rep h d y f bs → ∀ b ∈ bs, (h.g b).cells.all scaS = true
  | 0, y, f, bs, w => by obtain ⟨_, rfl⟩ := w; simp
  | d + 1, y, f, bs, w => by
    rcases w with ⟨_, rfl⟩ | ⟨b, z, cs, rows, bss, rfl, rfl, rfl, h1, h2, h3, h4, h5⟩
    · simp
    · intro c hc
      rcases List.mem_cons.1 hc with rfl | hc
      · rw [h3]; exact h5.sca
      · clear h3 h4
        generalize rows.flatten = fl at h5
        induction h5 with
        | nil => simp at hc
        | cons w1 w2 ih =>
          rcases List.mem_append.1 hc with hc | hc
          · exact w1.scaB _ hc
          · exact ih (by simp [hc]) hc
theorem RepL.scaB {h : H} {d : Nat} {cs fs : List S} {bss : List Nat} (w : RepL (Rep h d) cs fs bss) : ∀ b ∈ bss, (h.g b).cells.all scaS = true := by
  induction w with
  | nil => simp
  | cons w1 w2 ih =>
    intro c hc
    rcases List.mem_append.1 hc with hc | hc
    · exact w1.scaB _ hc
    · exact ih _ hc
/-- a call with a new answer of cells -/
theorem pC {cl : Nat → List V → H → Option (V × H)} {g : Nat} {off : Bool} {xs : List V} {h : H} {n d : Nat} {ys fs : List S} {h1 : H} (hn : h.n = n) (hc : cl g xs (D n) = some (.agg ys, h1)) (w : NewC d ys fs n h1) :
    ∃ h', (∀ (R : Type) (k : V → H → Option R), pcallF cl g off xs h k = k (.agg ys) h') ∧ Up h h' ∧ n ≤ h'.n ∧ Sep (OwnC d ys fs n h'.n) n h'.n h' := by
  subst hn
  have hle : h.n ≤ h1.n := w.le
  have ov : ∀ h2 : H, h2.n = h1.n → (∀ b, (h1.g b).cells.all scaS = true → h2.g b = h1.g b) → Up h (h.over h2) ∧ h.n ≤ (h.over h2).n ∧ Sep (OwnC d ys fs h.n (h.over h2).n) h.n (h.over h2).n (h.over h2) := fun h2 hn2 hg2 => by
    have hle2 : h.n ≤ h2.n := by omega
    refine ⟨up_over hle2, by rw [over_n hle2]; omega, OwnC.sep ?_ (Nat.le_refl _)⟩
    obtain ⟨bs, w1, w2, w3⟩ := w.q
    rw [over_n hle2, hn2]
    refine ⟨bs, w1.frame fun b hb => ?_, w2, w3⟩
    have := w3 b hb
    exact ⟨by rw [over_n hle2]; omega, by rw [over_ge this.1]; exact hg2 b (w1.scaB b hb)⟩
  cases off with
  | true =>
    obtain ⟨a1, a2, a3⟩ := ov h1 rfl (fun _ _ => rfl)
    refine ⟨h.over h1, fun R k => ?_, a1, a2, a3⟩
    unfold pcallF
    rw [hc, Vm.ob]
    unfold fchk
    rw [if_pos (.inl rfl)]; rfl
  | false =>
    obtain ⟨a1, a2, a3⟩ := ov (scrub h.n h1) rfl (fun b hb => scrub_g hb)
    refine ⟨h.over (scrub h.n h1), fun R k => ?_, a1, a2, a3⟩
    unfold pcallF
    rw [hc, Vm.ob]
    unfold fchk
    rw [if_pos (.inr w.q.scaV)]; rfl
/-- .. of one value -/
theorem pVx {cl : Nat → List V → H → Option (V × H)} {g : Nat} {off : Bool} {xs : List V} {h : H} {n d : Nat} {y f : S} {h1 : H} (hn : h.n = n) (hc : cl g xs (D n) = some (.s y, h1)) (hle : n ≤ h1.n) (w : OwnF d y f n h1.n h1) :
    ∃ h', (∀ (R : Type) (k : V → H → Option R), pcallF cl g off xs h k = k (.s y) h') ∧ Up h h' ∧ n ≤ h'.n ∧ Sep (OwnF d y f n h'.n) n h'.n h' ∧ HExt h h' := by
  subst hn
  have ov : ∀ h2 : H, h2.n = h1.n → (∀ b, (h1.g b).cells.all scaS = true → h2.g b = h1.g b) → Up h (h.over h2) ∧ h.n ≤ (h.over h2).n ∧ Sep (OwnF d y f h.n (h.over h2).n) h.n (h.over h2).n (h.over h2) ∧ HExt h (h.over h2) := fun h2 hn2 hg2 => by
    have hle2 : h.n ≤ h2.n := by omega
    refine ⟨up_over hle2, by rw [over_n hle2]; omega, OwnF.sep ?_ (Nat.le_refl _), ⟨by rw [over_n hle2]; omega, fun b hb => .inr (over_lt hb)⟩⟩
    obtain ⟨bs, w1, w2, w3⟩ := w
    rw [over_n hle2, hn2]
    refine ⟨bs, w1.frame fun b hb => ?_, w2, w3⟩
    have := w3 b hb
    exact ⟨by rw [over_n hle2]; omega, by rw [over_ge this.1]; exact hg2 b (w1.scaB b hb)⟩
  cases off with
  | true =>
    obtain ⟨a1, a2, a3⟩ := ov h1 rfl (fun _ _ => rfl)
    refine ⟨h.over h1, fun R k => ?_, a1, a2, a3⟩
    unfold pcallF
    rw [hc, Vm.ob]
    unfold fchk
    rw [if_pos (.inl rfl)]; rfl
  | false =>
    obtain ⟨a1, a2, a3⟩ := ov (scrub h.n h1) rfl (fun b hb => scrub_g hb)
    refine ⟨h.over (scrub h.n h1), fun R k => ?_, a1, a2, a3⟩
    unfold pcallF
    rw [hc, Vm.ob]
    unfold fchk
    rw [if_pos (.inr (by obtain ⟨bs, w1, _⟩ := w; exact w1.sca))]; rfl
theorem pV {cl : Nat → List V → H → Option (V × H)} {g : Nat} {off : Bool} {xs : List V} {h : H} {n d : Nat} {y f : S} {h1 : H} (hn : h.n = n) (hc : cl g xs (D n) = some (.s y, h1)) (hle : n ≤ h1.n) (w : OwnF d y f n h1.n h1) :
    ∃ h', (∀ (R : Type) (k : V → H → Option R), pcallF cl g off xs h k = k (.s y) h') ∧ Up h h' ∧ n ≤ h'.n ∧ Sep (OwnF d y f n h'.n) n h'.n h' := by
  obtain ⟨h', a, b, c, d, _⟩ := pVx (off := off) hn hc hle w
  exact ⟨h', a, b, c, d⟩
theorem NewC.p {f d : Nat} {xs : List V} {h : H} {ys fs : List S} (hd : d ≤ 8) (hc : call Ev f xs (D 0) = some (.agg ys, h)) (w : NewC d ys fs 0 h) : pureV (call Ev) f xs = some (.agg fs) := by
  unfold pureV
  rw [hc, Vm.ob]
  exact w.q.frz hd

theorem bel_mono {n m : Nat} (h : n ≤ m) {s : S} (hs : belS n s = true) : belS m s = true := by
  cases s with
  | ptr p => cases p <;> simp_all [belS]; omega
  | sl p k => cases p <;> simp_all [belS]; omega
  | mp p => cases p <;> simp_all [belS]; omega
  | fn f cap =>
    simp only [belS, List.all_eq_true, decide_eq_true_eq] at hs ⊢
    intro x hx
    have := hs x hx
    omega
  | _ => exact hs
/-- what leads to new blocks is not let go -/
theorem no_tidy {h h' : H} {l : List V} {b e : Nat} {cs : List S} (hb : b < h.n) (hg : h'.g b = .rw e cs) (hc : cs.all (belS h.n) = false) (hX : (h.g b).cells.all (belS h.n) = true) : tidy h l h' = h' := by
  unfold tidy
  rw [if_neg]
  rintro ⟨_, _, h3⟩
  rcases h3 b hb with ⟨h4, _⟩ | h4
  · rw [← h4, hg] at hX
    rw [show (Blk.rw e cs).cells = cs from rfl, hc] at hX
    cases hX
  · rw [hg, show (Blk.rw e cs).cells = cs from rfl, hc] at h4
    cases h4
theorem no_tidy_v {h h' : H} {l : List V} (hl : l.all (belV h.n) = false) : tidy h l h' = h' := by
  unfold tidy
  rw [if_neg]
  rintro ⟨_, h2, _⟩
  rw [hl] at h2
  cases h2

/-! slices that are filled row by row -/
section
variable {α : Type} {cs : α → List S}
theorem fill_rep {z b d n0 : Nat} {L : Nat → H → Option LOut} {fin : List V} {all : List α} (hz0 : 0 < z) (hz : ∀ a, (cs a).length = z)
    (step : ∀ (i : Nat) (a : α) (h : H) (X : List S), all[i]? = some a → b < h.n → n0 ≤ h.n → h.g b = .rw z X → X.length = all.length * z → X.all (belS h.n) = true →
      ∃ h' row bs, L i h = L (i + 1) h' ∧ h.n ≤ h'.n ∧ h'.g b = .rw z (setAt X (i * z) row) ∧ RepL (Rep h' d) row (cs a) bs ∧ bs.Nodup ∧ (∀ c ∈ bs, h.n ≤ c) ∧ ∀ c, c < h.n → c ≠ b → h'.g c = h.g c)
    (last : ∀ h, L all.length h = some (.done fin h)) :
    ∀ (q i : Nat) (h : H) (ys tail : List S) (bs : List Nat), i + q = all.length → b < h.n → n0 ≤ h.n → b < n0 → h.g b = .rw z (ys ++ tail) → tail.length = q * z → tail.all (belS n0) = true → RepL (Rep h d) ys ((all.take i).map cs).flatten bs → bs.Nodup → (∀ c ∈ bs, n0 ≤ c) →
    ∃ h' ys' bs', L i h = some (.done fin h') ∧ h.n ≤ h'.n ∧ h'.g b = .rw z ys' ∧ RepL (Rep h' d) ys' (all.map cs).flatten bs' ∧ bs'.Nodup ∧ (∀ c ∈ bs', n0 ≤ c) ∧ ∀ c, c < h.n → c ≠ b → c ∉ bs → h'.g c = h.g c := by
  intro q
  induction q with
  | zero =>
    intro i h ys tail bs hi hb hn hbn hg ht htb w hd hbs
    obtain rfl : i = all.length := by omega
    have : tail = [] := List.eq_nil_of_length_eq_zero (by omega)
    subst this
    exact ⟨h, ys, bs, last h, Nat.le_refl _, by simpa using hg, by simpa using w, hd, hbs, fun _ _ _ _ => rfl⟩
  | succ q ih =>
    intro i h ys tail bs hi hb hn hbn hg ht htb w hd hbs
    have hil : i < all.length := by omega
    have ha : all[i]? = some all[i] := List.getElem?_eq_getElem hil
    have hyl : ys.length = i * z := by
      rw [w.len, flat_len (z := z) (fun r hr => by obtain ⟨a, _, rfl⟩ := List.mem_map.1 hr; exact hz a)]
      rw [List.length_map, List.length_take, Nat.min_eq_left (by omega)]
    have htl : tail.length = z + q * z := by rw [ht, Nat.succ_mul]; omega
    have hX : (ys ++ tail).length = all.length * z := by
      rw [List.length_append, hyl, ht, ← Nat.add_mul, hi]
    obtain ⟨h1, row, b1, e1, n1, g1, r1, d1, f1, o1⟩ := step i all[i] h (ys ++ tail) ha hb hn hg hX (by
      rw [List.all_append, w.top w.lt, Bool.true_and]
      rw [List.all_eq_true] at htb ⊢
      exact fun s hs => bel_mono hn (htb s hs))
    have hrl : row.length = z := r1.len.trans (hz _)
    have hbl : ∀ c ∈ bs, c < h.n := w.lt
    have hdis : ∀ c ∈ bs, ∀ c' ∈ b1, c ≠ c' := fun c hc c' hc' hh => by have := hbl c hc; have := f1 c' hc'; omega
    have w' : RepL (Rep h1 d) (ys ++ row) ((all.take (i + 1)).map cs).flatten (bs ++ b1) := by
      have e : (all.take (i + 1)) = all.take i ++ [all[i]] := by rw [List.take_add_one, ha]; rfl
      rw [e, List.map_append, List.flatten_append]
      refine RepL.append (w.frame fun c hc => ⟨by have := hbl c hc; omega, o1 c (hbl c hc) (fun hh => by have := hbs c hc; omega)⟩) ?_
      simpa using r1
    rw [setAt_at hyl hrl] at g1
    obtain ⟨h2, ys2, bs2, e2, n2, g2, r2, d2, f2, o2⟩ := ih (i + 1) h1 (ys ++ row) (tail.drop z) (bs ++ b1) (by omega) (by omega) (by omega) hbn g1 (by rw [List.length_drop]; omega) (by rw [List.all_eq_true] at htb ⊢; exact fun s hs => htb s (List.mem_of_mem_drop hs)) w' (List.nodup_append.2 ⟨hd, d1, hdis⟩) (fun c hc => by
      rcases List.mem_append.1 hc with hc | hc
      · exact hbs c hc
      · have := f1 c hc; omega)
    refine ⟨h2, ys2, bs2, by rw [e1, e2], by omega, g2, r2, d2, f2, fun c hc hcb hcs => ?_⟩
    rw [o2 c (by omega) hcb (fun hh => ?_), o1 c hc hcb]
    rcases List.mem_append.1 hh with hh | hh
    · exact hcs hh
    · have := f1 c hh; omega
end
end Vm
/-
  Results of a code and one value, as they are made at the end of a function.
-/
namespace Vm
open Go
theorem sc1 {k : IntKind} {c : Int} : ∀ s ∈ [S.int k c], Sc s := by intro s hs; rw [List.mem_singleton.1 hs]; trivial
/-- a fault -/
theorem bad2C (n : Nat) (c : Int) : ∃ h', (stK 2 ((D n).new 0 [.int .i64 0, .sl none 0]) (pv ((D n).n) 0) (.agg [.int .i64 c, .sl none 0]) fun h105 =>
      (loadN 2 h105 (pv ((D n).n) 0)).bind fun c106 => some (V.agg c106, h105)) = some (.agg [.int .i64 c, .sl none 0], h') ∧ NewC 4 [.int .i64 c, .sl none 0] [.int .i64 c, .fs []] n h' := by
  rw [st2_new, loadN_2 (by simp) (by exact g_st), Vm.ob]
  refine ⟨_, rfl, by simp, [], ?_, by simp, by simp⟩
  exact RepL.cons (bs := []) (Rep.sc trivial) (RepL.cons (bs := []) Rep.nil .nil)
/-- a value put into a result that stands in block n -/
theorem fin2S {n d : Nat} {K : H} {y f : S} (hn : n < K.n) (g : K.g n = .rw 0 [.int .i64 0, .sl none 0]) (w : OwnF d y f (n + 1) K.n K) {c : Int} :
    ∃ h', (stK 2 K (pv n 0) (.agg [.int .i64 c, y]) fun h116 => (loadN 2 h116 (pv n 0)).bind fun c117 => some (V.agg c117, h116)) = some (.agg [.int .i64 c, y], h') ∧ NewC d [.int .i64 c, y] [.int .i64 c, f] n h' := by
  rw [stK_rw (z := 2) (e := 0) (o := 0) (b := n) (cs := [.int .i64 0, .sl none 0]) (r := [.int .i64 c, y]) hn g (.inr rfl) rfl (by simp)]
  rw [show setAt [.int .i64 0, .sl none 0] 0 [.int .i64 c, y] = [.int .i64 c, y] from rfl]
  rw [loadN_2 (b := n) (e := 0) (by rw [put_n]; omega) (put_g _ _ _), ob]
  obtain ⟨bs, w1, w2, w3⟩ := w
  refine ⟨_, rfl, by rw [put_n]; omega, ?_⟩
  refine OwnF.c (pre := [.int .i64 c]) sc1 ⟨bs, w1.frame fun b hb => ?_, w2, fun b hb => ?_⟩
  · have := w3 b hb
    exact ⟨by rw [put_n]; omega, put_g' (by omega)⟩
  · have := w3 b hb
    rw [put_n]; omega
theorem cells2 {R : Type} {y : S} (hy : isNo y = false) {k : Int → S → Option R} :
    (cellsK (.s y) fun c112 =>
      if c112.length = 1 ∧ 1 + 1 ≤ ([.int .i64 0, .sl none 0] : List S).length then
      ((setAt ([.int .i64 0, .sl none 0] : List S) 1 c112)[0]?).bind fun x113 =>
      gI .i64 x113 fun i114 =>
      ((setAt ([.int .i64 0, .sl none 0] : List S) 1 c112)[1]?).bind fun x115 =>
      if (setAt ([.int .i64 0, .sl none 0] : List S) 1 c112).length = 2 then k i114 x115 else none else none) = k 0 y := by
  simp only [cellsK, hy, cond_false, ln0, ln1, Nat.zero_add, Nat.reduceAdd, Nat.le_refl, and_self, if_true]
  rw [show setAt [.int .i64 0, .sl none 0] 1 [y] = [.int .i64 0, y] from rfl]
  simp only [gx0, gx1, ob, gI_i, ln0, ln1, Nat.zero_add, Nat.reduceAdd, if_true]
theorem fin2 {g n d : Nat} {xs : List V} {y f : S} {h1 : H} {off : Bool} (hc : call Ev g xs (D (n + 1)) = some (.s y, h1)) (hle : n + 1 ≤ h1.n) (w : OwnF d y f (n + 1) h1.n h1) :
    ∃ h', (pcallF (call Ev) g off xs ((D n).new 0 [.int .i64 0, .sl none 0]) fun v110 h111 =>
      cellsK v110 fun c112 =>
      if c112.length = 1 ∧ 1 + 1 ≤ ([.int .i64 0, .sl none 0] : List S).length then
      ((setAt ([.int .i64 0, .sl none 0] : List S) 1 c112)[0]?).bind fun x113 =>
      gI .i64 x113 fun i114 =>
      ((setAt ([.int .i64 0, .sl none 0] : List S) 1 c112)[1]?).bind fun x115 =>
      if (setAt ([.int .i64 0, .sl none 0] : List S) 1 c112).length = 2 then
      stK 2 h111 (pv ((D n).n) 0) (.agg [.int .i64 i114, x115]) fun h116 =>
      (loadN 2 h116 (pv ((D n).n) 0)).bind fun c117 =>
      some (V.agg c117, h116)
      else none
      else none) = some (.agg [.int .i64 0, y], h') ∧ NewC d [.int .i64 0, y] [.int .i64 0, f] n h' := by
  obtain ⟨K, e, u, hn, w'⟩ := pV (h := (D n).new 0 [.int .i64 0, .sl none 0]) (off := off) (n := n + 1) (by simp) hc hle w
  have hy : isNo y = false := by obtain ⟨bs, w1, _⟩ := w; exact w1.isNo
  rw [e]
  rw [cells2 hy]
  exact fin2S (K := K) (by omega) (by rw [u.g n (by simp)]; exact new_g (D n) _ _) w'.now
end Vm
/-
  A slice of rows of one's own that grows row by row.
-/
namespace Vm
open Go
structure OutS (z d : Nat) (y : S) (rows : List (List S)) (bs : List Nat) (h : H) : Prop where
  rep : Rep h (d + 1) y (.fs rows) bs
  nd : bs.Nodup
  ty : y = .sl none 0 ∨ ∃ b cs, y = .sl (some (b, 0)) rows.length ∧ h.g b = .rw z cs
  len : ∀ r ∈ rows, r.length = z
theorem OutS.none {z d : Nat} {h : H} : OutS z d (.sl none 0) [] [] h := ⟨Rep.nil, by simp, .inl rfl, by simp⟩
theorem OutS.frame {z d : Nat} {y : S} {rows : List (List S)} {bs : List Nat} {h h' : H} (w : OutS z d y rows bs h) (hb : ∀ b ∈ bs, b < h'.n ∧ h'.g b = h.g b) : OutS z d y rows bs h' := by
  refine ⟨w.rep.frame hb, w.nd, ?_, w.len⟩
  rcases w.ty with h1 | ⟨b, cs, h1, h2⟩
  · exact .inl h1
  · refine .inr ⟨b, cs, h1, ?_⟩
    have hbb : b ∈ bs := by
      rcases w.rep with ⟨⟨h3, _⟩ | ⟨h3, _⟩, _⟩ | ⟨b', z', cs', rows', bss, h3, _, h4, _⟩
      · rw [h1] at h3; exact h3.elim
      · rw [h1] at h3; cases h3
      · rw [h1] at h3
        injection h3 with h3 _
        injection h3 with h3
        injection h3 with h3 _
        rw [h4, h3]; simp
    rw [(hb b hbb).2]; exact h2
theorem app_row {z d : Nat} {y : S} {rows : List (List S)} {bs : List Nat} {h : H} {row fr : List S} {br : List Nat} (w : OutS z d y rows bs h) (wr : RepL (Rep h d) row fr br) (hz : fr.length = z) (hz0 : 0 < z) (hd : br.Nodup) (hdis : ∀ a ∈ bs, a ∉ br) (hl : rows.length + 1 ≤ lim) :
    ∃ h' bs', appS z (h.new z row) (.s y) (sv h.n 0 1) = some (sv (h.n + 1) 0 (rows.length + 1), h') ∧ OutS z d (.sl (some (h.n + 1, 0)) (rows.length + 1)) (rows ++ [fr]) bs' h' ∧ h'.n = h.n + 2 ∧ (∀ c ∈ bs', c = h.n + 1 ∨ c ∈ bs ∨ c ∈ br) ∧ (∀ c, c < h.n → c ∉ bs → h'.g c = h.g c) ∧ (∀ c, c < h.n → h'.g c = h.g c ∨ (h'.g c = .dead ∧ c ∈ bs)) ∧ ∃ cs0, h'.g (h.n + 1) = .rw z (cs0 ++ row) := by
  have hrow : row.length = z := wr.len.trans hz
  have hlt := w.rep.lt
  have hlr := wr.lt
  have cy : cellsS z (h.new z row) (sv h.n 0 1) = some row := by
    simp only [cellsS, H.cells, new_n, new_g, Blk.cells]
    rw [if_pos ⟨by omega, by simp; omega⟩]
    simp [← hrow]
  have gn : (h.new z row).g h.n = .rw z row := new_g _ _ _
  rcases w.rep with ⟨⟨h3, h4⟩ | ⟨h3, h4⟩, h5⟩ | ⟨b, z', cs, rows', bss, h3, h4, h5, h6, h7, h8, h9, h10⟩
  · rw [← h4] at h3; exact h3.elim
  · subst h3
    injection h4 with h4
    subst h4
    subst h5
    refine ⟨(h.new z row).new z row, (h.n + 1) :: br, ?_, ⟨?_, ?_, ?_, ?_⟩, by simp, ?_, fun c hc _ => ?_, fun c hc => .inl ?_, [], new_g (h.new z row) z row⟩
    · simp only [appS, cy, Option.bind_some, lenS]
      rw [if_pos ⟨trivial, by simpa using hl, hz0⟩, if_neg (by omega)]
      rfl
    · have := Rep.sl (d := d) (h := (h.new z row).new z row) (b := h.n + 1) (z := z) (cs := row) (rows := [fr]) (bss := br) (by simp) hz0 (by exact new_g (h.new z row) z row) (by simpa using hz) (by
        simpa using wr.frame fun c hc => ⟨by have := hlr c hc; simp; omega, by rw [new_g' (by have := hlr c hc; simp; omega), new_g' (by have := hlr c hc; omega)]⟩)
      simpa using this
    · exact List.nodup_cons.2 ⟨fun hh => by have := hlr _ hh; omega, hd⟩
    · exact .inr ⟨_, row, rfl, by exact new_g (h.new z row) z row⟩
    · simpa using hz
    · intro c hc
      rcases List.mem_cons.1 hc with h1 | h1
      · exact .inl h1
      · exact .inr (.inr h1)
    · rw [new_g' (by simp; omega), new_g' (by omega)]
    · rw [new_g' (by simp; omega), new_g' (by omega)]
  · injection h4 with h4
    subst h4
    subst h3
    subst h5
    have hzz : z' = z := by
      rcases w.ty with hh | ⟨b', cs', hh, hg⟩
      · cases hh
      · injection hh with hh _
        injection hh with hh
        injection hh with hh _
        subst hh
        rw [h8] at hg
        injection hg
    subst hzz
    have hcl := h10.len
    rw [flat_len h9] at hcl
    have hbn : b ≠ h.n := by omega
    have cx : cellsS z' (h.new z' row) (sv b 0 rows.length) = some cs := by
      have hc : (h.new z' row).cells b = cs := by unfold H.cells; rw [if_pos (by simp; omega), new_g' hbn, h8]; rfl
      simp only [cellsS, hc]
      rw [if_pos ⟨by simp; omega, by omega⟩, List.drop_zero, List.take_of_length_le (by omega)]
    have hd2 := List.nodup_cons.1 w.nd
    refine ⟨((h.new z' row).put b .dead).new z' (cs ++ row), (h.n + 1) :: (bss ++ br), ?_, ⟨?_, ?_, ?_, ?_⟩, by simp, ?_, fun c hc hcb => ?_, fun c hc => ?_, cs, new_g ((h.new z' row).put b .dead) z' (cs ++ row)⟩
    · simp only [appS, cx, cy, Option.bind_some, lenS]
      rw [if_pos ⟨by rw [new_n]; omega, hl, hz0⟩, new_g' hbn, h8]
      simp only [if_true]
      rfl
    · have fr1 : ∀ c, c < h.n → c ≠ b → (((h.new z' row).put b .dead).new z' (cs ++ row)).g c = h.g c := fun c hc hcb => by
        rw [new_g' (by simp; omega), put_g' hcb, new_g' (by omega)]
      have := Rep.sl (d := d) (h := ((h.new z' row).put b .dead).new z' (cs ++ row)) (b := h.n + 1) (z := z') (cs := cs ++ row) (rows := rows ++ [fr]) (bss := bss ++ br) (by simp) hz0 (by exact new_g ((h.new z' row).put b .dead) z' (cs ++ row)) (by
          intro r hr
          rcases List.mem_append.1 hr with hr | hr
          · exact h9 r hr
          · rw [List.mem_singleton.1 hr]; exact hz) (by
        rw [List.flatten_append]
        have wr2 : RepL (Rep (((h.new z' row).put b .dead).new z' (cs ++ row)) d) row fr br := wr.frame fun c hc => by
          have := hlr c hc
          exact ⟨by simp; omega, fr1 c this (fun hh => hdis b (by simp) (hh ▸ hc))⟩
        refine RepL.append (h10.frame fun c hc => ?_) (by simpa using wr2)
        have := hlt c (by simp [hc])
        exact ⟨by simp; omega, fr1 c this (fun hh => hd2.1 (hh ▸ hc))⟩)
      simpa using this
    · refine List.nodup_cons.2 ⟨fun hh => ?_, List.nodup_append.2 ⟨hd2.2, hd, fun a ha a' ha' hh => hdis a (by simp [ha]) (hh ▸ ha')⟩⟩
      rcases List.mem_append.1 hh with hh | hh
      · have := hlt (h.n + 1) (by simp [hh]); omega
      · have := hlr _ hh; omega
    · exact .inr ⟨h.n + 1, cs ++ row, by simp, by exact new_g ((h.new z' row).put b .dead) z' (cs ++ row)⟩
    · intro r hr
      rcases List.mem_append.1 hr with hr | hr
      · exact h9 r hr
      · rw [List.mem_singleton.1 hr]; exact hz
    · intro c hc
      rcases List.mem_cons.1 hc with h1 | h1
      · exact .inl h1
      rcases List.mem_append.1 h1 with h1 | h1
      · exact .inr (.inl (by simp [h1]))
      · exact .inr (.inr h1)
    · rw [new_g' (by simp; omega), put_g' (fun hh => hcb (by simp [hh])), new_g' (by omega)]
    · by_cases hcb : c = b
      · subst hcb
        refine .inr ⟨?_, by simp⟩
        rw [new_g' (by simp; omega)]
        exact put_g _ _ _
      · refine .inl ?_
        rw [new_g' (by simp; omega), put_g' hcb, new_g' (by omega)]
end Vm
/-
  Rows that are marked; rows of one's own.
-/
namespace Vm
open Go
/-! the text of a mark -/
theorem sz_1 {c : UInt8} : (⟨[c].toArray⟩ : ByteArray).size = 1 := rfl
theorem sz_0 : (⟨#[]⟩ : ByteArray).size = 0 := rfl
theorem sz_m : (⟨#[109]⟩ : ByteArray).size = 1 := rfl
theorem mt_step {h : H} {n : Int} (h0 : 0 ≤ n) (h1 : n < 256) : cvStr (h.new 1 [.int .u8 n]) (sv h.n 0 1) = some (.s (.str ⟨[UInt8.ofNat n.toNat].toArray⟩)) := by
  have hc : cellsS 1 (h.new 1 [.int .u8 n]) (sv h.n 0 1) = some [.int .u8 n] := by
    have hc : (h.new 1 [.int .u8 n]).cells h.n = [.int .u8 n] := by unfold H.cells; rw [if_pos (by simp), new_g]; rfl
    simp only [cellsS, hc]
    rw [if_pos ⟨by simp, by simp⟩]; rfl
  simp only [cvStr, hc, Option.bind_some, bytesS]
  rw [if_pos ⟨h0, h1⟩, Option.bind_some, if_pos (by unfold lim; omega)]
/-! a row that is marked -/
def szW (_ : RowD) : Nat := 4
theorem szW_all : ∀ rs : List RowD, szAll szW rs = 4 * rs.length
  | [] => rfl
  | r :: rs => by simp only [szAll, szW, szW_all rs, List.length_cons]; omega
theorem row_sc {r : RowD} : ∀ s ∈ r.cs, Sc s := by
  intro s hs
  simp only [List.mem_cons, List.not_mem_nil, or_false] at hs
  rcases hs with rfl | rfl | rfl | rfl <;> trivial
theorem st_cell {R : Type} {b e o j : Nat} {h : H} {pre row post : List S} {x : S} {k : H → Option R} (hb : b < h.n) (hg : h.g b = .rw e (pre ++ row ++ post)) (hp : pre.length = o) (hj : j < row.length) (hx : isNo x = false) :
    stK 1 h (pv b (o + j)) (.s x) k = k (h.put b (.rw e (pre ++ row.set j x ++ post))) := by
  rw [stK_rw (z := 1) (r := [x]) hb hg (.inl ⟨x, rfl, rfl, hx⟩) rfl (by simp; omega)]
  congr 3
  have e1 : pre ++ row ++ post = (pre ++ row.take j) ++ (row.drop j ++ post) := by simp [List.append_assoc]; rw [← List.append_assoc (row.take j), List.take_append_drop]
  rw [e1, setAt_at (z := 1) (by rw [List.length_append, List.length_take, hp]; omega) rfl, List.set_eq_take_append_cons_drop, if_pos hj, List.drop_append_of_le_length (by rw [List.length_drop]; omega), List.drop_drop]
  simp [List.append_assoc]
theorem put_put {h : H} {b : Nat} {x y : Blk} : ((h.put b x).put b y).g = (h.put b y).g := by
  funext c; simp only [H.put]; split <;> rfl
/-! a value of one's own -/
def OwnV (v : V) (f : S) (lo hi : Nat) (h : H) : Prop := ∃ y, v = .s y ∧ OwnF 5 y f lo hi h
theorem OwnV.frz {v : V} {rs : List (List S)} {lo hi : Nat} {h : H} (w : OwnV v (.fs rs) lo hi h) : frzV h v = some (lv rs) := by
  obtain ⟨y, rfl, w⟩ := w
  exact w.frz
theorem OwnV.sep {v : V} {f : S} {lo hi : Nat} {h : H} (w : OwnV v f lo hi h) (hn : hi ≤ h.n) : Sep (OwnV v f lo hi) lo hi h := ⟨hn, fun h' hn' hg => by
  obtain ⟨y, rfl, w⟩ := w
  exact ⟨y, rfl, (w.sep hn).q h' hn' hg⟩⟩
theorem OwnV.pv {cl : Nat → List V → H → Option (V × H)} {g : Nat} {off : Bool} {xs : List V} {h : H} {n : Nat} {v : V} {f : S} {h1 : H} (hn : h.n = n) (hc : cl g xs (D n) = some (v, h1)) (hw : n ≤ h1.n ∧ OwnV v f n h1.n h1) :
    ∃ h', (∀ (R : Type) (k : V → H → Option R), pcallF cl g off xs h k = k v h') ∧ Up h h' ∧ n ≤ h'.n ∧ Sep (OwnV v f n h'.n) n h'.n h' := by
  obtain ⟨hle, y, rfl, w⟩ := hw
  obtain ⟨h', e, u, hn', w'⟩ := pV (off := off) hn hc hle w
  exact ⟨h', e, u, hn', OwnV.sep ⟨y, rfl, w'.now⟩ (Nat.le_refl _)⟩
/-- flat rows in one block -/
theorem own_flat {h : H} {n z : Nat} {rows : List (List S)} (hn : n < h.n) (hz0 : 0 < z) (hg : h.g n = .rw z rows.flatten) (hz : ∀ r ∈ rows, r.length = z) (hs : ∀ r ∈ rows, ∀ s ∈ r, Sc s) : OwnV (sv n 0 rows.length) (.fs rows) n h.n h := by
  refine ⟨_, rfl, [n], ?_, by simp, by simpa using hn⟩
  exact Rep.sl (bss := []) hn hz0 hg hz (RepL.sc fun s hs' => by
    obtain ⟨r, h1, h2⟩ := List.mem_flatten.1 hs'
    exact hs r h1 s h2)
theorem rws_sc {rs : List RowD} : ∀ r ∈ rws rs, ∀ s ∈ r, Sc s := by
  intro r hr
  obtain ⟨c, _, rfl⟩ := List.mem_map.1 hr
  exact row_sc
theorem NewRw.own {n : Nat} {h : H} {v : V} {rs : List RowD} (w : NewRw n h v rs) : n ≤ h.n ∧ OwnV v (.fs (rws rs)) n h.n h := by
  have := own_flat (h := h) (n := n) (z := 4) (rows := rws rs) (by have := w.le; omega) (by omega) w.g rws_row rws_sc
  rw [rws_len] at this
  rw [w.v]
  exact ⟨by have := w.le; omega, this⟩
/-! results of rows -/
end Vm
/-
  Slices of flat rows that grow in a loop.
-/
namespace Vm
open Go
theorem szI {a b x : Int} (h : ¬ (if a ≤ b then x else -1) < 0) : a ≤ b := by
  by_cases h2 : a ≤ b
  · exact h2
  · rw [if_neg h2] at h; omega
theorem app_flat {z : Nat} {y : S} {rows : List (List S)} {bs : List Nat} {h : H} {row : List S} (w : OutS z 0 y rows bs h) (hs : ∀ s ∈ row, Sc s) (hz : row.length = z) (hz0 : 0 < z) (hl : rows.length + 1 ≤ lim) :
    ∃ h' bs', appS z (h.new z row) (.s y) (sv h.n 0 1) = some (sv (h.n + 1) 0 (rows.length + 1), h') ∧ OutS z 0 (.sl (some (h.n + 1, 0)) (rows.length + 1)) (rows ++ [row]) bs' h' ∧ h'.n = h.n + 2 ∧ (∀ c ∈ bs', c = h.n + 1 ∨ c ∈ bs) ∧ (∀ c, c < h.n → c ∉ bs → h'.g c = h.g c) := by
  obtain ⟨h', bs', e, o, n, m, k, _, _⟩ := app_row (fr := row) (br := []) w (RepL.sc hs) hz hz0 (by simp) (by simp) hl
  exact ⟨h', bs', e, o, n, fun c hc => by rcases m c hc with h | h | h <;> simp_all, k⟩
/-- a slice that grows over what stood in a heap of height n -/
def Gr (z n : Nat) (h0 : H) (y : S) (rows : List (List S)) (h : H) : Prop := n ≤ h.n ∧ (∀ c, c < n → h.g c = h0.g c) ∧ ∃ bs, OutS z 0 y rows bs h ∧ ∀ b ∈ bs, n ≤ b
theorem Gr.none {z n : Nat} {h : H} (hn : n ≤ h.n) : Gr z n h (.sl none 0) [] h := ⟨hn, fun _ _ => rfl, [], OutS.none, by simp⟩
theorem Gr.new {z : Nat} {h : H} (hz0 : 0 < z) : Gr z h.n h (.sl (some (h.n, 0)) 0) [] (h.new z []) := by
  refine ⟨by simp, fun c hc => new_g' (by omega), [h.n], ⟨?_, by simp, .inr ⟨h.n, [], rfl, new_g _ _ _⟩, by simp⟩, by simp⟩
  exact Rep.sl (rows := []) (bss := []) (by simp) hz0 (new_g _ _ _) (by simp) .nil
theorem Gr.keep {z n : Nat} {h0 h h' : H} {y : S} {rows : List (List S)} (w : Gr z n h0 y rows h) (x : HKeep h h') : Gr z n h0 y rows h' := by
  obtain ⟨w1, w2, bs, w3, w4⟩ := w
  exact ⟨Nat.le_trans w1 x.1, fun c hc => (x.2 c (by omega)).1.trans (w2 c hc), bs, w3.frame fun b hb => by
    have := w3.rep.lt b hb
    exact ⟨by have := x.1; omega, (x.2 b this).1⟩, w4⟩
theorem Gr.app {z n : Nat} {h0 h : H} {y : S} {rows : List (List S)} {row : List S} (w : Gr z n h0 y rows h) (hs : ∀ s ∈ row, Sc s) (hz : row.length = z) (hz0 : 0 < z) (hl : rows.length + 1 ≤ lim) :
    ∃ h', appS z (h.new z row) (.s y) (sv h.n 0 1) = some (sv (h.n + 1) 0 (rows.length + 1), h') ∧ Gr z n h0 (.sl (some (h.n + 1, 0)) (rows.length + 1)) (rows ++ [row]) h' ∧ h'.n = h.n + 2 := by
  obtain ⟨w1, w2, bs, w3, w4⟩ := w
  obtain ⟨h', bs', e, o, hn, m, k⟩ := app_flat w3 hs hz hz0 hl
  refine ⟨h', e, ⟨by omega, fun c hc => (k c (by omega) fun hh => by have := w4 c hh; omega).trans (w2 c hc), bs', o, fun b hb => ?_⟩, hn⟩
  rcases m b hb with rfl | hb
  · omega
  · exact w4 b hb
theorem Gr.own {z n : Nat} {h0 h : H} {y : S} {rows : List (List S)} (w : Gr z n h0 y rows h) : OwnF 1 y (.fs rows) n h.n h := by
  obtain ⟨w1, w2, bs, w3, w4⟩ := w
  exact ⟨bs, w3.rep, w3.nd, fun b hb => ⟨w4 b hb, w3.rep.lt b hb⟩⟩
theorem Gr.frz {z n : Nat} {h0 h : H} {y : S} {rows : List (List S)} (w : Gr z n h0 y rows h) : frzV h (.s y) = some (lv rows) := w.own.frz
theorem OwnF.lift {d k : Nat} {y f : S} {lo hi : Nat} {h : H} (w : OwnF d y f lo hi h) (hk : d ≤ k) : OwnF k y f lo hi h := by
  obtain ⟨bs, a, b, c⟩ := w
  exact ⟨bs, a.lifts hk, b, c⟩
theorem OwnF.no {d : Nat} {y f : S} {lo hi : Nat} {h : H} (w : OwnF d y f lo hi h) : isNo y = false := by
  obtain ⟨bs, a, b, c⟩ := w
  exact a.isNo
/-- the value that grew is not let go -/
theorem grow_tidy {h h' : H} {l : List V} {m k : Nat} (hm : h.n ≤ m) (hl : sv m 0 k ∈ l) : tidy h l h' = h' := by
  refine no_tidy_v ?_
  rw [List.all_eq_false]
  exact ⟨_, hl, by simp [belV, belS]; omega⟩
/-- a fault, of a depth that is asked -/
theorem bad2D (n d : Nat) (c : Int) : ∃ h', (stK 2 ((D n).new 0 [.int .i64 0, .sl none 0]) (pv ((D n).n) 0) (.agg [.int .i64 c, .sl none 0]) fun h105 =>
      (loadN 2 h105 (pv ((D n).n) 0)).bind fun c106 => some (V.agg c106, h105)) = some (.agg [.int .i64 c, .sl none 0], h') ∧ NewC d [.int .i64 c, .sl none 0] [.int .i64 c, .fs []] n h' := by
  rw [st2_new, loadN_2 (by simp) (by exact g_st), Vm.ob]
  refine ⟨_, rfl, by simp, [], ?_, by simp, by simp⟩
  exact RepL.cons (bs := []) (Rep.sc trivial) (RepL.cons (bs := []) Rep.nil .nil)
end Vm
/-
  Slices of changes: their size, a copy, a comparison; marked.
-/
namespace Vm
open Go
def chs (rs : List ChgD) : List (List S) := rs.map ChgD.cs
@[simp] theorem chs_len (rs : List ChgD) : (chs rs).length = rs.length := by simp [chs]
theorem chs_row {rs : List ChgD} : ∀ r ∈ chs rs, r.length = 10 := by
  intro r hr
  obtain ⟨c, _, rfl⟩ := List.mem_map.1 hr
  rfl
theorem chg_sc {c : ChgD} : ∀ s ∈ c.cs, Sc s := by
  intro s hs
  simp only [List.mem_cons, List.not_mem_nil, or_false] at hs
  rcases hs with rfl | rfl | rfl | rfl | rfl | rfl | rfl | rfl | rfl | rfl <;> trivial
theorem chs_sc {rs : List ChgD} : ∀ r ∈ chs rs, ∀ s ∈ r, Sc s := by
  intro r hr
  obtain ⟨c, _, rfl⟩ := List.mem_map.1 hr
  exact chg_sc
theorem chs_get {rs : List ChgD} {i : Nat} {r : ChgD} (h : rs[i]? = some r) : (chs rs)[i]? = some r.cs := by simp [chs, h]
theorem chs_snoc (rs : List ChgD) (r : ChgD) : chs (rs ++ [r]) = chs rs ++ [r.cs] := by simp [chs]
section
variable {R : Type}
theorem idxF_ch {rs : List ChgD} {i : Nat} {r : ChgD} {k : List S → Option R} (h : rs[i]? = some r) : idxF 10 (chs rs) (i : Int) k = k r.cs := idxF_at (chs_get h) rfl
end
theorem rowN_ch {r : ChgD} : rowN 10 r.cs 0 = some r.cs := rowN_all rfl
theorem normV_ch {r : ChgD} : normV 10 (fv r.cs 0) = fv r.cs 0 := rfl
theorem rows_Change {m : Nat} : ∀ rows : List (List S), (∀ r ∈ rows, r.length = PR.cellsOf T.laws_Change ∧ Rp PR m T.laws_Change r) → ∃ rs : List ChgD, rows = chs rs ∧ ∀ r ∈ rs, r.ok
  | [], _ => ⟨[], rfl, by simp⟩
  | r :: rows, hr => by
    obtain ⟨rs, h1, h2⟩ := rows_Change rows fun r hm => hr r (by simp [hm])
    obtain ⟨a, h3, h4⟩ := rp_Change (hr r (by simp)).2
    refine ⟨a :: rs, by rw [h1, h3]; rfl, fun x hx => ?_⟩
    rcases List.mem_cons.1 hx with rfl | hx
    · exact h4
    · exact h2 x hx
theorem arg_Changes {x : V} (hr : ArgRp PR T.S_laws_Change x) : ∃ rs : List ChgD, x = lv (chs rs) ∧ (∀ r ∈ rs, r.ok) ∧ rs.length ≤ maxLen := by
  obtain ⟨s, n, rfl, h1⟩ := hr.slice und_S_laws_Change
  obtain ⟨m, rows, h1, h2, h3⟩ := h1.slice und_S_laws_Change
  cases h1
  obtain ⟨rs, rfl, h4⟩ := rows_Change rows h3
  exact ⟨rs, rfl, h4, by simpa using h2⟩
/-! size -/
def szChgs : List ChgD → Int → Int
  | [], left => left
  | r :: rs, left => if 0 ≤ szChg r left then szChgs rs (szChg r left) else -1
theorem szChg_le {c : ChgD} {left : Int} (h : 0 ≤ left) : szChg c left ≤ left ∧ -1 ≤ szChg c left := by
  unfold szChg
  split
  · split <;> omega
  · omega
theorem szChgs_le : ∀ (rs : List ChgD) (left : Int), 0 ≤ left → szChgs rs left ≤ left ∧ -1 ≤ szChgs rs left
  | [], left, h => ⟨Int.le_refl _, by simp only [szChgs]; omega⟩
  | r :: rs, left, h => by
    have h1 := szChg_le (c := r) h
    simp only [szChgs]
    split
    · rename_i h2
      have := szChgs_le rs (szChg r left) h2; omega
    · omega
theorem p_szChangeS {all : List ChgD} {left : Int} (h1 : 0 ≤ left) (h2 : left < 9223372036854775808) (hl : all.length ≤ maxLen) (hr : ∀ r ∈ all, r.ok) : pureV (call Ev) Fn.laws_szChangeS [lv (chs all), iv .i64 left] = some (iv .i64 (if (all.length : Int) ≤ left then szChgs all (left - all.length) else -1)) := by
  unfold maxLen at hl
  have loop : ∀ (rs : List ChgD) (i : Nat) (q : Int), all.drop i = rs → 0 ≤ q → q < 9223372036854775808 →
      (Lp.laws_szChangeS 0 [lv (chs all), iv .i64 q, iv .i64 i] (D 0)).bind (fun o102 => lcase o102 (fun l103 h104 =>
        (l103[0]?).bind fun w107 =>
        gV1 w107 fun x108 =>
        gI .i64 x108 fun i109 =>
        some (iv .i64 i109)) (fun v105 h106 =>
        frzV h106 v105)) = some (iv .i64 (szChgs rs q)) := by
    intro rs
    induction rs with
    | nil =>
      intro i q hi h1 h2
      have := drop_nil hi
      rw [eq_laws_szChangeS_l0, vcase_b, if_neg (by simp; omega), tidy_self, ob, lcase_done]
      simp only [gx0, ob, gV1_s, gI_i, szChgs]
    | cons r rs ih =>
      intro i q hi h1 h2
      obtain ⟨g1, g2, g3⟩ := drop_cons hi
      have hle := szChg_le (c := r) h1
      rw [eq_laws_szChangeS_l0, vcase_b, if_pos (by simp; omega), idxF_ch g1, rowN_ch]
      simp only [ob, gx0, gx1, gI_i, gS_s, gB_b, gVA_a, ln0, ln1, Nat.zero_add, Nat.reduceAdd, if_true]
      rw [pc (p_szChange r h1 h2 (hr r (List.mem_of_getElem? g1))) rfl]
      simp only [gV1_s, gI_i, vcase_b, decide_eq_true_eq, szChgs]
      by_cases hle : 0 ≤ szChg r q
      · rw [if_neg (by omega), w64 (by omega) (by omega), tidy_self, show (i : Int) + 1 = ((i + 1 : Nat) : Int) from by omega, if_pos hle]
        exact ih (i + 1) _ g2 (by omega) (by omega)
      · rw [if_pos (by omega), if_neg hle]; rfl
  rw [pu_laws_szChangeS, vcase_b, chs_len, w64 (by omega) (by omega)]
  by_cases hq : (all.length : Int) ≤ left
  · rw [if_neg (by simp; omega), if_pos hq]
    exact loop all 0 _ rfl (by omega) (by omega)
  · rw [if_pos (by simp; omega), if_neg hq]
/-! a copy -/
/-! a comparison -/
theorem p_eqChange (r : ChgD) : pureV (call Ev) Fn.laws_eqChange [.agg r.cs, .agg r.cs] = some (bv true) := by
  rw [pu_laws_eqChange, vcase_b, if_neg (by simp), pc (p_eqRow r.b) rfl]
  simp only [gV1_s, gB_b, vcase_b]
  rw [if_neg (by simp), if_neg (by simp), pc (p_eqRow r.a) rfl]
  simp
theorem p_eqChangeS {all : List ChgD} (hl : all.length ≤ maxLen) : pureV (call Ev) Fn.laws_eqChangeS [lv (chs all), lv (chs all)] = some (bv true) := by
  unfold maxLen at hl
  have loop : ∀ (rs : List ChgD) (i : Nat), all.drop i = rs → Lp.laws_eqChangeS 0 [lv (chs all), lv (chs all), iv .i64 i] (D 0) = some (.done [] (D 0)) := by
    intro rs
    induction rs with
    | nil =>
      intro i hi
      have := drop_nil hi
      rw [eq_laws_eqChangeS_l0, vcase_b, if_neg (by simp; omega), tidy_self]
    | cons r rs ih =>
      intro i hi
      obtain ⟨g1, g2, g3⟩ := drop_cons hi
      rw [eq_laws_eqChangeS_l0, vcase_b, if_pos (by simp; omega), idxF_ch g1, rowN_ch]
      simp only [ob, gx0, gx1, gI_i, gS_s, gB_b, gVA_a, ln0, ln1, Nat.zero_add, Nat.reduceAdd, if_true]
      rw [idxF_ch g1, rowN_ch]
      simp only [ob, gx0, gx1, gI_i, gS_s, gB_b, gVA_a, ln0, ln1, Nat.zero_add, Nat.reduceAdd, if_true]
      rw [pc (p_eqChange r) rfl]
      simp only [gV1_s, gB_b, hchk_self, vcase_b]
      rw [if_neg (by simp), tidy_self, w64 (by omega) (by omega), show (i : Int) + 1 = ((i + 1 : Nat) : Int) from by omega]
      exact ih (i + 1) g2
  rw [pu_laws_eqChangeS, vcase_b, if_neg (by simp), show iv .i64 0 = iv .i64 ((0 : Nat) : Int) from rfl, loop all 0 rfl]
  simp
/-! marks -/
def szG (_ : ChgD) : Nat := 10
theorem szG_all : ∀ rs : List ChgD, szAll szG rs = 10 * rs.length
  | [] => rfl
  | r :: rs => by simp only [szAll, szG, szG_all rs, List.length_cons]; omega
theorem b_rem3 (k : Nat) : bin Ev .rem 3 (iv .i64 (k : Int)) (iv .i64 3) = some (iv .i64 ((k : Int).tmod 3)) := by simp [bin, binI]
/-! results of changes -/
end Vm
/-
  Cells that lie in a new block.
-/
namespace Vm
open Go
theorem setAt_full {cs r : List S} (h : cs.length ≤ r.length) : setAt cs 0 r = r := by simp [setAt, List.drop_of_length_le h]
/-! cells that lie in a new block -/
def putX (h : H) (zs cs : List S) : H := (h.new 0 zs).put h.n (.rw 0 cs)
theorem putX_keep (h : H) (zs cs : List S) : HKeep h (putX h zs cs) := ((HKeep.refl h).new).put (Nat.le_refl _)
theorem putX_n (h : H) (zs cs : List S) : (putX h zs cs).n = h.n + 1 := rfl
theorem putX_g (h : H) (zs cs : List S) : (putX h zs cs).g h.n = .rw 0 cs := put_g _ _ _
theorem putX_cells (h : H) (zs cs : List S) : (putX h zs cs).cells h.n = cs := by
  unfold H.cells; rw [if_pos (by rw [putX_n]; omega), putX_g]; rfl
theorem putX_tidy {h : H} {zs cs : List S} {l : List V} (hl : l.all (belV h.n) = true) : tidy h l (putX h zs cs) = h := tidy_ext (putX_keep h zs cs) hl
section
variable {R : Type}
theorem stK_X {z : Nat} {h : H} {zs cs : List S} {k : H → Option R} (hz : zs.length = z) (hc : cs.length = z) : stK z (h.new 0 zs) (pv h.n 0) (.agg cs) k = k (putX h zs cs) := by
  rw [stK_rw (z := z) (o := 0) (b := h.n) (r := cs) (e := 0) (cs := zs) (by simp) (new_g h _ _) (.inr rfl) hc (by omega), setAt_full (by omega)]
  rfl
end
theorem loadN_X {h : H} {zs cs : List S} {n o : Nat} {r : List S} (hn : o + n ≤ cs.length) (hr : (cs.drop o).take n = r) : loadN n (putX h zs cs) (pv h.n o) = some r := by
  have := putX_cells h zs cs
  have h2 : h.n < (putX h zs cs).n := by rw [putX_n]; omega
  simp only [loadN]
  rw [if_pos ⟨h2, by rw [this]; exact hn⟩, this, hr]
theorem load1_X {h : H} {zs cs : List S} {o : Nat} {x : S} (hx : cs[o]? = some x) : load1 (putX h zs cs) (pv h.n o) = some x := by
  simp only [load1]; rw [putX_cells, hx]
theorem loadN_XX {h : H} {zs zs' cs cs' r : List S} {n : Nat} (hn : n ≤ cs.length) (hr : cs.take n = r) : loadN n (putX (putX h zs cs) zs' cs') (pv h.n 0) = some r := by
  have h1 : h.n < (putX h zs cs).n := by rw [putX_n]; omega
  have h2 : h.n < (putX (putX h zs cs) zs' cs').n := by rw [putX_n]; omega
  have hc : (putX (putX h zs cs) zs' cs').cells h.n = cs := by
    unfold H.cells; rw [if_pos h2, ((putX_keep _ _ _).2 h.n h1).1, putX_g]; rfl
  simp only [loadN]
  rw [if_pos ⟨h2, by rw [hc]; omega⟩, hc, List.drop_zero, hr]
end Vm
/-
  Transactions: their size, a copy, a comparison.
-/
namespace Vm
open Go
structure KeyD where
  tab : Int
  key : Int
deriving DecidableEq
abbrev KeyD.cs (k : KeyD) : List S := [.int .i64 k.tab, .int .i64 k.key]
def kys (l : List KeyD) : List (List S) := l.map KeyD.cs
def mks (l : List Int) : List (List S) := l.map fun n => [.int .i64 n]
structure TxD where
  id : Int
  undo : List ChgD
  marks : List Int
  locks : List KeyD
abbrev TxD.cs (x : TxD) : List S := [.int .i64 x.id, .fs (chs x.undo), .fs (mks x.marks), .fs (kys x.locks)]
structure TxD.ok (x : TxD) : Prop where
  u : ∀ c ∈ x.undo, c.ok
  ul : x.undo.length ≤ maxLen
  ml : x.marks.length ≤ maxLen
  ll : x.locks.length ≤ maxLen
def txs (l : List TxD) : List (List S) := l.map TxD.cs
@[simp] theorem kys_len (l : List KeyD) : (kys l).length = l.length := by simp [kys]
@[simp] theorem mks_len (l : List Int) : (mks l).length = l.length := by simp [mks]
@[simp] theorem txs_len (l : List TxD) : (txs l).length = l.length := by simp [txs]
theorem kys_row {l : List KeyD} : ∀ r ∈ kys l, r.length = 2 := by
  intro r hr
  obtain ⟨c, _, rfl⟩ := List.mem_map.1 hr
  rfl
theorem mks_row {l : List Int} : ∀ r ∈ mks l, r.length = 1 := by
  intro r hr
  obtain ⟨c, _, rfl⟩ := List.mem_map.1 hr
  rfl
theorem txs_row {l : List TxD} : ∀ r ∈ txs l, r.length = 4 := by
  intro r hr
  obtain ⟨c, _, rfl⟩ := List.mem_map.1 hr
  rfl
theorem kys_cl {l : List KeyD} : ∀ r ∈ kys l, ∀ s ∈ r, Cl s := by
  intro r hr s hs
  obtain ⟨c, _, rfl⟩ := List.mem_map.1 hr
  simp only [List.mem_cons, List.not_mem_nil, or_false] at hs
  rcases hs with rfl | rfl <;> exact cl_i
theorem mks_cl {l : List Int} : ∀ r ∈ mks l, ∀ s ∈ r, Cl s := by
  intro r hr s hs
  obtain ⟨c, _, rfl⟩ := List.mem_map.1 hr
  simp only [List.mem_cons, List.not_mem_nil, or_false] at hs
  rcases hs with rfl; exact cl_i
theorem tx_cl {x : TxD} : ∀ s ∈ x.cs, Cl s := by
  intro s hs
  simp only [List.mem_cons, List.not_mem_nil, or_false] at hs
  rcases hs with rfl | rfl | rfl | rfl <;> first | exact cl_i | exact cl_f
theorem txs_cl {l : List TxD} : ∀ r ∈ txs l, ∀ s ∈ r, Cl s := by
  intro r hr s hs
  obtain ⟨c, _, rfl⟩ := List.mem_map.1 hr
  exact tx_cl s hs
theorem kys_get {l : List KeyD} {i : Nat} {k : KeyD} (h : l[i]? = some k) : (kys l)[i]? = some k.cs := by simp [kys, h]
theorem mks_get {l : List Int} {i : Nat} {k : Int} (h : l[i]? = some k) : (mks l)[i]? = some [.int .i64 k] := by simp [mks, h]
theorem txs_get {l : List TxD} {i : Nat} {x : TxD} (h : l[i]? = some x) : (txs l)[i]? = some x.cs := by simp [txs, h]
theorem idxF_ky {R : Type} {l : List KeyD} {i : Nat} {k : KeyD} {f : List S → Option R} (h : l[i]? = some k) : idxF 2 (kys l) (i : Int) f = f k.cs := idxF_at (kys_get h) rfl
theorem idxF_mk {R : Type} {l : List Int} {i : Nat} {k : Int} {f : List S → Option R} (h : l[i]? = some k) : idxF 1 (mks l) (i : Int) f = f [.int .i64 k] := idxF_at (mks_get h) rfl
theorem idxF_tx {R : Type} {l : List TxD} {i : Nat} {x : TxD} {f : List S → Option R} (h : l[i]? = some x) : idxF 4 (txs l) (i : Int) f = f x.cs := idxF_at (txs_get h) rfl
theorem rowN_ky {k : KeyD} : rowN 2 k.cs 0 = some k.cs := rowN_all rfl
theorem rowN_tx {x : TxD} : rowN 4 x.cs 0 = some x.cs := rowN_all rfl
theorem normV_ky {k : KeyD} : normV 2 (fv k.cs 0) = fv k.cs 0 := rfl
theorem normV_tx {x : TxD} : normV 4 (fv x.cs 0) = fv x.cs 0 := rfl
/-! arguments -/
theorem rp_Key {n : Nat} {xs : List S} (hr : Rp PR n T.laws_Key xs) : ∃ k : KeyD, xs = k.cs := by
  obtain ⟨m, hf⟩ := hr.st und_laws_Key
  obtain ⟨a0, b0, rfl, h0, a1, b1, rfl, h1, rfl⟩ := hf
  obtain ⟨x0, rfl, w0⟩ := h0.int und_int64
  obtain ⟨x1, rfl, w1⟩ := h1.int und_int64
  exact ⟨⟨x0, x1⟩, rfl⟩
theorem arg_Key {x : V} (hr : ArgRp PR T.laws_Key x) : ∃ k : KeyD, x = .agg k.cs := by
  obtain ⟨cs, n, rfl, h1⟩ := hr.st und_laws_Key
  obtain ⟨k, rfl⟩ := rp_Key h1
  exact ⟨k, rfl⟩
theorem rows_Key {m : Nat} : ∀ rows : List (List S), (∀ r ∈ rows, r.length = PR.cellsOf T.laws_Key ∧ Rp PR m T.laws_Key r) → ∃ l : List KeyD, rows = kys l
  | [], _ => ⟨[], rfl⟩
  | r :: rows, hr => by
    obtain ⟨l, h1⟩ := rows_Key rows fun r hm => hr r (by simp [hm])
    obtain ⟨a, h3⟩ := rp_Key (hr r (by simp)).2
    exact ⟨a :: l, by rw [h1, h3]; rfl⟩
theorem rows_Int {m : Nat} : ∀ rows : List (List S), (∀ r ∈ rows, r.length = PR.cellsOf T.int64 ∧ Rp PR m T.int64 r) → ∃ l : List Int, rows = mks l
  | [], _ => ⟨[], rfl⟩
  | r :: rows, hr => by
    obtain ⟨l, h1⟩ := rows_Int rows fun r hm => hr r (by simp [hm])
    obtain ⟨a, h3, _⟩ := (hr r (by simp)).2.int und_int64
    exact ⟨a :: l, by rw [h1, h3]; rfl⟩
theorem rp_Tx {n : Nat} {xs : List S} (hr : Rp PR n T.laws_Tx xs) : ∃ x : TxD, xs = x.cs ∧ x.ok := by
  obtain ⟨m, hf⟩ := hr.st und_laws_Tx
  obtain ⟨a0, b0, rfl, h0, a1, b1, rfl, h1, a2, b2, rfl, h2, a3, b3, rfl, h3, rfl⟩ := hf
  obtain ⟨x0, rfl, w0⟩ := h0.int und_int64
  obtain ⟨m1, r1, rfl, l1, w1⟩ := h1.slice und_S_laws_Change
  obtain ⟨c1, rfl, o1⟩ := rows_Change r1 w1
  obtain ⟨m2, r2, rfl, l2, w2⟩ := h2.slice und_S_int64
  obtain ⟨c2, rfl⟩ := rows_Int r2 w2
  obtain ⟨m3, r3, rfl, l3, w3⟩ := h3.slice und_S_laws_Key
  obtain ⟨c3, rfl⟩ := rows_Key r3 w3
  exact ⟨⟨x0, c1, c2, c3⟩, rfl, o1, by simpa using l1, by simpa using l2, by simpa using l3⟩
theorem rows_Tx {m : Nat} : ∀ rows : List (List S), (∀ r ∈ rows, r.length = PR.cellsOf T.laws_Tx ∧ Rp PR m T.laws_Tx r) → ∃ l : List TxD, rows = txs l ∧ ∀ x ∈ l, x.ok
  | [], _ => ⟨[], rfl, by simp⟩
  | r :: rows, hr => by
    obtain ⟨l, h1, h2⟩ := rows_Tx rows fun r hm => hr r (by simp [hm])
    obtain ⟨a, h3, h4⟩ := rp_Tx (hr r (by simp)).2
    refine ⟨a :: l, by rw [h1, h3]; rfl, fun x hx => ?_⟩
    rcases List.mem_cons.1 hx with rfl | hx
    · exact h4
    · exact h2 x hx
theorem arg_Txs {x : V} (hr : ArgRp PR T.S_laws_Tx x) : ∃ l : List TxD, x = lv (txs l) ∧ (∀ x ∈ l, x.ok) ∧ l.length ≤ maxLen := by
  obtain ⟨s, n, rfl, h1⟩ := hr.slice und_S_laws_Tx
  obtain ⟨m, rows, h1, h2, h3⟩ := h1.slice und_S_laws_Tx
  cases h1
  obtain ⟨l, rfl, h4⟩ := rows_Tx rows h3
  exact ⟨l, rfl, h4, by simpa using h2⟩
/-! size -/
def szTx (x : TxD) (left : Int) : Int :=
  if (x.undo.length : Int) ≤ left ∧ 0 ≤ szChgs x.undo (left - x.undo.length) then
    (if (x.marks.length : Int) ≤ szChgs x.undo (left - x.undo.length) then
      (if (x.locks.length : Int) ≤ szChgs x.undo (left - x.undo.length) - x.marks.length then szChgs x.undo (left - x.undo.length) - x.marks.length - x.locks.length else -1) else -1) else -1
theorem szTx_le {x : TxD} {left : Int} (h : 0 ≤ left) : szTx x left ≤ left ∧ -1 ≤ szTx x left := by
  unfold szTx
  split
  · rename_i h1
    have := szChgs_le x.undo (left - x.undo.length) (by omega)
    split
    · split <;> omega
    · omega
  · omega
/-- what is left says how much there is -/
theorem szTx_ok {x : TxD} {left : Int} (h : 0 ≤ left) (h2 : 0 ≤ szTx x left) : (x.undo.length : Int) ≤ left ∧ (x.marks.length : Int) ≤ left ∧ (x.locks.length : Int) ≤ left := by
  unfold szTx at h2
  split at h2
  · rename_i h1
    have := szChgs_le x.undo (left - x.undo.length) (by omega)
    split at h2
    · split at h2
      · omega
      · omega
    · omega
  · omega
theorem p_szIntS {l : List Int} {left : Int} (h1 : 0 ≤ left) (h2 : left < 9223372036854775808) (hl : l.length ≤ maxLen) : pureV (call Ev) Fn.laws_szInt64S [lv (mks l), iv .i64 left] = some (iv .i64 (if (l.length : Int) ≤ left then left - l.length else -1)) := by
  unfold maxLen at hl
  rw [pu_laws_szInt64S, vcase_b, mks_len, w64 (by omega) (by omega)]
  by_cases hq : (l.length : Int) ≤ left
  · rw [if_neg (by simp; omega), if_pos hq]
  · rw [if_pos (by simp; omega), if_neg hq]
theorem p_szKeyS {l : List KeyD} {left : Int} (h1 : 0 ≤ left) (h2 : left < 9223372036854775808) (hl : l.length ≤ maxLen) : pureV (call Ev) Fn.laws_szKeyS [lv (kys l), iv .i64 left] = some (iv .i64 (if (l.length : Int) ≤ left then left - l.length else -1)) := by
  unfold maxLen at hl
  rw [pu_laws_szKeyS, vcase_b, kys_len, w64 (by omega) (by omega)]
  by_cases hq : (l.length : Int) ≤ left
  · rw [if_neg (by simp; omega), if_pos hq]
  · rw [if_pos (by simp; omega), if_neg hq]
theorem p_szTx (x : TxD) {left : Int} (h1 : 0 ≤ left) (h2 : left < 9223372036854775808) (hx : x.ok) : pureV (call Ev) Fn.laws_szTx [.agg x.cs, iv .i64 left] = some (iv .i64 (szTx x left)) := by
  rw [pu_laws_szTx, pc (p_szChangeS h1 h2 hx.ul hx.u) rfl]
  simp only [gV1_s, gI_i, vcase_b, decide_eq_true_eq, szTx]
  by_cases hu : (x.undo.length : Int) ≤ left
  · rw [if_pos hu]
    have hle := szChgs_le x.undo (left - x.undo.length) (by omega)
    by_cases hz : 0 ≤ szChgs x.undo (left - x.undo.length)
    · rw [if_neg (by omega), if_pos ⟨hu, hz⟩, pc (p_szIntS hz (by omega) hx.ml) rfl]
      simp only [gV1_s, gI_i, vcase_b, decide_eq_true_eq]
      by_cases hm : (x.marks.length : Int) ≤ szChgs x.undo (left - x.undo.length)
      · rw [if_pos hm, if_neg (by omega), pc (p_szKeyS (by omega) (by omega) hx.ll) rfl, if_pos hm]
        simp only [gV1_s, gI_i, vcase_b, decide_eq_true_eq]
        by_cases hk : (x.locks.length : Int) ≤ szChgs x.undo (left - x.undo.length) - x.marks.length
        · rw [if_pos hk, if_neg (by omega)]
        · rw [if_neg hk, if_pos (by omega)]
      · rw [if_neg hm, if_pos (by omega), if_neg hm]
    · rw [if_pos (by omega), if_neg (fun hh => hz hh.2)]
  · rw [if_neg hu, if_pos (by omega), if_neg (fun hh => hu hh.1)]
def szTxs : List TxD → Int → Int
  | [], left => left
  | x :: l, left => if 0 ≤ szTx x left then szTxs l (szTx x left) else -1
theorem szTxs_le : ∀ (l : List TxD) (left : Int), 0 ≤ left → szTxs l left ≤ left ∧ -1 ≤ szTxs l left
  | [], left, h => ⟨Int.le_refl _, by simp only [szTxs]; omega⟩
  | x :: l, left, h => by
    have h1 := szTx_le (x := x) h
    simp only [szTxs]
    split
    · rename_i h2
      have := szTxs_le l (szTx x left) h2; omega
    · omega
theorem szTxs_ok : ∀ (l : List TxD) (left : Int), 0 ≤ left → 0 ≤ szTxs l left → ∀ x ∈ l, (x.undo.length : Int) ≤ left ∧ (x.marks.length : Int) ≤ left ∧ (x.locks.length : Int) ≤ left
  | [], left, h, _, x, hx => by simp at hx
  | y :: l, left, h, h2, x, hx => by
    simp only [szTxs] at h2
    split at h2
    · rename_i h3
      have h4 := szTx_le (x := y) h
      rcases List.mem_cons.1 hx with rfl | hx
      · exact szTx_ok h h3
      · have := szTxs_ok l _ h3 h2 x hx; omega
    · omega
theorem p_szTxS {all : List TxD} {left : Int} (h1 : 0 ≤ left) (h2 : left < 9223372036854775808) (hl : all.length ≤ maxLen) (hr : ∀ x ∈ all, x.ok) : pureV (call Ev) Fn.laws_szTxS [lv (txs all), iv .i64 left] = some (iv .i64 (if (all.length : Int) ≤ left then szTxs all (left - all.length) else -1)) := by
  unfold maxLen at hl
  have loop : ∀ (rs : List TxD) (i : Nat) (q : Int), all.drop i = rs → 0 ≤ q → q < 9223372036854775808 →
      (Lp.laws_szTxS 0 [lv (txs all), iv .i64 q, iv .i64 i] (D 0)).bind (fun o102 => lcase o102 (fun l103 h104 =>
        (l103[0]?).bind fun w107 =>
        gV1 w107 fun x108 =>
        gI .i64 x108 fun i109 =>
        some (iv .i64 i109)) (fun v105 h106 =>
        frzV h106 v105)) = some (iv .i64 (szTxs rs q)) := by
    intro rs
    induction rs with
    | nil =>
      intro i q hi h1 h2
      have := drop_nil hi
      rw [eq_laws_szTxS_l0, vcase_b, if_neg (by simp; omega), tidy_self, ob, lcase_done]
      simp only [gx0, ob, gV1_s, gI_i, szTxs]
    | cons r rs ih =>
      intro i q hi h1 h2
      obtain ⟨g1, g2, g3⟩ := drop_cons hi
      have hle := szTx_le (x := r) h1
      rw [eq_laws_szTxS_l0, vcase_b, if_pos (by simp; omega), idxF_tx g1, rowN_tx]
      simp only [ob, gx0, gx1, gI_i, gF_f, ln0, ln1, Nat.zero_add, Nat.reduceAdd, if_true]
      rw [pc (p_szTx r h1 h2 (hr r (List.mem_of_getElem? g1))) rfl]
      simp only [gV1_s, gI_i, vcase_b, decide_eq_true_eq, szTxs]
      by_cases hle : 0 ≤ szTx r q
      · rw [if_neg (by omega), w64 (by omega) (by omega), tidy_self, show (i : Int) + 1 = ((i + 1 : Nat) : Int) from by omega, if_pos hle]
        exact ih (i + 1) _ g2 (by omega) (by omega)
      · rw [if_pos (by omega), if_neg hle]; rfl
  rw [pu_laws_szTxS, vcase_b, txs_len, w64 (by omega) (by omega)]
  by_cases hq : (all.length : Int) ≤ left
  · rw [if_neg (by simp; omega), if_pos hq]
    exact loop all 0 _ rfl (by omega) (by omega)
  · rw [if_pos (by simp; omega), if_neg hq]
/-! copies -/
theorem p_toChangesP {all : List ChgD} (hl : all.length ≤ lim) : pureV (call Ev) Fn.laws_toChangeS [lv (chs all)] = some (lv (chs all)) := by
  have hl' := hl
  unfold lim at hl'
  rw [pu_laws_toChangeS, chs_len, mkSl_of (z := 10) (zero := [.bool false, .int .i64 0, .int .i64 0, .int .i64 0, .str ⟨#[]⟩, .bool false, .int .i64 0, .int .i64 0, .int .i64 0, .str ⟨#[]⟩]) hl (by omega) rfl, ob]
  obtain ⟨h', e1, e2, e3, _⟩ := fill_rows (z := 10) (n := all.length) (b := 0) (rows := chs all) (L := fun i h => Lp.laws_toChangeS 0 [lv (chs all), sv 0 0 all.length, iv .i64 i] h) (fin := [sv 0 0 all.length]) (by simp) chs_row
    (fun i h r hr' hi hb => by
      obtain ⟨a, ha⟩ : ∃ a, all[i]? = some a := ⟨_, List.getElem?_eq_getElem hi⟩
      rw [chs_get ha] at hr'; cases hr'
      refine ⟨.agg a.cs, [lv (chs all), sv 0 0 all.length, iv .i64 ((i + 1 : Nat) : Int)], .inr rfl, ?_⟩
      show Lp.laws_toChangeS 0 _ h = _
      rw [eq_laws_toChangeS_l0, vcase_b, if_pos (by simp; omega), idxF_ch ha, rowN_ch]
      simp only [ob, gx0, gx1, gI_i, gS_s, gB_b, gVA_a, ln0, ln1, Nat.zero_add, Nat.reduceAdd, if_true]
      rw [pc (p_toChange a) (by simp)]
      simp only [ob, gx0, gx1, gI_i, gS_s, gB_b, gVA_a, ln0, ln1, Nat.zero_add, Nat.reduceAdd, if_true]
      rw [idxK_sv hi, w64 (by omega) (by omega), show (i : Int) + 1 = ((i + 1 : Nat) : Int) from by omega])
    (fun h => by
      show Lp.laws_toChangeS 0 _ h = _
      rw [eq_laws_toChangeS_l0, vcase_b, if_neg (by simp), tidy_self])
    ((D 0).new 10 ((List.replicate all.length [.bool false, .int .i64 0, .int .i64 0, .int .i64 0, .str ⟨#[]⟩, .bool false, .int .i64 0, .int .i64 0, .int .i64 0, .str ⟨#[]⟩]).flatten)) _ (by simp) (by exact new_g (D 0) _ _) (repl_len rfl)
  rw [D_n, e1]
  simp only [ob, lcase_done, gx0]
  have hn : h'.n = 1 := by rw [e2]; simp
  have := frzV_sv (h := h') (b := 0) (z := 10) (rows := chs all) (by omega) (by omega) e3 chs_row (fun r hr s hs => (chs_sc r hr s hs).cl)
  rw [chs_len] at this
  exact this
theorem p_toIntS {all : List Int} (hl : all.length ≤ lim) : pureV (call Ev) Fn.laws_toInt64S [lv (mks all)] = some (lv (mks all)) := by
  have hl' := hl
  unfold lim at hl'
  rw [pu_laws_toInt64S, mks_len, mkSl_of (z := 1) (zero := [.int .i64 0]) hl (by omega) rfl, ob]
  obtain ⟨h', e1, e2, e3, _⟩ := fill_rows (z := 1) (n := all.length) (b := 0) (rows := mks all) (L := fun i h => Lp.laws_toInt64S 0 [lv (mks all), sv 0 0 all.length, iv .i64 i] h) (fin := [sv 0 0 all.length]) (by simp) mks_row
    (fun i h r hr' hi hb => by
      obtain ⟨a, ha⟩ : ∃ a, all[i]? = some a := ⟨_, List.getElem?_eq_getElem hi⟩
      rw [mks_get ha] at hr'; cases hr'
      refine ⟨iv .i64 a, [lv (mks all), sv 0 0 all.length, iv .i64 ((i + 1 : Nat) : Int)], .inl ⟨_, rfl, rfl, rfl⟩, ?_⟩
      show Lp.laws_toInt64S 0 _ h = _
      rw [eq_laws_toInt64S_l0, vcase_b, if_pos (by simp; omega), idxF_mk ha]
      simp only [ob, gx0, gx1, gI_i]
      rw [idxK_sv hi, w64 (by omega) (by omega), show (i : Int) + 1 = ((i + 1 : Nat) : Int) from by omega])
    (fun h => by
      show Lp.laws_toInt64S 0 _ h = _
      rw [eq_laws_toInt64S_l0, vcase_b, if_neg (by simp), tidy_self])
    ((D 0).new 1 ((List.replicate all.length [.int .i64 0]).flatten)) _ (by simp) (by exact new_g (D 0) _ _) (repl_len rfl)
  rw [D_n, e1]
  simp only [ob, lcase_done, gx0]
  have hn : h'.n = 1 := by rw [e2]; simp
  have := frzV_sv (h := h') (b := 0) (z := 1) (rows := mks all) (by omega) (by omega) e3 mks_row mks_cl
  rw [mks_len] at this
  exact this
theorem p_toKey (k : KeyD) : pureV (call Ev) Fn.laws_toKey [.agg k.cs] = some (.agg k.cs) := pu_laws_toKey _ _
theorem p_toKeyS {all : List KeyD} (hl : all.length ≤ lim) : pureV (call Ev) Fn.laws_toKeyS [lv (kys all)] = some (lv (kys all)) := by
  have hl' := hl
  unfold lim at hl'
  rw [pu_laws_toKeyS, kys_len, mkSl_of (z := 2) (zero := [.int .i64 0, .int .i64 0]) hl (by omega) rfl, ob]
  obtain ⟨h', e1, e2, e3, _⟩ := fill_rows (z := 2) (n := all.length) (b := 0) (rows := kys all) (L := fun i h => Lp.laws_toKeyS 0 [lv (kys all), sv 0 0 all.length, iv .i64 i] h) (fin := [sv 0 0 all.length]) (by simp) kys_row
    (fun i h r hr' hi hb => by
      obtain ⟨a, ha⟩ : ∃ a, all[i]? = some a := ⟨_, List.getElem?_eq_getElem hi⟩
      rw [kys_get ha] at hr'; cases hr'
      refine ⟨.agg a.cs, [lv (kys all), sv 0 0 all.length, iv .i64 ((i + 1 : Nat) : Int)], .inr rfl, ?_⟩
      show Lp.laws_toKeyS 0 _ h = _
      rw [eq_laws_toKeyS_l0, vcase_b, if_pos (by simp; omega), idxF_ky ha, rowN_ky]
      simp only [ob, gx0, gx1, gI_i, gVA_a, ln0, ln1, Nat.zero_add, Nat.reduceAdd, if_true]
      rw [pc (p_toKey a) (by simp)]
      simp only [ob, gx0, gx1, gI_i, gVA_a, ln0, ln1, Nat.zero_add, Nat.reduceAdd, if_true]
      rw [idxK_sv hi, w64 (by omega) (by omega), show (i : Int) + 1 = ((i + 1 : Nat) : Int) from by omega])
    (fun h => by
      show Lp.laws_toKeyS 0 _ h = _
      rw [eq_laws_toKeyS_l0, vcase_b, if_neg (by simp), tidy_self])
    ((D 0).new 2 ((List.replicate all.length [.int .i64 0, .int .i64 0]).flatten)) _ (by simp) (by exact new_g (D 0) _ _) (repl_len rfl)
  rw [D_n, e1]
  simp only [ob, lcase_done, gx0]
  have hn : h'.n = 1 := by rw [e2]; simp
  have := frzV_sv (h := h') (b := 0) (z := 2) (rows := kys all) (by omega) (by omega) e3 kys_row kys_cl
  rw [kys_len] at this
  exact this
structure TxD.sm (x : TxD) : Prop where
  u : x.undo.length ≤ 1048576
  m : x.marks.length ≤ 1048576
  l : x.locks.length ≤ 1048576
theorem p_toTx (x : TxD) (hx : x.sm) : pureV (call Ev) Fn.laws_toTx [.agg x.cs] = some (.agg x.cs) := by
  have h1 := hx.u
  have h2 := hx.m
  have h3 := hx.l
  rw [pu_laws_toTx, p_toChangesP (by unfold lim; omega)]
  simp only [ob, gV1_s, gF_f]
  rw [p_toIntS (by unfold lim; omega)]
  simp only [ob, gV1_s, gF_f]
  rw [p_toKeyS (by unfold lim; omega)]
  simp only [ob, gV1_s, gF_f]
theorem p_toTxS {all : List TxD} (hl : all.length ≤ lim) (hx : ∀ x ∈ all, x.sm) : pureV (call Ev) Fn.laws_toTxS [lv (txs all)] = some (lv (txs all)) := by
  have hl' := hl
  unfold lim at hl'
  rw [pu_laws_toTxS, txs_len, mkSl_of (z := 4) (zero := [.int .i64 0, .sl none 0, .sl none 0, .sl none 0]) hl (by omega) rfl, ob]
  obtain ⟨h', e1, e2, e3, _⟩ := fill_rows (z := 4) (n := all.length) (b := 0) (rows := txs all) (L := fun i h => Lp.laws_toTxS 0 [lv (txs all), sv 0 0 all.length, iv .i64 i] h) (fin := [sv 0 0 all.length]) (by simp) txs_row
    (fun i h r hr' hi hb => by
      obtain ⟨a, ha⟩ : ∃ a, all[i]? = some a := ⟨_, List.getElem?_eq_getElem hi⟩
      rw [txs_get ha] at hr'; cases hr'
      refine ⟨.agg a.cs, [lv (txs all), sv 0 0 all.length, iv .i64 ((i + 1 : Nat) : Int)], .inr rfl, ?_⟩
      show Lp.laws_toTxS 0 _ h = _
      rw [eq_laws_toTxS_l0, vcase_b, if_pos (by simp; omega), idxF_tx ha, rowN_tx]
      simp only [ob, gx0, gx1, gI_i, gF_f, gVA_a, ln0, ln1, Nat.zero_add, Nat.reduceAdd, if_true]
      rw [p_toTx a (hx a (List.mem_of_getElem? ha))]
      simp only [ob, gx0, gx1, gI_i, gF_f, gVA_a, ln0, ln1, Nat.zero_add, Nat.reduceAdd, if_true]
      rw [idxK_sv hi, w64 (by omega) (by omega), show (i : Int) + 1 = ((i + 1 : Nat) : Int) from by omega])
    (fun h => by
      show Lp.laws_toTxS 0 _ h = _
      rw [eq_laws_toTxS_l0, vcase_b, if_neg (by simp), tidy_self])
    ((D 0).new 4 ((List.replicate all.length [.int .i64 0, .sl none 0, .sl none 0, .sl none 0]).flatten)) _ (by simp) (by exact new_g (D 0) _ _) (repl_len rfl)
  rw [D_n, e1]
  simp only [ob, lcase_done, gx0]
  have hn : h'.n = 1 := by rw [e2]; simp
  have := frzV_sv (h := h') (b := 0) (z := 4) (rows := txs all) (by omega) (by omega) e3 txs_row txs_cl
  rw [txs_len] at this
  exact this
/-! comparisons -/
theorem p_eqIntS {all : List Int} (hl : all.length ≤ maxLen) : pureV (call Ev) Fn.laws_eqInt64S [lv (mks all), lv (mks all)] = some (bv true) := by
  unfold maxLen at hl
  have loop : ∀ (rs : List Int) (i : Nat), all.drop i = rs → Lp.laws_eqInt64S 0 [lv (mks all), lv (mks all), iv .i64 i] (D 0) = some (.done [] (D 0)) := by
    intro rs
    induction rs with
    | nil =>
      intro i hi
      have := drop_nil hi
      rw [eq_laws_eqInt64S_l0, vcase_b, if_neg (by simp; omega), tidy_self]
    | cons r rs ih =>
      intro i hi
      obtain ⟨g1, g2, g3⟩ := drop_cons hi
      rw [eq_laws_eqInt64S_l0, vcase_b, if_pos (by simp; omega), idxF_mk g1]
      simp only [ob, gx0, gI_i]
      rw [idxF_mk g1]
      simp only [ob, gx0, gI_i, vcase_b]
      rw [if_neg (by simp), tidy_self, w64 (by omega) (by omega), show (i : Int) + 1 = ((i + 1 : Nat) : Int) from by omega]
      exact ih (i + 1) g2
  rw [pu_laws_eqInt64S, vcase_b, if_neg (by simp), show iv .i64 0 = iv .i64 ((0 : Nat) : Int) from rfl, loop all 0 rfl]
  simp
theorem p_eqKey (k : KeyD) : pureV (call Ev) Fn.laws_eqKey [.agg k.cs, .agg k.cs] = some (bv true) := by
  rw [pu_laws_eqKey, vcase_b, if_neg (by simp), vcase_b, if_neg (by simp)]
theorem p_eqKeyS {all : List KeyD} (hl : all.length ≤ maxLen) : pureV (call Ev) Fn.laws_eqKeyS [lv (kys all), lv (kys all)] = some (bv true) := by
  unfold maxLen at hl
  have loop : ∀ (rs : List KeyD) (i : Nat), all.drop i = rs → Lp.laws_eqKeyS 0 [lv (kys all), lv (kys all), iv .i64 i] (D 0) = some (.done [] (D 0)) := by
    intro rs
    induction rs with
    | nil =>
      intro i hi
      have := drop_nil hi
      rw [eq_laws_eqKeyS_l0, vcase_b, if_neg (by simp; omega), tidy_self]
    | cons r rs ih =>
      intro i hi
      obtain ⟨g1, g2, g3⟩ := drop_cons hi
      rw [eq_laws_eqKeyS_l0, vcase_b, if_pos (by simp; omega), idxF_ky g1, rowN_ky]
      simp only [ob, gx0, gx1, gI_i, ln0, ln1, Nat.zero_add, Nat.reduceAdd, if_true]
      rw [idxF_ky g1, rowN_ky]
      simp only [ob, gx0, gx1, gI_i, ln0, ln1, Nat.zero_add, Nat.reduceAdd, if_true]
      rw [pc (p_eqKey r) rfl]
      simp only [gV1_s, gB_b, hchk_self, vcase_b]
      rw [if_neg (by simp), tidy_self, w64 (by omega) (by omega), show (i : Int) + 1 = ((i + 1 : Nat) : Int) from by omega]
      exact ih (i + 1) g2
  rw [pu_laws_eqKeyS, vcase_b, if_neg (by simp), show iv .i64 0 = iv .i64 ((0 : Nat) : Int) from rfl, loop all 0 rfl]
  simp
theorem p_eqTx (x : TxD) (hx : x.ok) : pureV (call Ev) Fn.laws_eqTx [.agg x.cs, .agg x.cs] = some (bv true) := by
  rw [pu_laws_eqTx, vcase_b, if_neg (by simp), pc (p_eqChangeS hx.ul) rfl]
  simp only [gV1_s, gB_b, vcase_b]
  rw [if_neg (by simp), pc (p_eqIntS hx.ml) rfl]
  simp only [gV1_s, gB_b, vcase_b]
  rw [if_neg (by simp), pc (p_eqKeyS hx.ll) rfl]
  simp only [gV1_s, gB_b, vcase_b]
  rw [if_neg (by simp)]
theorem p_eqTxS {all : List TxD} (hl : all.length ≤ maxLen) (hx : ∀ x ∈ all, x.ok) : pureV (call Ev) Fn.laws_eqTxS [lv (txs all), lv (txs all)] = some (bv true) := by
  unfold maxLen at hl
  have loop : ∀ (rs : List TxD) (i : Nat), all.drop i = rs → Lp.laws_eqTxS 0 [lv (txs all), lv (txs all), iv .i64 i] (D 0) = some (.done [] (D 0)) := by
    intro rs
    induction rs with
    | nil =>
      intro i hi
      have := drop_nil hi
      rw [eq_laws_eqTxS_l0, vcase_b, if_neg (by simp; omega), tidy_self]
    | cons r rs ih =>
      intro i hi
      obtain ⟨g1, g2, g3⟩ := drop_cons hi
      rw [eq_laws_eqTxS_l0, vcase_b, if_pos (by simp; omega), idxF_tx g1, rowN_tx]
      simp only [ob, gx0, gx1, gI_i, gF_f, ln0, ln1, Nat.zero_add, Nat.reduceAdd, if_true]
      rw [idxF_tx g1, rowN_tx]
      simp only [ob, gx0, gx1, gI_i, gF_f, ln0, ln1, Nat.zero_add, Nat.reduceAdd, if_true]
      rw [pc (p_eqTx r (hx r (List.mem_of_getElem? g1))) rfl]
      simp only [gV1_s, gB_b, hchk_self, vcase_b]
      rw [if_neg (by simp), tidy_self, w64 (by omega) (by omega), show (i : Int) + 1 = ((i + 1 : Nat) : Int) from by omega]
      exact ih (i + 1) g2
  rw [pu_laws_eqTxS, vcase_b, if_neg (by simp), show iv .i64 0 = iv .i64 ((0 : Nat) : Int) from rfl, loop all 0 rfl]
  simp
end Vm
/-
  The fault of a transaction.
-/
namespace Vm
open Go
/-! loads and stores -/
section
variable {R : Type}
theorem idxK_lv {z : Nat} {l : List (List S)} {kd : IntKind} {j : Int} {f : V → Option R} : idxK z (lv l) (iv kd j) f = idxF z l j fun r => f (fv r 0) := rfl
theorem ldK_ch {c : ChgD} {h : H} {dd : TD} {bb : Bool} {w : Nat} {zz : List S} {k : V → Option R} : ldK (.agg [.b, .i .i64, .i .i64, .i .i64, .s, .b, .i .i64, .i .i64, .i .i64, .s]) ⟨10, w, zz, true, dd, bb⟩ h (fv c.cs 0) k = k (.agg c.cs) := by
  simp only [ldK, ldT, cond_true, loadN]
  rw [rowN_ch]
  simp [tyV, tyL, tyS]
theorem ldK_ky {c : KeyD} {h : H} {dd : TD} {bb : Bool} {w : Nat} {zz : List S} {k : V → Option R} : ldK (.agg [.i .i64, .i .i64]) ⟨2, w, zz, true, dd, bb⟩ h (fv c.cs 0) k = k (.agg c.cs) := by
  simp only [ldK, ldT, cond_true, loadN]
  rw [rowN_ky]
  simp [tyV, tyL, tyS]
theorem ldK_mk {m : Int} {h : H} {dd : TD} {bb : Bool} {w : Nat} {zz : List S} {k : V → Option R} : ldK (.one (.i .i64)) ⟨1, w, zz, false, dd, bb⟩ h (fv [.int .i64 m] 0) k = k (iv .i64 m) := by
  simp [ldK, ldT, load1, tyV, tyS]
theorem slK_ky {l : List KeyD} {i : Nat} {h : H} {kd : IntKind} {f : V → Option R} (hi : i ≤ l.length) : slK 2 h (lv (kys l)) none (some (iv kd (i : Int))) f = f (lv (kys (l.take i))) := by
  show slF 2 (kys l) none (some (iv kd (i : Int))) (fun l => f (lv l)) = _
  unfold slF
  have hb : bnd (kys l).length (iv kd (i : Int)) = some i := by simp [bnd]; omega
  simp only [hb, Option.bind_some]
  rw [if_pos kys_row, List.drop_zero]
  simp [kys, List.map_take]
end
theorem loadN_X0 {h : H} {zs cs : List S} {n : Nat} (hn : cs.length = n) : loadN n (putX h zs cs) (pv h.n 0) = some cs := loadN_X (by omega) (by rw [List.drop_zero, List.take_of_length_le (by omega)])
theorem padd_pv {a b o : Nat} : padd a (pv b o) = some (pv b (o + a)) := rfl
theorem len_lv {t : Nat} {l : List (List S)} : lenV (.sl t) (lv l) = some (iv .i64 (l.length : Int)) := rfl
theorem frzV_ky {h : H} {k : KeyD} : frzV h (.agg k.cs) = some (.agg k.cs) := by simp
theorem putX_c {h : H} {zs cs : List S} {b : Nat} (hb : b < h.n) : (putX h zs cs).cells b = h.cells b := keep_cells (putX_keep h zs cs) hb
theorem key_eq {a b : KeyD} : ((a.tab == b.tab) && ((a.key == b.key) && true)) = decide (a = b) := by
  cases a; cases b
  simp only [KeyD.mk.injEq, Bool.and_true]
  rw [Bool.eq_iff_iff]
  simp
/-! a change alone -/
def eqRw (a b : RowD) : Bool := (a.tab == b.tab) && ((a.key == b.key) && ((a.val == b.val) && ((a.text.toList == b.text.toList) && true)))
def sgF (c : ChgD) : Int := if chgF c ≠ 0 then chgF c else if c.was = true ∧ c.is = true ∧ eqRw c.b c.a = true then 1 else 0
theorem p_singleFault (c : ChgD) (hc : c.ok) : pureV (call Ev) Fn.impl_singleFault [.agg c.cs] = some (iv .i64 (sgF c)) := by
  rw [pu_impl_singleFault, pc (p_changeFault c hc) rfl]
  simp only [gV1_s, gI_i, vcase_b, bne_iff_ne, ne_eq]
  unfold sgF
  by_cases h0 : chgF c = 0
  · rw [if_neg (show ¬ ¬ chgF c = 0 by simpa using h0), if_neg (show ¬ chgF c ≠ 0 by simpa using h0)]
    rw [show ((c.b.tab == c.a.tab) && ((c.b.key == c.a.key) && ((c.b.val == c.a.val) && ((c.b.text.toList == c.a.text.toList) && true)))) = eqRw c.b c.a from rfl]
    cases c.was <;> cases c.is <;> simp
    cases eqRw c.b c.a <;> simp
  · rw [if_pos h0, if_pos h0]
theorem p_l9Change (c : ChgD) (hc : c.ok) : pureV (call Ev) Fn.spec_l9Change [fv c.cs 0] = some (iv .i64 (sgF c)) := by
  rw [pu_spec_l9Change, pc (p_l6Change c hc) rfl]
  simp only [gV1_s, gI_i, vcase_b, bne_iff_ne, ne_eq]
  unfold sgF
  by_cases h0 : chgF c = 0
  · rw [if_neg (show ¬ ¬ chgF c = 0 by simpa using h0), if_neg (show ¬ chgF c ≠ 0 by simpa using h0)]
    rw [show ((c.b.tab == c.a.tab) && ((c.b.key == c.a.key) && ((c.b.val == c.a.val) && ((c.b.text.toList == c.a.text.toList) && true)))) = eqRw c.b c.a from rfl]
    cases c.was <;> cases c.is <;> simp
    cases eqRw c.b c.a <;> simp
  · rw [if_pos h0, if_pos h0]
def kof (c : ChgD) : KeyD := ⟨c.k.tab, c.k.key⟩
theorem p_Change_lock (c : ChgD) : pureV (call Ev) Fn.impl_Change_lock [.agg c.cs] = some (.agg (kof c).cs) := by
  rw [pu_impl_Change_lock, pc (p_Change_key c) rfl]
  simp only [gVA_a, gx0, gx1, ob, gI_i, gS_s, ln0, ln1, Nat.zero_add, Nat.reduceAdd, if_true, hchk_self]
  rw [pc (p_Change_key c) rfl]
  simp only [gVA_a, gx0, gx1, ob, gI_i, gS_s, ln0, ln1, Nat.zero_add, Nat.reduceAdd, if_true, hchk_self]
  rfl
theorem p_l10KeyOf (c : ChgD) : pureV (call Ev) Fn.spec_l10KeyOf [fv c.cs 0] = some (.agg (kof c).cs) := by
  rw [pu_spec_l10KeyOf, pc (p_l6Key c) rfl]
  simp only [gVT_t, gA1_s, gx0, gx1, ob, gI_i, gS_s, ln0, ln1, Nat.zero_add, Nat.reduceAdd, if_true]
  rfl
/-! keys -/
def isK (k : KeyD) : Bool := inB k.tab 0 3 && inB k.key 1 99
theorem p_isKey (k : KeyD) : pureV (call Ev) Fn.impl_isKey [iv .i64 k.tab, iv .i64 k.key] = some (bv (isK k)) := by
  rw [pu_impl_isKey, pc (p_in _ _ _) rfl]
  simp only [gV1_s, gB_b, vcase_b]
  unfold isK
  cases h : inB k.tab 0 3
  · simp
  · rw [if_pos rfl, pc (p_in _ _ _) rfl]; simp
theorem p_l10Key (k : KeyD) : pureV (call Ev) Fn.spec_l10Key [fv k.cs 0] = some (bv (isK k)) := by
  rw [pu_spec_l10Key, pc (p_l1In _ _ _) rfl]
  simp only [gV1_s, gB_b, vcase_b]
  unfold isK
  cases h : inB k.tab 0 3
  · simp
  · rw [if_pos rfl, pc (p_l1In _ _ _) rfl]; simp
theorem p_Index {all : List KeyD} {k : KeyD} (hl : all.length ≤ maxLen) : ∃ j : Int, pureV (call Ev) Fn.slices_Index_impl_Key_impl_Key [lv (kys all), .agg k.cs] = some (iv .i64 j) ∧ (0 ≤ j ↔ k ∈ all) := by
  unfold maxLen at hl
  have hc : ((D 0).new 0 k.cs).cells 0 = k.cs := by unfold H.cells; rw [if_pos (by simp)]; rfl
  have loop : ∀ (rs : List KeyD) (i : Nat), all.drop i = rs → ∃ j : Nat, Lp.slices_Index_impl_Key_impl_Key 0 [lv (kys all), pv 0 0, iv .i64 all.length, iv .i64 i] ((D 0).new 0 k.cs) = some (if k ∈ rs then .ret (iv .i64 j) ((D 0).new 0 k.cs) else .done [] ((D 0).new 0 k.cs)) := by
    intro rs
    induction rs with
    | nil =>
      intro i hi
      have := drop_nil hi
      rw [eq_slices_Index_impl_Key_impl_Key_l0, vcase_b, if_neg (by simp; omega), tidy_self]
      exact ⟨0, rfl⟩
    | cons r rs ih =>
      intro i hi
      obtain ⟨g1, g2, g3⟩ := drop_cons hi
      obtain ⟨j, ih'⟩ := ih (i + 1) g2
      rw [eq_slices_Index_impl_Key_impl_Key_l0, vcase_b, if_pos (by simp; omega), ldK_agg rfl (loadN_cs (by simp) hc rfl)]
      simp only [gVA_a, gx0, gx1, ob, gI_i, ln0, ln1, Nat.zero_add, Nat.reduceAdd, if_true]
      rw [idxF_ky g1, rowN_ky]
      simp only [gVA_a, gx0, gx1, ob, gI_i, ln0, ln1, Nat.zero_add, Nat.reduceAdd, if_true, vcase_b]
      rw [key_eq (a := k) (b := r)]
      by_cases hk : k = r
      · rw [if_pos (by simpa using hk)]
        exact ⟨i, by rw [if_pos (by simp [hk])]⟩
      · rw [if_neg (by simpa using hk), tidy_self, w64 (by omega) (by omega), show (i : Int) + 1 = ((i + 1 : Nat) : Int) from by omega, ih']
        exact ⟨j, by simp [hk]⟩
  obtain ⟨j, e⟩ := loop all 0 rfl
  rw [pu_slices_Index_impl_Key_impl_Key, kys_len, show iv .i64 0 = iv .i64 ((0 : Nat) : Int) from rfl, e, ob]
  by_cases hk : k ∈ all
  · rw [if_pos hk, lcase_ret]
    exact ⟨j, by simp, by simp [hk]⟩
  · rw [if_neg hk, lcase_done]
    exact ⟨-1, rfl, by simp [hk]⟩
theorem p_Contains {all : List KeyD} {k : KeyD} (hl : all.length ≤ maxLen) : pureV (call Ev) Fn.slices_Contains_impl_Key_impl_Key [lv (kys all), .agg k.cs] = some (bv (decide (k ∈ all))) := by
  obtain ⟨j, e, hj⟩ := p_Index (k := k) hl
  rw [pu_slices_Contains_impl_Key_impl_Key, pc e rfl]
  simp only [gV1_s, gI_i]
  congr 2
  rw [decide_eq_decide]
  exact hj
theorem p_l10Locks (x : TxD) (k : KeyD) (hl : x.locks.length ≤ maxLen) : pureV (call Ev) Fn.spec_l10Locks [fv x.cs 0, .agg k.cs] = some (bv (decide (k ∈ x.locks))) := by
  unfold maxLen at hl
  have hc : ((D 0).new 0 k.cs).cells 0 = k.cs := by unfold H.cells; rw [if_pos (by simp)]; rfl
  have loop : ∀ (rs : List KeyD) (i : Nat), x.locks.drop i = rs → Lp.spec_l10Locks 0 [fv x.cs 0, pv 0 0, iv .i64 i] ((D 0).new 0 k.cs) = some (if k ∈ rs then .ret (bv true) ((D 0).new 0 k.cs) else .done [] ((D 0).new 0 k.cs)) := by
    intro rs
    induction rs with
    | nil =>
      intro i hi
      have := drop_nil hi
      rw [eq_spec_l10Locks_l0]
      simp only [Nat.zero_add, gx0, gx1, ob, gF_f, vcase_b, kys_len]
      rw [if_neg (by simp; omega), tidy_self]; rfl
    | cons r rs ih =>
      intro i hi
      obtain ⟨g1, g2, g3⟩ := drop_cons hi
      have ih' := ih (i + 1) g2
      rw [eq_spec_l10Locks_l0]
      simp only [Nat.zero_add, gx0, gx1, ob, gF_f, vcase_b, kys_len]
      rw [if_pos (by simp; omega), idxF_ky g1, rowN_ky]
      simp only [gVA_a, gx0, gx1, ob, gI_i, ln0, ln1, Nat.zero_add, Nat.reduceAdd, if_true]
      rw [ldK_agg rfl (loadN_cs (by simp) hc rfl)]
      simp only [gVA_a, gx0, gx1, ob, gI_i, ln0, ln1, Nat.zero_add, Nat.reduceAdd, if_true, vcase_b]
      rw [key_eq (a := r) (b := k)]
      by_cases hk : r = k
      · rw [if_pos (by simpa using hk), if_pos (by simp [hk])]
      · rw [if_neg (by simpa using hk), tidy_self, w64 (by omega) (by omega), show (i : Int) + 1 = ((i + 1 : Nat) : Int) from by omega, ih']
        simp [Ne.symm hk]
  rw [pu_spec_l10Locks, show iv .i64 0 = iv .i64 ((0 : Nat) : Int) from rfl, loop x.locks 0 rfl, ob]
  by_cases hk : k ∈ x.locks
  · rw [if_pos hk, lcase_ret]; simp [hk]
  · rw [if_neg hk, lcase_done]; simp [hk]
/-! what is to be taken back -/
def undF (locks : List KeyD) : List ChgD → Int
  | [] => 0
  | c :: cs => if sgF c ≠ 0 then sgF c else if kof c ∈ locks then undF locks cs else 8
def mrkF (n : Int) : Int → List Int → Int
  | _, [] => 0
  | last, m :: ms => if inB m last n = true then mrkF n m ms else 3
def lkF : List KeyD → List KeyD → Int
  | _, [] => 0
  | d, k :: ks => if isK k = false then 3 else if k ∈ d then 6 else lkF (d ++ [k]) ks
def mkkF (x : TxD) : Int := if 8 < x.marks.length ∨ 12 < x.locks.length then 2 else if mrkF x.undo.length 0 x.marks ≠ 0 then 3 else lkF [] x.locks
def txF (x : TxD) : Int := if undF x.locks x.undo ≠ 0 then undF x.locks x.undo else mkkF x
theorem mrkF_val (n : Int) : ∀ (ms : List Int) (last : Int), mrkF n last ms = 0 ∨ mrkF n last ms = 3
  | [], last => .inl rfl
  | m :: ms, last => by
    unfold mrkF
    split
    · exact mrkF_val n ms m
    · exact .inr rfl
theorem undF_n {l : List KeyD} {c : ChgD} {cs : List ChgD} (h : sgF c ≠ 0) : undF l (c :: cs) = sgF c := by rw [undF, if_pos h]
theorem undF_0 {l : List KeyD} {c : ChgD} {cs : List ChgD} (h : sgF c = 0) (hk : kof c ∈ l) : undF l (c :: cs) = undF l cs := by rw [undF, if_neg (fun hh => hh h), if_pos hk]
theorem undF_8 {l : List KeyD} {c : ChgD} {cs : List ChgD} (h : sgF c = 0) (hk : ¬ kof c ∈ l) : undF l (c :: cs) = 8 := by rw [undF, if_neg (fun hh => hh h), if_neg hk]
theorem lkF_3 {d : List KeyD} {k : KeyD} {ks : List KeyD} (h : isK k = false) : lkF d (k :: ks) = 3 := by rw [lkF, if_pos h]
theorem lkF_6 {d : List KeyD} {k : KeyD} {ks : List KeyD} (h : isK k = true) (hk : k ∈ d) : lkF d (k :: ks) = 6 := by rw [lkF, if_neg (by simp [h]), if_pos hk]
theorem lkF_s {d : List KeyD} {k : KeyD} {ks : List KeyD} (h : isK k = true) (hk : ¬ k ∈ d) : lkF d (k :: ks) = lkF (d ++ [k]) ks := by rw [lkF, if_neg (by simp [h]), if_neg hk]
theorem lp_und {x : TxD} {h : H} (hx : x.ok) (hn : 0 < h.n) (hc : h.cells 0 = x.cs) : ∀ (rs : List ChgD) (i : Nat), x.undo.drop i = rs →
    ∃ h', Lp.impl_txFault 0 [pv 0 0, lv (chs x.undo), iv .i64 x.undo.length, iv .i64 i] h = some (if undF x.locks rs = 0 then .done [pv 0 0] h else .ret (iv .i64 (undF x.locks rs)) h') := by
  have hul := hx.ul
  unfold maxLen at hul
  intro rs
  induction rs with
  | nil =>
    intro i hi
    have := drop_nil hi
    rw [eq_impl_txFault_l0, vcase_b, if_neg (by simp; omega), tidy_self]
    exact ⟨h, rfl⟩
  | cons c cs ih =>
    intro i hi
    obtain ⟨g1, g2, g3⟩ := drop_cons hi
    obtain ⟨h', ih'⟩ := ih (i + 1) g2
    have hcc : ∀ zs, (putX h zs c.cs).cells 0 = x.cs := fun zs => (putX_c hn).trans hc
    rw [eq_impl_txFault_l0, vcase_b, if_pos (by simp; omega), idxK_lv, idxF_ch g1, ldK_ch]
    simp only [gVA_a, gx0, gx1, ob, gI_i, gB_b, gS_s, ln0, ln1, Nat.zero_add, Nat.reduceAdd, if_true]
    rw [stK_X (z := 10) rfl rfl, loadN_X0 (n := 10) rfl]
    simp only [gVA_a, gx0, gx1, ob, gI_i, gB_b, gS_s, ln0, ln1, Nat.zero_add, Nat.reduceAdd, if_true]
    rw [pc (p_singleFault c (hx.u c (List.mem_of_getElem? g1))) rfl]
    simp only [gV1_s, gI_i, vcase_b, bne_iff_ne, ne_eq]
    by_cases h0 : sgF c = 0
    · rw [if_neg (show ¬ ¬ sgF c = 0 by simpa using h0), padd_pv, ob, ldK_one rfl (load1_cs (hcc _) (o := 0 + 3) (x := .fs (kys x.locks)) rfl), pc (p_Change_lock c) rfl]
      simp only [gVA_a, gx0, gx1, ob, gI_i, gB_b, gS_s, ln0, ln1, Nat.zero_add, Nat.reduceAdd, if_true, hchk_self]
      rw [frzVs_cons frzV_lv (frzVs_cons frzV_ky frzVs_nil), ob, norm_nil, pc (p_Contains hx.ll) rfl]
      simp only [gV1_s, gB_b, vcase_b]
      by_cases hk : kof c ∈ x.locks
      · rw [undF_0 h0 hk, if_neg (show ¬ (!decide (kof c ∈ x.locks)) = true by simp [hk]), putX_tidy (by simp [belV, belS]; omega), w64 (by omega) (by omega), show (i : Int) + 1 = ((i + 1 : Nat) : Int) from by omega]
        exact ⟨h', ih'⟩
      · rw [undF_8 h0 hk, if_pos (show (!decide (kof c ∈ x.locks)) = true by simp [hk])]
        exact ⟨_, rfl⟩
    · rw [undF_n h0, if_pos h0]
      exact ⟨_, (congrArg some (if_neg h0)).symm⟩
theorem lp_marks {x : TxD} {h : H} (hx : x.ok) (hn : 0 < h.n) (hc : h.cells 0 = x.cs) : ∀ (rs : List Int) (i : Nat) (last : Int), x.marks.drop i = rs →
    Lp.impl_txFault 2 [pv 0 0, iv .i64 last, lv (mks x.marks), iv .i64 x.marks.length, iv .i64 i] h = some (if mrkF x.undo.length last rs = 0 then .done [pv 0 0] h else .ret (iv .i64 3) h) := by
  have hul := hx.ml
  unfold maxLen at hul
  intro rs
  induction rs with
  | nil =>
    intro i last hi
    have := drop_nil hi
    rw [eq_impl_txFault_l2, vcase_b, if_neg (by simp; omega), tidy_self]; rfl
  | cons m ms ih =>
    intro i last hi
    obtain ⟨g1, g2, g3⟩ := drop_cons hi
    rw [eq_impl_txFault_l2, vcase_b, if_pos (by simp; omega), idxK_lv, idxF_mk g1, ldK_mk]
    simp only [gV1_s, gI_i]
    rw [padd_pv, ob, ldK_one rfl (load1_cs hc (o := 0 + 1) (x := .fs (chs x.undo)) rfl), len_lv, ob, chs_len]
    simp only [gV1_s, gI_i]
    rw [pc (p_in _ _ _) rfl]
    simp only [gV1_s, gB_b, vcase_b]
    unfold mrkF
    cases hb : inB m last x.undo.length
    · simp
    · rw [if_neg (by simp), if_pos rfl, tidy_self, w64 (by omega) (by omega), show (i : Int) + 1 = ((i + 1 : Nat) : Int) from by omega]
      exact ih (i + 1) m g2
theorem lp_locks {x : TxD} {h : H} (hx : x.ok) (hn : 0 < h.n) (hc : h.cells 0 = x.cs) : ∀ (rs : List KeyD) (i : Nat), x.locks.drop i = rs →
    ∃ h', Lp.impl_txFault 4 [pv 0 0, lv (kys x.locks), iv .i64 x.locks.length, iv .i64 i] h = some (if lkF (x.locks.take i) rs = 0 then .done [] h else .ret (iv .i64 (lkF (x.locks.take i) rs)) h') := by
  have hul := hx.ll
  unfold maxLen at hul
  intro rs
  induction rs with
  | nil =>
    intro i hi
    have := drop_nil hi
    rw [eq_impl_txFault_l4, vcase_b, if_neg (by simp; omega), tidy_self]
    exact ⟨h, rfl⟩
  | cons k ks ih =>
    intro i hi
    obtain ⟨g1, g2, g3⟩ := drop_cons hi
    obtain ⟨h', ih'⟩ := ih (i + 1) g2
    have hcc : ∀ zs, (putX h zs k.cs).cells 0 = x.cs := fun zs => (putX_c hn).trans hc
    rw [eq_impl_txFault_l4, vcase_b, if_pos (by simp; omega), idxK_lv, idxF_ky g1, ldK_ky]
    simp only [gVA_a, gx0, gx1, ob, gI_i, ln0, ln1, Nat.zero_add, Nat.reduceAdd, if_true]
    rw [stK_X (z := 2) rfl rfl, load1_X (x := .int .i64 k.tab) rfl, load1_X (x := .int .i64 k.key) rfl]
    simp only [ob, gI_i]
    rw [pc (p_isKey k) rfl]
    simp only [gV1_s, gB_b, vcase_b]
    cases hb : isK k
    · rw [lkF_3 hb, if_pos (show (!false) = true from rfl)]
      exact ⟨_, rfl⟩
    · rw [if_neg (show ¬ (!true) = true by simp), padd_pv, ob, ldK_one rfl (load1_cs (hcc _) (o := 0 + 3) (x := .fs (kys x.locks)) rfl), slK_ky (by omega), loadN_X0 (n := 2) rfl]
      simp only [gVA_a, gx0, gx1, ob, gI_i, ln0, ln1, Nat.zero_add, Nat.reduceAdd, if_true]
      rw [frzVs_cons frzV_lv (frzVs_cons frzV_ky frzVs_nil), ob, norm_nil, pc (p_Contains (by unfold maxLen; simp; omega)) rfl]
      simp only [gV1_s, gB_b, vcase_b, hchk_self]
      by_cases hk : k ∈ x.locks.take i
      · rw [lkF_6 hb hk, if_pos (show decide (k ∈ x.locks.take i) = true by simpa using hk)]
        exact ⟨_, rfl⟩
      · rw [lkF_s hb hk, if_neg (show ¬ decide (k ∈ x.locks.take i) = true by simpa using hk), putX_tidy (by simp [belV, belS]; omega), w64 (by omega) (by omega), show (i : Int) + 1 = ((i + 1 : Nat) : Int) from by omega]
        have : x.locks.take (i + 1) = x.locks.take i ++ [k] := by rw [List.take_add_one, g1]; rfl
        rw [← this]
        exact ⟨h', ih'⟩
theorem p_txFault (x : TxD) (hx : x.ok) : pureV (call Ev) Fn.impl_txFault [.agg x.cs] = some (iv .i64 (txF x)) := by
  have hc : ((D 0).new 0 x.cs).cells 0 = x.cs := by unfold H.cells; rw [if_pos (by simp)]; rfl
  obtain ⟨h1, e1⟩ := lp_und (h := (D 0).new 0 x.cs) hx (by simp) hc x.undo 0 rfl
  have e2 := lp_marks (h := (D 0).new 0 x.cs) hx (by simp) hc x.marks 0 0 rfl
  obtain ⟨h3, e3⟩ := lp_locks (h := (D 0).new 0 x.cs) hx (by simp) hc x.locks 0 rfl
  rw [List.take_zero] at e3
  have z : iv .i64 0 = iv .i64 ((0 : Nat) : Int) := rfl
  have fin : ∀ q, Jn.impl_txFault_0 q (pv 0 0) ((D 0).new 0 x.cs) = some (iv .i64 (if q = true then 2 else if mrkF x.undo.length 0 x.marks ≠ 0 then 3 else lkF [] x.locks)) := by
    intro q
    unfold Jn.impl_txFault_0
    rw [vcase_b]
    cases q
    · rw [if_neg (by simp), if_neg (by simp), padd_pv, ob, ldK_one rfl (load1_cs hc (o := 0 + 2) (x := .fs (mks x.marks)) rfl), len_lv, ob, mks_len]
      simp only [gV1_s, gI_i]
      rw [show [pv 0 0, iv .i64 0, lv (mks x.marks), iv .i64 (x.marks.length : Int), iv .i64 0] = [pv 0 0, iv .i64 0, lv (mks x.marks), iv .i64 (x.marks.length : Int), iv .i64 ((0 : Nat) : Int)] from rfl, e2, ob]
      by_cases hm : mrkF x.undo.length 0 x.marks = 0
      · rw [if_pos hm, if_neg (by simpa using hm), lcase_done]
        simp only [gx0, ob]
        rw [padd_pv, ob, ldK_one rfl (load1_cs hc (o := 0 + 3) (x := .fs (kys x.locks)) rfl), len_lv, ob, kys_len]
        simp only [gV1_s, gI_i]
        rw [z, e3, ob]
        by_cases hk : lkF [] x.locks = 0
        · rw [if_pos hk, lcase_done, hk]; rfl
        · rw [if_neg hk, lcase_ret]; simp
      · rw [if_neg hm, if_pos hm, lcase_ret]; simp
    · rfl
  rw [pu_impl_txFault, chs_len, z, e1, ob]
  unfold txF mkkF
  by_cases hu : undF x.locks x.undo = 0
  · rw [if_pos hu, if_neg (by simpa using hu), lcase_done]
    simp only [gx0, ob]
    rw [padd_pv, ob, ldK_one rfl (load1_cs hc (o := 0 + 2) (x := .fs (mks x.marks)) rfl), len_lv, ob, mks_len]
    simp only [gV1_s, gI_i, vcase_b]
    rw [fin]
    by_cases h8 : 8 < x.marks.length
    · rw [if_pos (by simp; omega), if_pos rfl, if_pos (.inl h8)]
    · rw [if_neg (by simp; omega), padd_pv, ob, ldK_one rfl (load1_cs hc (o := 0 + 3) (x := .fs (kys x.locks)) rfl), len_lv, ob, kys_len]
      simp only [gV1_s, gI_i]
      rw [fin]
      by_cases h12 : 12 < x.locks.length
      · rw [if_pos (by simp; omega), if_pos (.inr h12)]
      · rw [if_neg (by simp; omega), if_neg (show ¬ (8 < x.marks.length ∨ 12 < x.locks.length) by omega)]
  · rw [if_neg hu, if_pos hu, lcase_ret]; simp
/-! the specification's way -/
theorem p_l10Undo (x : TxD) (hx : x.ok) : pureV (call Ev) Fn.spec_l10Undo [fv x.cs 0] = some (iv .i64 (undF x.locks x.undo)) := by
  have hul := hx.ul
  unfold maxLen at hul
  have loop : ∀ (rs : List ChgD) (i : Nat), x.undo.drop i = rs → Lp.spec_l10Undo 0 [fv x.cs 0, iv .i64 i] (D 0) = some (if undF x.locks rs = 0 then .done [] (D 0) else .ret (iv .i64 (undF x.locks rs)) (D 0)) := by
    intro rs
    induction rs with
    | nil =>
      intro i hi
      have := drop_nil hi
      rw [eq_spec_l10Undo_l0]
      simp only [Nat.zero_add, gx0, gx1, ob, gF_f, vcase_b, chs_len]
      rw [if_neg (by simp; omega), tidy_self]; rfl
    | cons c cs ih =>
      intro i hi
      obtain ⟨g1, g2, g3⟩ := drop_cons hi
      have ih' := ih (i + 1) g2
      rw [eq_spec_l10Undo_l0]
      simp only [Nat.zero_add, gx0, gx1, ob, gF_f, vcase_b, chs_len]
      rw [if_pos (by simp; omega), idxF_ch g1, normV_ch, pc (p_l9Change c (hx.u c (List.mem_of_getElem? g1))) rfl]
      simp only [gV1_s, gI_i, vcase_b, bne_iff_ne, ne_eq]
      by_cases h0 : sgF c = 0
      · rw [if_neg (show ¬ ¬ sgF c = 0 by simpa using h0), idxF_ch g1, normV_ch, pc (p_l10KeyOf c) rfl]
        simp only [gVA_a, gx0, gx1, ob, gI_i, ln0, ln1, Nat.zero_add, Nat.reduceAdd, if_true]
        rw [normV_tx, pc (p_l10Locks x (kof c) hx.ll) rfl]
        simp only [gV1_s, gB_b, vcase_b]
        by_cases hk : kof c ∈ x.locks
        · rw [undF_0 h0 hk, if_neg (show ¬ (!decide (kof c ∈ x.locks)) = true by simp [hk]), tidy_self, w64 (by omega) (by omega), show (i : Int) + 1 = ((i + 1 : Nat) : Int) from by omega]
          exact ih'
        · rw [undF_8 h0 hk, if_pos (show (!decide (kof c ∈ x.locks)) = true by simp [hk])]; rfl
      · rw [undF_n h0, if_pos h0, if_neg h0]
  rw [pu_spec_l10Undo, show iv .i64 0 = iv .i64 ((0 : Nat) : Int) from rfl, loop x.undo 0 rfl, ob]
  by_cases hu : undF x.locks x.undo = 0
  · rw [if_pos hu, lcase_done, hu]; rfl
  · rw [if_neg hu, lcase_ret]; simp
theorem lp_sMarks {x : TxD} {h : H} (hx : x.ok) : ∀ (rs : List Int) (i : Nat) (last : Int), x.marks.drop i = rs → 0 ≤ last → (i = 0 → last = 0) → (0 < i → x.marks[i - 1]? = some last) →
    Lp.spec_l10Marks 0 [fv x.cs 0, iv .i64 i] h = some (if mrkF x.undo.length last rs = 0 then .done [fv x.cs 0] h else .ret (iv .i64 3) h) := by
  have hul := hx.ml
  unfold maxLen at hul
  intro rs
  induction rs with
  | nil =>
    intro i last hi _ _ _
    have := drop_nil hi
    rw [eq_spec_l10Marks_l0]
    simp only [Nat.zero_add, gx0, gx1, ob, gF_f, vcase_b, mks_len]
    rw [if_neg (by simp; omega), tidy_self]; rfl
  | cons m ms ih =>
    intro i last hi h0 hz hp
    obtain ⟨g1, g2, g3⟩ := drop_cons hi
    rw [eq_spec_l10Marks_l0]
    simp only [Nat.zero_add, gx0, gx1, ob, gF_f, vcase_b, mks_len]
    rw [if_pos (by simp; omega), idxF_mk g1]
    simp only [gx0, ob, gI_i, gF_f, chs_len]
    rw [pc (p_l1In _ _ _) rfl]
    simp only [gV1_s, gB_b, vcase_b, hchk_self]
    unfold mrkF
    have step : 0 ≤ m → Lp.spec_l10Marks 0 [fv x.cs 0, iv .i64 (IntKind.i64.wrap ((i : Int) + 1))] (tidy h [fv x.cs 0, iv .i64 (IntKind.i64.wrap ((i : Int) + 1))] h) = some (if mrkF x.undo.length m ms = 0 then .done [fv x.cs 0] h else .ret (iv .i64 3) h) := by
      intro hm
      rw [tidy_self, w64 (by omega) (by omega), show (i : Int) + 1 = ((i + 1 : Nat) : Int) from by omega]
      exact ih (i + 1) m g2 hm (by omega) (fun _ => g1)
    cases hb : inB m 0 x.undo.length
    · have : inB m last x.undo.length = false := by
        rw [Bool.eq_false_iff] at hb ⊢
        intro hh; apply hb; rw [inB_iff] at hh ⊢; omega
      simp [this]
    · rw [if_neg (by simp)]
      have hb' := inB_iff.1 hb
      by_cases hi0 : i = 0
      · have hl := hz hi0
        subst hl
        rw [if_neg (by simp; omega), hb, if_pos rfl]
        exact step (by omega)
      · have hp' := hp (by omega)
        rw [if_pos (by simp; omega), idxF_mk g1]
        simp only [gx0, gx1, ob, gI_i, gF_f]
        rw [w64 (by omega) (by omega), show (i : Int) - 1 = ((i - 1 : Nat) : Int) from by omega, idxF_mk hp']
        simp only [gx0, ob, gI_i]
        by_cases hlt : m < last
        · have : inB m last x.undo.length = false := by
            rw [Bool.eq_false_iff]; intro hh; rw [inB_iff] at hh; omega
          simp [this, hlt]
        · have : inB m last x.undo.length = true := by rw [inB_iff]; omega
          rw [if_neg (by simpa using hlt), this, if_pos rfl]
          exact step (by omega)
theorem lp_sIn {x : TxD} {h : H} {i : Nat} {k : KeyD} (hx : x.ok) (hk : x.locks[i]? = some k) : ∀ (rs : List KeyD) (j : Nat), (x.locks.take i).drop j = rs →
    Lp.spec_l10Marks 4 [fv x.cs 0, iv .i64 i, iv .i64 j] h = some (if k ∈ rs then .ret (iv .i64 6) h else .done [fv x.cs 0, iv .i64 i] h) := by
  have hul := hx.ll
  unfold maxLen at hul
  have hil : i < x.locks.length := (List.getElem?_eq_some_iff.1 hk).1
  intro rs
  induction rs with
  | nil =>
    intro j hi
    have := drop_nil hi
    rw [List.length_take] at this
    rw [eq_spec_l10Marks_l4, vcase_b, if_neg (by simp; omega), tidy_self]; rfl
  | cons r rs ih =>
    intro j hi
    obtain ⟨g1, g2, g3⟩ := drop_cons hi
    rw [List.length_take] at g3
    have g1' : x.locks[j]? = some r := by rw [List.getElem?_take] at g1; split at g1 <;> first | exact g1 | cases g1
    rw [eq_spec_l10Marks_l4, vcase_b, if_pos (by simp; omega)]
    simp only [Nat.zero_add, gx0, gx1, ob, gF_f]
    rw [idxF_ky g1', rowN_ky]
    simp only [gx0, gx1, ob, gI_i, gF_f, ln0, ln1, Nat.zero_add, Nat.reduceAdd, if_true]
    rw [idxF_ky hk, rowN_ky]
    simp only [gx0, gx1, ob, gI_i, gF_f, ln0, ln1, Nat.zero_add, Nat.reduceAdd, if_true, vcase_b]
    rw [key_eq (a := r) (b := k)]
    by_cases hrk : r = k
    · rw [if_pos (by simpa using hrk), if_pos (by simp [hrk])]
    · rw [if_neg (by simpa using hrk), tidy_self, w64 (by omega) (by omega), show (j : Int) + 1 = ((j + 1 : Nat) : Int) from by omega, ih (j + 1) g2]
      simp [Ne.symm hrk]
theorem lp_sLocks {x : TxD} {h : H} (hx : x.ok) : ∀ (rs : List KeyD) (i : Nat), x.locks.drop i = rs →
    Lp.spec_l10Marks 2 [fv x.cs 0, iv .i64 i] h = some (if lkF (x.locks.take i) rs = 0 then .done [] h else .ret (iv .i64 (lkF (x.locks.take i) rs)) h) := by
  have hul := hx.ll
  unfold maxLen at hul
  intro rs
  induction rs with
  | nil =>
    intro i hi
    have := drop_nil hi
    rw [eq_spec_l10Marks_l2]
    simp only [Nat.zero_add, gx0, gx1, ob, gF_f, vcase_b, kys_len]
    rw [if_neg (by simp; omega), tidy_self]; rfl
  | cons k ks ih =>
    intro i hi
    obtain ⟨g1, g2, g3⟩ := drop_cons hi
    rw [eq_spec_l10Marks_l2]
    simp only [Nat.zero_add, gx0, gx1, ob, gF_f, vcase_b, kys_len]
    rw [if_pos (by simp; omega), idxF_ky g1, normV_ky, pc (p_l10Key k) rfl]
    simp only [gV1_s, gB_b, vcase_b]
    cases hb : isK k
    · rw [lkF_3 hb, if_pos (show (!false) = true from rfl)]; rfl
    · rw [if_neg (show ¬ (!true) = true by simp), show iv .i64 0 = iv .i64 ((0 : Nat) : Int) from rfl, lp_sIn hx g1 _ 0 rfl, ob, List.drop_zero]
      by_cases hk : k ∈ x.locks.take i
      · rw [lkF_6 hb hk, if_pos hk, lcase_ret]; rfl
      · rw [lkF_s hb hk, if_neg hk, lcase_done]
        simp only [gx0, gx1, ob, gV1_s, gI_i]
        rw [tidy_self, w64 (by omega) (by omega), show (i : Int) + 1 = ((i + 1 : Nat) : Int) from by omega]
        have : x.locks.take (i + 1) = x.locks.take i ++ [k] := by rw [List.take_add_one, g1]; rfl
        rw [← this]
        exact ih (i + 1) g2
theorem p_l10Marks (x : TxD) (hx : x.ok) : pureV (call Ev) Fn.spec_l10Marks [fv x.cs 0] = some (iv .i64 (mkkF x)) := by
  have z : iv .i64 0 = iv .i64 ((0 : Nat) : Int) := rfl
  have e1 := lp_sMarks (h := D 0) hx x.marks 0 0 rfl (Int.le_refl _) (fun _ => rfl) (fun h => absurd h (by omega))
  have e2 := lp_sLocks (h := D 0) hx x.locks 0 rfl
  rw [List.take_zero] at e2
  rw [pu_spec_l10Marks, vcase_b, vcase_b, mks_len, kys_len]
  unfold mkkF
  by_cases h8 : 8 < x.marks.length
  · rw [if_pos (by simp; omega), if_pos (.inl h8)]
  rw [if_neg (by simp; omega)]
  by_cases h12 : 12 < x.locks.length
  · rw [if_pos (by simp; omega), if_pos (.inr h12)]
  rw [if_neg (by simp; omega), if_neg (show ¬ (8 < x.marks.length ∨ 12 < x.locks.length) by omega), z, e1, ob]
  by_cases hm : mrkF x.undo.length 0 x.marks = 0
  · rw [if_pos hm, if_neg (by simpa using hm), lcase_done]
    simp only [gx0, ob]
    rw [e2, ob]
    by_cases hk : lkF [] x.locks = 0
    · rw [if_pos hk, lcase_done, hk]; rfl
    · rw [if_neg hk, lcase_ret]; simp
  · rw [if_neg hm, if_pos hm, lcase_ret]; simp
end Vm
/-
  Maps of keys; the fault of transactions.
-/
namespace Vm
open Go
/-! a map of keys -/
def mpE (d : List KeyD) : List (List S × A) := d.map fun k => (k.cs, .s (.bool true))
theorem mpE_len (d : List KeyD) : (mpE d).length = d.length := by simp [mpE]
theorem mpE_snoc (d : List KeyD) (k : KeyD) : mpE (d ++ [k]) = mpE d ++ [(k.cs, .s (.bool true))] := by simp [mpE]
theorem keyM_ky (k : KeyD) : keyM Ev 143 (.agg k.cs) = some (79, 4, k.cs) := by kernel_rfl
theorem eqC_ky (k r : KeyD) : eqC Ev 8 79 k.cs r.cs = some (decide (k = r)) := by
  rw [← key_eq]
  kernel_rfl
theorem find_ky (k : KeyD) : ∀ (d : List KeyD) (i : Nat), (k ∈ d → ∃ j, findM Ev 79 k.cs (mpE d) i = some (some (j, k.cs, .s (.bool true))) ∧ i ≤ j ∧ d[j - i]? = some k) ∧ (k ∉ d → findM Ev 79 k.cs (mpE d) i = some none)
  | [], i => ⟨by simp, fun _ => rfl⟩
  | r :: d, i => by
    have ih := find_ky k d (i + 1)
    have e : findM Ev 79 k.cs (mpE (r :: d)) i = bif decide (k = r) then some (some (i, r.cs, .s (.bool true))) else findM Ev 79 k.cs (mpE d) (i + 1) := by
      rw [show mpE (r :: d) = (r.cs, A.s (.bool true)) :: mpE d from rfl, findM, eqC_ky, ob]
    rw [e]
    by_cases hk : k = r
    · subst hk
      simp only [decide_true, cond_true]
      exact ⟨fun _ => ⟨i, rfl, Nat.le_refl _, by simp⟩, fun h => absurd (by simp) h⟩
    · rw [show decide (k = r) = false by simpa using hk, cond_false]
      refine ⟨fun h => ?_, fun h => ih.2 fun hh => h (by simp [hh])⟩
      obtain ⟨j, h1, h2, h3⟩ := ih.1 (by simpa [hk] using h)
      exact ⟨j, h1, by omega, by rw [show j - i = (j - (i + 1)) + 1 by omega, List.getElem?_cons_succ]; exact h3⟩
theorem mpOf_b {h : H} {b : Nat} {es : List (List S × A)} (hb : b < h.n) (hg : h.g b = .mp es) : mpOf h (.s (.mp (some b))) = some (b, es) := by
  simp only [mpOf, hb, if_true, hg]
theorem look_ky {h : H} {b : Nat} {d : List KeyD} (hb : b < h.n) (hg : h.g b = .mp (mpE d)) (k : KeyD) : lookM Ev 143 false h (.s (.mp (some b))) (.agg k.cs) = some (bv (decide (k ∈ d))) := by
  unfold lookM
  rw [mpOf_b hb hg, ob, keyM_ky, ob]
  have h4 : ∃ te, Ev.ty 4 = some te ∧ zeroA te = some (.s (.bool false)) := ⟨⟨1, 1, [.bool false], false, .bool, false⟩, by kernel_rfl, rfl⟩
  obtain ⟨te, h5, h6⟩ := h4
  simp only [h5, h6, ob]
  have f := find_ky k d 0
  by_cases hk : k ∈ d
  · obtain ⟨j, h1, _⟩ := f.1 hk
    rw [h1]
    simp [hk, A.v]
  · rw [f.2 hk]
    simp [hk, A.v]
def addK (d : List KeyD) (k : KeyD) : List KeyD := if k ∈ d then d else d ++ [k]
theorem upd_ky {h : H} {b : Nat} {d : List KeyD} (hb : b < h.n) (hg : h.g b = .mp (mpE d)) (k : KeyD) : updM Ev 143 h (.s (.mp (some b))) (.agg k.cs) (bv true) = some (h.put b (.mp (mpE (addK d k)))) := by
  unfold updM
  rw [mpOf_b hb hg, ob, keyM_ky, ob]
  rw [show V.toA (bv true) = some (.s (.bool true)) from rfl, ob, show ((k.cs.all plS && plA (.s (.bool true))) = true) from rfl, cond_true]
  have f := find_ky k d 0
  unfold addK
  by_cases hk : k ∈ d
  · obtain ⟨j, h1, _, h3⟩ := f.1 hk
    have he : eqInts k.cs k.cs = true := by simp [eqInts]
    rw [h1, ob, if_pos hk]
    simp only [he, cond_true]
    congr 3
    rw [Nat.sub_zero] at h3
    apply List.ext_getElem?
    intro i
    rw [List.getElem?_set]
    by_cases hij : j = i
    · subst hij
      have hl := (List.getElem?_eq_some_iff.1 h3).1
      rw [if_pos rfl, if_pos (by rw [mpE_len]; exact hl)]
      simp [mpE, h3]
    · rw [if_neg hij]
  · rw [f.2 hk, ob, if_neg hk, mpE_snoc]
/-- a map's block alone was turned -/
structure Kb (b : Nat) (h h' : H) : Prop where
  n : h'.n = h.n
  o : ∀ c, c < h.n → c ≠ b → h'.g c = h.g c ∧ h'.v c = h.v c
theorem Kb.refl (b : Nat) (h : H) : Kb b h h := ⟨rfl, fun _ _ _ => ⟨rfl, rfl⟩⟩
theorem Kb.trans {b : Nat} {h h' h'' : H} (x : Kb b h h') (y : Kb b h' h'') : Kb b h h'' := ⟨y.n.trans x.n, fun c hc hb => by
  have h1 := x.o c hc hb
  have h2 := y.o c (by rw [x.n]; exact hc) hb
  exact ⟨h2.1.trans h1.1, h2.2.trans h1.2⟩⟩
theorem tidy_mp {h h' : H} {l : List V} {b : Nat} {es : List (List S × A)} (hn : h.n ≤ h'.n) (hl : l.all (belV h.n) = true) (hb : b < h.n) (hg : h'.g b = .mp es) (ho : ∀ c, c < h.n → c ≠ b → h'.g c = h.g c ∧ h'.v c = h.v c) :
    Kb b h (tidy h l h') ∧ (tidy h l h').g b = .mp es := by
  unfold tidy
  rw [if_pos]
  · refine ⟨⟨rfl, fun c hc hcb => ?_⟩, ?_⟩
    · simp only [if_pos hc]; exact ho c hc hcb
    · simp only [if_pos hb]; exact hg
  · refine ⟨hn, hl, fun c hc => ?_⟩
    by_cases hcb : c = b
    · subst hcb; right; rw [hg]; rfl
    · exact .inl (ho c hc hcb)
theorem putX_o {h : H} {zs cs : List S} {b : Nat} {x : Blk} {c : Nat} (hc : c < h.n) (hcb : c ≠ b) : ((putX h zs cs).put b x).g c = h.g c ∧ ((putX h zs cs).put b x).v c = h.v c := by
  have := (putX_keep h zs cs).2 c hc
  refine ⟨by rw [put_g' hcb]; exact this.1, ?_⟩
  simp only [H.put, if_neg hcb]
  exact this.2
/-! the fault of transactions -/
def prevB (p : Option Int) (x : Int) : Bool := match p with
  | none => false
  | some q => decide (x ≤ q)
def txsG : Option Int → List TxD → Int
  | _, [] => 0
  | p, x :: l => if inB x.id 1 99 = false then 3 else if prevB p x.id = true then 1 else if txF x ≠ 0 then txF x else txsG (some x.id) l
def dupF : List KeyD → List KeyD → Bool
  | _, [] => false
  | d, k :: ks => decide (k ∈ d) || dupF (d ++ [k]) ks
def allK (l : List TxD) : List KeyD := (l.map TxD.locks).flatten
def cntF (l : List TxD) : Nat := (l.map fun x => x.undo.length).sum
def txsF (l : List TxD) : Int := if 4 < l.length then 2 else if txsG none l ≠ 0 then txsG none l else if dupF [] (allK l) = true then 7 else if 12 < cntF l then 2 else 0
theorem txsG_3 {p : Option Int} {x : TxD} {l : List TxD} (h : inB x.id 1 99 = false) : txsG p (x :: l) = 3 := by rw [txsG, if_pos h]
theorem txsG_1 {p : Option Int} {x : TxD} {l : List TxD} (h : inB x.id 1 99 = true) (hp : prevB p x.id = true) : txsG p (x :: l) = 1 := by rw [txsG, if_neg (by simp [h]), if_pos hp]
theorem txsG_f {p : Option Int} {x : TxD} {l : List TxD} (h : inB x.id 1 99 = true) (hp : prevB p x.id = false) (hf : txF x ≠ 0) : txsG p (x :: l) = txF x := by rw [txsG, if_neg (by simp [h]), if_neg (by simp [hp]), if_pos hf]
theorem txsG_s {p : Option Int} {x : TxD} {l : List TxD} (h : inB x.id 1 99 = true) (hp : prevB p x.id = false) (hf : txF x = 0) : txsG p (x :: l) = txsG (some x.id) l := by rw [txsG, if_neg (by simp [h]), if_neg (by simp [hp]), if_neg (by simp [hf])]
def lastId (all : List TxD) (i : Nat) : Option Int := if i = 0 then none else (all[i - 1]?).map TxD.id
theorem frzV_tx {h : H} {x : TxD} : frzV h (.agg x.cs) = some (.agg x.cs) := by simp
theorem p_isTx' (k : Int) : pureV (call Ev) Fn.impl_isTx [iv .i64 k] = some (bv (inB k 1 99)) := by
  rw [pu_impl_isTx, pc (p_in _ _ _) rfl]; simp
abbrev zTx : List S := [.int .i64 0, .sl none 0, .sl none 0, .sl none 0]
theorem lp_Txs0 {all : List TxD} (hl : all.length ≤ maxLen) (hx : ∀ x ∈ all, x.ok) : ∀ (rs : List TxD) (i : Nat), all.drop i = rs →
    ∃ h', Lp.impl_TxsFault 0 [lv (txs all), lv (txs all), iv .i64 all.length, iv .i64 i] (D 0) = some (if txsG (lastId all i) rs = 0 then .done [lv (txs all)] (D 0) else .ret (iv .i64 (txsG (lastId all i) rs)) h') := by
  unfold maxLen at hl
  intro rs
  induction rs with
  | nil =>
    intro i hi
    have := drop_nil hi
    rw [eq_impl_TxsFault_l0, vcase_b, if_neg (by simp; omega), tidy_self]
    exact ⟨D 0, rfl⟩
  | cons x l ih =>
    intro i hi
    obtain ⟨g1, g2, g3⟩ := drop_cons hi
    obtain ⟨h', ih'⟩ := ih (i + 1) g2
    have hls : lastId all (i + 1) = some x.id := by simp [lastId, g1]
    rw [hls] at ih'
    rw [eq_impl_TxsFault_l0, vcase_b, if_pos (by simp; omega), idxF_tx g1, rowN_tx]
    simp only [gx0, gx1, ob, gI_i, gF_f, ln0, ln1, Nat.zero_add, Nat.reduceAdd, if_true]
    rw [stK_X (z := 4) rfl rfl, load1_X (x := .int .i64 x.id) rfl, loadN_X0 (n := 4) rfl]
    simp only [gx0, gx1, ob, gI_i, gF_f, ln0, ln1, Nat.zero_add, Nat.reduceAdd, if_true]
    rw [frzVs_cons frzV_tx frzVs_nil, ob, norm_nil, pc (p_isTx' _) rfl, pc (p_txFault x (hx x (List.mem_of_getElem? g1))) rfl]
    simp only [gV1_s, gI_i, gB_b, vcase_b, bne_iff_ne, ne_eq]
    rw [putX_tidy rfl, w64 (n := (i : Int) + 1) (by omega) (by omega), show (i : Int) + 1 = ((i + 1 : Nat) : Int) from by omega]
    cases hb : inB x.id 1 99
    · rw [if_pos (show (!false) = true from rfl), txsG_3 hb]
      exact ⟨_, rfl⟩
    · rw [if_neg (show ¬ (!true) = true by simp)]
      have rest : ∀ p, prevB p x.id = false → ∃ h', (if ¬ txF x = 0 then some (LOut.ret (iv .i64 (txF x)) (putX (D 0) zTx x.cs)) else Lp.impl_TxsFault 0 [lv (txs all), lv (txs all), iv .i64 all.length, iv .i64 ((i + 1 : Nat) : Int)] (D 0)) = some (if txsG p (x :: l) = 0 then .done [lv (txs all)] (D 0) else .ret (iv .i64 (txsG p (x :: l))) h') := by
        intro p hp
        by_cases hf : txF x = 0
        · rw [if_neg (by simpa using hf), txsG_s hb hp hf]
          exact ⟨h', ih'⟩
        · rw [if_pos hf, txsG_f hb hp hf]
          exact ⟨_, (congrArg some (if_neg hf)).symm⟩
      by_cases hi0 : i = 0
      · subst hi0
        rw [if_neg (by simp)]
        exact rest _ rfl
      · obtain ⟨q, hq⟩ : ∃ q, all[i - 1]? = some q := ⟨_, List.getElem?_eq_getElem (by omega)⟩
        have hla : lastId all i = some q.id := by simp [lastId, hi0, hq]
        rw [if_pos (by simp; omega), w64 (by omega) (by omega), show (i : Int) - 1 = ((i - 1 : Nat) : Int) from by omega, idxF_tx hq]
        simp only [gx0, ob, gI_i, hla]
        by_cases hle : x.id ≤ q.id
        · rw [if_pos (by simpa using hle), txsG_1 hb (by simpa [prevB] using hle)]
          exact ⟨_, rfl⟩
        · rw [if_neg (by simpa using hle)]
          exact rest _ (by simpa [prevB] using hle)
theorem lp_Txs4 {all : List TxD} {x : TxD} {b : Nat} {m j : Int} (hx : x.ok) : ∀ (ks : List KeyD) (i : Nat) (h : H) (d : List KeyD), x.locks.drop i = ks → b < h.n → h.g b = .mp (mpE d) →
    ∃ h', Lp.impl_TxsFault 4 [lv (txs all), .s (.mp (some b)), lv (txs all), iv .i64 m, iv .i64 j, lv (kys x.locks), iv .i64 x.locks.length, iv .i64 i] h = some (if dupF d ks = true then .ret (iv .i64 7) h' else .done [lv (txs all), .s (.mp (some b)), lv (txs all), iv .i64 m, iv .i64 j] h') ∧
      (dupF d ks = false → Kb b h h' ∧ h'.g b = .mp (mpE (d ++ ks))) := by
  have hl := hx.ll
  unfold maxLen at hl
  intro ks
  induction ks with
  | nil =>
    intro i h d hi hb hg
    have := drop_nil hi
    rw [eq_impl_TxsFault_l4, vcase_b, if_neg (by simp; omega), tidy_self]
    exact ⟨h, rfl, fun _ => ⟨Kb.refl _ _, by rw [List.append_nil]; exact hg⟩⟩
  | cons k ks ih =>
    intro i h d hi hb hg
    obtain ⟨g1, g2, g3⟩ := drop_cons hi
    have hbX : ∀ zs, b < (putX h zs k.cs).n := fun zs => by rw [putX_n]; omega
    have hgX : ∀ zs, (putX h zs k.cs).g b = .mp (mpE d) := fun zs => ((putX_keep h zs k.cs).2 b hb).1.trans hg
    rw [eq_impl_TxsFault_l4, vcase_b, if_pos (by simp; omega), idxK_lv, idxF_ky g1, ldK_ky]
    simp only [gVA_a, gx0, gx1, ob, gI_i, ln0, ln1, Nat.zero_add, Nat.reduceAdd, if_true]
    rw [stK_X (z := 2) rfl rfl, loadN_X0 (n := 2) rfl]
    simp only [gVA_a, gx0, gx1, ob, gI_i, ln0, ln1, Nat.zero_add, Nat.reduceAdd, if_true]
    rw [look_ky (hbX _) (hgX _), ob]
    simp only [gV1_s, gB_b, vcase_b]
    by_cases hk : k ∈ d
    · rw [if_pos (by simpa using hk), show dupF d (k :: ks) = true by simp [dupF, hk]]
      exact ⟨_, rfl, fun h => by cases h⟩
    · have hd : dupF d (k :: ks) = dupF (d ++ [k]) ks := by simp [dupF, hk]
      rw [if_neg (by simpa using hk), upd_ky (hbX _) (hgX _), ob, show addK d k = d ++ [k] by simp [addK, hk], w64 (n := (i : Int) + 1) (by omega) (by omega), show (i : Int) + 1 = ((i + 1 : Nat) : Int) from by omega, hd]
      obtain ⟨t1, t2⟩ := tidy_mp (h := h) (h' := (putX h [.int .i64 0, .int .i64 0] k.cs).put b (.mp (mpE (d ++ [k])))) (l := [lv (txs all), .s (.mp (some b)), lv (txs all), iv .i64 m, iv .i64 j, lv (kys x.locks), iv .i64 x.locks.length, iv .i64 ((i + 1 : Nat) : Int)]) (by rw [put_n, putX_n]; omega) (by simp [belV, belS, hb]) hb (put_g _ _ _) (fun c hc hcb => putX_o hc hcb)
      obtain ⟨h', e, w⟩ := ih (i + 1) _ (d ++ [k]) g2 (by rw [t1.n]; exact hb) t2
      refine ⟨h', e, fun hf => ?_⟩
      obtain ⟨w1, w2⟩ := w hf
      exact ⟨t1.trans w1, by rw [w2]; simp⟩
theorem allK_cons (x : TxD) (l : List TxD) : allK (x :: l) = x.locks ++ allK l := by simp [allK]
theorem dupF_app : ∀ (a c d : List KeyD), dupF d (a ++ c) = (dupF d a || dupF (d ++ a) c)
  | [], c, d => by simp [dupF]
  | k :: a, c, d => by
    simp only [List.cons_append, dupF, dupF_app a c (d ++ [k]), List.append_assoc, Bool.or_assoc, List.nil_append]
theorem lp_Txs2 {all : List TxD} {b : Nat} (hl : all.length ≤ maxLen) (hx : ∀ x ∈ all, x.ok) : ∀ (l : List TxD) (i : Nat) (h : H) (d : List KeyD), all.drop i = l → b < h.n → h.g b = .mp (mpE d) →
    ∃ h', Lp.impl_TxsFault 2 [lv (txs all), .s (.mp (some b)), lv (txs all), iv .i64 all.length, iv .i64 i] h = some (if dupF d (allK l) = true then .ret (iv .i64 7) h' else .done [lv (txs all)] h') := by
  unfold maxLen at hl
  intro l
  induction l with
  | nil =>
    intro i h d hi hb hg
    have := drop_nil hi
    rw [eq_impl_TxsFault_l2, vcase_b, if_neg (by simp; omega), tidy_self]
    exact ⟨h, rfl⟩
  | cons x l ih =>
    intro i h d hi hb hg
    obtain ⟨g1, g2, g3⟩ := drop_cons hi
    have hbX : ∀ zs, b < (putX h zs x.cs).n := fun zs => by rw [putX_n]; omega
    have hgX : ∀ zs, (putX h zs x.cs).g b = .mp (mpE d) := fun zs => ((putX_keep h zs x.cs).2 b hb).1.trans hg
    rw [eq_impl_TxsFault_l2, vcase_b, if_pos (by simp; omega), idxF_tx g1, rowN_tx]
    simp only [gx0, gx1, ob, gI_i, gF_f, ln0, ln1, Nat.zero_add, Nat.reduceAdd, if_true]
    rw [stK_X (z := 4) rfl rfl, load1_X (x := .fs (kys x.locks)) rfl, ob, len_lv, ob, kys_len]
    simp only [gV1_s, gI_i]
    obtain ⟨h1, e1, w1⟩ := lp_Txs4 (all := all) (b := b) (m := (all.length : Int)) (j := (i : Int)) (hx x (List.mem_of_getElem? g1)) x.locks 0 (putX h zTx x.cs) d rfl (hbX _) (hgX _)
    rw [show iv .i64 0 = iv .i64 ((0 : Nat) : Int) from rfl, e1, ob, allK_cons, dupF_app]
    cases hd : dupF d x.locks
    · obtain ⟨w2, w3⟩ := w1 hd
      rw [if_neg (by simp), lcase_done]
      simp only [gx0, gx1, ob, gV1_s, gI_i, gF_f, Bool.false_or]
      rw [w64 (n := (i : Int) + 1) (by omega) (by omega), show (i : Int) + 1 = ((i + 1 : Nat) : Int) from by omega]
      obtain ⟨t1, t2⟩ := tidy_mp (h := h) (h' := h1) (l := [lv (txs all), .s (.mp (some b)), lv (txs all), iv .i64 (all.length : Int), iv .i64 ((i + 1 : Nat) : Int)]) (by rw [w2.n, putX_n]; omega) (by simp [belV, belS, hb]) hb w3 (fun c hc hcb => by
        have h2 := w2.o c (by rw [putX_n]; omega) hcb
        have h3 := (putX_keep h zTx x.cs).2 c hc
        exact ⟨h2.1.trans h3.1, h2.2.trans h3.2⟩)
      exact ih (i + 1) _ (d ++ x.locks) g2 (by rw [t1.n]; exact hb) t2
    · rw [if_pos rfl, lcase_ret, Bool.true_or]
      exact ⟨_, rfl⟩
theorem cntF_cons (x : TxD) (l : List TxD) : cntF (x :: l) = x.undo.length + cntF l := by simp [cntF]
theorem p_undone {all : List TxD} (hl : all.length ≤ maxLen) (hc : cntF all < 2 ^ 62) : pureV (call Ev) Fn.impl_undone [lv (txs all)] = some (iv .i64 (cntF all)) := by
  unfold maxLen at hl
  have loop : ∀ (l : List TxD) (i n : Nat), all.drop i = l → n + cntF l < 2 ^ 62 → Lp.impl_undone 0 [iv .i64 n, lv (txs all), iv .i64 all.length, iv .i64 i] (D 0) = some (.done [iv .i64 ((n + cntF l : Nat) : Int)] (D 0)) := by
    intro l
    induction l with
    | nil =>
      intro i n hi hn
      have := drop_nil hi
      rw [eq_impl_undone_l0, vcase_b, if_neg (by simp; omega), tidy_self]; rfl
    | cons x l ih =>
      intro i n hi hn
      obtain ⟨g1, g2, g3⟩ := drop_cons hi
      rw [cntF_cons] at hn
      rw [eq_impl_undone_l0, vcase_b, if_pos (by simp; omega), idxF_tx g1, rowN_tx]
      simp only [gx0, gx1, ob, gI_i, gF_f, ln0, ln1, Nat.zero_add, Nat.reduceAdd, if_true]
      rw [stK_X (z := 4) rfl rfl, load1_X (x := .fs (chs x.undo)) rfl, ob, len_lv, ob, chs_len]
      simp only [gV1_s, gI_i]
      rw [putX_tidy rfl, w64 (n := (i : Int) + 1) (by omega) (by omega), show (i : Int) + 1 = ((i + 1 : Nat) : Int) from by omega, w64 (by omega) (by omega), show (n : Int) + (x.undo.length : Int) = ((n + x.undo.length : Nat) : Int) from by omega, ih (i + 1) (n + x.undo.length) g2 (by omega), cntF_cons, Nat.add_assoc]
  rw [pu_impl_undone, txs_len, show iv .i64 0 = iv .i64 ((0 : Nat) : Int) from rfl, loop all 0 0 rfl (by omega), ob, lcase_done]
  simp only [gx0, ob, gV1_s, gI_i, Nat.zero_add]
theorem p_l10Count {all : List TxD} (hl : all.length ≤ maxLen) (hc : cntF all < 2 ^ 62) : pureV (call Ev) Fn.spec_l10Count [lv (txs all)] = some (iv .i64 (cntF all)) := by
  unfold maxLen at hl
  have loop : ∀ (l : List TxD) (i n : Nat), all.drop i = l → n + cntF l < 2 ^ 62 → Lp.spec_l10Count 0 [lv (txs all), iv .i64 n, iv .i64 i] (D 0) = some (.done [iv .i64 ((n + cntF l : Nat) : Int)] (D 0)) := by
    intro l
    induction l with
    | nil =>
      intro i n hi hn
      have := drop_nil hi
      rw [eq_spec_l10Count_l0, vcase_b, if_neg (by simp; omega), tidy_self]; rfl
    | cons x l ih =>
      intro i n hi hn
      obtain ⟨g1, g2, g3⟩ := drop_cons hi
      rw [cntF_cons] at hn
      rw [eq_spec_l10Count_l0, vcase_b, if_pos (by simp; omega), idxF_tx g1]
      simp only [gx0, gx1, ob, gF_f, chs_len]
      rw [tidy_self, w64 (n := (i : Int) + 1) (by omega) (by omega), show (i : Int) + 1 = ((i + 1 : Nat) : Int) from by omega, w64 (by omega) (by omega), show (n : Int) + (x.undo.length : Int) = ((n + x.undo.length : Nat) : Int) from by omega, ih (i + 1) (n + x.undo.length) g2 (by omega), cntF_cons, Nat.add_assoc]
  rw [pu_spec_l10Count, show iv .i64 0 = iv .i64 ((0 : Nat) : Int) from rfl, loop all 0 0 rfl (by omega), ob, lcase_done]
  simp only [gx0, ob, gV1_s, gI_i, Nat.zero_add]
theorem p_TxsFault {all : List TxD} (hl : all.length ≤ maxLen) (hx : ∀ x ∈ all, x.ok) (hc : cntF all < 2 ^ 62) : pureV (call Ev) Fn.impl_TxsFault [lv (txs all)] = some (iv .i64 (txsF all)) := by
  rw [pu_impl_TxsFault, vcase_b, txs_len]
  unfold txsF
  by_cases h4 : 4 < all.length
  · rw [if_pos (by simp; omega), if_pos h4]
  rw [if_neg (by simp; omega), if_neg h4]
  obtain ⟨h1, e1⟩ := lp_Txs0 hl hx all 0 rfl
  rw [show lastId all 0 = none from rfl] at e1
  have z : iv .i64 0 = iv .i64 ((0 : Nat) : Int) := rfl
  rw [z, e1, ob]
  by_cases hg : txsG none all = 0
  · rw [if_pos hg, if_neg (by simpa using hg), lcase_done]
    simp only [gx0, ob, gV1_s, gF_f]
    obtain ⟨h2, e2⟩ := lp_Txs2 (b := 0) hl hx all 0 (D 0).newM [] rfl (by simp [H.newM]) (by simp [H.newM, mpE])
    rw [D_n, txs_len, e2, ob]
    cases hd : dupF [] (allK all)
    · rw [if_neg (by simp), lcase_done, if_neg (by simp)]
      simp only [gx0, ob, gV1_s, gF_f]
      rw [pc (p_undone hl hc) rfl]
      simp only [gV1_s, gI_i, vcase_b]
      by_cases h12 : 12 < cntF all
      · rw [if_pos (by simp; omega), if_pos h12]
      · rw [if_neg (by simp; omega), if_neg h12]; rfl
    · rw [if_pos rfl, lcase_ret, if_pos rfl]; simp
  · rw [if_neg hg, if_pos hg, lcase_ret]; simp
end Vm
/-
  Who locks a key; the specification's fault of transactions.
-/
namespace Vm
open Go
def lockI : List TxD → KeyD → Int
  | [], _ => 0
  | x :: l, k => if k ∈ x.locks then x.id else lockI l k
theorem lockI_y {x : TxD} {l : List TxD} {k : KeyD} (h : k ∈ x.locks) : lockI (x :: l) k = x.id := by rw [lockI, if_pos h]
theorem lockI_n {x : TxD} {l : List TxD} {k : KeyD} (h : ¬ k ∈ x.locks) : lockI (x :: l) k = lockI l k := by rw [lockI, if_neg h]
theorem lockI_cs : ∀ (l : List TxD) (k : KeyD), (∃ x ∈ l, k ∈ x.locks) ∨ lockI l k = 0
  | [], k => .inr rfl
  | x :: l, k => by
    by_cases h : k ∈ x.locks
    · exact .inl ⟨x, by simp, h⟩
    · rcases lockI_cs l k with ⟨y, h1, h2⟩ | h1
      · exact .inl ⟨y, by simp [h1], h2⟩
      · exact .inr (by rw [lockI_n h, h1])
def hasL (l : List TxD) (k : KeyD) : Bool := l.any fun x => decide (k ∈ x.locks)
theorem hasL_y {x : TxD} {l : List TxD} {k : KeyD} (h : k ∈ x.locks) : hasL (x :: l) k = true := by simp [hasL, h]
theorem hasL_n {x : TxD} {l : List TxD} {k : KeyD} (h : ¬ k ∈ x.locks) : hasL (x :: l) k = hasL l k := by simp [hasL, h]
theorem lockI_0 : ∀ {l : List TxD} {k : KeyD}, hasL l k = false → lockI l k = 0
  | [], k, _ => rfl
  | x :: l, k, h => by
    by_cases hk : k ∈ x.locks
    · rw [hasL_y hk] at h; cases h
    · rw [hasL_n hk] at h; rw [lockI_n hk, lockI_0 h]
theorem p_l10Lock {all : List TxD} {k : KeyD} (hl : all.length ≤ maxLen) (hx : ∀ x ∈ all, x.ok) : pureV (call Ev) Fn.spec_l10Lock [lv (txs all), .agg k.cs] = some (iv .i64 (lockI all k)) := by
  unfold maxLen at hl
  have hc : ((D 0).new 0 k.cs).cells 0 = k.cs := by unfold H.cells; rw [if_pos (by simp)]; rfl
  have loop : ∀ (l : List TxD) (i : Nat), all.drop i = l → Lp.spec_l10Lock 0 [lv (txs all), pv 0 0, iv .i64 i] ((D 0).new 0 k.cs) = some (if hasL l k = true then .ret (iv .i64 (lockI l k)) ((D 0).new 0 k.cs) else .done [] ((D 0).new 0 k.cs)) := by
    intro l
    induction l with
    | nil =>
      intro i hi
      have := drop_nil hi
      rw [eq_spec_l10Lock_l0, vcase_b, if_neg (by simp; omega), tidy_self]; rfl
    | cons x l ih =>
      intro i hi
      obtain ⟨g1, g2, g3⟩ := drop_cons hi
      have ih' := ih (i + 1) g2
      rw [eq_spec_l10Lock_l0, vcase_b, if_pos (by simp; omega), idxF_tx g1, ldK_agg rfl (loadN_cs (by simp) hc rfl)]
      simp only [gVA_a, gx0, gx1, ob, gI_i, ln0, ln1, Nat.zero_add, Nat.reduceAdd, if_true]
      rw [normV_tx, pc (p_l10Locks x k (hx x (List.mem_of_getElem? g1)).ll) rfl]
      simp only [gV1_s, gB_b, vcase_b, hchk_self]
      by_cases hk : k ∈ x.locks
      · rw [if_pos (by simpa using hk), idxF_tx g1, hasL_y hk, if_pos rfl, lockI_y hk]
        simp only [gx0, ob, gI_i]
      · rw [if_neg (by simpa using hk), tidy_self, w64 (by omega) (by omega), show (i : Int) + 1 = ((i + 1 : Nat) : Int) from by omega, ih', hasL_n hk, lockI_n hk]
  rw [pu_spec_l10Lock, show iv .i64 0 = iv .i64 ((0 : Nat) : Int) from rfl, loop all 0 rfl, ob]
  cases hh : hasL all k
  · rw [if_neg (by simp), lcase_done, lockI_0 hh]; rfl
  · rw [if_pos rfl, lcase_ret]; simp
theorem p_lockOf {all : List TxD} {k : KeyD} (hl : all.length ≤ maxLen) (hx : ∀ x ∈ all, x.ok) : pureV (call Ev) Fn.impl_lockOf [lv (txs all), .agg k.cs] = some (iv .i64 (lockI all k)) := by
  unfold maxLen at hl
  have hc : ((D 0).new 0 k.cs).cells 0 = k.cs := by unfold H.cells; rw [if_pos (by simp)]; rfl
  have loop : ∀ (l : List TxD) (i : Nat), all.drop i = l → ∃ h', Lp.impl_lockOf 0 [pv 0 0, lv (txs all), iv .i64 all.length, iv .i64 i] ((D 0).new 0 k.cs) = some (if hasL l k = true then .ret (iv .i64 (lockI l k)) h' else .done [] ((D 0).new 0 k.cs)) := by
    intro l
    induction l with
    | nil =>
      intro i hi
      have := drop_nil hi
      rw [eq_impl_lockOf_l0, vcase_b, if_neg (by simp; omega), tidy_self]
      exact ⟨D 0, rfl⟩
    | cons x l ih =>
      intro i hi
      obtain ⟨g1, g2, g3⟩ := drop_cons hi
      obtain ⟨h', ih'⟩ := ih (i + 1) g2
      have hcc : ∀ zs, (putX ((D 0).new 0 k.cs) zs x.cs).cells 0 = k.cs := fun zs => (putX_c (by simp)).trans hc
      rw [eq_impl_lockOf_l0, vcase_b, if_pos (by simp; omega), idxF_tx g1, rowN_tx]
      simp only [gx0, gx1, ob, gI_i, gF_f, ln0, ln1, Nat.zero_add, Nat.reduceAdd, if_true]
      rw [stK_X (z := 4) rfl rfl, load1_X (x := .fs (kys x.locks)) rfl, ob, ldK_agg rfl (loadN_cs (by rw [putX_n]; simp) (hcc _) rfl)]
      simp only [gVA_a, gx0, gx1, ob, gI_i, ln0, ln1, Nat.zero_add, Nat.reduceAdd, if_true]
      rw [frzVs_cons frzV_lv (frzVs_cons frzV_ky frzVs_nil), ob, norm_nil, pc (p_Contains (hx x (List.mem_of_getElem? g1)).ll) rfl]
      simp only [gV1_s, gB_b, vcase_b]
      by_cases hk : k ∈ x.locks
      · rw [if_pos (by simpa using hk), load1_X (x := .int .i64 x.id) rfl, ob, hasL_y hk, lockI_y hk]
        simp only [gI_i]
        exact ⟨_, rfl⟩
      · rw [if_neg (by simpa using hk), putX_tidy (by simp [belV, belS]), w64 (by omega) (by omega), show (i : Int) + 1 = ((i + 1 : Nat) : Int) from by omega, hasL_n hk, lockI_n hk]
        exact ⟨h', ih'⟩
  obtain ⟨h', e⟩ := loop all 0 rfl
  rw [pu_impl_lockOf, txs_len, show iv .i64 0 = iv .i64 ((0 : Nat) : Int) from rfl, e, ob]
  cases hh : hasL all k
  · rw [if_neg (by simp), lcase_done, lockI_0 hh]; rfl
  · rw [if_pos rfl, lcase_ret]; simp
/-! are the locks apart? -/
def apK (all : List TxD) (x : TxD) (ks : List KeyD) : Bool := ks.all fun k => decide (lockI all k = x.id)
def apT (all : List TxD) (l : List TxD) : Bool := l.all fun x => apK all x x.locks
theorem lp_Apart2 {all : List TxD} {x : TxD} {i : Nat} (hl : all.length ≤ maxLen) (hx : ∀ x ∈ all, x.ok) (hi : all[i]? = some x) : ∀ (ks : List KeyD) (j : Nat), x.locks.drop j = ks →
    Lp.spec_l10Apart 2 [lv (txs all), iv .i64 i, iv .i64 j] (D 0) = some (if apK all x ks = true then .done [lv (txs all), iv .i64 i] (D 0) else .ret (bv false) (D 0)) := by
  have hxl := (hx x (List.mem_of_getElem? hi)).ll
  unfold maxLen at hxl
  intro ks
  induction ks with
  | nil =>
    intro j hj
    have := drop_nil hj
    rw [eq_spec_l10Apart_l2, idxF_tx hi]
    simp only [gx0, gx1, ob, gF_f, vcase_b, kys_len]
    rw [if_neg (by simp; omega), tidy_self]; rfl
  | cons k ks ih =>
    intro j hj
    obtain ⟨g1, g2, g3⟩ := drop_cons hj
    rw [eq_spec_l10Apart_l2, idxF_tx hi]
    simp only [gx0, gx1, ob, gF_f, vcase_b, kys_len]
    rw [if_pos (by simp; omega), idxF_tx hi]
    simp only [gx0, gx1, ob, gF_f]
    rw [idxF_ky g1, rowN_ky]
    simp only [gx0, gx1, ob, gI_i, ln0, ln1, Nat.zero_add, Nat.reduceAdd, if_true]
    rw [idxF_tx hi]
    simp only [gx0, ob, gI_i]
    rw [pc (p_l10Lock hl hx) rfl]
    simp only [gV1_s, gI_i, vcase_b, bne_iff_ne, ne_eq, hchk_self]
    by_cases hk : lockI all k = x.id
    · rw [if_neg (show ¬ ¬ lockI all k = x.id by simpa using hk), tidy_self, w64 (by omega) (by omega), show (j : Int) + 1 = ((j + 1 : Nat) : Int) from by omega, ih (j + 1) g2, show apK all x (k :: ks) = apK all x ks by simp [apK, hk]]
    · rw [if_pos hk, show apK all x (k :: ks) = false by simp [apK, hk]]; rfl
theorem p_l10Apart {all : List TxD} (hl : all.length ≤ maxLen) (hx : ∀ x ∈ all, x.ok) : pureV (call Ev) Fn.spec_l10Apart [lv (txs all)] = some (bv (apT all all)) := by
  have hl' := hl
  unfold maxLen at hl'
  have loop : ∀ (l : List TxD) (i : Nat), all.drop i = l → Lp.spec_l10Apart 0 [lv (txs all), iv .i64 i] (D 0) = some (if apT all l = true then .done [] (D 0) else .ret (bv false) (D 0)) := by
    intro l
    induction l with
    | nil =>
      intro i hi
      have := drop_nil hi
      rw [eq_spec_l10Apart_l0, vcase_b, if_neg (by simp; omega), tidy_self]; rfl
    | cons x l ih =>
      intro i hi
      obtain ⟨g1, g2, g3⟩ := drop_cons hi
      rw [eq_spec_l10Apart_l0, vcase_b, if_pos (by simp; omega), show iv .i64 0 = iv .i64 ((0 : Nat) : Int) from rfl, lp_Apart2 hl hx g1 x.locks 0 rfl, ob]
      cases hk : apK all x x.locks
      · rw [if_neg (by simp), lcase_ret, show apT all (x :: l) = false by simp [apT, hk]]; rfl
      · rw [if_pos rfl, lcase_done]
        simp only [gx0, gx1, ob, gV1_s, gF_f, gI_i]
        rw [tidy_self, w64 (by omega) (by omega), show (i : Int) + 1 = ((i + 1 : Nat) : Int) from by omega, ih (i + 1) g2, show apT all (x :: l) = apT all l by simp [apT, hk]]
  rw [pu_spec_l10Apart, show iv .i64 0 = iv .i64 ((0 : Nat) : Int) from rfl, loop all 0 rfl, ob]
  cases h : apT all all
  · rw [if_neg (by simp), lcase_ret]; rfl
  · rw [if_pos rfl, lcase_done]
/-! the plain law: locks are apart where no key stands twice -/
theorem dupF_iff : ∀ (ks d : List KeyD), dupF d ks = false ↔ ks.Nodup ∧ ∀ k ∈ ks, k ∉ d
  | [], d => by simp [dupF]
  | k :: ks, d => by
    simp only [dupF, Bool.or_eq_false_iff, decide_eq_false_iff_not, dupF_iff ks (d ++ [k]), List.nodup_cons, List.mem_append, List.mem_cons, List.not_mem_nil, or_false, forall_eq_or_imp, not_or]
    constructor
    · rintro ⟨h1, h2, h3⟩
      exact ⟨⟨fun hk => (h3 k hk).2 rfl, h2⟩, h1, fun a ha => (h3 a ha).1⟩
    · rintro ⟨⟨h1, h2⟩, h3, h4⟩
      exact ⟨h3, h2, fun a ha => ⟨h4 a ha, fun hh => h1 (hh ▸ ha)⟩⟩
theorem lkF_nodup : ∀ (ks d : List KeyD), lkF d ks = 0 → ks.Nodup ∧ ∀ k ∈ ks, k ∉ d
  | [], d, _ => by simp
  | k :: ks, d, h => by
    by_cases hk : isK k = true
    · by_cases hd : k ∈ d
      · rw [lkF_6 hk hd] at h; omega
      · rw [lkF_s hk hd] at h
        obtain ⟨h1, h2⟩ := lkF_nodup ks _ h
        refine ⟨List.nodup_cons.2 ⟨fun hm => (h2 k hm) (by simp), h1⟩, fun a ha => ?_⟩
        rcases List.mem_cons.1 ha with rfl | ha
        · exact hd
        · exact fun hh => h2 a ha (by simp [hh])
    · rw [lkF_3 (by simpa using hk)] at h; omega
theorem txF_nodup {x : TxD} (h : txF x = 0) : x.locks.Nodup := by
  unfold txF at h
  split at h
  · rename_i h1; exact absurd h h1
  · unfold mkkF at h
    split at h
    · omega
    · split at h
      · omega
      · exact (lkF_nodup _ _ h).1
theorem txsG_ok : ∀ (l : List TxD) (p : Option Int), txsG p l = 0 → (∀ x ∈ l, x.locks.Nodup) ∧ l.Pairwise (fun a b => a.id < b.id) ∧ ∀ q, p = some q → ∀ x ∈ l, q < x.id
  | [], p, _ => by simp
  | x :: l, p, h => by
    by_cases hb : inB x.id 1 99 = true
    · cases hp : prevB p x.id with
      | true => rw [txsG_1 hb hp] at h; omega
      | false =>
        by_cases hf : txF x = 0
        · rw [txsG_s hb hp hf] at h
          obtain ⟨h1, h2, h3⟩ := txsG_ok l _ h
          have h4 := h3 x.id rfl
          refine ⟨fun y hy => ?_, List.pairwise_cons.2 ⟨h4, h2⟩, fun q hq y hy => ?_⟩
          · rcases List.mem_cons.1 hy with rfl | hy
            · exact txF_nodup hf
            · exact h1 y hy
          · subst hq
            have hlt : q < x.id := by simpa [prevB] using hp
            rcases List.mem_cons.1 hy with rfl | hy
            · exact hlt
            · have := h4 y hy; omega
        · rw [txsG_f hb hp hf] at h; exact absurd h hf
    · rw [txsG_3 (by simpa using hb)] at h; omega
theorem mem_allK {k : KeyD} {l : List TxD} : k ∈ allK l ↔ ∃ x ∈ l, k ∈ x.locks := by
  simp only [allK, List.mem_flatten, List.mem_map]
  constructor
  · rintro ⟨_, ⟨x, hx, rfl⟩, hk⟩; exact ⟨x, hx, hk⟩
  · rintro ⟨x, hx, hk⟩; exact ⟨_, ⟨x, hx, rfl⟩, hk⟩
theorem apart_law : ∀ (l : List TxD), (∀ x ∈ l, x.locks.Nodup) → l.Pairwise (fun a b => a.id < b.id) → ((allK l).Nodup ↔ ∀ x ∈ l, ∀ k ∈ x.locks, lockI l k = x.id)
  | [], _, _ => by simp [allK]
  | y :: l, hn, hp => by
    obtain ⟨p1, p2⟩ := List.pairwise_cons.1 hp
    have ih := apart_law l (fun x hx => hn x (by simp [hx])) p2
    rw [allK_cons, List.nodup_append]
    constructor
    · rintro ⟨h1, h2, h3⟩ x hx k hk
      rcases List.mem_cons.1 hx with rfl | hx
      · exact lockI_y hk
      · have hky : k ∉ y.locks := fun hh => h3 k hh k (mem_allK.2 ⟨x, hx, hk⟩) rfl
        rw [lockI_n hky]
        exact ih.1 h2 x hx k hk
    · intro h
      have hd : ∀ x ∈ l, ∀ k ∈ x.locks, k ∉ y.locks := fun x hx k hk hky => by
        have h1 := h x (by simp [hx]) k hk
        rw [lockI_y hky] at h1
        have := p1 x hx
        omega
      refine ⟨hn y (by simp), ih.2 fun x hx k hk => ?_, fun a ha b hb hab => ?_⟩
      · have h1 := h x (by simp [hx]) k hk
        rwa [lockI_n (hd x hx k hk)] at h1
      · subst hab
        obtain ⟨x, hx, hk⟩ := mem_allK.1 hb
        exact hd x hx a hk ha
theorem apT_law {all : List TxD} (h : txsG none all = 0) : apT all all = !dupF [] (allK all) := by
  obtain ⟨h1, h2, _⟩ := txsG_ok all none h
  have h3 := apart_law all h1 h2
  have h4 := dupF_iff (allK all) []
  have h5 : apT all all = true ↔ ∀ x ∈ all, ∀ k ∈ x.locks, lockI all k = x.id := by simp [apT, apK]
  cases hd : dupF [] (allK all)
  · have := (h3.1 (h4.1 hd).1)
    simpa using h5.2 this
  · cases ha : apT all all
    · rfl
    · have := h4.2 ⟨h3.2 (h5.1 ha), by simp⟩
      rw [hd] at this; cases this
/-! the specification's fault -/
theorem lp_sTxs0 {all : List TxD} (hl : all.length ≤ maxLen) (hx : ∀ x ∈ all, x.ok) : ∀ (rs : List TxD) (i : Nat), all.drop i = rs →
    Lp.spec_l10Fault 0 [lv (txs all), iv .i64 i] (D 0) = some (if txsG (lastId all i) rs = 0 then .done [lv (txs all)] (D 0) else .ret (iv .i64 (txsG (lastId all i) rs)) (D 0)) := by
  unfold maxLen at hl
  intro rs
  induction rs with
  | nil =>
    intro i hi
    have := drop_nil hi
    rw [eq_spec_l10Fault_l0, vcase_b, if_neg (by simp; omega), tidy_self]; rfl
  | cons x l ih =>
    intro i hi
    obtain ⟨g1, g2, g3⟩ := drop_cons hi
    have ih' := ih (i + 1) g2
    have hls : lastId all (i + 1) = some x.id := by simp [lastId, g1]
    rw [hls] at ih'
    have hxx := hx x (List.mem_of_getElem? g1)
    rw [eq_spec_l10Fault_l0, vcase_b, if_pos (by simp; omega), idxF_tx g1]
    simp only [gx0, ob, gI_i]
    rw [pc (p_l1In _ _ _) rfl, normV_tx, pc (p_l10Undo x hxx) rfl, pc (p_l10Marks x hxx) rfl]
    simp only [gV1_s, gI_i, gB_b, vcase_b, bne_iff_ne, ne_eq]
    rw [tidy_self, w64 (n := (i : Int) + 1) (by omega) (by omega), show (i : Int) + 1 = ((i + 1 : Nat) : Int) from by omega]
    cases hb : inB x.id 1 99
    · rw [if_pos (show (!false) = true from rfl), txsG_3 hb]; rfl
    · rw [if_neg (show ¬ (!true) = true by simp)]
      have rest : ∀ p, prevB p x.id = false → (if ¬ undF x.locks x.undo = 0 then some (LOut.ret (iv .i64 (undF x.locks x.undo)) (D 0)) else if ¬ mkkF x = 0 then some (LOut.ret (iv .i64 (mkkF x)) (D 0)) else Lp.spec_l10Fault 0 [lv (txs all), iv .i64 ((i + 1 : Nat) : Int)] (D 0)) = some (if txsG p (x :: l) = 0 then .done [lv (txs all)] (D 0) else .ret (iv .i64 (txsG p (x :: l))) (D 0)) := by
        intro p hp
        by_cases hu : undF x.locks x.undo = 0
        · have hf : txF x = mkkF x := by rw [txF, if_neg (by simpa using hu)]
          rw [if_neg (show ¬ ¬ undF x.locks x.undo = 0 by simpa using hu)]
          by_cases hm : mkkF x = 0
          · rw [if_neg (show ¬ ¬ mkkF x = 0 by simpa using hm), txsG_s hb hp (hf.trans hm)]
            exact ih'
          · rw [if_pos hm, txsG_f hb hp (by rw [hf]; exact hm), hf, if_neg hm]
        · have hf : txF x = undF x.locks x.undo := by rw [txF, if_pos hu]
          rw [if_pos hu, txsG_f hb hp (by rw [hf]; exact hu), hf, if_neg hu]
      by_cases hi0 : i = 0
      · subst hi0
        rw [if_neg (by simp)]
        exact rest _ rfl
      · obtain ⟨q, hq⟩ : ∃ q, all[i - 1]? = some q := ⟨_, List.getElem?_eq_getElem (by omega)⟩
        have hla : lastId all i = some q.id := by simp [lastId, hi0, hq]
        rw [if_pos (by simp; omega), w64 (by omega) (by omega), show (i : Int) - 1 = ((i - 1 : Nat) : Int) from by omega, idxF_tx hq]
        simp only [gx0, ob, gI_i, hla]
        by_cases hle : x.id ≤ q.id
        · rw [if_pos (by simpa using hle), txsG_1 hb (by simpa [prevB] using hle)]; rfl
        · rw [if_neg (by simpa using hle)]
          exact rest _ (by simpa [prevB] using hle)
theorem p_l10Fault {all : List TxD} (hl : all.length ≤ maxLen) (hx : ∀ x ∈ all, x.ok) (hc : cntF all < 2 ^ 62) : pureV (call Ev) Fn.spec_l10Fault [lv (txs all)] = some (iv .i64 (txsF all)) := by
  have e1 := lp_sTxs0 hl hx all 0 rfl
  rw [show lastId all 0 = none from rfl] at e1
  rw [pu_spec_l10Fault, vcase_b, txs_len]
  unfold txsF
  by_cases h4 : 4 < all.length
  · rw [if_pos (by simp; omega), if_pos h4]
  rw [if_neg (by simp; omega), if_neg h4, show iv .i64 0 = iv .i64 ((0 : Nat) : Int) from rfl, e1, ob]
  by_cases hg : txsG none all = 0
  · rw [if_pos hg, if_neg (by simpa using hg), lcase_done]
    simp only [gx0, ob, gV1_s, gF_f]
    rw [pc (p_l10Apart hl hx) rfl, apT_law hg]
    simp only [gV1_s, gB_b, vcase_b, Bool.not_not]
    cases hd : dupF [] (allK all)
    · rw [if_neg (by simp), if_neg (by simp), pc (p_l10Count hl hc) rfl]
      simp only [gV1_s, gI_i, vcase_b]
      by_cases h12 : 12 < cntF all
      · rw [if_pos (by simp; omega), if_pos h12]
      · rw [if_neg (by simp; omega), if_neg h12]; rfl
    · rw [if_pos rfl, if_pos rfl]
  · rw [if_neg hg, if_pos hg, lcase_ret]; simp
theorem p_spec_TxsFault {all : List TxD} (hl : all.length ≤ maxLen) (hx : ∀ x ∈ all, x.ok) (hc : cntF all < 2 ^ 62) : pureV (call Ev) Fn.spec_TxsFault [lv (txs all)] = some (iv .i64 (txsF all)) := by
  rw [pu_spec_TxsFault, pc (p_l10Fault hl hx hc) rfl]
  simp only [gV1_s, gI_i]
/-! the laws -/
theorem cnt_le : ∀ (l : List TxD), (∀ x ∈ l, x.sm) → cntF l ≤ l.length * 1048576
  | [], _ => Nat.zero_le _
  | x :: l, h => by
    have h1 := cnt_le l fun y hy => h y (by simp [hy])
    have h2 := (h x (by simp)).u
    rw [cntF_cons, List.length_cons, Nat.succ_mul]; omega
theorem txs_sm {l : List TxD} {left : Int} (h0 : 0 ≤ left) (hm : left ≤ 1048576) (h : 0 ≤ szTxs l left) : ∀ x ∈ l, x.sm := fun x hx => by
  have := szTxs_ok l left h0 h x hx
  exact ⟨by omega, by omega, by omega⟩
end Vm
