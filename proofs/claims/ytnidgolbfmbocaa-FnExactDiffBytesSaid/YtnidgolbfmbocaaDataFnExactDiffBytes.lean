/-
  What both ways of the law come to, and that the law returns true.
-/
import Derived.Test.YtnidgolbfmbocaaEqs
import Derived.Test.YtnidgolbfmbocaaDl
import Derived.Test.YtnidgolbfmbocaaTyp
set_option linter.unusedVariables false
set_option maxRecDepth 100000
set_option linter.unusedSimpArgs false
set_option linter.unusedSectionVars false
/-
  Numbers between two others.
-/
namespace Vm
open Go
def inB (n a b : Int) : Bool := decide (a ≤ n) && decide (n ≤ b)
theorem inB_iff {n a b : Int} : inB n a b = true ↔ a ≤ n ∧ n ≤ b := by simp [inB]
theorem p_l1In (n a b : Int) : pureV (call Ev) Fn.spec_l1In [iv .i64 n, iv .i64 a, iv .i64 b] = some (bv (inB n a b)) := by
  rw [pu_spec_l1In, vcase_b]
  unfold inB
  split <;> simp_all <;> omega
theorem p_in (n a b : Int) : pureV (call Ev) Fn.impl_in [iv .i64 n, iv .i64 a, iv .i64 b] = some (bv (inB n a b)) := by
  rw [pu_impl_in, vcase_b]
  unfold inB
  split <;> simp_all <;> omega
end Vm
/-
  Loops that fill a new slice, and what is frozen of it.
-/
namespace Vm
open Go

@[simp] theorem tidy_put {h : H} {l : List V} {b : Nat} {x : Blk} (hb : b < h.n) : tidy h l (h.put b x) = h.put b x := by
  unfold tidy
  split
  · obtain ⟨n, g, v⟩ := h
    simp only [H.put, H.mk.injEq, true_and]
    constructor <;> (funext c; split <;> first | rfl | (rename_i hc; rw [if_neg (by intro e; subst e; exact hc hb)]))
  · rfl
/-- a value that fills a row -/
def VRow (v : V) (r : List S) : Prop := (∃ x, v = .s x ∧ r = [x] ∧ isNo x = false) ∨ v = .agg r
theorem stK_rw {R : Type} {z e o b : Nat} {h : H} {cs r : List S} {v : V} {k : H → Option R} (hb : b < h.n) (hg : h.g b = .rw e cs) (hv : VRow v r) (hr : r.length = z) (ho : o + z ≤ cs.length) :
    stK z h (pv b o) v k = k (h.put b (.rw e (setAt cs o r))) := by
  rcases hv with ⟨x, rfl, rfl, hx⟩ | rfl
  · simp only [List.length_cons, List.length_nil, Nat.zero_add] at hr
    subst hr
    simp only [stK, if_true, put1K, if_pos hb, hg]
    rw [if_pos (by omega), hx]
    have : cs.set o x = setAt cs o [x] := by
      unfold setAt
      rw [List.set_eq_take_append_cons_drop, if_pos (by omega)]
      simp
    rw [this]; rfl
  · simp only [stK, putNK]
    rw [if_pos ⟨hb, hr⟩, hg]
    simp only
    rw [if_pos ho]
theorem idxK_sv {R : Type} {z b n i : Nat} {kd : IntKind} {f : V → Option R} (hi : i < n) : idxK z (sv b 0 n) (iv kd (i : Int)) f = f (pv b (i * z)) := by
  simp only [idxK, idxS]
  rw [if_pos ⟨by omega, by omega⟩]
  simp
theorem setAt_at {A r B : List S} {o z : Nat} (ho : A.length = o) (hz : r.length = z) : setAt (A ++ B) o r = A ++ r ++ B.drop z := by
  subst ho; subst hz
  unfold setAt
  simp
theorem map_flat_len {T : Nat → List S} {z : Nat} : ∀ (i : Nat), (∀ j, j < i → (T j).length = z) → (((List.range i).map T).flatten).length = i * z
  | 0, _ => by simp
  | i + 1, h => by
    rw [List.range_succ, List.map_append, List.flatten_append, List.length_append, map_flat_len i fun j hj => h j (by omega)]
    simp [h i (by omega), Nat.succ_mul]
theorem fill_loop {z n b : Nat} {T : Nat → List S} {L : Int → H → Option LOut} {fin : List V} (hT : ∀ i, i < n → (T i).length = z)
    (hstep : ∀ (i : Nat) (h : H), i < n → b < h.n → ∃ v l, VRow v (T i) ∧ L i h = stK z h (pv b (i * z)) v fun h' => L ((i + 1 : Nat) : Int) (tidy h l h'))
    (hend : ∀ h, L n h = some (.done fin h)) :
    ∀ (k i : Nat) (h : H) (cs : List S), i + k = n → b < h.n → h.g b = .rw z (((List.range i).map T).flatten ++ cs) → cs.length = k * z →
      ∃ h', L i h = some (.done fin h') ∧ h'.n = h.n ∧ h'.g b = .rw z (((List.range n).map T).flatten) ∧ ∀ c, c ≠ b → h'.g c = h.g c ∧ h'.v c = h.v c := by
  intro k
  induction k with
  | zero =>
    intro i h cs hi hb hg hl
    obtain rfl : i = n := by omega
    have : cs = [] := List.eq_nil_of_length_eq_zero (by omega)
    subst this
    exact ⟨h, hend h, rfl, by simpa using hg, fun _ _ => ⟨rfl, rfl⟩⟩
  | succ k ih =>
    intro i h cs hi hb hg hl
    obtain ⟨v, l, hv, e⟩ := hstep i h (by omega) hb
    have hz := hT i (by omega)
    have hp := map_flat_len (T := T) (z := z) i fun j hj => hT j (by omega)
    have hl' : cs.length = z + k * z := by rw [hl, Nat.succ_mul]; omega
    rw [e, stK_rw hb hg hv hz (by rw [List.length_append, hp]; omega), tidy_put hb, setAt_at hp hz]
    obtain ⟨h', g1, g2, g3, g4⟩ := ih (i + 1) (h.put b (.rw z (((List.range i).map T).flatten ++ T i ++ cs.drop z))) (cs.drop z) (by omega) hb
      (by rw [put_g, List.range_succ, List.map_append, List.flatten_append]; simp) (by rw [List.length_drop]; omega)
    refine ⟨h', g1, g2, g3, fun c hc => ?_⟩
    have := g4 c hc
    simp only [H.put, if_neg hc] at this
    exact this
/-- a cell that is frozen as it stands -/
def Cl (s : S) : Prop := ∀ (h : H) (d : Nat), frzS h d s = some s
theorem cl_i {k : IntKind} {n : Int} : Cl (.int k n) := fun _ _ => frz_i
theorem cl_b {n : Bool} : Cl (.bool n) := fun _ _ => frz_b
theorem cl_s {n : ByteArray} : Cl (.str n) := fun _ _ => frz_s
theorem cl_f {n : List (List S)} : Cl (.fs n) := fun _ _ => frz_f
theorem mapO_cl {h : H} {d : Nat} : ∀ {l : List S}, (∀ s ∈ l, Cl s) → mapO (frzS h d) l = some l
  | [], _ => rfl
  | s :: l, hl => by
    have h2 : mapO (frzS h d) l = some l := mapO_cl fun s hs => hl s (List.mem_cons_of_mem _ hs)
    simp [mapO, hl s (by simp) h d, h2]
theorem flat_len {z : Nat} : ∀ {rows : List (List S)}, (∀ r ∈ rows, r.length = z) → rows.flatten.length = rows.length * z
  | [], _ => by simp
  | r :: rows, h => by
    rw [List.flatten_cons, List.length_append, h r (by simp), flat_len fun r hr => h r (by simp [hr]), List.length_cons, Nat.succ_mul]; omega
theorem chunk_rows {z : Nat} : ∀ {rows : List (List S)}, (∀ r ∈ rows, r.length = z) → chunk z rows.length rows.flatten = rows
  | [], _ => rfl
  | r :: rows, h => by
    have hr := h r (by simp)
    have ih := chunk_rows (rows := rows) fun r hr => h r (by simp [hr])
    unfold chunk at ih ⊢
    rw [List.length_cons, List.range_succ_eq_map, List.map_cons, List.map_map]
    congr 1
    · simp [← hr]
    · conv => rhs; rw [← ih]
      refine List.map_congr_left fun i _ => ?_
      simp only [Function.comp_apply, List.flatten_cons]
      rw [Nat.succ_mul, Nat.add_comm, ← List.drop_drop, ← hr, List.drop_left]
theorem frzS_sl {h : H} {b z d : Nat} {rows : List (List S)} (hb : b < h.n) (hz0 : 0 < z) (hg : h.g b = .rw z rows.flatten) (hz : ∀ r ∈ rows, r.length = z) (hc : ∀ r ∈ rows, ∀ s ∈ r, Cl s) : frzS h (d + 1) (.sl (some (b, 0)) rows.length) = some (.fs rows) := by
  simp only [frzS]
  split
  · rename_i h0; rw [List.eq_nil_of_length_eq_zero h0]
  · have hl := flat_len hz
    simp only [hb, if_true, hg]
    rw [if_pos ⟨hz0, by omega⟩, List.drop_zero, List.take_of_length_le (by omega), mapO_cl (fun s hs => by
      obtain ⟨r, h1, h2⟩ := List.mem_flatten.1 hs
      exact hc r h1 s h2)]
    simp [chunk_rows hz]
theorem frzV_sv {h : H} {b z : Nat} {rows : List (List S)} (hb : b < h.n) (hz0 : 0 < z) (hg : h.g b = .rw z rows.flatten) (hz : ∀ r ∈ rows, r.length = z) (hc : ∀ r ∈ rows, ∀ s ∈ r, Cl s) : frzV h (sv b 0 rows.length) = some (lv rows) := by
  rw [frzV_s, frzS_sl hb hz0 hg hz hc]; rfl
theorem mkSl_of {z n : Nat} {zero : List S} {h : H} (hn : n ≤ lim) (hz0 : 0 < z) (hz : zero.length = z) {k1 k2 : IntKind} : mkSl z zero h (iv k1 (n : Int)) (iv k2 (n : Int)) = some (sv h.n 0 n, h.new z ((List.replicate n zero).flatten)) := by
  simp only [mkSl]
  rw [if_pos ⟨by omega, trivial, by omega, hz0, hz⟩]
  simp
theorem repl_len {n z : Nat} {zero : List S} (hz : zero.length = z) : ((List.replicate n zero).flatten).length = n * z := by
  rw [flat_len (z := z) (fun r hr => by rw [List.eq_of_mem_replicate hr, hz])]; simp
/-- a loop over rows that fills a slice -/
theorem fill_rows {z n b : Nat} {rows : List (List S)} {L : Int → H → Option LOut} {fin : List V} (hn : rows.length = n) (hr : ∀ r ∈ rows, r.length = z)
    (hstep : ∀ (i : Nat) (h : H) (r : List S), rows[i]? = some r → i < n → b < h.n → ∃ v l, VRow v r ∧ L i h = stK z h (pv b (i * z)) v fun h' => L ((i + 1 : Nat) : Int) (tidy h l h'))
    (hend : ∀ h, L n h = some (.done fin h)) (h : H) (cs : List S) (hb : b < h.n) (hg : h.g b = .rw z cs) (hl : cs.length = n * z) :
      ∃ h', L 0 h = some (.done fin h') ∧ h'.n = h.n ∧ h'.g b = .rw z rows.flatten ∧ ∀ c, c ≠ b → h'.g c = h.g c ∧ h'.v c = h.v c := by
  have hT : ∀ i, i < n → rows[i]? = some (rows.getD i []) := fun i hi => by rw [List.getD, List.getElem?_eq_getElem (by omega)]; rfl
  obtain ⟨h', g1, g2, g3, g4⟩ := fill_loop (z := z) (n := n) (b := b) (T := fun i => rows.getD i []) (L := L) (fin := fin) (fun i hi => hr _ (List.mem_of_getElem? (hT i hi)))
    (fun i h hi hb => hstep i h _ (hT i hi) hi hb) hend n 0 h cs (by omega) hb (by simpa using hg) hl
  refine ⟨h', g1, g2, ?_, g4⟩
  rw [g3]
  congr 2
  refine List.ext_getElem? fun i => ?_
  by_cases hi : i < n
  · rw [List.getElem?_map, List.getElem?_range hi, hT i hi]; rfl
  · rw [List.getElem?_eq_none (by simp; omega), List.getElem?_eq_none (by omega)]
end Vm
/-
  Bytes: as frozen slices, and as slices that are one's own.
-/
namespace Vm
open Go

def cell8 (c : UInt8) : S := .int .u8 c.toNat
/-- bytes as rows -/
def bys (l : List UInt8) : List (List S) := l.map fun c => [cell8 c]
/-- the byte at a place, as a number -/
def bt (l : List UInt8) (i : Int) : Int := ((l.getD i.toNat 0).toNat : Int)
theorem bt_nn (l : List UInt8) (i : Int) : 0 ≤ bt l i := by unfold bt; omega
theorem bt_lt (l : List UInt8) (i : Int) : bt l i < 256 := by
  unfold bt
  have := (l.getD i.toNat 0).toNat_lt
  omega
@[simp] theorem bys_len (l : List UInt8) : (bys l).length = l.length := by simp [bys]
theorem bys_row {l : List UInt8} : ∀ r ∈ bys l, r.length = 1 := by
  intro r hr
  obtain ⟨c, _, rfl⟩ := List.mem_map.1 hr
  rfl
theorem bys_cl {l : List UInt8} : ∀ r ∈ bys l, ∀ s ∈ r, Cl s := by
  intro r hr s hs
  obtain ⟨c, _, rfl⟩ := List.mem_map.1 hr
  rw [List.mem_singleton.1 hs]
  exact cl_i
theorem bys_flat (l : List UInt8) : (bys l).flatten = l.map cell8 := by
  induction l with
  | nil => rfl
  | cons c l ih => simp only [bys, List.map_cons, List.flatten_cons, List.singleton_append] at ih ⊢; rw [ih]
theorem bys_get {l : List UInt8} {i : Nat} (h : i < l.length) : (bys l)[i]? = some [.int .u8 (bt l i)] := by
  simp [bys, h, cell8, bt]
theorem bys_take (l : List UInt8) (n : Nat) : (bys l).take n = bys (l.take n) := by simp [bys, List.map_take]
theorem bys_drop (l : List UInt8) (n : Nat) : (bys l).drop n = bys (l.drop n) := by simp [bys, List.map_drop]
theorem bys_app (l m : List UInt8) : bys (l ++ m) = bys l ++ bys m := by simp [bys]
section
variable {R : Type}
/-- reading a byte -/
theorem idxF_by {l : List UInt8} {i : Int} {k : List S → Option R} (h0 : 0 ≤ i) (h1 : i < l.length) : idxF 1 (bys l) i k = k [.int .u8 (bt l i)] := by
  obtain ⟨n, rfl⟩ : ∃ n : Nat, i = n := ⟨i.toNat, by omega⟩
  exact idxF_at (bys_get (by omega)) rfl
theorem idxF_out {z : Nat} {rows : List (List S)} {i : Int} {k : List S → Option R} (h : ¬ (0 ≤ i ∧ i < rows.length)) : idxF z rows i k = none := by
  unfold idxF; rw [if_neg h]
theorem bnd_of {y n : Nat} {kd : IntKind} (h : n ≤ y) : bnd y (iv kd (n : Int)) = some n := by
  simp only [bnd]; rw [if_pos ⟨by omega, by omega⟩]; simp
theorem slF_lo {l : List UInt8} {a : Nat} {kd : IntKind} {k : List (List S) → Option R} (h : a ≤ l.length) : slF 1 (bys l) (some (iv kd (a : Int))) none k = k (bys (l.drop a)) := by
  unfold slF
  simp only [bys_len, Option.bind_some, bnd_of h, if_pos (show ∀ r ∈ bys l, r.length = 1 from bys_row)]
  rw [show l.length = (bys l).length from (bys_len l).symm, List.take_length, bys_drop]
theorem slF_hi {l : List UInt8} {b : Nat} {kd : IntKind} {k : List (List S) → Option R} (h : b ≤ l.length) : slF 1 (bys l) none (some (iv kd (b : Int))) k = k (bys (l.take b)) := by
  unfold slF
  simp only [bys_len, Option.bind_some, bnd_of h, if_pos (show ∀ r ∈ bys l, r.length = 1 from bys_row)]
  rw [bys_take, List.drop_zero]
theorem slF_lh {l : List UInt8} {a b : Nat} {kd kd' : IntKind} {k : List (List S) → Option R} (h : a ≤ b) (h2 : b ≤ l.length) : slF 1 (bys l) (some (iv kd (a : Int))) (some (iv kd' (b : Int))) k = k (bys ((l.take b).drop a)) := by
  unfold slF
  simp only [bys_len, Option.bind_some, bnd_of h, bnd_of h2, if_pos (show ∀ r ∈ bys l, r.length = 1 from bys_row)]
  rw [bys_take, bys_drop]
end
theorem bytesS_map (l : List UInt8) : bytesS (l.map cell8) = some l := by
  induction l with
  | nil => rfl
  | cons c l ih =>
    have := c.toNat_lt
    simp only [List.map_cons, cell8, bytesS] at ih ⊢
    rw [ih, Option.bind_some, if_pos ⟨by omega, by omega⟩]
    simp
theorem fsStr_by {l : List UInt8} (h : l.length ≤ lim) : fsStr (bys l) = some (.s (.str ⟨l.toArray⟩)) := by
  unfold fsStr
  rw [if_pos bys_row, Option.bind_some, bys_flat, bytesS_map, Option.bind_some, bys_len, if_pos h]

/-- a slice that holds all of a block's bytes, and may be written -/
structure BysW (h : H) (v : V) (l : List UInt8) (b : Nat) : Prop where
  v : v = sv b 0 l.length
  n : b < h.n
  g : h.g b = .rw 1 (l.map cell8)
theorem BysW.newly (h : H) (l : List UInt8) : BysW (h.new 1 (l.map cell8)) (sv h.n 0 l.length) l h.n := ⟨rfl, by simp, by simp⟩
theorem BysW.frz {h : H} {v : V} {l : List UInt8} {b d : Nat} (w : BysW h v l b) : v = sv b 0 l.length ∧ frzS h (d + 1) (.sl (some (b, 0)) l.length) = some (.fs (bys l)) := by
  refine ⟨w.v, ?_⟩
  have := frzS_sl (h := h) (b := b) (z := 1) (d := d) (rows := bys l) w.n (by omega) (by rw [bys_flat]; exact w.g) bys_row bys_cl
  rwa [bys_len] at this
/-- bytes that are one's own: none at all, or a block -/
def Own (h : H) (v : V) (l : List UInt8) : Option Nat → Prop
  | none => v = .s (.sl none 0) ∧ l = []
  | some b => BysW h v l b
theorem Own.frz {h : H} {v : V} {l : List UInt8} {ob : Option Nat} {d : Nat} (w : Own h v l ob) : ∃ s, v = .s s ∧ frzS h (d + 1) s = some (.fs (bys l)) := by
  cases ob with
  | none => obtain ⟨rfl, rfl⟩ := w; exact ⟨_, rfl, frz_n⟩
  | some b => obtain ⟨h1, h2⟩ := BysW.frz (d := d) w; exact ⟨_, h1, h2⟩
theorem BysW.set {R : Type} {h : H} {n : Nat} {l : List UInt8} {b i : Nat} {c : UInt8} {x : Int} {k : H → Option R} (w : BysW h (sv b 0 n) l b) (hi : i < l.length) (hx : x = (c.toNat : Int)) : stK 1 h (pv b (i * 1)) (iv .u8 x) k = k (h.put b (.rw 1 ((l.set i c).map cell8))) := by
  subst hx
  rw [stK_rw (z := 1) (e := 1) (o := i * 1) (v := iv .u8 c.toNat) (cs := l.map cell8) (r := [cell8 c]) w.n w.g (.inl ⟨_, rfl, rfl, rfl⟩) rfl (by simp; omega)]
  congr 3
  unfold setAt
  rw [List.map_set, List.set_eq_take_append_cons_drop, if_pos (by simp; omega)]
  simp
theorem BysW.set_w {h : H} {n : Nat} {l : List UInt8} {b i : Nat} {c : UInt8} (w : BysW h (sv b 0 n) l b) : BysW (h.put b (.rw 1 ((l.set i c).map cell8))) (sv b 0 n) (l.set i c) b := by
  refine ⟨?_, w.n, put_g _ _ _⟩
  rw [w.v, List.length_set]
theorem BysW.len {h : H} {n : Nat} {l : List UInt8} {b : Nat} (w : BysW h (sv b 0 n) l b) : n = l.length := by
  have := w.v
  injection this with h1
  injection h1
theorem BysW.get {R : Type} {h : H} {n : Nat} {l : List UInt8} {b i : Nat} {ti : TI} {k : V → Option R} (w : BysW h (sv b 0 n) l b) (hi : i < l.length) (hz : ti.agg = false) : ldK (.one (.i .u8)) ti h (pv b (i * 1)) k = k (iv .u8 (bt l i)) := by
  have : load1 h (pv b (i * 1)) = some (.int .u8 (bt l i)) := by
    simp [load1, H.cells, w.n, w.g, Blk.cells, hi, cell8, bt]
  simp only [ldK, ldT, hz, cond_false, this, Option.bind_some]
theorem bt_ext {l m : List UInt8} (hl : l.length = m.length) (h : ∀ i : Nat, i < l.length → bt l i = bt m i) : l = m := by
  refine List.ext_getElem hl fun i h1 h2 => ?_
  have := h i h1
  simp only [bt, Int.toNat_natCast, List.getD, List.getElem?_eq_getElem h1, List.getElem?_eq_getElem h2, Option.getD_some] at this
  exact UInt8.toNat_inj.1 (by omega)
end Vm
/-
  What the laws' helpers on bytes come to: a copy, a comparison, marks written and found again.
-/
namespace Vm
open Go

theorem p_eqByteS {l m : List UInt8} (hl : l.length ≤ maxLen) : pureV (call Ev) Fn.laws_eqByteS [lv (bys l), lv (bys m)] = some (bv (decide (l = m))) := by
  unfold maxLen at hl
  rw [pu_laws_eqByteS, vcase_b, bys_len, bys_len]
  by_cases hlm : l.length = m.length
  case neg =>
    rw [if_pos (by simp; omega)]
    rw [show decide (l = m) = false from by simp; intro e; exact hlm (by rw [e])]
  rw [if_neg (by simp [hlm])]
  have loop : ∀ (k i : Nat), i + k = l.length → (∀ j : Nat, j < i → bt l j = bt m j) → Lp.laws_eqByteS 0 [lv (bys l), lv (bys m), iv .i64 i] (D 0) = some (if l = m then .done [] (D 0) else .ret (bv false) (D 0)) := by
    intro k
    induction k with
    | zero =>
      intro i hi hj
      rw [eq_laws_eqByteS_l0, vcase_b, if_neg (by simp; omega), if_pos (bt_ext hlm fun j hjl => hj j (by omega)), tidy_self]
    | succ k ih =>
      intro i hi hj
      rw [eq_laws_eqByteS_l0, vcase_b, if_pos (by simp; omega), idxF_by (by omega) (by omega)]
      simp only [List.getElem?_cons_zero, Option.bind_some, gI_i]
      rw [idxF_by (by omega) (by omega)]
      simp only [List.getElem?_cons_zero, Option.bind_some, gI_i]
      rw [vcase_b]
      by_cases hb : bt l i = bt m i
      · rw [if_neg (by simpa using hb), w64 (by omega) (by omega), show (i : Int) + 1 = ((i + 1 : Nat) : Int) from by omega, tidy_self]
        refine ih (i + 1) (by omega) fun j hji => ?_
        by_cases hje : j = i
        · subst hje; exact hb
        · exact hj j (by omega)
      · rw [if_pos (by simpa using hb), if_neg (fun e => hb (by rw [e]))]
  rw [show iv .i64 0 = iv .i64 ((0 : Nat) : Int) from rfl, loop l.length 0 (by omega) (fun j hj => by omega)]
  by_cases he : l = m <;> simp [he]

def marks (k : Nat) (n : Nat) : List UInt8 := (List.range n).map fun i => UInt8.ofNat ((k + i) % 256)
theorem marks_len (k n : Nat) : (marks k n).length = n := by simp [marks]
theorem marks_get {k n i : Nat} (h : i < n) : (marks k n)[i]? = some (UInt8.ofNat ((k + i) % 256)) := by simp [marks, h]
theorem wrap8 (k : Nat) : IntKind.u8.wrap (k : Int) = ((UInt8.ofNat (k % 256)).toNat : Int) := by
  simp [IntKind.wrap, IntKind.signed, IntKind.bits]
theorem marks_bt {k n i : Nat} (h : i < n) : bt (marks k n) i = IntKind.u8.wrap ((k + i : Nat) : Int) := by
  rw [wrap8]
  simp only [bt, Int.toNat_natCast, List.getD, marks_get h, Option.getD_some]
theorem r_mark {h : H} {v : V} {l : List UInt8} {ob : Option Nat} {k : Nat} (hv : Own h v l ob) (hl : k + l.length < 2 ^ 62) :
    ∃ h', call Ev Fn.laws_markByteS [v, iv .i64 k] h = some (iv .i64 ((k + l.length : Nat) : Int), h') ∧ Own h' v (marks k l.length) ob ∧ h'.n = h.n ∧ ∀ c, ob ≠ some c → h'.g c = h.g c ∧ h'.v c = h.v c := by
  cases ob with
  | none =>
    obtain ⟨rfl, rfl⟩ := hv
    refine ⟨h, ?_, ⟨rfl, rfl⟩, rfl, fun _ _ => ⟨rfl, rfl⟩⟩
    rw [eq_laws_markByteS, eq_laws_markByteS_l0]
    simp only [lenV, Option.bind_some, gV1_s, gI_i, vcase_b]
    simp
  | some b =>
    obtain ⟨rfl, hb, hg⟩ := hv
    obtain ⟨h', e1, e2, e3, e4⟩ := fill_rows (z := 1) (n := l.length) (b := b) (rows := bys (marks k l.length)) (L := fun i h => Lp.laws_markByteS 0 [sv b 0 l.length, iv .i64 (k + i), iv .i64 i] h) (fin := [iv .i64 ((k + l.length : Nat) : Int)]) (by simp [marks_len]) bys_row
      (fun i h r hr hi hb => by
        rw [bys_get (by rw [marks_len]; exact hi), marks_bt hi] at hr; cases hr
        refine ⟨iv .u8 (IntKind.u8.wrap ((k + i : Nat) : Int)), [sv b 0 l.length, iv .i64 ((k : Int) + ((i + 1 : Nat) : Int)), iv .i64 ((i + 1 : Nat) : Int)], .inl ⟨_, rfl, rfl, rfl⟩, ?_⟩
        show Lp.laws_markByteS 0 _ h = _
        rw [eq_laws_markByteS_l0]
        simp only [lenV, Option.bind_some, gV1_s, gI_i, vcase_b]
        rw [if_pos (by simp; omega), idxK_sv hi, w64 (by omega) (by omega), w64 (by omega) (by omega), show (i : Int) + 1 = ((i + 1 : Nat) : Int) from by omega, show (k : Int) + (i : Int) + 1 = (k : Int) + ((i + 1 : Nat) : Int) from by omega]
        rfl)
      (fun h => by
        show Lp.laws_markByteS 0 _ h = _
        rw [eq_laws_markByteS_l0]
        simp only [lenV, Option.bind_some, gV1_s, gI_i, vcase_b]
        rw [if_neg (by simp), tidy_self]
        rfl) h _ hb hg (by simp)
    rw [eq_laws_markByteS]
    rw [Int.add_zero] at e1
    rw [e1]
    exact ⟨h', rfl, ⟨by rw [marks_len], by rw [e2]; exact hb, by rw [e3, bys_flat]⟩, e2, fun c hc => e4 c (by intro e; subst e; exact hc rfl)⟩
theorem p_held {k n : Nat} (hl : k + n < 2 ^ 62) : pureV (call Ev) Fn.laws_heldByteS [lv (bys (marks k n)), iv .i64 k] = some (iv .i64 ((k + n : Nat) : Int)) := by
  have hlen := marks_len k n
  have loop : ∀ (q i : Nat), i + q = n → Lp.laws_heldByteS 0 [lv (bys (marks k n)), iv .i64 ((k + i : Nat) : Int), iv .i64 i] (D 0) = some (.done [iv .i64 ((k + n : Nat) : Int)] (D 0)) := by
    intro q
    induction q with
    | zero =>
      intro i hi
      rw [eq_laws_heldByteS_l0, vcase_b, bys_len, hlen, if_neg (by simp; omega), tidy_self, show k + i = k + n from by omega]
    | succ q ih =>
      intro i hi
      rw [eq_laws_heldByteS_l0, vcase_b, bys_len, hlen, if_pos (by simp; omega), idxF_by (by omega) (by omega), marks_bt (by omega)]
      simp only [List.getElem?_cons_zero, Option.bind_some, gI_i]
      rw [vcase_b, if_neg (by simp), w64 (by omega) (by omega), w64 (by omega) (by omega), tidy_self,
          show ((k + i : Nat) : Int) + 1 = ((k + (i + 1) : Nat) : Int) from by omega, show (i : Int) + 1 = ((i + 1 : Nat) : Int) from by omega]
      exact ih (i + 1) (by omega)
  rw [pu_laws_heldByteS, show iv .i64 0 = iv .i64 ((0 : Nat) : Int) from rfl, show iv .i64 (k : Int) = iv .i64 ((k + 0 : Nat) : Int) from rfl, loop n 0 (by omega)]
  simp
end Vm
/-
  Calls with an answer that is new, and what is one's own of it.
-/
namespace Vm
open Go

theorem over_n {h h1 : H} (hn : h.n ≤ h1.n) : (h.over h1).n = h1.n := by simp only [H.over]; omega
theorem over_lt {h h1 : H} {b : Nat} (hb : b < h.n) : (h.over h1).g b = h.g b ∧ (h.over h1).v b = h.v b := by simp [H.over, hb]
theorem over_ge {h h1 : H} {b : Nat} (hb : h.n ≤ b) : (h.over h1).g b = h1.g b := by simp only [H.over]; rw [if_neg (by omega)]
/-- a heap with what was there, and more -/
structure Up (h h' : H) : Prop where
  n : h.n ≤ h'.n
  g : ∀ b, b < h.n → h'.g b = h.g b
theorem Up.refl (h : H) : Up h h := ⟨Nat.le_refl _, fun _ _ => rfl⟩
theorem Up.trans {a b c : H} (x : Up a b) (y : Up b c) : Up a c := ⟨Nat.le_trans x.n y.n, fun i hi => (y.g i (Nat.lt_of_lt_of_le hi x.n)).trans (x.g i hi)⟩
theorem up_over {h h1 : H} (hn : h.n ≤ h1.n) : Up h (h.over h1) := ⟨by rw [over_n hn]; exact hn, fun b hb => (over_lt hb).1⟩
theorem up_new {h : H} {e : Nat} {cs : List S} : Up h (h.new e cs) := ⟨by simp, fun b hb => new_g' (by omega)⟩
theorem Own.up {h h' : H} (u : Up h h') {v : V} {l : List UInt8} {ob : Option Nat} (x : Own h v l ob) : Own h' v l ob := by
  cases ob with
  | none => exact x
  | some b => exact ⟨x.v, Nat.lt_of_lt_of_le x.n u.n, by rw [u.g b x.n]; exact x.g⟩
/-- all but one block as it was -/
structure But (b : Option Nat) (h h' : H) : Prop where
  n : h'.n = h.n
  g : ∀ c, b ≠ some c → h'.g c = h.g c
theorem Own.but {h h' : H} {o : Option Nat} (u : But o h h') {v : V} {l : List UInt8} {ob : Option Nat} (x : Own h v l ob) (hne : ∀ b, ob = some b → o ≠ some b) : Own h' v l ob := by
  cases ob with
  | none => exact x
  | some b => exact ⟨x.v, by rw [u.n]; exact x.n, by rw [u.g b (hne b rfl)]; exact x.g⟩
theorem tidy_same {h h' : H} {l : List V} (hn : h'.n = h.n) (hg : ∀ c, h.n ≤ c → h'.g c = h.g c ∧ h'.v c = h.v c) : tidy h l h' = h' := by
  unfold tidy
  split
  · obtain ⟨n', g', v'⟩ := h'
    simp only at hn
    subst hn
    simp only [H.mk.injEq, true_and]
    constructor <;> (funext b; split <;> first | rfl | (have := hg b (by omega); simp_all))
  · rfl
/-- cells that lead nowhere, once they are frozen -/
theorem nofz_of {n : Nat} {v : V} {h : H} (h1 : scaV v = true) (h2 : ∀ b, n ≤ b → b < h.n → ∀ s ∈ (h.g b).cells, scaS s = true) : NoFz n (v, h) := ⟨h1, h2⟩
theorem pF {R : Type} {cl : Nat → List V → H → Option (V × H)} {g : Nat} {off : Bool} {xs : List V} {h h1 : H} {v : V} {k : V → H → Option R} (hc : cl g xs (D h.n) = some (v, h1)) (hz : NoFz h.n (v, h1)) : pcallF cl g off xs h k = k v (h.over h1) := by
  unfold pcallF
  rw [hc, ob]
  unfold fchk
  rw [if_pos (.inr hz.1)]
  have e : h.over (scrub h.n h1) = h.over h1 := by
    unfold H.over scrub
    simp only [H.mk.injEq, true_and, and_true]
    funext b
    by_cases hb : b < h.n
    · rw [if_pos hb, if_pos hb]
    · rw [if_neg hb, if_neg hb, if_neg]
      rintro ⟨h2, h3, h4⟩
      have : ((h1.g b).cells.all scaS) = true := List.all_eq_true.2 (hz.2 b h2 h3)
      rw [this] at h4; cases h4
  cases off with
  | true => rfl
  | false => dsimp only [cond_false]; rw [e]
theorem loadN_rw {n e b o : Nat} {h : H} {cs : List S} (hb : b < h.n) (hg : h.g b = .rw e cs) (ho : o + n ≤ cs.length) : loadN n h (pv b o) = some ((cs.drop o).take n) := by
  simp only [loadN, H.cells, hb, if_true, hg, Blk.cells, true_and]
  rw [if_pos ho]
theorem loadN_2 {e b : Nat} {h : H} {x y : S} (hb : b < h.n) (hg : h.g b = .rw e [x, y]) : loadN 2 h (pv b 0) = some [x, y] := loadN_rw hb hg (by simp)
/-- a pair stored into a new block -/
theorem st2_new {R : Type} {h : H} {x y a b : S} {k : H → Option R} : stK 2 (h.new 0 [a, b]) (pv h.n 0) (.agg [x, y]) k = k ((h.new 0 [a, b]).put h.n (.rw 0 [x, y])) :=
  stK_rw (z := 2) (e := 0) (o := 0) (b := h.n) (cs := [a, b]) (r := [x, y]) (by simp) (new_g _ _ _) (.inr rfl) rfl (by simp)
theorem up_st {h : H} {e e' : Nat} {cs cs' : List S} : Up h ((h.new e cs).put h.n (.rw e' cs')) := ⟨by simp, fun b hb => by rw [put_g' (by omega), new_g' (by omega)]⟩
theorem g_st {h : H} {e e' : Nat} {cs cs' : List S} : ((h.new e cs).put h.n (.rw e' cs')).g h.n = .rw e' cs' := put_g _ _ _
theorem n_st {h : H} {e e' : Nat} {cs cs' : List S} : ((h.new e cs).put h.n (.rw e' cs')).n = h.n + 1 := by simp
/-- a result of a code and bytes: its two cells -/
def Own2 (h : H) (c : Int) (y : S) (l : List UInt8) (ob : Option Nat) : Prop := Own h (.s y) l ob
theorem frz2 {h : H} {c : Int} {y : S} {l : List UInt8} {ob : Option Nat} (w : Own h (.s y) l ob) : frzV h (.agg [.int .i64 c, y]) = some (.agg [.int .i64 c, .fs (bys l)]) := by
  obtain ⟨s, h1, h2⟩ := w.frz (d := 7)
  cases h1
  simp [h2]
theorem frz1 {h : H} {v : V} {l : List UInt8} {ob : Option Nat} (w : Own h v l ob) : frzV h v = some (lv (bys l)) := by
  obtain ⟨s, rfl, h2⟩ := w.frz (d := 7)
  simp [h2]
theorem frzVs_nil {h : H} : frzVs h [] = some [] := id rfl
theorem frzVs_cons {h : H} {v w : V} {vs ws : List V} (h1 : frzV h v = some w) (h2 : frzVs h vs = some ws) : frzVs h (v :: vs) = some (w :: ws) := by simp [frzVs, h1, h2]
theorem frzV_iv {h : H} {k : IntKind} {n : Int} : frzV h (iv k n) = some (iv k n) := by simp
theorem frzV_lv {h : H} {l : List (List S)} : frzV h (lv l) = some (lv l) := by simp
theorem frzV_agf {h : H} {c : Int} {l : List (List S)} : frzV h (.agg [.int .i64 c, .fs l]) = some (.agg [.int .i64 c, .fs l]) := by simp
theorem norm_nil {l : List V} : normVs [] l = l := by cases l <;> rfl
/-- what a function that answers with new bytes comes to: on a heap of which nothing is left -/
structure NewB (n : Nat) (h : H) (v : V) (l : List UInt8) (ob : Option Nat) : Prop where
  own : Own h v l ob
  le : n ≤ h.n
  new : ∀ b, ob = some b → n ≤ b
  z : ∀ b, n ≤ b → b < h.n → ∀ s ∈ (h.g b).cells, scaS s = true
theorem Own.sca {h : H} {y : S} {l : List UInt8} {ob : Option Nat} (w : Own h (.s y) l ob) : scaS y = true := by
  cases ob with
  | none => obtain ⟨h1, _⟩ := w; cases h1; rfl
  | some b => have := w.v; cases this; rfl
end Vm
/-
  A copy of bytes, as a call whose answer is new.
-/
namespace Vm
open Go

/-- an answer of new bytes that lie in a block -/
structure NewA (n : Nat) (h : H) (v : V) (l : List UInt8) : Prop where
  own : BysW h v l n
  le : h.n = n + 1
theorem NewA.nofz {n : Nat} {h : H} {v : V} {l : List UInt8} (w : NewA n h v l) : NoFz n (v, h) := by
  refine nofz_of ?_ fun b h1 h2 s hs => ?_
  · rw [w.own.v]; rfl
  · have : b = n := by have := w.le; omega
    subst this
    rw [w.own.g] at hs
    obtain ⟨c, _, rfl⟩ := List.mem_map.1 hs
    rfl
theorem f_toByteS {l : List UInt8} (hl : l.length ≤ lim) (n : Nat) : ∃ v h', call Ev Fn.laws_toByteS [lv (bys l)] (D n) = some (v, h') ∧ NewA n h' v l := by
  have hl' := hl
  unfold lim at hl'
  rw [eq_laws_toByteS, bys_len, mkSl_of (z := 1) (zero := [.int .u8 0]) hl (by omega) rfl, ob]
  obtain ⟨h', e1, e2, e3, e4⟩ := fill_rows (z := 1) (n := l.length) (b := n) (rows := bys l) (L := fun i h => Lp.laws_toByteS 0 [lv (bys l), sv n 0 l.length, iv .i64 i] h) (fin := [sv n 0 l.length]) (by simp) bys_row
    (fun i h r hr hi hb => by
      rw [bys_get hi] at hr; cases hr
      refine ⟨iv .u8 (bt l i), [lv (bys l), sv n 0 l.length, iv .i64 ((i + 1 : Nat) : Int)], .inl ⟨_, rfl, rfl, rfl⟩, ?_⟩
      show Lp.laws_toByteS 0 _ h = _
      rw [eq_laws_toByteS_l0, vcase_b, if_pos (by simp; omega), idxF_by (by omega) (by omega)]
      simp only [gx0, ob, gI_i]
      rw [idxK_sv hi, w64 (by omega) (by omega), show (i : Int) + 1 = ((i + 1 : Nat) : Int) from by omega])
    (fun h => by
      show Lp.laws_toByteS 0 _ h = _
      rw [eq_laws_toByteS_l0, vcase_b, if_neg (by simp), tidy_self])
    ((D n).new 1 ((List.replicate l.length [.int .u8 0]).flatten)) _ (by simp) (by exact new_g (D n) _ _) (repl_len rfl)
  rw [D_n, e1]
  simp only [ob, lcase_done, gx0]
  exact ⟨_, _, rfl, ⟨rfl, by rw [e2]; simp, by rw [e3, bys_flat]⟩, by rw [e2]; simp⟩
theorem p_toByteS {l : List UInt8} (hl : l.length ≤ lim) : pureV (call Ev) Fn.laws_toByteS [lv (bys l)] = some (lv (bys l)) := by
  obtain ⟨v, h', e, w⟩ := f_toByteS hl 0
  unfold pureV
  rw [e, ob, frz1 (ob := some 0) w.own]
end Vm
/-
  Bytes that came in.
-/
namespace Vm
open Go

theorem rows8 {P : Program} {m : Nat} {e : TypeId} (he : P.underlying e = some (.int .u8)) : ∀ rows : List (List S), (∀ r ∈ rows, r.length = P.cellsOf e ∧ Rp P m e r) → ∃ l : List UInt8, rows = bys l
  | [], _ => ⟨[], rfl⟩
  | r :: rows, hr => by
    obtain ⟨l, h1⟩ := rows8 he rows fun r hm => hr r (by simp [hm])
    obtain ⟨n, h3, h4⟩ := (hr r (by simp)).2.int he
    have hb := wf8 h4
    refine ⟨UInt8.ofNat n.toNat :: l, ?_⟩
    have : cell8 (UInt8.ofNat n.toNat) = .int .u8 n := by
      unfold cell8
      congr 1
      simp
      omega
    rw [h1, h3]
    simp only [bys, List.map_cons, this]
theorem bys_of {P : Program} {n : Nat} {t e : TypeId} {s : S} (ht : P.underlying t = some (.slice e)) (he : P.underlying e = some (.int .u8)) (hr : Rp P n t [s]) : ∃ l, s = .fs (bys l) ∧ l.length ≤ maxLen := by
  obtain ⟨m, rows, h1, h2, h3⟩ := hr.slice ht
  obtain ⟨l, rfl⟩ := rows8 he rows h3
  cases h1
  exact ⟨l, rfl, by simpa using h2⟩
theorem rp_Bytes {n : Nat} {s : S} (hr : Rp PR n T.S_uint8 [s]) : ∃ l, s = .fs (bys l) ∧ l.length ≤ maxLen := bys_of und_S_uint8 und_uint8 hr
theorem arg_Bytes {x : V} (hr : ArgRp PR T.S_uint8 x) : ∃ l, x = lv (bys l) ∧ l.length ≤ maxLen := by
  obtain ⟨s, n, rfl, h1⟩ := hr.slice und_S_uint8
  obtain ⟨l, rfl, h2⟩ := rp_Bytes h1
  exact ⟨l, rfl, h2⟩
theorem arg_u8 {x : V} (hr : ArgRp PR T.uint8 x) : ∃ c : UInt8, x = iv .u8 c.toNat := by
  obtain ⟨n, rfl, h⟩ := hr.int und_uint8
  have := wf8 h
  exact ⟨UInt8.ofNat n.toNat, by congr 2; simp; omega⟩
end Vm
/-
  Runs: their fault, their size, a comparison.
-/
namespace Vm
open Go

structure RunD where
  at_ : Int
  l : List UInt8
abbrev RunD.cs (r : RunD) : List S := [.int .i64 r.at_, .fs (bys r.l)]
def runs (rs : List RunD) : List (List S) := rs.map RunD.cs
@[simp] theorem runs_len (rs : List RunD) : (runs rs).length = rs.length := by simp [runs]
theorem runs_row {rs : List RunD} : ∀ r ∈ runs rs, r.length = 2 := by
  intro r hr
  obtain ⟨c, _, rfl⟩ := List.mem_map.1 hr
  rfl
theorem runs_cl {rs : List RunD} : ∀ r ∈ runs rs, ∀ s ∈ r, Cl s := by
  intro r hr s hs
  obtain ⟨c, _, rfl⟩ := List.mem_map.1 hr
  rcases List.mem_cons.1 hs with rfl | hs
  · exact cl_i
  · rw [List.mem_singleton.1 hs]; exact cl_f
theorem runs_get {rs : List RunD} {i : Nat} {r : RunD} (h : rs[i]? = some r) : (runs rs)[i]? = some r.cs := by simp [runs, h]
section
variable {R : Type}
theorem idxF_run {rs : List RunD} {i : Nat} {r : RunD} {k : List S → Option R} (h : rs[i]? = some r) : idxF 2 (runs rs) (i : Int) k = k r.cs := idxF_at (runs_get h) rfl
end
theorem rowN_run {r : RunD} : rowN 2 r.cs 0 = some r.cs := rowN_all rfl
structure RunD.ok (r : RunD) : Prop where
  a1 : -9223372036854775808 ≤ r.at_
  a2 : r.at_ < 9223372036854775808
  n : r.l.length ≤ maxLen
theorem rp_Run {n : Nat} {xs : List S} (hr : Rp PR n T.laws_Run xs) : ∃ r : RunD, xs = r.cs ∧ r.ok := by
  obtain ⟨m, hf⟩ := hr.st und_laws_Run
  obtain ⟨a0, b0, rfl, h0, a1, b1, rfl, h1, rfl⟩ := hf
  obtain ⟨x0, rfl, w0⟩ := h0.int und_int64
  obtain ⟨m', rows, rfl, w1, w2⟩ := h1.slice und_S_uint8
  obtain ⟨l, rfl⟩ := rows8 und_uint8 rows w2
  exact ⟨⟨x0, l⟩, rfl, (wf64 w0).1, (wf64 w0).2, by simpa using w1⟩
theorem rows_Run {m : Nat} : ∀ rows : List (List S), (∀ r ∈ rows, r.length = PR.cellsOf T.laws_Run ∧ Rp PR m T.laws_Run r) → ∃ rs : List RunD, rows = runs rs ∧ ∀ r ∈ rs, r.ok
  | [], _ => ⟨[], rfl, by simp⟩
  | r :: rows, hr => by
    obtain ⟨rs, h1, h2⟩ := rows_Run rows fun r hm => hr r (by simp [hm])
    obtain ⟨a, h3, h4⟩ := rp_Run (hr r (by simp)).2
    refine ⟨a :: rs, by rw [h1, h3]; rfl, fun x hx => ?_⟩
    rcases List.mem_cons.1 hx with rfl | hx
    · exact h4
    · exact h2 x hx
theorem arg_Runs {x : V} (hr : ArgRp PR T.S_laws_Run x) : ∃ rs : List RunD, x = lv (runs rs) ∧ (∀ r ∈ rs, r.ok) ∧ rs.length ≤ maxLen := by
  obtain ⟨s, n, rfl, h1⟩ := hr.slice und_S_laws_Run
  obtain ⟨m, rows, h1, h2, h3⟩ := h1.slice und_S_laws_Run
  cases h1
  obtain ⟨rs, rfl, h4⟩ := rows_Run rows h3
  exact ⟨rs, rfl, h4, by simpa using h2⟩

/-! size -/
/-- what is left of a number of cells, or -1 -/
def szL (n : Int) (left : Int) : Int := if n ≤ left then left - n else -1
def szRuns : List RunD → Int → Int
  | [], left => left
  | r :: rs, left => if (r.l.length : Int) ≤ left then szRuns rs (left - r.l.length) else -1
theorem szRuns_le : ∀ (rs : List RunD) (left : Int), 0 ≤ left → szRuns rs left ≤ left ∧ -1 ≤ szRuns rs left
  | [], left, h => ⟨Int.le_refl _, by simp only [szRuns]; omega⟩
  | r :: rs, left, h => by
    simp only [szRuns]
    split
    · have := szRuns_le rs (left - r.l.length) (by omega); omega
    · omega
theorem szRuns_all : ∀ (rs : List RunD) (left : Int), 0 ≤ szRuns rs left → ∀ r ∈ rs, (r.l.length : Int) ≤ left
  | [], left, h => by simp
  | r :: rs, left, h => by
    simp only [szRuns] at h
    split at h
    · intro x hx
      rcases List.mem_cons.1 hx with rfl | hx
      · assumption
      · have := szRuns_all rs _ h x hx; omega
    · omega
theorem p_szByteS {l : List UInt8} {left : Int} (h1 : 0 ≤ left) (h2 : left < 9223372036854775808) (hl : l.length ≤ maxLen) : pureV (call Ev) Fn.laws_szByteS [lv (bys l), iv .i64 left] = some (iv .i64 (szL l.length left)) := by
  unfold maxLen at hl
  rw [pu_laws_szByteS, vcase_b, bys_len, w64 (by omega) (by omega)]
  unfold szL
  simp only [decide_eq_true_eq]
  split <;> split <;> first | rfl | omega
theorem p_szRun (r : RunD) {left : Int} (h1 : 0 ≤ left) (h2 : left < 9223372036854775808) (hl : r.l.length ≤ maxLen) : pureV (call Ev) Fn.laws_szRun [.agg r.cs, iv .i64 left] = some (iv .i64 (szL r.l.length left)) := by
  rw [pu_laws_szRun, pc (p_szByteS h1 h2 hl) rfl]
  simp only [gV1_s, gI_i, vcase_b, decide_eq_true_eq]
  unfold szL
  split <;> split <;> first | rfl | omega
theorem p_szRunS {all : List RunD} {left : Int} (h1 : 0 ≤ left) (h2 : left < 9223372036854775808) (hl : all.length ≤ maxLen) (hr : ∀ r ∈ all, r.l.length ≤ maxLen) : pureV (call Ev) Fn.laws_szRunS [lv (runs all), iv .i64 left] = some (iv .i64 (if (all.length : Int) ≤ left then szRuns all (left - all.length) else -1)) := by
  unfold maxLen at hl
  have loop : ∀ (rs : List RunD) (i : Nat) (q : Int), all.drop i = rs → 0 ≤ q → q < 9223372036854775808 →
      (Lp.laws_szRunS 0 [lv (runs all), iv .i64 q, iv .i64 i] (D 0)).bind (fun o102 => lcase o102 (fun l103 h104 =>
        (l103[0]?).bind fun w107 =>
        gV1 w107 fun x108 =>
        gI .i64 x108 fun i109 =>
        some (iv .i64 i109)) (fun v105 h106 =>
        frzV h106 v105)) = some (iv .i64 (szRuns rs q)) := by
    intro rs
    induction rs with
    | nil =>
      intro i q hi h1 h2
      have := drop_nil hi
      rw [eq_laws_szRunS_l0, vcase_b, if_neg (by simp; omega), tidy_self, ob, lcase_done]
      simp only [gx0, ob, gV1_s, gI_i, szRuns]
    | cons r rs ih =>
      intro i q hi h1 h2
      obtain ⟨g1, g2, g3⟩ := drop_cons hi
      rw [eq_laws_szRunS_l0, vcase_b, if_pos (by simp; omega), idxF_run g1, rowN_run]
      simp only [ob, gx0, gx1, gI_i, gF_f, ln0, ln1, Nat.zero_add, Nat.reduceAdd, if_true]
      rw [pc (p_szRun r h1 h2 (hr r (List.mem_of_getElem? g1))) rfl]
      simp only [gV1_s, gI_i, vcase_b, decide_eq_true_eq, szRuns, szL]
      by_cases hle : (r.l.length : Int) ≤ q
      · rw [if_pos hle, if_neg (by omega), w64 (by omega) (by omega), tidy_self, show (i : Int) + 1 = ((i + 1 : Nat) : Int) from by omega, if_pos hle]
        exact ih (i + 1) _ g2 (by omega) (by omega)
      · rw [if_neg hle, if_pos (by omega), if_neg hle]; rfl
  rw [pu_laws_szRunS, vcase_b, runs_len, w64 (by omega) (by omega)]
  by_cases hq : (all.length : Int) ≤ left
  · rw [if_neg (by simp; omega), if_pos hq]
    exact loop all 0 _ rfl (by omega) (by omega)
  · rw [if_pos (by simp; omega), if_neg hq]

/-! a comparison -/
theorem p_eqRun (r : RunD) (hl : r.l.length ≤ maxLen) : pureV (call Ev) Fn.laws_eqRun [.agg r.cs, .agg r.cs] = some (bv true) := by
  rw [pu_laws_eqRun, vcase_b, if_neg (by simp), pc (p_eqByteS hl) rfl]
  simp
theorem p_eqRunS {all : List RunD} (hl : all.length ≤ maxLen) (hr : ∀ r ∈ all, r.l.length ≤ maxLen) : pureV (call Ev) Fn.laws_eqRunS [lv (runs all), lv (runs all)] = some (bv true) := by
  unfold maxLen at hl
  have loop : ∀ (rs : List RunD) (i : Nat), all.drop i = rs → Lp.laws_eqRunS 0 [lv (runs all), lv (runs all), iv .i64 i] (D 0) = some (.done [] (D 0)) := by
    intro rs
    induction rs with
    | nil =>
      intro i hi
      have := drop_nil hi
      rw [eq_laws_eqRunS_l0, vcase_b, if_neg (by simp; omega), tidy_self]
    | cons r rs ih =>
      intro i hi
      obtain ⟨g1, g2, g3⟩ := drop_cons hi
      rw [eq_laws_eqRunS_l0, vcase_b, if_pos (by simp; omega), idxF_run g1, rowN_run]
      simp only [ob, gx0, gx1, gI_i, gF_f, ln0, ln1, Nat.zero_add, Nat.reduceAdd, if_true]
      rw [idxF_run g1, rowN_run]
      simp only [ob, gx0, gx1, gI_i, gF_f, ln0, ln1, Nat.zero_add, Nat.reduceAdd, if_true]
      rw [pc (p_eqRun r (hr r (List.mem_of_getElem? g1))) rfl]
      simp only [gV1_s, gB_b, hchk_self, vcase_b, Bool.not_true, Bool.false_eq_true, if_false]
      rw [w64 (by omega) (by omega), tidy_self, show (i : Int) + 1 = ((i + 1 : Nat) : Int) from by omega]
      exact ih (i + 1) g2
  rw [pu_laws_eqRunS, vcase_b, if_neg (by simp), show iv .i64 0 = iv .i64 ((0 : Nat) : Int) from rfl, loop all 0 rfl]
  simp

/-! the fault -/
def runsG : Int → List RunD → Int
  | _, [] => 0
  | least, r :: rs => if inB r.at_ 0 63 && inB r.l.length 1 64 && decide (r.at_ + r.l.length ≤ 64) then (if r.at_ < least then 1 else runsG (r.at_ + r.l.length + 1) rs) else 3
def runsF (rs : List RunD) : Int := if 64 < rs.length then 2 else runsG 0 rs
theorem p_RunsFault {all : List RunD} (hl : all.length ≤ maxLen) : pureV (call Ev) Fn.impl_RunsFault [lv (runs all)] = some (iv .i64 (runsF all)) := by
  unfold maxLen at hl
  have loop : ∀ (rs : List RunD) (i : Nat) (q : Int), all.drop i = rs →
      (Lp.impl_RunsFault 0 [iv .i64 q, lv (runs all), iv .i64 all.length, iv .i64 i] (D 0)).bind (fun o102 => lcase o102 (fun l103 h104 => some (iv .i64 0)) (fun v105 h106 => frzV h106 v105)) = some (iv .i64 (runsG q rs)) := by
    intro rs
    induction rs with
    | nil =>
      intro i q hi
      have := drop_nil hi
      rw [eq_impl_RunsFault_l0, vcase_b, if_neg (by simp; omega), tidy_self]
      simp [runsG]
    | cons r rs ih =>
      intro i q hi
      obtain ⟨g1, g2, g3⟩ := drop_cons hi
      rw [eq_impl_RunsFault_l0, vcase_b, if_pos (by simp; omega), idxF_run g1, rowN_run]
      simp only [ob, gx0, gx1, gI_i, gF_f, ln0, ln1, Nat.zero_add, Nat.reduceAdd, if_true]
      rw [stK_rw (z := 2) (e := 0) (o := 0) (b := (D 0).n) (cs := [.int .i64 0, .sl none 0]) (r := r.cs) (by simp) (new_g _ _ _) (.inr rfl) rfl (by simp)]
      have l0 : ∀ {X : List S}, load1 (((D 0).new 0 [.int .i64 0, .sl none 0]).put (D 0).n (.rw 0 X)) (pv (D 0).n 0) = X[0]? := fun {X} => by simp [load1, H.cells, Blk.cells]
      have l1 : ∀ {X : List S}, load1 (((D 0).new 0 [.int .i64 0, .sl none 0]).put (D 0).n (.rw 0 X)) (pv (D 0).n 1) = X[1]? := fun {X} => by simp [load1, H.cells, Blk.cells]
      have se : setAt [.int .i64 0, .sl none 0] 0 r.cs = r.cs := id rfl
      rw [se]
      simp only [l0, l1, gx0, gx1, ob, lenV, gV1_s, gI_i, bys_len]
      rw [pc (p_in _ _ _) rfl]
      simp only [gV1_s, gB_b, vcase_b]
      unfold runsG
      cases hA : inB r.at_ 0 63
      · simp
      simp only [Bool.not_true, Bool.false_eq_true, if_false, Bool.true_and]
      rw [pc (p_in _ _ _) rfl]
      simp only [gV1_s, gB_b, vcase_b]
      cases hB : inB r.l.length 1 64
      · simp
      simp only [Bool.not_true, Bool.false_eq_true, if_false, Bool.true_and]
      have hA' := inB_iff.1 hA
      have hB' := inB_iff.1 hB
      rw [w64 (n := r.at_ + (r.l.length : Int)) (by omega) (by omega)]
      by_cases h64 : r.at_ + (r.l.length : Int) ≤ 64
      case neg => rw [if_pos (by simp; omega)]; simp [h64]
      rw [if_neg (by simp; omega)]
      by_cases hq : r.at_ < q
      · rw [if_pos (by simpa using hq)]; simp [h64, hq]
      rw [if_neg (by simpa using hq), w64 (by omega) (by omega), w64 (by omega) (by omega), tidy_ext ((HKeep.refl _).new.put (by simp)) (by simp [belV, belS]), show (i : Int) + 1 = ((i + 1 : Nat) : Int) from by omega, ih (i + 1) _ g2]
      simp [h64, hq]
  rw [pu_impl_RunsFault, vcase_b, runs_len]
  unfold runsF
  by_cases h64 : 64 < all.length
  · rw [if_pos (by simp; omega), if_pos h64]
  · rw [if_neg (by simp; omega), if_neg h64]
    exact loop all 0 0 rfl
theorem p_l3Fault {all : List RunD} (hl : all.length ≤ maxLen) : pureV (call Ev) Fn.spec_l3Fault [lv (runs all)] = some (iv .i64 (runsF all)) := by
  unfold maxLen at hl
  have loop : ∀ (rs : List RunD) (i : Nat) (q : Int), all.drop i = rs → (i = 0 ∧ q = 0 ∨ 0 < i ∧ ∃ p : RunD, all[i - 1]? = some p ∧ q = p.at_ + p.l.length + 1 ∧ 0 ≤ p.at_ ∧ p.at_ + p.l.length ≤ 64) →
      (Lp.spec_l3Fault 0 [lv (runs all), iv .i64 i] (D 0)).bind (fun o102 => lcase o102 (fun l103 h104 => some (iv .i64 0)) (fun v105 h106 => frzV h106 v105)) = some (iv .i64 (runsG q rs)) := by
    intro rs
    induction rs with
    | nil =>
      intro i q hi _
      have := drop_nil hi
      rw [eq_spec_l3Fault_l0, vcase_b, if_neg (by simp; omega), tidy_self]
      simp [runsG]
    | cons r rs ih =>
      intro i q hi hprev
      obtain ⟨g1, g2, g3⟩ := drop_cons hi
      rw [eq_spec_l3Fault_l0, vcase_b, if_pos (by simp; omega), idxF_run g1]
      simp only [gx0, gx1, ob, gI_i, gF_f, bys_len]
      rw [idxF_run g1]
      simp only [gx0, gx1, ob, gI_i, gF_f, bys_len]
      rw [pc (p_l1In _ _ _) rfl]
      simp only [gV1_s, gB_b, vcase_b]
      unfold runsG
      cases hA : inB r.at_ 0 63
      · simp
      simp only [Bool.not_true, Bool.false_eq_true, if_false, Bool.true_and]
      rw [pc (p_l1In _ _ _) rfl]
      simp only [gV1_s, gB_b, vcase_b]
      cases hB : inB r.l.length 1 64
      · simp
      simp only [Bool.not_true, Bool.false_eq_true, if_false, Bool.true_and]
      have hA' := inB_iff.1 hA
      have hB' := inB_iff.1 hB
      rw [idxF_run g1]
      simp only [gx0, gx1, ob, gI_i, gF_f, bys_len]
      rw [w64 (n := r.at_ + (r.l.length : Int)) (by omega) (by omega)]
      by_cases h64 : r.at_ + (r.l.length : Int) ≤ 64
      case neg => rw [if_pos (by simp; omega)]; simp [h64]
      rw [if_neg (by simp; omega)]
      have hnext := ih (i + 1) (r.at_ + r.l.length + 1) g2 (.inr ⟨by omega, r, by simpa using g1, rfl, hA'.1, h64⟩)
      rw [w64 (n := (i : Int) + 1) (by omega) (by omega), tidy_self, show (i : Int) + 1 = ((i + 1 : Nat) : Int) from by omega]
      rcases hprev with ⟨rfl, rfl⟩ | ⟨hpos, p, g4, rfl, p1, p2⟩
      · rw [if_neg (by simp), hnext]
        simp [h64, show ¬ r.at_ < 0 by omega]
      · rw [if_pos (by simp; omega), w64 (n := (i : Int) - 1) (by omega) (by omega), idxF_run g1, show (i : Int) - 1 = ((i - 1 : Nat) : Int) from by omega]
        simp only [gx0, gx1, ob, gI_i, gF_f, bys_len]
        rw [idxF_run g4]
        simp only [gx0, gx1, ob, gI_i, gF_f, bys_len]
        rw [idxF_run g4]
        simp only [gx0, gx1, ob, gI_i, gF_f, bys_len]
        rw [w64 (by omega) (by omega)]
        by_cases hq : r.at_ ≤ p.at_ + p.l.length
        · rw [if_pos (by simpa using hq)]; simp [h64, show r.at_ < p.at_ + p.l.length + 1 by omega]
        · rw [if_neg (by simpa using hq), hnext]; simp [h64, show ¬ r.at_ < p.at_ + p.l.length + 1 by omega]
  rw [pu_spec_l3Fault, vcase_b, runs_len]
  unfold runsF
  by_cases h64 : 64 < all.length
  · rw [if_pos (by simp; omega), if_pos h64]
  · rw [if_neg (by simp; omega), if_neg h64]
    exact loop all 0 0 rfl (.inl ⟨rfl, rfl⟩)
def inR (r : RunD) : Prop := 0 ≤ r.at_ ∧ r.at_ + r.l.length ≤ 64 ∧ 1 ≤ r.l.length
theorem runsG_ok : ∀ (rs : List RunD) (q : Int), runsG q rs = 0 → ∀ r ∈ rs, inR r
  | [], q, h => by simp
  | r :: rs, q, h => by
    unfold runsG at h
    split at h
    · rename_i hc
      simp only [Bool.and_eq_true, decide_eq_true_eq] at hc
      have h1 := inB_iff.1 hc.1.1
      have h2 := inB_iff.1 hc.1.2
      split at h
      · omega
      · intro x hx
        rcases List.mem_cons.1 hx with rfl | hx
        · exact ⟨h1.1, hc.2, by omega⟩
        · exact runsG_ok rs _ h x hx
    · omega
theorem runsF_ok {rs : List RunD} (h : runsF rs = 0) : rs.length ≤ 64 ∧ ∀ r ∈ rs, inR r := by
  unfold runsF at h
  split at h
  · omega
  · exact ⟨by omega, runsG_ok rs 0 h⟩
end Vm
/-
  Bytes appended and copied; results of a code and bytes: compared, marked, found again.
-/
namespace Vm
open Go

theorem cellsS_by {h : H} {m : List UInt8} : cellsS 1 h (lv (bys m)) = some (m.map cell8) := by
  simp only [cellsS, if_pos (show ∀ r ∈ bys m, r.length = 1 from bys_row), bys_flat]
theorem cellsS_w {h : H} {v : V} {l : List UInt8} {b : Nat} (w : BysW h v l b) : cellsS 1 h v = some (l.map cell8) := by
  have hc : h.cells b = l.map cell8 := by unfold H.cells; rw [if_pos w.n, w.g]; rfl
  rw [w.v]
  simp only [cellsS, hc]
  rw [if_pos ⟨w.n, by simp⟩, List.drop_zero, List.take_of_length_le (by simp)]
/-- bytes behind bytes that are one's own -/
theorem app_by {h : H} {v : V} {l m : List UInt8} {b : Nat} (w : BysW h v l b) (hm : l.length + m.length ≤ lim) :
    appS 1 h v (lv (bys m)) = some (sv h.n 0 (l ++ m).length, (h.put b .dead).new 1 ((l ++ m).map cell8)) := by
  have h1 := cellsS_w w
  obtain ⟨rfl, w2, w3⟩ := w
  simp only [appS, h1, cellsS_by, Option.bind_some, lenS, bys_len]
  rw [if_pos ⟨w2, hm, by omega⟩, w3]
  simp
theorem app_own {h : H} {l m : List UInt8} {b : Nat} : BysW ((h.put b .dead).new 1 ((l ++ m).map cell8)) (sv h.n 0 (l ++ m).length) (l ++ m) h.n := ⟨rfl, by simp, new_g (h.put b .dead) _ _⟩
/-- the copy of bytes that begins with nothing -/
theorem app_nil {h : H} {m : List UInt8} (hm : m.length ≤ lim) : appS 1 (h.new 1 []) (sv h.n 0 0) (lv (bys m)) = some (sv (h.n + 1) 0 m.length, ((h.new 1 []).put h.n .dead).new 1 (m.map cell8)) := by
  have := app_by (h := h.new 1 []) (v := sv h.n 0 0) (l := []) (m := m) (b := h.n) ⟨rfl, by simp, by simp⟩ (by simpa using hm)
  simpa using this
theorem f_copied {m : List UInt8} (hm : m.length ≤ lim) (n : Nat) : ∃ v h', call Ev Fn.impl_copied [lv (bys m)] (D n) = some (v, h') ∧ NewB n h' v m (some (n + 1)) ∧ h'.n = n + 2 := by
  rw [eq_impl_copied, app_nil hm, ob]
  refine ⟨_, _, rfl, ⟨⟨rfl, by simp, ?_⟩, by simp; omega, fun b hb => by cases hb; omega, fun b h1 h2 s hs => ?_⟩, by simp⟩
  · exact new_g (((D n).new 1 []).put n .dead) _ _
  · have h3 : b = n ∨ b = n + 1 := by simp at h2; omega
    rcases h3 with rfl | rfl
    · rw [new_g' (by simp)] at hs
      simp [Blk.cells] at hs
    · have e : ((((D n).new 1 []).put (D n).n .dead).new 1 (m.map cell8)).g (n + 1) = .rw 1 (m.map cell8) := new_g (((D n).new 1 []).put n .dead) _ _
      dsimp only at hs
      rw [e] at hs
      obtain ⟨c, _, rfl⟩ := List.mem_map.1 hs
      rfl

theorem p_eqBR {c c' : Int} {l m : List UInt8} (hl : l.length ≤ maxLen) : pureV (call Ev) Fn.laws_eqBytesResult [.agg [.int .i64 c, .fs (bys l)], .agg [.int .i64 c', .fs (bys m)]] = some (bv (decide (c = c') && decide (l = m))) := by
  rw [pu_laws_eqBytesResult, vcase_b, pc (p_eqByteS hl) rfl]
  by_cases h1 : c = c' <;> by_cases h2 : l = m <;> simp [h1, h2]
theorem p_heldBR {c : Int} {k n : Nat} (hl : k + n < 2 ^ 62) : pureV (call Ev) Fn.laws_heldBytesResult [.agg [.int .i64 c, .fs (bys (marks k n))], iv .i64 k] = some (iv .i64 ((k + n : Nat) : Int)) := by
  rw [pu_laws_heldBytesResult, pc (p_held hl) rfl]
  simp only [gV1_s, gI_i, vcase_b]
  rw [if_neg (by simp; omega)]
theorem tidy_but {h h' : H} {o : Option Nat} {n : Int} (hn : h.n ≤ h'.n) (hg : ∀ c, c < h.n → o ≠ some c → h'.g c = h.g c ∧ h'.v c = h.v c) (hc : ∀ b, o = some b → (h'.g b).cells.all (belS h.n) = true) :
    (tidy h [iv .i64 n] h').n = h.n ∧ ∀ c, c < h.n → (tidy h [iv .i64 n] h').g c = h'.g c := by
  unfold tidy
  rw [if_pos]
  · exact ⟨rfl, fun c hc => by simp [hc]⟩
  · refine ⟨hn, by simp [belV, belS], fun b hb => ?_⟩
    by_cases ho : o = some b
    · exact .inr (hc b ho)
    · exact .inl (hg b hb ho)
theorem cell8_bel {n : Nat} (l : List UInt8) : (l.map cell8).all (belS n) = true := by
  rw [List.all_eq_true]
  intro s hs
  obtain ⟨c, _, rfl⟩ := List.mem_map.1 hs
  rfl
/-- a marked result -/
theorem r_markBR {h : H} {c : Int} {y : S} {l : List UInt8} {ob : Option Nat} {k : Nat} (hv : Own h (.s y) l ob) (hl : k + l.length < 2 ^ 62) :
    ∃ p, call Ev Fn.laws_markBytesResult [.agg [.int .i64 c, y], iv .i64 k] h = some (iv .i64 ((k + l.length : Nat) : Int), p) ∧ Own (tidy h [iv .i64 ((k + l.length : Nat) : Int)] p) (.s y) (marks k l.length) ob ∧ But ob h (tidy h [iv .i64 ((k + l.length : Nat) : Int)] p) := by
  have u : Up h (h.new 0 [.int .i64 c, y]) := up_new
  obtain ⟨h', e1, e2, e3, e4⟩ := r_mark (k := k) (hv.up u) hl
  have hb : ∀ b, ob = some b → b < h.n := fun b hb => by subst hb; exact hv.n
  rw [eq_laws_markBytesResult]
  have l1 : load1 (h.new 0 [.int .i64 c, y]) (pv h.n 1) = some y := by simp [load1, H.cells, Blk.cells]
  rw [l1, Vm.ob, e1, Vm.ob]
  simp only [gV1_s, gI_i]
  have t1 : tidy (h.new 0 [.int .i64 c, y]) [iv .i64 ((k + l.length : Nat) : Int)] h' = h' := tidy_same e3 fun c hc => e4 c (fun hh => by have := hb c hh; simp at hc; omega)
  rw [t1]
  refine ⟨h', rfl, ?_⟩
  have hbel : ∀ b, ob = some b → (h'.g b).cells.all (belS h.n) = true := fun b hb => by
    subst hb
    rw [(show BysW h' (.s y) (marks k l.length) b from e2).g]
    exact cell8_bel _
  obtain ⟨t2, t3⟩ := tidy_but (n := ((k + l.length : Nat) : Int)) (h := h) (h' := h') (o := ob) (by rw [e3]; simp) (fun c hc ho => by
    have := e4 c ho
    refine ⟨this.1.trans (new_g' (by omega)), this.2⟩) hbel
  refine ⟨?_, t2, fun c hc => ?_⟩
  · cases ob with
    | none => exact e2
    | some b => exact ⟨e2.v, by rw [t2]; exact hb b rfl, by rw [t3 b (hb b rfl)]; exact e2.g⟩
  · by_cases hcn : c < h.n
    · rw [t3 c hcn, (e4 c hc).1, new_g' (by omega)]
    · unfold tidy
      split
      · simp [hcn]
      · rename_i hT
        exfalso
        refine hT ⟨by rw [e3]; simp, by simp [belV, belS], fun b hb' => ?_⟩
        by_cases ho : ob = some b
        · exact .inr (hbel b ho)
        · exact .inl ⟨(e4 b ho).1.trans (new_g' (by omega)), (e4 b ho).2⟩
end Vm
/-
  What is one's own in a stretch of blocks: kept when other blocks change.
-/
namespace Vm
open Go
/-- a fact on the blocks from lo to hi alone -/
structure Sep (Q : H → Prop) (lo hi : Nat) (h : H) : Prop where
  top : hi ≤ h.n
  q : ∀ h' : H, hi ≤ h'.n → (∀ b, lo ≤ b → b < hi → h'.g b = h.g b) → Q h'
/-- all but the blocks from lo to hi as it was -/
structure ButR (lo hi : Nat) (h h' : H) : Prop where
  n : h'.n = h.n
  g : ∀ c, (c < lo ∨ hi ≤ c) → h'.g c = h.g c
section
variable {Q : H → Prop} {lo hi : Nat} {h h' : H}
theorem Sep.now (w : Sep Q lo hi h) : Q h := w.q h w.top fun _ _ _ => rfl
theorem Sep.up (w : Sep Q lo hi h) (u : Up h h') : Sep Q lo hi h' := ⟨Nat.le_trans w.top u.n, fun h2 hn hg => w.q h2 hn fun b h1 h3 => (hg b h1 h3).trans (u.g b (by have := w.top; omega))⟩
theorem Sep.but {a b : Nat} (w : Sep Q lo hi h) (u : ButR a b h h') (hd : hi ≤ a ∨ b ≤ lo) : Sep Q lo hi h' := ⟨by rw [u.n]; exact w.top, fun h2 hn hg => w.q h2 hn fun c h1 h3 => (hg c h1 h3).trans (u.g c (by omega))⟩
theorem Sep.over {h1 : H} {hi : Nat} {n : Nat} (hn : n = h.n) (hl : h.n ≤ h1.n) (w : Sep Q n hi h1) : Sep Q n hi (h.over h1) := by
  subst hn
  exact ⟨by rw [over_n hl]; exact w.top, fun h2 hn hg => w.q h2 hn fun b h1 h3 => (hg b h1 h3).trans (over_ge h1)⟩
theorem Sep.mono {lo' hi' : Nat} (w : Sep Q lo hi h) (h1 : lo' ≤ lo) (h2 : hi ≤ hi') (h3 : hi' ≤ h.n) : Sep Q lo' hi' h := ⟨h3, fun h' hn hg => w.q h' (by omega) fun b a b' => hg b (by omega) (by omega)⟩
end
/-- what stands in one block -/
def At (b : Nat) (x : Blk) (h : H) : Prop := b < h.n ∧ h.g b = x
theorem Sep.at {h : H} {b : Nat} {x : Blk} (hb : b < h.n) (hg : h.g b = x) : Sep (At b x) b (b + 1) h := ⟨hb, fun h' hn hg' => ⟨by omega, by rw [hg' b (Nat.le_refl _) (by omega), hg]⟩⟩
/-- bytes in a stretch of blocks -/
def OwnB (v : V) (l : List UInt8) (lo hi : Nat) (h : H) : Prop := ∃ ob, Own h v l ob ∧ ∀ b, ob = some b → lo ≤ b ∧ b < hi
theorem OwnB.sep {v : V} {l : List UInt8} {lo hi : Nat} {h : H} (w : OwnB v l lo hi h) (hn : hi ≤ h.n) : Sep (OwnB v l lo hi) lo hi h := ⟨hn, fun h' hn' hg => by
  obtain ⟨ob, h1, h2⟩ := w
  refine ⟨ob, ?_, h2⟩
  cases ob with
  | none => exact h1
  | some b =>
    have := h2 b rfl
    exact ⟨h1.v, by omega, by rw [hg b this.1 this.2]; exact h1.g⟩⟩
theorem OwnB.frz {v : V} {l : List UInt8} {lo hi : Nat} {h : H} (w : OwnB v l lo hi h) : frzV h v = some (lv (bys l)) := by
  obtain ⟨ob, h1, _⟩ := w
  exact frz1 h1
/-- the answer of a call on a dead heap -/
structure NewS (Q : Nat → Nat → H → Prop) (v : V) (n : Nat) (h : H) : Prop where
  le : n ≤ h.n
  q : Sep (Q n h.n) n h.n h
  z : NoFz n (v, h)
theorem NewA.s {n : Nat} {h : H} {v : V} {l : List UInt8} (w : NewA n h v l) : NewS (OwnB v l) v n h := by
  have := w.le
  exact ⟨by omega, OwnB.sep ⟨some n, w.own, fun b hb => by cases hb; omega⟩ (Nat.le_refl _), w.nofz⟩
theorem NewB.s {n : Nat} {h : H} {v : V} {l : List UInt8} {o : Option Nat} (w : NewB n h v l o) : Sep (OwnB v l n h.n) n h.n h := by
  refine OwnB.sep ⟨o, w.own, fun b hb => ⟨w.new b hb, ?_⟩⟩ (Nat.le_refl _)
  subst hb
  exact w.own.n
/-- a call with a new answer -/
theorem pN {R : Type} {Q : Nat → Nat → H → Prop} {cl : Nat → List V → H → Option (V × H)} {g : Nat} {off : Bool} {xs : List V} {h : H} {n : Nat} {v : V} {h1 : H} {k : V → H → Option R} (hn : h.n = n) (hc : cl g xs (D n) = some (v, h1)) (w : NewS Q v n h1) :
    ∃ h', pcallF cl g off xs h k = k v h' ∧ Up h h' ∧ n ≤ h'.n ∧ Sep (Q n h'.n) n h'.n h' := by
  subst hn
  refine ⟨h.over h1, pF hc w.z, up_over w.le, ?_, ?_⟩
  · rw [over_n w.le]; exact w.le
  · have := Sep.over rfl w.le w.q
    rwa [over_n w.le]
/-- marked bytes -/
theorem OwnB.mark {h : H} {v : V} {l : List UInt8} {lo hi k : Nat} (w : Sep (OwnB v l lo hi) lo hi h) (hl : k + l.length < 2 ^ 62) :
    ∃ p, call Ev Fn.laws_markByteS [v, iv .i64 k] h = some (iv .i64 ((k + l.length : Nat) : Int), p) ∧ Sep (OwnB v (marks k l.length) lo hi) lo hi (tidy h [iv .i64 ((k + l.length : Nat) : Int)] p) ∧ ButR lo hi h (tidy h [iv .i64 ((k + l.length : Nat) : Int)] p) := by
  obtain ⟨ob, h1, h2⟩ := w.now
  obtain ⟨p, e1, e2, e3, e4⟩ := r_mark (k := k) h1 hl
  have t : tidy h [iv .i64 ((k + l.length : Nat) : Int)] p = p := tidy_same e3 fun c hc => e4 c (fun hh => by have := h2 c hh; have := w.top; omega)
  refine ⟨p, e1, ?_, ?_⟩
  · rw [t]; exact OwnB.sep ⟨ob, e2, h2⟩ (by rw [e3]; exact w.top)
  · rw [t]
    refine ⟨e3, fun c hc => (e4 c (fun hh => ?_)).1⟩
    have := h2 c hh
    omega
/-- from one block's change to a stretch's -/
theorem But.r {h h' : H} {ob : Option Nat} {lo hi : Nat} (u : But ob h h') (h2 : ∀ b, ob = some b → lo ≤ b ∧ b < hi) : ButR lo hi h h' := ⟨u.n, fun c hc => u.g c (fun hh => by have := h2 c hh; omega)⟩

/-! results of a code and bytes, and of a code, a number and bytes -/
theorem NewB.s2 {n : Nat} {h : H} {y : S} {l : List UInt8} {o : Option Nat} {c : Int} (w : NewB n h (.s y) l o) : NewS (OwnB (.s y) l) (.agg [.int .i64 c, y]) n h :=
  ⟨w.le, w.s, ⟨by simp [w.own.sca], w.z⟩⟩
theorem OwnB.frz2 {y : S} {l : List UInt8} {lo hi : Nat} {h : H} {c : Int} (w : OwnB (.s y) l lo hi h) : frzV h (.agg [.int .i64 c, y]) = some (.agg [.int .i64 c, .fs (bys l)]) := by
  obtain ⟨ob, h1, _⟩ := w
  exact Vm.frz2 h1
theorem OwnB.mark2 {h : H} {y : S} {l : List UInt8} {lo hi k : Nat} {c : Int} (w : Sep (OwnB (.s y) l lo hi) lo hi h) (hl : k + l.length < 2 ^ 62) :
    ∃ p, call Ev Fn.laws_markBytesResult [.agg [.int .i64 c, y], iv .i64 k] h = some (iv .i64 ((k + l.length : Nat) : Int), p) ∧ Sep (OwnB (.s y) (marks k l.length) lo hi) lo hi (tidy h [iv .i64 ((k + l.length : Nat) : Int)] p) ∧ ButR lo hi h (tidy h [iv .i64 ((k + l.length : Nat) : Int)] p) := by
  obtain ⟨ob, h1, h2⟩ := w.now
  obtain ⟨p, e1, e2, e3⟩ := r_markBR (c := c) (k := k) h1 hl
  exact ⟨p, e1, OwnB.sep ⟨ob, e2, h2⟩ (by rw [e3.n]; exact w.top), e3.r h2⟩
/-- the same answer, frozen -/
theorem NewS.p {Q : Nat → Nat → H → Prop} {f : Nat} {xs : List V} {h : H} {v w : V} (hc : call Ev f xs (D 0) = some (v, h)) (hq : NewS Q v 0 h) (hf : Q 0 h.n h → frzV h v = some w) : pureV (call Ev) f xs = some w := by
  unfold pureV
  rw [hc, Vm.ob, hf hq.q.now]
end Vm
/-
  Live values of any depth: what they are once frozen, and which blocks they lie in.
-/
namespace Vm
open Go
/-- a cell that leads nowhere, and is not frozen -/
def Sc : S → Prop
  | .int _ _ => True
  | .bool _ => True
  | .str _ => True
  | _ => False
theorem Sc.cl {s : S} (h : Sc s) : Cl s := by cases s <;> first | exact h.elim | exact cl_i | exact cl_b | exact cl_s
theorem Sc.sca {s : S} (h : Sc s) : scaS s = true := by cases s <;> first | exact h.elim | rfl
theorem Sc.no {s : S} (h : Sc s) : isNo s = false := by cases s <;> first | exact h.elim | rfl
inductive RepL (R : S → S → List Nat → Prop) : List S → List S → List Nat → Prop
  | nil : RepL R [] [] []
  | cons {y f : S} {bs : List Nat} {ys fs : List S} {bss : List Nat} : R y f bs → RepL R ys fs bss → RepL R (y :: ys) (f :: fs) (bs ++ bss)
def Rep (h : H) : Nat → S → S → List Nat → Prop
  | 0 => fun y f bs => (Sc y ∧ f = y ∨ y = .sl none 0 ∧ f = .fs []) ∧ bs = []
  | d + 1 => fun y f bs => ((Sc y ∧ f = y ∨ y = .sl none 0 ∧ f = .fs []) ∧ bs = []) ∨ ∃ b z cs rows bss, y = .sl (some (b, 0)) rows.length ∧ f = .fs rows ∧ bs = b :: bss ∧ b < h.n ∧ 0 < z ∧ h.g b = .rw z cs ∧ (∀ r ∈ rows, r.length = z) ∧ RepL (Rep h d) cs rows.flatten bss
section
variable {R R' : S → S → List Nat → Prop}
theorem RepL.mono {cs fs : List S} {bss : List Nat} (w : RepL R cs fs bss) (hr : ∀ y f bs, (∀ b ∈ bs, b ∈ bss) → R y f bs → R' y f bs) : RepL R' cs fs bss := by
  induction w with
  | nil => exact .nil
  | @cons y f bs ys fs bss h1 h2 ih => exact .cons (hr _ _ _ (fun b hb => by simp [hb]) h1) (ih fun y f bs hb => hr y f bs fun b hh => by simp [hb b hh])
theorem RepL.len {cs fs : List S} {bss : List Nat} (w : RepL R cs fs bss) : cs.length = fs.length := by
  induction w with
  | nil => rfl
  | cons h1 h2 ih => simp [ih]
theorem RepL.append {cs fs cs' fs' : List S} {bss bss' : List Nat} (w : RepL R cs fs bss) (w' : RepL R cs' fs' bss') : RepL R (cs ++ cs') (fs ++ fs') (bss ++ bss') := by
  induction w with
  | nil => exact w'
  | cons h1 h2 ih => rw [List.cons_append, List.cons_append, List.append_assoc]; exact .cons h1 ih
theorem RepL.split : ∀ {fs fs' : List S} {cs : List S} {bss : List Nat}, RepL R cs (fs ++ fs') bss → ∃ a a' b b', cs = a ++ a' ∧ bss = b ++ b' ∧ RepL R a fs b ∧ RepL R a' fs' b'
  | [], fs', cs, bss, w => ⟨[], cs, [], bss, rfl, rfl, .nil, w⟩
  | f :: fs, fs', cs, bss, w => by
    cases w with
    | @cons y f bs ys fs bss h1 h2 =>
      obtain ⟨a, a', b, b', rfl, rfl, w1, w2⟩ := RepL.split h2
      exact ⟨y :: a, a', bs ++ b, b', rfl, by simp, .cons h1 w1, w2⟩
end
section
variable {h h' : H}
theorem Rep.sc {d : Nat} {s : S} (hs : Sc s) : Rep h d s s [] := by
  cases d with
  | zero => exact ⟨.inl ⟨hs, rfl⟩, rfl⟩
  | succ d => exact .inl ⟨.inl ⟨hs, rfl⟩, rfl⟩
theorem Rep.nil {d : Nat} : Rep h d (.sl none 0) (.fs []) [] := by
  cases d with
  | zero => exact ⟨.inr ⟨rfl, rfl⟩, rfl⟩
  | succ d => exact .inl ⟨.inr ⟨rfl, rfl⟩, rfl⟩
theorem Rep.sl {d b z : Nat} {cs : List S} {rows : List (List S)} {bss : List Nat} (hb : b < h.n) (hz : 0 < z) (hg : h.g b = .rw z cs) (hr : ∀ r ∈ rows, r.length = z) (w : RepL (Rep h d) cs rows.flatten bss) : Rep h (d + 1) (.sl (some (b, 0)) rows.length) (.fs rows) (b :: bss) :=
  .inr ⟨b, z, cs, rows, bss, rfl, rfl, rfl, hb, hz, hg, hr, w⟩
theorem RepL.sc {d : Nat} : ∀ {l : List S}, (∀ s ∈ l, Sc s) → RepL (Rep h d) l l []
  | [], _ => .nil
  | s :: l, hl => RepL.cons (bs := []) (Rep.sc (hl s (by simp))) (RepL.sc fun s hs => hl s (by simp [hs]))
theorem Rep.of_sc {d : Nat} {y f : S} {bs : List Nat} (w : Rep h d y f bs) (hf : Sc f) : y = f ∧ bs = [] := by
  cases d with
  | zero =>
    obtain ⟨⟨h1, rfl⟩ | ⟨rfl, rfl⟩, rfl⟩ := w
    · exact ⟨rfl, rfl⟩
    · exact hf.elim
  | succ d =>
    obtain ⟨⟨h1, rfl⟩ | ⟨rfl, rfl⟩, rfl⟩ | ⟨b, z, cs, rows, bss, rfl, rfl, rfl, h1⟩ := w
    · exact ⟨rfl, rfl⟩
    · exact hf.elim
    · exact hf.elim
theorem RepL.of_sc {d : Nat} : ∀ {cs fs : List S} {bss : List Nat}, RepL (Rep h d) cs fs bss → (∀ s ∈ fs, Sc s) → cs = fs ∧ bss = []
  | _, _, _, .nil, _ => ⟨rfl, rfl⟩
  | _, _, _, .cons h1 h2, hs => by
    obtain ⟨rfl, rfl⟩ := Rep.of_sc h1 (hs _ (by simp))
    obtain ⟨rfl, rfl⟩ := RepL.of_sc h2 fun s hs' => hs s (by simp [hs'])
    exact ⟨rfl, rfl⟩
theorem Rep.frame : ∀ {d : Nat} {y f : S} {bs : List Nat}, Rep h d y f bs → (∀ b ∈ bs, b < h'.n ∧ h'.g b = h.g b) → Rep h' d y f bs
  | 0, y, f, bs, w, _ => w
  | d + 1, y, f, bs, w, hb => by
    rcases w with w | ⟨b, z, cs, rows, bss, rfl, rfl, rfl, h1, h2, h3, h4, h5⟩
    · exact .inl w
    · have := hb b (by simp)
      exact .inr ⟨b, z, cs, rows, bss, rfl, rfl, rfl, this.1, h2, this.2.trans h3, h4, h5.mono fun y f bs hs w => Rep.frame w fun b' hb' => hb b' (by simp [hs b' hb'])⟩
theorem RepL.frame {d : Nat} {cs fs : List S} {bss : List Nat} (w : RepL (Rep h d) cs fs bss) (hb : ∀ b ∈ bss, b < h'.n ∧ h'.g b = h.g b) : RepL (Rep h' d) cs fs bss :=
  w.mono fun y f bs hs w => w.frame fun b hbb => hb b (hs b hbb)
theorem Rep.lift : ∀ {d : Nat} {y f : S} {bs : List Nat}, Rep h d y f bs → Rep h (d + 1) y f bs
  | 0, y, f, bs, w => .inl w
  | d + 1, y, f, bs, w => by
    rcases w with w | ⟨b, z, cs, rows, bss, rfl, rfl, rfl, h1, h2, h3, h4, h5⟩
    · exact .inl w
    · exact .inr ⟨b, z, cs, rows, bss, rfl, rfl, rfl, h1, h2, h3, h4, h5.mono fun y f bs hs w => w.lift⟩
theorem Rep.lifts {d k : Nat} {y f : S} {bs : List Nat} (w : Rep h d y f bs) (hd : d ≤ k) : Rep h k y f bs := by
  obtain ⟨j, rfl⟩ := Nat.exists_eq_add_of_le hd
  induction j with
  | zero => exact w
  | succ j ih => exact (ih (by omega)).lift
theorem RepL.lifts {d k : Nat} {cs fs : List S} {bss : List Nat} (w : RepL (Rep h d) cs fs bss) (hd : d ≤ k) : RepL (Rep h k) cs fs bss := w.mono fun y f bs _ w => w.lifts hd
theorem Rep.lt : ∀ {d : Nat} {y f : S} {bs : List Nat}, Rep h d y f bs → ∀ b ∈ bs, b < h.n
  | 0, y, f, bs, w => by obtain ⟨_, rfl⟩ := w; simp
  | d + 1, y, f, bs, w => by
    rcases w with ⟨_, rfl⟩ | ⟨b, z, cs, rows, bss, rfl, rfl, rfl, h1, h2, h3, h4, h5⟩
    · simp
    · intro c hc
      rcases List.mem_cons.1 hc with rfl | hc
      · exact h1
      · clear h3 h4
        generalize rows.flatten = fl at h5
        induction h5 with
        | nil => simp at hc
        | cons w1 w2 ih =>
          rcases List.mem_append.1 hc with hc | hc
          · exact w1.lt _ hc
          · exact ih (by simp [hc]) hc
theorem RepL.lt {d : Nat} {cs fs : List S} {bss : List Nat} (w : RepL (Rep h d) cs fs bss) : ∀ b ∈ bss, b < h.n := by
  induction w with
  | nil => simp
  | cons w1 w2 ih =>
    intro c hc
    rcases List.mem_append.1 hc with hc | hc
    · exact w1.lt _ hc
    · exact ih _ hc
theorem Rep.sca {d : Nat} {y f : S} {bs : List Nat} (w : Rep h d y f bs) : scaS y = true := by
  cases d with
  | zero =>
    obtain ⟨⟨h1, rfl⟩ | ⟨rfl, rfl⟩, rfl⟩ := w
    · exact h1.sca
    · rfl
  | succ d =>
    obtain ⟨⟨h1, rfl⟩ | ⟨rfl, rfl⟩, rfl⟩ | ⟨b, z, cs, rows, bss, rfl, rfl, rfl, h1⟩ := w
    · exact h1.sca
    · rfl
    · rfl
theorem Rep.isNo {d : Nat} {y f : S} {bs : List Nat} (w : Rep h d y f bs) : isNo y = false := by
  cases d with
  | zero =>
    obtain ⟨⟨h1, rfl⟩ | ⟨rfl, rfl⟩, rfl⟩ := w
    · exact h1.no
    · rfl
  | succ d =>
    obtain ⟨⟨h1, rfl⟩ | ⟨rfl, rfl⟩, rfl⟩ | ⟨b, z, cs, rows, bss, rfl, rfl, rfl, h1⟩ := w
    · exact h1.no
    · rfl
    · rfl
/-- what it is once frozen -/
theorem Rep.frz : ∀ {d k : Nat} {y f : S} {bs : List Nat}, Rep h d y f bs → d ≤ k → frzS h k y = some f
  | 0, k, y, f, bs, w, _ => by
    obtain ⟨⟨h1, rfl⟩ | ⟨rfl, rfl⟩, rfl⟩ := w
    · exact h1.cl h k
    · exact frz_n
  | d + 1, 0, y, f, bs, w, hk => by omega
  | d + 1, k + 1, y, f, bs, w, hk => by
    rcases w with ⟨⟨h1, rfl⟩ | ⟨rfl, rfl⟩, rfl⟩ | ⟨b, z, cs, rows, bss, rfl, rfl, rfl, h1, h2, h3, h4, h5⟩
    · exact h1.cl h (k + 1)
    · exact frz_n
    · have hl := flat_len h4
      have hc := h5.len
      have hm : mapO (frzS h k) cs = some rows.flatten := by
        clear h3 h4 hl hc
        generalize rows.flatten = fl at h5
        induction h5 with
        | nil => rfl
        | cons w1 w2 ih => simp only [mapO, Rep.frz w1 (show d ≤ k by omega), ih, Option.bind_some]
      simp only [frzS]
      split
      · rename_i h0; rw [List.eq_nil_of_length_eq_zero h0]
      · rw [h3]
        simp only
        rw [if_pos ⟨h2, by omega⟩, List.drop_zero, List.take_of_length_le (by omega), hm]
        simp [chunk_rows h4]
theorem RepL.mapO {d k : Nat} {cs fs : List S} {bss : List Nat} (w : RepL (Rep h d) cs fs bss) (hd : d ≤ k) : Vm.mapO (frzS h k) cs = some fs := by
  induction w with
  | nil => rfl
  | cons w1 w2 ih => simp only [Vm.mapO, w1.frz hd, ih, Option.bind_some]
end
/-- bytes -/
theorem bys_sc {l : List UInt8} : ∀ s ∈ (bys l).flatten, Sc s := by
  rw [bys_flat]
  intro s hs
  obtain ⟨c, _, rfl⟩ := List.mem_map.1 hs
  trivial
theorem Rep.of_bys {h : H} {d : Nat} {y : S} {l : List UInt8} {bs : List Nat} (w : Rep h (d + 1) y (.fs (bys l)) bs) : (l = [] ∧ ∃ o, y = .sl o 0) ∨ ∃ b, BysW h (.s y) l b ∧ bs = [b] := by
  rcases w with ⟨⟨h1, rfl⟩ | ⟨rfl, h2⟩, rfl⟩ | ⟨b, z, cs, rows, bss, rfl, h0, rfl, h1, h2, h3, h4, h5⟩
  · exact h1.elim
  · injection h2 with h2
    exact .inl ⟨List.eq_nil_of_length_eq_zero (by simpa using congrArg List.length h2), _, rfl⟩
  · injection h0 with h0
    subst h0
    obtain ⟨rfl, rfl⟩ := h5.of_sc bys_sc
    by_cases hl : l = []
    · subst hl; exact .inl ⟨rfl, _, rfl⟩
    · refine .inr ⟨b, ⟨by simp, h1, ?_⟩, rfl⟩
      have hh : (bys l) ≠ [] := by simp [bys, hl]
      have h6 := h4 _ (List.head_mem hh)
      have h7 : ((bys l).head hh).length = 1 := bys_row _ (List.head_mem hh)
      rw [h3, bys_flat, ← h6, h7]
theorem Own.rep {h : H} {d : Nat} {y : S} {l : List UInt8} {ob : Option Nat} (h1 : Own h (.s y) l ob) : Rep h (d + 1) y (.fs (bys l)) ob.toList := by
  cases ob with
  | none => obtain ⟨h1, rfl⟩ := h1; cases h1; exact Rep.nil
  | some b =>
    have hv := h1.v
    injection hv with hv
    subst hv
    have := Rep.sl (d := d) (h := h) (b := b) (z := 1) (rows := bys l) (bss := []) h1.n (by omega) (by rw [bys_flat]; exact h1.g) bys_row (RepL.sc (by exact bys_sc))
    rwa [bys_len] at this
/-- a value of one's own in a stretch of blocks -/
def OwnF (d : Nat) (y f : S) (lo hi : Nat) (h : H) : Prop := ∃ bs, Rep h d y f bs ∧ bs.Nodup ∧ ∀ b ∈ bs, lo ≤ b ∧ b < hi
theorem OwnF.sep {d : Nat} {y f : S} {lo hi : Nat} {h : H} (w : OwnF d y f lo hi h) (hn : hi ≤ h.n) : Sep (OwnF d y f lo hi) lo hi h := ⟨hn, fun h' hn' hg => by
  obtain ⟨bs, h1, h2, h3⟩ := w
  exact ⟨bs, h1.frame fun b hb => ⟨by have := h3 b hb; omega, hg b (h3 b hb).1 (h3 b hb).2⟩, h2, h3⟩⟩
theorem OwnF.frz {d : Nat} {y f : S} {lo hi : Nat} {h : H} (w : OwnF d y f lo hi h) (hd : d ≤ 8 := by omega) : frzV h (.s y) = some (.s f) := by
  obtain ⟨bs, h1, _⟩ := w
  simp only [frzV, h1.frz hd, Vm.ob]
theorem OwnB.f {d : Nat} {y : S} {l : List UInt8} {lo hi : Nat} {h : H} (w : OwnB (.s y) l lo hi h) : OwnF (d + 1) y (.fs (bys l)) lo hi h := by
  obtain ⟨ob, h1, h2⟩ := w
  refine ⟨ob.toList, h1.rep, ?_, fun b hb => h2 b (by simpa using hb)⟩
  cases ob <;> simp
/-- marked bytes -/
theorem Rep.mark {h : H} {d : Nat} {y : S} {l : List UInt8} {bs : List Nat} {k : Nat} (w : Rep h (d + 1) y (.fs (bys l)) bs) (hl : k + l.length < 2 ^ 62) :
    ∃ h', call Ev Fn.laws_markByteS [.s y, iv .i64 k] h = some (iv .i64 ((k + l.length : Nat) : Int), h') ∧ Rep h' (d + 1) y (.fs (bys (marks k l.length))) bs ∧ h'.n = h.n ∧ ∀ c, c ∉ bs → h'.g c = h.g c ∧ h'.v c = h.v c := by
  rcases w.of_bys with ⟨rfl, o, rfl⟩ | ⟨b, w1, rfl⟩
  · refine ⟨h, ?_, w, rfl, fun _ _ => ⟨rfl, rfl⟩⟩
    rw [eq_laws_markByteS, eq_laws_markByteS_l0]
    simp only [lenV, Option.bind_some, gV1_s, gI_i, vcase_b]
    simp
  · obtain ⟨h', e1, e2, e3, e4⟩ := r_mark (k := k) (ob := some b) w1 hl
    exact ⟨h', e1, Own.rep (ob := some b) e2, e3, fun c hc => e4 c (by simpa using fun hh => hc (by simp [hh]))⟩

/-! loops that mark the rows of a slice -/
section
variable {α : Type} (cs : α → List S) (mk : Nat → α → α) (sz : α → Nat)
def mkAll : Nat → List α → List α
  | _, [] => []
  | k, a :: xs => mk k a :: mkAll (k + sz a) xs
def szAll : List α → Nat
  | [] => 0
  | a :: xs => sz a + szAll xs
theorem mkAll_len : ∀ (k : Nat) (xs : List α), (mkAll mk sz k xs).length = xs.length
  | _, [] => rfl
  | k, a :: xs => by simp [mkAll, mkAll_len]
/-- one round: the row in its place is marked -/
def MarkStep (z b d : Nat) (L : Nat → Nat → H → Option LOut) : Prop := ∀ (i k : Nat) (a : α) (h : H) (pre ys post : List S) (bs : List Nat), pre.length = i * z → ys.length = z → k + sz a < 2 ^ 62 → b < h.n →
  h.g b = .rw z (pre ++ ys ++ post) → RepL (Rep h d) ys (cs a) bs → bs.Nodup → b ∉ bs →
  ∃ h' ys', L k i h = L (k + sz a) (i + 1) h' ∧ h'.n = h.n ∧ ys'.length = z ∧ h'.g b = .rw z (pre ++ ys' ++ post) ∧ RepL (Rep h' d) ys' (cs (mk k a)) bs ∧ ∀ c, c ≠ b → c ∉ bs → h'.g c = h.g c ∧ h'.v c = h.v c
variable {cs mk sz}
theorem mark_loop {z b d : Nat} {L : Nat → Nat → H → Option LOut} {n : Nat} {fin : Nat → List V} (step : ∀ (i k : Nat) (a : α) (h : H) (pre ys post : List S) (bs : List Nat), i < n → pre.length = i * z → ys.length = z → k + sz a < 2 ^ 62 → b < h.n →
    h.g b = .rw z (pre ++ ys ++ post) → RepL (Rep h d) ys (cs a) bs → bs.Nodup → b ∉ bs →
    ∃ h' ys', L k i h = L (k + sz a) (i + 1) h' ∧ h'.n = h.n ∧ ys'.length = z ∧ h'.g b = .rw z (pre ++ ys' ++ post) ∧ RepL (Rep h' d) ys' (cs (mk k a)) bs ∧ ∀ c, c ≠ b → c ∉ bs → h'.g c = h.g c ∧ h'.v c = h.v c)
    (last : ∀ k h, L k n h = some (.done (fin k) h)) :
    ∀ (xs : List α) (i k : Nat) (h : H) (pre ys : List S) (bs : List Nat), (∀ a ∈ xs, (cs a).length = z) → i + xs.length = n → pre.length = i * z → k + szAll sz xs < 2 ^ 62 → b < h.n → h.g b = .rw z (pre ++ ys) → RepL (Rep h d) ys (xs.map cs).flatten bs → bs.Nodup → b ∉ bs →
    ∃ h' ys', L k i h = some (.done (fin (k + szAll sz xs)) h') ∧ h'.n = h.n ∧ h'.g b = .rw z (pre ++ ys') ∧ RepL (Rep h' d) ys' ((mkAll mk sz k xs).map cs).flatten bs ∧ ∀ c, c ≠ b → c ∉ bs → h'.g c = h.g c ∧ h'.v c = h.v c
  | [], i, k, h, pre, ys, bs, hz, hi, hp, hk, hb, hg, w, hd, hn => by
    obtain rfl : i = n := by simpa using hi
    refine ⟨h, ys, ?_, rfl, hg, ?_, fun _ _ _ => ⟨rfl, rfl⟩⟩
    · rw [last]; rfl
    · exact w
  | a :: xs, i, k, h, pre, ys, bs, hz, hi, hp, hk, hb, hg, w, hd, hn => by
    simp only [List.map_cons, List.flatten_cons] at w
    obtain ⟨y1, y2, b1, b2, rfl, rfl, w1, w2⟩ := w.split
    have hza := hz a (by simp)
    simp only [szAll] at hk
    simp only [List.length_cons] at hi
    have hd' := List.nodup_append.1 hd
    obtain ⟨h1, ys1, e1, n1, l1, g1, r1, o1⟩ := step i k a h pre y1 y2 b1 (by omega) hp (w1.len.trans hza) (by omega) hb (by rw [hg, List.append_assoc]) w1 hd'.1 (fun hh => hn (by simp [hh]))
    have w2' : RepL (Rep h1 d) y2 (xs.map cs).flatten b2 := w2.frame fun c hc => by
      have hcb : c ≠ b := fun hh => hn (by simp [← hh, hc])
      exact ⟨by rw [n1]; exact w2.lt c hc, (o1 c hcb fun hh => hd'.2.2 c hh c hc rfl).1⟩
    obtain ⟨h2, ys2, e2, n2, g2, r2, o2⟩ := mark_loop step last xs (i + 1) (k + sz a) h1 (pre ++ ys1) y2 b2 (fun a ha => hz a (by simp [ha])) (by omega) (by rw [List.length_append, hp, l1, Nat.succ_mul]) (by omega) (by rw [n1]; exact hb) g1 w2' hd'.2.1 (fun hh => hn (by simp [hh]))
    refine ⟨h2, ys1 ++ ys2, ?_, by rw [n2, n1], by rw [g2, List.append_assoc], ?_, fun c hc hcb => ?_⟩
    · rw [e1, e2]; simp only [szAll]; rw [Nat.add_assoc]
    · simp only [mkAll, List.map_cons, List.flatten_cons]
      refine (r1.frame fun c hc => ?_).append r2
      have hcb : c ≠ b := fun hh => hn (by simp [← hh, hc])
      exact ⟨by rw [n2]; exact r1.lt c hc, (o2 c hcb fun hh => hd'.2.2 c hc c hh rfl).1⟩
    · have a1 := o1 c hc fun hh => hcb (by simp [hh])
      have a2 := o2 c hc fun hh => hcb (by simp [hh])
      exact ⟨a2.1.trans a1.1, a2.2.trans a1.2⟩
/-- a whole slice is marked -/
theorem Rep.marks {z d : Nat} {y : S} {xs : List α} {bs : List Nat} {h : H} {k : Nat} {Lv : V → Nat → Nat → H → Option LOut} {fin : Nat → List V} (hz0 : 0 < z) (hz : ∀ a, (cs a).length = z) (w : Rep h (d + 1) y (.fs (xs.map cs)) bs) (hd : bs.Nodup) (hk : k + szAll sz xs < 2 ^ 62)
    (step : ∀ (b i k : Nat) (a : α) (h : H) (pre ys post : List S) (bs : List Nat), i < xs.length → pre.length = i * z → ys.length = z → k + sz a < 2 ^ 62 → b < h.n →
      h.g b = .rw z (pre ++ ys ++ post) → RepL (Rep h d) ys (cs a) bs → bs.Nodup → b ∉ bs →
      ∃ h' ys', Lv (sv b 0 xs.length) k i h = Lv (sv b 0 xs.length) (k + sz a) (i + 1) h' ∧ h'.n = h.n ∧ ys'.length = z ∧ h'.g b = .rw z (pre ++ ys' ++ post) ∧ RepL (Rep h' d) ys' (cs (mk k a)) bs ∧ ∀ c, c ≠ b → c ∉ bs → h'.g c = h.g c ∧ h'.v c = h.v c)
    (last : ∀ o k h, Lv (.s (.sl o xs.length)) k xs.length h = some (.done (fin k) h)) :
    ∃ h', Lv (.s y) k 0 h = some (.done (fin (k + szAll sz xs)) h') ∧ Rep h' (d + 1) y (.fs ((mkAll mk sz k xs).map cs)) bs ∧ h'.n = h.n ∧ ∀ c, c ∉ bs → h'.g c = h.g c ∧ h'.v c = h.v c := by
  have base : xs = [] → ∀ o, y = .sl o 0 → ∃ h', Lv (.s y) k 0 h = some (.done (fin (k + szAll sz xs)) h') ∧ Rep h' (d + 1) y (.fs ((mkAll mk sz k xs).map cs)) bs ∧ h'.n = h.n ∧ ∀ c, c ∉ bs → h'.g c = h.g c ∧ h'.v c = h.v c := by
    rintro rfl o rfl
    exact ⟨h, last o k h, w, rfl, fun _ _ => ⟨rfl, rfl⟩⟩
  rcases w with ⟨⟨h1, h2⟩ | ⟨h1, h2⟩, h3⟩ | ⟨b, z', ys, rows, bss, h1, h0, h2, h3, h4, h5, h6, h7⟩
  · rw [← h2] at h1; exact h1.elim
  · injection h2 with h2
    exact base (List.eq_nil_of_length_eq_zero (by simpa using congrArg List.length h2)) none h1
  · injection h0 with h0
    by_cases has : xs = []
    · refine base has (some (b, 0)) ?_
      rw [h1, ← h0, has]; rfl
    · have hzz : z' = z := by
        obtain ⟨a, xs', rfl⟩ := List.exists_cons_of_ne_nil has
        have := h6 (cs a) (by rw [← h0]; simp)
        rw [← this, hz]
      subst hzz
      subst h0
      subst h2
      have hlen : (xs.map cs).length = xs.length := by simp
      rw [hlen] at h1
      subst h1
      have hd2 := List.nodup_cons.1 hd
      obtain ⟨h', ys', e1, n1, g1, r1, o1⟩ := mark_loop (cs := cs) (mk := mk) (sz := sz) (fin := fin) (L := Lv (sv b 0 xs.length)) (n := xs.length) (step b) (fun k h => last _ k h) xs 0 k h [] ys bss (fun a _ => hz a) (by simp) (by simp) hk h3 (by simpa using h5) h7 hd2.2 hd2.1
      refine ⟨h', e1, ?_, n1, fun c hc => ?_⟩
      · have := Rep.sl (d := d) (h := h') (b := b) (z := z') (rows := (mkAll mk sz k xs).map cs) (bss := bss) (by rw [n1]; exact h3) hz0 (by simpa using g1) (fun r hr => by
          obtain ⟨a, _, rfl⟩ := List.mem_map.1 hr
          exact hz a) r1
        simpa [mkAll_len] using this
      · exact o1 c (fun hh => hc (by simp [hh])) (fun hh => hc (by simp [hh]))
end
end Vm
/-
  Runs that live: copied, compared, marked, found again.
-/
namespace Vm
open Go
theorem szRuns_ok {rs : List RunD} (h : ¬ (if (rs.length : Int) ≤ 1048576 then szRuns rs (1048576 - rs.length) else -1) < 0) : rs.length ≤ 1048576 ∧ (∀ r ∈ rs, r.l.length ≤ lim) ∧ ∀ r ∈ rs, r.l.length ≤ 1048576 := by
  split at h
  · rename_i hle
    have h2 := szRuns_all rs _ (Int.not_lt.1 h)
    refine ⟨by omega, fun r hr => ?_, fun r hr => ?_⟩
    · have := h2 r hr; unfold lim; omega
    · have := h2 r hr; omega
  · omega
def szR (r : RunD) : Nat := 1 + r.l.length
def mkR (k : Nat) (r : RunD) : RunD := ⟨k, marks (k + 1) r.l.length⟩
def rsz (rs : List RunD) : Nat := szAll szR rs
def mkRs (k : Nat) (rs : List RunD) : List RunD := mkAll mkR szR k rs
theorem rsz_cons (r : RunD) (rs : List RunD) : rsz (r :: rs) = 1 + r.l.length + rsz rs := rfl
theorem rsz_len : ∀ rs : List RunD, rs.length ≤ rsz rs
  | [] => Nat.le_refl _
  | r :: rs => by have := rsz_len rs; rw [rsz_cons, List.length_cons]; omega
theorem szRuns_sum : ∀ (rs : List RunD) (left : Int), 0 ≤ szRuns rs left → 0 ≤ left → szRuns rs left = left - rsz rs + rs.length
  | [], left, h, _ => by simp [szRuns, rsz, szAll]
  | r :: rs, left, h, h0 => by
    simp only [szRuns] at h ⊢
    by_cases hle : (r.l.length : Int) ≤ left
    · rw [if_pos hle] at h ⊢
      rw [szRuns_sum rs _ h (by omega), rsz_cons, List.length_cons]; omega
    · rw [if_neg hle] at h; omega
theorem szRuns_rsz {rs : List RunD} (h : ¬ (if (rs.length : Int) ≤ 1048576 then szRuns rs (1048576 - rs.length) else -1) < 0) : rsz rs ≤ 1048576 := by
  split at h
  · rename_i hle
    have := szRuns_sum rs _ (Int.not_lt.1 h) (by omega); omega
  · omega
/-- a run copied -/
theorem f_toRun (r : RunD) (hl : r.l.length ≤ lim) (n : Nat) : ∃ y h' bs, call Ev Fn.laws_toRun [.agg r.cs] (D n) = some (.agg [.int .i64 r.at_, y], h') ∧ Rep h' 1 y (.fs (bys r.l)) bs ∧ bs.Nodup ∧ (∀ b ∈ bs, n ≤ b ∧ b < h'.n) ∧ n ≤ h'.n ∧ belS n y = false := by
  rw [eq_laws_toRun]
  generalize hG : (((D n).new 0 [.int .i64 r.at_, .fs (bys r.l)]).new 0 [.int .i64 0, .sl none 0]).new 0 [.int .i64 0, .sl none 0] = G
  have gn : G.n = n + 3 := by rw [← hG]; simp
  have g0 : G.g n = .rw 0 [.int .i64 r.at_, .fs (bys r.l)] := by rw [← hG, new_g' (by simp; omega), new_g' (by simp)]; exact new_g (D n) _ _
  have g1 : G.g (n + 1) = .rw 0 [.int .i64 0, .sl none 0] := by rw [← hG, new_g' (by simp)]; exact new_g ((D n).new 0 [.int .i64 r.at_, .fs (bys r.l)]) _ _
  have g2 : G.g (n + 2) = .rw 0 [.int .i64 0, .sl none 0] := by rw [← hG]; exact new_g (((D n).new 0 [.int .i64 r.at_, .fs (bys r.l)]).new 0 [.int .i64 0, .sl none 0]) _ _
  clear hG
  have ld : ∀ {h : H} {b o e : Nat} {X : List S}, b < h.n → h.g b = .rw e X → load1 h (pv b o) = X[o]? := fun hb hg => by simp [load1, H.cells, hb, hg, Blk.cells]
  simp only [new_n, D_n]
  rw [ld (by omega) g0]
  simp only [gx0, ob, gI_i]
  rw [stK_rw (z := 1) (e := 0) (o := 0) (b := n + 1 + 1) (cs := [.int .i64 0, .sl none 0]) (r := [.int .i64 r.at_]) (by omega) g2 (.inl ⟨_, rfl, rfl, rfl⟩) rfl (by simp)]
  rw [show setAt [.int .i64 0, .sl none 0] 0 [.int .i64 r.at_] = [.int .i64 r.at_, .sl none 0] from rfl]
  have k0 : (G.put (n + 1 + 1) (.rw 0 [.int .i64 r.at_, .sl none 0])).g n = .rw 0 [.int .i64 r.at_, .fs (bys r.l)] := by rw [put_g' (by omega)]; exact g0
  have k1 : (G.put (n + 1 + 1) (.rw 0 [.int .i64 r.at_, .sl none 0])).g (n + 1) = .rw 0 [.int .i64 0, .sl none 0] := by rw [put_g' (by omega)]; exact g1
  have k2 : (G.put (n + 1 + 1) (.rw 0 [.int .i64 r.at_, .sl none 0])).g (n + 2) = .rw 0 [.int .i64 r.at_, .sl none 0] := put_g _ _ _
  have kn : (G.put (n + 1 + 1) (.rw 0 [.int .i64 r.at_, .sl none 0])).n = n + 3 := by rw [put_n, gn]
  generalize G.put (n + 1 + 1) (.rw 0 [.int .i64 r.at_, .sl none 0]) = K at k0 k1 k2 kn ⊢
  rw [ld (by omega) k0]
  simp only [gx0, gx1, ob]
  rw [show frzVs K [.s (.fs (bys r.l))] = some [lv (bys r.l)] from frzVs_cons frzV_lv frzVs_nil, ob, norm_nil]
  obtain ⟨v, h1, e1, w1⟩ := f_toByteS hl K.n
  rw [pF (h := K) e1 w1.nofz]
  have hle := w1.le
  have u : Up K (K.over h1) := up_over (by omega)
  have un : (K.over h1).n = K.n + 1 := by rw [over_n (by omega), hle]
  have wo : BysW (K.over h1) v r.l K.n := ⟨w1.own.v, by omega, by rw [over_ge (by omega)]; exact w1.own.g⟩
  have hv := w1.own.v
  subst hv
  have u1 := (u.g (n + 1) (by omega)).trans k1
  have u2 := (u.g (n + 2) (by omega)).trans k2
  generalize K.over h1 = M at u un wo u1 u2 ⊢
  rw [stK_rw (z := 1) (e := 0) (o := 1) (b := n + 1 + 1) (cs := [.int .i64 r.at_, .sl none 0]) (r := [.sl (some (K.n, 0)) r.l.length]) (by omega) u2 (.inl ⟨_, rfl, rfl, rfl⟩) rfl (by simp)]
  rw [show setAt [.int .i64 r.at_, .sl none 0] 1 [S.sl (some (K.n, 0)) r.l.length] = [.int .i64 r.at_, .sl (some (K.n, 0)) r.l.length] from rfl]
  rw [loadN_2 (b := n + 1 + 1) (e := 0) (by rw [put_n]; omega) (put_g _ _ _)]
  simp only [gx0, gx1, ob, gI_i, ln0, ln1, Nat.zero_add, Nat.reduceAdd, if_true]
  rw [stK_rw (z := 2) (e := 0) (o := 0) (b := n + 1) (cs := [.int .i64 0, .sl none 0]) (r := [.int .i64 r.at_, .sl (some (K.n, 0)) r.l.length]) (by rw [put_n]; omega) (by rw [put_g' (by omega)]; exact u1) (.inr rfl) rfl (by simp)]
  rw [show setAt [.int .i64 0, .sl none 0] 0 [.int .i64 r.at_, S.sl (some (K.n, 0)) r.l.length] = [.int .i64 r.at_, .sl (some (K.n, 0)) r.l.length] from rfl]
  rw [loadN_2 (b := n + 1) (e := 0) (by rw [put_n, put_n]; omega) (put_g _ _ _), ob]
  refine ⟨_, _, [K.n], rfl, Own.rep (d := 0) (ob := some K.n) ⟨rfl, by rw [put_n, put_n]; omega, ?_⟩, by simp, ?_, ?_, ?_⟩
  · rw [put_g' (by omega), put_g' (by omega)]; exact wo.g
  · intro b hb
    rw [List.mem_singleton.1 hb, put_n, put_n]
    omega
  · rw [put_n, put_n]; omega
  · simp [belS]; omega
theorem runs_map (rs : List RunD) : runs rs = rs.map RunD.cs := rfl
/-- runs that are marked -/
theorem Rep.markRs {h : H} {d : Nat} {y : S} {rs : List RunD} {bs : List Nat} {k : Nat} (w : Rep h (d + 2) y (.fs (runs rs)) bs) (hd : bs.Nodup) (hk : k + rsz rs < 2 ^ 62) :
    ∃ h', call Ev Fn.laws_markRunS [.s y, iv .i64 k] h = some (iv .i64 ((k + rsz rs : Nat) : Int), h') ∧ Rep h' (d + 2) y (.fs (runs (mkRs k rs))) bs ∧ h'.n = h.n ∧ ∀ c, c ∉ bs → h'.g c = h.g c ∧ h'.v c = h.v c := by
  have hrl := rsz_len rs
  obtain ⟨h', e1, r1, n1, o1⟩ := Rep.marks (z := 2) (cs := RunD.cs) (mk := mkR) (sz := szR) (k := k) (Lv := fun v k i h => Lp.laws_markRunS 0 [v, iv .i64 k, iv .i64 i] h) (fin := fun k => [iv .i64 k]) (by omega) (fun _ => rfl) w hd hk
    (fun b i k r h pre ys post bs hi hp hy hk hb hg wr hnd hnb => by
      show ∃ h' ys', Lp.laws_markRunS 0 _ h = _ ∧ _
      rw [eq_laws_markRunS_l0]
      simp only [lenV, Option.bind_some, gV1_s, gI_i, vcase_b]
      rw [if_pos (by simp; omega), idxK_sv hi]
      simp only [padd, ob, Nat.add_zero]
      have wr' : RepL (Rep h (d + 1)) ys ([.int .i64 r.at_] ++ [.fs (bys r.l)]) bs := wr
      obtain ⟨y1, y2, b1, b2, rfl, rfl, w1, w2⟩ := wr'.split
      obtain ⟨rfl, rfl⟩ := w1.of_sc (by intro s hs; rw [List.mem_singleton.1 hs]; trivial)
      cases w2 with
      | @cons y f bs' ys fs bss h1 h2 =>
        cases h2
        rw [List.append_nil, List.nil_append] at hnd hnb
        rw [stK_rw (z := 1) (e := 2) (o := i * 2) (b := b) (cs := pre ++ ([.int .i64 r.at_] ++ [y]) ++ post) (r := [.int .i64 k]) hb hg (.inl ⟨_, rfl, rfl, rfl⟩) rfl (by simp; omega)]
        have hset : setAt (pre ++ ([.int .i64 r.at_] ++ [y]) ++ post) (i * 2) [.int .i64 k] = pre ++ ([.int .i64 k] ++ [y]) ++ post := by
          rw [List.append_assoc, setAt_at hp (z := 1) rfl]; simp
        rw [hset, idxK_sv hi]
        simp only [padd, ob]
        have ld : load1 (h.put b (.rw 2 (pre ++ ([.int .i64 k] ++ [y]) ++ post))) (pv b (i * 2 + 1)) = some y := by
          simp only [load1, H.cells, put_n, hb, if_true, put_g, Blk.cells]
          rw [List.getElem?_append_left (by simp; omega), List.getElem?_append_right (by omega), hp]
          simp
        simp only [ldK, ldT, cond_false, ld, ob]
        have h1' : Rep (h.put b (.rw 2 (pre ++ ([.int .i64 k] ++ [y]) ++ post))) (d + 1) y (.fs (bys r.l)) bs' := h1.frame fun c hc => ⟨h1.lt c hc, put_g' (fun hh => hnb (hh ▸ hc))⟩
        have hszr : szR r = 1 + r.l.length := rfl
        obtain ⟨h2, e2, r2, n2, o2⟩ := h1'.mark (k := k + 1) (by omega)
        rw [w64 (n := (k : Int) + 1) (by omega) (by omega), show (k : Int) + 1 = ((k + 1 : Nat) : Int) from by omega, e2, ob]
        simp only [gV1_s, gI_i]
        have t1 : tidy (h.put b (.rw 2 (pre ++ ([.int .i64 k] ++ [y]) ++ post))) [iv .i64 ((k + 1 + r.l.length : Nat) : Int)] h2 = h2 := tidy_same n2 fun c hc => o2 c fun hh => by have := h1.lt c hh; rw [put_n] at hc; omega
        rw [t1]
        have t2 : ∀ l, tidy h l h2 = h2 := fun l => tidy_same (n2.trans (put_n _ _ _)) fun c hc => by
          have hc1 : c ∉ bs' := fun hh => by have := h1.lt c hh; omega
          have := o2 c hc1
          have hcb : c ≠ b := by omega
          refine ⟨this.1.trans (put_g' hcb), this.2.trans ?_⟩
          simp only [H.put, if_neg hcb]
        rw [t2, w64 (n := (i : Int) + 1) (by omega) (by omega), show (i : Int) + 1 = ((i + 1 : Nat) : Int) from by omega]
        refine ⟨h2, [.int .i64 k, y], ?_, n2.trans (put_n _ _ _), rfl, ?_, ?_, fun c hc hcb => ?_⟩
        · rw [show k + szR r = k + 1 + r.l.length from by omega]
        · have := (o2 b hnb).1
          rw [this, put_g]; simp
        · have : RepL (Rep h2 (d + 1)) ([.int .i64 k] ++ [y]) ([.int .i64 k] ++ [.fs (bys (Vm.marks (k + 1) r.l.length))]) ([] ++ (bs' ++ [])) := RepL.append (RepL.sc (by intro s hs; rw [List.mem_singleton.1 hs]; trivial)) (.cons r2 .nil)
          exact this
        · have hcb' : c ∉ bs' := fun hh => hcb (by simp [hh])
          have := o2 c hcb'
          refine ⟨this.1.trans (put_g' hc), this.2.trans ?_⟩
          simp only [H.put, if_neg hc])
    (fun o k h => by
      show Lp.laws_markRunS 0 _ h = _
      rw [eq_laws_markRunS_l0]
      simp only [lenV, Option.bind_some, gV1_s, gI_i, vcase_b]
      rw [if_neg (by simp), tidy_self])
  refine ⟨h', ?_, r1, n1, o1⟩
  rw [eq_laws_markRunS, show iv .i64 0 = iv .i64 ((0 : Nat) : Int) from rfl, e1, ob, lcase_done]
  simp only [gx0, ob, gV1_s, gI_i]
  rfl
end Vm
/-
  Cells of one's own; results that are marked; slices that are filled row by row.
-/
namespace Vm
open Go
theorem sc_bel {n : Nat} {s : S} (h : Sc s) : belS n s = true := by cases s <;> first | exact h.elim | rfl
theorem Rep.top {h : H} {d N : Nat} {y f : S} {bs : List Nat} (w : Rep h d y f bs) (hb : ∀ b ∈ bs, b < N) : belS N y = true := by
  cases d with
  | zero =>
    obtain ⟨⟨h1, rfl⟩ | ⟨rfl, rfl⟩, rfl⟩ := w
    · exact sc_bel h1
    · rfl
  | succ d =>
    obtain ⟨⟨h1, rfl⟩ | ⟨rfl, rfl⟩, rfl⟩ | ⟨b, z, cs, rows, bss, rfl, rfl, rfl, h1⟩ := w
    · exact sc_bel h1
    · rfl
    · simpa [belS] using hb b (by simp)
theorem RepL.top {h : H} {d N : Nat} {cs fs : List S} {bss : List Nat} (w : RepL (Rep h d) cs fs bss) (hb : ∀ b ∈ bss, b < N) : cs.all (belS N) = true := by
  induction w with
  | nil => rfl
  | cons w1 w2 ih =>
    rw [List.all_cons, w1.top fun b hh => hb b (by simp [hh]), ih fun b hh => hb b (by simp [hh])]; rfl
theorem Rep.bel {h : H} {N : Nat} : ∀ {d : Nat} {y f : S} {bs : List Nat}, Rep h d y f bs → (∀ b ∈ bs, b < N) → ∀ b ∈ bs, (h.g b).cells.all (belS N) = true
  | 0, y, f, bs, w, _ => by obtain ⟨_, rfl⟩ := w; simp
  | d + 1, y, f, bs, w, hb => by
    rcases w with ⟨_, rfl⟩ | ⟨b, z, cs, rows, bss, rfl, rfl, rfl, h1, h2, h3, h4, h5⟩
    · simp
    · intro c hc
      rcases List.mem_cons.1 hc with rfl | hc
      · rw [h3]; exact h5.top fun b hh => hb b (by simp [hh])
      · have hb' : ∀ b ∈ bss, b < N := fun b hh => hb b (by simp [hh])
        clear h3 h4 hb
        generalize rows.flatten = fl at h5
        induction h5 with
        | nil => simp at hc
        | cons w1 w2 ih =>
          rcases List.mem_append.1 hc with hc | hc
          · exact w1.bel (fun b hh => hb' b (by simp [hh])) _ hc
          · exact ih (by simp [hc]) hc fun b hh => hb' b (by simp [hh])
theorem RepL.bel {h : H} {d N : Nat} {cs fs : List S} {bss : List Nat} (w : RepL (Rep h d) cs fs bss) (hb : ∀ b ∈ bss, b < N) : ∀ b ∈ bss, (h.g b).cells.all (belS N) = true := by
  induction w with
  | nil => simp
  | cons w1 w2 ih =>
    intro c hc
    rcases List.mem_append.1 hc with hc | hc
    · exact w1.bel (fun b hh => hb b (by simp [hh])) _ hc
    · exact ih (fun b hh => hb b (by simp [hh])) _ hc
/-- what was marked, once what else was made is let go -/
theorem mark_tidy {h h' : H} {d : Nat} {ys fs : List S} {bs : List Nat} {n : Int} (w : RepL (Rep h' d) ys fs bs) (hb : ∀ b ∈ bs, b < h.n) (hn : h.n ≤ h'.n) (ho : ∀ c, c ∉ bs → c < h.n → h'.g c = h.g c ∧ h'.v c = h.v c) (h2 : h'.n = h.n → ∀ c, h.n ≤ c → h'.g c = h.g c) :
    (tidy h [iv .i64 n] h').n = h.n ∧ RepL (Rep (tidy h [iv .i64 n] h') d) ys fs bs ∧ ∀ c, c ∉ bs → (tidy h [iv .i64 n] h').g c = h.g c := by
  have hT : Tidy h [iv .i64 n] h' := ⟨hn, by simp [belV, belS], fun b hb' => by
    by_cases hbb : b ∈ bs
    · exact .inr (w.bel hb b hbb)
    · exact .inl (ho b hbb hb')⟩
  unfold tidy
  rw [if_pos hT]
  refine ⟨rfl, w.frame fun b hbb => ⟨hb b hbb, by simp [hb b hbb]⟩, fun c hc => ?_⟩
  by_cases hcn : c < h.n
  · simp only [if_pos hcn]; exact (ho c hc hcn).1
  · simp only [if_neg hcn]
/-- cells of one's own in a stretch of blocks -/
def OwnC (d : Nat) (ys fs : List S) (lo hi : Nat) (h : H) : Prop := ∃ bs, RepL (Rep h d) ys fs bs ∧ bs.Nodup ∧ ∀ b ∈ bs, lo ≤ b ∧ b < hi
theorem OwnC.sep {d : Nat} {ys fs : List S} {lo hi : Nat} {h : H} (w : OwnC d ys fs lo hi h) (hn : hi ≤ h.n) : Sep (OwnC d ys fs lo hi) lo hi h := ⟨hn, fun h' hn' hg => by
  obtain ⟨bs, h1, h2, h3⟩ := w
  exact ⟨bs, h1.frame fun b hb => ⟨by have := h3 b hb; omega, hg b (h3 b hb).1 (h3 b hb).2⟩, h2, h3⟩⟩
theorem OwnC.frz {d : Nat} {ys fs : List S} {lo hi : Nat} {h : H} (w : OwnC d ys fs lo hi h) (hd : d ≤ 8 := by omega) : frzV h (.agg ys) = some (.agg fs) := by
  obtain ⟨bs, h1, _⟩ := w
  simp only [frzV, h1.mapO hd, Vm.ob]
theorem RepL.sca {h : H} {d : Nat} {cs fs : List S} {bss : List Nat} (w : RepL (Rep h d) cs fs bss) : cs.all scaS = true := by
  induction w with
  | nil => rfl
  | cons w1 w2 ih => rw [List.all_cons, w1.sca, ih]; rfl
theorem OwnC.scaV {d : Nat} {ys fs : List S} {lo hi : Nat} {h : H} (w : OwnC d ys fs lo hi h) : Vm.scaV (.agg ys) = true := by
  obtain ⟨bs, h1, _⟩ := w
  exact h1.sca
/-- one value behind plain cells -/
theorem OwnF.c {d : Nat} {pre : List S} {y f : S} {lo hi : Nat} {h : H} (hp : ∀ s ∈ pre, Sc s) (w : OwnF d y f lo hi h) : OwnC d (pre ++ [y]) (pre ++ [f]) lo hi h := by
  obtain ⟨bs, h1, h2, h3⟩ := w
  exact ⟨bs, by simpa using (RepL.sc (d := d) hp).append (.cons h1 .nil), h2, h3⟩
theorem OwnC.f {d : Nat} {pre : List S} {y f : S} {lo hi : Nat} {h : H} (hp : ∀ s ∈ pre, Sc s) (w : OwnC d (pre ++ [y]) (pre ++ [f]) lo hi h) : OwnF d y f lo hi h := by
  obtain ⟨bs, h1, h2, h3⟩ := w
  obtain ⟨a, a', b, b', e1, rfl, w1, w2⟩ := h1.split
  obtain ⟨rfl, rfl⟩ := w1.of_sc hp
  have := List.append_cancel_left e1
  subst this
  cases w2 with
  | cons w3 w4 => cases w4; exact ⟨_, by simpa using w3, by simpa using h2, by simpa using h3⟩
/-- a result whose last cell is marked -/
theorem markC {h h' : H} {pre : List S} {y f' : S} {lo hi d : Nat} {n : Int} {bs : List Nat} (hp : ∀ s ∈ pre, Sc s) (hb : ∀ b ∈ bs, lo ≤ b ∧ b < hi) (hd : bs.Nodup) (ht : hi ≤ h.n) (w : Rep h' d y f' bs) (hn : h.n ≤ h'.n) (ho : ∀ c, c ∉ bs → c < h.n → h'.g c = h.g c ∧ h'.v c = h.v c) (h2 : h'.n = h.n → ∀ c, h.n ≤ c → h'.g c = h.g c) :
    Sep (OwnC d (pre ++ [y]) (pre ++ [f']) lo hi) lo hi (tidy h [iv .i64 n] h') ∧ ButR lo hi h (tidy h [iv .i64 n] h') := by
  have w' : RepL (Rep h' d) (pre ++ [y]) (pre ++ [f']) bs := by simpa using (RepL.sc (d := d) hp).append (.cons w .nil)
  obtain ⟨t1, t2, t3⟩ := mark_tidy (n := n) w' (fun b hbb => by have := hb b hbb; omega) hn ho h2
  refine ⟨OwnC.sep ⟨bs, t2, hd, hb⟩ (by rw [t1]; exact ht), t1, fun c hc => t3 c fun hh => ?_⟩
  have := hb c hh
  omega
/-- the answer of a call: new cells of one's own -/
structure NewC (d : Nat) (ys fs : List S) (n : Nat) (h : H) : Prop where
  le : n ≤ h.n
  q : OwnC d ys fs n h.n h
theorem scrub_g {n : Nat} {h : H} {b : Nat} (hb : (h.g b).cells.all scaS = true) : (scrub n h).g b = h.g b := by
  simp only [scrub]
  rw [if_neg (fun hh => by rw [hb] at hh; cases hh.2.2)]
theorem Rep.scaB {h : H} : ∀ {d : Nat} {y f : S} {bs : List Nat}, Rep h d y f bs → ∀ b ∈ bs, (h.g b).cells.all scaS = true
  | 0, y, f, bs, w => by obtain ⟨_, rfl⟩ := w; simp
  | d + 1, y, f, bs, w => by
    rcases w with ⟨_, rfl⟩ | ⟨b, z, cs, rows, bss, rfl, rfl, rfl, h1, h2, h3, h4, h5⟩
    · simp
    · intro c hc
      rcases List.mem_cons.1 hc with rfl | hc
      · rw [h3]; exact h5.sca
      · clear h3 h4
        generalize rows.flatten = fl at h5
        induction h5 with
        | nil => simp at hc
        | cons w1 w2 ih =>
          rcases List.mem_append.1 hc with hc | hc
          · exact w1.scaB _ hc
          · exact ih (by simp [hc]) hc
theorem RepL.scaB {h : H} {d : Nat} {cs fs : List S} {bss : List Nat} (w : RepL (Rep h d) cs fs bss) : ∀ b ∈ bss, (h.g b).cells.all scaS = true := by
  induction w with
  | nil => simp
  | cons w1 w2 ih =>
    intro c hc
    rcases List.mem_append.1 hc with hc | hc
    · exact w1.scaB _ hc
    · exact ih _ hc
/-- a call with a new answer of cells -/
theorem pC {cl : Nat → List V → H → Option (V × H)} {g : Nat} {off : Bool} {xs : List V} {h : H} {n d : Nat} {ys fs : List S} {h1 : H} (hn : h.n = n) (hc : cl g xs (D n) = some (.agg ys, h1)) (w : NewC d ys fs n h1) :
    ∃ h', (∀ (R : Type) (k : V → H → Option R), pcallF cl g off xs h k = k (.agg ys) h') ∧ Up h h' ∧ n ≤ h'.n ∧ Sep (OwnC d ys fs n h'.n) n h'.n h' := by
  subst hn
  have hle : h.n ≤ h1.n := w.le
  have ov : ∀ h2 : H, h2.n = h1.n → (∀ b, (h1.g b).cells.all scaS = true → h2.g b = h1.g b) → Up h (h.over h2) ∧ h.n ≤ (h.over h2).n ∧ Sep (OwnC d ys fs h.n (h.over h2).n) h.n (h.over h2).n (h.over h2) := fun h2 hn2 hg2 => by
    have hle2 : h.n ≤ h2.n := by omega
    refine ⟨up_over hle2, by rw [over_n hle2]; omega, OwnC.sep ?_ (Nat.le_refl _)⟩
    obtain ⟨bs, w1, w2, w3⟩ := w.q
    rw [over_n hle2, hn2]
    refine ⟨bs, w1.frame fun b hb => ?_, w2, w3⟩
    have := w3 b hb
    exact ⟨by rw [over_n hle2]; omega, by rw [over_ge this.1]; exact hg2 b (w1.scaB b hb)⟩
  cases off with
  | true =>
    obtain ⟨a1, a2, a3⟩ := ov h1 rfl (fun _ _ => rfl)
    refine ⟨h.over h1, fun R k => ?_, a1, a2, a3⟩
    unfold pcallF
    rw [hc, Vm.ob]
    unfold fchk
    rw [if_pos (.inl rfl)]; rfl
  | false =>
    obtain ⟨a1, a2, a3⟩ := ov (scrub h.n h1) rfl (fun b hb => scrub_g hb)
    refine ⟨h.over (scrub h.n h1), fun R k => ?_, a1, a2, a3⟩
    unfold pcallF
    rw [hc, Vm.ob]
    unfold fchk
    rw [if_pos (.inr w.q.scaV)]; rfl
/-- .. of one value -/
theorem pV {cl : Nat → List V → H → Option (V × H)} {g : Nat} {off : Bool} {xs : List V} {h : H} {n d : Nat} {y f : S} {h1 : H} (hn : h.n = n) (hc : cl g xs (D n) = some (.s y, h1)) (hle : n ≤ h1.n) (w : OwnF d y f n h1.n h1) :
    ∃ h', (∀ (R : Type) (k : V → H → Option R), pcallF cl g off xs h k = k (.s y) h') ∧ Up h h' ∧ n ≤ h'.n ∧ Sep (OwnF d y f n h'.n) n h'.n h' := by
  subst hn
  have ov : ∀ h2 : H, h2.n = h1.n → (∀ b, (h1.g b).cells.all scaS = true → h2.g b = h1.g b) → Up h (h.over h2) ∧ h.n ≤ (h.over h2).n ∧ Sep (OwnF d y f h.n (h.over h2).n) h.n (h.over h2).n (h.over h2) := fun h2 hn2 hg2 => by
    have hle2 : h.n ≤ h2.n := by omega
    refine ⟨up_over hle2, by rw [over_n hle2]; omega, OwnF.sep ?_ (Nat.le_refl _)⟩
    obtain ⟨bs, w1, w2, w3⟩ := w
    rw [over_n hle2, hn2]
    refine ⟨bs, w1.frame fun b hb => ?_, w2, w3⟩
    have := w3 b hb
    exact ⟨by rw [over_n hle2]; omega, by rw [over_ge this.1]; exact hg2 b (w1.scaB b hb)⟩
  cases off with
  | true =>
    obtain ⟨a1, a2, a3⟩ := ov h1 rfl (fun _ _ => rfl)
    refine ⟨h.over h1, fun R k => ?_, a1, a2, a3⟩
    unfold pcallF
    rw [hc, Vm.ob]
    unfold fchk
    rw [if_pos (.inl rfl)]; rfl
  | false =>
    obtain ⟨a1, a2, a3⟩ := ov (scrub h.n h1) rfl (fun b hb => scrub_g hb)
    refine ⟨h.over (scrub h.n h1), fun R k => ?_, a1, a2, a3⟩
    unfold pcallF
    rw [hc, Vm.ob]
    unfold fchk
    rw [if_pos (.inr (by obtain ⟨bs, w1, _⟩ := w; exact w1.sca))]; rfl
theorem NewC.p {f d : Nat} {xs : List V} {h : H} {ys fs : List S} (hd : d ≤ 8) (hc : call Ev f xs (D 0) = some (.agg ys, h)) (w : NewC d ys fs 0 h) : pureV (call Ev) f xs = some (.agg fs) := by
  unfold pureV
  rw [hc, Vm.ob]
  exact w.q.frz hd

theorem bel_mono {n m : Nat} (h : n ≤ m) {s : S} (hs : belS n s = true) : belS m s = true := by
  cases s with
  | ptr p => cases p <;> simp_all [belS]; omega
  | sl p k => cases p <;> simp_all [belS]; omega
  | fn f cap =>
    simp only [belS, List.all_eq_true, decide_eq_true_eq] at hs ⊢
    intro x hx
    have := hs x hx
    omega
  | _ => exact hs
/-- what leads to new blocks is not let go -/
theorem no_tidy {h h' : H} {l : List V} {b e : Nat} {cs : List S} (hb : b < h.n) (hg : h'.g b = .rw e cs) (hc : cs.all (belS h.n) = false) (hX : (h.g b).cells.all (belS h.n) = true) : tidy h l h' = h' := by
  unfold tidy
  rw [if_neg]
  rintro ⟨_, _, h3⟩
  rcases h3 b hb with ⟨h4, _⟩ | h4
  · rw [← h4, hg] at hX
    rw [show (Blk.rw e cs).cells = cs from rfl, hc] at hX
    cases hX
  · rw [hg, show (Blk.rw e cs).cells = cs from rfl, hc] at h4
    cases h4
theorem no_tidy_v {h h' : H} {l : List V} (hl : l.all (belV h.n) = false) : tidy h l h' = h' := by
  unfold tidy
  rw [if_neg]
  rintro ⟨_, h2, _⟩
  rw [hl] at h2
  cases h2

/-! slices that are filled row by row -/
section
variable {α : Type} {cs : α → List S}
theorem fill_rep {z b d n0 : Nat} {L : Nat → H → Option LOut} {fin : List V} {all : List α} (hz0 : 0 < z) (hz : ∀ a, (cs a).length = z)
    (step : ∀ (i : Nat) (a : α) (h : H) (X : List S), all[i]? = some a → b < h.n → n0 ≤ h.n → h.g b = .rw z X → X.length = all.length * z → X.all (belS h.n) = true →
      ∃ h' row bs, L i h = L (i + 1) h' ∧ h.n ≤ h'.n ∧ h'.g b = .rw z (setAt X (i * z) row) ∧ RepL (Rep h' d) row (cs a) bs ∧ bs.Nodup ∧ (∀ c ∈ bs, h.n ≤ c) ∧ ∀ c, c < h.n → c ≠ b → h'.g c = h.g c)
    (last : ∀ h, L all.length h = some (.done fin h)) :
    ∀ (q i : Nat) (h : H) (ys tail : List S) (bs : List Nat), i + q = all.length → b < h.n → n0 ≤ h.n → b < n0 → h.g b = .rw z (ys ++ tail) → tail.length = q * z → tail.all (belS n0) = true → RepL (Rep h d) ys ((all.take i).map cs).flatten bs → bs.Nodup → (∀ c ∈ bs, n0 ≤ c) →
    ∃ h' ys' bs', L i h = some (.done fin h') ∧ h.n ≤ h'.n ∧ h'.g b = .rw z ys' ∧ RepL (Rep h' d) ys' (all.map cs).flatten bs' ∧ bs'.Nodup ∧ (∀ c ∈ bs', n0 ≤ c) ∧ ∀ c, c < h.n → c ≠ b → c ∉ bs → h'.g c = h.g c := by
  intro q
  induction q with
  | zero =>
    intro i h ys tail bs hi hb hn hbn hg ht htb w hd hbs
    obtain rfl : i = all.length := by omega
    have : tail = [] := List.eq_nil_of_length_eq_zero (by omega)
    subst this
    exact ⟨h, ys, bs, last h, Nat.le_refl _, by simpa using hg, by simpa using w, hd, hbs, fun _ _ _ _ => rfl⟩
  | succ q ih =>
    intro i h ys tail bs hi hb hn hbn hg ht htb w hd hbs
    have hil : i < all.length := by omega
    have ha : all[i]? = some all[i] := List.getElem?_eq_getElem hil
    have hyl : ys.length = i * z := by
      rw [w.len, flat_len (z := z) (fun r hr => by obtain ⟨a, _, rfl⟩ := List.mem_map.1 hr; exact hz a)]
      rw [List.length_map, List.length_take, Nat.min_eq_left (by omega)]
    have htl : tail.length = z + q * z := by rw [ht, Nat.succ_mul]; omega
    have hX : (ys ++ tail).length = all.length * z := by
      rw [List.length_append, hyl, ht, ← Nat.add_mul, hi]
    obtain ⟨h1, row, b1, e1, n1, g1, r1, d1, f1, o1⟩ := step i all[i] h (ys ++ tail) ha hb hn hg hX (by
      rw [List.all_append, w.top w.lt, Bool.true_and]
      rw [List.all_eq_true] at htb ⊢
      exact fun s hs => bel_mono hn (htb s hs))
    have hrl : row.length = z := r1.len.trans (hz _)
    have hbl : ∀ c ∈ bs, c < h.n := w.lt
    have hdis : ∀ c ∈ bs, ∀ c' ∈ b1, c ≠ c' := fun c hc c' hc' hh => by have := hbl c hc; have := f1 c' hc'; omega
    have w' : RepL (Rep h1 d) (ys ++ row) ((all.take (i + 1)).map cs).flatten (bs ++ b1) := by
      have e : (all.take (i + 1)) = all.take i ++ [all[i]] := by rw [List.take_add_one, ha]; rfl
      rw [e, List.map_append, List.flatten_append]
      refine RepL.append (w.frame fun c hc => ⟨by have := hbl c hc; omega, o1 c (hbl c hc) (fun hh => by have := hbs c hc; omega)⟩) ?_
      simpa using r1
    rw [setAt_at hyl hrl] at g1
    obtain ⟨h2, ys2, bs2, e2, n2, g2, r2, d2, f2, o2⟩ := ih (i + 1) h1 (ys ++ row) (tail.drop z) (bs ++ b1) (by omega) (by omega) (by omega) hbn g1 (by rw [List.length_drop]; omega) (by rw [List.all_eq_true] at htb ⊢; exact fun s hs => htb s (List.mem_of_mem_drop hs)) w' (List.nodup_append.2 ⟨hd, d1, hdis⟩) (fun c hc => by
      rcases List.mem_append.1 hc with hc | hc
      · exact hbs c hc
      · have := f1 c hc; omega)
    refine ⟨h2, ys2, bs2, by rw [e1, e2], by omega, g2, r2, d2, f2, fun c hc hcb hcs => ?_⟩
    rw [o2 c (by omega) hcb (fun hh => ?_), o1 c hc hcb]
    rcases List.mem_append.1 hh with hh | hh
    · exact hcs hh
    · have := f1 c hh; omega
end
end Vm
/-
  Results of a code and one value, as they are made at the end of a function.
-/
namespace Vm
open Go
theorem sc1 {k : IntKind} {c : Int} : ∀ s ∈ [S.int k c], Sc s := by intro s hs; rw [List.mem_singleton.1 hs]; trivial
/-- a fault -/
theorem bad2C (n : Nat) (c : Int) : ∃ h', (stK 2 ((D n).new 0 [.int .i64 0, .sl none 0]) (pv ((D n).n) 0) (.agg [.int .i64 c, .sl none 0]) fun h105 =>
      (loadN 2 h105 (pv ((D n).n) 0)).bind fun c106 => some (V.agg c106, h105)) = some (.agg [.int .i64 c, .sl none 0], h') ∧ NewC 4 [.int .i64 c, .sl none 0] [.int .i64 c, .fs []] n h' := by
  rw [st2_new, loadN_2 (by simp) (by exact g_st), Vm.ob]
  refine ⟨_, rfl, by simp, [], ?_, by simp, by simp⟩
  exact RepL.cons (bs := []) (Rep.sc trivial) (RepL.cons (bs := []) Rep.nil .nil)
/-- a value put into a result that stands in block n -/
theorem fin2S {n d : Nat} {K : H} {y f : S} (hn : n < K.n) (g : K.g n = .rw 0 [.int .i64 0, .sl none 0]) (w : OwnF d y f (n + 1) K.n K) {c : Int} :
    ∃ h', (stK 2 K (pv n 0) (.agg [.int .i64 c, y]) fun h116 => (loadN 2 h116 (pv n 0)).bind fun c117 => some (V.agg c117, h116)) = some (.agg [.int .i64 c, y], h') ∧ NewC d [.int .i64 c, y] [.int .i64 c, f] n h' := by
  rw [stK_rw (z := 2) (e := 0) (o := 0) (b := n) (cs := [.int .i64 0, .sl none 0]) (r := [.int .i64 c, y]) hn g (.inr rfl) rfl (by simp)]
  rw [show setAt [.int .i64 0, .sl none 0] 0 [.int .i64 c, y] = [.int .i64 c, y] from rfl]
  rw [loadN_2 (b := n) (e := 0) (by rw [put_n]; omega) (put_g _ _ _), ob]
  obtain ⟨bs, w1, w2, w3⟩ := w
  refine ⟨_, rfl, by rw [put_n]; omega, ?_⟩
  refine OwnF.c (pre := [.int .i64 c]) sc1 ⟨bs, w1.frame fun b hb => ?_, w2, fun b hb => ?_⟩
  · have := w3 b hb
    exact ⟨by rw [put_n]; omega, put_g' (by omega)⟩
  · have := w3 b hb
    rw [put_n]; omega
theorem cells2 {R : Type} {y : S} (hy : isNo y = false) {k : Int → S → Option R} :
    (cellsK (.s y) fun c112 =>
      if c112.length = 1 ∧ 1 + 1 ≤ ([.int .i64 0, .sl none 0] : List S).length then
      ((setAt ([.int .i64 0, .sl none 0] : List S) 1 c112)[0]?).bind fun x113 =>
      gI .i64 x113 fun i114 =>
      ((setAt ([.int .i64 0, .sl none 0] : List S) 1 c112)[1]?).bind fun x115 =>
      if (setAt ([.int .i64 0, .sl none 0] : List S) 1 c112).length = 2 then k i114 x115 else none else none) = k 0 y := by
  simp only [cellsK, hy, cond_false, ln0, ln1, Nat.zero_add, Nat.reduceAdd, Nat.le_refl, and_self, if_true]
  rw [show setAt [.int .i64 0, .sl none 0] 1 [y] = [.int .i64 0, y] from rfl]
  simp only [gx0, gx1, ob, gI_i, ln0, ln1, Nat.zero_add, Nat.reduceAdd, if_true]
theorem fin2 {g n d : Nat} {xs : List V} {y f : S} {h1 : H} {off : Bool} (hc : call Ev g xs (D (n + 1)) = some (.s y, h1)) (hle : n + 1 ≤ h1.n) (w : OwnF d y f (n + 1) h1.n h1) :
    ∃ h', (pcallF (call Ev) g off xs ((D n).new 0 [.int .i64 0, .sl none 0]) fun v110 h111 =>
      cellsK v110 fun c112 =>
      if c112.length = 1 ∧ 1 + 1 ≤ ([.int .i64 0, .sl none 0] : List S).length then
      ((setAt ([.int .i64 0, .sl none 0] : List S) 1 c112)[0]?).bind fun x113 =>
      gI .i64 x113 fun i114 =>
      ((setAt ([.int .i64 0, .sl none 0] : List S) 1 c112)[1]?).bind fun x115 =>
      if (setAt ([.int .i64 0, .sl none 0] : List S) 1 c112).length = 2 then
      stK 2 h111 (pv ((D n).n) 0) (.agg [.int .i64 i114, x115]) fun h116 =>
      (loadN 2 h116 (pv ((D n).n) 0)).bind fun c117 =>
      some (V.agg c117, h116)
      else none
      else none) = some (.agg [.int .i64 0, y], h') ∧ NewC d [.int .i64 0, y] [.int .i64 0, f] n h' := by
  obtain ⟨K, e, u, hn, w'⟩ := pV (h := (D n).new 0 [.int .i64 0, .sl none 0]) (off := off) (n := n + 1) (by simp) hc hle w
  have hy : isNo y = false := by obtain ⟨bs, w1, _⟩ := w; exact w1.isNo
  rw [e]
  rw [cells2 hy]
  exact fin2S (K := K) (by omega) (by rw [u.g n (by simp)]; exact new_g (D n) _ _) w'.now
/-- a marked result of bytes -/
theorem r_markBC {h : H} {c : Int} {y : S} {l : List UInt8} {lo hi k : Nat} (w : Sep (OwnC 4 [.int .i64 c, y] [.int .i64 c, .fs (bys l)] lo hi) lo hi h) (hl : k + l.length < 2 ^ 62) :
    ∃ p, call Ev Fn.laws_markBytesResult [.agg [.int .i64 c, y], iv .i64 k] h = some (iv .i64 ((k + l.length : Nat) : Int), p) ∧ Sep (OwnC 4 [.int .i64 c, y] [.int .i64 c, .fs (bys (marks k l.length))] lo hi) lo hi (tidy h [iv .i64 ((k + l.length : Nat) : Int)] p) ∧ ButR lo hi h (tidy h [iv .i64 ((k + l.length : Nat) : Int)] p) := by
  obtain ⟨bs, w1, w2, w3⟩ := OwnC.f (pre := [.int .i64 c]) sc1 w.now
  have ht := w.top
  rw [eq_laws_markBytesResult]
  have l1 : load1 (h.new 0 [.int .i64 c, y]) (pv h.n 1) = some y := by simp [load1, H.cells, Blk.cells]
  rw [l1, Vm.ob]
  have w1' : Rep (h.new 0 [.int .i64 c, y]) 4 y (.fs (bys l)) bs := w1.frame fun b hb => ⟨by have := w1.lt b hb; simp; omega, new_g' (by have := w1.lt b hb; omega)⟩
  obtain ⟨p, e1, r1, n1, o1⟩ := w1'.mark (k := k) hl
  rw [e1, Vm.ob]
  simp only [gV1_s, gI_i]
  have t1 : tidy (h.new 0 [.int .i64 c, y]) [iv .i64 ((k + l.length : Nat) : Int)] p = p := tidy_same n1 fun d hd => o1 d fun hh => by have := w3 d hh; simp at hd; omega
  rw [t1]
  exact ⟨p, rfl, markC (pre := [.int .i64 c]) sc1 w3 w2 ht r1 (by rw [n1]; simp) (fun d hd hdn => by
    have := o1 d hd
    refine ⟨this.1.trans (new_g' (by omega)), this.2.trans ?_⟩
    simp [H.new, show d ≠ h.n by omega]) (fun hh => by rw [n1] at hh; simp at hh)⟩
end Vm
/-
  Runs as arguments and as results of a law.
-/
namespace Vm
open Go
/-- runs in a stretch of blocks -/
def OwnRs (v : V) (rs : List RunD) (lo hi : Nat) (h : H) : Prop := ∃ y, v = .s y ∧ OwnF 4 y (.fs (runs rs)) lo hi h
theorem OwnRs.frz {v : V} {rs : List RunD} {lo hi : Nat} {h : H} (w : OwnRs v rs lo hi h) : frzV h v = some (lv (runs rs)) := by
  obtain ⟨y, rfl, w⟩ := w
  exact w.frz
theorem OwnRs.sep {v : V} {rs : List RunD} {lo hi : Nat} {h : H} (w : OwnRs v rs lo hi h) (hn : hi ≤ h.n) : Sep (OwnRs v rs lo hi) lo hi h := ⟨hn, fun h' hn' hg => by
  obtain ⟨y, rfl, w⟩ := w
  exact ⟨y, rfl, (w.sep hn).q h' hn' hg⟩⟩
theorem f_toRunS {all : List RunD} (hl : all.length ≤ lim) (hr : ∀ r ∈ all, r.l.length ≤ lim) (n : Nat) : ∃ v h', call Ev Fn.laws_toRunS [lv (runs all)] (D n) = some (v, h') ∧ n ≤ h'.n ∧ OwnRs v all n h'.n h' := by
  have hl' := hl
  unfold lim at hl'
  rw [eq_laws_toRunS, runs_len, mkSl_of (z := 2) (zero := [.int .i64 0, .sl none 0]) hl (by omega) rfl, ob]
  generalize hG : (D n).new 2 ((List.replicate all.length [.int .i64 0, .sl none 0]).flatten) = G
  have gn : G.n = n + 1 := by rw [← hG]; simp
  have gg : G.g n = .rw 2 ((List.replicate all.length [.int .i64 0, .sl none 0]).flatten) := by rw [← hG]; exact new_g (D n) _ _
  obtain ⟨h', ys, bs, e1, n1, g1, r1, d1, f1, _⟩ := fill_rep (z := 2) (b := n) (d := 1) (n0 := n + 1) (cs := RunD.cs) (all := all) (L := fun i h => Lp.laws_toRunS 0 [lv (runs all), sv n 0 all.length, iv .i64 i] h) (fin := [sv n 0 all.length]) (by omega) (fun _ => rfl)
    (fun i a h X ha hb hn hg hX hXb => by
      have hi : i < all.length := (List.getElem?_eq_some_iff.1 ha).1
      show ∃ h' row bs, Lp.laws_toRunS 0 _ h = _ ∧ _
      rw [eq_laws_toRunS_l0, vcase_b, if_pos (by simp; omega), idxF_run ha, rowN_run]
      simp only [ob, gx0, gx1, gI_i, gF_f, ln0, ln1, Nat.zero_add, Nat.reduceAdd, if_true]
      obtain ⟨y, h1, bs, e1, r1, d1, f1, n1, t1⟩ := f_toRun a (hr a (List.mem_of_getElem? ha)) h.n
      obtain ⟨h2, e2, u2, n2, w2⟩ := pC (h := h) (off := true) rfl e1 (⟨n1, by simpa using OwnF.c (pre := [.int .i64 a.at_]) (by intro s hs; rw [List.mem_singleton.1 hs]; trivial) ⟨bs, r1, d1, f1⟩⟩ : NewC 1 [.int .i64 a.at_, y] [.int .i64 a.at_, .fs (bys a.l)] h.n h1)
      rw [e2]
      simp only [ob, gVA_a, gx0, gx1, gI_i, ln0, ln1, Nat.zero_add, Nat.reduceAdd, if_true]
      obtain ⟨bs2, r2, d2, f2⟩ := w2.now
      have hg2 := (u2.g n hb).trans hg
      rw [idxK_sv hi, stK_rw (z := 2) (e := 2) (o := i * 2) (b := n) (cs := X) (r := [.int .i64 a.at_, y]) (by omega) hg2 (.inr rfl) rfl (by omega), w64 (by omega) (by omega), show (i : Int) + 1 = ((i + 1 : Nat) : Int) from by omega]
      have ht : ∀ l, tidy h l (h2.put n (.rw 2 (setAt X (i * 2) [.int .i64 a.at_, y]))) = h2.put n (.rw 2 (setAt X (i * 2) [.int .i64 a.at_, y])) := fun l => no_tidy (b := n) hb (put_g _ _ _) (by
        rw [Bool.eq_false_iff]
        intro hh
        have := List.all_eq_true.1 hh y (by unfold setAt; simp)
        rw [t1] at this; cases this) (by rw [hg]; exact hXb)
      rw [ht]
      refine ⟨_, [.int .i64 a.at_, y], bs2, rfl, by rw [put_n]; omega, put_g _ _ _, r2.frame fun c hc => ?_, d2, fun c hc => (f2 c hc).1, fun c hc hcb => ?_⟩
      · have := f2 c hc
        exact ⟨by rw [put_n]; exact r2.lt c hc, put_g' (by omega)⟩
      · rw [put_g' hcb]; exact u2.g c hc)
    (fun h => by
      show Lp.laws_toRunS 0 _ h = _
      rw [eq_laws_toRunS_l0, vcase_b, if_neg (by simp), tidy_self])
    all.length 0 G [] ((List.replicate all.length [.int .i64 0, .sl none 0]).flatten) [] (by omega) (by omega) (by omega) (by omega) (by simpa using gg) (repl_len rfl) (by
      rw [List.all_eq_true]
      intro s hs
      obtain ⟨r, hr, hs⟩ := List.mem_flatten.1 hs
      rw [List.eq_of_mem_replicate hr] at hs
      rcases List.mem_cons.1 hs with rfl | hs
      · rfl
      · rw [List.mem_singleton.1 hs]; rfl) (by simpa using RepL.nil) (by simp) (by simp)
  rw [D_n, show iv .i64 0 = iv .i64 ((0 : Nat) : Int) from rfl, e1]
  simp only [ob, lcase_done, gx0]
  refine ⟨_, _, rfl, by omega, _, rfl, n :: bs, ?_, ?_, ?_⟩
  · have := Rep.sl (d := 1) (h := h') (b := n) (z := 2) (rows := runs all) (by omega) (by omega) g1 runs_row r1
    rw [runs_len] at this
    exact this.lifts (by omega)
  · exact List.nodup_cons.2 ⟨fun hh => by have := f1 n hh; omega, d1⟩
  · intro c hc
    rcases List.mem_cons.1 hc with rfl | hc
    · omega
    · have := f1 c hc
      have := r1.lt c hc
      omega
theorem OwnRs.pv {cl : Nat → List V → H → Option (V × H)} {g : Nat} {off : Bool} {xs : List V} {h : H} {n : Nat} {v : V} {rs : List RunD} {h1 : H} (hn : h.n = n) (hc : cl g xs (D n) = some (v, h1)) (hw : n ≤ h1.n ∧ OwnRs v rs n h1.n h1) :
    ∃ h', (∀ (R : Type) (k : V → H → Option R), pcallF cl g off xs h k = k v h') ∧ Up h h' ∧ n ≤ h'.n ∧ Sep (OwnRs v rs n h'.n) n h'.n h' := by
  obtain ⟨hle, y, rfl, w⟩ := hw
  obtain ⟨h', e, u, hn', w'⟩ := pV (off := off) hn hc hle w
  exact ⟨h', e, u, hn', OwnRs.sep ⟨y, rfl, w'.now⟩ (Nat.le_refl _)⟩
theorem OwnRs.mark {h : H} {v : V} {rs : List RunD} {lo hi k : Nat} (w : Sep (OwnRs v rs lo hi) lo hi h) (hl : k + rsz rs < 2 ^ 62) :
    ∃ p, call Ev Fn.laws_markRunS [v, iv .i64 k] h = some (iv .i64 ((k + rsz rs : Nat) : Int), p) ∧ Sep (OwnRs v (mkRs k rs) lo hi) lo hi (tidy h [iv .i64 ((k + rsz rs : Nat) : Int)] p) ∧ ButR lo hi h (tidy h [iv .i64 ((k + rsz rs : Nat) : Int)] p) := by
  obtain ⟨y, rfl, bs, w1, w2, w3⟩ := w.now
  obtain ⟨p, e1, r1, n1, o1⟩ := w1.markRs (k := k) w2 hl
  have ht := w.top
  have t : tidy h [iv .i64 ((k + rsz rs : Nat) : Int)] p = p := tidy_same n1 fun c hc => o1 c (fun hh => by have := w3 c hh; omega)
  refine ⟨p, e1, ?_, ?_⟩
  · rw [t]; exact OwnRs.sep ⟨y, rfl, bs, r1, w2, w3⟩ (by rw [n1]; exact ht)
  · rw [t]; exact ⟨n1, fun c hc => (o1 c fun hh => by have := w3 c hh; omega).1⟩
theorem p_eqRR {c : Int} {rs : List RunD} (hl : rs.length ≤ maxLen) (hr : ∀ r ∈ rs, r.l.length ≤ maxLen) : pureV (call Ev) Fn.laws_eqRunsResult [.agg [.int .i64 c, .fs (runs rs)], .agg [.int .i64 c, .fs (runs rs)]] = some (bv true) := by
  rw [pu_laws_eqRunsResult, vcase_b, if_neg (by simp), pc (p_eqRunS hl hr) rfl]
  simp
theorem mkRs_cons (k : Nat) (r : RunD) (rs : List RunD) : mkRs k (r :: rs) = mkR k r :: mkRs (k + (1 + r.l.length)) rs := rfl
theorem mkRs_len (k : Nat) (rs : List RunD) : (mkRs k rs).length = rs.length := mkAll_len _ _ _ _
theorem p_heldRs {k : Nat} {rs : List RunD} (hk : k + rsz rs < 2 ^ 62) : pureV (call Ev) Fn.laws_heldRunS [lv (runs (mkRs k rs)), iv .i64 k] = some (iv .i64 ((k + rsz rs : Nat) : Int)) := by
  have hrl := rsz_len rs
  have loop : ∀ (q : List RunD) (i k' : Nat), (mkRs k rs).drop i = mkRs k' q → k' + rsz q = k + rsz rs → i + q.length = rs.length →
      Lp.laws_heldRunS 0 [lv (runs (mkRs k rs)), iv .i64 k', iv .i64 i] (D 0) = some (.done [iv .i64 ((k + rsz rs : Nat) : Int)] (D 0)) := by
    intro q
    induction q with
    | nil =>
      intro i k' hd hs hi
      simp only [List.length_nil] at hi
      rw [eq_laws_heldRunS_l0, vcase_b, runs_len, mkRs_len, if_neg (by simp; omega), tidy_self, ← hs]
      rfl
    | cons r q ih =>
      intro i k' hd hs hi
      rw [mkRs_cons] at hd
      rw [rsz_cons] at hs
      simp only [List.length_cons] at hi
      obtain ⟨g1, g2, _⟩ := drop_cons hd
      rw [eq_laws_heldRunS_l0, vcase_b, runs_len, mkRs_len, if_pos (by simp; omega), idxF_run g1]
      simp only [gx0, gx1, ob, gI_i, gF_f]
      rw [vcase_b, if_neg (by simp [mkR]), idxF_run g1]
      simp only [gx0, gx1, ob, gI_i, gF_f]
      rw [w64 (n := (k' : Int) + 1) (by omega) (by omega), show (k' : Int) + 1 = ((k' + 1 : Nat) : Int) from by omega, show (mkR k' r).l = Vm.marks (k' + 1) r.l.length from rfl, pc (p_held (by omega)) rfl]
      simp only [gV1_s, gI_i, vcase_b]
      rw [if_neg (by simp; omega), w64 (n := (i : Int) + 1) (by omega) (by omega), tidy_self, show (i : Int) + 1 = ((i + 1 : Nat) : Int) from by omega]
      exact ih (i + 1) (k' + 1 + r.l.length) (by rw [g2, Nat.add_assoc]) (by omega) (by omega)
  rw [pu_laws_heldRunS, show iv .i64 0 = iv .i64 ((0 : Nat) : Int) from rfl, loop rs 0 k (by simp) rfl (by simp), ob, lcase_done]
  simp only [gx0, ob, gV1_s, gI_i]
theorem p_heldRR {c : Int} {k : Nat} {rs : List RunD} (hk : k + rsz rs < 2 ^ 62) : pureV (call Ev) Fn.laws_heldRunsResult [.agg [.int .i64 c, .fs (runs (mkRs k rs))], iv .i64 k] = some (iv .i64 ((k + rsz rs : Nat) : Int)) := by
  rw [pu_laws_heldRunsResult, pc (p_heldRs hk) rfl]
  simp only [gV1_s, gI_i, vcase_b]
  rw [if_neg (by simp; omega)]
/-- a marked result of runs -/
theorem r_markRR {h : H} {c : Int} {y : S} {rs : List RunD} {lo hi k : Nat} (w : Sep (OwnC 4 [.int .i64 c, y] [.int .i64 c, .fs (runs rs)] lo hi) lo hi h) (hl : k + rsz rs < 2 ^ 62) :
    ∃ p, call Ev Fn.laws_markRunsResult [.agg [.int .i64 c, y], iv .i64 k] h = some (iv .i64 ((k + rsz rs : Nat) : Int), p) ∧ Sep (OwnC 4 [.int .i64 c, y] [.int .i64 c, .fs (runs (mkRs k rs))] lo hi) lo hi (tidy h [iv .i64 ((k + rsz rs : Nat) : Int)] p) ∧ ButR lo hi h (tidy h [iv .i64 ((k + rsz rs : Nat) : Int)] p) := by
  obtain ⟨bs, w1, w2, w3⟩ := OwnC.f (pre := [.int .i64 c]) sc1 w.now
  have ht := w.top
  rw [eq_laws_markRunsResult]
  have l1 : load1 (h.new 0 [.int .i64 c, y]) (pv h.n 1) = some y := by simp [load1, H.cells, Blk.cells]
  rw [l1, Vm.ob]
  have w1' : Rep (h.new 0 [.int .i64 c, y]) 4 y (.fs (runs rs)) bs := w1.frame fun b hb => ⟨by have := w1.lt b hb; simp; omega, new_g' (by have := w1.lt b hb; omega)⟩
  obtain ⟨p, e1, r1, n1, o1⟩ := w1'.markRs (k := k) w2 hl
  rw [e1, Vm.ob]
  simp only [gV1_s, gI_i]
  have t1 : tidy (h.new 0 [.int .i64 c, y]) [iv .i64 ((k + rsz rs : Nat) : Int)] p = p := tidy_same n1 fun d hd => o1 d fun hh => by have := w3 d hh; simp at hd; omega
  rw [t1]
  exact ⟨p, rfl, markC (pre := [.int .i64 c]) sc1 w3 w2 ht r1 (by rw [n1]; simp) (fun d hd hdn => by
    have := o1 d hd
    refine ⟨this.1.trans (new_g' (by omega)), this.2.trans ?_⟩
    simp [H.new, show d ≠ h.n by omega]) (fun hh => by rw [n1] at hh; simp at hh)⟩
theorem p_toRunS {all : List RunD} (hl : all.length ≤ lim) (hr : ∀ r ∈ all, r.l.length ≤ lim) : pureV (call Ev) Fn.laws_toRunS [lv (runs all)] = some (lv (runs all)) := by
  obtain ⟨v, h', e, _, w⟩ := f_toRunS hl hr 0
  unfold pureV
  rw [e, ob, w.frz]
end Vm
/-
  Bytes copied into bytes that are one's own.
-/
namespace Vm
open Go

/-- bytes with others laid over them -/
def lay (out : List UInt8) (a : Nat) (m : List UInt8) : List UInt8 := out.take a ++ m ++ out.drop (a + m.length)
theorem lay_len {out m : List UInt8} {a : Nat} (h : a + m.length ≤ out.length) : (lay out a m).length = out.length := by
  unfold lay
  simp only [List.length_append, List.length_take, List.length_drop]; omega
theorem lay_get {out m : List UInt8} {a j : Nat} (hj : j < a) (h : a + m.length ≤ out.length) : (lay out a m)[j]? = out[j]? := by
  unfold lay
  rw [List.append_assoc, List.getElem?_append_left (by rw [List.length_take]; omega), List.getElem?_take, if_pos hj]
theorem setAt_lay {out m : List UInt8} {a : Nat} : setAt (out.map cell8) a (m.map cell8) = (lay out a m).map cell8 := by
  unfold setAt lay
  simp [List.map_take, List.map_drop]
/-- a cut of one's own bytes, from a place on -/
theorem slK_w {R : Type} {h : H} {N b a : Nat} {out : List UInt8} {kd : IntKind} {k : V → Option R} (w : BysW h (sv b 0 N) out b) (ha : a ≤ out.length) : slK 1 h (sv b 0 N) (some (iv kd (a : Int))) none k = k (sv b a (out.length - a)) := by
  have hN := w.len
  subst hN
  have hok : okE h 1 b = true := by simp [okE, w.n, w.g]
  simp only [slK, slS, Option.bind_some, bnd_of ha, hok, if_true, Nat.zero_add, Nat.mul_one]
theorem copS_w {h : H} {N b a n : Nat} {out m : List UInt8} (w : BysW h (sv b 0 N) out b) (hn : a + n ≤ out.length) (hm : m.length ≤ n) : copS 1 h (sv b a n) (lv (bys m)) = some (iv .i64 m.length, h.put b (.rw 1 ((lay out a m).map cell8))) := by
  have hb := w.n
  have hg := w.g
  simp only [copS, cellsS_by, Option.bind_some, lenS, bys_len, if_pos hb, hg, Nat.mul_one]
  rw [if_pos (by simpa using hn), show Nat.min m.length n = m.length from Nat.min_eq_left hm, List.take_of_length_le (by simp), setAt_lay]
theorem lay_w {h : H} {N b a : Nat} {out m : List UInt8} (w : BysW h (sv b 0 N) out b) (hm : a + m.length ≤ out.length) : BysW (h.put b (.rw 1 ((lay out a m).map cell8))) (sv b 0 N) (lay out a m) b :=
  ⟨by rw [w.v, lay_len hm], w.n, put_g _ _ _⟩
end Vm
/-
  What the functions that look for a page's fault come to.
-/
namespace Vm
open Go

@[simp] theorem w64bt {l : List UInt8} {i : Int} : IntKind.i64.wrap (bt l i) = bt l i := by
  have := bt_nn l i; have := bt_lt l i
  exact w64 (by omega) (by omega)
def plc (l : List UInt8) (i : Nat) : Int := bt l ((2 + 2 * i : Nat) : Int)
def siz (l : List UInt8) (i : Nat) : Int := bt l ((3 + 2 * i : Nat) : Int)
def slotB (l : List UInt8) (i : Nat) : Prop := if plc l i = 0 ∨ siz l i = 0 then plc l i = siz l i else bt l 1 ≤ plc l i ∧ plc l i + siz l i ≤ 64
def apartB (l : List UInt8) (i k : Nat) : Prop := siz l i = 0 ∨ siz l k = 0 ∨ plc l i + siz l i ≤ plc l k ∨ plc l k + siz l k ≤ plc l i
def cnt (l : List UInt8) : Nat := (bt l 0).toNat
theorem cnt_eq (l : List UInt8) : ((cnt l : Nat) : Int) = bt l 0 := by unfold cnt; have := bt_nn l 0; omega
def headB (l : List UInt8) : Prop := bt l 0 ≤ 16 ∧ 2 + 2 * bt l 0 ≤ bt l 1 ∧ bt l 1 ≤ 64
/-- the fault that a page has -/
def PageIs (l : List UInt8) (c : Int) : Prop :=
  (l.length ≠ 64 ∧ c = 1) ∨ (l.length = 64 ∧ ¬ headB l ∧ c = 3) ∨ (l.length = 64 ∧ headB l ∧ (∃ i, i < cnt l ∧ ¬ slotB l i) ∧ c = 3) ∨
  (l.length = 64 ∧ headB l ∧ (∀ i, i < cnt l → slotB l i) ∧ (∃ i k, i < cnt l ∧ k < i ∧ ¬ apartB l i k) ∧ c = 8) ∨
  (l.length = 64 ∧ headB l ∧ (∀ i, i < cnt l → slotB l i) ∧ (∀ i k, i < cnt l → k < i → apartB l i k) ∧ (0 < cnt l ∧ siz l (cnt l - 1) = 0) ∧ c = 8) ∨
  (l.length = 64 ∧ headB l ∧ (∀ i, i < cnt l → slotB l i) ∧ (∀ i k, i < cnt l → k < i → apartB l i k) ∧ ¬ (0 < cnt l ∧ siz l (cnt l - 1) = 0) ∧ c = 0)
theorem PageIs.uniq {l : List UInt8} {c c' : Int} (h : PageIs l c) (h' : PageIs l c') : c = c' := by
  unfold PageIs at h h'
  by_cases h1 : l.length = 64 <;> simp only [h1, ne_eq, not_true_eq_false, not_false_eq_true, true_and, false_and, false_or, or_false] at h h'
  case neg => omega
  by_cases h2 : headB l <;> simp only [h2, not_true_eq_false, not_false_eq_true, true_and, false_and, false_or, or_false] at h h'
  case neg => omega
  by_cases h3 : ∀ i, i < cnt l → slotB l i
  case neg =>
    have h3' : ∃ i, i < cnt l ∧ ¬ slotB l i := by
      apply Classical.byContradiction; intro hh
      exact h3 fun i hi => Classical.byContradiction fun hs => hh ⟨i, hi, hs⟩
    simp only [h3, h3', not_true_eq_false, not_false_eq_true, true_and, false_and, false_or, or_false] at h h'
    omega
  have h3' : ¬ ∃ i, i < cnt l ∧ ¬ slotB l i := fun ⟨i, hi, hs⟩ => hs (h3 i hi)
  simp only [h3', false_and, false_or] at h h'
  by_cases h4 : ∀ i k, i < cnt l → k < i → apartB l i k
  case neg =>
    rcases h with ⟨_, _, h⟩ | ⟨_, h, _⟩ | ⟨_, h, _⟩
    · rcases h' with ⟨_, _, h'⟩ | ⟨_, h', _⟩ | ⟨_, h', _⟩
      · omega
      · exact absurd h' h4
      · exact absurd h' h4
    · exact absurd h h4
    · exact absurd h h4
  have h4' : ¬ ∃ i k, i < cnt l ∧ k < i ∧ ¬ apartB l i k := fun ⟨i, k, hi, hk, hs⟩ => hs (h4 i k hi hk)
  simp only [h4', false_and, and_false, false_or] at h h'
  by_cases h5 : 0 < cnt l ∧ siz l (cnt l - 1) = 0
  · rcases h with ⟨_, _, _, h⟩ | ⟨_, _, h, _⟩
    · rcases h' with ⟨_, _, _, h'⟩ | ⟨_, _, h', _⟩
      · omega
      · exact absurd h5 h'
    · exact absurd h5 h
  · rcases h with ⟨_, _, h, _⟩ | ⟨_, _, _, h⟩
    · exact absurd h h5
    · rcases h' with ⟨_, _, h', _⟩ | ⟨_, _, _, h'⟩
      · exact absurd h' h5
      · omega

theorem pl_bd (l : List UInt8) (i : Nat) : 0 ≤ plc l i ∧ plc l i < 256 ∧ 0 ≤ siz l i ∧ siz l i < 256 := ⟨bt_nn _ _, bt_lt _ _, bt_nn _ _, bt_lt _ _⟩
open Classical in
/-- the fault of a page -/
noncomputable def pagF (l : List UInt8) : Int := if l.length ≠ 64 then 1 else if ¬ headB l then 3 else if ∃ i, i < cnt l ∧ ¬ slotB l i then 3 else if ∃ i k, i < cnt l ∧ k < i ∧ ¬ apartB l i k then 8 else if 0 < cnt l ∧ siz l (cnt l - 1) = 0 then 8 else 0
theorem pagF_is (l : List UInt8) : PageIs l (pagF l) := by
  unfold pagF PageIs
  by_cases h1 : l.length = 64
  case neg => simp [h1]
  by_cases h2 : headB l
  case neg => simp [h1, h2]
  by_cases h3 : ∃ i, i < cnt l ∧ ¬ slotB l i
  · simp [h1, h2, h3]
  have h3' : ∀ i, i < cnt l → slotB l i := fun i hi => Classical.byContradiction fun hs => h3 ⟨i, hi, hs⟩
  by_cases h4 : ∃ i k, i < cnt l ∧ k < i ∧ ¬ apartB l i k
  · rw [if_neg (by simpa using h1), if_neg (by simpa using h2), if_neg h3, if_pos h4]
    exact .inr (.inr (.inr (.inl ⟨h1, h2, h3', h4, rfl⟩)))
  have h4' : ∀ i k, i < cnt l → k < i → apartB l i k := fun i k hi hk => Classical.byContradiction fun hs => h4 ⟨i, k, hi, hk, hs⟩
  rw [if_neg (by simpa using h1), if_neg (by simpa using h2), if_neg h3, if_neg h4]
  by_cases h5 : 0 < cnt l ∧ siz l (cnt l - 1) = 0
  · rw [if_pos h5]; exact .inr (.inr (.inr (.inr (.inl ⟨h1, h2, h3', h4', h5, rfl⟩))))
  · rw [if_neg h5]; exact .inr (.inr (.inr (.inr (.inr ⟨h1, h2, h3', h4', h5, rfl⟩))))
theorem PageIs.f {l : List UInt8} {c : Int} (h : PageIs l c) : c = pagF l := h.uniq (pagF_is l)
/-- a page without a fault -/
theorem pagF_ok {l : List UInt8} (h : pagF l = 0) : l.length = 64 ∧ headB l ∧ (∀ i, i < cnt l → slotB l i) ∧ (∀ i k, i < cnt l → k < i → apartB l i k) ∧ ¬ (0 < cnt l ∧ siz l (cnt l - 1) = 0) := by
  have hp := pagF_is l
  rw [h] at hp
  rcases hp with ⟨_, hc⟩ | ⟨_, _, hc⟩ | ⟨_, _, _, hc⟩ | ⟨_, _, _, _, hc⟩ | ⟨_, _, _, _, _, hc⟩ | ⟨h1, h2, h3, h4, h5, _⟩
  · cases hc
  · cases hc
  · cases hc
  · cases hc
  · cases hc
  · exact ⟨h1, h2, h3, h4, h5⟩
section
variable {l : List UInt8}
theorem p_l2Count (hl : 0 < l.length) : pureV (call Ev) Fn.spec_l2Count [lv (bys l)] = some (iv .i64 (bt l 0)) := by
  rw [pu_spec_l2Count, idxF_by (by omega) (by omega)]; simp
theorem p_slots (hl : 0 < l.length) : pureV (call Ev) Fn.impl_slots [lv (bys l)] = some (iv .i64 (bt l 0)) := by
  rw [pu_impl_slots, idxF_by (by omega) (by omega)]; simp
theorem p_l2Low (hl : 1 < l.length) : pureV (call Ev) Fn.spec_l2Low [lv (bys l)] = some (iv .i64 (bt l 1)) := by
  rw [pu_spec_l2Low, idxF_by (by omega) (by omega)]; simp
theorem p_l2Place {i : Nat} (hl : 2 + 2 * i < l.length) (hi : i < 1000) : pureV (call Ev) Fn.spec_l2Place [lv (bys l), iv .i64 i] = some (iv .i64 (plc l i)) := by
  rw [pu_spec_l2Place, w64 (n := 2 * (i : Int)) (by omega) (by omega), w64 (by omega) (by omega), idxF_by (by omega) (by omega)]
  simp [plc]
theorem p_l2Size {i : Nat} (hl : 3 + 2 * i < l.length) (hi : i < 1000) : pureV (call Ev) Fn.spec_l2Size [lv (bys l), iv .i64 i] = some (iv .i64 (siz l i)) := by
  rw [pu_spec_l2Size, w64 (n := 2 * (i : Int)) (by omega) (by omega), w64 (by omega) (by omega), idxF_by (by omega) (by omega)]
  simp [siz]
theorem p_spot {i : Nat} (hl : 3 + 2 * i < l.length) (hi : i < 1000) : pureV (call Ev) Fn.impl_spot [lv (bys l), iv .i64 i] = some (.tup [.s (.int .i64 (plc l i)), .s (.int .i64 (siz l i))]) := by
  rw [pu_impl_spot, w64 (n := 2 * (i : Int)) (by omega) (by omega), w64 (by omega) (by omega), w64 (by omega) (by omega), idxF_by (by omega) (by omega)]
  simp only [gx0, ob, gI_i]
  rw [idxF_by (by omega) (by omega)]
  simp [plc, siz]
theorem p_l2Slot {i : Nat} (hl : 3 + 2 * i < l.length) (hi : i < 1000) : ∃ b, pureV (call Ev) Fn.spec_l2Slot [lv (bys l), iv .i64 i] = some (bv b) ∧ (b = true ↔ slotB l i) := by
  have q := pl_bd l i
  rw [pu_spec_l2Slot, pc (p_l2Place (by omega) hi) rfl]
  simp only [gV1_s, gI_i]
  rw [pc (p_l2Size hl hi) rfl]
  simp only [gV1_s, gI_i]
  rw [pc (p_l2Low (by omega)) rfl]
  simp only [gV1_s, gI_i, vcase_b]
  rw [w64 (n := plc l i + siz l i) (by omega) (by omega)]
  unfold slotB
  by_cases hp : plc l i = 0
  · rw [if_pos (by simpa using hp), if_pos (.inl hp)]; exact ⟨_, rfl, by simp⟩
  rw [if_neg (by simpa using hp)]
  by_cases hs : siz l i = 0
  · rw [if_pos (by simpa using hs), if_pos (.inr hs)]; exact ⟨_, rfl, by simp⟩
  rw [if_neg (by simpa using hs), if_neg (show ¬ (plc l i = 0 ∨ siz l i = 0) by omega)]
  by_cases hb : bt l 1 ≤ plc l i
  · rw [if_pos (by simpa using hb)]; exact ⟨_, rfl, by simp [hb]⟩
  · rw [if_neg (by simpa using hb)]; exact ⟨_, rfl, by simp [hb]⟩
theorem p_l2Apart {i k : Nat} (hl : 3 + 2 * i < l.length) (hi : i < 1000) (hl' : 3 + 2 * k < l.length) (hk : k < 1000) : ∃ b, pureV (call Ev) Fn.spec_l2Apart [lv (bys l), iv .i64 i, iv .i64 k] = some (bv b) ∧ (b = true ↔ apartB l i k) := by
  have q1 := pl_bd l i
  have q2 := pl_bd l k
  have j : ∀ q, Jn.spec_l2Apart_0 q (bys l) i k = some (bv (q || (decide (plc l i + siz l i ≤ plc l k) || decide (plc l k + siz l k ≤ plc l i)))) := by
    intro q
    unfold Jn.spec_l2Apart_0
    rw [vcase_b]
    cases q
    · simp only [Bool.false_eq_true, if_false, Bool.false_or]
      rw [pc (p_l2Place (by omega) hi) rfl]; simp only [gV1_s, gI_i]
      rw [pc (p_l2Size hl hi) rfl]; simp only [gV1_s, gI_i]
      rw [pc (p_l2Place (by omega) hk) rfl]; simp only [gV1_s, gI_i]
      rw [pc (p_l2Place (by omega) hk) rfl]; simp only [gV1_s, gI_i]
      rw [pc (p_l2Size hl' hk) rfl]; simp only [gV1_s, gI_i, vcase_b]
      rw [pc (p_l2Place (by omega) hi) rfl]; simp only [gV1_s, gI_i, vcase_b]
      rw [w64 (n := plc l i + siz l i) (by omega) (by omega), w64 (n := plc l k + siz l k) (by omega) (by omega)]
      by_cases h3 : plc l i + siz l i ≤ plc l k
      · rw [if_pos (by simpa using h3)]; simp [h3]
      · rw [if_neg (by simpa using h3)]; simp [h3]
    · rfl
  rw [pu_spec_l2Apart, pc (p_l2Size hl hi) rfl]
  simp only [gV1_s, gI_i, vcase_b]
  rw [pc (p_l2Size hl' hk) rfl]
  simp only [gV1_s, gI_i, j]
  unfold apartB
  by_cases h1 : siz l i = 0
  · rw [if_pos (by simpa using h1)]; exact ⟨_, rfl, by simp [h1]⟩
  rw [if_neg (by simpa using h1)]
  exact ⟨_, rfl, by simp [h1]⟩
theorem lp_l2Fault0 {n : Nat} {h : H} (hn : 2 + 2 * n ≤ l.length) (hn' : n < 1000) : ∀ k i : Nat, i + k = n →
    ((∀ j, i ≤ j → j < n → slotB l j) ∧ Lp.spec_l2Fault 0 [lv (bys l), iv .i64 n, iv .i64 i] h = some (.done [lv (bys l), iv .i64 n] h)) ∨
    ((∃ j, j < n ∧ ¬ slotB l j) ∧ Lp.spec_l2Fault 0 [lv (bys l), iv .i64 n, iv .i64 i] h = some (.ret (iv .i64 3) h)) := by
  intro k
  induction k with
  | zero =>
    intro i hi
    exact .inl ⟨fun j h1 h2 => by omega, by rw [eq_spec_l2Fault_l0, vcase_b, if_neg (by simp; omega), tidy_self]⟩
  | succ k ih =>
    intro i hi
    obtain ⟨b, e, hb⟩ := p_l2Slot (l := l) (i := i) (by omega) (by omega)
    rw [eq_spec_l2Fault_l0, vcase_b, if_pos (by simp; omega), pc e rfl]
    simp only [gV1_s, gB_b, vcase_b]
    cases b with
    | false => exact .inr ⟨⟨i, by omega, fun hh => by simpa using hb.2 hh⟩, rfl⟩
    | true =>
      rw [if_neg (by simp), w64 (by omega) (by omega), tidy_self, show (i : Int) + 1 = ((i + 1 : Nat) : Int) from by omega]
      rcases ih (i + 1) (by omega) with ⟨h1, h2⟩ | h1
      · refine .inl ⟨fun j hj1 hj2 => ?_, h2⟩
        by_cases hj : j = i
        · subst hj; exact hb.1 rfl
        · exact h1 j (by omega) hj2
      · exact .inr h1
theorem lp_l2Fault4 {n i : Nat} {h : H} (hn : 2 + 2 * n ≤ l.length) (hn' : n < 1000) (hi : i < n) : ∀ q k : Nat, k + q = i →
    ((∀ j, k ≤ j → j < i → apartB l i j) ∧ Lp.spec_l2Fault 4 [lv (bys l), iv .i64 n, iv .i64 i, iv .i64 k] h = some (.done [lv (bys l), iv .i64 n, iv .i64 i] h)) ∨
    ((∃ j, j < i ∧ ¬ apartB l i j) ∧ Lp.spec_l2Fault 4 [lv (bys l), iv .i64 n, iv .i64 i, iv .i64 k] h = some (.ret (iv .i64 8) h)) := by
  intro q
  induction q with
  | zero =>
    intro k hk
    exact .inl ⟨fun j h1 h2 => by omega, by rw [eq_spec_l2Fault_l4, vcase_b, if_neg (by simp; omega), tidy_self]⟩
  | succ q ih =>
    intro k hk
    obtain ⟨b, e, hb⟩ := p_l2Apart (l := l) (i := i) (k := k) (by omega) (by omega) (by omega) (by omega)
    rw [eq_spec_l2Fault_l4, vcase_b, if_pos (by simp; omega), pc e rfl]
    simp only [gV1_s, gB_b, vcase_b]
    cases b with
    | false => exact .inr ⟨⟨k, by omega, fun hh => by simpa using hb.2 hh⟩, rfl⟩
    | true =>
      rw [if_neg (by simp), w64 (by omega) (by omega), tidy_self, show (k : Int) + 1 = ((k + 1 : Nat) : Int) from by omega]
      rcases ih (k + 1) (by omega) with ⟨h1, h2⟩ | h1
      · refine .inl ⟨fun j hj1 hj2 => ?_, h2⟩
        by_cases hj : j = k
        · subst hj; exact hb.1 rfl
        · exact h1 j (by omega) hj2
      · exact .inr h1
theorem lp_l2Fault2 {n : Nat} {h : H} (hn : 2 + 2 * n ≤ l.length) (hn' : n < 1000) : ∀ q i : Nat, i + q = n →
    ((∀ j k, i ≤ j → j < n → k < j → apartB l j k) ∧ Lp.spec_l2Fault 2 [lv (bys l), iv .i64 n, iv .i64 i] h = some (.done [lv (bys l), iv .i64 n] h)) ∨
    ((∃ j k, j < n ∧ k < j ∧ ¬ apartB l j k) ∧ Lp.spec_l2Fault 2 [lv (bys l), iv .i64 n, iv .i64 i] h = some (.ret (iv .i64 8) h)) := by
  intro q
  induction q with
  | zero =>
    intro i hi
    exact .inl ⟨fun j k h1 h2 => by omega, by rw [eq_spec_l2Fault_l2, vcase_b, if_neg (by simp; omega), tidy_self]⟩
  | succ q ih =>
    intro i hi
    rw [eq_spec_l2Fault_l2, vcase_b, if_pos (by simp; omega), show iv .i64 0 = iv .i64 ((0 : Nat) : Int) from rfl]
    rcases lp_l2Fault4 (l := l) (h := h) hn hn' (i := i) (by omega) i 0 (by omega) with ⟨h1, h2⟩ | ⟨⟨j, h1, h1'⟩, h2⟩
    · rw [h2, ob, lcase_done]
      simp only [gx0, gx1, ob, gV1_s, gF_f, gI_i]
      rw [w64 (by omega) (by omega), tidy_self, show (i : Int) + 1 = ((i + 1 : Nat) : Int) from by omega]
      rcases ih (i + 1) (by omega) with ⟨g1, g2⟩ | g1
      · refine .inl ⟨fun j k hj1 hj2 hk => ?_, g2⟩
        by_cases hj : j = i
        · subst hj; exact h1 k (by omega) hk
        · exact g1 j k (by omega) hj2 hk
      · exact .inr g1
    · rw [h2, ob, lcase_ret]
      exact .inr ⟨⟨i, j, by omega, h1, h1'⟩, rfl⟩
theorem p_l2Fault : pureV (call Ev) Fn.spec_l2Fault [lv (bys l)] = some (iv .i64 (pagF l)) := by
  suffices hh : ∃ c, pureV (call Ev) Fn.spec_l2Fault [lv (bys l)] = some (iv .i64 c) ∧ PageIs l c by
    obtain ⟨c, e, hc⟩ := hh
    rw [e, hc.f]
  rw [pu_spec_l2Fault, vcase_b, bys_len]
  by_cases h64 : l.length = 64
  case neg => rw [if_pos (by simp; omega)]; exact ⟨_, rfl, .inl ⟨h64, rfl⟩⟩
  have b1 := bt_lt l 0
  have b2 := bt_nn l 0
  have hc := cnt_eq l
  rw [if_neg (by simp [h64]), pc (p_l2Count (by omega)) rfl]
  simp only [gV1_s, gI_i, vcase_b]
  by_cases g1 : bt l 0 ≤ 16
  case neg => rw [if_pos (by simp; omega)]; exact ⟨_, rfl, .inr (.inl ⟨h64, fun hh => g1 hh.1, rfl⟩)⟩
  have j0 : ∀ q, (q = true ∧ ¬ headB l ∨ q = false ∧ headB l) → ∃ c, Jn.spec_l2Fault_0 q (bys l) (bt l 0) = some (iv .i64 c) ∧ PageIs l c := by
    intro q hq
    unfold Jn.spec_l2Fault_0
    rw [vcase_b]
    rcases hq with ⟨rfl, hq⟩ | ⟨rfl, hd⟩
    · exact ⟨_, rfl, .inr (.inl ⟨h64, hq, rfl⟩)⟩
    have hd2 := hd
    obtain ⟨_, g2, g3⟩ := hd2
    rw [if_neg (by simp), ← hc, show iv .i64 0 = iv .i64 ((0 : Nat) : Int) from rfl]
    rcases lp_l2Fault0 (l := l) (h := D 0) (n := cnt l) (by omega) (by omega) (cnt l) 0 (by omega) with ⟨s1, s2⟩ | ⟨⟨j, s1, s1'⟩, s2⟩
    case inr => rw [s2, ob, lcase_ret]; exact ⟨_, frzV_s, .inr (.inr (.inl ⟨h64, hd, ⟨j, s1, s1'⟩, rfl⟩))⟩
    have s1' : ∀ i, i < cnt l → slotB l i := fun i hi => s1 i (Nat.zero_le _) hi
    rw [s2, ob, lcase_done]
    simp only [gx0, gx1, ob, gV1_s, gF_f, gI_i]
    rcases lp_l2Fault2 (l := l) (h := D 0) (n := cnt l) (by omega) (by omega) (cnt l) 0 (by omega) with ⟨t1, t2⟩ | ⟨⟨j, k, t1, t3, t1'⟩, t2⟩
    case inr => rw [t2, ob, lcase_ret]; exact ⟨_, frzV_s, .inr (.inr (.inr (.inl ⟨h64, hd, s1', ⟨j, k, t1, t3, t1'⟩, rfl⟩)))⟩
    have t1' : ∀ i k, i < cnt l → k < i → apartB l i k := fun i k hi hk => t1 i k (Nat.zero_le _) hi hk
    rw [t2, ob, lcase_done]
    simp only [gx0, gx1, ob, gV1_s, gF_f, gI_i, vcase_b]
    by_cases u : (0 : Int) < (cnt l : Int)
    case neg => rw [if_neg (by simp; omega)]; exact ⟨_, rfl, .inr (.inr (.inr (.inr (.inr ⟨h64, hd, s1', t1', fun hh => by omega, rfl⟩))))⟩
    rw [if_pos (by simpa using u), w64 (by omega) (by omega), show (cnt l : Int) - 1 = ((cnt l - 1 : Nat) : Int) from by omega, pc (p_l2Size (by omega) (by omega)) rfl]
    simp only [gV1_s, gI_i, vcase_b]
    by_cases u2 : siz l (cnt l - 1) = 0
    · rw [if_pos (by simpa using u2)]; exact ⟨_, rfl, .inr (.inr (.inr (.inr (.inl ⟨h64, hd, s1', t1', ⟨by omega, u2⟩, rfl⟩))))⟩
    · rw [if_neg (by simpa using u2)]; exact ⟨_, rfl, .inr (.inr (.inr (.inr (.inr ⟨h64, hd, s1', t1', fun hh => u2 hh.2, rfl⟩))))⟩
  rw [if_neg (by simpa using g1), pc (p_l2Low (by omega)) rfl]
  simp only [gV1_s, gI_i, vcase_b]
  rw [w64 (n := 2 * bt l 0) (by omega) (by omega), w64 (n := 2 + 2 * bt l 0) (by omega) (by omega)]
  by_cases g2 : 2 + 2 * bt l 0 ≤ bt l 1
  case neg => rw [if_pos (by simp; omega)]; exact j0 _ (.inl ⟨rfl, fun hh => g2 hh.2.1⟩)
  rw [if_neg (by simp; omega), pc (p_l2Low (by omega)) rfl]
  simp only [gV1_s, gI_i]
  refine j0 _ ?_
  by_cases g3 : bt l 1 ≤ 64
  · exact .inr ⟨by simpa using g3, g1, g2, g3⟩
  · exact .inl ⟨by simp; omega, fun hh => g3 hh.2.2⟩
theorem lp_PF0 {n : Nat} {h : H} (hn : 2 + 2 * n ≤ l.length) (hn' : n < 1000) : ∀ k i : Nat, i + k = n →
    ((∀ j, i ≤ j → j < n → slotB l j) ∧ Lp.impl_PageFault 0 [lv (bys l), iv .i64 n, iv .i64 (bt l 1), iv .i64 n, iv .i64 i] h = some (.done [lv (bys l), iv .i64 n] h)) ∨
    ((∃ j, j < n ∧ ¬ slotB l j) ∧ Lp.impl_PageFault 0 [lv (bys l), iv .i64 n, iv .i64 (bt l 1), iv .i64 n, iv .i64 i] h = some (.ret (iv .i64 3) h)) := by
  intro k
  induction k with
  | zero =>
    intro i hi
    exact .inl ⟨fun j h1 h2 => by omega, by rw [eq_impl_PageFault_l0, vcase_b, if_neg (by simp; omega), tidy_self]⟩
  | succ k ih =>
    intro i hi
    have q1 := pl_bd l i
    rw [eq_impl_PageFault_l0, vcase_b, if_pos (by simp; omega), pc (p_spot (by omega) (by omega)) rfl]
    simp only [gVT_t, gx0, gx1, ob, gA1_s, gI_i, ln0, ln1, Nat.zero_add, Nat.reduceAdd, if_true, vcase_b, tidy_self]
    rw [w64 (n := plc l i + siz l i) (by omega) (by omega), w64 (n := (i : Int) + 1) (by omega) (by omega), show (i : Int) + 1 = ((i + 1 : Nat) : Int) from by omega]
    have more : slotB l i → ((∀ j, i ≤ j → j < n → slotB l j) ∧ Lp.impl_PageFault 0 [lv (bys l), iv .i64 n, iv .i64 (bt l 1), iv .i64 n, iv .i64 ((i + 1 : Nat) : Int)] h = some (.done [lv (bys l), iv .i64 n] h)) ∨
        ((∃ j, j < n ∧ ¬ slotB l j) ∧ Lp.impl_PageFault 0 [lv (bys l), iv .i64 n, iv .i64 (bt l 1), iv .i64 n, iv .i64 ((i + 1 : Nat) : Int)] h = some (.ret (iv .i64 3) h)) := by
      intro hs
      rcases ih (i + 1) (by omega) with ⟨h1, h2⟩ | h1
      · refine .inl ⟨fun j hj1 hj2 => ?_, h2⟩
        by_cases hj : j = i
        · subst hj; exact hs
        · exact h1 j (by omega) hj2
      · exact .inr h1
    have bad : ¬ slotB l i → ∃ j, j < n ∧ ¬ slotB l j := fun hs => ⟨i, by omega, hs⟩
    unfold slotB at more bad
    by_cases hp : plc l i = 0
    · by_cases hs : siz l i = 0
      · rw [if_neg (by simp [hp, hs]), if_neg (by simp [hp]), if_neg (by simp [hp, hs])]
        exact more (by rw [if_pos (.inl hp)]; omega)
      · rw [if_pos (by simp [hp, hs])]
        exact .inr ⟨bad (by rw [if_pos (.inl hp)]; omega), rfl⟩
    · by_cases hs : siz l i = 0
      · rw [if_pos (by simp [hp, hs])]
        exact .inr ⟨bad (by rw [if_pos (.inr hs)]; omega), rfl⟩
      · rw [if_neg (by rw [show (plc l i == 0) = false from by simpa using hp, show (siz l i == 0) = false from by simpa using hs]; simp), if_pos (by simpa using hp)]
        by_cases hb : bt l 1 ≤ plc l i
        · rw [if_neg (by simpa using hb)]
          by_cases hz : plc l i + siz l i ≤ 64
          · rw [if_neg (by simpa using hz)]
            exact more (by rw [if_neg (by omega)]; omega)
          · rw [if_pos (by simp; omega)]
            exact .inr ⟨bad (by rw [if_neg (by omega)]; omega), rfl⟩
        · rw [if_pos (by simp; omega)]
          exact .inr ⟨bad (by rw [if_neg (by omega)]; omega), rfl⟩
end
def usedC (f : Nat → Bool) : List S := (List.range 64).map fun y => .bool (f y)
theorem usedC0 : usedC (fun _ => false) = [.bool false, .bool false, .bool false, .bool false, .bool false, .bool false, .bool false, .bool false, .bool false, .bool false, .bool false, .bool false, .bool false, .bool false, .bool false, .bool false, .bool false, .bool false, .bool false, .bool false, .bool false, .bool false, .bool false, .bool false, .bool false, .bool false, .bool false, .bool false, .bool false, .bool false, .bool false, .bool false, .bool false, .bool false, .bool false, .bool false, .bool false, .bool false, .bool false, .bool false, .bool false, .bool false, .bool false, .bool false, .bool false, .bool false, .bool false, .bool false, .bool false, .bool false, .bool false, .bool false, .bool false, .bool false, .bool false, .bool false, .bool false, .bool false, .bool false, .bool false, .bool false, .bool false, .bool false, .bool false] := by rfl
theorem usedC_get {f : Nat → Bool} {y : Nat} (h : y < 64) : (usedC f)[y]? = some (.bool (f y)) := by simp [usedC, h]
theorem usedC_set {f : Nat → Bool} {x : Nat} : (usedC f).set x (.bool true) = usedC fun y => if y = x then true else f y := by
  refine List.ext_getElem? fun y => ?_
  by_cases hy : y < 64
  · by_cases hx : y = x
    · subst hx
      rw [List.getElem?_set_self (by simp [usedC]; exact hy), usedC_get hy]; simp
    · rw [List.getElem?_set_ne (by omega), usedC_get hy, usedC_get hy]; simp [hx]
  · rw [List.getElem?_eq_none (by simp [usedC]; omega), List.getElem?_eq_none (by simp [usedC]; omega)]
theorem usedC_ext {f g : Nat → Bool} (h : ∀ y, y < 64 → f y = g y) : usedC f = usedC g := by
  unfold usedC
  exact List.map_congr_left fun y hy => by rw [h y (List.mem_range.1 hy)]
theorem idxA_of {len b : Nat} {k : IntKind} {x : Nat} (hx : x < len) : idxA len 1 (pv b 0) (iv k x) = some (pv b x) := by
  simp only [idxA]; rw [if_pos ⟨by omega, by omega⟩]; simp
/-- the heap with the bytes that are taken -/
structure Used (b : Nat) (h : H) (f : Nat → Bool) : Prop where
  n : b < h.n
  g : h.g b = .rw 0 (usedC f)
/-- only this block is another -/
def Oth (b : Nat) (h h' : H) : Prop := h'.n = h.n ∧ ∀ c, c ≠ b → h'.g c = h.g c ∧ h'.v c = h.v c
theorem Oth.refl (b : Nat) (h : H) : Oth b h h := ⟨rfl, fun _ _ => ⟨rfl, rfl⟩⟩
theorem Oth.trans {b : Nat} {h h' h'' : H} (x : Oth b h h') (y : Oth b h' h'') : Oth b h h'' := ⟨y.1.trans x.1, fun c hc => ⟨(y.2 c hc).1.trans (x.2 c hc).1, (y.2 c hc).2.trans (x.2 c hc).2⟩⟩
theorem Oth.put {b : Nat} {h : H} {x : Blk} : Oth b h (h.put b x) := ⟨rfl, fun c hc => by simp [H.put, hc]⟩
theorem Oth.tidy {b : Nat} {h h' : H} {l : List V} (x : Oth b h h') (hb : b < h.n) : tidy h l h' = h' := tidy_same' x.1 fun c hc => x.2 c (by omega)
where
  tidy_same' {h h' : H} {l : List V} (hn : h'.n = h.n) (hg : ∀ c, h.n ≤ c → h'.g c = h.g c ∧ h'.v c = h.v c) : Vm.tidy h l h' = h' := by
    unfold Vm.tidy
    split
    · obtain ⟨n', g', v'⟩ := h'
      simp only at hn
      subst hn
      simp only [H.mk.injEq, true_and]
      constructor <;> (funext b; split <;> first | rfl | (have := hg b (by omega); simp_all))
    · rfl
theorem ld_used {R : Type} {b x : Nat} {h : H} {f : Nat → Bool} {k : V → Option R} (u : Used b h f) (hx : x < 64) : ldK (.one (.b)) ⟨1, 1, [.bool false], false, .bool, false⟩ h (pv b x) k = k (bv (f x)) := by
  simp [ldK, ldT, load1, H.cells, u.n, u.g, Blk.cells, usedC_get hx]
theorem lp_PF4 {l : List UInt8} {b n i P Q : Nat} (hn : n < 1000) (hi : i < 1000) (hP : P + Q ≤ 64) : ∀ (q x : Nat) (f : Nat → Bool) (h : H), x + q = P + Q → Used b h f →
    ((∀ y, x ≤ y → y < P + Q → f y = false) ∧ ∃ h', Lp.impl_PageFault 4 [lv (bys l), iv .i64 n, pv b 0, iv .i64 P, iv .i64 Q, iv .i64 x, iv .i64 n, iv .i64 i] h =
      some (.done [lv (bys l), iv .i64 n, pv b 0, iv .i64 n, iv .i64 i] h') ∧ Oth b h h' ∧ Used b h' fun y => f y || (decide (x ≤ y) && decide (y < P + Q))) ∨
    ((∃ y, x ≤ y ∧ y < P + Q ∧ f y = true) ∧ ∃ h', Lp.impl_PageFault 4 [lv (bys l), iv .i64 n, pv b 0, iv .i64 P, iv .i64 Q, iv .i64 x, iv .i64 n, iv .i64 i] h = some (.ret (iv .i64 8) h')) := by
  intro q
  induction q with
  | zero =>
    intro x f h hx u
    refine .inl ⟨fun y h1 h2 => by omega, h, ?_, Oth.refl _ _, u.n, ?_⟩
    · rw [eq_impl_PageFault_l4, w64 (n := (P : Int) + Q) (by omega) (by omega), vcase_b, if_neg (by simp; omega), tidy_self]
    · rw [u.g]
      congr 1
      exact usedC_ext fun y hy => by
        have : (decide (x ≤ y) && decide (y < P + Q)) = false := by simp; omega
        rw [this]; simp
  | succ q ih =>
    intro x f h hx u
    rw [eq_impl_PageFault_l4, w64 (n := (P : Int) + Q) (by omega) (by omega), vcase_b, if_pos (by simp; omega), idxA_of (by omega), ob, ld_used u (by omega)]
    simp only [gV1_s, gB_b, vcase_b]
    by_cases hf : f x = true
    · rw [if_pos hf]
      exact .inr ⟨⟨x, Nat.le_refl _, by omega, hf⟩, h, rfl⟩
    · rw [if_neg hf, ob, stK_rw (z := 1) (e := 0) (cs := usedC f) (r := [.bool true]) u.n u.g (.inl ⟨_, rfl, rfl, rfl⟩) rfl (by simp [usedC]; omega)]
      have e2 : setAt (usedC f) x [.bool true] = usedC fun y => if y = x then true else f y := by
        rw [← usedC_set]
        unfold setAt
        rw [List.set_eq_take_append_cons_drop, if_pos (by simp [usedC]; omega)]
        simp
      rw [e2, tidy_put u.n, w64 (by omega) (by omega), show (x : Int) + 1 = ((x + 1 : Nat) : Int) from by omega]
      have u2 : Used b (h.put b (.rw 0 (usedC fun y => if y = x then true else f y))) (fun y => if y = x then true else f y) := ⟨u.n, put_g _ _ _⟩
      rcases ih (x + 1) _ _ (by omega) u2 with ⟨h1, h', h2, h3, h4⟩ | ⟨⟨y, h1, h2, h3⟩, h', h4⟩
      · refine .inl ⟨fun y hy1 hy2 => ?_, h', h2, Oth.put.trans h3, h4.n, ?_⟩
        · by_cases hy : y = x
          · subst hy; simpa using hf
          · have := h1 y (by omega) hy2; simpa [hy] using this
        · rw [h4.g]
          congr 1
          exact usedC_ext fun y hy => by
            by_cases hyx : y = x
            · subst hyx; simp; omega
            · simp only [if_neg hyx]
              congr 2
              simp; omega
      · refine .inr ⟨⟨y, by omega, h2, ?_⟩, h', h4⟩
        have hy : y ≠ x := by omega
        simpa [hy] using h3
/-- a cell covers a byte -/
def cov (l : List UInt8) (j y : Nat) : Prop := plc l j ≤ y ∧ (y : Int) < plc l j + siz l j
section
variable {l : List UInt8}
theorem lp_PF2 {b n : Nat} (hn : 2 + 2 * n ≤ l.length) (hn' : n < 1000) (hs : ∀ j, j < n → slotB l j) : ∀ (q i : Nat) (f : Nat → Bool) (h : H), i + q = n → Used b h f → (∀ y, y < 64 → (f y = true ↔ ∃ j, j < i ∧ cov l j y)) →
    ((∀ j k, i ≤ j → j < n → k < j → apartB l j k) ∧ ∃ h', Lp.impl_PageFault 2 [lv (bys l), iv .i64 n, pv b 0, iv .i64 n, iv .i64 i] h = some (.done [lv (bys l), iv .i64 n] h')) ∨
    ((∃ j k, j < n ∧ k < j ∧ ¬ apartB l j k) ∧ ∃ h', Lp.impl_PageFault 2 [lv (bys l), iv .i64 n, pv b 0, iv .i64 n, iv .i64 i] h = some (.ret (iv .i64 8) h')) := by
  intro q
  induction q with
  | zero =>
    intro i f h hi u hf
    exact .inl ⟨fun j k h1 h2 => by omega, _, by rw [eq_impl_PageFault_l2, vcase_b, if_neg (by simp; omega)]⟩
  | succ q ih =>
    intro i f h hi u hf
    have q1 := pl_bd l i
    have hsl := hs i (by omega)
    have hPQ : plc l i + siz l i ≤ 64 := by
      unfold slotB at hsl
      split at hsl <;> omega
    obtain ⟨P, hP⟩ : ∃ P : Nat, plc l i = P := ⟨(plc l i).toNat, by omega⟩
    obtain ⟨Q, hQ⟩ : ∃ Q : Nat, siz l i = Q := ⟨(siz l i).toNat, by omega⟩
    rw [eq_impl_PageFault_l2, vcase_b, if_pos (by simp; omega), pc (p_spot (by omega) (by omega)) rfl]
    simp only [gVT_t, gx0, gx1, ob, gA1_s, gI_i, ln0, ln1, Nat.zero_add, Nat.reduceAdd, if_true, hP, hQ]
    rcases lp_PF4 (l := l) (b := b) (n := n) (i := i) (P := P) (Q := Q) hn' (by omega) (by omega) Q P f h rfl u with ⟨h1, h', h2, h3, h4⟩ | ⟨⟨y, h1, h2, h3⟩, h', h4⟩
    · rw [h2, ob, lcase_done]
      simp only [gx0, gx1, ob, gV1_s, gF_f, gI_i]
      rw [w64 (by omega) (by omega), show (i : Int) + 1 = ((i + 1 : Nat) : Int) from by omega, h3.tidy u.n]
      have ap : ∀ j, j < i → apartB l i j := by
        intro j hj
        apply Classical.byContradiction
        intro hna
        unfold apartB at hna
        simp only [not_or] at hna
        have q2 := pl_bd l j
        have hj' := hs j (by omega)
        have hPQ' : plc l j + siz l j ≤ 64 := by
          unfold slotB at hj'
          split at hj' <;> omega
        obtain ⟨P', hP'⟩ : ∃ P : Nat, plc l j = P := ⟨(plc l j).toNat, by omega⟩
        have hy := h1 (max P P') (by omega) (by omega)
        have := (hf (max P P') (by omega)).2 ⟨j, hj, by unfold cov; omega⟩
        rw [hy] at this; cases this
      have ch : ∀ y, y < 64 → ((f y || (decide (P ≤ y) && decide (y < P + Q))) = true ↔ ∃ j, j < i + 1 ∧ cov l j y) := by
        intro y hy
        simp only [Bool.or_eq_true, Bool.and_eq_true, decide_eq_true_eq]
        constructor
        · rintro (hh | hh)
          · obtain ⟨j, hj, hc⟩ := (hf y hy).1 hh; exact ⟨j, by omega, hc⟩
          · exact ⟨i, by omega, by unfold cov; omega⟩
        · rintro ⟨j, hj, hc⟩
          by_cases hji : j = i
          · subst hji; right; unfold cov at hc; omega
          · left; exact (hf y hy).2 ⟨j, by omega, hc⟩
      rcases ih (i + 1) _ _ (by omega) h4 ch with ⟨g1, h'', g2⟩ | ⟨g1, h'', g2⟩
      · refine .inl ⟨fun j k hj1 hj2 hk => ?_, h'', g2⟩
        by_cases hj : j = i
        · subst hj; exact ap k hk
        · exact g1 j k (by omega) hj2 hk
      · exact .inr ⟨g1, h'', g2⟩
    · rw [h4, ob, lcase_ret]
      obtain ⟨j, hj, hc⟩ := (hf y (by omega)).1 h3
      refine .inr ⟨⟨i, j, by omega, hj, ?_⟩, h', rfl⟩
      unfold cov at hc; unfold apartB
      omega
theorem p_PageFault : pureV (call Ev) Fn.impl_PageFault [lv (bys l)] = some (iv .i64 (pagF l)) := by
  suffices hh : ∃ c, pureV (call Ev) Fn.impl_PageFault [lv (bys l)] = some (iv .i64 c) ∧ PageIs l c by
    obtain ⟨c, e, hc⟩ := hh
    rw [e, hc.f]
  rw [pu_impl_PageFault, vcase_b, bys_len]
  by_cases h64 : l.length = 64
  case neg => rw [if_pos (by simp; omega)]; exact ⟨_, rfl, .inl ⟨h64, rfl⟩⟩
  have b1 := bt_lt l 0
  have b2 := bt_nn l 0
  have b3 := bt_lt l 1
  have b4 := bt_nn l 1
  have hc := cnt_eq l
  rw [if_neg (by simp [h64]), idxF_by (by omega) (by omega)]
  simp only [gx0, ob, gI_i, w64bt]
  rw [pc (p_slots (by omega)) rfl]
  simp only [gV1_s, gI_i, hchk_self, vcase_b]
  by_cases g1 : bt l 0 ≤ 16
  case neg => rw [if_pos (by simp; omega)]; exact ⟨_, rfl, .inr (.inl ⟨h64, fun hh => g1 hh.1, rfl⟩)⟩
  have j0 : ∀ q, (q = true ∧ ¬ headB l ∨ q = false ∧ headB l) → ∃ c, Jn.impl_PageFault_0 q (bys l) (bt l 0) (bt l 1) = some (iv .i64 c) ∧ PageIs l c := by
    intro q hq
    unfold Jn.impl_PageFault_0
    rw [vcase_b]
    rcases hq with ⟨rfl, hq⟩ | ⟨rfl, hd⟩
    · exact ⟨_, rfl, .inr (.inl ⟨h64, hq, rfl⟩)⟩
    have hd2 := hd
    obtain ⟨_, g2, g3⟩ := hd2
    rw [if_neg (by simp), w64bt, ← hc, show iv .i64 0 = iv .i64 ((0 : Nat) : Int) from rfl]
    rcases lp_PF0 (l := l) (h := D 0) (n := cnt l) (by omega) (by omega) (cnt l) 0 (by omega) with ⟨s1, s2⟩ | ⟨⟨j, s1, s1'⟩, s2⟩
    case inr => rw [s2, ob, lcase_ret]; exact ⟨_, frzV_s, .inr (.inr (.inl ⟨h64, hd, ⟨j, s1, s1'⟩, rfl⟩))⟩
    have s1' : ∀ i, i < cnt l → slotB l i := fun i hi => s1 i (Nat.zero_le _) hi
    rw [s2, ob, lcase_done]
    simp only [gx0, gx1, ob, gV1_s, gF_f, gI_i]
    rw [← usedC0]
    rcases lp_PF2 (l := l) (b := (D 0).n) (n := cnt l) (by omega) (by omega) s1' (cnt l) 0 (fun _ => false) ((D 0).new 0 (usedC fun _ => false)) (by omega) ⟨by simp, new_g _ _ _⟩ (fun y hy => by simp) with ⟨t1, h', t2⟩ | ⟨⟨j, k, t1, t3, t1'⟩, h', t2⟩
    case inr => rw [t2, ob, lcase_ret]; exact ⟨_, frzV_s, .inr (.inr (.inr (.inl ⟨h64, hd, s1', ⟨j, k, t1, t3, t1'⟩, rfl⟩)))⟩
    have t1' : ∀ i k, i < cnt l → k < i → apartB l i k := fun i k hi hk => t1 i k (Nat.zero_le _) hi hk
    rw [t2, ob, lcase_done]
    simp only [gx0, gx1, ob, gV1_s, gF_f, gI_i, vcase_b]
    by_cases u : (0 : Int) < (cnt l : Int)
    case neg => rw [if_neg (by simp; omega)]; exact ⟨_, rfl, .inr (.inr (.inr (.inr (.inr ⟨h64, hd, s1', t1', fun hh => by omega, rfl⟩))))⟩
    rw [if_pos (by simpa using u), w64 (n := 2 * (cnt l : Int)) (by omega) (by omega), w64 (by omega) (by omega), idxF_by (by omega) (by omega)]
    have hz : bt l (2 * (cnt l : Int) + 1) = siz l (cnt l - 1) := by unfold siz; congr 1; omega
    simp only [gx0, ob, gI_i, hz, vcase_b]
    by_cases u2 : siz l (cnt l - 1) = 0
    · rw [if_pos (by simpa using u2)]; exact ⟨_, rfl, .inr (.inr (.inr (.inr (.inl ⟨h64, hd, s1', t1', ⟨by omega, u2⟩, rfl⟩))))⟩
    · rw [if_neg (by simpa using u2)]; exact ⟨_, rfl, .inr (.inr (.inr (.inr (.inr ⟨h64, hd, s1', t1', fun hh => u2 hh.2, rfl⟩))))⟩
  rw [if_neg (by simpa using g1), w64 (n := 2 * bt l 0) (by omega) (by omega), w64 (n := 2 + 2 * bt l 0) (by omega) (by omega)]
  by_cases g2 : 2 + 2 * bt l 0 ≤ bt l 1
  case neg => rw [if_pos (by simp; omega)]; exact j0 _ (.inl ⟨rfl, fun hh => g2 hh.2.1⟩)
  rw [if_neg (by simp; omega)]
  refine j0 _ ?_
  by_cases g3 : bt l 1 ≤ 64
  · exact .inr ⟨by simpa using g3, g1, g2, g3⟩
  · exact .inl ⟨by simp; omega, fun hh => g3 hh.2.2⟩
end
end Vm
/-
  What the functions on rows come to.
-/
namespace Vm
open Go

structure RowD where
  tab : Int
  key : Int
  val : Int
  text : ByteArray
abbrev RowD.cs (r : RowD) : List S := [.int .i64 r.tab, .int .i64 r.key, .int .i64 r.val, .str r.text]
structure RowD.ok (r : RowD) : Prop where
  t1 : -9223372036854775808 ≤ r.tab
  t2 : r.tab < 9223372036854775808
  k1 : -9223372036854775808 ≤ r.key
  k2 : r.key < 9223372036854775808
  v1 : -9223372036854775808 ≤ r.val
  v2 : r.val < 9223372036854775808
  s : r.text.size ≤ maxLen
/-! the faults of a row -/
def low (c : UInt8) : Bool := decide (97 ≤ (c.toNat : Int)) && decide ((c.toNat : Int) ≤ 122)
def allLow (s : ByteArray) (i : Nat) : Bool := (s.data.toList.drop i).all low
def rowF (r : RowD) : Int := if inB r.tab 0 3 && inB r.key 1 99 && inB r.val 0 999 then (if decide (r.text.size ≤ 8) && allLow r.text 0 then 0 else 5) else 3
theorem allLow_step {s : ByteArray} {i : Nat} (h : i < s.size) : allLow s i = (low (s.get! i) && allLow s (i + 1)) := by
  unfold allLow; rw [str_drop h]; rfl
theorem allLow_end {s : ByteArray} {i : Nat} (h : s.size ≤ i) : allLow s i = true := by
  unfold allLow; rw [str_drop_all h]; rfl
theorem lp_l1Text (s : ByteArray) (hs : s.size ≤ maxLen) (h : H) : ∀ k i : Nat, i + k = s.size → Lp.spec_l1Text 0 [.s (.str s), iv .i64 i] h = some (if allLow s i then .done [.s (.str s)] h else .ret (bv false) h) := by
  unfold maxLen at hs
  intro k
  induction k with
  | zero =>
    intro i hi
    rw [eq_spec_l1Text_l0, vcase_b, if_neg (by simp; omega), allLow_end (by omega)]; simp
  | succ k ih =>
    intro i hi
    rw [eq_spec_l1Text_l0, vcase_b, if_pos (by simp; omega), idxStr_of (by omega) (by omega), allLow_step (by omega), w64 (by omega) (by omega), show (i : Int) + 1 = ((i + 1 : Nat) : Int) from by omega, tidy_self, ih (i + 1) (by omega)]
    have e : sby s i = ((s.get! i).toNat : Int) := by simp [sby]
    simp only [Option.bind_some, gV1_s, gI_i, vcase_b, e, decide_eq_true_eq, low, Bool.and_eq_true]
    split
    · rw [if_neg (by omega)]
    · split
      · rw [if_neg (by omega)]
      · simp only [show (97 ≤ ((s.get! i).toNat : Int)) from by omega, show ((s.get! i).toNat : Int) ≤ 122 from by omega, true_and]
theorem p_l1Text (s : ByteArray) (hs : s.size ≤ maxLen) : pureV (call Ev) Fn.spec_l1Text [.s (.str s)] = some (bv (decide (s.size ≤ 8) && allLow s 0)) := by
  rw [pu_spec_l1Text, show iv .i64 0 = iv .i64 ((0 : Nat) : Int) from rfl, lp_l1Text s hs _ s.size 0 (by omega)]
  cases allLow s 0 <;> simp <;> omega
theorem p_l1Fault (r : RowD) (hs : r.text.size ≤ maxLen) : pureV (call Ev) Fn.spec_l1Fault [fv r.cs 0] = some (iv .i64 (rowF r)) := by
  rw [pu_spec_l1Fault]
  simp only [pcallS, p_l1In, p_l1Text _ hs, Option.bind_some, sca_v, sca_b, cond_true, gV1_s, gB_b, vcase_b]
  unfold rowF
  cases inB r.tab 0 3 <;> cases inB r.key 1 99 <;> cases inB r.val 0 999 <;> cases (decide (r.text.size ≤ 8) && allLow r.text 0) <;> simp
theorem lp_RowFault (r : RowD) (hs : r.text.size ≤ maxLen) (h : H) (p : Nat) (hp : h.cells p = r.cs) : ∀ k i : Nat, i + k = r.text.size → Lp.impl_RowFault 0 [pv p 0, iv .i64 (r.text.size : Int), iv .i64 i] h = some (if allLow r.text i then .done [] h else .ret (iv .i64 5) h) := by
  unfold maxLen at hs
  intro k
  have ld : ∀ (q : V → Option LOut), ldK (.one (.s)) ⟨1, 16, [.str ⟨#[]⟩], false, .str, false⟩ h (pv p (0 + 3)) q = q (.s (.str r.text)) := by
    intro q; simp [ldK, ldT, load1, hp]
  have pa : padd 3 (pv p 0) = some (pv p (0 + 3)) := rfl
  induction k with
  | zero =>
    intro i hi
    rw [eq_impl_RowFault_l0, vcase_b, if_neg (by simp; omega), allLow_end (by omega)]; simp
  | succ k ih =>
    intro i hi
    rw [eq_impl_RowFault_l0, vcase_b, if_pos (by simp; omega), allLow_step (by omega), w64 (by omega) (by omega), show (i : Int) + 1 = ((i + 1 : Nat) : Int) from by omega, tidy_self, ih (i + 1) (by omega)]
    have e : sby r.text i = ((r.text.get! i).toNat : Int) := by simp [sby]
    simp only [pa, Option.bind_some, ld, gV1_s, gS_s]
    rw [idxStr_of (by omega) (by omega)]
    simp only [Option.bind_some, gV1_s, gI_i, vcase_b, e, decide_eq_true_eq, low, Bool.and_eq_true]
    split
    · rw [if_neg (by omega)]
    · split
      · rw [if_neg (by omega)]
      · simp only [show (97 ≤ ((r.text.get! i).toNat : Int)) from by omega, show ((r.text.get! i).toNat : Int) ≤ 122 from by omega, true_and]
theorem p_RowFault (r : RowD) (hs : r.text.size ≤ maxLen) : pureV (call Ev) Fn.impl_RowFault [.agg r.cs] = some (iv .i64 (rowF r)) := by
  have hl := lp_RowFault r hs ((D 0).new 0 r.cs) 0 (by simp [H.cells, H.new, D, Blk.cells]) r.text.size 0 (by omega)
  rw [pu_impl_RowFault]
  simp only [pcallS, p_in, Option.bind_some, sca_v, sca_b, cond_true, gV1_s, gB_b, vcase_b]
  rw [show iv .i64 0 = iv .i64 ((0 : Nat) : Int) from rfl, hl]
  unfold rowF
  cases inB r.tab 0 3 <;> cases inB r.key 1 99 <;> cases inB r.val 0 999 <;> simp
  by_cases h8 : r.text.size ≤ 8
  · rw [if_neg (by omega)]
    cases allLow r.text 0 <;> simp [h8]
  · rw [if_pos (by omega)]; simp [h8]
def befB (a b : RowD) : Bool := decide (a.tab < b.tab) || (decide (a.tab = b.tab) && decide (a.key < b.key))
end Vm
/-
  What stands in a slot.
-/
namespace Vm
open Go

/-- is there something in this slot? -/
def hasB (l : List UInt8) (i : Int) : Bool := decide (0 ≤ i) && (decide (i < bt l 0) && siz l i.toNat != 0)
theorem hasB_nat {l : List UInt8} {i : Int} (h : hasB l i = true) : ∃ k : Nat, i = k ∧ k < cnt l ∧ siz l k ≠ 0 := by
  simp only [hasB, Bool.and_eq_true, decide_eq_true_eq, bne_iff_ne, ne_eq] at h
  have := cnt_eq l
  exact ⟨i.toNat, by omega, by omega, h.2.2⟩
section
variable {l : List UInt8} (hp : pagF l = 0)
include hp
theorem p_l2Has {i : Int} (h1 : -9223372036854775808 ≤ i) (h2 : i < 9223372036854775808) : pureV (call Ev) Fn.spec_l2Has [lv (bys l), iv .i64 i] = some (bv (hasB l i)) := by
  obtain ⟨h64, ⟨g1, g2, g3⟩, _⟩ := pagF_ok hp
  have b2 := bt_nn l 0
  rw [pu_spec_l2Has, pc (p_l2Count (by omega)) rfl]
  simp only [gV1_s, gI_i]
  rw [w64 (by omega) (by omega), pc (p_l1In _ _ _) rfl]
  simp only [gV1_s, gB_b, vcase_b]
  unfold hasB
  by_cases hi : inB i 0 (bt l 0 - 1) = true
  · have hi' := inB_iff.1 hi
    obtain ⟨k, rfl⟩ : ∃ k : Nat, i = k := ⟨i.toNat, by omega⟩
    rw [if_pos hi, pc (p_l2Size (by omega) (by omega)) rfl]
    have := (pl_bd l k).2.2.1
    simp only [gV1_s, gI_i]
    congr 2
    rw [show decide ((0 : Int) ≤ (k : Int)) = true from by simp, show decide ((k : Int) < bt l 0) = true from by simp; omega]
    simp only [Bool.true_and, Int.toNat_natCast]
    rw [show decide (siz l k > 0) = (siz l k != 0) from by rw [Bool.eq_iff_iff]; simp; omega]
  · rw [if_neg hi]
    have : ¬ (0 ≤ i ∧ i ≤ bt l 0 - 1) := fun hh => hi (inB_iff.2 hh)
    congr 2
    by_cases h0 : 0 ≤ i
    · rw [show decide (i < bt l 0) = false from by simp; omega]; simp
    · rw [show decide (0 ≤ i) = false from by simp; omega]; simp
theorem p_hasSlot {i : Int} : pureV (call Ev) Fn.impl_hasSlot [lv (bys l), iv .i64 i] = some (bv (hasB l i)) := by
  obtain ⟨h64, ⟨g1, g2, g3⟩, _⟩ := pagF_ok hp
  have b2 := bt_nn l 0
  rw [pu_impl_hasSlot, vcase_b]
  unfold hasB
  by_cases h0 : 0 ≤ i
  case neg => rw [if_neg (by simpa using h0)]; simp [h0]
  rw [if_pos (by simpa using h0), pc (p_slots (by omega)) rfl]
  simp only [gV1_s, gI_i, vcase_b]
  by_cases h1 : i < bt l 0
  case neg => rw [if_neg (by simpa using h1)]; simp [h0, h1]
  rw [if_pos (by simpa using h1)]
  obtain ⟨k, rfl⟩ : ∃ k : Nat, i = k := ⟨i.toNat, by omega⟩
  rw [w64 (n := 2 * (k : Int)) (by omega) (by omega), w64 (by omega) (by omega), idxF_by (by omega) (by omega)]
  simp only [gx0, ob, gI_i]
  have : bt l (3 + 2 * (k : Int)) = siz l k := by unfold siz; congr 1
  rw [this]
  simp [h1]
/-- the bytes of a cell -/
def cellB (l : List UInt8) (k : Nat) : List UInt8 := (l.take (plc l k + siz l k).toNat).drop (plc l k).toNat
theorem slot_bd {k : Nat} (hk : k < cnt l) : 0 ≤ plc l k ∧ 0 ≤ siz l k ∧ plc l k + siz l k ≤ 64 ∧ 3 + 2 * k < l.length ∧ k < 1000 := by
  obtain ⟨h64, ⟨g1, g2, g3⟩, h3, _⟩ := pagF_ok hp
  have hc := cnt_eq l
  have q := pl_bd l k
  have hs := h3 k hk
  unfold slotB at hs
  refine ⟨q.1, q.2.2.1, ?_, by omega, by omega⟩
  split at hs <;> omega
theorem p_cellAt {k : Nat} (hk : k < cnt l) : pureV (call Ev) Fn.impl_cellAt [lv (bys l), iv .i64 k] = some (lv (bys (cellB l k))) := by
  obtain ⟨s1, s2, s3, s4, s5⟩ := slot_bd hp hk
  obtain ⟨h64, _⟩ := pagF_ok hp
  rw [pu_impl_cellAt, pc (p_spot s4 s5) rfl]
  simp only [gVT_t, gx0, gx1, ob, gA1_s, gI_i, ln0, ln1, Nat.zero_add, Nat.reduceAdd, if_true]
  rw [w64 (by omega) (by omega), show plc l k = ((plc l k).toNat : Int) from by omega, show (((plc l k).toNat : Int) + siz l k) = ((((plc l k).toNat : Int) + siz l k).toNat : Int) from by omega, slF_lh (by omega) (by omega)]
  unfold cellB
  rw [show ((plc l k).toNat : Int) = plc l k from by omega]
theorem p_l2Cell {k : Nat} (hk : k < cnt l) : pureV (call Ev) Fn.spec_l2Cell [lv (bys l), iv .i64 k] = some (lv (bys (cellB l k))) := by
  obtain ⟨s1, s2, s3, s4, s5⟩ := slot_bd hp hk
  obtain ⟨h64, _⟩ := pagF_ok hp
  rw [pu_spec_l2Cell, pc (p_l2Place (by omega) s5) rfl]
  simp only [gV1_s, gI_i]
  rw [pc (p_l2Size s4 s5) rfl]
  simp only [gV1_s, gI_i]
  rw [w64 (by omega) (by omega), show plc l k = ((plc l k).toNat : Int) from by omega, show (((plc l k).toNat : Int) + siz l k) = ((((plc l k).toNat : Int) + siz l k).toNat : Int) from by omega, slF_lh (by omega) (by omega)]
  have hlen : ((l.take (((plc l k).toNat : Int) + siz l k).toNat).drop (plc l k).toNat).length ≤ lim := by
    rw [List.length_drop, List.length_take]; unfold lim; omega
  have := app_nil (h := D 0) hlen
  rw [D_n] at this
  rw [this, ob]
  have w : BysW ((((D 0).new 1 []).put 0 .dead).new 1 (((l.take (((plc l k).toNat : Int) + siz l k).toNat).drop (plc l k).toNat).map cell8)) (sv (0 + 1) 0 ((l.take (((plc l k).toNat : Int) + siz l k).toNat).drop (plc l k).toNat).length) _ 1 := ⟨rfl, by simp, new_g (((D 0).new 1 []).put 0 .dead) _ _⟩
  rw [frz1 (ob := some 1) w]
  unfold cellB
  rw [show ((plc l k).toNat : Int) = plc l k from by omega]
end
noncomputable def slC (l : List UInt8) (i : Int) : Int := if pagF l = 0 then (if hasB l i then 0 else 4) else pagF l
noncomputable def slL (l : List UInt8) (i : Int) : List UInt8 := if pagF l = 0 ∧ hasB l i = true then cellB l i.toNat else []
theorem cellB_len (l : List UInt8) (k : Nat) : (cellB l k).length ≤ l.length := by
  unfold cellB; rw [List.length_drop, List.length_take]; omega
theorem slL_len (l : List UInt8) (i : Int) : (slL l i).length ≤ l.length := by
  unfold slL; split
  · exact cellB_len _ _
  · simp
theorem p_spec_SlotIn {l : List UInt8} {i : Int} (h1 : -9223372036854775808 ≤ i) (h2 : i < 9223372036854775808) : pureV (call Ev) Fn.spec_SlotIn [lv (bys l), iv .i64 i] = some (.agg [.int .i64 (slC l i), .fs (bys (slL l i))]) := by
  rw [pu_spec_SlotIn, pc p_l2Fault rfl]
  simp only [gV1_s, gI_i, vcase_b]
  unfold slC slL
  by_cases hp : pagF l = 0
  case neg => rw [if_pos (by simpa using hp), if_neg hp, if_neg (fun hh => hp hh.1)]; rfl
  rw [if_neg (by simp [hp]), pc (p_l2Has hp h1 h2) rfl]
  simp only [gV1_s, gB_b, vcase_b]
  cases hb : hasB l i
  · simp [hp, bys]
  obtain ⟨k, rfl, hk, _⟩ := hasB_nat hb
  rw [if_neg (by simp), p_l2Cell hp hk]
  simp [hp]
theorem f_SlotIn {l : List UInt8} {i : Int} (hl : l.length ≤ lim) (n : Nat) : ∃ y h' ob, call Ev Fn.impl_SlotIn [lv (bys l), iv .i64 i] (D n) = some (.agg [.int .i64 (slC l i), y], h') ∧ NewB n h' (.s y) (slL l i) ob := by
  rw [eq_impl_SlotIn, pc p_PageFault rfl]
  simp only [gV1_s, gI_i, vcase_b]
  unfold slC slL
  have bad : ∀ c : Int, ∃ h', (stK 2 ((D n).new 0 [.int .i64 0, .sl none 0]) (pv ((D n).n) 0) (.agg [.int .i64 c, .sl none 0]) fun h105 =>
      (loadN 2 h105 (pv ((D n).n) 0)).bind fun c106 => some (V.agg c106, h105)) = some (.agg [.int .i64 c, .sl none 0], h') ∧ NewB n h' (.s (.sl none 0)) [] none := by
    intro c
    rw [st2_new, loadN_2 (by simp) (by exact g_st), Vm.ob]
    refine ⟨_, rfl, ⟨rfl, rfl⟩, by simp, by simp, fun b h1 h2 s hs => ?_⟩
    have h3 : b = n := by simp at h2; omega
    subst h3
    have e : (((D b).new 0 [.int .i64 0, .sl none 0]).put (D b).n (.rw 0 [.int .i64 c, .sl none 0])).g b = .rw 0 [.int .i64 c, .sl none 0] := g_st
    rw [e] at hs
    simp only [Blk.cells, List.mem_cons, List.not_mem_nil, or_false] at hs
    rcases hs with rfl | rfl <;> rfl
  by_cases hp : pagF l = 0
  case neg =>
    obtain ⟨h', e1, e2⟩ := bad (pagF l)
    rw [if_pos (by simpa using hp), if_neg hp, if_neg (fun hh => hp hh.1), e1]
    exact ⟨_, h', none, rfl, e2⟩
  rw [if_neg (by simp [hp]), pc (p_hasSlot hp) rfl]
  simp only [gV1_s, gB_b, vcase_b]
  cases hb : hasB l i
  · obtain ⟨h', e1, e2⟩ := bad 4
    rw [if_pos (by simp), e1]
    exact ⟨.sl none 0, h', none, by simp [hp], by simpa [hp] using e2⟩
  obtain ⟨k, rfl, hk, _⟩ := hasB_nat hb
  rw [if_neg (by simp), p_cellAt hp hk]
  simp only [Vm.ob, gV1_s, gF_f]
  obtain ⟨v, h1, e1, w1, n1⟩ := f_copied (m := cellB l k) (Nat.le_trans (cellB_len l k) hl) (n + 1)
  have hn : ((D n).new 0 [.int .i64 0, .sl none 0]).n = n + 1 := by simp
  rw [pF (h := (D n).new 0 [.int .i64 0, .sl none 0]) (h1 := h1) (v := v) (by rw [hn]; exact e1) (by rw [hn]; exact ⟨by rw [(show BysW h1 v (cellB l k) (n + 2) from w1.own).v]; rfl, w1.z⟩)]
  have hv := (show BysW h1 v (cellB l k) (n + 2) from w1.own).v
  subst hv
  have hle : ((D n).new 0 [.int .i64 0, .sl none 0]).n ≤ h1.n := by rw [hn]; omega
  generalize hG : ((D n).new 0 [.int .i64 0, .sl none 0]).over h1 = G
  have gn : G.n = n + 3 := by rw [← hG, over_n hle]; omega
  have g0 : G.g n = .rw 0 [.int .i64 0, .sl none 0] := by rw [← hG, (over_lt (by simp)).1]; exact new_g (D n) _ _
  have gw : BysW G (sv (n + 2) 0 (cellB l k).length) (cellB l k) (n + 2) := ⟨rfl, by omega, by rw [← hG, over_ge (by rw [hn]; omega)]; exact w1.own.g⟩
  simp only [cellsK, isNo, cond_false, ln0, ln1, Nat.zero_add, Nat.reduceAdd, Nat.le_refl, and_self, if_true]
  rw [show setAt [.int .i64 0, .sl none 0] 1 [S.sl (some (n + 2, 0)) (cellB l k).length] = [.int .i64 0, .sl (some (n + 2, 0)) (cellB l k).length] from rfl]
  simp only [gx0, gx1, Vm.ob, gI_i, ln0, ln1, Nat.zero_add, Nat.reduceAdd, if_true]
  rw [D_n, stK_rw (z := 2) (e := 0) (o := 0) (b := n) (cs := [.int .i64 0, .sl none 0]) (r := [.int .i64 0, .sl (some (n + 2, 0)) (cellB l k).length]) (by omega) g0 (.inr rfl) rfl (by simp)]
  rw [show setAt [.int .i64 0, .sl none 0] 0 [.int .i64 0, .sl (some (n + 2, 0)) (cellB l k).length] = [.int .i64 0, S.sl (some (n + 2, 0)) (cellB l k).length] from rfl]
  rw [loadN_2 (b := n) (e := 0) (by rw [put_n]; omega) (put_g _ _ _), Vm.ob]
  refine ⟨.sl (some (n + 2, 0)) (cellB l k).length, G.put n (.rw 0 [.int .i64 0, .sl (some (n + 2, 0)) (cellB l k).length]), some (n + 2), by simp [hp], ?_⟩
  rw [if_pos ⟨hp, by simp⟩, Int.toNat_natCast]
  refine ⟨⟨rfl, by rw [put_n]; omega, by rw [put_g' (by omega)]; exact gw.g⟩, by rw [put_n]; omega, fun b hb => by cases hb; omega, fun b h2 h3 s hs => ?_⟩
  by_cases hbn : b = n
  · subst hbn
    rw [put_g] at hs
    simp only [Blk.cells, List.mem_cons, List.not_mem_nil, or_false] at hs
    rcases hs with rfl | rfl <;> rfl
  · rw [put_g' hbn, ← hG, over_ge (by rw [hn]; omega)] at hs
    exact w1.z b (by omega) (by rw [put_n] at h3; omega) s hs
theorem NewB.p {f : Nat} {xs : List V} {h : H} {c : Int} {y : S} {l : List UInt8} {o : Option Nat} (hc : call Ev f xs (D 0) = some (.agg [.int .i64 c, y], h)) (w : NewB 0 h (.s y) l o) : pureV (call Ev) f xs = some (.agg [.int .i64 c, .fs (bys l)]) := by
  unfold pureV
  rw [hc, Vm.ob, frz2 w.own]
end Vm
/-
  The model's copy of bytes.
-/
namespace Vm
open Go
theorem f_l2Copy {m : List UInt8} (hm : m.length ≤ lim) (n : Nat) : ∃ v h', call Ev Fn.spec_l2Copy [lv (bys m)] (D n) = some (v, h') ∧ NewB n h' v m (some (n + 1)) ∧ h'.n = n + 2 := by
  have e : call Ev Fn.spec_l2Copy [lv (bys m)] (D n) = call Ev Fn.impl_copied [lv (bys m)] (D n) := by rw [eq_spec_l2Copy, eq_impl_copied]
  rw [e]; exact f_copied hm n
end Vm
/-
  A slot let go.
-/
namespace Vm
open Go

/-- the count of slots without the empty ones at the end -/
def trimN (l : List UInt8) : Nat → Nat
  | 0 => 0
  | n + 1 => if siz l n = 0 then trimN l n else n + 1
theorem trimN_le (l : List UInt8) : ∀ n, trimN l n ≤ n
  | 0 => Nat.le_refl _
  | n + 1 => by unfold trimN; split <;> first | exact Nat.le_refl _ | exact Nat.le_trans (trimN_le l n) (Nat.le_succ _)
def cntB (l : List UInt8) (n : Nat) : List UInt8 := l.set 0 (UInt8.ofNat n)
theorem bt_set_ne {l : List UInt8} {i j : Nat} {c : UInt8} (h : i ≠ j) : bt (l.set i c) (j : Int) = bt l (j : Int) := by
  unfold bt
  rw [List.getD, List.getElem?_set_ne (by simpa using h)]; rfl
theorem bt_set_eq {l : List UInt8} {i : Nat} {c : UInt8} (h : i < l.length) : bt (l.set i c) (i : Int) = (c.toNat : Int) := by
  unfold bt
  rw [List.getD, Int.toNat_natCast, List.getElem?_set_self h]; rfl
theorem cntB_0 {l : List UInt8} {n : Nat} (hl : 0 < l.length) (hn : n < 256) : bt (cntB l n) 0 = n := by
  have := bt_set_eq (l := l) (i := 0) (c := UInt8.ofNat n) hl
  unfold cntB
  rw [show (0 : Int) = ((0 : Nat) : Int) from rfl, this]
  simp; omega
theorem cntB_siz {l : List UInt8} {n k : Nat} : siz (cntB l n) k = siz l k := by
  unfold siz cntB; exact bt_set_ne (by omega)
theorem cntB_len {l : List UInt8} {n : Nat} : (cntB l n).length = l.length := by simp [cntB]
theorem cntB_cntB {l : List UInt8} {n m : Nat} : (cntB l n).set 0 (UInt8.ofNat m) = cntB l m := by simp [cntB]
theorem lp_l2Drop {l : List UInt8} {b N : Nat} : ∀ (n : Nat) (h : H), n ≤ 16 → 64 ≤ l.length → BysW h (sv b 0 N) (cntB l n) b →
    ∃ h', Lp.spec_l2Drop 0 [sv b 0 N] h = some (.done [sv b 0 N] h') ∧ BysW h' (sv b 0 N) (cntB l (trimN l n)) b ∧ Oth b h h' := by
  intro n
  induction n with
  | zero =>
    intro h hn hl w
    have hN := w.len
    have c0 := cntB_0 (l := l) (n := 0) (by omega) (by omega)
    rw [cntB_len] at hN
    rw [eq_spec_l2Drop_l0, show iv .i64 0 = iv .i64 ((0 : Nat) : Int) from rfl, idxK_sv (by omega), w.get (by rw [cntB_len]; omega) rfl]
    simp only [gV1_s, gI_i, vcase_b]
    rw [show ((0 : Nat) : Int) = 0 from rfl, c0, if_neg (by simp), tidy_self]
    exact ⟨h, rfl, w, Oth.refl _ _⟩
  | succ n ih =>
    intro h hn hl w
    have hN := w.len
    have c0 := cntB_0 (l := l) (n := n + 1) (by omega) (by omega)
    have w' := w
    rw [cntB_len] at hN
    have g0 : ∀ {R : Type} {k : V → Option R}, ldK (.one (.i .u8)) ⟨1, 1, [.int .u8 0], false, .int .u8, false⟩ h (pv b (0 * 1)) k = k (iv .u8 ((n + 1 : Nat) : Int)) := fun {R k} => by
      rw [w.get (by rw [cntB_len]; omega) rfl, show ((0 : Nat) : Int) = 0 from rfl, c0]
    rw [eq_spec_l2Drop_l0, show iv .i64 0 = iv .i64 ((0 : Nat) : Int) from rfl, idxK_sv (by omega), g0]
    simp only [gV1_s, gI_i, vcase_b]
    rw [if_pos (by simp), idxK_sv (by omega), g0]
    simp only [gV1_s, gI_i]
    rw [w64 (n := ((n + 1 : Nat) : Int)) (by omega) (by omega), w64 (by omega) (by omega), show ((n + 1 : Nat) : Int) - 1 = (n : Int) from by omega, frzVs_cons (frz1 (ob := some b) w) (frzVs_cons frzV_iv frzVs_nil), Vm.ob]
    rw [norm_nil, pc (p_l2Size (by rw [cntB_len]; omega) (by omega)) rfl, cntB_siz]
    simp only [gV1_s, gI_i, vcase_b]
    unfold trimN
    by_cases hs : siz l n = 0
    · rw [if_pos (by simpa using hs), if_pos hs, idxK_sv (by omega), g0]
      simp only [gV1_s, gI_i]
      rw [idxK_sv (by omega), show ((n + 1 : Nat) : Int) - 1 = (n : Int) from by omega, w.set (c := UInt8.ofNat n) (by rw [cntB_len]; omega) (by rw [w8 (by omega) (by omega)]; simp; omega), tidy_put w.n]
      have w2 := w.set_w (i := 0) (c := UInt8.ofNat n)
      rw [cntB_cntB] at w2 ⊢
      obtain ⟨h', e1, e2, e3⟩ := ih _ (by omega) hl w2
      exact ⟨h', e1, e2, Oth.put.trans e3⟩
    · rw [if_neg (by simpa using hs), if_neg hs, tidy_self]
      exact ⟨h, rfl, w, Oth.refl _ _⟩
theorem lp_Drop {l : List UInt8} {b N : Nat} {q : Int} {p : V} : ∀ (n : Nat) (h : H), n ≤ 16 → 64 ≤ l.length → BysW h (sv b 0 N) (cntB l n) b →
    ∃ h', Lp.impl_DropSlot 0 [iv .i64 q, p, sv b 0 N] h = some (.done [iv .i64 q, p, sv b 0 N] h') ∧ BysW h' (sv b 0 N) (cntB l (trimN l n)) b ∧ Oth b h h' := by
  intro n
  induction n with
  | zero =>
    intro h hn hl w
    have hN := w.len
    have c0 := cntB_0 (l := l) (n := 0) (by omega) (by omega)
    rw [cntB_len] at hN
    rw [eq_impl_DropSlot_l0, show iv .i64 0 = iv .i64 ((0 : Nat) : Int) from rfl, idxK_sv (by omega), w.get (by rw [cntB_len]; omega) rfl]
    simp only [gV1_s, gI_i, vcase_b]
    rw [show ((0 : Nat) : Int) = 0 from rfl, c0, if_neg (by simp), tidy_self]
    exact ⟨h, rfl, w, Oth.refl _ _⟩
  | succ n ih =>
    intro h hn hl w
    have hN := w.len
    have c0 := cntB_0 (l := l) (n := n + 1) (by omega) (by omega)
    rw [cntB_len] at hN
    have g0 : ∀ {R : Type} {k : V → Option R}, ldK (.one (.i .u8)) ⟨1, 1, [.int .u8 0], false, .int .u8, false⟩ h (pv b (0 * 1)) k = k (iv .u8 ((n + 1 : Nat) : Int)) := fun {R k} => by
      rw [w.get (by rw [cntB_len]; omega) rfl, show ((0 : Nat) : Int) = 0 from rfl, c0]
    rw [eq_impl_DropSlot_l0, show iv .i64 0 = iv .i64 ((0 : Nat) : Int) from rfl, idxK_sv (by omega), g0]
    simp only [gV1_s, gI_i, vcase_b]
    rw [if_pos (by simp), idxK_sv (by omega), g0]
    simp only [gV1_s, gI_i]
    rw [w64 (n := ((n + 1 : Nat) : Int)) (by omega) (by omega), w64 (n := 2 * ((n + 1 : Nat) : Int)) (by omega) (by omega), w64 (by omega) (by omega), show 2 * ((n + 1 : Nat) : Int) + 1 = ((3 + 2 * n : Nat) : Int) from by omega, idxK_sv (by omega), w.get (by rw [cntB_len]; omega) rfl]
    have hz : bt (cntB l (n + 1)) ((3 + 2 * n : Nat) : Int) = siz l n := cntB_siz
    simp only [gV1_s, gI_i, vcase_b, hz]
    unfold trimN
    by_cases hs : siz l n = 0
    · rw [if_pos (by simpa using hs), if_pos hs, idxK_sv (by omega), g0]
      simp only [gV1_s, gI_i]
      rw [idxK_sv (by omega), show ((n + 1 : Nat) : Int) - 1 = (n : Int) from by omega, w.set (c := UInt8.ofNat n) (by rw [cntB_len]; omega) (by rw [w8 (by omega) (by omega)]; simp; omega), tidy_put w.n]
      have w2 := w.set_w (i := 0) (c := UInt8.ofNat n)
      rw [cntB_cntB] at w2 ⊢
      obtain ⟨h', e1, e2, e3⟩ := ih _ (by omega) hl w2
      exact ⟨h', e1, e2, Oth.put.trans e3⟩
    · rw [if_neg (by simpa using hs), if_neg hs, tidy_self]
      exact ⟨h, rfl, w, Oth.refl _ _⟩
/-- a page without a slot -/
def dropL (l : List UInt8) (k : Nat) : List UInt8 := ((l.set (2 + 2 * k) 0).set (3 + 2 * k) 0)
def dropB (l : List UInt8) (k : Nat) : List UInt8 := cntB (dropL l k) (trimN (dropL l k) (cnt l))
theorem dropL_len {l : List UInt8} {k : Nat} : (dropL l k).length = l.length := by simp [dropL]
theorem dropB_len {l : List UInt8} {k : Nat} : (dropB l k).length = l.length := by simp [dropB, cntB_len, dropL_len]
theorem dropL_cnt {l : List UInt8} {k : Nat} (hl : 0 < l.length) : cntB (dropL l k) (cnt l) = dropL l k := by
  unfold cntB
  have h0 : (dropL l k)[0]? = some (UInt8.ofNat (cnt l)) := by
    unfold dropL
    rw [List.getElem?_set_ne (by omega), List.getElem?_set_ne (by omega), List.getElem?_eq_getElem hl]
    congr 1
    have := cnt_eq l
    unfold bt at this
    rw [List.getD, List.getElem?_eq_getElem (by simpa using hl), Option.getD_some] at this
    have h2 : (l[0]).toNat = cnt l := by simp at this; omega
    rw [← h2]; simp
  obtain ⟨h1, h2⟩ := List.getElem?_eq_some_iff.1 h0
  rw [← h2]
  exact List.set_getElem_self h1
theorem p_l2Drop {l : List UInt8} {k : Nat} (h64 : l.length = 64) (hc : cnt l ≤ 16) (hk : k < cnt l) : pureV (call Ev) Fn.spec_l2Drop [lv (bys l), iv .i64 k] = some (lv (bys (dropB l k))) := by
  obtain ⟨v, h1, e1, w1, n1⟩ := f_l2Copy (m := l) (by unfold lim; omega) 0
  rw [pu_spec_l2Drop, pF (h := D 0) (h1 := h1) (v := v) e1 ⟨by rw [(show BysW h1 v l 1 from w1.own).v]; rfl, w1.z⟩]
  have hv := (show BysW h1 v l 1 from w1.own).v
  subst hv
  have hle : (D 0).n ≤ h1.n := w1.le
  generalize hG : (D 0).over h1 = G
  have gn : G.n = h1.n := by rw [← hG, over_n hle]
  have w : BysW G (sv 1 0 l.length) l 1 := ⟨rfl, by omega, by rw [← hG, over_ge (by simp)]; exact (show BysW h1 _ l 1 from w1.own).g⟩
  rw [w64 (n := 2 * (k : Int)) (by omega) (by omega), w64 (by omega) (by omega), w64 (by omega) (by omega), show 2 + 2 * (k : Int) = ((2 + 2 * k : Nat) : Int) from by omega, show 3 + 2 * (k : Int) = ((3 + 2 * k : Nat) : Int) from by omega, idxK_sv (by omega), w.set (c := 0) (x := 0) (by omega) rfl, idxK_sv (by omega), (w.set_w).set (c := 0) (x := 0) (by simp; omega) rfl]
  have w3 := (w.set_w (i := 2 + 2 * k) (c := 0)).set_w (i := 3 + 2 * k) (c := 0)
  generalize (G.put 1 (Blk.rw 1 (List.map cell8 (l.set (2 + 2 * k) 0)))).put 1 (Blk.rw 1 (List.map cell8 ((l.set (2 + 2 * k) 0).set (3 + 2 * k) 0))) = K at w3 ⊢
  have w4 : BysW K (sv 1 0 l.length) (cntB (dropL l k) (cnt l)) 1 := by rw [dropL_cnt (by omega)]; exact w3
  obtain ⟨h', e2, e3, e4⟩ := lp_l2Drop (cnt l) _ hc (by rw [dropL_len]; omega) w4
  rw [e2, Vm.ob, lcase_done]
  simp only [gx0, Vm.ob]
  exact frz1 (ob := some 1) e3
end Vm
/-
  Runs applied to a page.
-/
namespace Vm
open Go
def apy : List UInt8 → List RunD → List UInt8
  | l, [] => l
  | l, r :: rs => apy (lay l r.at_.toNat r.l) rs
theorem apy_len : ∀ (rs : List RunD) (l : List UInt8), l.length = 64 → (∀ r ∈ rs, inR r) → (apy l rs).length = 64
  | [], l, h, _ => h
  | r :: rs, l, h, hr => by
    have := hr r (by simp)
    unfold inR at this
    exact apy_len rs _ (by rw [lay_len (by omega)]; exact h) fun x hx => hr x (by simp [hx])
/-- code and bytes -/
def apC (l : List UInt8) (rs : List RunD) : Int := if l.length ≠ 64 then 1 else runsF rs
def apL (l : List UInt8) (rs : List RunD) : List UInt8 := if apC l rs = 0 then apy l rs else []
theorem apL_len {l : List UInt8} {rs : List RunD} : (apL l rs).length ≤ 64 := by
  unfold apL
  split
  · rename_i h
    unfold apC at h
    by_cases h1 : l.length = 64
    · rw [if_neg (by simp [h1])] at h
      rw [apy_len rs l h1 (runsF_ok h).2]; omega
    · rw [if_pos h1] at h; omega
  · simp
theorem p_l3Asked {l : List UInt8} {rs : List RunD} (hl : rs.length ≤ maxLen) : pureV (call Ev) Fn.spec_l3Asked [lv (bys l), lv (runs rs)] = some (iv .i64 (apC l rs)) := by
  rw [pu_spec_l3Asked, vcase_b, bys_len, pc (p_l3Fault hl) rfl]
  unfold apC
  by_cases h1 : l.length = 64
  · rw [if_neg (by simp; omega), if_neg (by simp [h1])]; simp
  · rw [if_pos (by simp; omega), if_pos h1]
/-- one run laid over -/
theorem lay_step {h : H} {b : Nat} {l : List UInt8} {r : RunD} (w : BysW h (sv b 0 64) l b) (h64 : l.length = 64) (hr : inR r) :
    ∀ (R : Type) (k : V × H → Option R), (slK 1 h (sv b 0 64) (some (iv .i64 r.at_)) none fun v206 => (copS 1 h v206 (lv (bys r.l))).bind k) = k (iv .i64 r.l.length, h.put b (.rw 1 ((lay l r.at_.toNat r.l).map cell8))) := by
  intro R k
  unfold inR at hr
  obtain ⟨a, ha⟩ : ∃ a : Nat, r.at_ = a := ⟨r.at_.toNat, by omega⟩
  rw [ha, Int.toNat_natCast, slK_w w (by omega), copS_w w (by omega) (by omega), ob]
theorem p_l3Apply {l : List UInt8} {all : List RunD} (h64 : l.length = 64) (hl : all.length ≤ 64) (hr : ∀ r ∈ all, inR r) : pureV (call Ev) Fn.spec_l3Apply [lv (bys l), lv (runs all)] = some (lv (bys (apy l all))) := by
  have loop : ∀ (rs : List RunD) (i : Nat) (m : List UInt8) (h : H) (b : Nat), all.drop i = rs → m.length = 64 → BysW h (sv b 0 64) m b →
      ∃ h', Lp.spec_l3Apply 0 [lv (runs all), sv b 0 64, iv .i64 i] h = some (.done [sv b 0 64] h') ∧ BysW h' (sv b 0 64) (apy m rs) b := by
    intro rs
    induction rs with
    | nil =>
      intro i m h b hi hm w
      have := drop_nil hi
      rw [eq_spec_l3Apply_l0, vcase_b, if_neg (by simp; omega), tidy_self]
      exact ⟨h, rfl, w⟩
    | cons r rs ih =>
      intro i m h b hi hm w
      obtain ⟨g1, g2, g3⟩ := drop_cons hi
      have hrr := hr r (List.mem_of_getElem? g1)
      have hrr' := hrr
      unfold inR at hrr'
      rw [eq_spec_l3Apply_l0, vcase_b, if_pos (by simp; omega), idxF_run g1]
      simp only [gx0, gx1, ob, gI_i, gF_f]
      have e2 : ∀ {R : Type} {k : List S → Option R}, idxF 2 (runs all) (i : Int) k = k r.cs := idxF_run g1
      simp only [e2, gx0, gx1, ob, gI_i, gF_f]
      rw [lay_step w hm hrr]
      simp only [gV1_s, gI_i]
      rw [tidy_put w.n, w64 (by omega) (by omega), show (i : Int) + 1 = ((i + 1 : Nat) : Int) from by omega]
      exact ih (i + 1) _ _ b g2 (by rw [lay_len (by omega)]; exact hm) (lay_w w (by omega))
  obtain ⟨v, h1, e1, w1, nn⟩ := f_l2Copy (m := l) (by unfold lim; omega) 0
  rw [pu_spec_l3Apply, pF (h := D 0) (h1 := h1) (v := v) e1 ⟨by rw [(show BysW h1 v l 1 from w1.own).v]; rfl, w1.z⟩]
  have hv := (show BysW h1 v l 1 from w1.own).v
  subst hv
  have hle : (D 0).n ≤ h1.n := w1.le
  have w : BysW ((D 0).over h1) (sv 1 0 64) l 1 := ⟨by rw [h64], by rw [over_n hle]; omega, by rw [over_ge (by simp)]; exact (show BysW h1 _ l 1 from w1.own).g⟩
  rw [h64]
  obtain ⟨h', e2, w2⟩ := loop all 0 l _ 1 (by simp) h64 w
  rw [show iv .i64 0 = iv .i64 ((0 : Nat) : Int) from rfl, e2, ob, lcase_done]
  simp only [gx0, ob]
  have := w2.frz (d := 7)
  have hl64 := apy_len all l h64 hr
  rw [hl64] at this
  rw [frzV_s, this.2]; rfl
theorem p_spec_ApplyRuns {l : List UInt8} {rs : List RunD} (hl : rs.length ≤ maxLen) : pureV (call Ev) Fn.spec_ApplyRuns [lv (bys l), lv (runs rs)] = some (.agg [.int .i64 (apC l rs), .fs (bys (apL l rs))]) := by
  rw [pu_spec_ApplyRuns, pc (p_l3Asked hl) rfl]
  simp only [gV1_s, gI_i, vcase_b]
  unfold apL
  by_cases hc : apC l rs = 0
  · rw [if_neg (by simp [hc]), if_pos hc]
    have h64 : l.length = 64 := by
      unfold apC at hc
      split at hc
      · omega
      · rename_i h; simpa using h
    have hf : runsF rs = 0 := by unfold apC at hc; rw [if_neg (by simp [h64])] at hc; exact hc
    rw [p_l3Apply h64 (runsF_ok hf).1 (runsF_ok hf).2]
    simp [hc]
  · rw [if_pos (by simpa using hc), if_neg hc]; rfl
theorem f_applied {l : List UInt8} {all : List RunD} (h64 : l.length = 64) (hl : all.length ≤ 64) (hr : ∀ r ∈ all, inR r) (n : Nat) : ∃ y h', call Ev Fn.impl_applied [lv (bys l), lv (runs all)] (D n) = some (.s y, h') ∧ n ≤ h'.n ∧ OwnF 4 y (.fs (bys (apy l all))) n h'.n h' := by
  have loop : ∀ (rs : List RunD) (i : Nat) (m : List UInt8) (h : H) (b : Nat), all.drop i = rs → m.length = 64 → BysW h (sv b 0 64) m b →
      ∃ h', Lp.impl_applied 0 [sv b 0 64, lv (runs all), iv .i64 all.length, iv .i64 i] h = some (.done [sv b 0 64] h') ∧ BysW h' (sv b 0 64) (apy m rs) b ∧ h'.n = h.n := by
    intro rs
    induction rs with
    | nil =>
      intro i m h b hi hm w
      have := drop_nil hi
      rw [eq_impl_applied_l0, vcase_b, if_neg (by simp; omega), tidy_self]
      exact ⟨h, rfl, w, rfl⟩
    | cons r rs ih =>
      intro i m h b hi hm w
      obtain ⟨g1, g2, g3⟩ := drop_cons hi
      have hrr := hr r (List.mem_of_getElem? g1)
      have hrr' := hrr
      unfold inR at hrr'
      rw [eq_impl_applied_l0, vcase_b, if_pos (by simp; omega), idxF_run g1, rowN_run]
      simp only [gx0, gx1, ob, gI_i, gF_f, ln0, ln1, Nat.zero_add, Nat.reduceAdd, if_true]
      rw [st2_new]
      have u : Up h ((h.new 0 [.int .i64 0, .sl none 0]).put h.n (.rw 0 [.int .i64 r.at_, .fs (bys r.l)])) := up_st
      have wg : BysW ((h.new 0 [.int .i64 0, .sl none 0]).put h.n (.rw 0 [.int .i64 r.at_, .fs (bys r.l)])) (sv b 0 64) m b := (show Own h (sv b 0 64) m (some b) from w).up u
      have gn : ((h.new 0 [.int .i64 0, .sl none 0]).put h.n (.rw 0 [.int .i64 r.at_, .fs (bys r.l)])).n = h.n + 1 := n_st
      have gg : ((h.new 0 [.int .i64 0, .sl none 0]).put h.n (.rw 0 [.int .i64 r.at_, .fs (bys r.l)])).g h.n = .rw 0 [.int .i64 r.at_, .fs (bys r.l)] := g_st
      have gv : ∀ c, c < h.n → ((h.new 0 [.int .i64 0, .sl none 0]).put h.n (.rw 0 [.int .i64 r.at_, .fs (bys r.l)])).v c = h.v c := fun c hc => by
        simp [H.put, H.new, show c ≠ h.n by omega]
      generalize (h.new 0 [.int .i64 0, .sl none 0]).put h.n (.rw 0 [.int .i64 r.at_, .fs (bys r.l)]) = G at u wg gn gg gv ⊢
      have ld : ∀ {o : Nat}, load1 G (pv h.n o) = ([.int .i64 r.at_, .fs (bys r.l)] : List S)[o]? := fun {o} => by simp [load1, H.cells, gn, gg, Blk.cells]
      simp only [ld, gx0, gx1, ob, gI_i]
      rw [lay_step wg hm hrr]
      simp only [gV1_s, gI_i]
      have hw2 := lay_w wg (m := r.l) (a := r.at_.toNat) (by omega)
      have ht : ∀ l', l'.all (belV h.n) = true → (tidy h l' (G.put b (.rw 1 ((lay m r.at_.toNat r.l).map cell8)))).n = h.n ∧ (tidy h l' (G.put b (.rw 1 ((lay m r.at_.toNat r.l).map cell8)))).g b = .rw 1 ((lay m r.at_.toNat r.l).map cell8) := fun l' hl' => by
        unfold tidy
        rw [if_pos]
        · refine ⟨rfl, ?_⟩
          simp only [if_pos w.n]; exact put_g _ _ _
        · refine ⟨by rw [put_n]; omega, hl', fun c hc => ?_⟩
          by_cases hcb : c = b
          · subst hcb; right; rw [put_g]; exact cell8_bel _
          · left
            refine ⟨by rw [put_g' hcb]; exact u.g c hc, ?_⟩
            simp only [H.put, if_neg hcb]; exact gv c hc
      have ht' := ht [sv b 0 64, lv (runs all), iv .i64 all.length, iv .i64 (IntKind.i64.wrap ((i : Int) + 1))] (by simp [belV, belS, w.n])
      generalize tidy h [sv b 0 64, lv (runs all), iv .i64 all.length, iv .i64 (IntKind.i64.wrap ((i : Int) + 1))] (G.put b (.rw 1 ((lay m r.at_.toNat r.l).map cell8))) = T at ht' ⊢
      rw [w64 (by omega) (by omega), show (i : Int) + 1 = ((i + 1 : Nat) : Int) from by omega]
      have hll : (lay m r.at_.toNat r.l).length = 64 := by rw [lay_len (by omega)]; exact hm
      obtain ⟨h', e, w3, n3⟩ := ih (i + 1) (lay m r.at_.toNat r.l) T b g2 hll ⟨by rw [hll], by rw [ht'.1]; exact w.n, ht'.2⟩
      exact ⟨h', e, w3, n3.trans ht'.1⟩
  obtain ⟨v, h1, e1, w1, nn⟩ := f_copied (m := l) (by unfold lim; omega) n
  rw [eq_impl_applied, pF (h := D n) (h1 := h1) (v := v) e1 ⟨by rw [(show BysW h1 v l (n + 1) from w1.own).v]; rfl, w1.z⟩]
  have hv := (show BysW h1 v l (n + 1) from w1.own).v
  subst hv
  have hle : (D n).n ≤ h1.n := w1.le
  have w : BysW ((D n).over h1) (sv (n + 1) 0 64) l (n + 1) := ⟨by rw [h64], by rw [over_n hle]; omega, by rw [over_ge (by simp)]; exact (show BysW h1 _ l (n + 1) from w1.own).g⟩
  rw [h64, runs_len]
  obtain ⟨h', e2, w2, n2⟩ := loop all 0 l _ (n + 1) (by simp) h64 w
  rw [over_n hle, nn] at n2
  rw [show iv .i64 0 = iv .i64 ((0 : Nat) : Int) from rfl, e2, ob, lcase_done]
  simp only [gx0, ob]
  refine ⟨_, h', rfl, by omega, OwnB.f (d := 3) ⟨some (n + 1), w2, fun b hb => by cases hb; omega⟩⟩
theorem f_ApplyRuns {l : List UInt8} {rs : List RunD} (hl : rs.length ≤ maxLen) (n : Nat) : ∃ y h', call Ev Fn.impl_ApplyRuns [lv (bys l), lv (runs rs)] (D n) = some (.agg [.int .i64 (apC l rs), y], h') ∧ NewC 4 [.int .i64 (apC l rs), y] [.int .i64 (apC l rs), .fs (bys (apL l rs))] n h' := by
  rw [eq_impl_ApplyRuns, vcase_b, bys_len]
  unfold apL apC
  by_cases h64 : l.length = 64
  case neg =>
    obtain ⟨h', e1, w1⟩ := bad2C n 1
    rw [if_pos (by simp; omega), e1, if_pos h64]
    exact ⟨_, h', rfl, w1⟩
  rw [if_neg (by simp; omega), if_neg (show ¬ l.length ≠ 64 from by simp [h64]), pc (p_RunsFault hl) rfl]
  simp only [gV1_s, gI_i, vcase_b]
  by_cases hf : runsF rs = 0
  case neg =>
    obtain ⟨h', e1, w1⟩ := bad2C n (runsF rs)
    rw [if_pos (by simpa using hf), e1, if_neg hf]
    exact ⟨_, h', rfl, w1⟩
  obtain ⟨y, h1, e1, n1, w1⟩ := f_applied h64 (runsF_ok hf).1 (runsF_ok hf).2 (n + 1)
  obtain ⟨h', e2, w2⟩ := fin2 (off := true) e1 n1 w1
  rw [if_neg (by simp [hf]), e2, if_pos hf, hf]
  exact ⟨y, h', rfl, w2⟩
end Vm
/-
  A slice of rows of one's own that grows row by row.
-/
namespace Vm
open Go
structure OutS (z d : Nat) (y : S) (rows : List (List S)) (bs : List Nat) (h : H) : Prop where
  rep : Rep h (d + 1) y (.fs rows) bs
  nd : bs.Nodup
  ty : y = .sl none 0 ∨ ∃ b cs, y = .sl (some (b, 0)) rows.length ∧ h.g b = .rw z cs
  len : ∀ r ∈ rows, r.length = z
theorem OutS.none {z d : Nat} {h : H} : OutS z d (.sl none 0) [] [] h := ⟨Rep.nil, by simp, .inl rfl, by simp⟩
theorem OutS.frame {z d : Nat} {y : S} {rows : List (List S)} {bs : List Nat} {h h' : H} (w : OutS z d y rows bs h) (hb : ∀ b ∈ bs, b < h'.n ∧ h'.g b = h.g b) : OutS z d y rows bs h' := by
  refine ⟨w.rep.frame hb, w.nd, ?_, w.len⟩
  rcases w.ty with h1 | ⟨b, cs, h1, h2⟩
  · exact .inl h1
  · refine .inr ⟨b, cs, h1, ?_⟩
    have hbb : b ∈ bs := by
      rcases w.rep with ⟨⟨h3, _⟩ | ⟨h3, _⟩, _⟩ | ⟨b', z', cs', rows', bss, h3, _, h4, _⟩
      · rw [h1] at h3; exact h3.elim
      · rw [h1] at h3; cases h3
      · rw [h1] at h3
        injection h3 with h3 _
        injection h3 with h3
        injection h3 with h3 _
        rw [h4, h3]; simp
    rw [(hb b hbb).2]; exact h2
theorem app_row {z d : Nat} {y : S} {rows : List (List S)} {bs : List Nat} {h : H} {row fr : List S} {br : List Nat} (w : OutS z d y rows bs h) (wr : RepL (Rep h d) row fr br) (hz : fr.length = z) (hz0 : 0 < z) (hd : br.Nodup) (hdis : ∀ a ∈ bs, a ∉ br) (hl : rows.length + 1 ≤ lim) :
    ∃ h' bs', appS z (h.new z row) (.s y) (sv h.n 0 1) = some (sv (h.n + 1) 0 (rows.length + 1), h') ∧ OutS z d (.sl (some (h.n + 1, 0)) (rows.length + 1)) (rows ++ [fr]) bs' h' ∧ h'.n = h.n + 2 ∧ (∀ c ∈ bs', c = h.n + 1 ∨ c ∈ bs ∨ c ∈ br) ∧ (∀ c, c < h.n → c ∉ bs → h'.g c = h.g c) ∧ (∀ c, c < h.n → h'.g c = h.g c ∨ (h'.g c = .dead ∧ c ∈ bs)) ∧ ∃ cs0, h'.g (h.n + 1) = .rw z (cs0 ++ row) := by
  have hrow : row.length = z := wr.len.trans hz
  have hlt := w.rep.lt
  have hlr := wr.lt
  have cy : cellsS z (h.new z row) (sv h.n 0 1) = some row := by
    simp only [cellsS, H.cells, new_n, new_g, Blk.cells]
    rw [if_pos ⟨by omega, by simp; omega⟩]
    simp [← hrow]
  have gn : (h.new z row).g h.n = .rw z row := new_g _ _ _
  rcases w.rep with ⟨⟨h3, h4⟩ | ⟨h3, h4⟩, h5⟩ | ⟨b, z', cs, rows', bss, h3, h4, h5, h6, h7, h8, h9, h10⟩
  · rw [← h4] at h3; exact h3.elim
  · subst h3
    injection h4 with h4
    subst h4
    subst h5
    refine ⟨(h.new z row).new z row, (h.n + 1) :: br, ?_, ⟨?_, ?_, ?_, ?_⟩, by simp, ?_, fun c hc _ => ?_, fun c hc => .inl ?_, [], new_g (h.new z row) z row⟩
    · simp only [appS, cy, Option.bind_some, lenS]
      rw [if_pos ⟨trivial, by simpa using hl, hz0⟩, if_neg (by omega)]
      rfl
    · have := Rep.sl (d := d) (h := (h.new z row).new z row) (b := h.n + 1) (z := z) (cs := row) (rows := [fr]) (bss := br) (by simp) hz0 (by exact new_g (h.new z row) z row) (by simpa using hz) (by
        simpa using wr.frame fun c hc => ⟨by have := hlr c hc; simp; omega, by rw [new_g' (by have := hlr c hc; simp; omega), new_g' (by have := hlr c hc; omega)]⟩)
      simpa using this
    · exact List.nodup_cons.2 ⟨fun hh => by have := hlr _ hh; omega, hd⟩
    · exact .inr ⟨_, row, rfl, by exact new_g (h.new z row) z row⟩
    · simpa using hz
    · intro c hc
      rcases List.mem_cons.1 hc with h1 | h1
      · exact .inl h1
      · exact .inr (.inr h1)
    · rw [new_g' (by simp; omega), new_g' (by omega)]
    · rw [new_g' (by simp; omega), new_g' (by omega)]
  · injection h4 with h4
    subst h4
    subst h3
    subst h5
    have hzz : z' = z := by
      rcases w.ty with hh | ⟨b', cs', hh, hg⟩
      · cases hh
      · injection hh with hh _
        injection hh with hh
        injection hh with hh _
        subst hh
        rw [h8] at hg
        injection hg
    subst hzz
    have hcl := h10.len
    rw [flat_len h9] at hcl
    have hbn : b ≠ h.n := by omega
    have cx : cellsS z' (h.new z' row) (sv b 0 rows.length) = some cs := by
      have hc : (h.new z' row).cells b = cs := by unfold H.cells; rw [if_pos (by simp; omega), new_g' hbn, h8]; rfl
      simp only [cellsS, hc]
      rw [if_pos ⟨by simp; omega, by omega⟩, List.drop_zero, List.take_of_length_le (by omega)]
    have hd2 := List.nodup_cons.1 w.nd
    refine ⟨((h.new z' row).put b .dead).new z' (cs ++ row), (h.n + 1) :: (bss ++ br), ?_, ⟨?_, ?_, ?_, ?_⟩, by simp, ?_, fun c hc hcb => ?_, fun c hc => ?_, cs, new_g ((h.new z' row).put b .dead) z' (cs ++ row)⟩
    · simp only [appS, cx, cy, Option.bind_some, lenS]
      rw [if_pos ⟨by rw [new_n]; omega, hl, hz0⟩, new_g' hbn, h8]
      simp only [if_true]
      rfl
    · have fr1 : ∀ c, c < h.n → c ≠ b → (((h.new z' row).put b .dead).new z' (cs ++ row)).g c = h.g c := fun c hc hcb => by
        rw [new_g' (by simp; omega), put_g' hcb, new_g' (by omega)]
      have := Rep.sl (d := d) (h := ((h.new z' row).put b .dead).new z' (cs ++ row)) (b := h.n + 1) (z := z') (cs := cs ++ row) (rows := rows ++ [fr]) (bss := bss ++ br) (by simp) hz0 (by exact new_g ((h.new z' row).put b .dead) z' (cs ++ row)) (by
          intro r hr
          rcases List.mem_append.1 hr with hr | hr
          · exact h9 r hr
          · rw [List.mem_singleton.1 hr]; exact hz) (by
        rw [List.flatten_append]
        have wr2 : RepL (Rep (((h.new z' row).put b .dead).new z' (cs ++ row)) d) row fr br := wr.frame fun c hc => by
          have := hlr c hc
          exact ⟨by simp; omega, fr1 c this (fun hh => hdis b (by simp) (hh ▸ hc))⟩
        refine RepL.append (h10.frame fun c hc => ?_) (by simpa using wr2)
        have := hlt c (by simp [hc])
        exact ⟨by simp; omega, fr1 c this (fun hh => hd2.1 (hh ▸ hc))⟩)
      simpa using this
    · refine List.nodup_cons.2 ⟨fun hh => ?_, List.nodup_append.2 ⟨hd2.2, hd, fun a ha a' ha' hh => hdis a (by simp [ha]) (hh ▸ ha')⟩⟩
      rcases List.mem_append.1 hh with hh | hh
      · have := hlt (h.n + 1) (by simp [hh]); omega
      · have := hlr _ hh; omega
    · exact .inr ⟨h.n + 1, cs ++ row, by simp, by exact new_g ((h.new z' row).put b .dead) z' (cs ++ row)⟩
    · intro r hr
      rcases List.mem_append.1 hr with hr | hr
      · exact h9 r hr
      · rw [List.mem_singleton.1 hr]; exact hz
    · intro c hc
      rcases List.mem_cons.1 hc with h1 | h1
      · exact .inl h1
      rcases List.mem_append.1 h1 with h1 | h1
      · exact .inr (.inl (by simp [h1]))
      · exact .inr (.inr h1)
    · rw [new_g' (by simp; omega), put_g' (fun hh => hcb (by simp [hh])), new_g' (by omega)]
    · by_cases hcb : c = b
      · subst hcb
        refine .inr ⟨?_, by simp⟩
        rw [new_g' (by simp; omega)]
        exact put_g _ _ _
      · refine .inl ?_
        rw [new_g' (by simp; omega), put_g' hcb, new_g' (by omega)]
end Vm
/-
  Rows of runs, new.
-/
namespace Vm
open Go
/-- a row of a run, new -/
theorem run_row {h : H} {a : Int} {l : List UInt8} {b N : Nat} {k : Nat} (w : BysW h (sv b 0 k) l b) : RepL (Rep h 1) [.int .i64 a, .sl (some (b, 0)) k] (RunD.cs ⟨a, l⟩) [b] := by
  have hk := w.len
  have h1 : Rep h 1 (.sl (some (b, 0)) k) (.fs (bys l)) [b] := Own.rep (d := 0) (ob := some b) w
  exact RepL.cons (bs := []) (Rep.sc trivial) (RepL.cons (bs := [b]) h1 .nil)
theorem runs_snoc (rs : List RunD) (r : RunD) : runs (rs ++ [r]) = runs rs ++ [r.cs] := by simp [runs]
/-- new bytes over a heap -/
theorem new_bys {g : Nat} {xs : List V} {h h1 : H} {v : V} {m : List UInt8} (e1 : call Ev g xs (D h.n) = some (v, h1)) (w1 : NewB h.n h1 v m (some (h.n + 1))) (nn : h1.n = h.n + 2) :
    (∀ (R : Type) (off : Bool) (k : V → H → Option R), pcallF (call Ev) g off xs h k = k (sv (h.n + 1) 0 m.length) (h.over h1)) ∧ BysW (h.over h1) (sv (h.n + 1) 0 m.length) m (h.n + 1) ∧ Up h (h.over h1) ∧ (h.over h1).n = h.n + 2 ∧ HExt h (h.over h1) := by
  have hv := (show BysW h1 v m (h.n + 1) from w1.own).v
  have hle := w1.le
  refine ⟨fun R off k => ?_, ⟨rfl, by rw [over_n hle]; omega, ?_⟩, up_over hle, by rw [over_n hle, nn], ⟨by rw [over_n hle]; omega, fun b hb => .inr (over_lt hb)⟩⟩
  · rw [pF (h := h) (h1 := h1) (v := v) e1 ⟨by rw [hv]; rfl, w1.z⟩, hv]
  · rw [over_ge (by omega)]; exact (show BysW h1 v m (h.n + 1) from w1.own).g
theorem cellsR {R : Type} {a : Int} {y : S} (hy : isNo y = false) {k : Int → S → Option R} :
    (cellsK (.s y) fun c217 =>
      if c217.length = 1 ∧ 1 + 1 ≤ ([.int .i64 a, .sl none 0] : List S).length then
      ((setAt ([.int .i64 a, .sl none 0] : List S) 1 c217)[0]?).bind fun x218 =>
      gI .i64 x218 fun i219 =>
      ((setAt ([.int .i64 a, .sl none 0] : List S) 1 c217)[1]?).bind fun x220 =>
      if (setAt ([.int .i64 a, .sl none 0] : List S) 1 c217).length = 2 then k i219 x220 else none else none) = k a y := by
  simp only [cellsK, hy, cond_false, ln0, ln1, Nat.zero_add, Nat.reduceAdd, Nat.le_refl, and_self, if_true]
  rw [show setAt [.int .i64 a, .sl none 0] 1 [y] = [.int .i64 a, y] from rfl]
  simp only [gx0, gx1, ob, gI_i, ln0, ln1, Nat.zero_add, Nat.reduceAdd, if_true]
end Vm
/-
  The runs that take others back.
-/
namespace Vm
open Go
/-- the run that takes one back -/
def inv1 (l : List UInt8) (r : RunD) : RunD := ⟨r.at_, (l.take (r.at_.toNat + r.l.length)).drop r.at_.toNat⟩
def invs (l : List UInt8) (rs : List RunD) : List RunD := if apC l rs = 0 then rs.map (inv1 l) else []
theorem inv1_len {l : List UInt8} {r : RunD} (h : inR r) (hl : l.length = 64) : (inv1 l r).l.length = r.l.length := by
  unfold inR at h
  simp only [inv1, List.length_drop, List.length_take]; omega
theorem apC_ok {l : List UInt8} {rs : List RunD} (hc : apC l rs = 0) : l.length = 64 ∧ rs.length ≤ 64 ∧ ∀ r ∈ rs, inR r := by
  unfold apC at hc
  by_cases h1 : l.length = 64
  · rw [if_neg (by simp [h1])] at hc
    exact ⟨h1, runsF_ok hc⟩
  · rw [if_pos h1] at hc; omega
section
variable {l : List UInt8} {all : List RunD} (h64 : l.length = 64) (hl : all.length ≤ 64) (hr : ∀ r ∈ all, inR r)
include h64 hl hr
theorem lp_impl_Inv : ∀ (rs : List RunD) (i : Nat) (h : H) (y : S) (bs : List Nat) (p : V) (n0 : Nat), all.drop i = rs → OutS 2 1 y (runs ((all.take i).map (inv1 l))) bs h → (∀ c ∈ bs, n0 ≤ c) → n0 ≤ h.n →
    ∃ h' y' bs', Lp.impl_InverseRuns 0 [lv (bys l), p, .s y, lv (runs all), iv .i64 all.length, iv .i64 i] h = some (.done [p, .s y'] h') ∧ OutS 2 1 y' (runs (all.map (inv1 l))) bs' h' ∧ (∀ c ∈ bs', n0 ≤ c) ∧ h.n ≤ h'.n ∧ ∀ c, c < n0 → h'.g c = h.g c := by
  intro rs
  induction rs with
  | nil =>
    intro i h y bs p n0 hi w hb hn
    have := drop_nil hi
    rw [eq_impl_InverseRuns_l0, vcase_b, if_neg (by simp; omega), tidy_self]
    rw [List.take_of_length_le this] at w
    exact ⟨h, y, bs, rfl, w, hb, Nat.le_refl _, fun _ _ => rfl⟩
  | cons r rs ih =>
    intro i h y bs p n0 hi w hb hn
    obtain ⟨g1, g2, g3⟩ := drop_cons hi
    have hrr := hr r (List.mem_of_getElem? g1)
    have hrr' := hrr
    unfold inR at hrr'
    rw [eq_impl_InverseRuns_l0, vcase_b, if_pos (by simp; omega), idxF_run g1, rowN_run]
    simp only [gx0, gx1, ob, gI_i, gF_f]
    rw [if_pos (show ([_, _] : List S).length = 2 from rfl), st2_new]
    have u1 : Up h ((h.new 0 [.int .i64 0, .sl none 0]).put h.n (.rw 0 [.int .i64 r.at_, .fs (bys r.l)])) := up_st
    have gn : ((h.new 0 [.int .i64 0, .sl none 0]).put h.n (.rw 0 [.int .i64 r.at_, .fs (bys r.l)])).n = h.n + 1 := n_st
    have gg : ((h.new 0 [.int .i64 0, .sl none 0]).put h.n (.rw 0 [.int .i64 r.at_, .fs (bys r.l)])).g h.n = .rw 0 [.int .i64 r.at_, .fs (bys r.l)] := g_st
    generalize (h.new 0 [.int .i64 0, .sl none 0]).put h.n (.rw 0 [.int .i64 r.at_, .fs (bys r.l)]) = G at u1 gn gg ⊢
    have ld : ∀ {o : Nat}, load1 G (pv h.n o) = ([.int .i64 r.at_, .fs (bys r.l)] : List S)[o]? := fun {o} => by simp [load1, H.cells, gn, gg, Blk.cells]
    simp only [ld, gx0, gx1, ob, gI_i, lenV, gV1_s, bys_len]
    obtain ⟨a, ha⟩ : ∃ a : Nat, r.at_ = a := ⟨r.at_.toNat, by omega⟩
    rw [ha, w64 (by omega) (by omega), show (a : Int) + (r.l.length : Int) = ((a + r.l.length : Nat) : Int) from by omega, slF_lh (by omega) (by omega)]
    have hcut : (l.take (a + r.l.length)).drop a = (inv1 l r).l := by simp [inv1, ha]
    rw [hcut]
    obtain ⟨v, h1, e1, w1, nn⟩ := f_copied (m := (inv1 l r).l) (by rw [inv1_len hrr h64]; unfold lim; omega) G.n
    obtain ⟨e2, w2, u2, n2, x2⟩ := new_bys e1 w1 nn
    rw [e2]
    generalize G.over h1 = K at w2 u2 n2 x2 ⊢
    rw [hchk_of x2]
    simp only [sca_v, scaS, cond_true]
    rw [cellsR rfl]
    rw [hchk_of (HExt.new x2)]
    have wk : OutS 2 1 y (runs ((all.take i).map (inv1 l))) bs K := w.frame fun c hc => by
      have := w.rep.lt c hc
      exact ⟨by omega, (u2.g c (by omega)).trans (u1.g c this)⟩
    have wr := run_row (a := (a : Int)) (N := 0) w2
    obtain ⟨h2, bs2, e3, w3, n3, f3, o3, q3, _⟩ := app_row wk wr rfl (by omega) (by simp) (fun c hc hh => by have := w.rep.lt c hc; have := List.mem_singleton.1 hh; omega) (by simp; unfold lim; omega)
    rw [e3, ob]
    dsimp only
    rw [w64 (n := (i : Int) + 1) (by omega) (by omega), show (i : Int) + 1 = ((i + 1 : Nat) : Int) from by omega]
    rw [no_tidy_v (by simp [belV, belS]; omega)]
    have hrow : runs ((all.take (i + 1)).map (inv1 l)) = runs ((all.take i).map (inv1 l)) ++ [RunD.cs ⟨(a : Int), (inv1 l r).l⟩] := by
      rw [List.take_add_one, g1, Option.toList_some, List.map_append, List.map_singleton, runs_snoc]
      congr 2
      rw [show inv1 l r = ⟨r.at_, (inv1 l r).l⟩ from rfl, ha]
    rw [← hrow] at w3
    have hb3 : ∀ c ∈ bs2, n0 ≤ c := fun c hc => by
      rcases f3 c hc with h1 | h1 | h1
      · omega
      · exact hb c h1
      · have := List.mem_singleton.1 h1; omega
    obtain ⟨h', y', bs', e4, w4, b4, n4, o4⟩ := ih (i + 1) h2 _ bs2 p n0 g2 w3 hb3 (by omega)
    refine ⟨h', y', bs', e4, w4, b4, by omega, fun c hc => ?_⟩
    rw [o4 c hc, o3 c (by omega) (fun hh => by have := hb c hh; omega), u2.g c (by omega), u1.g c (by omega)]
theorem f_Inv (n : Nat) : ∃ y h', (Lp.impl_InverseRuns 0 [lv (bys l), pv n 0, .s (.sl none 0), lv (runs all), iv .i64 all.length, iv .i64 0] ((D n).new 0 [.int .i64 0, .sl none 0])) = some (.done [pv n 0, .s y] h') ∧ OwnF 2 y (.fs (runs (all.map (inv1 l)))) (n + 1) h'.n h' ∧ n < h'.n ∧ h'.g n = .rw 0 [.int .i64 0, .sl none 0] := by
  obtain ⟨h', y', bs', e4, w4, b4, n4, o4⟩ := lp_impl_Inv h64 hl hr all 0 ((D n).new 0 [.int .i64 0, .sl none 0]) (.sl none 0) [] (pv n 0) (n + 1) (by simp) (by simpa [runs] using OutS.none) (by simp) (by simp)
  refine ⟨y', h', e4, ⟨bs', w4.rep, w4.nd, fun b hb => ⟨b4 b hb, w4.rep.lt b hb⟩⟩, by simp at n4; omega, ?_⟩
  rw [o4 n (by omega)]
  exact new_g (D n) _ _
theorem lp_spec_Inv : ∀ (rs : List RunD) (i : Nat) (h : H) (y : S) (bs : List Nat), all.drop i = rs → OutS 2 1 y (runs ((all.take i).map (inv1 l))) bs h → (∀ c ∈ bs, 2 ≤ c) → 2 ≤ h.n → h.g 1 = .rw 0 [.int .i64 0, y] →
    ∃ h' y' bs', Lp.spec_InverseRuns 0 [lv (bys l), lv (runs all), pv 0 0, pv 1 0, iv .i64 i] h = some (.done [pv 0 0, pv 1 0] h') ∧ OutS 2 1 y' (runs (all.map (inv1 l))) bs' h' ∧ (∀ c ∈ bs', 2 ≤ c) ∧ 2 ≤ h'.n ∧ h'.g 1 = .rw 0 [.int .i64 0, y'] ∧ h'.g 0 = h.g 0 := by
  intro rs
  induction rs with
  | nil =>
    intro i h y bs hi w hb hn hg
    have := drop_nil hi
    rw [eq_spec_InverseRuns_l0, vcase_b, if_neg (by simp; omega), tidy_self]
    rw [List.take_of_length_le this] at w
    exact ⟨h, y, bs, rfl, w, hb, hn, hg, rfl⟩
  | cons r rs ih =>
    intro i h y bs hi w hb hn hg
    obtain ⟨g1, g2, g3⟩ := drop_cons hi
    have hrr := hr r (List.mem_of_getElem? g1)
    have hrr' := hrr
    unfold inR at hrr'
    have e2 : ∀ {R : Type} {k : List S → Option R}, idxF 2 (runs all) (i : Int) k = k r.cs := idxF_run g1
    rw [eq_spec_InverseRuns_l0, vcase_b, if_pos (by simp; omega), e2]
    have ld : load1 h (pv 1 1) = some y := by simp [load1, H.cells, show 1 < h.n by omega, hg, Blk.cells]
    simp only [gx0, gx1, ob, gI_i, padd, Nat.zero_add, ldK, ldT, cond_false, ld]
    rw [e2]
    simp only [gx0, gx1, ob, gI_i, gF_f]
    rw [e2]
    simp only [gx0, gx1, ob, gI_i, gF_f, bys_len]
    obtain ⟨a, ha⟩ : ∃ a : Nat, r.at_ = a := ⟨r.at_.toNat, by omega⟩
    rw [ha, w64 (by omega) (by omega), show (a : Int) + (r.l.length : Int) = ((a + r.l.length : Nat) : Int) from by omega, slF_lh (by omega) (by omega)]
    have hcut : (l.take (a + r.l.length)).drop a = (inv1 l r).l := by simp [inv1, ha]
    rw [hcut]
    obtain ⟨v, h1, e1, w1, nn⟩ := f_l2Copy (m := (inv1 l r).l) (by rw [inv1_len hrr h64]; unfold lim; omega) h.n
    obtain ⟨e3, w2, u2, n2, x2⟩ := new_bys e1 w1 nn
    rw [e3]
    generalize h.over h1 = K at w2 u2 n2 x2 ⊢
    rw [hchk_of x2]
    simp only [sca_v, scaS, cond_true]
    rw [cellsR rfl]
    rw [hchk_of (HExt.new x2)]
    have wk : OutS 2 1 y (runs ((all.take i).map (inv1 l))) bs K := w.frame fun c hc => by
      have := w.rep.lt c hc
      exact ⟨by omega, u2.g c (by omega)⟩
    have wr := run_row (a := (a : Int)) (N := 0) w2
    obtain ⟨h2, bs2, e4, w3, n3, f3, o3, q3, _⟩ := app_row wk wr rfl (by omega) (by simp) (fun c hc hh => by have := w.rep.lt c hc; have := List.mem_singleton.1 hh; omega) (by simp; unfold lim; omega)
    rw [e4, ob]
    dsimp only
    have k1 : h2.g 1 = .rw 0 [.int .i64 0, y] := by rw [o3 1 (by omega) (fun hh => by have := hb 1 hh; omega), u2.g 1 (by omega)]; exact hg
    rw [stK_rw (z := 1) (e := 0) (o := 1) (b := 1) (cs := [.int .i64 0, y]) (r := [.sl (some (K.n + 1, 0)) ((runs ((all.take i).map (inv1 l))).length + 1)]) (by omega) k1 (.inl ⟨_, rfl, rfl, rfl⟩) rfl (by simp)]
    rw [show setAt [.int .i64 0, y] 1 [S.sl (some (K.n + 1, 0)) ((runs ((all.take i).map (inv1 l))).length + 1)] = [.int .i64 0, .sl (some (K.n + 1, 0)) ((runs ((all.take i).map (inv1 l))).length + 1)] from rfl]
    rw [w64 (n := (i : Int) + 1) (by omega) (by omega), show (i : Int) + 1 = ((i + 1 : Nat) : Int) from by omega]
    rw [no_tidy (b := 1) (by omega) (put_g _ _ _) (by simp [belS]; omega) (by
      rw [hg]
      simp only [Blk.cells, List.all_cons, List.all_nil, Bool.and_true]
      rw [w.rep.top w.rep.lt]; rfl)]
    have hrow : runs ((all.take (i + 1)).map (inv1 l)) = runs ((all.take i).map (inv1 l)) ++ [RunD.cs ⟨(a : Int), (inv1 l r).l⟩] := by
      rw [List.take_add_one, g1, Option.toList_some, List.map_append, List.map_singleton, runs_snoc]
      congr 2
      rw [show inv1 l r = ⟨r.at_, (inv1 l r).l⟩ from rfl, ha]
    rw [← hrow] at w3
    have hb3 : ∀ c ∈ bs2, 2 ≤ c := fun c hc => by
      rcases f3 c hc with h1 | h1 | h1
      · omega
      · exact hb c h1
      · have := List.mem_singleton.1 h1; omega
    generalize (runs ((all.take i).map (inv1 l))).length + 1 = N at w3 ⊢
    have w3' : OutS 2 1 (.sl (some (K.n + 1, 0)) N) (runs ((all.take (i + 1)).map (inv1 l))) bs2 (h2.put 1 (.rw 0 [.int .i64 0, .sl (some (K.n + 1, 0)) N])) := w3.frame fun c hc => by
      have := w3.rep.lt c hc
      have := hb3 c hc
      exact ⟨by rw [put_n]; omega, put_g' (by omega)⟩
    obtain ⟨h', y', bs', e5, w5, b5, n5, o5, o6⟩ := ih (i + 1) _ _ bs2 g2 w3' hb3 (by rw [put_n]; omega) (put_g _ _ _)
    refine ⟨h', y', bs', e5, w5, b5, n5, o5, ?_⟩
    rw [o6, put_g' (by omega), o3 0 (by omega) (fun hh => by have := hb 0 hh; omega), u2.g 0 (by omega)]
end
theorem p_spec_InverseRuns {l : List UInt8} {rs : List RunD} (hl : rs.length ≤ maxLen) : pureV (call Ev) Fn.spec_InverseRuns [lv (bys l), lv (runs rs)] = some (.agg [.int .i64 (apC l rs), .fs (runs (invs l rs))]) := by
  rw [pu_spec_InverseRuns, pc (p_l3Asked hl) rfl]
  simp only [gV1_s, gI_i, vcase_b]
  unfold invs
  by_cases hc : apC l rs = 0
  · rw [if_neg (by simp [hc]), if_pos hc]
    obtain ⟨h1, h2, h3⟩ := apC_ok hc
    generalize hG : (((D 0).new 0 [.int .i64 0, .sl none 0]).new 0 [.int .i64 0, .sl none 0]).put 1 (.rw 0 [.int .i64 0, .sl none 0]) = G
    have gn : G.n = 2 := by rw [← hG]; simp
    have g1 : G.g 1 = .rw 0 [.int .i64 0, .sl none 0] := by rw [← hG]; exact put_g _ _ _
    have g0 : G.g 0 = .rw 0 [.int .i64 0, .sl none 0] := by rw [← hG, put_g' (by omega), new_g' (by simp)]; exact new_g (D 0) _ _
    obtain ⟨h', y', bs', e5, w5, b5, n5, o5, o6⟩ := lp_spec_Inv h1 h2 h3 rs 0 G (.sl none 0) [] (by simp) (by simpa [runs] using OutS.none) (by simp) (by omega) g1
    rw [show iv .i64 0 = iv .i64 ((0 : Nat) : Int) from rfl, e5, ob, lcase_done]
    simp only [gx0, gx1, ob, ldK, ldT, cond_true]
    rw [loadN_2 (b := 1) (e := 0) (by omega) o5]
    simp only [gVA_a, gx0, gx1, ob, gI_i, ln0, ln1, Nat.zero_add, Nat.reduceAdd, if_true]
    rw [stK_rw (z := 2) (e := 0) (o := 0) (b := 0) (cs := [.int .i64 0, .sl none 0]) (r := [.int .i64 0, y']) (by omega) (by rw [o6]; exact g0) (.inr rfl) rfl (by simp)]
    rw [show setAt [.int .i64 0, .sl none 0] 0 [.int .i64 0, y'] = [.int .i64 0, y'] from rfl]
    rw [loadN_2 (b := 0) (e := 0) (by rw [put_n]; omega) (put_g _ _ _), ob]
    have w6 : Rep (h'.put 0 (.rw 0 [.int .i64 0, y'])) 2 y' (.fs (runs (rs.map (inv1 l)))) bs' := w5.rep.frame fun c hc => by
      have := b5 c hc
      exact ⟨by rw [put_n]; exact w5.rep.lt c hc, put_g' (by omega)⟩
    have := w6.frz (k := 8) (by omega)
    simp [this, hc]
  · rw [if_pos (by simpa using hc), if_neg hc]; rfl
theorem f_InverseRuns {l : List UInt8} {rs : List RunD} (hl : rs.length ≤ maxLen) (n : Nat) : ∃ y h', call Ev Fn.impl_InverseRuns [lv (bys l), lv (runs rs)] (D n) = some (.agg [.int .i64 (apC l rs), y], h') ∧ NewC 4 [.int .i64 (apC l rs), y] [.int .i64 (apC l rs), .fs (runs (invs l rs))] n h' := by
  rw [eq_impl_InverseRuns, vcase_b, bys_len]
  unfold invs
  by_cases h64 : l.length = 64
  case neg =>
    obtain ⟨h', e1, w1⟩ := bad2C n 1
    rw [if_pos (by simp; omega), e1]
    unfold apC
    rw [if_pos h64]
    exact ⟨_, h', rfl, w1⟩
  rw [if_neg (by simp; omega), pc (p_RunsFault hl) rfl]
  have hap : apC l rs = runsF rs := by unfold apC; rw [if_neg (by simp [h64])]
  rw [hap]
  simp only [gV1_s, gI_i, vcase_b]
  by_cases hf : runsF rs = 0
  case neg =>
    obtain ⟨h', e1, w1⟩ := bad2C n (runsF rs)
    rw [if_pos (by simpa using hf), e1, if_neg hf]
    exact ⟨_, h', rfl, w1⟩
  obtain ⟨y, h1, e1, w1, n1, g1⟩ := f_Inv h64 (runsF_ok hf).1 (runsF_ok hf).2 n
  have hy : isNo y = false := by obtain ⟨bs, w, _⟩ := w1; exact w.isNo
  rw [if_neg (by simp [hf]), runs_len, D_n, e1, ob, lcase_done]
  simp only [gx0, gx1, ob]
  rw [cells2 hy]
  simp only [ldT, cond_true]
  obtain ⟨h', e2, w2⟩ := fin2S n1 g1 w1 (c := 0)
  rw [e2, if_pos hf, hf]
  obtain ⟨bs, w3, w4, w5⟩ := w2.q
  exact ⟨y, h', rfl, w2.le, bs, w3.lifts (by omega), w4, w5⟩
theorem rsz_le : ∀ (rs : List RunD), (∀ r ∈ rs, r.l.length ≤ 64) → rsz rs ≤ rs.length * 65
  | [], _ => Nat.le_refl _
  | r :: rs, h => by
    have := rsz_le rs fun x hx => h x (by simp [hx])
    have := h r (by simp)
    rw [rsz_cons, List.length_cons, Nat.succ_mul]; omega
theorem invs_bd {l : List UInt8} {rs : List RunD} : (invs l rs).length ≤ 64 ∧ (∀ r ∈ invs l rs, r.l.length ≤ maxLen) ∧ rsz (invs l rs) ≤ 4160 := by
  have key : (invs l rs).length ≤ 64 ∧ ∀ r ∈ invs l rs, r.l.length ≤ 64 := by
    unfold invs
    split
    · rename_i hc
      obtain ⟨h1, h2, h3⟩ := apC_ok hc
      refine ⟨by simpa using h2, fun r hr => ?_⟩
      obtain ⟨x, hx, rfl⟩ := List.mem_map.1 hr
      have := h3 x hx
      rw [inv1_len this h1]
      unfold inR at this; omega
    · simp
  refine ⟨key.1, fun r hr => by have := key.2 r hr; unfold maxLen; omega, ?_⟩
  have := rsz_le _ key.2
  have := Nat.mul_le_mul_right 65 key.1
  omega
end Vm
/-
  The runs in which two pages differ.
-/
namespace Vm
open Go
section
variable (a b : List UInt8)
/-- the end of a run -/
def endd : Nat → Nat → Nat
  | 0, i => i
  | q + 1, i => if bt a i = bt b i then i else endd q (i + 1)
def cutB (i k : Nat) : List UInt8 := (b.take k).drop i
def dif : Nat → Nat → List RunD
  | 0, _ => []
  | q + 1, i => if 64 ≤ i then [] else if bt a i = bt b i then dif q (i + 1) else ⟨i, cutB b i (endd a b (64 - i) i)⟩ :: dif q (endd a b (64 - i) i + 1)
def difs : List RunD := dif a b 64 0
/-- .. as the model finds them -/
def spc : Nat → Nat → Bool → List RunD → List RunD
  | 0, _, _, acc => acc
  | q + 1, i, o, acc => if bt a i = bt b i then spc q (i + 1) false acc else
      spc q (i + 1) true (if o then acc.dropLast ++ (acc.getLast?.toList.map fun r => ⟨r.at_, r.l ++ [UInt8.ofNat (bt b i).toNat]⟩) else acc ++ [⟨i, [UInt8.ofNat (bt b i).toNat]⟩])
theorem endd_le : ∀ (q i : Nat), i ≤ endd a b q i ∧ endd a b q i ≤ i + q
  | 0, i => ⟨Nat.le_refl _, Nat.le_refl _⟩
  | q + 1, i => by
    have := endd_le q (i + 1)
    simp only [endd]
    split <;> omega
theorem endd_lt {q i : Nat} (h : ¬ bt a i = bt b i) : i < endd a b (q + 1) i := by
  simp only [endd, if_neg h]
  have := (endd_le a b q (i + 1)).1
  omega
theorem dif_fuel : ∀ (q q' i : Nat), 64 - i ≤ q → 64 - i ≤ q' → dif a b q i = dif a b q' i
  | 0, q', i, h1, h2 => by
    cases q' with
    | zero => rfl
    | succ q' => simp only [dif]; rw [if_pos (by omega)]
  | q + 1, 0, i, h1, h2 => by simp only [dif]; rw [if_pos (by omega)]
  | q + 1, q' + 1, i, h1, h2 => by
    simp only [dif]
    by_cases h : 64 ≤ i
    · rw [if_pos h, if_pos h]
    · rw [if_neg h, if_neg h, dif_fuel q q' (i + 1) (by omega) (by omega)]
      by_cases he : bt a i = bt b i
      · rw [if_pos he, if_pos he]
      · rw [if_neg he, if_neg he]
        have := endd_lt a b (q := 63 - i) he
        rw [show 63 - i + 1 = 64 - i from by omega] at this
        rw [dif_fuel q q' _ (by omega) (by omega)]
variable {a b}
theorem cutB_snoc {s i : Nat} (hb : i < b.length) (hs : s ≤ i) : cutB b s i ++ [UInt8.ofNat (bt b i).toNat] = cutB b s (i + 1) := by
  unfold cutB
  rw [List.take_add_one, List.getElem?_eq_getElem hb, Option.toList_some, List.drop_append_of_le_length (by rw [List.length_take]; omega)]
  congr 2
  simp only [bt, Int.toNat_natCast, List.getD, List.getElem?_eq_getElem hb, Option.getD_some]
  simp
theorem cutB_one {i : Nat} (hb : i < b.length) : cutB b i (i + 1) = [UInt8.ofNat (bt b i).toNat] := by
  rw [← cutB_snoc hb (Nat.le_refl i)]
  simp [cutB]
theorem spc_dif (hb : b.length = 64) : ∀ (q i : Nat), i + q = 64 → (∀ acc, spc a b q i false acc = acc ++ dif a b q i) ∧
    ∀ acc s, s < i → spc a b q i true (acc ++ [⟨s, cutB b s i⟩]) = acc ++ ⟨(s : Int), cutB b s (endd a b q i)⟩ :: dif a b q (endd a b q i + 1)
  | 0, i, hi => ⟨fun acc => by simp [spc, dif], fun acc s hs => by simp [spc, dif, endd]⟩
  | q + 1, i, hi => by
    obtain ⟨h1, h2⟩ := spc_dif hb q (i + 1) (by omega)
    have fu : ∀ k, i ≤ k → dif a b q (k + 1) = dif a b (q + 1) (k + 1) := fun k hk => dif_fuel a b _ _ _ (by omega) (by omega)
    refine ⟨fun acc => ?_, fun acc s hs => ?_⟩
    · simp only [spc, dif]
      rw [if_neg (show ¬ 64 ≤ i by omega)]
      by_cases he : bt a i = bt b i
      · rw [if_pos he, if_pos he, h1]
      · rw [if_neg he, if_neg he, if_neg (by simp), ← cutB_one (by omega), h2 acc i (by omega)]
        have e : endd a b (64 - i) i = endd a b q (i + 1) := by
          rw [show 64 - i = q + 1 from by omega]; simp only [endd, if_neg he]
        rw [e]
    · simp only [spc, endd]
      by_cases he : bt a i = bt b i
      · rw [if_pos he, if_pos he, h1, fu i (Nat.le_refl _)]; simp
      · rw [if_neg he, if_neg he, if_pos trivial]
        have e : ((acc ++ [(⟨(s : Int), cutB b s i⟩ : RunD)]).dropLast ++ ((acc ++ [(⟨(s : Int), cutB b s i⟩ : RunD)]).getLast?.toList.map fun r => (⟨r.at_, r.l ++ [UInt8.ofNat (bt b i).toNat]⟩ : RunD))) = acc ++ [⟨(s : Int), cutB b s (i + 1)⟩] := by
          simp [cutB_snoc (show i < b.length by omega) (show s ≤ i by omega)]
        rw [e, h2 acc s (by omega), fu _ (by have := (endd_le a b q (i + 1)).1; omega)]
end
section
variable {a b : List UInt8} (ha : a.length = 64) (hb : b.length = 64)
include ha hb
theorem lp_end {s5 : V} {s : Nat} {h : H} : ∀ (q i : Nat), i + q = 64 → Lp.impl_diff 2 [lv (bys a), lv (bys b), s5, iv .i64 s, iv .i64 i] h = some (.done [lv (bys a), lv (bys b), s5, iv .i64 s, iv .i64 (endd a b q i)] h) := by
  intro q
  induction q with
  | zero =>
    intro i hi
    rw [eq_impl_diff_l2, vcase_b, if_neg (by simp; omega), tidy_self]; rfl
  | succ q ih =>
    intro i hi
    rw [eq_impl_diff_l2, vcase_b, if_pos (by simp; omega), idxF_by (by omega) (by omega)]
    simp only [gx0, ob, gI_i]
    rw [idxF_by (by omega) (by omega)]
    simp only [gx0, ob, gI_i, vcase_b, endd]
    by_cases he : bt a i = bt b i
    · rw [if_neg (by simpa using he), if_pos he, tidy_self]
    · rw [if_pos (by simpa using he), if_neg he, w64 (by omega) (by omega), tidy_self, show (i : Int) + 1 = ((i + 1 : Nat) : Int) from by omega]
      exact ih (i + 1) (by omega)
theorem lp_diff : ∀ (q i : Nat) (h : H) (y : S) (bs : List Nat) (acc : List RunD) (n0 : Nat), 64 - i ≤ q → i ≤ 65 → OutS 2 1 y (runs acc) bs h → (∀ c ∈ bs, n0 ≤ c) → n0 ≤ h.n → acc.length ≤ i →
    ∃ h' y' bs', Lp.impl_diff 0 [lv (bys a), lv (bys b), .s y, iv .i64 i] h = some (.done [.s y'] h') ∧ OutS 2 1 y' (runs (acc ++ dif a b q i)) bs' h' ∧ (∀ c ∈ bs', n0 ≤ c) ∧ n0 ≤ h'.n := by
  intro q
  induction q with
  | zero =>
    intro i h y bs acc n0 hq hi w hbb hn hal
    rw [eq_impl_diff_l0, vcase_b, if_neg (by simp; omega), tidy_self]
    exact ⟨h, y, bs, rfl, by simpa [dif] using w, hbb, hn⟩
  | succ q ih =>
    intro i h y bs acc n0 hq hi w hbb hn hal
    rw [eq_impl_diff_l0, vcase_b]
    by_cases h64 : 64 ≤ i
    · rw [if_neg (by simp; omega), tidy_self]
      refine ⟨h, y, bs, rfl, ?_, hbb, hn⟩
      simp only [dif]
      rw [if_pos h64]; simpa using w
    rw [if_pos (by simp; omega), idxF_by (by omega) (by omega)]
    simp only [gx0, ob, gI_i]
    rw [idxF_by (by omega) (by omega)]
    simp only [gx0, ob, gI_i, vcase_b]
    by_cases he : bt a i = bt b i
    · rw [if_pos (by simpa using he), w64 (by omega) (by omega), tidy_self, show (i : Int) + 1 = ((i + 1 : Nat) : Int) from by omega]
      obtain ⟨h', y', bs', e1, w1, b1, n1⟩ := ih (i + 1) h y bs acc n0 (by omega) (by omega) w hbb hn (by omega)
      refine ⟨h', y', bs', e1, ?_, b1, n1⟩
      simp only [dif]
      rw [if_neg h64, if_pos he]; exact w1
    rw [if_neg (by simpa using he), lp_end ha hb (64 - i) i (by omega)]
    have hk := endd_le a b (64 - i) i
    have hk2 := endd_lt a b (q := 63 - i) he
    rw [show 63 - i + 1 = 64 - i from by omega] at hk2
    generalize hkk : endd a b (64 - i) i = k at hk hk2 ⊢
    simp only [ob, lcase_done, gx0, gx1, gV1_s, gF_f, gI_i]
    rw [slF_lh (by omega) (by omega)]
    obtain ⟨v, h1, e1, w1, nn⟩ := f_copied (m := cutB b i k) (by unfold cutB; rw [List.length_drop, List.length_take]; unfold lim; omega) h.n
    obtain ⟨e2, w2, u2, n2, x2⟩ := new_bys e1 w1 nn
    rw [show (b.take k).drop i = cutB b i k from rfl, e2]
    generalize h.over h1 = K at w2 u2 n2 x2 ⊢
    rw [cellsR rfl]
    have wk : OutS 2 1 y (runs acc) bs K := w.frame fun c hc => by
      have := w.rep.lt c hc
      exact ⟨by omega, u2.g c (by omega)⟩
    have wr := run_row (a := (i : Int)) (N := 0) w2
    obtain ⟨h2, bs2, e4, w3, n3, f3, o3, q3, _⟩ := app_row wk wr rfl (by omega) (by simp) (fun c hc hh => by have := w.rep.lt c hc; have := List.mem_singleton.1 hh; omega) (by simp; unfold lim; omega)
    rw [e4, ob]
    dsimp only
    rw [w64 (n := (k : Int) + 1) (by omega) (by omega), show (k : Int) + 1 = ((k + 1 : Nat) : Int) from by omega, no_tidy_v (by simp [belV, belS]; omega)]
    rw [← runs_snoc] at w3
    obtain ⟨h', y', bs', e5, w5, b5, n5⟩ := ih (k + 1) h2 _ bs2 _ n0 (by omega) (by omega) w3 (fun c hc => by
      rcases f3 c hc with h1 | h1 | h1
      · omega
      · exact hbb c h1
      · have := List.mem_singleton.1 h1; omega) (by omega) (by rw [List.length_append, List.length_singleton]; omega)
    refine ⟨h', y', bs', e5, ?_, b5, n5⟩
    simp only [dif]
    rw [if_neg h64, if_neg he, hkk]
    simpa using w5
theorem f_diff (n : Nat) : ∃ y h', call Ev Fn.impl_diff [lv (bys a), lv (bys b)] (D n) = some (.s y, h') ∧ n ≤ h'.n ∧ OwnF 2 y (.fs (runs (difs a b))) n h'.n h' := by
  obtain ⟨h', y', bs', e1, w1, b1, n1⟩ := lp_diff ha hb 64 0 (D n) (.sl none 0) [] [] n (by omega) (by omega) (by simpa [runs] using OutS.none) (by simp) (by simp) (by simp)
  rw [eq_impl_diff, show iv .i64 0 = iv .i64 ((0 : Nat) : Int) from rfl, e1, ob, lcase_done]
  simp only [gx0, ob]
  exact ⟨y', h', rfl, n1, bs', w1.rep, w1.nd, fun c hc => ⟨b1 c hc, w1.rep.lt c hc⟩⟩
end
end Vm
/-
  The runs in which two pages differ, as the model finds them.
-/
namespace Vm
open Go
/-- the last row of a slice of runs -/
theorem last_run {y : S} {acc : List RunD} {r : RunD} {bs : List Nat} {h : H} (w : OutS 2 1 y (runs (acc ++ [r])) bs h) :
    ∃ bb cs yl b0 bl, y = .sl (some (bb, 0)) (acc.length + 1) ∧ h.g bb = .rw 2 (cs ++ [.int .i64 r.at_, yl]) ∧ cs.length = acc.length * 2 ∧ bs = bb :: (b0 ++ bl) ∧ bb < h.n ∧ RepL (Rep h 1) cs (runs acc).flatten b0 ∧ Rep h 1 yl (.fs (bys r.l)) bl := by
  rcases w.rep with ⟨⟨h3, h4⟩ | ⟨h3, h4⟩, h5⟩ | ⟨b, z', cs, rows', bss, h3, h4, h5, h6, h7, h8, h9, h10⟩
  · rw [← h4] at h3; exact h3.elim
  · injection h4 with h4
    rw [runs_snoc] at h4
    simp at h4
  · injection h4 with h4
    subst h4
    have hzz : z' = 2 := by
      have := h9 r.cs (by rw [runs_snoc]; simp)
      exact this.symm
    subst hzz
    rw [runs_snoc, List.flatten_append] at h10
    obtain ⟨c1, c2, b0, bl, rfl, rfl, w1, w2⟩ := h10.split
    have w2' : RepL (Rep h 1) c2 ([.int .i64 r.at_] ++ [.fs (bys r.l)]) bl := by simpa using w2
    obtain ⟨y1, y2, b1, b2, rfl, rfl, w3, w4⟩ := w2'.split
    obtain ⟨rfl, rfl⟩ := w3.of_sc sc1
    cases w4 with
    | @cons yl f bl' ys fs bss2 h11 h12 =>
      cases h12
      refine ⟨b, c1, yl, b0, bl', by rw [h3]; simp, h8, ?_, by rw [h5]; simp, h6, w1, h11⟩
      have := w1.len
      rw [flat_len runs_row, runs_len] at this
      exact this
theorem last_put {bb : Nat} {acc : List RunD} {a : Int} {l : List UInt8} {cs : List S} {yl : S} {b0 bl : List Nat} {h : H} (hb : bb < h.n) (hg : h.g bb = .rw 2 (cs ++ [.int .i64 a, yl])) (w1 : RepL (Rep h 1) cs (runs acc).flatten b0) (w2 : Rep h 1 yl (.fs (bys l)) bl) (hd : (bb :: (b0 ++ bl)).Nodup) :
    OutS 2 1 (.sl (some (bb, 0)) (acc.length + 1)) (runs (acc ++ [⟨a, l⟩])) (bb :: (b0 ++ bl)) h := by
  have wr : RepL (Rep h 1) [.int .i64 a, yl] (RunD.cs ⟨a, l⟩) bl := by
    have := RepL.cons (bs := []) (Rep.sc (h := h) (d := 1) (s := .int .i64 a) trivial) (RepL.cons w2 .nil)
    simpa using this
  refine ⟨?_, hd, .inr ⟨bb, _, by simp, hg⟩, runs_row⟩
  have := Rep.sl (d := 1) (h := h) (b := bb) (z := 2) (rows := runs (acc ++ [⟨a, l⟩])) (bss := b0 ++ bl) hb (by omega) hg runs_row (by rw [runs_snoc, List.flatten_append]; exact w1.append (by simpa using wr))
  simpa using this
theorem bys_snoc (l : List UInt8) (c : UInt8) : bys (l ++ [c]) = bys l ++ [[cell8 c]] := by simp [bys]
/-- one byte more behind bytes of one's own -/
theorem app_one {h : H} {y : S} {l : List UInt8} {bs : List Nat} {c : UInt8} (w : Rep h 1 y (.fs (bys l)) bs) (hl0 : y = .sl none 0 ∨ l ≠ []) (hd : bs.Nodup) (hl : l.length + 1 ≤ lim) :
    ∃ h' bs', appS 1 (h.new 1 [cell8 c]) (.s y) (sv h.n 0 1) = some (sv (h.n + 1) 0 (l.length + 1), h') ∧ Rep h' 1 (.sl (some (h.n + 1, 0)) (l.length + 1)) (.fs (bys (l ++ [c]))) bs' ∧ bs'.Nodup ∧ h'.n = h.n + 2 ∧ (∀ d ∈ bs', d = h.n + 1 ∨ d ∈ bs) ∧ (∀ d, d < h.n → d ∉ bs → h'.g d = h.g d) := by
  have wo : OutS 1 0 y (bys l) bs h := by
    refine ⟨w, hd, ?_, bys_row⟩
    rcases hl0 with h1 | h1
    · exact .inl h1
    · rcases w.of_bys with ⟨h2, _⟩ | ⟨b, w1, _⟩
      · exact absurd h2 h1
      · refine .inr ⟨b, _, ?_, w1.g⟩
        have := w1.v
        injection this with this
        rw [this, bys_len]
  obtain ⟨h', bs', e1, w1, n1, f1, o1, _, _⟩ := app_row (row := [cell8 c]) (fr := [cell8 c]) (br := []) wo (RepL.cons (bs := []) (Rep.sc trivial) .nil) rfl (by omega) (by simp) (by simp) (by simpa using hl)
  rw [bys_len] at e1 w1
  refine ⟨h', bs', e1, by rw [bys_snoc]; exact w1.rep, w1.nd, n1, fun d hd => ?_, o1⟩
  rcases f1 d hd with h1 | h1 | h1
  · exact .inl h1
  · exact .inr h1
  · simp at h1
theorem of8 {l : List UInt8} {i : Nat} : S.int .u8 (bt l i) = cell8 (UInt8.ofNat (bt l i).toNat) := by
  have := bt_lt l i
  have := bt_nn l i
  unfold cell8
  congr 1
  simp
  omega
section
variable {a b : List UInt8} (ha : a.length = 64) (hb : b.length = 64)
include ha hb
theorem lp_l3Diff : ∀ (q i : Nat) (h : H) (y : S) (bs : List Nat) (acc : List RunD) (o : Bool), i + q = 64 → OutS 2 1 y (runs acc) bs h → (o = true → acc ≠ []) → acc.length ≤ i → (∀ r ∈ acc, r.l ≠ [] ∧ r.l.length ≤ i) →
    ∃ h' y' bs', Lp.spec_l3Diff 0 [lv (bys a), lv (bys b), .s y, bv o, iv .i64 i] h = some (.done [.s y'] h') ∧ OutS 2 1 y' (runs (spc a b q i o acc)) bs' h' := by
  intro q
  induction q with
  | zero =>
    intro i h y bs acc o hi w ho hal hne
    rw [eq_spec_l3Diff_l0, vcase_b, bys_len, if_neg (by simp; omega), tidy_self]
    exact ⟨h, y, bs, rfl, by simpa [spc] using w⟩
  | succ q ih =>
    intro i h y bs acc o hi w ho hal hne
    rw [eq_spec_l3Diff_l0, vcase_b, bys_len, if_pos (by simp; omega), idxF_by (by omega) (by omega)]
    simp only [gx0, ob, gI_i]
    have eb : ∀ {R : Type} {k : List S → Option R}, idxF 1 (bys b) (i : Int) k = k [.int .u8 (bt b i)] := idxF_by (by omega) (by omega)
    rw [eb]
    simp only [gx0, ob, gI_i, vcase_b, spc]
    by_cases he : bt a i = bt b i
    · rw [if_pos (by simpa using he), if_pos he, w64 (by omega) (by omega), tidy_self, show (i : Int) + 1 = ((i + 1 : Nat) : Int) from by omega]
      exact ih (i + 1) h y bs acc false (by omega) w (by simp) (by omega) (fun r hr => ⟨(hne r hr).1, by have := (hne r hr).2; omega⟩)
    rw [if_neg (by simpa using he), if_neg he, w64 (n := (i : Int) + 1) (by omega) (by omega), show (i : Int) + 1 = ((i + 1 : Nat) : Int) from by omega]
    generalize hc : UInt8.ofNat (bt b i).toNat = c
    have hcell : S.int .u8 (bt b i) = cell8 c := by rw [← hc]; exact of8
    cases o with
    | false =>
      rw [if_pos (by simp), if_neg (by simp)]
      have wr : RepL (Rep h 1) [.int .i64 i, .sl none 0] (RunD.cs ⟨(i : Int), []⟩) [] := RepL.cons (bs := []) (Rep.sc trivial) (RepL.cons (bs := []) Rep.nil .nil)
      obtain ⟨h2, bs2, e4, w3, n3, f3, o3, q3, cs0, gl⟩ := app_row w wr rfl (by omega) (by simp) (by simp) (by simp; unfold lim; omega)
      rw [e4, ob]
      simp only [lenV, ob, gV1_s, gI_i]
      rw [← runs_snoc] at w3
      rw [runs_len] at w3 ⊢
      rw [w64 (by omega) (by omega), show ((acc.length + 1 : Nat) : Int) - 1 = ((acc.length : Nat) : Int) from by omega, idxK_sv (by omega)]
      simp only [notNil, padd, ob]
      obtain ⟨bb, cs, yl, b0, bl, e5, g5, l5, n5, r5, w5, w6⟩ := last_run w3
      injection e5 with e5 _
      injection e5 with e5
      injection e5 with e5 _
      subst e5
      have hyl : yl = .sl none 0 := by
        rw [gl] at g5
        injection g5 with _ g5
        have := (List.append_inj' g5 rfl).2
        simp only [List.cons.injEq, and_true, true_and] at this
        exact this.symm
      subst hyl
      have hd5 := w3.nd
      rw [n5] at hd5
      have hlt := w3.rep.lt
      have ld : load1 h2 (pv (h.n + 1) (acc.length * 2 + 1)) = some (.sl none 0) := by
        simp only [load1, H.cells, show h.n + 1 < h2.n by omega, if_true, g5, Blk.cells]
        rw [List.getElem?_append_right (by omega), l5]; simp
      simp only [ldK, ldT, cond_false, ld, ob]
      rw [eb]
      simp only [gx0, ob, gI_i]
      rw [hchk_of (HExt.new (HExt.refl _)), hcell]
      obtain ⟨h3, bl', e6, w7, d7, n7, f7, o7⟩ := app_one (c := c) (h := h2) (l := []) w6 (.inl rfl) (by
        have := (List.nodup_cons.1 hd5).2
        exact (List.nodup_append.1 this).2.1) (by unfold lim; simp)
      simp only [ln0, Nat.zero_add, List.nil_append] at e6 w7
      rw [e6, ob]
      dsimp only
      have hbl2 : ∀ d ∈ bl, d < h2.n := fun d hd => hlt d (by rw [n5]; simp [hd])
      have hbb : h.n + 1 ∉ bl := fun hh => (List.nodup_cons.1 hd5).1 (by simp [hh])
      have g6 := (o7 (h.n + 1) (by omega) hbb).trans g5
      rw [stK_rw (z := 1) (e := 2) (o := acc.length * 2 + 1) (b := h.n + 1) (cs := cs ++ [.int .i64 i, .sl none 0]) (r := [.sl (some (h2.n + 1, 0)) 1]) (by omega) g6 (.inl ⟨_, rfl, rfl, rfl⟩) rfl (by simp; omega)]
      have hset : setAt (cs ++ [.int .i64 (i : Int), .sl none 0]) (acc.length * 2 + 1) [S.sl (some (h2.n + 1, 0)) 1] = cs ++ [.int .i64 i, .sl (some (h2.n + 1, 0)) 1] := by
        rw [show cs ++ [S.int .i64 (i : Int), .sl none 0] = (cs ++ [.int .i64 i]) ++ [.sl none 0] from by simp, setAt_at (z := 1) (by simp; omega) rfl]; simp
      rw [hset, no_tidy_v (by simp [belV, belS])]
      have w8 : OutS 2 1 (.sl (some (h.n + 1, 0)) (acc.length + 1)) (runs (acc ++ [⟨(i : Int), [c]⟩])) ((h.n + 1) :: (b0 ++ bl')) (h3.put (h.n + 1) (.rw 2 (cs ++ [.int .i64 i, .sl (some (h2.n + 1, 0)) 1]))) := by
        have hb0 : ∀ d ∈ b0, d < h2.n ∧ d ≠ h.n + 1 ∧ d ∉ bl := fun d hd => by
          refine ⟨hlt d (by rw [n5]; simp [hd]), fun hh => (List.nodup_cons.1 hd5).1 (by rw [← hh]; simp [hd]), fun hh => ?_⟩
          exact (List.nodup_append.1 (List.nodup_cons.1 hd5).2).2.2 d hd d hh rfl
        have hbl' : ∀ d ∈ bl', d ≠ h.n + 1 := fun d hd hh => by
          rcases f7 d hd with h1 | h1
          · omega
          · exact hbb (hh ▸ h1)
        refine last_put (by rw [put_n]; omega) (put_g _ _ _) (w5.frame fun d hd => ?_) (w7.frame fun d hd => ?_) ?_
        · obtain ⟨q1, q2, q3⟩ := hb0 d hd
          exact ⟨by rw [put_n]; omega, (put_g' q2).trans (o7 d q1 q3)⟩
        · exact ⟨by rw [put_n]; exact w7.lt d hd, put_g' (hbl' d hd)⟩
        · refine List.nodup_cons.2 ⟨fun hh => ?_, List.nodup_append.2 ⟨(List.nodup_append.1 (List.nodup_cons.1 hd5).2).1, d7, fun d hd d' hd' hh => ?_⟩⟩
          · rcases List.mem_append.1 hh with hh | hh
            · exact (hb0 _ hh).2.1 rfl
            · exact hbl' _ hh rfl
          · subst hh
            rcases f7 d hd' with h1 | h1
            · have := (hb0 d hd).1; omega
            · exact (hb0 d hd).2.2 h1
      exact ih (i + 1) _ _ _ (acc ++ [⟨(i : Int), [c]⟩]) true (by omega) w8 (by simp) (by rw [List.length_append, List.length_singleton]; omega) (fun r hr => by
        rcases List.mem_append.1 hr with hr | hr
        · exact ⟨(hne r hr).1, by have := (hne r hr).2; omega⟩
        · rw [List.mem_singleton.1 hr]; simp)
    | true =>
      rw [if_neg (by simp), if_pos (show true = true from rfl)]
      obtain ⟨acc0, r, rfl⟩ : ∃ acc0 r, acc = acc0 ++ [r] := by
        have := ho rfl
        exact ⟨acc.dropLast, acc.getLast this, (List.dropLast_concat_getLast this).symm⟩
      have hal' : acc0.length + 1 ≤ i := by simpa using hal
      obtain ⟨bb, cs, yl, b0, bl, e5, g5, l5, n5, r5, w5, w6⟩ := last_run w
      subst e5
      have hd5 := w.nd
      rw [n5] at hd5
      have hlt := w.rep.lt
      simp only [lenV, ob, gV1_s, gI_i]
      rw [w64 (by omega) (by omega), show ((acc0.length + 1 : Nat) : Int) - 1 = ((acc0.length : Nat) : Int) from by omega, idxK_sv (by omega)]
      simp only [notNil, padd, ob]
      have ld : load1 h (pv bb (acc0.length * 2 + 1)) = some yl := by
        simp only [load1, H.cells, r5, if_true, g5, Blk.cells]
        rw [List.getElem?_append_right (by omega), l5]; simp
      simp only [ldK, ldT, cond_false, ld, ob]
      rw [eb]
      simp only [gx0, ob, gI_i]
      rw [hchk_of (HExt.new (HExt.refl _)), hcell]
      have hrr := hne r (by simp)
      obtain ⟨h3, bl', e6, w7, d7, n7, f7, o7⟩ := app_one (c := c) (h := h) (l := r.l) w6 (.inr hrr.1) (by
        have := (List.nodup_cons.1 hd5).2
        exact (List.nodup_append.1 this).2.1) (by unfold lim; omega)
      rw [e6, ob]
      dsimp only
      have hbl2 : ∀ d ∈ bl, d < h.n := fun d hd => hlt d (by rw [n5]; simp [hd])
      have hbb : bb ∉ bl := fun hh => (List.nodup_cons.1 hd5).1 (by simp [hh])
      have g6 := (o7 bb r5 hbb).trans g5
      rw [stK_rw (z := 1) (e := 2) (o := acc0.length * 2 + 1) (b := bb) (cs := cs ++ [.int .i64 r.at_, yl]) (r := [.sl (some (h.n + 1, 0)) (r.l.length + 1)]) (by omega) g6 (.inl ⟨_, rfl, rfl, rfl⟩) rfl (by simp; omega)]
      have hset : setAt (cs ++ [.int .i64 r.at_, yl]) (acc0.length * 2 + 1) [S.sl (some (h.n + 1, 0)) (r.l.length + 1)] = cs ++ [.int .i64 r.at_, .sl (some (h.n + 1, 0)) (r.l.length + 1)] := by
        rw [show cs ++ [S.int .i64 r.at_, yl] = (cs ++ [.int .i64 r.at_]) ++ [yl] from by simp, setAt_at (z := 1) (by simp; omega) rfl]; simp
      rw [hset, no_tidy (b := bb) r5 (put_g _ _ _) (by simp [belS]) (by
        exact w.rep.bel hlt bb (by rw [n5]; simp))]
      have w8 : OutS 2 1 (.sl (some (bb, 0)) (acc0.length + 1)) (runs (acc0 ++ [⟨r.at_, r.l ++ [c]⟩])) (bb :: (b0 ++ bl')) (h3.put bb (.rw 2 (cs ++ [.int .i64 r.at_, .sl (some (h.n + 1, 0)) (r.l.length + 1)]))) := by
        have hb0 : ∀ d ∈ b0, d < h.n ∧ d ≠ bb ∧ d ∉ bl := fun d hd => by
          refine ⟨hlt d (by rw [n5]; simp [hd]), fun hh => (List.nodup_cons.1 hd5).1 (by rw [← hh]; simp [hd]), fun hh => ?_⟩
          exact (List.nodup_append.1 (List.nodup_cons.1 hd5).2).2.2 d hd d hh rfl
        have hbl' : ∀ d ∈ bl', d ≠ bb := fun d hd hh => by
          rcases f7 d hd with h1 | h1
          · omega
          · exact hbb (hh ▸ h1)
        refine last_put (by rw [put_n]; omega) (put_g _ _ _) (w5.frame fun d hd => ?_) (w7.frame fun d hd => ?_) ?_
        · obtain ⟨q1, q2, q3⟩ := hb0 d hd
          exact ⟨by rw [put_n]; omega, (put_g' q2).trans (o7 d q1 q3)⟩
        · exact ⟨by rw [put_n]; exact w7.lt d hd, put_g' (hbl' d hd)⟩
        · refine List.nodup_cons.2 ⟨fun hh => ?_, List.nodup_append.2 ⟨(List.nodup_append.1 (List.nodup_cons.1 hd5).2).1, d7, fun d hd d' hd' hh => ?_⟩⟩
          · rcases List.mem_append.1 hh with hh | hh
            · exact (hb0 _ hh).2.1 rfl
            · exact hbl' _ hh rfl
          · subst hh
            rcases f7 d hd' with h1 | h1
            · have := (hb0 d hd).1; omega
            · exact (hb0 d hd).2.2 h1
      have e9 : ((acc0 ++ [r]).dropLast ++ ((acc0 ++ [r]).getLast?.toList.map fun r => (⟨r.at_, r.l ++ [c]⟩ : RunD))) = acc0 ++ [⟨r.at_, r.l ++ [c]⟩] := by simp
      rw [e9]
      exact ih (i + 1) _ _ _ (acc0 ++ [⟨r.at_, r.l ++ [c]⟩]) true (by omega) w8 (by simp) (by rw [List.length_append, List.length_singleton]; omega) (fun x hx => by
        rcases List.mem_append.1 hx with hx | hx
        · have := hne x (by simp [hx])
          exact ⟨this.1, by omega⟩
        · rw [List.mem_singleton.1 hx]
          exact ⟨by simp, by simp only [List.length_append, List.length_singleton]; omega⟩)
theorem p_l3Diff : pureV (call Ev) Fn.spec_l3Diff [lv (bys a), lv (bys b)] = some (lv (runs (difs a b))) := by
  have w0 : OutS 2 1 (.sl (some (0, 0)) 0) (runs []) [0] ((D 0).new 2 []) := by
    refine ⟨?_, by simp, .inr ⟨0, [], rfl, new_g (D 0) _ _⟩, runs_row⟩
    exact Rep.sl (d := 1) (h := (D 0).new 2 []) (b := 0) (z := 2) (cs := []) (rows := []) (bss := []) (by simp) (by omega) (new_g (D 0) _ _) (by simp) .nil
  obtain ⟨h', y', bs', e1, w1⟩ := lp_l3Diff ha hb 64 0 _ _ _ [] false (by omega) w0 (by simp) (by simp) (by simp)
  rw [(spc_dif hb 64 0 (by omega)).1] at w1
  rw [pu_spec_l3Diff, show iv .i64 0 = iv .i64 ((0 : Nat) : Int) from rfl, e1, ob, lcase_done]
  simp only [gx0, ob]
  have := w1.rep.frz (k := 8) (by omega)
  rw [frzV_s, this]
  rfl
end
def dfC (a b : List UInt8) : Int := if a.length = 64 ∧ b.length = 64 then 0 else 1
def dfL (a b : List UInt8) : List RunD := if a.length = 64 ∧ b.length = 64 then difs a b else []
theorem dif_bd {a b : List UInt8} (hb : b.length = 64) : ∀ (q i : Nat), i ≤ 65 → (dif a b q i).length ≤ 65 - i ∧ ∀ r ∈ dif a b q i, r.l.length ≤ 64
  | 0, i, _ => by simp [dif]
  | q + 1, i, hi => by
    simp only [dif]
    split
    · simp
    rename_i h64
    split
    · have := dif_bd (a := a) hb q (i + 1) (by omega)
      exact ⟨by omega, this.2⟩
    rename_i he
    have h1 := endd_lt a b (q := 63 - i) he
    rw [show 63 - i + 1 = 64 - i from by omega] at h1
    have h2 := (endd_le a b (64 - i) i).2
    have := dif_bd (a := a) hb q (endd a b (64 - i) i + 1) (by omega)
    refine ⟨by rw [List.length_cons]; omega, fun r hr => ?_⟩
    rcases List.mem_cons.1 hr with rfl | hr
    · simp only [cutB, List.length_drop, List.length_take]; omega
    · exact this.2 r hr
theorem dfL_bd {a b : List UInt8} : (dfL a b).length ≤ 65 ∧ (∀ r ∈ dfL a b, r.l.length ≤ maxLen) ∧ rsz (dfL a b) ≤ 4225 := by
  have key : (dfL a b).length ≤ 65 ∧ ∀ r ∈ dfL a b, r.l.length ≤ 64 := by
    unfold dfL difs
    split
    · rename_i h; exact dif_bd h.2 64 0 (by omega)
    · simp
  refine ⟨key.1, fun r hr => by have := key.2 r hr; unfold maxLen; omega, ?_⟩
  have := rsz_le _ key.2
  have := Nat.mul_le_mul_right 65 key.1
  omega
theorem p_spec_DiffBytes {a b : List UInt8} : pureV (call Ev) Fn.spec_DiffBytes [lv (bys a), lv (bys b)] = some (.agg [.int .i64 (dfC a b), .fs (runs (dfL a b))]) := by
  rw [pu_spec_DiffBytes, vcase_b, vcase_b, bys_len, bys_len]
  unfold dfC dfL
  by_cases h1 : a.length = 64
  · rw [if_neg (by simp; omega)]
    by_cases h2 : b.length = 64
    · rw [if_neg (by simp; omega), if_pos ⟨h1, h2⟩, if_pos ⟨h1, h2⟩, p_l3Diff h1 h2]; simp
    · rw [if_pos (by simp; omega), if_neg (fun hh => h2 hh.2), if_neg (fun hh => h2 hh.2)]; rfl
  · rw [if_pos (by simp; omega), if_neg (fun hh => h1 hh.1), if_neg (fun hh => h1 hh.1)]; rfl
theorem f_DiffBytes {a b : List UInt8} (n : Nat) : ∃ y h', call Ev Fn.impl_DiffBytes [lv (bys a), lv (bys b)] (D n) = some (.agg [.int .i64 (dfC a b), y], h') ∧ NewC 4 [.int .i64 (dfC a b), y] [.int .i64 (dfC a b), .fs (runs (dfL a b))] n h' := by
  rw [eq_impl_DiffBytes, vcase_b, bys_len, bys_len]
  unfold Jn.impl_DiffBytes_0 dfC dfL
  by_cases h1 : a.length = 64
  · rw [if_neg (by simp; omega), vcase_b]
    by_cases h2 : b.length = 64
    · rw [if_neg (by simp; omega), if_pos ⟨h1, h2⟩, if_pos ⟨h1, h2⟩]
      obtain ⟨y, h1', e1, n1, w1⟩ := f_diff h1 h2 (n + 1)
      obtain ⟨h', e2, w2⟩ := fin2 (off := true) e1 n1 w1
      rw [e2]
      obtain ⟨bs, w3, w4, w5⟩ := w2.q
      exact ⟨y, h', rfl, w2.le, bs, w3.lifts (by omega), w4, w5⟩
    · obtain ⟨h', e1, w1⟩ := bad2C n 1
      rw [if_pos (by simp; omega), if_neg (fun hh => h2 hh.2), if_neg (fun hh => h2 hh.2), e1]
      exact ⟨_, h', rfl, w1⟩
  · obtain ⟨h', e1, w1⟩ := bad2C n 1
    rw [if_pos (by simp; omega), vcase_b, if_pos rfl, if_neg (fun hh => h1 hh.1), if_neg (fun hh => h1 hh.1), e1]
    exact ⟨_, h', rfl, w1⟩
end Vm
/-
  The law of DiffBytes returns true.
-/
namespace Vm
open Go
theorem run_FnExactDiffBytes (xs : List V) (hx : ArgsRp PR [T.S_uint8, T.S_uint8] xs) : ∃ h', call Ev Fn.laws_FnExactDiffBytes xs (D 0) = some (bv true, h') := by
  match xs, hx with
  | [x0, x1], ⟨h0, h1, _⟩ =>
    obtain ⟨l0, rfl, hl0⟩ := arg_Bytes h0
    obtain ⟨l1, rfl, hl1⟩ := arg_Bytes h1
    refine law_of ?_
    rw [pu_laws_FnExactDiffBytes]
    rw [vcase_b, bys_len]
    by_cases hq0 : (1048576 : Int) < l0.length
    · rw [if_pos (by simpa using hq0)]
    have hm0 : l0.length ≤ 1048576 := by omega
    have hlim0 : l0.length ≤ lim := by unfold lim; omega
    rw [if_neg (by simpa using hq0)]
    rw [vcase_b, bys_len]
    by_cases hq1 : (1048576 : Int) < l1.length
    · rw [if_pos (by simpa using hq1)]
    have hm1 : l1.length ≤ 1048576 := by omega
    have hlim1 : l1.length ≤ lim := by unfold lim; omega
    rw [if_neg (by simpa using hq1)]
    rw [p_toByteS hlim0]
    simp only [ob, gV1_s, gF_f]
    rw [p_toByteS hlim1]
    simp only [ob, gV1_s, gF_f]
    obtain ⟨hsl, hmr, hsz⟩ := dfL_bd (a := l0) (b := l1)
    have hps := p_spec_DiffBytes (a := l0) (b := l1)
    have hfs := fun n => f_DiffBytes (a := l0) (b := l1) n
    generalize dfC l0 l1 = c at hps hfs
    generalize dfL l0 l1 = m at hsl hmr hsz hps hfs
    have hmm : m.length ≤ maxLen := by unfold maxLen; omega
    rw [hps]
    simp only [ob, gVA_a, gx0, gx1, gI_i, gF_f, ln0, ln1, Nat.zero_add, Nat.reduceAdd, if_true]
    generalize hA : ((D 0).new 0 [.int .i64 0, .sl none 0]).put 0 (.rw 0 [.int .i64 c, .fs (runs m)]) = A
    have an : A.n = 1 := by rw [← hA]; simp
    have wA : Sep (At 0 (.rw 0 [.int .i64 c, .fs (runs m)])) 0 1 A := Sep.at (by omega) (by rw [← hA]; exact put_g _ _ _)
    obtain ⟨v0, k0, e0, q0⟩ := f_toByteS hlim0 A.n
    obtain ⟨B0, eB0, uB0, nB0, w0⟩ := pN rfl e0 q0.s
    rw [eB0]
    clear eB0 e0 q0
    rw [an] at nB0 w0
    replace wA := wA.up uB0
    obtain ⟨v1, k1, e1, q1⟩ := f_toByteS hlim1 B0.n
    obtain ⟨B1, eB1, uB1, nB1, w1⟩ := pN rfl e1 q1.s
    rw [eB1]
    clear eB1 e1 q1
    replace wA := wA.up uB1
    replace w0 := w0.up uB1
    rw [frzVs_cons w0.now.frz (frzVs_cons w1.now.frz frzVs_nil), ob, norm_nil]
    obtain ⟨y, k2, e2, q2⟩ := hfs B1.n
    obtain ⟨C, eC, uC, nC, wg⟩ := pC (h := B1) rfl e2 q2
    rw [eC]
    clear eC e2 q2
    replace wA := wA.up uC
    replace w0 := w0.up uC
    replace w1 := w1.up uC
    simp only [gVA_a, gx0, gx1, ob, gI_i, ln0, ln1, Nat.zero_add, Nat.reduceAdd, if_true]
    rw [st2_new]
    have uE : Up C ((C.new 0 [.int .i64 0, .sl none 0]).put C.n (.rw 0 [.int .i64 c, y])) := up_st
    have wG : Sep (At C.n (.rw 0 [.int .i64 c, y])) C.n (C.n + 1) ((C.new 0 [.int .i64 0, .sl none 0]).put C.n (.rw 0 [.int .i64 c, y])) := Sep.at (by rw [n_st]; omega) g_st
    replace wA := wA.up uE
    replace w0 := w0.up uE
    replace w1 := w1.up uE
    replace wg := wg.up uE
    generalize (C.new 0 [.int .i64 0, .sl none 0]).put C.n (.rw 0 [.int .i64 c, y]) = E at wA w0 w1 wg wG ⊢
    clear uE uC uB0 uB1
    rw [loadN_2 wG.now.1 wG.now.2]
    simp only [gx0, gx1, ob, gI_i, ln0, ln1, Nat.zero_add, Nat.reduceAdd, if_true]
    rw [loadN_2 wA.now.1 wA.now.2]
    simp only [gx0, gx1, ob, gI_i, ln0, ln1, Nat.zero_add, Nat.reduceAdd, if_true]
    rw [frzVs_cons wg.now.frz (frzVs_cons frzV_agf frzVs_nil), ob, norm_nil, pc (p_eqRR hmm hmr) rfl]
    simp only [gV1_s, gB_b, vcase_b, decide_true, Bool.and_self, Bool.not_true, Bool.false_eq_true, if_false]
    rw [frzVs_cons w0.now.frz (frzVs_cons frzV_lv frzVs_nil), ob, norm_nil, pc (p_eqByteS hl0) rfl]
    simp only [gV1_s, gB_b, vcase_b, decide_true, Bool.and_self, Bool.not_true, Bool.false_eq_true, if_false]
    rw [frzVs_cons w1.now.frz (frzVs_cons frzV_lv frzVs_nil), ob, norm_nil, pc (p_eqByteS hl1) rfl]
    simp only [gV1_s, gB_b, vcase_b, decide_true, Bool.and_self, Bool.not_true, Bool.false_eq_true, if_false]
    rw [show (1 : Int) = ((1 : Nat) : Int) from rfl]
    obtain ⟨p0, e0, m0, b0⟩ := OwnB.mark (k := 1) w0 (by omega)
    rw [e0, ob]
    simp only [gV1_s, gI_i]
    replace wA := wA.but b0 (by omega)
    replace w1 := w1.but b0 (by omega)
    replace wg := wg.but b0 (by omega)
    replace wG := wG.but b0 (by omega)
    replace w0 := m0
    clear m0 e0
    obtain ⟨p1, e1, m1, b1⟩ := OwnB.mark (k := 1 + l0.length) w1 (by omega)
    rw [e1, ob]
    simp only [gV1_s, gI_i]
    replace wA := wA.but b1 (by omega)
    replace w0 := w0.but b1 (by omega)
    replace wg := wg.but b1 (by omega)
    replace wG := wG.but b1 (by omega)
    replace w1 := m1
    clear m1 e1
    rw [if_neg (by simp; omega)]
    unfold Jn.laws_FnExactDiffBytes_0
    dsimp only
    generalize tidy E [iv .i64 ((1 + l0.length : Nat) : Int)] p0 = F0 at wA w0 w1 wg wG b0 b1 ⊢
    generalize tidy F0 [iv .i64 ((1 + l0.length + l1.length : Nat) : Int)] p1 = F1 at wA w0 w1 wg wG b0 b1 ⊢
    rw [loadN_2 wG.now.1 wG.now.2]
    simp only [gx0, gx1, ob, gI_i, ln0, ln1, Nat.zero_add, Nat.reduceAdd, if_true]
    rw [loadN_2 wA.now.1 wA.now.2]
    simp only [gx0, gx1, ob, gI_i, ln0, ln1, Nat.zero_add, Nat.reduceAdd, if_true]
    rw [frzVs_cons wg.now.frz (frzVs_cons frzV_agf frzVs_nil), ob, norm_nil, pc (p_eqRR hmm hmr) rfl]
    simp only [gV1_s, gB_b, vcase_b, decide_true, Bool.and_self, Bool.not_true, Bool.false_eq_true, if_false]
    obtain ⟨pg, eg, mg, bg⟩ := r_markRR (c := c) (k := 1) wg (by omega)
    rw [show (1 : Int) = ((1 : Nat) : Int) from rfl, eg, ob]
    simp only [gV1_s, gI_i]
    replace wA := wA.but bg (by omega)
    replace w0 := w0.but bg (by omega)
    replace w1 := w1.but bg (by omega)
    replace wG := wG.but bg (by omega)
    replace wg := mg
    clear mg eg
    generalize tidy F1 [iv .i64 ((1 + rsz m : Nat) : Int)] pg = G at wA wg wG bg ⊢
    rw [loadN_2 wG.now.1 wG.now.2]
    simp only [gx0, gx1, ob, gI_i, ln0, ln1, Nat.zero_add, Nat.reduceAdd, if_true]
    rw [frzVs_cons wg.now.frz (frzVs_cons frzV_iv frzVs_nil), ob, norm_nil, pc (p_heldRR (by omega)) rfl]
    simp only [gV1_s, gI_i, vcase_b]
    rw [if_neg (by simp; omega), if_neg (by simp)]
    rw [p_toByteS hlim0]
    simp only [ob, gV1_s, gF_f]
    rw [p_toByteS hlim1]
    simp only [ob, gV1_s, gF_f]
    obtain ⟨y', k5, e5, w5⟩ := hfs 0
    rw [NewC.p (by omega) e5 w5]
    simp only [ob, gVA_a, gx0, gx1, gI_i, gF_f, ln0, ln1, Nat.zero_add, Nat.reduceAdd, if_true]
    rw [st2_new]
    have uK : Up G ((G.new 0 [.int .i64 0, .sl none 0]).put G.n (.rw 0 [.int .i64 c, .fs (runs m)])) := up_st
    have wK : Sep (At G.n (.rw 0 [.int .i64 c, .fs (runs m)])) G.n (G.n + 1) ((G.new 0 [.int .i64 0, .sl none 0]).put G.n (.rw 0 [.int .i64 c, .fs (runs m)])) := Sep.at (by rw [n_st]; omega) g_st
    replace wA := wA.up uK
    replace wg := wg.up uK
    replace wG := wG.up uK
    generalize (G.new 0 [.int .i64 0, .sl none 0]).put G.n (.rw 0 [.int .i64 c, .fs (runs m)]) = K at wA wg wG wK ⊢
    rw [loadN_2 wK.now.1 wK.now.2]
    simp only [gx0, gx1, ob, gI_i, ln0, ln1, Nat.zero_add, Nat.reduceAdd, if_true]
    rw [loadN_2 wA.now.1 wA.now.2]
    simp only [gx0, gx1, ob, gI_i, ln0, ln1, Nat.zero_add, Nat.reduceAdd, if_true]
    rw [frzVs_cons frzV_agf (frzVs_cons frzV_agf frzVs_nil), ob, norm_nil, pc (p_eqRR hmm hmr) rfl]
    simp only [gV1_s, gB_b, vcase_b, decide_true, Bool.and_self, Bool.not_true, Bool.false_eq_true, if_false]
    rw [loadN_2 wG.now.1 wG.now.2]
    simp only [gx0, gx1, ob, gI_i, ln0, ln1, Nat.zero_add, Nat.reduceAdd, if_true]
    rw [frzVs_cons wg.now.frz (frzVs_cons frzV_iv frzVs_nil), ob, norm_nil, pc (p_heldRR (by omega)) rfl]
    simp only [gV1_s, gI_i, vcase_b]
    rw [if_neg (by simp; omega), if_neg (by simp)]
end Vm
