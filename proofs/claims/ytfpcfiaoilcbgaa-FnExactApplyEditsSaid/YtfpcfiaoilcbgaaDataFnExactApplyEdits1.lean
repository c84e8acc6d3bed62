/-
  What both ways of the law come to, and that the law returns true.
-/
import Derived.Test.YtfpcfiaoilcbgaaEqs
import Derived.Test.YtfpcfiaoilcbgaaDl
import Derived.Test.YtfpcfiaoilcbgaaTyp
set_option linter.unusedVariables false
set_option maxRecDepth 100000
set_option linter.unusedSimpArgs false
set_option linter.unusedSectionVars false
/-
  Numbers between two others.
-/
namespace Vm
open Go
def inB (n a b : Int) : Bool := decide (a ≤ n) && decide (n ≤ b)
theorem inB_iff {n a b : Int} : inB n a b = true ↔ a ≤ n ∧ n ≤ b := by simp [inB]
theorem p_l1In (n a b : Int) : pureV (call Ev) Fn.spec_l1In [iv .i64 n, iv .i64 a, iv .i64 b] = some (bv (inB n a b)) := by
  rw [pu_spec_l1In, vcase_b]
  unfold inB
  split <;> simp_all <;> omega
theorem p_in (n a b : Int) : pureV (call Ev) Fn.impl_in [iv .i64 n, iv .i64 a, iv .i64 b] = some (bv (inB n a b)) := by
  rw [pu_impl_in, vcase_b]
  unfold inB
  split <;> simp_all <;> omega
end Vm
/-
  Loops that fill a new slice, and what is frozen of it.
-/
namespace Vm
open Go

@[simp] theorem tidy_put {h : H} {l : List V} {b : Nat} {x : Blk} (hb : b < h.n) : tidy h l (h.put b x) = h.put b x := by
  unfold tidy
  split
  · obtain ⟨n, g, v⟩ := h
    simp only [H.put, H.mk.injEq, true_and]
    constructor <;> (funext c; split <;> first | rfl | (rename_i hc; rw [if_neg (by intro e; subst e; exact hc hb)]))
  · rfl
/-- a value that fills a row -/
def VRow (v : V) (r : List S) : Prop := (∃ x, v = .s x ∧ r = [x] ∧ isNo x = false) ∨ v = .agg r
theorem stK_rw {R : Type} {z e o b : Nat} {h : H} {cs r : List S} {v : V} {k : H → Option R} (hb : b < h.n) (hg : h.g b = .rw e cs) (hv : VRow v r) (hr : r.length = z) (ho : o + z ≤ cs.length) :
    stK z h (pv b o) v k = k (h.put b (.rw e (setAt cs o r))) := by
  rcases hv with ⟨x, rfl, rfl, hx⟩ | rfl
  · simp only [List.length_cons, List.length_nil, Nat.zero_add] at hr
    subst hr
    simp only [stK, if_true, put1K, if_pos hb, hg]
    rw [if_pos (by omega), hx]
    have : cs.set o x = setAt cs o [x] := by
      unfold setAt
      rw [List.set_eq_take_append_cons_drop, if_pos (by omega)]
      simp
    rw [this]; rfl
  · simp only [stK, putNK]
    rw [if_pos ⟨hb, hr⟩, hg]
    simp only
    rw [if_pos ho]
theorem idxK_sv {R : Type} {z b n i : Nat} {kd : IntKind} {f : V → Option R} (hi : i < n) : idxK z (sv b 0 n) (iv kd (i : Int)) f = f (pv b (i * z)) := by
  simp only [idxK, idxS]
  rw [if_pos ⟨by omega, by omega⟩]
  simp
theorem setAt_at {A r B : List S} {o z : Nat} (ho : A.length = o) (hz : r.length = z) : setAt (A ++ B) o r = A ++ r ++ B.drop z := by
  subst ho; subst hz
  unfold setAt
  simp
theorem map_flat_len {T : Nat → List S} {z : Nat} : ∀ (i : Nat), (∀ j, j < i → (T j).length = z) → (((List.range i).map T).flatten).length = i * z
  | 0, _ => by simp
  | i + 1, h => by
    rw [List.range_succ, List.map_append, List.flatten_append, List.length_append, map_flat_len i fun j hj => h j (by omega)]
    simp [h i (by omega), Nat.succ_mul]
theorem fill_loop {z n b : Nat} {T : Nat → List S} {L : Int → H → Option LOut} {fin : List V} (hT : ∀ i, i < n → (T i).length = z)
    (hstep : ∀ (i : Nat) (h : H), i < n → b < h.n → ∃ v l, VRow v (T i) ∧ L i h = stK z h (pv b (i * z)) v fun h' => L ((i + 1 : Nat) : Int) (tidy h l h'))
    (hend : ∀ h, L n h = some (.done fin h)) :
    ∀ (k i : Nat) (h : H) (cs : List S), i + k = n → b < h.n → h.g b = .rw z (((List.range i).map T).flatten ++ cs) → cs.length = k * z →
      ∃ h', L i h = some (.done fin h') ∧ h'.n = h.n ∧ h'.g b = .rw z (((List.range n).map T).flatten) ∧ ∀ c, c ≠ b → h'.g c = h.g c ∧ h'.v c = h.v c := by
  intro k
  induction k with
  | zero =>
    intro i h cs hi hb hg hl
    obtain rfl : i = n := by omega
    have : cs = [] := List.eq_nil_of_length_eq_zero (by omega)
    subst this
    exact ⟨h, hend h, rfl, by simpa using hg, fun _ _ => ⟨rfl, rfl⟩⟩
  | succ k ih =>
    intro i h cs hi hb hg hl
    obtain ⟨v, l, hv, e⟩ := hstep i h (by omega) hb
    have hz := hT i (by omega)
    have hp := map_flat_len (T := T) (z := z) i fun j hj => hT j (by omega)
    have hl' : cs.length = z + k * z := by rw [hl, Nat.succ_mul]; omega
    rw [e, stK_rw hb hg hv hz (by rw [List.length_append, hp]; omega), tidy_put hb, setAt_at hp hz]
    obtain ⟨h', g1, g2, g3, g4⟩ := ih (i + 1) (h.put b (.rw z (((List.range i).map T).flatten ++ T i ++ cs.drop z))) (cs.drop z) (by omega) hb
      (by rw [put_g, List.range_succ, List.map_append, List.flatten_append]; simp) (by rw [List.length_drop]; omega)
    refine ⟨h', g1, g2, g3, fun c hc => ?_⟩
    have := g4 c hc
    simp only [H.put, if_neg hc] at this
    exact this
/-- a cell that is frozen as it stands -/
def Cl (s : S) : Prop := ∀ (h : H) (d : Nat), frzS h d s = some s
theorem cl_i {k : IntKind} {n : Int} : Cl (.int k n) := fun _ _ => frz_i
theorem cl_b {n : Bool} : Cl (.bool n) := fun _ _ => frz_b
theorem cl_s {n : ByteArray} : Cl (.str n) := fun _ _ => frz_s
theorem cl_f {n : List (List S)} : Cl (.fs n) := fun _ _ => frz_f
theorem mapO_cl {h : H} {d : Nat} : ∀ {l : List S}, (∀ s ∈ l, Cl s) → mapO (frzS h d) l = some l
  | [], _ => rfl
  | s :: l, hl => by
    have h2 : mapO (frzS h d) l = some l := mapO_cl fun s hs => hl s (List.mem_cons_of_mem _ hs)
    simp [mapO, hl s (by simp) h d, h2]
theorem flat_len {z : Nat} : ∀ {rows : List (List S)}, (∀ r ∈ rows, r.length = z) → rows.flatten.length = rows.length * z
  | [], _ => by simp
  | r :: rows, h => by
    rw [List.flatten_cons, List.length_append, h r (by simp), flat_len fun r hr => h r (by simp [hr]), List.length_cons, Nat.succ_mul]; omega
theorem chunk_rows {z : Nat} : ∀ {rows : List (List S)}, (∀ r ∈ rows, r.length = z) → chunk z rows.length rows.flatten = rows
  | [], _ => rfl
  | r :: rows, h => by
    have hr := h r (by simp)
    have ih := chunk_rows (rows := rows) fun r hr => h r (by simp [hr])
    unfold chunk at ih ⊢
    rw [List.length_cons, List.range_succ_eq_map, List.map_cons, List.map_map]
    congr 1
    · simp [← hr]
    · conv => rhs; rw [← ih]
      refine List.map_congr_left fun i _ => ?_
      simp only [Function.comp_apply, List.flatten_cons]
      rw [Nat.succ_mul, Nat.add_comm, ← List.drop_drop, ← hr, List.drop_left]
theorem frzS_sl {h : H} {b z d : Nat} {rows : List (List S)} (hb : b < h.n) (hz0 : 0 < z) (hg : h.g b = .rw z rows.flatten) (hz : ∀ r ∈ rows, r.length = z) (hc : ∀ r ∈ rows, ∀ s ∈ r, Cl s) : frzS h (d + 1) (.sl (some (b, 0)) rows.length) = some (.fs rows) := by
  simp only [frzS]
  split
  · rename_i h0; rw [List.eq_nil_of_length_eq_zero h0]
  · have hl := flat_len hz
    simp only [hb, if_true, hg]
    rw [if_pos ⟨hz0, by omega⟩, List.drop_zero, List.take_of_length_le (by omega), mapO_cl (fun s hs => by
      obtain ⟨r, h1, h2⟩ := List.mem_flatten.1 hs
      exact hc r h1 s h2)]
    simp [chunk_rows hz]
theorem frzV_sv {h : H} {b z : Nat} {rows : List (List S)} (hb : b < h.n) (hz0 : 0 < z) (hg : h.g b = .rw z rows.flatten) (hz : ∀ r ∈ rows, r.length = z) (hc : ∀ r ∈ rows, ∀ s ∈ r, Cl s) : frzV h (sv b 0 rows.length) = some (lv rows) := by
  rw [frzV_s, frzS_sl hb hz0 hg hz hc]; rfl
theorem mkSl_of {z n : Nat} {zero : List S} {h : H} (hn : n ≤ lim) (hz0 : 0 < z) (hz : zero.length = z) {k1 k2 : IntKind} : mkSl z zero h (iv k1 (n : Int)) (iv k2 (n : Int)) = some (sv h.n 0 n, h.new z ((List.replicate n zero).flatten)) := by
  simp only [mkSl]
  rw [if_pos ⟨by omega, trivial, by omega, hz0, hz⟩]
  simp
theorem repl_len {n z : Nat} {zero : List S} (hz : zero.length = z) : ((List.replicate n zero).flatten).length = n * z := by
  rw [flat_len (z := z) (fun r hr => by rw [List.eq_of_mem_replicate hr, hz])]; simp
/-- a loop over rows that fills a slice -/
theorem fill_rows {z n b : Nat} {rows : List (List S)} {L : Int → H → Option LOut} {fin : List V} (hn : rows.length = n) (hr : ∀ r ∈ rows, r.length = z)
    (hstep : ∀ (i : Nat) (h : H) (r : List S), rows[i]? = some r → i < n → b < h.n → ∃ v l, VRow v r ∧ L i h = stK z h (pv b (i * z)) v fun h' => L ((i + 1 : Nat) : Int) (tidy h l h'))
    (hend : ∀ h, L n h = some (.done fin h)) (h : H) (cs : List S) (hb : b < h.n) (hg : h.g b = .rw z cs) (hl : cs.length = n * z) :
      ∃ h', L 0 h = some (.done fin h') ∧ h'.n = h.n ∧ h'.g b = .rw z rows.flatten ∧ ∀ c, c ≠ b → h'.g c = h.g c ∧ h'.v c = h.v c := by
  have hT : ∀ i, i < n → rows[i]? = some (rows.getD i []) := fun i hi => by rw [List.getD, List.getElem?_eq_getElem (by omega)]; rfl
  obtain ⟨h', g1, g2, g3, g4⟩ := fill_loop (z := z) (n := n) (b := b) (T := fun i => rows.getD i []) (L := L) (fin := fin) (fun i hi => hr _ (List.mem_of_getElem? (hT i hi)))
    (fun i h hi hb => hstep i h _ (hT i hi) hi hb) hend n 0 h cs (by omega) hb (by simpa using hg) hl
  refine ⟨h', g1, g2, ?_, g4⟩
  rw [g3]
  congr 2
  refine List.ext_getElem? fun i => ?_
  by_cases hi : i < n
  · rw [List.getElem?_map, List.getElem?_range hi, hT i hi]; rfl
  · rw [List.getElem?_eq_none (by simp; omega), List.getElem?_eq_none (by omega)]
end Vm
/-
  Bytes: as frozen slices, and as slices that are one's own.
-/
namespace Vm
open Go

def cell8 (c : UInt8) : S := .int .u8 c.toNat
/-- bytes as rows -/
def bys (l : List UInt8) : List (List S) := l.map fun c => [cell8 c]
/-- the byte at a place, as a number -/
def bt (l : List UInt8) (i : Int) : Int := ((l.getD i.toNat 0).toNat : Int)
theorem bt_nn (l : List UInt8) (i : Int) : 0 ≤ bt l i := by unfold bt; omega
theorem bt_lt (l : List UInt8) (i : Int) : bt l i < 256 := by
  unfold bt
  have := (l.getD i.toNat 0).toNat_lt
  omega
@[simp] theorem bys_len (l : List UInt8) : (bys l).length = l.length := by simp [bys]
theorem bys_row {l : List UInt8} : ∀ r ∈ bys l, r.length = 1 := by
  intro r hr
  obtain ⟨c, _, rfl⟩ := List.mem_map.1 hr
  rfl
theorem bys_cl {l : List UInt8} : ∀ r ∈ bys l, ∀ s ∈ r, Cl s := by
  intro r hr s hs
  obtain ⟨c, _, rfl⟩ := List.mem_map.1 hr
  rw [List.mem_singleton.1 hs]
  exact cl_i
theorem bys_flat (l : List UInt8) : (bys l).flatten = l.map cell8 := by
  induction l with
  | nil => rfl
  | cons c l ih => simp only [bys, List.map_cons, List.flatten_cons, List.singleton_append] at ih ⊢; rw [ih]
theorem bys_get {l : List UInt8} {i : Nat} (h : i < l.length) : (bys l)[i]? = some [.int .u8 (bt l i)] := by
  simp [bys, h, cell8, bt]
theorem bys_take (l : List UInt8) (n : Nat) : (bys l).take n = bys (l.take n) := by simp [bys, List.map_take]
theorem bys_drop (l : List UInt8) (n : Nat) : (bys l).drop n = bys (l.drop n) := by simp [bys, List.map_drop]
theorem bys_app (l m : List UInt8) : bys (l ++ m) = bys l ++ bys m := by simp [bys]
section
variable {R : Type}
/-- reading a byte -/
theorem idxF_by {l : List UInt8} {i : Int} {k : List S → Option R} (h0 : 0 ≤ i) (h1 : i < l.length) : idxF 1 (bys l) i k = k [.int .u8 (bt l i)] := by
  obtain ⟨n, rfl⟩ : ∃ n : Nat, i = n := ⟨i.toNat, by omega⟩
  exact idxF_at (bys_get (by omega)) rfl
theorem idxF_out {z : Nat} {rows : List (List S)} {i : Int} {k : List S → Option R} (h : ¬ (0 ≤ i ∧ i < rows.length)) : idxF z rows i k = none := by
  unfold idxF; rw [if_neg h]
theorem bnd_of {y n : Nat} {kd : IntKind} (h : n ≤ y) : bnd y (iv kd (n : Int)) = some n := by
  simp only [bnd]; rw [if_pos ⟨by omega, by omega⟩]; simp
theorem slF_lo {l : List UInt8} {a : Nat} {kd : IntKind} {k : List (List S) → Option R} (h : a ≤ l.length) : slF 1 (bys l) (some (iv kd (a : Int))) none k = k (bys (l.drop a)) := by
  unfold slF
  simp only [bys_len, Option.bind_some, bnd_of h, if_pos (show ∀ r ∈ bys l, r.length = 1 from bys_row)]
  rw [show l.length = (bys l).length from (bys_len l).symm, List.take_length, bys_drop]
theorem slF_hi {l : List UInt8} {b : Nat} {kd : IntKind} {k : List (List S) → Option R} (h : b ≤ l.length) : slF 1 (bys l) none (some (iv kd (b : Int))) k = k (bys (l.take b)) := by
  unfold slF
  simp only [bys_len, Option.bind_some, bnd_of h, if_pos (show ∀ r ∈ bys l, r.length = 1 from bys_row)]
  rw [bys_take, List.drop_zero]
theorem slF_lh {l : List UInt8} {a b : Nat} {kd kd' : IntKind} {k : List (List S) → Option R} (h : a ≤ b) (h2 : b ≤ l.length) : slF 1 (bys l) (some (iv kd (a : Int))) (some (iv kd' (b : Int))) k = k (bys ((l.take b).drop a)) := by
  unfold slF
  simp only [bys_len, Option.bind_some, bnd_of h, bnd_of h2, if_pos (show ∀ r ∈ bys l, r.length = 1 from bys_row)]
  rw [bys_take, bys_drop]
end
theorem bytesS_map (l : List UInt8) : bytesS (l.map cell8) = some l := by
  induction l with
  | nil => rfl
  | cons c l ih =>
    have := c.toNat_lt
    simp only [List.map_cons, cell8, bytesS] at ih ⊢
    rw [ih, Option.bind_some, if_pos ⟨by omega, by omega⟩]
    simp
theorem fsStr_by {l : List UInt8} (h : l.length ≤ lim) : fsStr (bys l) = some (.s (.str ⟨l.toArray⟩)) := by
  unfold fsStr
  rw [if_pos bys_row, Option.bind_some, bys_flat, bytesS_map, Option.bind_some, bys_len, if_pos h]

/-- a slice that holds all of a block's bytes, and may be written -/
structure BysW (h : H) (v : V) (l : List UInt8) (b : Nat) : Prop where
  v : v = sv b 0 l.length
  n : b < h.n
  g : h.g b = .rw 1 (l.map cell8)
theorem BysW.newly (h : H) (l : List UInt8) : BysW (h.new 1 (l.map cell8)) (sv h.n 0 l.length) l h.n := ⟨rfl, by simp, by simp⟩
theorem BysW.frz {h : H} {v : V} {l : List UInt8} {b d : Nat} (w : BysW h v l b) : v = sv b 0 l.length ∧ frzS h (d + 1) (.sl (some (b, 0)) l.length) = some (.fs (bys l)) := by
  refine ⟨w.v, ?_⟩
  have := frzS_sl (h := h) (b := b) (z := 1) (d := d) (rows := bys l) w.n (by omega) (by rw [bys_flat]; exact w.g) bys_row bys_cl
  rwa [bys_len] at this
/-- bytes that are one's own: none at all, or a block -/
def Own (h : H) (v : V) (l : List UInt8) : Option Nat → Prop
  | none => v = .s (.sl none 0) ∧ l = []
  | some b => BysW h v l b
theorem Own.frz {h : H} {v : V} {l : List UInt8} {ob : Option Nat} {d : Nat} (w : Own h v l ob) : ∃ s, v = .s s ∧ frzS h (d + 1) s = some (.fs (bys l)) := by
  cases ob with
  | none => obtain ⟨rfl, rfl⟩ := w; exact ⟨_, rfl, frz_n⟩
  | some b => obtain ⟨h1, h2⟩ := BysW.frz (d := d) w; exact ⟨_, h1, h2⟩
theorem BysW.set {R : Type} {h : H} {n : Nat} {l : List UInt8} {b i : Nat} {c : UInt8} {x : Int} {k : H → Option R} (w : BysW h (sv b 0 n) l b) (hi : i < l.length) (hx : x = (c.toNat : Int)) : stK 1 h (pv b (i * 1)) (iv .u8 x) k = k (h.put b (.rw 1 ((l.set i c).map cell8))) := by
  subst hx
  rw [stK_rw (z := 1) (e := 1) (o := i * 1) (v := iv .u8 c.toNat) (cs := l.map cell8) (r := [cell8 c]) w.n w.g (.inl ⟨_, rfl, rfl, rfl⟩) rfl (by simp; omega)]
  congr 3
  unfold setAt
  rw [List.map_set, List.set_eq_take_append_cons_drop, if_pos (by simp; omega)]
  simp
theorem BysW.set_w {h : H} {n : Nat} {l : List UInt8} {b i : Nat} {c : UInt8} (w : BysW h (sv b 0 n) l b) : BysW (h.put b (.rw 1 ((l.set i c).map cell8))) (sv b 0 n) (l.set i c) b := by
  refine ⟨?_, w.n, put_g _ _ _⟩
  rw [w.v, List.length_set]
theorem BysW.len {h : H} {n : Nat} {l : List UInt8} {b : Nat} (w : BysW h (sv b 0 n) l b) : n = l.length := by
  have := w.v
  injection this with h1
  injection h1
theorem BysW.get {R : Type} {h : H} {n : Nat} {l : List UInt8} {b i : Nat} {ti : TI} {k : V → Option R} (w : BysW h (sv b 0 n) l b) (hi : i < l.length) (hz : ti.agg = false) : ldK (.one (.i .u8)) ti h (pv b (i * 1)) k = k (iv .u8 (bt l i)) := by
  have : load1 h (pv b (i * 1)) = some (.int .u8 (bt l i)) := by
    simp [load1, H.cells, w.n, w.g, Blk.cells, hi, cell8, bt]
  simp only [ldK, ldT, hz, cond_false, this, Option.bind_some]
theorem bt_ext {l m : List UInt8} (hl : l.length = m.length) (h : ∀ i : Nat, i < l.length → bt l i = bt m i) : l = m := by
  refine List.ext_getElem hl fun i h1 h2 => ?_
  have := h i h1
  simp only [bt, Int.toNat_natCast, List.getD, List.getElem?_eq_getElem h1, List.getElem?_eq_getElem h2, Option.getD_some] at this
  exact UInt8.toNat_inj.1 (by omega)
end Vm
/-
  What the laws' helpers on bytes come to: a copy, a comparison, marks written and found again.
-/
namespace Vm
open Go

theorem p_eqByteS {l m : List UInt8} (hl : l.length ≤ maxLen) : pureV (call Ev) Fn.laws_eqByteS [lv (bys l), lv (bys m)] = some (bv (decide (l = m))) := by
  unfold maxLen at hl
  rw [pu_laws_eqByteS, vcase_b, bys_len, bys_len]
  by_cases hlm : l.length = m.length
  case neg =>
    rw [if_pos (by simp; omega)]
    rw [show decide (l = m) = false from by simp; intro e; exact hlm (by rw [e])]
  rw [if_neg (by simp [hlm])]
  have loop : ∀ (k i : Nat), i + k = l.length → (∀ j : Nat, j < i → bt l j = bt m j) → Lp.laws_eqByteS 0 [lv (bys l), lv (bys m), iv .i64 i] (D 0) = some (if l = m then .done [] (D 0) else .ret (bv false) (D 0)) := by
    intro k
    induction k with
    | zero =>
      intro i hi hj
      rw [eq_laws_eqByteS_l0, vcase_b, if_neg (by simp; omega), if_pos (bt_ext hlm fun j hjl => hj j (by omega)), tidy_self]
    | succ k ih =>
      intro i hi hj
      rw [eq_laws_eqByteS_l0, vcase_b, if_pos (by simp; omega), idxF_by (by omega) (by omega)]
      simp only [List.getElem?_cons_zero, Option.bind_some, gI_i]
      rw [idxF_by (by omega) (by omega)]
      simp only [List.getElem?_cons_zero, Option.bind_some, gI_i]
      rw [vcase_b]
      by_cases hb : bt l i = bt m i
      · rw [if_neg (by simpa using hb), w64 (by omega) (by omega), show (i : Int) + 1 = ((i + 1 : Nat) : Int) from by omega, tidy_self]
        refine ih (i + 1) (by omega) fun j hji => ?_
        by_cases hje : j = i
        · subst hje; exact hb
        · exact hj j (by omega)
      · rw [if_pos (by simpa using hb), if_neg (fun e => hb (by rw [e]))]
  rw [show iv .i64 0 = iv .i64 ((0 : Nat) : Int) from rfl, loop l.length 0 (by omega) (fun j hj => by omega)]
  by_cases he : l = m <;> simp [he]

def marks (k : Nat) (n : Nat) : List UInt8 := (List.range n).map fun i => UInt8.ofNat ((k + i) % 256)
theorem marks_len (k n : Nat) : (marks k n).length = n := by simp [marks]
theorem marks_get {k n i : Nat} (h : i < n) : (marks k n)[i]? = some (UInt8.ofNat ((k + i) % 256)) := by simp [marks, h]
theorem wrap8 (k : Nat) : IntKind.u8.wrap (k : Int) = ((UInt8.ofNat (k % 256)).toNat : Int) := by
  simp [IntKind.wrap, IntKind.signed, IntKind.bits]
theorem marks_bt {k n i : Nat} (h : i < n) : bt (marks k n) i = IntKind.u8.wrap ((k + i : Nat) : Int) := by
  rw [wrap8]
  simp only [bt, Int.toNat_natCast, List.getD, marks_get h, Option.getD_some]
theorem r_mark {h : H} {v : V} {l : List UInt8} {ob : Option Nat} {k : Nat} (hv : Own h v l ob) (hl : k + l.length < 2 ^ 62) :
    ∃ h', call Ev Fn.laws_markByteS [v, iv .i64 k] h = some (iv .i64 ((k + l.length : Nat) : Int), h') ∧ Own h' v (marks k l.length) ob ∧ h'.n = h.n ∧ ∀ c, ob ≠ some c → h'.g c = h.g c ∧ h'.v c = h.v c := by
  cases ob with
  | none =>
    obtain ⟨rfl, rfl⟩ := hv
    refine ⟨h, ?_, ⟨rfl, rfl⟩, rfl, fun _ _ => ⟨rfl, rfl⟩⟩
    rw [eq_laws_markByteS, eq_laws_markByteS_l0]
    simp only [lenV, Option.bind_some, gV1_s, gI_i, vcase_b]
    simp
  | some b =>
    obtain ⟨rfl, hb, hg⟩ := hv
    obtain ⟨h', e1, e2, e3, e4⟩ := fill_rows (z := 1) (n := l.length) (b := b) (rows := bys (marks k l.length)) (L := fun i h => Lp.laws_markByteS 0 [sv b 0 l.length, iv .i64 (k + i), iv .i64 i] h) (fin := [iv .i64 ((k + l.length : Nat) : Int)]) (by simp [marks_len]) bys_row
      (fun i h r hr hi hb => by
        rw [bys_get (by rw [marks_len]; exact hi), marks_bt hi] at hr; cases hr
        refine ⟨iv .u8 (IntKind.u8.wrap ((k + i : Nat) : Int)), [sv b 0 l.length, iv .i64 ((k : Int) + ((i + 1 : Nat) : Int)), iv .i64 ((i + 1 : Nat) : Int)], .inl ⟨_, rfl, rfl, rfl⟩, ?_⟩
        show Lp.laws_markByteS 0 _ h = _
        rw [eq_laws_markByteS_l0]
        simp only [lenV, Option.bind_some, gV1_s, gI_i, vcase_b]
        rw [if_pos (by simp; omega), idxK_sv hi, w64 (by omega) (by omega), w64 (by omega) (by omega), show (i : Int) + 1 = ((i + 1 : Nat) : Int) from by omega, show (k : Int) + (i : Int) + 1 = (k : Int) + ((i + 1 : Nat) : Int) from by omega]
        rfl)
      (fun h => by
        show Lp.laws_markByteS 0 _ h = _
        rw [eq_laws_markByteS_l0]
        simp only [lenV, Option.bind_some, gV1_s, gI_i, vcase_b]
        rw [if_neg (by simp), tidy_self]
        rfl) h _ hb hg (by simp)
    rw [eq_laws_markByteS]
    rw [Int.add_zero] at e1
    rw [e1]
    exact ⟨h', rfl, ⟨by rw [marks_len], by rw [e2]; exact hb, by rw [e3, bys_flat]⟩, e2, fun c hc => e4 c (by intro e; subst e; exact hc rfl)⟩
theorem p_held {k n : Nat} (hl : k + n < 2 ^ 62) : pureV (call Ev) Fn.laws_heldByteS [lv (bys (marks k n)), iv .i64 k] = some (iv .i64 ((k + n : Nat) : Int)) := by
  have hlen := marks_len k n
  have loop : ∀ (q i : Nat), i + q = n → Lp.laws_heldByteS 0 [lv (bys (marks k n)), iv .i64 ((k + i : Nat) : Int), iv .i64 i] (D 0) = some (.done [iv .i64 ((k + n : Nat) : Int)] (D 0)) := by
    intro q
    induction q with
    | zero =>
      intro i hi
      rw [eq_laws_heldByteS_l0, vcase_b, bys_len, hlen, if_neg (by simp; omega), tidy_self, show k + i = k + n from by omega]
    | succ q ih =>
      intro i hi
      rw [eq_laws_heldByteS_l0, vcase_b, bys_len, hlen, if_pos (by simp; omega), idxF_by (by omega) (by omega), marks_bt (by omega)]
      simp only [List.getElem?_cons_zero, Option.bind_some, gI_i]
      rw [vcase_b, if_neg (by simp), w64 (by omega) (by omega), w64 (by omega) (by omega), tidy_self,
          show ((k + i : Nat) : Int) + 1 = ((k + (i + 1) : Nat) : Int) from by omega, show (i : Int) + 1 = ((i + 1 : Nat) : Int) from by omega]
      exact ih (i + 1) (by omega)
  rw [pu_laws_heldByteS, show iv .i64 0 = iv .i64 ((0 : Nat) : Int) from rfl, show iv .i64 (k : Int) = iv .i64 ((k + 0 : Nat) : Int) from rfl, loop n 0 (by omega)]
  simp
end Vm
/-
  Calls with an answer that is new, and what is one's own of it.
-/
namespace Vm
open Go

theorem over_n {h h1 : H} (hn : h.n ≤ h1.n) : (h.over h1).n = h1.n := by simp only [H.over]; omega
theorem over_lt {h h1 : H} {b : Nat} (hb : b < h.n) : (h.over h1).g b = h.g b ∧ (h.over h1).v b = h.v b := by simp [H.over, hb]
theorem over_ge {h h1 : H} {b : Nat} (hb : h.n ≤ b) : (h.over h1).g b = h1.g b := by simp only [H.over]; rw [if_neg (by omega)]
/-- a heap with what was there, and more -/
structure Up (h h' : H) : Prop where
  n : h.n ≤ h'.n
  g : ∀ b, b < h.n → h'.g b = h.g b
theorem Up.refl (h : H) : Up h h := ⟨Nat.le_refl _, fun _ _ => rfl⟩
theorem Up.trans {a b c : H} (x : Up a b) (y : Up b c) : Up a c := ⟨Nat.le_trans x.n y.n, fun i hi => (y.g i (Nat.lt_of_lt_of_le hi x.n)).trans (x.g i hi)⟩
theorem up_over {h h1 : H} (hn : h.n ≤ h1.n) : Up h (h.over h1) := ⟨by rw [over_n hn]; exact hn, fun b hb => (over_lt hb).1⟩
theorem up_new {h : H} {e : Nat} {cs : List S} : Up h (h.new e cs) := ⟨by simp, fun b hb => new_g' (by omega)⟩
theorem Own.up {h h' : H} (u : Up h h') {v : V} {l : List UInt8} {ob : Option Nat} (x : Own h v l ob) : Own h' v l ob := by
  cases ob with
  | none => exact x
  | some b => exact ⟨x.v, Nat.lt_of_lt_of_le x.n u.n, by rw [u.g b x.n]; exact x.g⟩
/-- all but one block as it was -/
structure But (b : Option Nat) (h h' : H) : Prop where
  n : h'.n = h.n
  g : ∀ c, b ≠ some c → h'.g c = h.g c
theorem Own.but {h h' : H} {o : Option Nat} (u : But o h h') {v : V} {l : List UInt8} {ob : Option Nat} (x : Own h v l ob) (hne : ∀ b, ob = some b → o ≠ some b) : Own h' v l ob := by
  cases ob with
  | none => exact x
  | some b => exact ⟨x.v, by rw [u.n]; exact x.n, by rw [u.g b (hne b rfl)]; exact x.g⟩
theorem tidy_same {h h' : H} {l : List V} (hn : h'.n = h.n) (hg : ∀ c, h.n ≤ c → h'.g c = h.g c ∧ h'.v c = h.v c) : tidy h l h' = h' := by
  unfold tidy
  split
  · obtain ⟨n', g', v'⟩ := h'
    simp only at hn
    subst hn
    simp only [H.mk.injEq, true_and]
    constructor <;> (funext b; split <;> first | rfl | (have := hg b (by omega); simp_all))
  · rfl
/-- cells that lead nowhere, once they are frozen -/
theorem nofz_of {n : Nat} {v : V} {h : H} (h1 : scaV v = true) (h2 : ∀ b, n ≤ b → b < h.n → ∀ s ∈ (h.g b).cells, scaS s = true) : NoFz n (v, h) := ⟨h1, h2⟩
theorem pF {R : Type} {cl : Nat → List V → H → Option (V × H)} {g : Nat} {off : Bool} {xs : List V} {h h1 : H} {v : V} {k : V → H → Option R} (hc : cl g xs (D h.n) = some (v, h1)) (hz : NoFz h.n (v, h1)) : pcallF cl g off xs h k = k v (h.over h1) := by
  unfold pcallF
  rw [hc, ob]
  unfold fchk
  rw [if_pos (.inr hz.1)]
  have e : h.over (scrub h.n h1) = h.over h1 := by
    unfold H.over scrub
    simp only [H.mk.injEq, true_and, and_true]
    funext b
    by_cases hb : b < h.n
    · rw [if_pos hb, if_pos hb]
    · rw [if_neg hb, if_neg hb, if_neg]
      rintro ⟨h2, h3, h4⟩
      have : ((h1.g b).cells.all scaS) = true := List.all_eq_true.2 (hz.2 b h2 h3)
      rw [this] at h4; cases h4
  cases off with
  | true => rfl
  | false => dsimp only [cond_false]; rw [e]
theorem loadN_rw {n e b o : Nat} {h : H} {cs : List S} (hb : b < h.n) (hg : h.g b = .rw e cs) (ho : o + n ≤ cs.length) : loadN n h (pv b o) = some ((cs.drop o).take n) := by
  simp only [loadN, H.cells, hb, if_true, hg, Blk.cells, true_and]
  rw [if_pos ho]
theorem loadN_2 {e b : Nat} {h : H} {x y : S} (hb : b < h.n) (hg : h.g b = .rw e [x, y]) : loadN 2 h (pv b 0) = some [x, y] := loadN_rw hb hg (by simp)
/-- a pair stored into a new block -/
theorem st2_new {R : Type} {h : H} {x y a b : S} {k : H → Option R} : stK 2 (h.new 0 [a, b]) (pv h.n 0) (.agg [x, y]) k = k ((h.new 0 [a, b]).put h.n (.rw 0 [x, y])) :=
  stK_rw (z := 2) (e := 0) (o := 0) (b := h.n) (cs := [a, b]) (r := [x, y]) (by simp) (new_g _ _ _) (.inr rfl) rfl (by simp)
theorem up_st {h : H} {e e' : Nat} {cs cs' : List S} : Up h ((h.new e cs).put h.n (.rw e' cs')) := ⟨by simp, fun b hb => by rw [put_g' (by omega), new_g' (by omega)]⟩
theorem g_st {h : H} {e e' : Nat} {cs cs' : List S} : ((h.new e cs).put h.n (.rw e' cs')).g h.n = .rw e' cs' := put_g _ _ _
theorem n_st {h : H} {e e' : Nat} {cs cs' : List S} : ((h.new e cs).put h.n (.rw e' cs')).n = h.n + 1 := by simp
/-- a result of a code and bytes: its two cells -/
def Own2 (h : H) (c : Int) (y : S) (l : List UInt8) (ob : Option Nat) : Prop := Own h (.s y) l ob
theorem frz2 {h : H} {c : Int} {y : S} {l : List UInt8} {ob : Option Nat} (w : Own h (.s y) l ob) : frzV h (.agg [.int .i64 c, y]) = some (.agg [.int .i64 c, .fs (bys l)]) := by
  obtain ⟨s, h1, h2⟩ := w.frz (d := 7)
  cases h1
  simp [h2]
theorem frz1 {h : H} {v : V} {l : List UInt8} {ob : Option Nat} (w : Own h v l ob) : frzV h v = some (lv (bys l)) := by
  obtain ⟨s, rfl, h2⟩ := w.frz (d := 7)
  simp [h2]
theorem frzVs_nil {h : H} : frzVs h [] = some [] := id rfl
theorem frzVs_cons {h : H} {v w : V} {vs ws : List V} (h1 : frzV h v = some w) (h2 : frzVs h vs = some ws) : frzVs h (v :: vs) = some (w :: ws) := by simp [frzVs, h1, h2]
theorem frzV_iv {h : H} {k : IntKind} {n : Int} : frzV h (iv k n) = some (iv k n) := by simp
theorem frzV_lv {h : H} {l : List (List S)} : frzV h (lv l) = some (lv l) := by simp
theorem frzV_agf {h : H} {c : Int} {l : List (List S)} : frzV h (.agg [.int .i64 c, .fs l]) = some (.agg [.int .i64 c, .fs l]) := by simp
theorem norm_nil {l : List V} : normVs [] l = l := by cases l <;> rfl
/-- what a function that answers with new bytes comes to: on a heap of which nothing is left -/
structure NewB (n : Nat) (h : H) (v : V) (l : List UInt8) (ob : Option Nat) : Prop where
  own : Own h v l ob
  le : n ≤ h.n
  new : ∀ b, ob = some b → n ≤ b
  z : ∀ b, n ≤ b → b < h.n → ∀ s ∈ (h.g b).cells, scaS s = true
theorem Own.sca {h : H} {y : S} {l : List UInt8} {ob : Option Nat} (w : Own h (.s y) l ob) : scaS y = true := by
  cases ob with
  | none => obtain ⟨h1, _⟩ := w; cases h1; rfl
  | some b => have := w.v; cases this; rfl
end Vm
/-
  A copy of bytes, as a call whose answer is new.
-/
namespace Vm
open Go

/-- an answer of new bytes that lie in a block -/
structure NewA (n : Nat) (h : H) (v : V) (l : List UInt8) : Prop where
  own : BysW h v l n
  le : h.n = n + 1
theorem NewA.nofz {n : Nat} {h : H} {v : V} {l : List UInt8} (w : NewA n h v l) : NoFz n (v, h) := by
  refine nofz_of ?_ fun b h1 h2 s hs => ?_
  · rw [w.own.v]; rfl
  · have : b = n := by have := w.le; omega
    subst this
    rw [w.own.g] at hs
    obtain ⟨c, _, rfl⟩ := List.mem_map.1 hs
    rfl
theorem f_toByteS {l : List UInt8} (hl : l.length ≤ lim) (n : Nat) : ∃ v h', call Ev Fn.laws_toByteS [lv (bys l)] (D n) = some (v, h') ∧ NewA n h' v l := by
  have hl' := hl
  unfold lim at hl'
  rw [eq_laws_toByteS, bys_len, mkSl_of (z := 1) (zero := [.int .u8 0]) hl (by omega) rfl, ob]
  obtain ⟨h', e1, e2, e3, e4⟩ := fill_rows (z := 1) (n := l.length) (b := n) (rows := bys l) (L := fun i h => Lp.laws_toByteS 0 [lv (bys l), sv n 0 l.length, iv .i64 i] h) (fin := [sv n 0 l.length]) (by simp) bys_row
    (fun i h r hr hi hb => by
      rw [bys_get hi] at hr; cases hr
      refine ⟨iv .u8 (bt l i), [lv (bys l), sv n 0 l.length, iv .i64 ((i + 1 : Nat) : Int)], .inl ⟨_, rfl, rfl, rfl⟩, ?_⟩
      show Lp.laws_toByteS 0 _ h = _
      rw [eq_laws_toByteS_l0, vcase_b, if_pos (by simp; omega), idxF_by (by omega) (by omega)]
      simp only [gx0, ob, gI_i]
      rw [idxK_sv hi, w64 (by omega) (by omega), show (i : Int) + 1 = ((i + 1 : Nat) : Int) from by omega])
    (fun h => by
      show Lp.laws_toByteS 0 _ h = _
      rw [eq_laws_toByteS_l0, vcase_b, if_neg (by simp), tidy_self])
    ((D n).new 1 ((List.replicate l.length [.int .u8 0]).flatten)) _ (by simp) (by exact new_g (D n) _ _) (repl_len rfl)
  rw [D_n, e1]
  simp only [ob, lcase_done, gx0]
  exact ⟨_, _, rfl, ⟨rfl, by rw [e2]; simp, by rw [e3, bys_flat]⟩, by rw [e2]; simp⟩
theorem p_toByteS {l : List UInt8} (hl : l.length ≤ lim) : pureV (call Ev) Fn.laws_toByteS [lv (bys l)] = some (lv (bys l)) := by
  obtain ⟨v, h', e, w⟩ := f_toByteS hl 0
  unfold pureV
  rw [e, ob, frz1 (ob := some 0) w.own]
end Vm
/-
  Bytes that came in.
-/
namespace Vm
open Go

theorem rows8 {P : Program} {m : Nat} {e : TypeId} (he : P.underlying e = some (.int .u8)) : ∀ rows : List (List S), (∀ r ∈ rows, r.length = P.cellsOf e ∧ Rp P m e r) → ∃ l : List UInt8, rows = bys l
  | [], _ => ⟨[], rfl⟩
  | r :: rows, hr => by
    obtain ⟨l, h1⟩ := rows8 he rows fun r hm => hr r (by simp [hm])
    obtain ⟨n, h3, h4⟩ := (hr r (by simp)).2.int he
    have hb := wf8 h4
    refine ⟨UInt8.ofNat n.toNat :: l, ?_⟩
    have : cell8 (UInt8.ofNat n.toNat) = .int .u8 n := by
      unfold cell8
      congr 1
      simp
      omega
    rw [h1, h3]
    simp only [bys, List.map_cons, this]
theorem bys_of {P : Program} {n : Nat} {t e : TypeId} {s : S} (ht : P.underlying t = some (.slice e)) (he : P.underlying e = some (.int .u8)) (hr : Rp P n t [s]) : ∃ l, s = .fs (bys l) ∧ l.length ≤ maxLen := by
  obtain ⟨m, rows, h1, h2, h3⟩ := hr.slice ht
  obtain ⟨l, rfl⟩ := rows8 he rows h3
  cases h1
  exact ⟨l, rfl, by simpa using h2⟩
theorem rp_Bytes {n : Nat} {s : S} (hr : Rp PR n T.S_uint8 [s]) : ∃ l, s = .fs (bys l) ∧ l.length ≤ maxLen := bys_of und_S_uint8 und_uint8 hr
theorem arg_Bytes {x : V} (hr : ArgRp PR T.S_uint8 x) : ∃ l, x = lv (bys l) ∧ l.length ≤ maxLen := by
  obtain ⟨s, n, rfl, h1⟩ := hr.slice und_S_uint8
  obtain ⟨l, rfl, h2⟩ := rp_Bytes h1
  exact ⟨l, rfl, h2⟩
theorem arg_u8 {x : V} (hr : ArgRp PR T.uint8 x) : ∃ c : UInt8, x = iv .u8 c.toNat := by
  obtain ⟨n, rfl, h⟩ := hr.int und_uint8
  have := wf8 h
  exact ⟨UInt8.ofNat n.toNat, by congr 2; simp; omega⟩
end Vm
/-
  Runs: their fault, their size, a comparison.
-/
namespace Vm
open Go

structure RunD where
  at_ : Int
  l : List UInt8
abbrev RunD.cs (r : RunD) : List S := [.int .i64 r.at_, .fs (bys r.l)]
def runs (rs : List RunD) : List (List S) := rs.map RunD.cs
@[simp] theorem runs_len (rs : List RunD) : (runs rs).length = rs.length := by simp [runs]
theorem runs_row {rs : List RunD} : ∀ r ∈ runs rs, r.length = 2 := by
  intro r hr
  obtain ⟨c, _, rfl⟩ := List.mem_map.1 hr
  rfl
theorem runs_cl {rs : List RunD} : ∀ r ∈ runs rs, ∀ s ∈ r, Cl s := by
  intro r hr s hs
  obtain ⟨c, _, rfl⟩ := List.mem_map.1 hr
  rcases List.mem_cons.1 hs with rfl | hs
  · exact cl_i
  · rw [List.mem_singleton.1 hs]; exact cl_f
theorem runs_get {rs : List RunD} {i : Nat} {r : RunD} (h : rs[i]? = some r) : (runs rs)[i]? = some r.cs := by simp [runs, h]
section
variable {R : Type}
theorem idxF_run {rs : List RunD} {i : Nat} {r : RunD} {k : List S → Option R} (h : rs[i]? = some r) : idxF 2 (runs rs) (i : Int) k = k r.cs := idxF_at (runs_get h) rfl
end
theorem rowN_run {r : RunD} : rowN 2 r.cs 0 = some r.cs := rowN_all rfl
structure RunD.ok (r : RunD) : Prop where
  a1 : -9223372036854775808 ≤ r.at_
  a2 : r.at_ < 9223372036854775808
  n : r.l.length ≤ maxLen
/-! size -/
/-- what is left of a number of cells, or -1 -/
def szL (n : Int) (left : Int) : Int := if n ≤ left then left - n else -1
def szRuns : List RunD → Int → Int
  | [], left => left
  | r :: rs, left => if (r.l.length : Int) ≤ left then szRuns rs (left - r.l.length) else -1
theorem szRuns_le : ∀ (rs : List RunD) (left : Int), 0 ≤ left → szRuns rs left ≤ left ∧ -1 ≤ szRuns rs left
  | [], left, h => ⟨Int.le_refl _, by simp only [szRuns]; omega⟩
  | r :: rs, left, h => by
    simp only [szRuns]
    split
    · have := szRuns_le rs (left - r.l.length) (by omega); omega
    · omega
theorem szRuns_all : ∀ (rs : List RunD) (left : Int), 0 ≤ szRuns rs left → ∀ r ∈ rs, (r.l.length : Int) ≤ left
  | [], left, h => by simp
  | r :: rs, left, h => by
    simp only [szRuns] at h
    split at h
    · intro x hx
      rcases List.mem_cons.1 hx with rfl | hx
      · assumption
      · have := szRuns_all rs _ h x hx; omega
    · omega
theorem p_szByteS {l : List UInt8} {left : Int} (h1 : 0 ≤ left) (h2 : left < 9223372036854775808) (hl : l.length ≤ maxLen) : pureV (call Ev) Fn.laws_szByteS [lv (bys l), iv .i64 left] = some (iv .i64 (szL l.length left)) := by
  unfold maxLen at hl
  rw [pu_laws_szByteS, vcase_b, bys_len, w64 (by omega) (by omega)]
  unfold szL
  simp only [decide_eq_true_eq]
  split <;> split <;> first | rfl | omega
/-! a comparison -/
/-! the fault -/
def runsG : Int → List RunD → Int
  | _, [] => 0
  | least, r :: rs => if inB r.at_ 0 63 && inB r.l.length 1 64 && decide (r.at_ + r.l.length ≤ 64) then (if r.at_ < least then 1 else runsG (r.at_ + r.l.length + 1) rs) else 3
def runsF (rs : List RunD) : Int := if 64 < rs.length then 2 else runsG 0 rs
theorem p_RunsFault {all : List RunD} (hl : all.length ≤ maxLen) : pureV (call Ev) Fn.impl_RunsFault [lv (runs all)] = some (iv .i64 (runsF all)) := by
  unfold maxLen at hl
  have loop : ∀ (rs : List RunD) (i : Nat) (q : Int), all.drop i = rs →
      (Lp.impl_RunsFault 0 [iv .i64 q, lv (runs all), iv .i64 all.length, iv .i64 i] (D 0)).bind (fun o102 => lcase o102 (fun l103 h104 => some (iv .i64 0)) (fun v105 h106 => frzV h106 v105)) = some (iv .i64 (runsG q rs)) := by
    intro rs
    induction rs with
    | nil =>
      intro i q hi
      have := drop_nil hi
      rw [eq_impl_RunsFault_l0, vcase_b, if_neg (by simp; omega), tidy_self]
      simp [runsG]
    | cons r rs ih =>
      intro i q hi
      obtain ⟨g1, g2, g3⟩ := drop_cons hi
      rw [eq_impl_RunsFault_l0, vcase_b, if_pos (by simp; omega), idxF_run g1, rowN_run]
      simp only [ob, gx0, gx1, gI_i, gF_f, ln0, ln1, Nat.zero_add, Nat.reduceAdd, if_true]
      rw [stK_rw (z := 2) (e := 0) (o := 0) (b := (D 0).n) (cs := [.int .i64 0, .sl none 0]) (r := r.cs) (by simp) (new_g _ _ _) (.inr rfl) rfl (by simp)]
      have l0 : ∀ {X : List S}, load1 (((D 0).new 0 [.int .i64 0, .sl none 0]).put (D 0).n (.rw 0 X)) (pv (D 0).n 0) = X[0]? := fun {X} => by simp [load1, H.cells, Blk.cells]
      have l1 : ∀ {X : List S}, load1 (((D 0).new 0 [.int .i64 0, .sl none 0]).put (D 0).n (.rw 0 X)) (pv (D 0).n 1) = X[1]? := fun {X} => by simp [load1, H.cells, Blk.cells]
      have se : setAt [.int .i64 0, .sl none 0] 0 r.cs = r.cs := id rfl
      rw [se]
      simp only [l0, l1, gx0, gx1, ob, lenV, gV1_s, gI_i, bys_len]
      rw [pc (p_in _ _ _) rfl]
      simp only [gV1_s, gB_b, vcase_b]
      unfold runsG
      cases hA : inB r.at_ 0 63
      · simp
      simp only [Bool.not_true, Bool.false_eq_true, if_false, Bool.true_and]
      rw [pc (p_in _ _ _) rfl]
      simp only [gV1_s, gB_b, vcase_b]
      cases hB : inB r.l.length 1 64
      · simp
      simp only [Bool.not_true, Bool.false_eq_true, if_false, Bool.true_and]
      have hA' := inB_iff.1 hA
      have hB' := inB_iff.1 hB
      rw [w64 (n := r.at_ + (r.l.length : Int)) (by omega) (by omega)]
      by_cases h64 : r.at_ + (r.l.length : Int) ≤ 64
      case neg => rw [if_pos (by simp; omega)]; simp [h64]
      rw [if_neg (by simp; omega)]
      by_cases hq : r.at_ < q
      · rw [if_pos (by simpa using hq)]; simp [h64, hq]
      rw [if_neg (by simpa using hq), w64 (by omega) (by omega), w64 (by omega) (by omega), tidy_ext ((HKeep.refl _).new.put (by simp)) (by simp [belV, belS]), show (i : Int) + 1 = ((i + 1 : Nat) : Int) from by omega, ih (i + 1) _ g2]
      simp [h64, hq]
  rw [pu_impl_RunsFault, vcase_b, runs_len]
  unfold runsF
  by_cases h64 : 64 < all.length
  · rw [if_pos (by simp; omega), if_pos h64]
  · rw [if_neg (by simp; omega), if_neg h64]
    exact loop all 0 0 rfl
theorem p_l3Fault {all : List RunD} (hl : all.length ≤ maxLen) : pureV (call Ev) Fn.spec_l3Fault [lv (runs all)] = some (iv .i64 (runsF all)) := by
  unfold maxLen at hl
  have loop : ∀ (rs : List RunD) (i : Nat) (q : Int), all.drop i = rs → (i = 0 ∧ q = 0 ∨ 0 < i ∧ ∃ p : RunD, all[i - 1]? = some p ∧ q = p.at_ + p.l.length + 1 ∧ 0 ≤ p.at_ ∧ p.at_ + p.l.length ≤ 64) →
      (Lp.spec_l3Fault 0 [lv (runs all), iv .i64 i] (D 0)).bind (fun o102 => lcase o102 (fun l103 h104 => some (iv .i64 0)) (fun v105 h106 => frzV h106 v105)) = some (iv .i64 (runsG q rs)) := by
    intro rs
    induction rs with
    | nil =>
      intro i q hi _
      have := drop_nil hi
      rw [eq_spec_l3Fault_l0, vcase_b, if_neg (by simp; omega), tidy_self]
      simp [runsG]
    | cons r rs ih =>
      intro i q hi hprev
      obtain ⟨g1, g2, g3⟩ := drop_cons hi
      rw [eq_spec_l3Fault_l0, vcase_b, if_pos (by simp; omega), idxF_run g1]
      simp only [gx0, gx1, ob, gI_i, gF_f, bys_len]
      rw [idxF_run g1]
      simp only [gx0, gx1, ob, gI_i, gF_f, bys_len]
      rw [pc (p_l1In _ _ _) rfl]
      simp only [gV1_s, gB_b, vcase_b]
      unfold runsG
      cases hA : inB r.at_ 0 63
      · simp
      simp only [Bool.not_true, Bool.false_eq_true, if_false, Bool.true_and]
      rw [pc (p_l1In _ _ _) rfl]
      simp only [gV1_s, gB_b, vcase_b]
      cases hB : inB r.l.length 1 64
      · simp
      simp only [Bool.not_true, Bool.false_eq_true, if_false, Bool.true_and]
      have hA' := inB_iff.1 hA
      have hB' := inB_iff.1 hB
      rw [idxF_run g1]
      simp only [gx0, gx1, ob, gI_i, gF_f, bys_len]
      rw [w64 (n := r.at_ + (r.l.length : Int)) (by omega) (by omega)]
      by_cases h64 : r.at_ + (r.l.length : Int) ≤ 64
      case neg => rw [if_pos (by simp; omega)]; simp [h64]
      rw [if_neg (by simp; omega)]
      have hnext := ih (i + 1) (r.at_ + r.l.length + 1) g2 (.inr ⟨by omega, r, by simpa using g1, rfl, hA'.1, h64⟩)
      rw [w64 (n := (i : Int) + 1) (by omega) (by omega), tidy_self, show (i : Int) + 1 = ((i + 1 : Nat) : Int) from by omega]
      rcases hprev with ⟨rfl, rfl⟩ | ⟨hpos, p, g4, rfl, p1, p2⟩
      · rw [if_neg (by simp), hnext]
        simp [h64, show ¬ r.at_ < 0 by omega]
      · rw [if_pos (by simp; omega), w64 (n := (i : Int) - 1) (by omega) (by omega), idxF_run g1, show (i : Int) - 1 = ((i - 1 : Nat) : Int) from by omega]
        simp only [gx0, gx1, ob, gI_i, gF_f, bys_len]
        rw [idxF_run g4]
        simp only [gx0, gx1, ob, gI_i, gF_f, bys_len]
        rw [idxF_run g4]
        simp only [gx0, gx1, ob, gI_i, gF_f, bys_len]
        rw [w64 (by omega) (by omega)]
        by_cases hq : r.at_ ≤ p.at_ + p.l.length
        · rw [if_pos (by simpa using hq)]; simp [h64, show r.at_ < p.at_ + p.l.length + 1 by omega]
        · rw [if_neg (by simpa using hq), hnext]; simp [h64, show ¬ r.at_ < p.at_ + p.l.length + 1 by omega]
  rw [pu_spec_l3Fault, vcase_b, runs_len]
  unfold runsF
  by_cases h64 : 64 < all.length
  · rw [if_pos (by simp; omega), if_pos h64]
  · rw [if_neg (by simp; omega), if_neg h64]
    exact loop all 0 0 rfl (.inl ⟨rfl, rfl⟩)
def inR (r : RunD) : Prop := 0 ≤ r.at_ ∧ r.at_ + r.l.length ≤ 64 ∧ 1 ≤ r.l.length
theorem runsG_ok : ∀ (rs : List RunD) (q : Int), runsG q rs = 0 → ∀ r ∈ rs, inR r
  | [], q, h => by simp
  | r :: rs, q, h => by
    unfold runsG at h
    split at h
    · rename_i hc
      simp only [Bool.and_eq_true, decide_eq_true_eq] at hc
      have h1 := inB_iff.1 hc.1.1
      have h2 := inB_iff.1 hc.1.2
      split at h
      · omega
      · intro x hx
        rcases List.mem_cons.1 hx with rfl | hx
        · exact ⟨h1.1, hc.2, by omega⟩
        · exact runsG_ok rs _ h x hx
    · omega
theorem runsF_ok {rs : List RunD} (h : runsF rs = 0) : rs.length ≤ 64 ∧ ∀ r ∈ rs, inR r := by
  unfold runsF at h
  split at h
  · omega
  · exact ⟨by omega, runsG_ok rs 0 h⟩
end Vm
/-
  Bytes appended and copied; results of a code and bytes: compared, marked, found again.
-/
namespace Vm
open Go

theorem cellsS_by {h : H} {m : List UInt8} : cellsS 1 h (lv (bys m)) = some (m.map cell8) := by
  simp only [cellsS, if_pos (show ∀ r ∈ bys m, r.length = 1 from bys_row), bys_flat]
theorem cellsS_w {h : H} {v : V} {l : List UInt8} {b : Nat} (w : BysW h v l b) : cellsS 1 h v = some (l.map cell8) := by
  have hc : h.cells b = l.map cell8 := by unfold H.cells; rw [if_pos w.n, w.g]; rfl
  rw [w.v]
  simp only [cellsS, hc]
  rw [if_pos ⟨w.n, by simp⟩, List.drop_zero, List.take_of_length_le (by simp)]
/-- bytes behind bytes that are one's own -/
theorem app_by {h : H} {v : V} {l m : List UInt8} {b : Nat} (w : BysW h v l b) (hm : l.length + m.length ≤ lim) :
    appS 1 h v (lv (bys m)) = some (sv h.n 0 (l ++ m).length, (h.put b .dead).new 1 ((l ++ m).map cell8)) := by
  have h1 := cellsS_w w
  obtain ⟨rfl, w2, w3⟩ := w
  simp only [appS, h1, cellsS_by, Option.bind_some, lenS, bys_len]
  rw [if_pos ⟨w2, hm, by omega⟩, w3]
  simp
theorem app_own {h : H} {l m : List UInt8} {b : Nat} : BysW ((h.put b .dead).new 1 ((l ++ m).map cell8)) (sv h.n 0 (l ++ m).length) (l ++ m) h.n := ⟨rfl, by simp, new_g (h.put b .dead) _ _⟩
/-- the copy of bytes that begins with nothing -/
theorem app_nil {h : H} {m : List UInt8} (hm : m.length ≤ lim) : appS 1 (h.new 1 []) (sv h.n 0 0) (lv (bys m)) = some (sv (h.n + 1) 0 m.length, ((h.new 1 []).put h.n .dead).new 1 (m.map cell8)) := by
  have := app_by (h := h.new 1 []) (v := sv h.n 0 0) (l := []) (m := m) (b := h.n) ⟨rfl, by simp, by simp⟩ (by simpa using hm)
  simpa using this
theorem f_copied {m : List UInt8} (hm : m.length ≤ lim) (n : Nat) : ∃ v h', call Ev Fn.impl_copied [lv (bys m)] (D n) = some (v, h') ∧ NewB n h' v m (some (n + 1)) ∧ h'.n = n + 2 := by
  rw [eq_impl_copied, app_nil hm, ob]
  refine ⟨_, _, rfl, ⟨⟨rfl, by simp, ?_⟩, by simp; omega, fun b hb => by cases hb; omega, fun b h1 h2 s hs => ?_⟩, by simp⟩
  · exact new_g (((D n).new 1 []).put n .dead) _ _
  · have h3 : b = n ∨ b = n + 1 := by simp at h2; omega
    rcases h3 with rfl | rfl
    · rw [new_g' (by simp)] at hs
      simp [Blk.cells] at hs
    · have e : ((((D n).new 1 []).put (D n).n .dead).new 1 (m.map cell8)).g (n + 1) = .rw 1 (m.map cell8) := new_g (((D n).new 1 []).put n .dead) _ _
      dsimp only at hs
      rw [e] at hs
      obtain ⟨c, _, rfl⟩ := List.mem_map.1 hs
      rfl

theorem tidy_but {h h' : H} {o : Option Nat} {n : Int} (hn : h.n ≤ h'.n) (hg : ∀ c, c < h.n → o ≠ some c → h'.g c = h.g c ∧ h'.v c = h.v c) (hc : ∀ b, o = some b → (h'.g b).cells.all (belS h.n) = true) :
    (tidy h [iv .i64 n] h').n = h.n ∧ ∀ c, c < h.n → (tidy h [iv .i64 n] h').g c = h'.g c := by
  unfold tidy
  rw [if_pos]
  · exact ⟨rfl, fun c hc => by simp [hc]⟩
  · refine ⟨hn, by simp [belV, belS], fun b hb => ?_⟩
    by_cases ho : o = some b
    · exact .inr (hc b ho)
    · exact .inl (hg b hb ho)
theorem cell8_bel {n : Nat} (l : List UInt8) : (l.map cell8).all (belS n) = true := by
  rw [List.all_eq_true]
  intro s hs
  obtain ⟨c, _, rfl⟩ := List.mem_map.1 hs
  rfl
end Vm
/-
  What is one's own in a stretch of blocks: kept when other blocks change.
-/
namespace Vm
open Go
/-- a fact on the blocks from lo to hi alone -/
structure Sep (Q : H → Prop) (lo hi : Nat) (h : H) : Prop where
  top : hi ≤ h.n
  q : ∀ h' : H, hi ≤ h'.n → (∀ b, lo ≤ b → b < hi → h'.g b = h.g b) → Q h'
/-- all but the blocks from lo to hi as it was -/
structure ButR (lo hi : Nat) (h h' : H) : Prop where
  n : h'.n = h.n
  g : ∀ c, (c < lo ∨ hi ≤ c) → h'.g c = h.g c
section
variable {Q : H → Prop} {lo hi : Nat} {h h' : H}
theorem Sep.now (w : Sep Q lo hi h) : Q h := w.q h w.top fun _ _ _ => rfl
theorem Sep.up (w : Sep Q lo hi h) (u : Up h h') : Sep Q lo hi h' := ⟨Nat.le_trans w.top u.n, fun h2 hn hg => w.q h2 hn fun b h1 h3 => (hg b h1 h3).trans (u.g b (by have := w.top; omega))⟩
theorem Sep.but {a b : Nat} (w : Sep Q lo hi h) (u : ButR a b h h') (hd : hi ≤ a ∨ b ≤ lo) : Sep Q lo hi h' := ⟨by rw [u.n]; exact w.top, fun h2 hn hg => w.q h2 hn fun c h1 h3 => (hg c h1 h3).trans (u.g c (by omega))⟩
theorem Sep.over {h1 : H} {hi : Nat} {n : Nat} (hn : n = h.n) (hl : h.n ≤ h1.n) (w : Sep Q n hi h1) : Sep Q n hi (h.over h1) := by
  subst hn
  exact ⟨by rw [over_n hl]; exact w.top, fun h2 hn hg => w.q h2 hn fun b h1 h3 => (hg b h1 h3).trans (over_ge h1)⟩
theorem Sep.mono {lo' hi' : Nat} (w : Sep Q lo hi h) (h1 : lo' ≤ lo) (h2 : hi ≤ hi') (h3 : hi' ≤ h.n) : Sep Q lo' hi' h := ⟨h3, fun h' hn hg => w.q h' (by omega) fun b a b' => hg b (by omega) (by omega)⟩
end
/-- what stands in one block -/
def At (b : Nat) (x : Blk) (h : H) : Prop := b < h.n ∧ h.g b = x
theorem Sep.at {h : H} {b : Nat} {x : Blk} (hb : b < h.n) (hg : h.g b = x) : Sep (At b x) b (b + 1) h := ⟨hb, fun h' hn hg' => ⟨by omega, by rw [hg' b (Nat.le_refl _) (by omega), hg]⟩⟩
/-- bytes in a stretch of blocks -/
def OwnB (v : V) (l : List UInt8) (lo hi : Nat) (h : H) : Prop := ∃ ob, Own h v l ob ∧ ∀ b, ob = some b → lo ≤ b ∧ b < hi
theorem OwnB.sep {v : V} {l : List UInt8} {lo hi : Nat} {h : H} (w : OwnB v l lo hi h) (hn : hi ≤ h.n) : Sep (OwnB v l lo hi) lo hi h := ⟨hn, fun h' hn' hg => by
  obtain ⟨ob, h1, h2⟩ := w
  refine ⟨ob, ?_, h2⟩
  cases ob with
  | none => exact h1
  | some b =>
    have := h2 b rfl
    exact ⟨h1.v, by omega, by rw [hg b this.1 this.2]; exact h1.g⟩⟩
theorem OwnB.frz {v : V} {l : List UInt8} {lo hi : Nat} {h : H} (w : OwnB v l lo hi h) : frzV h v = some (lv (bys l)) := by
  obtain ⟨ob, h1, _⟩ := w
  exact frz1 h1
/-- the answer of a call on a dead heap -/
structure NewS (Q : Nat → Nat → H → Prop) (v : V) (n : Nat) (h : H) : Prop where
  le : n ≤ h.n
  q : Sep (Q n h.n) n h.n h
  z : NoFz n (v, h)
theorem NewA.s {n : Nat} {h : H} {v : V} {l : List UInt8} (w : NewA n h v l) : NewS (OwnB v l) v n h := by
  have := w.le
  exact ⟨by omega, OwnB.sep ⟨some n, w.own, fun b hb => by cases hb; omega⟩ (Nat.le_refl _), w.nofz⟩
theorem NewB.s {n : Nat} {h : H} {v : V} {l : List UInt8} {o : Option Nat} (w : NewB n h v l o) : Sep (OwnB v l n h.n) n h.n h := by
  refine OwnB.sep ⟨o, w.own, fun b hb => ⟨w.new b hb, ?_⟩⟩ (Nat.le_refl _)
  subst hb
  exact w.own.n
/-- a call with a new answer -/
theorem pN {R : Type} {Q : Nat → Nat → H → Prop} {cl : Nat → List V → H → Option (V × H)} {g : Nat} {off : Bool} {xs : List V} {h : H} {n : Nat} {v : V} {h1 : H} {k : V → H → Option R} (hn : h.n = n) (hc : cl g xs (D n) = some (v, h1)) (w : NewS Q v n h1) :
    ∃ h', pcallF cl g off xs h k = k v h' ∧ Up h h' ∧ n ≤ h'.n ∧ Sep (Q n h'.n) n h'.n h' := by
  subst hn
  refine ⟨h.over h1, pF hc w.z, up_over w.le, ?_, ?_⟩
  · rw [over_n w.le]; exact w.le
  · have := Sep.over rfl w.le w.q
    rwa [over_n w.le]
/-- marked bytes -/
theorem OwnB.mark {h : H} {v : V} {l : List UInt8} {lo hi k : Nat} (w : Sep (OwnB v l lo hi) lo hi h) (hl : k + l.length < 2 ^ 62) :
    ∃ p, call Ev Fn.laws_markByteS [v, iv .i64 k] h = some (iv .i64 ((k + l.length : Nat) : Int), p) ∧ Sep (OwnB v (marks k l.length) lo hi) lo hi (tidy h [iv .i64 ((k + l.length : Nat) : Int)] p) ∧ ButR lo hi h (tidy h [iv .i64 ((k + l.length : Nat) : Int)] p) := by
  obtain ⟨ob, h1, h2⟩ := w.now
  obtain ⟨p, e1, e2, e3, e4⟩ := r_mark (k := k) h1 hl
  have t : tidy h [iv .i64 ((k + l.length : Nat) : Int)] p = p := tidy_same e3 fun c hc => e4 c (fun hh => by have := h2 c hh; have := w.top; omega)
  refine ⟨p, e1, ?_, ?_⟩
  · rw [t]; exact OwnB.sep ⟨ob, e2, h2⟩ (by rw [e3]; exact w.top)
  · rw [t]
    refine ⟨e3, fun c hc => (e4 c (fun hh => ?_)).1⟩
    have := h2 c hh
    omega
/-- from one block's change to a stretch's -/
theorem But.r {h h' : H} {ob : Option Nat} {lo hi : Nat} (u : But ob h h') (h2 : ∀ b, ob = some b → lo ≤ b ∧ b < hi) : ButR lo hi h h' := ⟨u.n, fun c hc => u.g c (fun hh => by have := h2 c hh; omega)⟩

/-! results of a code and bytes, and of a code, a number and bytes -/
theorem NewB.s2 {n : Nat} {h : H} {y : S} {l : List UInt8} {o : Option Nat} {c : Int} (w : NewB n h (.s y) l o) : NewS (OwnB (.s y) l) (.agg [.int .i64 c, y]) n h :=
  ⟨w.le, w.s, ⟨by simp [w.own.sca], w.z⟩⟩
theorem OwnB.frz2 {y : S} {l : List UInt8} {lo hi : Nat} {h : H} {c : Int} (w : OwnB (.s y) l lo hi h) : frzV h (.agg [.int .i64 c, y]) = some (.agg [.int .i64 c, .fs (bys l)]) := by
  obtain ⟨ob, h1, _⟩ := w
  exact Vm.frz2 h1
/-- the same answer, frozen -/
theorem NewS.p {Q : Nat → Nat → H → Prop} {f : Nat} {xs : List V} {h : H} {v w : V} (hc : call Ev f xs (D 0) = some (v, h)) (hq : NewS Q v 0 h) (hf : Q 0 h.n h → frzV h v = some w) : pureV (call Ev) f xs = some w := by
  unfold pureV
  rw [hc, Vm.ob, hf hq.q.now]
end Vm
/-
  Live values of any depth: what they are once frozen, and which blocks they lie in.
-/
namespace Vm
open Go
/-- a cell that leads nowhere, and is not frozen -/
def Sc : S → Prop
  | .int _ _ => True
  | .bool _ => True
  | .str _ => True
  | _ => False
theorem Sc.cl {s : S} (h : Sc s) : Cl s := by cases s <;> first | exact h.elim | exact cl_i | exact cl_b | exact cl_s
theorem Sc.sca {s : S} (h : Sc s) : scaS s = true := by cases s <;> first | exact h.elim | rfl
theorem Sc.no {s : S} (h : Sc s) : isNo s = false := by cases s <;> first | exact h.elim | rfl
inductive RepL (R : S → S → List Nat → Prop) : List S → List S → List Nat → Prop
  | nil : RepL R [] [] []
  | cons {y f : S} {bs : List Nat} {ys fs : List S} {bss : List Nat} : R y f bs → RepL R ys fs bss → RepL R (y :: ys) (f :: fs) (bs ++ bss)
def Rep (h : H) : Nat → S → S → List Nat → Prop
  | 0 => fun y f bs => (Sc y ∧ f = y ∨ y = .sl none 0 ∧ f = .fs []) ∧ bs = []
  | d + 1 => fun y f bs => ((Sc y ∧ f = y ∨ y = .sl none 0 ∧ f = .fs []) ∧ bs = []) ∨ ∃ b z cs rows bss, y = .sl (some (b, 0)) rows.length ∧ f = .fs rows ∧ bs = b :: bss ∧ b < h.n ∧ 0 < z ∧ h.g b = .rw z cs ∧ (∀ r ∈ rows, r.length = z) ∧ RepL (Rep h d) cs rows.flatten bss
section
variable {R R' : S → S → List Nat → Prop}
theorem RepL.mono {cs fs : List S} {bss : List Nat} (w : RepL R cs fs bss) (hr : ∀ y f bs, (∀ b ∈ bs, b ∈ bss) → R y f bs → R' y f bs) : RepL R' cs fs bss := by
  induction w with
  | nil => exact .nil
  | @cons y f bs ys fs bss h1 h2 ih => exact .cons (hr _ _ _ (fun b hb => by simp [hb]) h1) (ih fun y f bs hb => hr y f bs fun b hh => by simp [hb b hh])
theorem RepL.len {cs fs : List S} {bss : List Nat} (w : RepL R cs fs bss) : cs.length = fs.length := by
  induction w with
  | nil => rfl
  | cons h1 h2 ih => simp [ih]
theorem RepL.append {cs fs cs' fs' : List S} {bss bss' : List Nat} (w : RepL R cs fs bss) (w' : RepL R cs' fs' bss') : RepL R (cs ++ cs') (fs ++ fs') (bss ++ bss') := by
  induction w with
  | nil => exact w'
  | cons h1 h2 ih => rw [List.cons_append, List.cons_append, List.append_assoc]; exact .cons h1 ih
theorem RepL.split : ∀ {fs fs' : List S} {cs : List S} {bss : List Nat}, RepL R cs (fs ++ fs') bss → ∃ a a' b b', cs = a ++ a' ∧ bss = b ++ b' ∧ RepL R a fs b ∧ RepL R a' fs' b'
  | [], fs', cs, bss, w => ⟨[], cs, [], bss, rfl, rfl, .nil, w⟩
  | f :: fs, fs', cs, bss, w => by
    cases w with
    | @cons y f bs ys fs bss h1 h2 =>
      obtain ⟨a, a', b, b', rfl, rfl, w1, w2⟩ := RepL.split h2
      exact ⟨y :: a, a', bs ++ b, b', rfl, by simp, .cons h1 w1, w2⟩
end
section
variable {h h' : H}
theorem Rep.sc {d : Nat} {s : S} (hs : Sc s) : Rep h d s s [] := by
  cases d with
  | zero => exact ⟨.inl ⟨hs, rfl⟩, rfl⟩
  | succ d => exact .inl ⟨.inl ⟨hs, rfl⟩, rfl⟩
theorem Rep.nil {d : Nat} : Rep h d (.sl none 0) (.fs []) [] := by
  cases d with
  | zero => exact ⟨.inr ⟨rfl, rfl⟩, rfl⟩
  | succ d => exact .inl ⟨.inr ⟨rfl, rfl⟩, rfl⟩
theorem Rep.sl {d b z : Nat} {cs : List S} {rows : List (List S)} {bss : List Nat} (hb : b < h.n) (hz : 0 < z) (hg : h.g b = .rw z cs) (hr : ∀ r ∈ rows, r.length = z) (w : RepL (Rep h d) cs rows.flatten bss) : Rep h (d + 1) (.sl (some (b, 0)) rows.length) (.fs rows) (b :: bss) :=
  .inr ⟨b, z, cs, rows, bss, rfl, rfl, rfl, hb, hz, hg, hr, w⟩
theorem RepL.sc {d : Nat} : ∀ {l : List S}, (∀ s ∈ l, Sc s) → RepL (Rep h d) l l []
  | [], _ => .nil
  | s :: l, hl => RepL.cons (bs := []) (Rep.sc (hl s (by simp))) (RepL.sc fun s hs => hl s (by simp [hs]))
theorem Rep.of_sc {d : Nat} {y f : S} {bs : List Nat} (w : Rep h d y f bs) (hf : Sc f) : y = f ∧ bs = [] := by
  cases d with
  | zero =>
    obtain ⟨⟨h1, rfl⟩ | ⟨rfl, rfl⟩, rfl⟩ := w
    · exact ⟨rfl, rfl⟩
    · exact hf.elim
  | succ d =>
    obtain ⟨⟨h1, rfl⟩ | ⟨rfl, rfl⟩, rfl⟩ | ⟨b, z, cs, rows, bss, rfl, rfl, rfl, h1⟩ := w
    · exact ⟨rfl, rfl⟩
    · exact hf.elim
    · exact hf.elim
theorem RepL.of_sc {d : Nat} : ∀ {cs fs : List S} {bss : List Nat}, RepL (Rep h d) cs fs bss → (∀ s ∈ fs, Sc s) → cs = fs ∧ bss = []
  | _, _, _, .nil, _ => ⟨rfl, rfl⟩
  | _, _, _, .cons h1 h2, hs => by
    obtain ⟨rfl, rfl⟩ := Rep.of_sc h1 (hs _ (by simp))
    obtain ⟨rfl, rfl⟩ := RepL.of_sc h2 fun s hs' => hs s (by simp [hs'])
    exact ⟨rfl, rfl⟩
theorem Rep.frame : ∀ {d : Nat} {y f : S} {bs : List Nat}, Rep h d y f bs → (∀ b ∈ bs, b < h'.n ∧ h'.g b = h.g b) → Rep h' d y f bs
  | 0, y, f, bs, w, _ => w
  | d + 1, y, f, bs, w, hb => by
    rcases w with w | ⟨b, z, cs, rows, bss, rfl, rfl, rfl, h1, h2, h3, h4, h5⟩
    · exact .inl w
    · have := hb b (by simp)
      exact .inr ⟨b, z, cs, rows, bss, rfl, rfl, rfl, this.1, h2, this.2.trans h3, h4, h5.mono fun y f bs hs w => Rep.frame w fun b' hb' => hb b' (by simp [hs b' hb'])⟩
theorem RepL.frame {d : Nat} {cs fs : List S} {bss : List Nat} (w : RepL (Rep h d) cs fs bss) (hb : ∀ b ∈ bss, b < h'.n ∧ h'.g b = h.g b) : RepL (Rep h' d) cs fs bss :=
  w.mono fun y f bs hs w => w.frame fun b hbb => hb b (hs b hbb)
theorem Rep.lift : ∀ {d : Nat} {y f : S} {bs : List Nat}, Rep h d y f bs → Rep h (d + 1) y f bs
  | 0, y, f, bs, w => .inl w
  | d + 1, y, f, bs, w => by
    rcases w with w | ⟨b, z, cs, rows, bss, rfl, rfl, rfl, h1, h2, h3, h4, h5⟩
    · exact .inl w
    · exact .inr ⟨b, z, cs, rows, bss, rfl, rfl, rfl, h1, h2, h3, h4, h5.mono fun y f bs hs w => w.lift⟩
theorem Rep.lifts {d k : Nat} {y f : S} {bs : List Nat} (w : Rep h d y f bs) (hd : d ≤ k) : Rep h k y f bs := by
  obtain ⟨j, rfl⟩ := Nat.exists_eq_add_of_le hd
  induction j with
  | zero => exact w
  | succ j ih => exact (ih (by omega)).lift
theorem RepL.lifts {d k : Nat} {cs fs : List S} {bss : List Nat} (w : RepL (Rep h d) cs fs bss) (hd : d ≤ k) : RepL (Rep h k) cs fs bss := w.mono fun y f bs _ w => w.lifts hd
theorem Rep.lt : ∀ {d : Nat} {y f : S} {bs : List Nat}, Rep h d y f bs → ∀ b ∈ bs, b < h.n
  | 0, y, f, bs, w => by obtain ⟨_, rfl⟩ := w; simp
  | d + 1, y, f, bs, w => by
    rcases w with ⟨_, rfl⟩ | ⟨b, z, cs, rows, bss, rfl, rfl, rfl, h1, h2, h3, h4, h5⟩
    · simp
    · intro c hc
      rcases List.mem_cons.1 hc with rfl | hc
      · exact h1
      · clear h3 h4
        generalize rows.flatten = fl at h5
        induction h5 with
        | nil => simp at hc
        | cons w1 w2 ih =>
          rcases List.mem_append.1 hc with hc | hc
          · exact w1.lt _ hc
          · exact ih (by simp [hc]) hc
theorem RepL.lt {d : Nat} {cs fs : List S} {bss : List Nat} (w : RepL (Rep h d) cs fs bss) : ∀ b ∈ bss, b < h.n := by
  induction w with
  | nil => simp
  | cons w1 w2 ih =>
    intro c hc
    rcases List.mem_append.1 hc with hc | hc
    · exact w1.lt _ hc
    · exact ih _ hc
theorem Rep.sca {d : Nat} {y f : S} {bs : List Nat} (w : Rep h d y f bs) : scaS y = true := by
  cases d with
  | zero =>
    obtain ⟨⟨h1, rfl⟩ | ⟨rfl, rfl⟩, rfl⟩ := w
    · exact h1.sca
    · rfl
  | succ d =>
    obtain ⟨⟨h1, rfl⟩ | ⟨rfl, rfl⟩, rfl⟩ | ⟨b, z, cs, rows, bss, rfl, rfl, rfl, h1⟩ := w
    · exact h1.sca
    · rfl
    · rfl
theorem Rep.isNo {d : Nat} {y f : S} {bs : List Nat} (w : Rep h d y f bs) : isNo y = false := by
  cases d with
  | zero =>
    obtain ⟨⟨h1, rfl⟩ | ⟨rfl, rfl⟩, rfl⟩ := w
    · exact h1.no
    · rfl
  | succ d =>
    obtain ⟨⟨h1, rfl⟩ | ⟨rfl, rfl⟩, rfl⟩ | ⟨b, z, cs, rows, bss, rfl, rfl, rfl, h1⟩ := w
    · exact h1.no
    · rfl
    · rfl
/-- what it is once frozen -/
theorem Rep.frz : ∀ {d k : Nat} {y f : S} {bs : List Nat}, Rep h d y f bs → d ≤ k → frzS h k y = some f
  | 0, k, y, f, bs, w, _ => by
    obtain ⟨⟨h1, rfl⟩ | ⟨rfl, rfl⟩, rfl⟩ := w
    · exact h1.cl h k
    · exact frz_n
  | d + 1, 0, y, f, bs, w, hk => by omega
  | d + 1, k + 1, y, f, bs, w, hk => by
    rcases w with ⟨⟨h1, rfl⟩ | ⟨rfl, rfl⟩, rfl⟩ | ⟨b, z, cs, rows, bss, rfl, rfl, rfl, h1, h2, h3, h4, h5⟩
    · exact h1.cl h (k + 1)
    · exact frz_n
    · have hl := flat_len h4
      have hc := h5.len
      have hm : mapO (frzS h k) cs = some rows.flatten := by
        clear h3 h4 hl hc
        generalize rows.flatten = fl at h5
        induction h5 with
        | nil => rfl
        | cons w1 w2 ih => simp only [mapO, Rep.frz w1 (show d ≤ k by omega), ih, Option.bind_some]
      simp only [frzS]
      split
      · rename_i h0; rw [List.eq_nil_of_length_eq_zero h0]
      · rw [h3]
        simp only
        rw [if_pos ⟨h2, by omega⟩, List.drop_zero, List.take_of_length_le (by omega), hm]
        simp [chunk_rows h4]
theorem RepL.mapO {d k : Nat} {cs fs : List S} {bss : List Nat} (w : RepL (Rep h d) cs fs bss) (hd : d ≤ k) : Vm.mapO (frzS h k) cs = some fs := by
  induction w with
  | nil => rfl
  | cons w1 w2 ih => simp only [Vm.mapO, w1.frz hd, ih, Option.bind_some]
end
/-- bytes -/
theorem bys_sc {l : List UInt8} : ∀ s ∈ (bys l).flatten, Sc s := by
  rw [bys_flat]
  intro s hs
  obtain ⟨c, _, rfl⟩ := List.mem_map.1 hs
  trivial
theorem Rep.of_bys {h : H} {d : Nat} {y : S} {l : List UInt8} {bs : List Nat} (w : Rep h (d + 1) y (.fs (bys l)) bs) : (l = [] ∧ ∃ o, y = .sl o 0) ∨ ∃ b, BysW h (.s y) l b ∧ bs = [b] := by
  rcases w with ⟨⟨h1, rfl⟩ | ⟨rfl, h2⟩, rfl⟩ | ⟨b, z, cs, rows, bss, rfl, h0, rfl, h1, h2, h3, h4, h5⟩
  · exact h1.elim
  · injection h2 with h2
    exact .inl ⟨List.eq_nil_of_length_eq_zero (by simpa using congrArg List.length h2), _, rfl⟩
  · injection h0 with h0
    subst h0
    obtain ⟨rfl, rfl⟩ := h5.of_sc bys_sc
    by_cases hl : l = []
    · subst hl; exact .inl ⟨rfl, _, rfl⟩
    · refine .inr ⟨b, ⟨by simp, h1, ?_⟩, rfl⟩
      have hh : (bys l) ≠ [] := by simp [bys, hl]
      have h6 := h4 _ (List.head_mem hh)
      have h7 : ((bys l).head hh).length = 1 := bys_row _ (List.head_mem hh)
      rw [h3, bys_flat, ← h6, h7]
theorem Own.rep {h : H} {d : Nat} {y : S} {l : List UInt8} {ob : Option Nat} (h1 : Own h (.s y) l ob) : Rep h (d + 1) y (.fs (bys l)) ob.toList := by
  cases ob with
  | none => obtain ⟨h1, rfl⟩ := h1; cases h1; exact Rep.nil
  | some b =>
    have hv := h1.v
    injection hv with hv
    subst hv
    have := Rep.sl (d := d) (h := h) (b := b) (z := 1) (rows := bys l) (bss := []) h1.n (by omega) (by rw [bys_flat]; exact h1.g) bys_row (RepL.sc (by exact bys_sc))
    rwa [bys_len] at this
/-- a value of one's own in a stretch of blocks -/
def OwnF (d : Nat) (y f : S) (lo hi : Nat) (h : H) : Prop := ∃ bs, Rep h d y f bs ∧ bs.Nodup ∧ ∀ b ∈ bs, lo ≤ b ∧ b < hi
theorem OwnF.sep {d : Nat} {y f : S} {lo hi : Nat} {h : H} (w : OwnF d y f lo hi h) (hn : hi ≤ h.n) : Sep (OwnF d y f lo hi) lo hi h := ⟨hn, fun h' hn' hg => by
  obtain ⟨bs, h1, h2, h3⟩ := w
  exact ⟨bs, h1.frame fun b hb => ⟨by have := h3 b hb; omega, hg b (h3 b hb).1 (h3 b hb).2⟩, h2, h3⟩⟩
theorem OwnF.frz {d : Nat} {y f : S} {lo hi : Nat} {h : H} (w : OwnF d y f lo hi h) (hd : d ≤ 8 := by omega) : frzV h (.s y) = some (.s f) := by
  obtain ⟨bs, h1, _⟩ := w
  simp only [frzV, h1.frz hd, Vm.ob]
theorem OwnB.f {d : Nat} {y : S} {l : List UInt8} {lo hi : Nat} {h : H} (w : OwnB (.s y) l lo hi h) : OwnF (d + 1) y (.fs (bys l)) lo hi h := by
  obtain ⟨ob, h1, h2⟩ := w
  refine ⟨ob.toList, h1.rep, ?_, fun b hb => h2 b (by simpa using hb)⟩
  cases ob <;> simp
/-- marked bytes -/
theorem Rep.mark {h : H} {d : Nat} {y : S} {l : List UInt8} {bs : List Nat} {k : Nat} (w : Rep h (d + 1) y (.fs (bys l)) bs) (hl : k + l.length < 2 ^ 62) :
    ∃ h', call Ev Fn.laws_markByteS [.s y, iv .i64 k] h = some (iv .i64 ((k + l.length : Nat) : Int), h') ∧ Rep h' (d + 1) y (.fs (bys (marks k l.length))) bs ∧ h'.n = h.n ∧ ∀ c, c ∉ bs → h'.g c = h.g c ∧ h'.v c = h.v c := by
  rcases w.of_bys with ⟨rfl, o, rfl⟩ | ⟨b, w1, rfl⟩
  · refine ⟨h, ?_, w, rfl, fun _ _ => ⟨rfl, rfl⟩⟩
    rw [eq_laws_markByteS, eq_laws_markByteS_l0]
    simp only [lenV, Option.bind_some, gV1_s, gI_i, vcase_b]
    simp
  · obtain ⟨h', e1, e2, e3, e4⟩ := r_mark (k := k) (ob := some b) w1 hl
    exact ⟨h', e1, Own.rep (ob := some b) e2, e3, fun c hc => e4 c (by simpa using fun hh => hc (by simp [hh]))⟩

/-! loops that mark the rows of a slice -/
section
variable {α : Type} (cs : α → List S) (mk : Nat → α → α) (sz : α → Nat)
def mkAll : Nat → List α → List α
  | _, [] => []
  | k, a :: xs => mk k a :: mkAll (k + sz a) xs
def szAll : List α → Nat
  | [] => 0
  | a :: xs => sz a + szAll xs
theorem mkAll_len : ∀ (k : Nat) (xs : List α), (mkAll mk sz k xs).length = xs.length
  | _, [] => rfl
  | k, a :: xs => by simp [mkAll, mkAll_len]
/-- one round: the row in its place is marked -/
def MarkStep (z b d : Nat) (L : Nat → Nat → H → Option LOut) : Prop := ∀ (i k : Nat) (a : α) (h : H) (pre ys post : List S) (bs : List Nat), pre.length = i * z → ys.length = z → k + sz a < 2 ^ 62 → b < h.n →
  h.g b = .rw z (pre ++ ys ++ post) → RepL (Rep h d) ys (cs a) bs → bs.Nodup → b ∉ bs →
  ∃ h' ys', L k i h = L (k + sz a) (i + 1) h' ∧ h'.n = h.n ∧ ys'.length = z ∧ h'.g b = .rw z (pre ++ ys' ++ post) ∧ RepL (Rep h' d) ys' (cs (mk k a)) bs ∧ ∀ c, c ≠ b → c ∉ bs → h'.g c = h.g c ∧ h'.v c = h.v c
variable {cs mk sz}
theorem mark_loop {z b d : Nat} {L : Nat → Nat → H → Option LOut} {n : Nat} {fin : Nat → List V} (step : ∀ (i k : Nat) (a : α) (h : H) (pre ys post : List S) (bs : List Nat), i < n → pre.length = i * z → ys.length = z → k + sz a < 2 ^ 62 → b < h.n →
    h.g b = .rw z (pre ++ ys ++ post) → RepL (Rep h d) ys (cs a) bs → bs.Nodup → b ∉ bs →
    ∃ h' ys', L k i h = L (k + sz a) (i + 1) h' ∧ h'.n = h.n ∧ ys'.length = z ∧ h'.g b = .rw z (pre ++ ys' ++ post) ∧ RepL (Rep h' d) ys' (cs (mk k a)) bs ∧ ∀ c, c ≠ b → c ∉ bs → h'.g c = h.g c ∧ h'.v c = h.v c)
    (last : ∀ k h, L k n h = some (.done (fin k) h)) :
    ∀ (xs : List α) (i k : Nat) (h : H) (pre ys : List S) (bs : List Nat), (∀ a ∈ xs, (cs a).length = z) → i + xs.length = n → pre.length = i * z → k + szAll sz xs < 2 ^ 62 → b < h.n → h.g b = .rw z (pre ++ ys) → RepL (Rep h d) ys (xs.map cs).flatten bs → bs.Nodup → b ∉ bs →
    ∃ h' ys', L k i h = some (.done (fin (k + szAll sz xs)) h') ∧ h'.n = h.n ∧ h'.g b = .rw z (pre ++ ys') ∧ RepL (Rep h' d) ys' ((mkAll mk sz k xs).map cs).flatten bs ∧ ∀ c, c ≠ b → c ∉ bs → h'.g c = h.g c ∧ h'.v c = h.v c
  | [], i, k, h, pre, ys, bs, hz, hi, hp, hk, hb, hg, w, hd, hn => by
    obtain rfl : i = n := by simpa using hi
    refine ⟨h, ys, ?_, rfl, hg, ?_, fun _ _ _ => ⟨rfl, rfl⟩⟩
    · rw [last]; rfl
    · exact w
  | a :: xs, i, k, h, pre, ys, bs, hz, hi, hp, hk, hb, hg, w, hd, hn => by
    simp only [List.map_cons, List.flatten_cons] at w
    obtain ⟨y1, y2, b1, b2, rfl, rfl, w1, w2⟩ := w.split
    have hza := hz a (by simp)
    simp only [szAll] at hk
    simp only [List.length_cons] at hi
    have hd' := List.nodup_append.1 hd
    obtain ⟨h1, ys1, e1, n1, l1, g1, r1, o1⟩ := step i k a h pre y1 y2 b1 (by omega) hp (w1.len.trans hza) (by omega) hb (by rw [hg, List.append_assoc]) w1 hd'.1 (fun hh => hn (by simp [hh]))
    have w2' : RepL (Rep h1 d) y2 (xs.map cs).flatten b2 := w2.frame fun c hc => by
      have hcb : c ≠ b := fun hh => hn (by simp [← hh, hc])
      exact ⟨by rw [n1]; exact w2.lt c hc, (o1 c hcb fun hh => hd'.2.2 c hh c hc rfl).1⟩
    obtain ⟨h2, ys2, e2, n2, g2, r2, o2⟩ := mark_loop step last xs (i + 1) (k + sz a) h1 (pre ++ ys1) y2 b2 (fun a ha => hz a (by simp [ha])) (by omega) (by rw [List.length_append, hp, l1, Nat.succ_mul]) (by omega) (by rw [n1]; exact hb) g1 w2' hd'.2.1 (fun hh => hn (by simp [hh]))
    refine ⟨h2, ys1 ++ ys2, ?_, by rw [n2, n1], by rw [g2, List.append_assoc], ?_, fun c hc hcb => ?_⟩
    · rw [e1, e2]; simp only [szAll]; rw [Nat.add_assoc]
    · simp only [mkAll, List.map_cons, List.flatten_cons]
      refine (r1.frame fun c hc => ?_).append r2
      have hcb : c ≠ b := fun hh => hn (by simp [← hh, hc])
      exact ⟨by rw [n2]; exact r1.lt c hc, (o2 c hcb fun hh => hd'.2.2 c hc c hh rfl).1⟩
    · have a1 := o1 c hc fun hh => hcb (by simp [hh])
      have a2 := o2 c hc fun hh => hcb (by simp [hh])
      exact ⟨a2.1.trans a1.1, a2.2.trans a1.2⟩
/-- a whole slice is marked -/
theorem Rep.marks {z d : Nat} {y : S} {xs : List α} {bs : List Nat} {h : H} {k : Nat} {Lv : V → Nat → Nat → H → Option LOut} {fin : Nat → List V} (hz0 : 0 < z) (hz : ∀ a, (cs a).length = z) (w : Rep h (d + 1) y (.fs (xs.map cs)) bs) (hd : bs.Nodup) (hk : k + szAll sz xs < 2 ^ 62)
    (step : ∀ (b i k : Nat) (a : α) (h : H) (pre ys post : List S) (bs : List Nat), i < xs.length → pre.length = i * z → ys.length = z → k + sz a < 2 ^ 62 → b < h.n →
      h.g b = .rw z (pre ++ ys ++ post) → RepL (Rep h d) ys (cs a) bs → bs.Nodup → b ∉ bs →
      ∃ h' ys', Lv (sv b 0 xs.length) k i h = Lv (sv b 0 xs.length) (k + sz a) (i + 1) h' ∧ h'.n = h.n ∧ ys'.length = z ∧ h'.g b = .rw z (pre ++ ys' ++ post) ∧ RepL (Rep h' d) ys' (cs (mk k a)) bs ∧ ∀ c, c ≠ b → c ∉ bs → h'.g c = h.g c ∧ h'.v c = h.v c)
    (last : ∀ o k h, Lv (.s (.sl o xs.length)) k xs.length h = some (.done (fin k) h)) :
    ∃ h', Lv (.s y) k 0 h = some (.done (fin (k + szAll sz xs)) h') ∧ Rep h' (d + 1) y (.fs ((mkAll mk sz k xs).map cs)) bs ∧ h'.n = h.n ∧ ∀ c, c ∉ bs → h'.g c = h.g c ∧ h'.v c = h.v c := by
  have base : xs = [] → ∀ o, y = .sl o 0 → ∃ h', Lv (.s y) k 0 h = some (.done (fin (k + szAll sz xs)) h') ∧ Rep h' (d + 1) y (.fs ((mkAll mk sz k xs).map cs)) bs ∧ h'.n = h.n ∧ ∀ c, c ∉ bs → h'.g c = h.g c ∧ h'.v c = h.v c := by
    rintro rfl o rfl
    exact ⟨h, last o k h, w, rfl, fun _ _ => ⟨rfl, rfl⟩⟩
  rcases w with ⟨⟨h1, h2⟩ | ⟨h1, h2⟩, h3⟩ | ⟨b, z', ys, rows, bss, h1, h0, h2, h3, h4, h5, h6, h7⟩
  · rw [← h2] at h1; exact h1.elim
  · injection h2 with h2
    exact base (List.eq_nil_of_length_eq_zero (by simpa using congrArg List.length h2)) none h1
  · injection h0 with h0
    by_cases has : xs = []
    · refine base has (some (b, 0)) ?_
      rw [h1, ← h0, has]; rfl
    · have hzz : z' = z := by
        obtain ⟨a, xs', rfl⟩ := List.exists_cons_of_ne_nil has
        have := h6 (cs a) (by rw [← h0]; simp)
        rw [← this, hz]
      subst hzz
      subst h0
      subst h2
      have hlen : (xs.map cs).length = xs.length := by simp
      rw [hlen] at h1
      subst h1
      have hd2 := List.nodup_cons.1 hd
      obtain ⟨h', ys', e1, n1, g1, r1, o1⟩ := mark_loop (cs := cs) (mk := mk) (sz := sz) (fin := fin) (L := Lv (sv b 0 xs.length)) (n := xs.length) (step b) (fun k h => last _ k h) xs 0 k h [] ys bss (fun a _ => hz a) (by simp) (by simp) hk h3 (by simpa using h5) h7 hd2.2 hd2.1
      refine ⟨h', e1, ?_, n1, fun c hc => ?_⟩
      · have := Rep.sl (d := d) (h := h') (b := b) (z := z') (rows := (mkAll mk sz k xs).map cs) (bss := bss) (by rw [n1]; exact h3) hz0 (by simpa using g1) (fun r hr => by
          obtain ⟨a, _, rfl⟩ := List.mem_map.1 hr
          exact hz a) r1
        simpa [mkAll_len] using this
      · exact o1 c (fun hh => hc (by simp [hh])) (fun hh => hc (by simp [hh]))
end
end Vm
/-
  Runs that live: copied, compared, marked, found again.
-/
namespace Vm
open Go
theorem szRuns_ok {rs : List RunD} (h : ¬ (if (rs.length : Int) ≤ 1048576 then szRuns rs (1048576 - rs.length) else -1) < 0) : rs.length ≤ 1048576 ∧ (∀ r ∈ rs, r.l.length ≤ lim) ∧ ∀ r ∈ rs, r.l.length ≤ 1048576 := by
  split at h
  · rename_i hle
    have h2 := szRuns_all rs _ (Int.not_lt.1 h)
    refine ⟨by omega, fun r hr => ?_, fun r hr => ?_⟩
    · have := h2 r hr; unfold lim; omega
    · have := h2 r hr; omega
  · omega
def szR (r : RunD) : Nat := 1 + r.l.length
def mkR (k : Nat) (r : RunD) : RunD := ⟨k, marks (k + 1) r.l.length⟩
def rsz (rs : List RunD) : Nat := szAll szR rs
def mkRs (k : Nat) (rs : List RunD) : List RunD := mkAll mkR szR k rs
theorem rsz_cons (r : RunD) (rs : List RunD) : rsz (r :: rs) = 1 + r.l.length + rsz rs := rfl
theorem rsz_len : ∀ rs : List RunD, rs.length ≤ rsz rs
  | [] => Nat.le_refl _
  | r :: rs => by have := rsz_len rs; rw [rsz_cons, List.length_cons]; omega
theorem szRuns_sum : ∀ (rs : List RunD) (left : Int), 0 ≤ szRuns rs left → 0 ≤ left → szRuns rs left = left - rsz rs + rs.length
  | [], left, h, _ => by simp [szRuns, rsz, szAll]
  | r :: rs, left, h, h0 => by
    simp only [szRuns] at h ⊢
    by_cases hle : (r.l.length : Int) ≤ left
    · rw [if_pos hle] at h ⊢
      rw [szRuns_sum rs _ h (by omega), rsz_cons, List.length_cons]; omega
    · rw [if_neg hle] at h; omega
theorem szRuns_rsz {rs : List RunD} (h : ¬ (if (rs.length : Int) ≤ 1048576 then szRuns rs (1048576 - rs.length) else -1) < 0) : rsz rs ≤ 1048576 := by
  split at h
  · rename_i hle
    have := szRuns_sum rs _ (Int.not_lt.1 h) (by omega); omega
  · omega
theorem runs_map (rs : List RunD) : runs rs = rs.map RunD.cs := rfl
end Vm
/-
  Cells of one's own; results that are marked; slices that are filled row by row.
-/
namespace Vm
open Go
theorem sc_bel {n : Nat} {s : S} (h : Sc s) : belS n s = true := by cases s <;> first | exact h.elim | rfl
theorem Rep.top {h : H} {d N : Nat} {y f : S} {bs : List Nat} (w : Rep h d y f bs) (hb : ∀ b ∈ bs, b < N) : belS N y = true := by
  cases d with
  | zero =>
    obtain ⟨⟨h1, rfl⟩ | ⟨rfl, rfl⟩, rfl⟩ := w
    · exact sc_bel h1
    · rfl
  | succ d =>
    obtain ⟨⟨h1, rfl⟩ | ⟨rfl, rfl⟩, rfl⟩ | ⟨b, z, cs, rows, bss, rfl, rfl, rfl, h1⟩ := w
    · exact sc_bel h1
    · rfl
    · simpa [belS] using hb b (by simp)
theorem RepL.top {h : H} {d N : Nat} {cs fs : List S} {bss : List Nat} (w : RepL (Rep h d) cs fs bss) (hb : ∀ b ∈ bss, b < N) : cs.all (belS N) = true := by
  induction w with
  | nil => rfl
  | cons w1 w2 ih =>
    rw [List.all_cons, w1.top fun b hh => hb b (by simp [hh]), ih fun b hh => hb b (by simp [hh])]; rfl
theorem Rep.bel {h : H} {N : Nat} : ∀ {d : Nat} {y f : S} {bs : List Nat}, Rep h d y f bs → (∀ b ∈ bs, b < N) → ∀ b ∈ bs, (h.g b).cells.all (belS N) = true
  | 0, y, f, bs, w, _ => by obtain ⟨_, rfl⟩ := w; simp
  | d + 1, y, f, bs, w, hb => by
    rcases w with ⟨_, rfl⟩ | ⟨b, z, cs, rows, bss, rfl, rfl, rfl, h1, h2, h3, h4, h5⟩
    · simp
    · intro c hc
      rcases List.mem_cons.1 hc with rfl | hc
      · rw [h3]; exact h5.top fun b hh => hb b (by simp [hh])
      · have hb' : ∀ b ∈ bss, b < N := fun b hh => hb b (by simp [hh])
        clear h3 h4 hb
        generalize rows.flatten = fl at h5
        induction h5 with
        | nil => simp at hc
        | cons w1 w2 ih =>
          rcases List.mem_append.1 hc with hc | hc
          · exact w1.bel (fun b hh => hb' b (by simp [hh])) _ hc
          · exact ih (by simp [hc]) hc fun b hh => hb' b (by simp [hh])
theorem RepL.bel {h : H} {d N : Nat} {cs fs : List S} {bss : List Nat} (w : RepL (Rep h d) cs fs bss) (hb : ∀ b ∈ bss, b < N) : ∀ b ∈ bss, (h.g b).cells.all (belS N) = true := by
  induction w with
  | nil => simp
  | cons w1 w2 ih =>
    intro c hc
    rcases List.mem_append.1 hc with hc | hc
    · exact w1.bel (fun b hh => hb b (by simp [hh])) _ hc
    · exact ih (fun b hh => hb b (by simp [hh])) _ hc
/-- what was marked, once what else was made is let go -/
theorem mark_tidy {h h' : H} {d : Nat} {ys fs : List S} {bs : List Nat} {n : Int} (w : RepL (Rep h' d) ys fs bs) (hb : ∀ b ∈ bs, b < h.n) (hn : h.n ≤ h'.n) (ho : ∀ c, c ∉ bs → c < h.n → h'.g c = h.g c ∧ h'.v c = h.v c) (h2 : h'.n = h.n → ∀ c, h.n ≤ c → h'.g c = h.g c) :
    (tidy h [iv .i64 n] h').n = h.n ∧ RepL (Rep (tidy h [iv .i64 n] h') d) ys fs bs ∧ ∀ c, c ∉ bs → (tidy h [iv .i64 n] h').g c = h.g c := by
  have hT : Tidy h [iv .i64 n] h' := ⟨hn, by simp [belV, belS], fun b hb' => by
    by_cases hbb : b ∈ bs
    · exact .inr (w.bel hb b hbb)
    · exact .inl (ho b hbb hb')⟩
  unfold tidy
  rw [if_pos hT]
  refine ⟨rfl, w.frame fun b hbb => ⟨hb b hbb, by simp [hb b hbb]⟩, fun c hc => ?_⟩
  by_cases hcn : c < h.n
  · simp only [if_pos hcn]; exact (ho c hc hcn).1
  · simp only [if_neg hcn]
/-- cells of one's own in a stretch of blocks -/
def OwnC (d : Nat) (ys fs : List S) (lo hi : Nat) (h : H) : Prop := ∃ bs, RepL (Rep h d) ys fs bs ∧ bs.Nodup ∧ ∀ b ∈ bs, lo ≤ b ∧ b < hi
theorem OwnC.sep {d : Nat} {ys fs : List S} {lo hi : Nat} {h : H} (w : OwnC d ys fs lo hi h) (hn : hi ≤ h.n) : Sep (OwnC d ys fs lo hi) lo hi h := ⟨hn, fun h' hn' hg => by
  obtain ⟨bs, h1, h2, h3⟩ := w
  exact ⟨bs, h1.frame fun b hb => ⟨by have := h3 b hb; omega, hg b (h3 b hb).1 (h3 b hb).2⟩, h2, h3⟩⟩
theorem OwnC.frz {d : Nat} {ys fs : List S} {lo hi : Nat} {h : H} (w : OwnC d ys fs lo hi h) (hd : d ≤ 8 := by omega) : frzV h (.agg ys) = some (.agg fs) := by
  obtain ⟨bs, h1, _⟩ := w
  simp only [frzV, h1.mapO hd, Vm.ob]
theorem RepL.sca {h : H} {d : Nat} {cs fs : List S} {bss : List Nat} (w : RepL (Rep h d) cs fs bss) : cs.all scaS = true := by
  induction w with
  | nil => rfl
  | cons w1 w2 ih => rw [List.all_cons, w1.sca, ih]; rfl
theorem OwnC.scaV {d : Nat} {ys fs : List S} {lo hi : Nat} {h : H} (w : OwnC d ys fs lo hi h) : Vm.scaV (.agg ys) = true := by
  obtain ⟨bs, h1, _⟩ := w
  exact h1.sca
/-- one value behind plain cells -/
theorem OwnF.c {d : Nat} {pre : List S} {y f : S} {lo hi : Nat} {h : H} (hp : ∀ s ∈ pre, Sc s) (w : OwnF d y f lo hi h) : OwnC d (pre ++ [y]) (pre ++ [f]) lo hi h := by
  obtain ⟨bs, h1, h2, h3⟩ := w
  exact ⟨bs, by simpa using (RepL.sc (d := d) hp).append (.cons h1 .nil), h2, h3⟩
theorem OwnC.f {d : Nat} {pre : List S} {y f : S} {lo hi : Nat} {h : H} (hp : ∀ s ∈ pre, Sc s) (w : OwnC d (pre ++ [y]) (pre ++ [f]) lo hi h) : OwnF d y f lo hi h := by
  obtain ⟨bs, h1, h2, h3⟩ := w
  obtain ⟨a, a', b, b', e1, rfl, w1, w2⟩ := h1.split
  obtain ⟨rfl, rfl⟩ := w1.of_sc hp
  have := List.append_cancel_left e1
  subst this
  cases w2 with
  | cons w3 w4 => cases w4; exact ⟨_, by simpa using w3, by simpa using h2, by simpa using h3⟩
/-- a result whose last cell is marked -/
theorem markC {h h' : H} {pre : List S} {y f' : S} {lo hi d : Nat} {n : Int} {bs : List Nat} (hp : ∀ s ∈ pre, Sc s) (hb : ∀ b ∈ bs, lo ≤ b ∧ b < hi) (hd : bs.Nodup) (ht : hi ≤ h.n) (w : Rep h' d y f' bs) (hn : h.n ≤ h'.n) (ho : ∀ c, c ∉ bs → c < h.n → h'.g c = h.g c ∧ h'.v c = h.v c) (h2 : h'.n = h.n → ∀ c, h.n ≤ c → h'.g c = h.g c) :
    Sep (OwnC d (pre ++ [y]) (pre ++ [f']) lo hi) lo hi (tidy h [iv .i64 n] h') ∧ ButR lo hi h (tidy h [iv .i64 n] h') := by
  have w' : RepL (Rep h' d) (pre ++ [y]) (pre ++ [f']) bs := by simpa using (RepL.sc (d := d) hp).append (.cons w .nil)
  obtain ⟨t1, t2, t3⟩ := mark_tidy (n := n) w' (fun b hbb => by have := hb b hbb; omega) hn ho h2
  refine ⟨OwnC.sep ⟨bs, t2, hd, hb⟩ (by rw [t1]; exact ht), t1, fun c hc => t3 c fun hh => ?_⟩
  have := hb c hh
  omega
/-- the answer of a call: new cells of one's own -/
structure NewC (d : Nat) (ys fs : List S) (n : Nat) (h : H) : Prop where
  le : n ≤ h.n
  q : OwnC d ys fs n h.n h
theorem scrub_g {n : Nat} {h : H} {b : Nat} (hb : (h.g b).cells.all scaS = true) : (scrub n h).g b = h.g b := by
  simp only [scrub]
  rw [if_neg (fun hh => by rw [hb] at hh; cases hh.2.2)]
theorem Rep.scaB {h : H} : ∀ {d : Nat} {y f : S} {bs : List Nat}, Rep h d y f bs → ∀ b ∈ bs, (h.g b).cells.all scaS = true
  | 0, y, f, bs, w => by obtain ⟨_, rfl⟩ := w; simp
  | d + 1, y, f, bs, w => by
    rcases w with ⟨_, rfl⟩ | ⟨b, z, cs, rows, bss, rfl, rfl, rfl, h1, h2, h3, h4, h5⟩
    · simp
    · intro c hc
      rcases List.mem_cons.1 hc with rfl | hc
      · rw [h3]; exact h5.sca
      · clear h3 h4
        generalize rows.flatten = fl at h5
        induction h5 with
        | nil => simp at hc
        | cons w1 w2 ih =>
          rcases List.mem_append.1 hc with hc | hc
          · exact w1.scaB _ hc
          · exact ih (by simp [hc]) hc
theorem RepL.scaB {h : H} {d : Nat} {cs fs : List S} {bss : List Nat} (w : RepL (Rep h d) cs fs bss) : ∀ b ∈ bss, (h.g b).cells.all scaS = true := by
  induction w with
  | nil => simp
  | cons w1 w2 ih =>
    intro c hc
    rcases List.mem_append.1 hc with hc | hc
    · exact w1.scaB _ hc
    · exact ih _ hc
/-- a call with a new answer of cells -/
theorem pC {cl : Nat → List V → H → Option (V × H)} {g : Nat} {off : Bool} {xs : List V} {h : H} {n d : Nat} {ys fs : List S} {h1 : H} (hn : h.n = n) (hc : cl g xs (D n) = some (.agg ys, h1)) (w : NewC d ys fs n h1) :
    ∃ h', (∀ (R : Type) (k : V → H → Option R), pcallF cl g off xs h k = k (.agg ys) h') ∧ Up h h' ∧ n ≤ h'.n ∧ Sep (OwnC d ys fs n h'.n) n h'.n h' := by
  subst hn
  have hle : h.n ≤ h1.n := w.le
  have ov : ∀ h2 : H, h2.n = h1.n → (∀ b, (h1.g b).cells.all scaS = true → h2.g b = h1.g b) → Up h (h.over h2) ∧ h.n ≤ (h.over h2).n ∧ Sep (OwnC d ys fs h.n (h.over h2).n) h.n (h.over h2).n (h.over h2) := fun h2 hn2 hg2 => by
    have hle2 : h.n ≤ h2.n := by omega
    refine ⟨up_over hle2, by rw [over_n hle2]; omega, OwnC.sep ?_ (Nat.le_refl _)⟩
    obtain ⟨bs, w1, w2, w3⟩ := w.q
    rw [over_n hle2, hn2]
    refine ⟨bs, w1.frame fun b hb => ?_, w2, w3⟩
    have := w3 b hb
    exact ⟨by rw [over_n hle2]; omega, by rw [over_ge this.1]; exact hg2 b (w1.scaB b hb)⟩
  cases off with
  | true =>
    obtain ⟨a1, a2, a3⟩ := ov h1 rfl (fun _ _ => rfl)
    refine ⟨h.over h1, fun R k => ?_, a1, a2, a3⟩
    unfold pcallF
    rw [hc, Vm.ob]
    unfold fchk
    rw [if_pos (.inl rfl)]; rfl
  | false =>
    obtain ⟨a1, a2, a3⟩ := ov (scrub h.n h1) rfl (fun b hb => scrub_g hb)
    refine ⟨h.over (scrub h.n h1), fun R k => ?_, a1, a2, a3⟩
    unfold pcallF
    rw [hc, Vm.ob]
    unfold fchk
    rw [if_pos (.inr w.q.scaV)]; rfl
/-- .. of one value -/
theorem pVx {cl : Nat → List V → H → Option (V × H)} {g : Nat} {off : Bool} {xs : List V} {h : H} {n d : Nat} {y f : S} {h1 : H} (hn : h.n = n) (hc : cl g xs (D n) = some (.s y, h1)) (hle : n ≤ h1.n) (w : OwnF d y f n h1.n h1) :
    ∃ h', (∀ (R : Type) (k : V → H → Option R), pcallF cl g off xs h k = k (.s y) h') ∧ Up h h' ∧ n ≤ h'.n ∧ Sep (OwnF d y f n h'.n) n h'.n h' ∧ HExt h h' := by
  subst hn
  have ov : ∀ h2 : H, h2.n = h1.n → (∀ b, (h1.g b).cells.all scaS = true → h2.g b = h1.g b) → Up h (h.over h2) ∧ h.n ≤ (h.over h2).n ∧ Sep (OwnF d y f h.n (h.over h2).n) h.n (h.over h2).n (h.over h2) ∧ HExt h (h.over h2) := fun h2 hn2 hg2 => by
    have hle2 : h.n ≤ h2.n := by omega
    refine ⟨up_over hle2, by rw [over_n hle2]; omega, OwnF.sep ?_ (Nat.le_refl _), ⟨by rw [over_n hle2]; omega, fun b hb => .inr (over_lt hb)⟩⟩
    obtain ⟨bs, w1, w2, w3⟩ := w
    rw [over_n hle2, hn2]
    refine ⟨bs, w1.frame fun b hb => ?_, w2, w3⟩
    have := w3 b hb
    exact ⟨by rw [over_n hle2]; omega, by rw [over_ge this.1]; exact hg2 b (w1.scaB b hb)⟩
  cases off with
  | true =>
    obtain ⟨a1, a2, a3⟩ := ov h1 rfl (fun _ _ => rfl)
    refine ⟨h.over h1, fun R k => ?_, a1, a2, a3⟩
    unfold pcallF
    rw [hc, Vm.ob]
    unfold fchk
    rw [if_pos (.inl rfl)]; rfl
  | false =>
    obtain ⟨a1, a2, a3⟩ := ov (scrub h.n h1) rfl (fun b hb => scrub_g hb)
    refine ⟨h.over (scrub h.n h1), fun R k => ?_, a1, a2, a3⟩
    unfold pcallF
    rw [hc, Vm.ob]
    unfold fchk
    rw [if_pos (.inr (by obtain ⟨bs, w1, _⟩ := w; exact w1.sca))]; rfl
theorem pV {cl : Nat → List V → H → Option (V × H)} {g : Nat} {off : Bool} {xs : List V} {h : H} {n d : Nat} {y f : S} {h1 : H} (hn : h.n = n) (hc : cl g xs (D n) = some (.s y, h1)) (hle : n ≤ h1.n) (w : OwnF d y f n h1.n h1) :
    ∃ h', (∀ (R : Type) (k : V → H → Option R), pcallF cl g off xs h k = k (.s y) h') ∧ Up h h' ∧ n ≤ h'.n ∧ Sep (OwnF d y f n h'.n) n h'.n h' := by
  obtain ⟨h', a, b, c, d, _⟩ := pVx (off := off) hn hc hle w
  exact ⟨h', a, b, c, d⟩
theorem NewC.p {f d : Nat} {xs : List V} {h : H} {ys fs : List S} (hd : d ≤ 8) (hc : call Ev f xs (D 0) = some (.agg ys, h)) (w : NewC d ys fs 0 h) : pureV (call Ev) f xs = some (.agg fs) := by
  unfold pureV
  rw [hc, Vm.ob]
  exact w.q.frz hd

theorem bel_mono {n m : Nat} (h : n ≤ m) {s : S} (hs : belS n s = true) : belS m s = true := by
  cases s with
  | ptr p => cases p <;> simp_all [belS]; omega
  | sl p k => cases p <;> simp_all [belS]; omega
  | fn f cap =>
    simp only [belS, List.all_eq_true, decide_eq_true_eq] at hs ⊢
    intro x hx
    have := hs x hx
    omega
  | _ => exact hs
/-- what leads to new blocks is not let go -/
theorem no_tidy {h h' : H} {l : List V} {b e : Nat} {cs : List S} (hb : b < h.n) (hg : h'.g b = .rw e cs) (hc : cs.all (belS h.n) = false) (hX : (h.g b).cells.all (belS h.n) = true) : tidy h l h' = h' := by
  unfold tidy
  rw [if_neg]
  rintro ⟨_, _, h3⟩
  rcases h3 b hb with ⟨h4, _⟩ | h4
  · rw [← h4, hg] at hX
    rw [show (Blk.rw e cs).cells = cs from rfl, hc] at hX
    cases hX
  · rw [hg, show (Blk.rw e cs).cells = cs from rfl, hc] at h4
    cases h4
theorem no_tidy_v {h h' : H} {l : List V} (hl : l.all (belV h.n) = false) : tidy h l h' = h' := by
  unfold tidy
  rw [if_neg]
  rintro ⟨_, h2, _⟩
  rw [hl] at h2
  cases h2

/-! slices that are filled row by row -/
section
variable {α : Type} {cs : α → List S}
theorem fill_rep {z b d n0 : Nat} {L : Nat → H → Option LOut} {fin : List V} {all : List α} (hz0 : 0 < z) (hz : ∀ a, (cs a).length = z)
    (step : ∀ (i : Nat) (a : α) (h : H) (X : List S), all[i]? = some a → b < h.n → n0 ≤ h.n → h.g b = .rw z X → X.length = all.length * z → X.all (belS h.n) = true →
      ∃ h' row bs, L i h = L (i + 1) h' ∧ h.n ≤ h'.n ∧ h'.g b = .rw z (setAt X (i * z) row) ∧ RepL (Rep h' d) row (cs a) bs ∧ bs.Nodup ∧ (∀ c ∈ bs, h.n ≤ c) ∧ ∀ c, c < h.n → c ≠ b → h'.g c = h.g c)
    (last : ∀ h, L all.length h = some (.done fin h)) :
    ∀ (q i : Nat) (h : H) (ys tail : List S) (bs : List Nat), i + q = all.length → b < h.n → n0 ≤ h.n → b < n0 → h.g b = .rw z (ys ++ tail) → tail.length = q * z → tail.all (belS n0) = true → RepL (Rep h d) ys ((all.take i).map cs).flatten bs → bs.Nodup → (∀ c ∈ bs, n0 ≤ c) →
    ∃ h' ys' bs', L i h = some (.done fin h') ∧ h.n ≤ h'.n ∧ h'.g b = .rw z ys' ∧ RepL (Rep h' d) ys' (all.map cs).flatten bs' ∧ bs'.Nodup ∧ (∀ c ∈ bs', n0 ≤ c) ∧ ∀ c, c < h.n → c ≠ b → c ∉ bs → h'.g c = h.g c := by
  intro q
  induction q with
  | zero =>
    intro i h ys tail bs hi hb hn hbn hg ht htb w hd hbs
    obtain rfl : i = all.length := by omega
    have : tail = [] := List.eq_nil_of_length_eq_zero (by omega)
    subst this
    exact ⟨h, ys, bs, last h, Nat.le_refl _, by simpa using hg, by simpa using w, hd, hbs, fun _ _ _ _ => rfl⟩
  | succ q ih =>
    intro i h ys tail bs hi hb hn hbn hg ht htb w hd hbs
    have hil : i < all.length := by omega
    have ha : all[i]? = some all[i] := List.getElem?_eq_getElem hil
    have hyl : ys.length = i * z := by
      rw [w.len, flat_len (z := z) (fun r hr => by obtain ⟨a, _, rfl⟩ := List.mem_map.1 hr; exact hz a)]
      rw [List.length_map, List.length_take, Nat.min_eq_left (by omega)]
    have htl : tail.length = z + q * z := by rw [ht, Nat.succ_mul]; omega
    have hX : (ys ++ tail).length = all.length * z := by
      rw [List.length_append, hyl, ht, ← Nat.add_mul, hi]
    obtain ⟨h1, row, b1, e1, n1, g1, r1, d1, f1, o1⟩ := step i all[i] h (ys ++ tail) ha hb hn hg hX (by
      rw [List.all_append, w.top w.lt, Bool.true_and]
      rw [List.all_eq_true] at htb ⊢
      exact fun s hs => bel_mono hn (htb s hs))
    have hrl : row.length = z := r1.len.trans (hz _)
    have hbl : ∀ c ∈ bs, c < h.n := w.lt
    have hdis : ∀ c ∈ bs, ∀ c' ∈ b1, c ≠ c' := fun c hc c' hc' hh => by have := hbl c hc; have := f1 c' hc'; omega
    have w' : RepL (Rep h1 d) (ys ++ row) ((all.take (i + 1)).map cs).flatten (bs ++ b1) := by
      have e : (all.take (i + 1)) = all.take i ++ [all[i]] := by rw [List.take_add_one, ha]; rfl
      rw [e, List.map_append, List.flatten_append]
      refine RepL.append (w.frame fun c hc => ⟨by have := hbl c hc; omega, o1 c (hbl c hc) (fun hh => by have := hbs c hc; omega)⟩) ?_
      simpa using r1
    rw [setAt_at hyl hrl] at g1
    obtain ⟨h2, ys2, bs2, e2, n2, g2, r2, d2, f2, o2⟩ := ih (i + 1) h1 (ys ++ row) (tail.drop z) (bs ++ b1) (by omega) (by omega) (by omega) hbn g1 (by rw [List.length_drop]; omega) (by rw [List.all_eq_true] at htb ⊢; exact fun s hs => htb s (List.mem_of_mem_drop hs)) w' (List.nodup_append.2 ⟨hd, d1, hdis⟩) (fun c hc => by
      rcases List.mem_append.1 hc with hc | hc
      · exact hbs c hc
      · have := f1 c hc; omega)
    refine ⟨h2, ys2, bs2, by rw [e1, e2], by omega, g2, r2, d2, f2, fun c hc hcb hcs => ?_⟩
    rw [o2 c (by omega) hcb (fun hh => ?_), o1 c hc hcb]
    rcases List.mem_append.1 hh with hh | hh
    · exact hcs hh
    · have := f1 c hh; omega
end
end Vm
/-
  Results of a code and one value, as they are made at the end of a function.
-/
namespace Vm
open Go
theorem sc1 {k : IntKind} {c : Int} : ∀ s ∈ [S.int k c], Sc s := by intro s hs; rw [List.mem_singleton.1 hs]; trivial
/-- a fault -/
theorem bad2C (n : Nat) (c : Int) : ∃ h', (stK 2 ((D n).new 0 [.int .i64 0, .sl none 0]) (pv ((D n).n) 0) (.agg [.int .i64 c, .sl none 0]) fun h105 =>
      (loadN 2 h105 (pv ((D n).n) 0)).bind fun c106 => some (V.agg c106, h105)) = some (.agg [.int .i64 c, .sl none 0], h') ∧ NewC 4 [.int .i64 c, .sl none 0] [.int .i64 c, .fs []] n h' := by
  rw [st2_new, loadN_2 (by simp) (by exact g_st), Vm.ob]
  refine ⟨_, rfl, by simp, [], ?_, by simp, by simp⟩
  exact RepL.cons (bs := []) (Rep.sc trivial) (RepL.cons (bs := []) Rep.nil .nil)
/-- a value put into a result that stands in block n -/
theorem fin2S {n d : Nat} {K : H} {y f : S} (hn : n < K.n) (g : K.g n = .rw 0 [.int .i64 0, .sl none 0]) (w : OwnF d y f (n + 1) K.n K) {c : Int} :
    ∃ h', (stK 2 K (pv n 0) (.agg [.int .i64 c, y]) fun h116 => (loadN 2 h116 (pv n 0)).bind fun c117 => some (V.agg c117, h116)) = some (.agg [.int .i64 c, y], h') ∧ NewC d [.int .i64 c, y] [.int .i64 c, f] n h' := by
  rw [stK_rw (z := 2) (e := 0) (o := 0) (b := n) (cs := [.int .i64 0, .sl none 0]) (r := [.int .i64 c, y]) hn g (.inr rfl) rfl (by simp)]
  rw [show setAt [.int .i64 0, .sl none 0] 0 [.int .i64 c, y] = [.int .i64 c, y] from rfl]
  rw [loadN_2 (b := n) (e := 0) (by rw [put_n]; omega) (put_g _ _ _), ob]
  obtain ⟨bs, w1, w2, w3⟩ := w
  refine ⟨_, rfl, by rw [put_n]; omega, ?_⟩
  refine OwnF.c (pre := [.int .i64 c]) sc1 ⟨bs, w1.frame fun b hb => ?_, w2, fun b hb => ?_⟩
  · have := w3 b hb
    exact ⟨by rw [put_n]; omega, put_g' (by omega)⟩
  · have := w3 b hb
    rw [put_n]; omega
theorem cells2 {R : Type} {y : S} (hy : isNo y = false) {k : Int → S → Option R} :
    (cellsK (.s y) fun c112 =>
      if c112.length = 1 ∧ 1 + 1 ≤ ([.int .i64 0, .sl none 0] : List S).length then
      ((setAt ([.int .i64 0, .sl none 0] : List S) 1 c112)[0]?).bind fun x113 =>
      gI .i64 x113 fun i114 =>
      ((setAt ([.int .i64 0, .sl none 0] : List S) 1 c112)[1]?).bind fun x115 =>
      if (setAt ([.int .i64 0, .sl none 0] : List S) 1 c112).length = 2 then k i114 x115 else none else none) = k 0 y := by
  simp only [cellsK, hy, cond_false, ln0, ln1, Nat.zero_add, Nat.reduceAdd, Nat.le_refl, and_self, if_true]
  rw [show setAt [.int .i64 0, .sl none 0] 1 [y] = [.int .i64 0, y] from rfl]
  simp only [gx0, gx1, ob, gI_i, ln0, ln1, Nat.zero_add, Nat.reduceAdd, if_true]
theorem fin2 {g n d : Nat} {xs : List V} {y f : S} {h1 : H} {off : Bool} (hc : call Ev g xs (D (n + 1)) = some (.s y, h1)) (hle : n + 1 ≤ h1.n) (w : OwnF d y f (n + 1) h1.n h1) :
    ∃ h', (pcallF (call Ev) g off xs ((D n).new 0 [.int .i64 0, .sl none 0]) fun v110 h111 =>
      cellsK v110 fun c112 =>
      if c112.length = 1 ∧ 1 + 1 ≤ ([.int .i64 0, .sl none 0] : List S).length then
      ((setAt ([.int .i64 0, .sl none 0] : List S) 1 c112)[0]?).bind fun x113 =>
      gI .i64 x113 fun i114 =>
      ((setAt ([.int .i64 0, .sl none 0] : List S) 1 c112)[1]?).bind fun x115 =>
      if (setAt ([.int .i64 0, .sl none 0] : List S) 1 c112).length = 2 then
      stK 2 h111 (pv ((D n).n) 0) (.agg [.int .i64 i114, x115]) fun h116 =>
      (loadN 2 h116 (pv ((D n).n) 0)).bind fun c117 =>
      some (V.agg c117, h116)
      else none
      else none) = some (.agg [.int .i64 0, y], h') ∧ NewC d [.int .i64 0, y] [.int .i64 0, f] n h' := by
  obtain ⟨K, e, u, hn, w'⟩ := pV (h := (D n).new 0 [.int .i64 0, .sl none 0]) (off := off) (n := n + 1) (by simp) hc hle w
  have hy : isNo y = false := by obtain ⟨bs, w1, _⟩ := w; exact w1.isNo
  rw [e]
  rw [cells2 hy]
  exact fin2S (K := K) (by omega) (by rw [u.g n (by simp)]; exact new_g (D n) _ _) w'.now
end Vm
/-
  Runs as arguments and as results of a law.
-/
namespace Vm
open Go
/-- runs in a stretch of blocks -/
def OwnRs (v : V) (rs : List RunD) (lo hi : Nat) (h : H) : Prop := ∃ y, v = .s y ∧ OwnF 4 y (.fs (runs rs)) lo hi h
theorem OwnRs.frz {v : V} {rs : List RunD} {lo hi : Nat} {h : H} (w : OwnRs v rs lo hi h) : frzV h v = some (lv (runs rs)) := by
  obtain ⟨y, rfl, w⟩ := w
  exact w.frz
theorem OwnRs.sep {v : V} {rs : List RunD} {lo hi : Nat} {h : H} (w : OwnRs v rs lo hi h) (hn : hi ≤ h.n) : Sep (OwnRs v rs lo hi) lo hi h := ⟨hn, fun h' hn' hg => by
  obtain ⟨y, rfl, w⟩ := w
  exact ⟨y, rfl, (w.sep hn).q h' hn' hg⟩⟩
theorem OwnRs.pv {cl : Nat → List V → H → Option (V × H)} {g : Nat} {off : Bool} {xs : List V} {h : H} {n : Nat} {v : V} {rs : List RunD} {h1 : H} (hn : h.n = n) (hc : cl g xs (D n) = some (v, h1)) (hw : n ≤ h1.n ∧ OwnRs v rs n h1.n h1) :
    ∃ h', (∀ (R : Type) (k : V → H → Option R), pcallF cl g off xs h k = k v h') ∧ Up h h' ∧ n ≤ h'.n ∧ Sep (OwnRs v rs n h'.n) n h'.n h' := by
  obtain ⟨hle, y, rfl, w⟩ := hw
  obtain ⟨h', e, u, hn', w'⟩ := pV (off := off) hn hc hle w
  exact ⟨h', e, u, hn', OwnRs.sep ⟨y, rfl, w'.now⟩ (Nat.le_refl _)⟩
theorem mkRs_cons (k : Nat) (r : RunD) (rs : List RunD) : mkRs k (r :: rs) = mkR k r :: mkRs (k + (1 + r.l.length)) rs := rfl
theorem mkRs_len (k : Nat) (rs : List RunD) : (mkRs k rs).length = rs.length := mkAll_len _ _ _ _
end Vm
/-
  What the functions on rows come to.
-/
namespace Vm
open Go

structure RowD where
  tab : Int
  key : Int
  val : Int
  text : ByteArray
abbrev RowD.cs (r : RowD) : List S := [.int .i64 r.tab, .int .i64 r.key, .int .i64 r.val, .str r.text]
structure RowD.ok (r : RowD) : Prop where
  t1 : -9223372036854775808 ≤ r.tab
  t2 : r.tab < 9223372036854775808
  k1 : -9223372036854775808 ≤ r.key
  k2 : r.key < 9223372036854775808
  v1 : -9223372036854775808 ≤ r.val
  v2 : r.val < 9223372036854775808
  s : r.text.size ≤ maxLen
/-! the faults of a row -/
def low (c : UInt8) : Bool := decide (97 ≤ (c.toNat : Int)) && decide ((c.toNat : Int) ≤ 122)
def allLow (s : ByteArray) (i : Nat) : Bool := (s.data.toList.drop i).all low
def rowF (r : RowD) : Int := if inB r.tab 0 3 && inB r.key 1 99 && inB r.val 0 999 then (if decide (r.text.size ≤ 8) && allLow r.text 0 then 0 else 5) else 3
theorem allLow_step {s : ByteArray} {i : Nat} (h : i < s.size) : allLow s i = (low (s.get! i) && allLow s (i + 1)) := by
  unfold allLow; rw [str_drop h]; rfl
theorem allLow_end {s : ByteArray} {i : Nat} (h : s.size ≤ i) : allLow s i = true := by
  unfold allLow; rw [str_drop_all h]; rfl
theorem lp_l1Text (s : ByteArray) (hs : s.size ≤ maxLen) (h : H) : ∀ k i : Nat, i + k = s.size → Lp.spec_l1Text 0 [.s (.str s), iv .i64 i] h = some (if allLow s i then .done [.s (.str s)] h else .ret (bv false) h) := by
  unfold maxLen at hs
  intro k
  induction k with
  | zero =>
    intro i hi
    rw [eq_spec_l1Text_l0, vcase_b, if_neg (by simp; omega), allLow_end (by omega)]; simp
  | succ k ih =>
    intro i hi
    rw [eq_spec_l1Text_l0, vcase_b, if_pos (by simp; omega), idxStr_of (by omega) (by omega), allLow_step (by omega), w64 (by omega) (by omega), show (i : Int) + 1 = ((i + 1 : Nat) : Int) from by omega, tidy_self, ih (i + 1) (by omega)]
    have e : sby s i = ((s.get! i).toNat : Int) := by simp [sby]
    simp only [Option.bind_some, gV1_s, gI_i, vcase_b, e, decide_eq_true_eq, low, Bool.and_eq_true]
    split
    · rw [if_neg (by omega)]
    · split
      · rw [if_neg (by omega)]
      · simp only [show (97 ≤ ((s.get! i).toNat : Int)) from by omega, show ((s.get! i).toNat : Int) ≤ 122 from by omega, true_and]
theorem p_l1Text (s : ByteArray) (hs : s.size ≤ maxLen) : pureV (call Ev) Fn.spec_l1Text [.s (.str s)] = some (bv (decide (s.size ≤ 8) && allLow s 0)) := by
  rw [pu_spec_l1Text, show iv .i64 0 = iv .i64 ((0 : Nat) : Int) from rfl, lp_l1Text s hs _ s.size 0 (by omega)]
  cases allLow s 0 <;> simp <;> omega
theorem p_l1Fault (r : RowD) (hs : r.text.size ≤ maxLen) : pureV (call Ev) Fn.spec_l1Fault [fv r.cs 0] = some (iv .i64 (rowF r)) := by
  rw [pu_spec_l1Fault]
  simp only [pcallS, p_l1In, p_l1Text _ hs, Option.bind_some, sca_v, sca_b, cond_true, gV1_s, gB_b, vcase_b]
  unfold rowF
  cases inB r.tab 0 3 <;> cases inB r.key 1 99 <;> cases inB r.val 0 999 <;> cases (decide (r.text.size ≤ 8) && allLow r.text 0) <;> simp
theorem lp_RowFault (r : RowD) (hs : r.text.size ≤ maxLen) (h : H) (p : Nat) (hp : h.cells p = r.cs) : ∀ k i : Nat, i + k = r.text.size → Lp.impl_RowFault 0 [pv p 0, iv .i64 (r.text.size : Int), iv .i64 i] h = some (if allLow r.text i then .done [] h else .ret (iv .i64 5) h) := by
  unfold maxLen at hs
  intro k
  have ld : ∀ (q : V → Option LOut), ldK (.one (.s)) ⟨1, 16, [.str ⟨#[]⟩], false, .str, false⟩ h (pv p (0 + 3)) q = q (.s (.str r.text)) := by
    intro q; simp [ldK, ldT, load1, hp]
  have pa : padd 3 (pv p 0) = some (pv p (0 + 3)) := rfl
  induction k with
  | zero =>
    intro i hi
    rw [eq_impl_RowFault_l0, vcase_b, if_neg (by simp; omega), allLow_end (by omega)]; simp
  | succ k ih =>
    intro i hi
    rw [eq_impl_RowFault_l0, vcase_b, if_pos (by simp; omega), allLow_step (by omega), w64 (by omega) (by omega), show (i : Int) + 1 = ((i + 1 : Nat) : Int) from by omega, tidy_self, ih (i + 1) (by omega)]
    have e : sby r.text i = ((r.text.get! i).toNat : Int) := by simp [sby]
    simp only [pa, Option.bind_some, ld, gV1_s, gS_s]
    rw [idxStr_of (by omega) (by omega)]
    simp only [Option.bind_some, gV1_s, gI_i, vcase_b, e, decide_eq_true_eq, low, Bool.and_eq_true]
    split
    · rw [if_neg (by omega)]
    · split
      · rw [if_neg (by omega)]
      · simp only [show (97 ≤ ((r.text.get! i).toNat : Int)) from by omega, show ((r.text.get! i).toNat : Int) ≤ 122 from by omega, true_and]
theorem p_RowFault (r : RowD) (hs : r.text.size ≤ maxLen) : pureV (call Ev) Fn.impl_RowFault [.agg r.cs] = some (iv .i64 (rowF r)) := by
  have hl := lp_RowFault r hs ((D 0).new 0 r.cs) 0 (by simp [H.cells, H.new, D, Blk.cells]) r.text.size 0 (by omega)
  rw [pu_impl_RowFault]
  simp only [pcallS, p_in, Option.bind_some, sca_v, sca_b, cond_true, gV1_s, gB_b, vcase_b]
  rw [show iv .i64 0 = iv .i64 ((0 : Nat) : Int) from rfl, hl]
  unfold rowF
  cases inB r.tab 0 3 <;> cases inB r.key 1 99 <;> cases inB r.val 0 999 <;> simp
  by_cases h8 : r.text.size ≤ 8
  · rw [if_neg (by omega)]
    cases allLow r.text 0 <;> simp [h8]
  · rw [if_pos (by omega)]; simp [h8]
def befB (a b : RowD) : Bool := decide (a.tab < b.tab) || (decide (a.tab = b.tab) && decide (a.key < b.key))
end Vm
/-
  A row that came in, its size and its copy.
-/
namespace Vm
open Go

theorem rp_Row {n : Nat} {xs : List S} (hr : Rp PR n T.laws_Row xs) : ∃ r : RowD, xs = r.cs ∧ r.ok := by
  obtain ⟨m, hf⟩ := hr.st und_laws_Row
  obtain ⟨a0, b0, rfl, h0, a1, b1, rfl, h1, a2, b2, rfl, h2, a3, b3, rfl, h3, rfl⟩ := hf
  obtain ⟨x0, rfl, w0⟩ := h0.int und_int64
  obtain ⟨x1, rfl, w1⟩ := h1.int und_int64
  obtain ⟨x2, rfl, w2⟩ := h2.int und_int64
  obtain ⟨x3, rfl, w3⟩ := h3.str und_string
  exact ⟨⟨x0, x1, x2, x3⟩, rfl, (wf64 w0).1, (wf64 w0).2, (wf64 w1).1, (wf64 w1).2, (wf64 w2).1, (wf64 w2).2, w3⟩
theorem arg_Row {x : V} (hr : ArgRp PR T.laws_Row x) : ∃ r : RowD, x = .agg r.cs ∧ r.ok := by
  obtain ⟨cs, n, rfl, h1⟩ := hr.st und_laws_Row
  obtain ⟨r, rfl, h2⟩ := rp_Row h1
  exact ⟨r, rfl, h2⟩
theorem p_szRow (r : RowD) (left : Int) (h1 : 0 ≤ left) (h2 : left < 9223372036854775808) (hz : r.text.size ≤ maxLen) :
    pureV (call Ev) Fn.laws_szRow [.agg r.cs, iv .i64 left] = some (iv .i64 (if (r.text.size : Int) ≤ left then left - r.text.size else -1)) := by
  unfold maxLen at hz
  rw [pu_laws_szRow, vcase_b, w64 (by omega) (by omega)]
  simp only [decide_eq_true_eq]
  split <;> split <;> first | rfl | omega
theorem p_toRow (r : RowD) : pureV (call Ev) Fn.laws_toRow [.agg r.cs] = some (.agg r.cs) := pu_laws_toRow _ _ _ _

end Vm
/-
  Slices of rows: their size, a copy, a comparison, their fault.
-/
namespace Vm
open Go
def rws (rs : List RowD) : List (List S) := rs.map RowD.cs
@[simp] theorem rws_len (rs : List RowD) : (rws rs).length = rs.length := by simp [rws]
theorem rws_row {rs : List RowD} : ∀ r ∈ rws rs, r.length = 4 := by
  intro r hr
  obtain ⟨c, _, rfl⟩ := List.mem_map.1 hr
  rfl
theorem row_cl {r : RowD} : ∀ s ∈ r.cs, Cl s := by
  intro s hs
  simp only [List.mem_cons, List.not_mem_nil, or_false] at hs
  rcases hs with rfl | rfl | rfl | rfl
  · exact cl_i
  · exact cl_i
  · exact cl_i
  · exact cl_s
theorem rws_cl {rs : List RowD} : ∀ r ∈ rws rs, ∀ s ∈ r, Cl s := by
  intro r hr
  obtain ⟨c, _, rfl⟩ := List.mem_map.1 hr
  exact row_cl
theorem rws_get {rs : List RowD} {i : Nat} {r : RowD} (h : rs[i]? = some r) : (rws rs)[i]? = some r.cs := by simp [rws, h]
section
variable {R : Type}
theorem idxF_rw {rs : List RowD} {i : Nat} {r : RowD} {k : List S → Option R} (h : rs[i]? = some r) : idxF 4 (rws rs) (i : Int) k = k r.cs := idxF_at (rws_get h) rfl
end
theorem rowN_rw {r : RowD} : rowN 4 r.cs 0 = some r.cs := rowN_all rfl
theorem normV_rw {r : RowD} : normV 4 (fv r.cs 0) = fv r.cs 0 := rfl
theorem rows_Row {m : Nat} : ∀ rows : List (List S), (∀ r ∈ rows, r.length = PR.cellsOf T.laws_Row ∧ Rp PR m T.laws_Row r) → ∃ rs : List RowD, rows = rws rs ∧ ∀ r ∈ rs, r.ok
  | [], _ => ⟨[], rfl, by simp⟩
  | r :: rows, hr => by
    obtain ⟨rs, h1, h2⟩ := rows_Row rows fun r hm => hr r (by simp [hm])
    obtain ⟨a, h3, h4⟩ := rp_Row (hr r (by simp)).2
    refine ⟨a :: rs, by rw [h1, h3]; rfl, fun x hx => ?_⟩
    rcases List.mem_cons.1 hx with rfl | hx
    · exact h4
    · exact h2 x hx
theorem arg_Rows {x : V} (hr : ArgRp PR T.S_laws_Row x) : ∃ rs : List RowD, x = lv (rws rs) ∧ (∀ r ∈ rs, r.ok) ∧ rs.length ≤ maxLen := by
  obtain ⟨s, n, rfl, h1⟩ := hr.slice und_S_laws_Row
  obtain ⟨m, rows, h1, h2, h3⟩ := h1.slice und_S_laws_Row
  cases h1
  obtain ⟨rs, rfl, h4⟩ := rows_Row rows h3
  exact ⟨rs, rfl, h4, by simpa using h2⟩

/-! size -/
def szRows : List RowD → Int → Int
  | [], left => left
  | r :: rs, left => if (r.text.size : Int) ≤ left then szRows rs (left - r.text.size) else -1
theorem szRows_le : ∀ (rs : List RowD) (left : Int), 0 ≤ left → szRows rs left ≤ left ∧ -1 ≤ szRows rs left
  | [], left, h => ⟨Int.le_refl _, by simp only [szRows]; omega⟩
  | r :: rs, left, h => by
    simp only [szRows]
    split
    · have := szRows_le rs (left - r.text.size) (by omega); omega
    · omega
theorem p_szRowS {all : List RowD} {left : Int} (h1 : 0 ≤ left) (h2 : left < 9223372036854775808) (hl : all.length ≤ maxLen) (hr : ∀ r ∈ all, r.text.size ≤ maxLen) : pureV (call Ev) Fn.laws_szRowS [lv (rws all), iv .i64 left] = some (iv .i64 (if (all.length : Int) ≤ left then szRows all (left - all.length) else -1)) := by
  unfold maxLen at hl
  have loop : ∀ (rs : List RowD) (i : Nat) (q : Int), all.drop i = rs → 0 ≤ q → q < 9223372036854775808 →
      (Lp.laws_szRowS 0 [lv (rws all), iv .i64 q, iv .i64 i] (D 0)).bind (fun o102 => lcase o102 (fun l103 h104 =>
        (l103[0]?).bind fun w107 =>
        gV1 w107 fun x108 =>
        gI .i64 x108 fun i109 =>
        some (iv .i64 i109)) (fun v105 h106 =>
        frzV h106 v105)) = some (iv .i64 (szRows rs q)) := by
    intro rs
    induction rs with
    | nil =>
      intro i q hi h1 h2
      have := drop_nil hi
      rw [eq_laws_szRowS_l0, vcase_b, if_neg (by simp; omega), tidy_self, ob, lcase_done]
      simp only [gx0, ob, gV1_s, gI_i, szRows]
    | cons r rs ih =>
      intro i q hi h1 h2
      obtain ⟨g1, g2, g3⟩ := drop_cons hi
      rw [eq_laws_szRowS_l0, vcase_b, if_pos (by simp; omega), idxF_rw g1, rowN_rw]
      simp only [ob, gx0, gx1, gI_i, gS_s, ln0, ln1, Nat.zero_add, Nat.reduceAdd, if_true]
      rw [pc (p_szRow r q h1 h2 (hr r (List.mem_of_getElem? g1))) rfl]
      simp only [gV1_s, gI_i, vcase_b, decide_eq_true_eq, szRows]
      by_cases hle : (r.text.size : Int) ≤ q
      · rw [if_pos hle, if_neg (by omega), w64 (by omega) (by omega), tidy_self, show (i : Int) + 1 = ((i + 1 : Nat) : Int) from by omega, if_pos hle]
        exact ih (i + 1) _ g2 (by omega) (by omega)
      · rw [if_neg hle, if_pos (by omega), if_neg hle]; rfl
  rw [pu_laws_szRowS, vcase_b, rws_len, w64 (by omega) (by omega)]
  by_cases hq : (all.length : Int) ≤ left
  · rw [if_neg (by simp; omega), if_pos hq]
    exact loop all 0 _ rfl (by omega) (by omega)
  · rw [if_pos (by simp; omega), if_neg hq]

/-! a copy -/
structure NewRw (n : Nat) (h : H) (v : V) (rs : List RowD) : Prop where
  v : v = sv n 0 rs.length
  g : h.g n = .rw 4 (rws rs).flatten
  le : h.n = n + 1
theorem f_toRowS {all : List RowD} (hl : all.length ≤ lim) (n : Nat) : ∃ v h', call Ev Fn.laws_toRowS [lv (rws all)] (D n) = some (v, h') ∧ NewRw n h' v all := by
  have hl' := hl
  unfold lim at hl'
  rw [eq_laws_toRowS, rws_len, mkSl_of (z := 4) (zero := [.int .i64 0, .int .i64 0, .int .i64 0, .str ⟨#[]⟩]) hl (by omega) rfl, ob]
  obtain ⟨h', e1, e2, e3, _⟩ := fill_rows (z := 4) (n := all.length) (b := n) (rows := rws all) (L := fun i h => Lp.laws_toRowS 0 [lv (rws all), sv n 0 all.length, iv .i64 i] h) (fin := [sv n 0 all.length]) (by simp) rws_row
    (fun i h r hr' hi hb => by
      obtain ⟨a, ha⟩ : ∃ a, all[i]? = some a := ⟨_, List.getElem?_eq_getElem hi⟩
      rw [rws_get ha] at hr'; cases hr'
      refine ⟨.agg a.cs, [lv (rws all), sv n 0 all.length, iv .i64 ((i + 1 : Nat) : Int)], .inr rfl, ?_⟩
      show Lp.laws_toRowS 0 _ h = _
      rw [eq_laws_toRowS_l0, vcase_b, if_pos (by simp; omega), idxF_rw ha, rowN_rw]
      simp only [ob, gx0, gx1, gI_i, gS_s, ln0, ln1, Nat.zero_add, Nat.reduceAdd, if_true]
      rw [pc (p_toRow a) rfl]
      simp only [ob, gx0, gx1, gVA_a, gI_i, gS_s, ln0, ln1, Nat.zero_add, Nat.reduceAdd, if_true]
      rw [idxK_sv hi, w64 (by omega) (by omega), show (i : Int) + 1 = ((i + 1 : Nat) : Int) from by omega])
    (fun h => by
      show Lp.laws_toRowS 0 _ h = _
      rw [eq_laws_toRowS_l0, vcase_b, if_neg (by simp), tidy_self])
    ((D n).new 4 ((List.replicate all.length [.int .i64 0, .int .i64 0, .int .i64 0, .str ⟨#[]⟩]).flatten)) _ (by simp) (by exact new_g (D n) _ _) (repl_len rfl)
  rw [D_n, e1]
  simp only [ob, lcase_done, gx0]
  exact ⟨_, _, rfl, rfl, e3, by rw [e2]; simp⟩
theorem p_toRowS {all : List RowD} (hl : all.length ≤ lim) : pureV (call Ev) Fn.laws_toRowS [lv (rws all)] = some (lv (rws all)) := by
  obtain ⟨v, h', e, w⟩ := f_toRowS hl 0
  unfold pureV
  have := frzV_sv (h := h') (b := 0) (z := 4) (rows := rws all) (by rw [w.le]; omega) (by omega) w.g rws_row rws_cl
  rw [rws_len] at this
  rw [e, ob, w.v, this]

/-! a comparison -/
theorem p_eqRow (r : RowD) : pureV (call Ev) Fn.laws_eqRow [.agg r.cs, .agg r.cs] = some (bv true) := by
  rw [pu_laws_eqRow]; simp
theorem p_eqRowS {all : List RowD} (hl : all.length ≤ maxLen) : pureV (call Ev) Fn.laws_eqRowS [lv (rws all), lv (rws all)] = some (bv true) := by
  unfold maxLen at hl
  have loop : ∀ (rs : List RowD) (i : Nat), all.drop i = rs → Lp.laws_eqRowS 0 [lv (rws all), lv (rws all), iv .i64 i] (D 0) = some (.done [] (D 0)) := by
    intro rs
    induction rs with
    | nil =>
      intro i hi
      have := drop_nil hi
      rw [eq_laws_eqRowS_l0, vcase_b, if_neg (by simp; omega), tidy_self]
    | cons r rs ih =>
      intro i hi
      obtain ⟨g1, g2, g3⟩ := drop_cons hi
      rw [eq_laws_eqRowS_l0, vcase_b, if_pos (by simp; omega), idxF_rw g1, rowN_rw]
      simp only [ob, gx0, gx1, gI_i, gS_s, ln0, ln1, Nat.zero_add, Nat.reduceAdd, if_true]
      rw [idxF_rw g1, rowN_rw]
      simp only [ob, gx0, gx1, gI_i, gS_s, ln0, ln1, Nat.zero_add, Nat.reduceAdd, if_true]
      rw [pc (p_eqRow r) rfl]
      simp only [gV1_s, gB_b, hchk_self, vcase_b]
      rw [if_neg (by simp), tidy_self, w64 (by omega) (by omega), show (i : Int) + 1 = ((i + 1 : Nat) : Int) from by omega]
      exact ih (i + 1) g2
  rw [pu_laws_eqRowS, vcase_b, if_neg (by simp), show iv .i64 0 = iv .i64 ((0 : Nat) : Int) from rfl, loop all 0 rfl]
  simp

/-! the fault of rows -/
def rowsFrom : Option RowD → List RowD → Int
  | _, [] => 0
  | p, r :: rs => if rowF r = 0 then (if (match p with | none => false | some q => !befB q r) then 1 else rowsFrom (some r) rs) else rowF r
def rowsF (rs : List RowD) : Int := if 60 < rs.length then 2 else rowsFrom none rs
/-- the row before -/
def lastOf (all : List RowD) (i : Nat) : Option RowD := if i = 0 then none else all[i - 1]?
theorem p_l1Before (a b : RowD) : pureV (call Ev) Fn.spec_l1Before [fv a.cs 0, fv b.cs 0] = some (bv (befB a b)) := by
  rw [pu_spec_l1Before]; unfold befB
  simp only [vcase_b, decide_eq_true_eq, beq_iff_eq]
  split
  · rename_i h; simp [h]
  · rename_i h
    split
    · rename_i h2; simp [h2]
    · rename_i h2; simp [h, h2]
theorem p_IsBefore (a b : RowD) : pureV (call Ev) Fn.impl_IsBefore [.agg a.cs, .agg b.cs] = some (bv (befB a b)) := by
  rw [pu_impl_IsBefore]; unfold befB
  simp only [vcase_b, decide_eq_true_eq, beq_iff_eq]
  split
  · rename_i h; simp [h]
  · rename_i h
    split
    · rename_i h2; simp [h2]
    · rename_i h2; simp [h, h2]
/-- what a loop over rows ends with -/
def outI (x : Int) (h : H) : LOut := if x = 0 then .done [] h else .ret (iv .i64 x) h
theorem outI_0 (h : H) : outI 0 h = .done [] h := rfl
theorem outI_n {x : Int} (hx : x ≠ 0) (h : H) : outI x h = .ret (iv .i64 x) h := if_neg hx
theorem rowsFrom_n {p : Option RowD} {r : RowD} {rs : List RowD} (h : rowF r ≠ 0) : rowsFrom p (r :: rs) = rowF r := by simp [rowsFrom, h]
theorem rowsFrom_0 {r : RowD} {rs : List RowD} (h : rowF r = 0) : rowsFrom none (r :: rs) = rowsFrom (some r) rs := by simp [rowsFrom, h]
theorem rowsFrom_1 {q r : RowD} {rs : List RowD} (h : rowF r = 0) (hb : befB q r = false) : rowsFrom (some q) (r :: rs) = 1 := by simp [rowsFrom, h, hb]
theorem rowsFrom_2 {q r : RowD} {rs : List RowD} (h : rowF r = 0) (hb : befB q r = true) : rowsFrom (some q) (r :: rs) = rowsFrom (some r) rs := by simp [rowsFrom, h, hb]
theorem lastOf_0 {all : List RowD} : lastOf all 0 = none := rfl
theorem lastOf_s {all : List RowD} {i : Nat} {r : RowD} (h : all[i]? = some r) : lastOf all (i + 1) = some r := by simp [lastOf, h]
theorem p_l6Rows {all : List RowD} (hs : ∀ r ∈ all, r.text.size ≤ maxLen) (hl : all.length ≤ maxLen) : pureV (call Ev) Fn.spec_l6Rows [lv (rws all)] = some (iv .i64 (rowsF all)) := by
  unfold maxLen at hl
  have loop : ∀ (rs : List RowD) (i : Nat), all.drop i = rs → Lp.spec_l6Rows 0 [lv (rws all), iv .i64 i] (D 0) = some (outI (rowsFrom (lastOf all i) rs) (D 0)) := by
    intro rs
    induction rs with
    | nil =>
      intro i hi
      have := drop_nil hi
      rw [eq_spec_l6Rows_l0, vcase_b, if_neg (by simp; omega), tidy_self]; rfl
    | cons r rs ih =>
      intro i hi
      obtain ⟨g1, g2, g3⟩ := drop_cons hi
      have hz := hs r (List.mem_of_getElem? g1)
      have ih' := ih (i + 1) g2
      rw [lastOf_s g1] at ih'
      rw [eq_spec_l6Rows_l0, vcase_b, if_pos (by simp; omega), idxF_rw g1, normV_rw, pc (p_l1Fault r hz) rfl]
      simp only [gV1_s, gI_i, vcase_b, bne_iff_ne, ne_eq, decide_eq_true_eq]
      by_cases h0 : rowF r = 0
      · rw [if_neg (by simp [h0])]
        by_cases hi0 : i = 0
        · subst hi0
          rw [if_neg (by omega), hchk_self, tidy_self, w64 (by omega) (by omega), lastOf_0, rowsFrom_0 h0]
          exact ih'
        · obtain ⟨p, hp⟩ : ∃ p, all[i - 1]? = some p := ⟨_, List.getElem?_eq_getElem (by omega)⟩
          rw [if_pos (by omega), w64 (n := (i : Int) - 1) (by omega) (by omega), show (i : Int) - 1 = ((i - 1 : Nat) : Int) from by omega, idxF_rw hp, idxF_rw g1, normV_rw, normV_rw, pc (p_l1Before p r) rfl,
            show lastOf all i = some p from by rw [← lastOf_s hp, Nat.sub_add_cancel (by omega)]]
          simp only [gV1_s, gB_b, hchk_self, vcase_b]
          cases hb : befB p r
          · rw [rowsFrom_1 h0 hb]; rfl
          · rw [rowsFrom_2 h0 hb, if_neg (by simp), tidy_self, w64 (by omega) (by omega), show (i : Int) + 1 = ((i + 1 : Nat) : Int) from by omega]
            exact ih'
      · rw [if_pos h0, rowsFrom_n h0, outI_n h0]
  rw [pu_spec_l6Rows, vcase_b, rws_len]; unfold rowsF
  by_cases h60 : 60 < all.length
  · rw [if_pos (by simp; omega), if_pos h60]
  rw [if_neg (by simp; omega), if_neg h60, show iv .i64 0 = iv .i64 ((0 : Nat) : Int) from rfl, loop all 0 rfl, ob, lastOf_0]
  by_cases h0 : rowsFrom none all = 0
  · rw [h0]; rfl
  · rw [outI_n h0, lcase_ret]; simp
theorem setAt_all {cs r : List S} (h : cs.length ≤ r.length) : setAt cs 0 r = r := by simp [setAt, List.drop_of_length_le h]
/-- a row that lies in a new block -/
def putR (h : H) (r : RowD) : H := (h.new 0 [.int .i64 0, .int .i64 0, .int .i64 0, .str ⟨#[]⟩]).put h.n (.rw 0 r.cs)
theorem putR_keep (h : H) (r : RowD) : HKeep h (putR h r) := ((HKeep.refl h).new).put (Nat.le_refl _)
theorem putR_n (h : H) (r : RowD) : (putR h r).n = h.n + 1 := rfl
theorem putR_g (h : H) (r : RowD) : (putR h r).g h.n = .rw 0 r.cs := put_g _ _ _
theorem putR_cells (h : H) (r : RowD) : (putR h r).cells h.n = r.cs := by
  unfold H.cells; rw [if_pos (by rw [putR_n]; omega), putR_g]; rfl
theorem putR_tidy {h : H} {r : RowD} {l : List V} (hl : l.all (belV h.n) = true) : tidy h l (putR h r) = h := tidy_ext (putR_keep h r) hl
section
variable {R : Type}
theorem stK_row {h : H} {r : RowD} {k : H → Option R} : stK 4 (h.new 0 [.int .i64 0, .int .i64 0, .int .i64 0, .str ⟨#[]⟩]) (pv h.n 0) (.agg r.cs) k = k (putR h r) := by
  rw [stK_rw (z := 4) (o := 0) (b := h.n) (r := r.cs) (e := 0) (cs := [.int .i64 0, .int .i64 0, .int .i64 0, .str ⟨#[]⟩]) (by simp) (new_g h _ _) (.inr rfl) rfl (by simp), setAt_all (by simp)]
  rfl
end
theorem loadN_row {h : H} {r : RowD} : loadN 4 (putR h r) (pv h.n 0) = some r.cs := by
  have := putR_cells h r
  have h2 : h.n < (putR h r).n := by rw [putR_n]; omega
  simp only [loadN]
  rw [if_pos ⟨h2, by rw [this]; simp⟩, this]; rfl
theorem load_0 {h : H} {r : RowD} : load1 (putR h r) (pv h.n 0) = some (.int .i64 r.tab) := by simp only [load1]; rw [putR_cells]; rfl
theorem load_1 {h : H} {r : RowD} : load1 (putR h r) (pv h.n 1) = some (.int .i64 r.key) := by simp only [load1]; rw [putR_cells]; rfl
theorem load_2 {h : H} {r : RowD} : load1 (putR h r) (pv h.n 2) = some (.int .i64 r.val) := by simp only [load1]; rw [putR_cells]; rfl
theorem load_3 {h : H} {r : RowD} : load1 (putR h r) (pv h.n 3) = some (.str r.text) := by simp only [load1]; rw [putR_cells]; rfl
theorem p_RowsFault {all : List RowD} (hs : ∀ r ∈ all, r.text.size ≤ maxLen) (hl : all.length ≤ maxLen) : pureV (call Ev) Fn.impl_RowsFault [lv (rws all)] = some (iv .i64 (rowsF all)) := by
  unfold maxLen at hl
  have loop : ∀ (rs : List RowD) (i : Nat), all.drop i = rs → ∃ h', Lp.impl_RowsFault 0 [lv (rws all), lv (rws all), iv .i64 (all.length : Int), iv .i64 i] (D 0) = some (outI (rowsFrom (lastOf all i) rs) h') := by
    intro rs
    induction rs with
    | nil =>
      intro i hi
      have := drop_nil hi
      refine ⟨D 0, ?_⟩
      rw [eq_impl_RowsFault_l0, vcase_b, if_neg (by simp; omega), tidy_self]; rfl
    | cons r rs ih =>
      intro i hi
      obtain ⟨g1, g2, g3⟩ := drop_cons hi
      have hz := hs r (List.mem_of_getElem? g1)
      obtain ⟨h', ih'⟩ := ih (i + 1) g2
      rw [lastOf_s g1] at ih'
      rw [eq_impl_RowsFault_l0, vcase_b, if_pos (by simp; omega), idxF_rw g1, rowN_rw]
      simp only [ob, gx0, gx1, gI_i, gS_s, ln0, ln1, Nat.zero_add, Nat.reduceAdd, if_true]
      rw [stK_row, loadN_row]
      simp only [ob, gx0, gx1, gI_i, gS_s, ln0, ln1, Nat.zero_add, Nat.reduceAdd, if_true]
      rw [pc (p_RowFault r hz) rfl]
      simp only [gV1_s, gI_i, vcase_b, bne_iff_ne, ne_eq, decide_eq_true_eq]
      by_cases h0 : rowF r = 0
      · rw [if_neg (by simp [h0])]
        by_cases hi0 : i = 0
        · subst hi0
          rw [if_neg (by omega), hchk_self, putR_tidy rfl, w64 (by omega) (by omega), lastOf_0, rowsFrom_0 h0]
          exact ⟨h', ih'⟩
        · obtain ⟨p, hp⟩ : ∃ p, all[i - 1]? = some p := ⟨_, List.getElem?_eq_getElem (by omega)⟩
          rw [if_pos (by omega), w64 (n := (i : Int) - 1) (by omega) (by omega), show (i : Int) - 1 = ((i - 1 : Nat) : Int) from by omega, idxF_rw hp, rowN_rw, 
            show lastOf all i = some p from by rw [← lastOf_s hp, Nat.sub_add_cancel (by omega)]]
          simp only [ob, gx0, gx1, gI_i, gS_s, ln0, ln1, Nat.zero_add, Nat.reduceAdd, if_true]
          rw [pc (p_IsBefore p r) rfl]
          simp only [gV1_s, gB_b, hchk_self, vcase_b]
          cases hb : befB p r
          · rw [rowsFrom_1 h0 hb]; exact ⟨_, rfl⟩
          · rw [rowsFrom_2 h0 hb, if_neg (by simp), putR_tidy rfl, w64 (by omega) (by omega), show (i : Int) + 1 = ((i + 1 : Nat) : Int) from by omega]
            exact ⟨h', ih'⟩
      · rw [if_pos h0, rowsFrom_n h0]; exact ⟨putR (D 0) r, by rw [outI_n h0]⟩
  rw [pu_impl_RowsFault, vcase_b, rws_len]; unfold rowsF
  by_cases h60 : 60 < all.length
  · rw [if_pos (by simp; omega), if_pos h60]
  obtain ⟨h', e⟩ := loop all 0 rfl
  rw [if_neg (by simp; omega), if_neg h60, show iv .i64 0 = iv .i64 ((0 : Nat) : Int) from rfl, e, ob, lastOf_0]
  by_cases h0 : rowsFrom none all = 0
  · rw [h0]; rfl
  · rw [outI_n h0, lcase_ret]; simp
end Vm
/-
  A slice of rows of one's own that grows row by row.
-/
namespace Vm
open Go
structure OutS (z d : Nat) (y : S) (rows : List (List S)) (bs : List Nat) (h : H) : Prop where
  rep : Rep h (d + 1) y (.fs rows) bs
  nd : bs.Nodup
  ty : y = .sl none 0 ∨ ∃ b cs, y = .sl (some (b, 0)) rows.length ∧ h.g b = .rw z cs
  len : ∀ r ∈ rows, r.length = z
theorem OutS.none {z d : Nat} {h : H} : OutS z d (.sl none 0) [] [] h := ⟨Rep.nil, by simp, .inl rfl, by simp⟩
theorem OutS.frame {z d : Nat} {y : S} {rows : List (List S)} {bs : List Nat} {h h' : H} (w : OutS z d y rows bs h) (hb : ∀ b ∈ bs, b < h'.n ∧ h'.g b = h.g b) : OutS z d y rows bs h' := by
  refine ⟨w.rep.frame hb, w.nd, ?_, w.len⟩
  rcases w.ty with h1 | ⟨b, cs, h1, h2⟩
  · exact .inl h1
  · refine .inr ⟨b, cs, h1, ?_⟩
    have hbb : b ∈ bs := by
      rcases w.rep with ⟨⟨h3, _⟩ | ⟨h3, _⟩, _⟩ | ⟨b', z', cs', rows', bss, h3, _, h4, _⟩
      · rw [h1] at h3; exact h3.elim
      · rw [h1] at h3; cases h3
      · rw [h1] at h3
        injection h3 with h3 _
        injection h3 with h3
        injection h3 with h3 _
        rw [h4, h3]; simp
    rw [(hb b hbb).2]; exact h2
theorem app_row {z d : Nat} {y : S} {rows : List (List S)} {bs : List Nat} {h : H} {row fr : List S} {br : List Nat} (w : OutS z d y rows bs h) (wr : RepL (Rep h d) row fr br) (hz : fr.length = z) (hz0 : 0 < z) (hd : br.Nodup) (hdis : ∀ a ∈ bs, a ∉ br) (hl : rows.length + 1 ≤ lim) :
    ∃ h' bs', appS z (h.new z row) (.s y) (sv h.n 0 1) = some (sv (h.n + 1) 0 (rows.length + 1), h') ∧ OutS z d (.sl (some (h.n + 1, 0)) (rows.length + 1)) (rows ++ [fr]) bs' h' ∧ h'.n = h.n + 2 ∧ (∀ c ∈ bs', c = h.n + 1 ∨ c ∈ bs ∨ c ∈ br) ∧ (∀ c, c < h.n → c ∉ bs → h'.g c = h.g c) ∧ (∀ c, c < h.n → h'.g c = h.g c ∨ (h'.g c = .dead ∧ c ∈ bs)) ∧ ∃ cs0, h'.g (h.n + 1) = .rw z (cs0 ++ row) := by
  have hrow : row.length = z := wr.len.trans hz
  have hlt := w.rep.lt
  have hlr := wr.lt
  have cy : cellsS z (h.new z row) (sv h.n 0 1) = some row := by
    simp only [cellsS, H.cells, new_n, new_g, Blk.cells]
    rw [if_pos ⟨by omega, by simp; omega⟩]
    simp [← hrow]
  have gn : (h.new z row).g h.n = .rw z row := new_g _ _ _
  rcases w.rep with ⟨⟨h3, h4⟩ | ⟨h3, h4⟩, h5⟩ | ⟨b, z', cs, rows', bss, h3, h4, h5, h6, h7, h8, h9, h10⟩
  · rw [← h4] at h3; exact h3.elim
  · subst h3
    injection h4 with h4
    subst h4
    subst h5
    refine ⟨(h.new z row).new z row, (h.n + 1) :: br, ?_, ⟨?_, ?_, ?_, ?_⟩, by simp, ?_, fun c hc _ => ?_, fun c hc => .inl ?_, [], new_g (h.new z row) z row⟩
    · simp only [appS, cy, Option.bind_some, lenS]
      rw [if_pos ⟨trivial, by simpa using hl, hz0⟩, if_neg (by omega)]
      rfl
    · have := Rep.sl (d := d) (h := (h.new z row).new z row) (b := h.n + 1) (z := z) (cs := row) (rows := [fr]) (bss := br) (by simp) hz0 (by exact new_g (h.new z row) z row) (by simpa using hz) (by
        simpa using wr.frame fun c hc => ⟨by have := hlr c hc; simp; omega, by rw [new_g' (by have := hlr c hc; simp; omega), new_g' (by have := hlr c hc; omega)]⟩)
      simpa using this
    · exact List.nodup_cons.2 ⟨fun hh => by have := hlr _ hh; omega, hd⟩
    · exact .inr ⟨_, row, rfl, by exact new_g (h.new z row) z row⟩
    · simpa using hz
    · intro c hc
      rcases List.mem_cons.1 hc with h1 | h1
      · exact .inl h1
      · exact .inr (.inr h1)
    · rw [new_g' (by simp; omega), new_g' (by omega)]
    · rw [new_g' (by simp; omega), new_g' (by omega)]
  · injection h4 with h4
    subst h4
    subst h3
    subst h5
    have hzz : z' = z := by
      rcases w.ty with hh | ⟨b', cs', hh, hg⟩
      · cases hh
      · injection hh with hh _
        injection hh with hh
        injection hh with hh _
        subst hh
        rw [h8] at hg
        injection hg
    subst hzz
    have hcl := h10.len
    rw [flat_len h9] at hcl
    have hbn : b ≠ h.n := by omega
    have cx : cellsS z' (h.new z' row) (sv b 0 rows.length) = some cs := by
      have hc : (h.new z' row).cells b = cs := by unfold H.cells; rw [if_pos (by simp; omega), new_g' hbn, h8]; rfl
      simp only [cellsS, hc]
      rw [if_pos ⟨by simp; omega, by omega⟩, List.drop_zero, List.take_of_length_le (by omega)]
    have hd2 := List.nodup_cons.1 w.nd
    refine ⟨((h.new z' row).put b .dead).new z' (cs ++ row), (h.n + 1) :: (bss ++ br), ?_, ⟨?_, ?_, ?_, ?_⟩, by simp, ?_, fun c hc hcb => ?_, fun c hc => ?_, cs, new_g ((h.new z' row).put b .dead) z' (cs ++ row)⟩
    · simp only [appS, cx, cy, Option.bind_some, lenS]
      rw [if_pos ⟨by rw [new_n]; omega, hl, hz0⟩, new_g' hbn, h8]
      simp only [if_true]
      rfl
    · have fr1 : ∀ c, c < h.n → c ≠ b → (((h.new z' row).put b .dead).new z' (cs ++ row)).g c = h.g c := fun c hc hcb => by
        rw [new_g' (by simp; omega), put_g' hcb, new_g' (by omega)]
      have := Rep.sl (d := d) (h := ((h.new z' row).put b .dead).new z' (cs ++ row)) (b := h.n + 1) (z := z') (cs := cs ++ row) (rows := rows ++ [fr]) (bss := bss ++ br) (by simp) hz0 (by exact new_g ((h.new z' row).put b .dead) z' (cs ++ row)) (by
          intro r hr
          rcases List.mem_append.1 hr with hr | hr
          · exact h9 r hr
          · rw [List.mem_singleton.1 hr]; exact hz) (by
        rw [List.flatten_append]
        have wr2 : RepL (Rep (((h.new z' row).put b .dead).new z' (cs ++ row)) d) row fr br := wr.frame fun c hc => by
          have := hlr c hc
          exact ⟨by simp; omega, fr1 c this (fun hh => hdis b (by simp) (hh ▸ hc))⟩
        refine RepL.append (h10.frame fun c hc => ?_) (by simpa using wr2)
        have := hlt c (by simp [hc])
        exact ⟨by simp; omega, fr1 c this (fun hh => hd2.1 (hh ▸ hc))⟩)
      simpa using this
    · refine List.nodup_cons.2 ⟨fun hh => ?_, List.nodup_append.2 ⟨hd2.2, hd, fun a ha a' ha' hh => hdis a (by simp [ha]) (hh ▸ ha')⟩⟩
      rcases List.mem_append.1 hh with hh | hh
      · have := hlt (h.n + 1) (by simp [hh]); omega
      · have := hlr _ hh; omega
    · exact .inr ⟨h.n + 1, cs ++ row, by simp, by exact new_g ((h.new z' row).put b .dead) z' (cs ++ row)⟩
    · intro r hr
      rcases List.mem_append.1 hr with hr | hr
      · exact h9 r hr
      · rw [List.mem_singleton.1 hr]; exact hz
    · intro c hc
      rcases List.mem_cons.1 hc with h1 | h1
      · exact .inl h1
      rcases List.mem_append.1 h1 with h1 | h1
      · exact .inr (.inl (by simp [h1]))
      · exact .inr (.inr h1)
    · rw [new_g' (by simp; omega), put_g' (fun hh => hcb (by simp [hh])), new_g' (by omega)]
    · by_cases hcb : c = b
      · subst hcb
        refine .inr ⟨?_, by simp⟩
        rw [new_g' (by simp; omega)]
        exact put_g _ _ _
      · refine .inl ?_
        rw [new_g' (by simp; omega), put_g' hcb, new_g' (by omega)]
end Vm
/-
  Rows that are marked; rows of one's own.
-/
namespace Vm
open Go
/-! the text of a mark -/
theorem sz_1 {c : UInt8} : (⟨[c].toArray⟩ : ByteArray).size = 1 := rfl
theorem sz_0 : (⟨#[]⟩ : ByteArray).size = 0 := rfl
theorem sz_m : (⟨#[109]⟩ : ByteArray).size = 1 := rfl
theorem mt_step {h : H} {n : Int} (h0 : 0 ≤ n) (h1 : n < 256) : cvStr (h.new 1 [.int .u8 n]) (sv h.n 0 1) = some (.s (.str ⟨[UInt8.ofNat n.toNat].toArray⟩)) := by
  have hc : cellsS 1 (h.new 1 [.int .u8 n]) (sv h.n 0 1) = some [.int .u8 n] := by
    have hc : (h.new 1 [.int .u8 n]).cells h.n = [.int .u8 n] := by unfold H.cells; rw [if_pos (by simp), new_g]; rfl
    simp only [cellsS, hc]
    rw [if_pos ⟨by simp, by simp⟩]; rfl
  simp only [cvStr, hc, Option.bind_some, bytesS]
  rw [if_pos ⟨h0, h1⟩, Option.bind_some, if_pos (by unfold lim; omega)]
theorem mt_loop : ∀ (f : Nat) (k : Nat) (s : ByteArray), k < 10 ^ f → k < 2 ^ 62 → s.size + f ≤ 1000 → ∃ s', s'.size ≤ s.size + f ∧ ∀ h : H, Lp.laws_markText 0 [iv .i64 k, .s (.str s)] h = some (.done [.s (.str s')] h) := by
  intro f
  induction f with
  | zero =>
    intro k s hk h62 hs
    refine ⟨s, by omega, fun h => ?_⟩
    rw [eq_laws_markText_l0, vcase_b, if_neg (by simp; omega), tidy_self]
  | succ f ih =>
    intro k s hk h62 hs
    by_cases h0 : k = 0
    · refine ⟨s, by omega, fun h => ?_⟩
      rw [eq_laws_markText_l0, vcase_b, if_neg (by simp; omega), tidy_self]
    have hm : ((k : Int).tmod 10) = ((k % 10 : Nat) : Int) := by rw [Int.tmod_eq_emod_of_nonneg (by omega)]; omega
    have hq : ((k : Int).tdiv 10) = ((k / 10 : Nat) : Int) := by rw [Int.tdiv_eq_ediv_of_nonneg (by omega)]; omega
    obtain ⟨s', hs', e⟩ := ih (k / 10) (⟨[UInt8.ofNat (48 + ((k % 10 : Nat) : Int)).toNat].toArray⟩ ++ s) (by
      rw [Nat.pow_succ] at hk; omega) (by omega) (by rw [ByteArray.size_append, sz_1]; omega)
    refine ⟨s', by rw [ByteArray.size_append, sz_1] at hs'; omega, fun h => ?_⟩
    rw [eq_laws_markText_l0, vcase_b, if_pos (by simp; omega)]
    have b1 : bin Ev .rem 3 (iv .i64 (k : Int)) (iv .i64 10) = some (iv .i64 ((k % 10 : Nat) : Int)) := by simp [bin, binI, hm]
    have b2 : bin Ev .quo 3 (iv .i64 (k : Int)) (iv .i64 10) = some (iv .i64 ((k / 10 : Nat) : Int)) := by
      simp only [bin, binI, hq, if_true, show ¬((10 : Int) = 0) from by omega, if_false]
      rw [w64 (by omega) (by omega)]
    rw [b1]
    simp only [ob, gV1_s, gI_i]
    rw [w64 (n := 48 + ((k % 10 : Nat) : Int)) (by omega) (by omega), w8 (by omega) (by omega), mt_step (by omega) (by omega)]
    simp only [ob, gV1_s, gS_s]
    have b3 : bin Ev .add 9 (.s (.str ⟨[UInt8.ofNat (48 + ((k % 10 : Nat) : Int)).toNat].toArray⟩)) (.s (.str s)) = some (.s (.str (⟨[UInt8.ofNat (48 + ((k % 10 : Nat) : Int)).toNat].toArray⟩ ++ s))) := by
      simp only [bin, binB]
      rw [if_pos (by rw [sz_1]; unfold lim; omega)]
    rw [b3]
    simp only [ob, gV1_s, gS_s]
    rw [b2]
    simp only [ob, gV1_s, gI_i]
    rw [tidy_ext ((HKeep.refl h).new) rfl, e h]
theorem mt_ex (k : Nat) (hk : k < 2 ^ 62) : ∃ s, pureV (call Ev) Fn.laws_markText [iv .i64 k] = some (.s (.str s)) := by
  rw [pu_laws_markText, vcase_b]
  by_cases h0 : k = 0
  · rw [if_pos (by simp; omega)]; exact ⟨_, rfl⟩
  obtain ⟨s', hs', e⟩ := mt_loop 20 k ⟨#[]⟩ (Nat.lt_of_lt_of_le hk (by decide)) hk (by rw [sz_0]; omega)
  rw [if_neg (by simp; omega), e, ob, lcase_done]
  have b3 : bin Ev .add 9 (.s (.str ⟨#[109]⟩)) (.s (.str s')) = some (.s (.str (⟨#[109]⟩ ++ s'))) := by
    simp only [bin, binB]
    rw [if_pos (by rw [sz_0] at hs'; rw [sz_m]; unfold lim; omega)]
  simp only [gx0, ob, gV1_s, gS_s]
  rw [b3]
  simp only [ob, gV1_s, gS_s]
  exact ⟨_, rfl⟩
open Classical in
noncomputable def mtx (k : Nat) : ByteArray := if hk : k < 2 ^ 62 then (mt_ex k hk).choose else ⟨#[]⟩
theorem p_markText {k : Nat} (hk : k < 2 ^ 62) : pureV (call Ev) Fn.laws_markText [iv .i64 k] = some (.s (.str (mtx k))) := by
  unfold mtx; rw [dif_pos hk]; exact (mt_ex k hk).choose_spec
/-! a row that is marked -/
noncomputable def mkW (k : Nat) (_ : RowD) : RowD := ⟨k, (k + 1 : Nat), (k + 2 : Nat), mtx (k + 3)⟩
def szW (_ : RowD) : Nat := 4
noncomputable def mkWs (k : Nat) (rs : List RowD) : List RowD := mkAll mkW szW k rs
theorem szW_all : ∀ rs : List RowD, szAll szW rs = 4 * rs.length
  | [] => rfl
  | r :: rs => by simp only [szAll, szW, szW_all rs, List.length_cons]; omega
theorem mkWs_len (k : Nat) (rs : List RowD) : (mkWs k rs).length = rs.length := mkAll_len _ _ _ _
theorem row_sc {r : RowD} : ∀ s ∈ r.cs, Sc s := by
  intro s hs
  simp only [List.mem_cons, List.not_mem_nil, or_false] at hs
  rcases hs with rfl | rfl | rfl | rfl <;> trivial
theorem st_cell {R : Type} {b e o j : Nat} {h : H} {pre row post : List S} {x : S} {k : H → Option R} (hb : b < h.n) (hg : h.g b = .rw e (pre ++ row ++ post)) (hp : pre.length = o) (hj : j < row.length) (hx : isNo x = false) :
    stK 1 h (pv b (o + j)) (.s x) k = k (h.put b (.rw e (pre ++ row.set j x ++ post))) := by
  rw [stK_rw (z := 1) (r := [x]) hb hg (.inl ⟨x, rfl, rfl, hx⟩) rfl (by simp; omega)]
  congr 3
  have e1 : pre ++ row ++ post = (pre ++ row.take j) ++ (row.drop j ++ post) := by simp [List.append_assoc]; rw [← List.append_assoc (row.take j), List.take_append_drop]
  rw [e1, setAt_at (z := 1) (by rw [List.length_append, List.length_take, hp]; omega) rfl, List.set_eq_take_append_cons_drop, if_pos hj, List.drop_append_of_le_length (by rw [List.length_drop]; omega), List.drop_drop]
  simp [List.append_assoc]
theorem put_put {h : H} {b : Nat} {x y : Blk} : ((h.put b x).put b y).g = (h.put b y).g := by
  funext c; simp only [H.put]; split <;> rfl
theorem Rep.markWs {h : H} {d : Nat} {y : S} {rs : List RowD} {bs : List Nat} {k : Nat} (w : Rep h (d + 1) y (.fs (rws rs)) bs) (hd : bs.Nodup) (hk : k + 4 * rs.length < 2 ^ 62) :
    ∃ h', call Ev Fn.laws_markRowS [.s y, iv .i64 k] h = some (iv .i64 ((k + 4 * rs.length : Nat) : Int), h') ∧ Rep h' (d + 1) y (.fs (rws (mkWs k rs))) bs ∧ h'.n = h.n ∧ ∀ c, c ∉ bs → h'.g c = h.g c ∧ h'.v c = h.v c := by
  have hsz := szW_all rs
  obtain ⟨h', e1, r1, n1, o1⟩ := Rep.marks (z := 4) (cs := RowD.cs) (mk := mkW) (sz := szW) (k := k) (Lv := fun v k i h => Lp.laws_markRowS 0 [v, iv .i64 k, iv .i64 i] h) (fin := fun k => [iv .i64 k]) (by omega) (fun _ => rfl) w hd (by omega)
    (fun b i k r h pre ys post bs hi hp hy hk hb hg wr hnd hnb => by
      obtain ⟨rfl, rfl⟩ := wr.of_sc row_sc
      have hk' : k + 4 < 2 ^ 62 := hk
      show ∃ h' ys', Lp.laws_markRowS 0 _ h = _ ∧ _
      rw [eq_laws_markRowS_l0]
      simp only [lenV, Option.bind_some, gV1_s, gI_i, vcase_b]
      rw [if_pos (by simp; omega)]
      simp only [idxK_sv hi, padd, ob]
      rw [w64 (n := (k : Int) + 1) (by omega) (by omega), w64 (n := (k : Int) + 1 + 1) (by omega) (by omega), w64 (n := (k : Int) + 1 + 1 + 1) (by omega) (by omega), w64 (n := (k : Int) + 1 + 1 + 1 + 1) (by omega) (by omega), w64 (n := (i : Int) + 1) (by omega) (by omega)]
      rw [show (k : Int) + 1 + 1 + 1 + 1 = ((k + 4 : Nat) : Int) from by omega, show (k : Int) + 1 + 1 + 1 = ((k + 3 : Nat) : Int) from by omega, show (k : Int) + 1 + 1 = ((k + 2 : Nat) : Int) from by omega, show (k : Int) + 1 = ((k + 1 : Nat) : Int) from by omega, show (i : Int) + 1 = ((i + 1 : Nat) : Int) from by omega]
      rw [st_cell (j := 0) hb hg hp (by simp) rfl]
      rw [st_cell (j := 1) (by rw [put_n]; exact hb) (put_g _ _ _) hp (by simp) rfl]
      rw [st_cell (j := 2) (by rw [put_n, put_n]; exact hb) (put_g _ _ _) hp (by simp) rfl]
      rw [pc (p_markText (by omega)) rfl]
      simp only [gV1_s, gS_s]
      rw [st_cell (j := 3) (by rw [put_n, put_n, put_n]; exact hb) (put_g _ _ _) hp (by simp) rfl]
      simp only [List.set_cons_zero, List.set_cons_succ]
      generalize hF : (((h.put b (.rw 4 (pre ++ [.int .i64 (k : Int), .int .i64 r.key, .int .i64 r.val, .str r.text] ++ post))).put b (.rw 4 (pre ++ [.int .i64 (k : Int), .int .i64 ((k + 1 : Nat) : Int), .int .i64 r.val, .str r.text] ++ post))).put b (.rw 4 (pre ++ [.int .i64 (k : Int), .int .i64 ((k + 1 : Nat) : Int), .int .i64 ((k + 2 : Nat) : Int), .str r.text] ++ post))).put b (.rw 4 (pre ++ [.int .i64 (k : Int), .int .i64 ((k + 1 : Nat) : Int), .int .i64 ((k + 2 : Nat) : Int), .str (mtx (k + 3))] ++ post)) = F
      have fn : F.n = h.n := by rw [← hF]; rfl
      have fg : F.g b = .rw 4 (pre ++ [.int .i64 (k : Int), .int .i64 ((k + 1 : Nat) : Int), .int .i64 ((k + 2 : Nat) : Int), .str (mtx (k + 3))] ++ post) := by rw [← hF]; exact put_g _ _ _
      have fo : ∀ c, c ≠ b → F.g c = h.g c ∧ F.v c = h.v c := fun c hc => by
        rw [← hF]; simp only [H.put, if_neg hc]; exact ⟨trivial, trivial⟩
      rw [tidy_same fn fun c hc => fo c (by omega)]
      refine ⟨F, _, rfl, fn, rfl, fg, RepL.sc (row_sc (r := mkW k r)), fun c hc _ => fo c hc⟩)
    (fun o k h => by
      show Lp.laws_markRowS 0 _ h = _
      rw [eq_laws_markRowS_l0]
      simp only [lenV, Option.bind_some, gV1_s, gI_i, vcase_b]
      rw [if_neg (by simp), tidy_self])
  rw [hsz] at e1
  refine ⟨h', ?_, r1, n1, o1⟩
  rw [eq_laws_markRowS, show iv .i64 0 = iv .i64 ((0 : Nat) : Int) from rfl, e1, ob, lcase_done]
  simp only [gx0, ob, gV1_s, gI_i]
theorem p_heldWs {k : Nat} {rs : List RowD} (hk : k + 4 * rs.length < 2 ^ 62) : pureV (call Ev) Fn.laws_heldRowS [lv (rws (mkWs k rs)), iv .i64 k] = some (iv .i64 ((k + 4 * rs.length : Nat) : Int)) := by
  have loop : ∀ (q : List RowD) (i k' : Nat), (mkWs k rs).drop i = mkWs k' q → k' + 4 * q.length = k + 4 * rs.length → i + q.length = rs.length →
      Lp.laws_heldRowS 0 [lv (rws (mkWs k rs)), iv .i64 k', iv .i64 i] (D 0) = some (.done [iv .i64 ((k + 4 * rs.length : Nat) : Int)] (D 0)) := by
    intro q
    induction q with
    | nil =>
      intro i k' hd hs hi
      simp only [List.length_nil] at hi hs
      rw [eq_laws_heldRowS_l0, vcase_b, rws_len, mkWs_len, if_neg (by simp; omega), tidy_self, ← hs]
      rfl
    | cons r q ih =>
      intro i k' hd hs hi
      simp only [List.length_cons] at hi hs
      have hd' : (mkWs k rs).drop i = mkW k' r :: mkWs (k' + 4) q := hd
      obtain ⟨g1, g2, g3⟩ := drop_cons hd'
      rw [eq_laws_heldRowS_l0, vcase_b, rws_len, mkWs_len, if_pos (by simp; omega)]
      simp only [idxF_rw g1, ob, gx0, gx1, gI_i, gS_s, hchk_self, tidy_self, mkW]
      rw [w64 (n := (k' : Int) + 1) (by omega) (by omega), w64 (n := (k' : Int) + 1 + 1) (by omega) (by omega), w64 (n := (k' : Int) + 1 + 1 + 1) (by omega) (by omega), w64 (n := (k' : Int) + 1 + 1 + 1 + 1) (by omega) (by omega), w64 (n := (i : Int) + 1) (by omega) (by omega)]
      rw [show (k' : Int) + 1 + 1 + 1 + 1 = ((k' + 4 : Nat) : Int) from by omega, show (k' : Int) + 1 + 1 + 1 = ((k' + 3 : Nat) : Int) from by omega, show (k' : Int) + 1 + 1 = ((k' + 2 : Nat) : Int) from by omega, show (k' : Int) + 1 = ((k' + 1 : Nat) : Int) from by omega, show (i : Int) + 1 = ((i + 1 : Nat) : Int) from by omega]
      rw [pc (p_markText (by omega)) rfl]
      simp only [gV1_s, gS_s, vcase_b, bne_self_eq_false, Bool.false_eq_true, if_false, beq_self_eq_true, Bool.not_true]
      exact ih (i + 1) (k' + 4) g2 (by omega) (by omega)
  rw [pu_laws_heldRowS, show iv .i64 0 = iv .i64 ((0 : Nat) : Int) from rfl, loop rs 0 k rfl rfl (by omega), ob, lcase_done]
  simp only [gx0, ob, gV1_s, gI_i]
/-! a value of one's own -/
def OwnV (v : V) (f : S) (lo hi : Nat) (h : H) : Prop := ∃ y, v = .s y ∧ OwnF 5 y f lo hi h
theorem OwnV.frz {v : V} {rs : List (List S)} {lo hi : Nat} {h : H} (w : OwnV v (.fs rs) lo hi h) : frzV h v = some (lv rs) := by
  obtain ⟨y, rfl, w⟩ := w
  exact w.frz
theorem OwnV.sep {v : V} {f : S} {lo hi : Nat} {h : H} (w : OwnV v f lo hi h) (hn : hi ≤ h.n) : Sep (OwnV v f lo hi) lo hi h := ⟨hn, fun h' hn' hg => by
  obtain ⟨y, rfl, w⟩ := w
  exact ⟨y, rfl, (w.sep hn).q h' hn' hg⟩⟩
theorem OwnV.pv {cl : Nat → List V → H → Option (V × H)} {g : Nat} {off : Bool} {xs : List V} {h : H} {n : Nat} {v : V} {f : S} {h1 : H} (hn : h.n = n) (hc : cl g xs (D n) = some (v, h1)) (hw : n ≤ h1.n ∧ OwnV v f n h1.n h1) :
    ∃ h', (∀ (R : Type) (k : V → H → Option R), pcallF cl g off xs h k = k v h') ∧ Up h h' ∧ n ≤ h'.n ∧ Sep (OwnV v f n h'.n) n h'.n h' := by
  obtain ⟨hle, y, rfl, w⟩ := hw
  obtain ⟨h', e, u, hn', w'⟩ := pV (off := off) hn hc hle w
  exact ⟨h', e, u, hn', OwnV.sep ⟨y, rfl, w'.now⟩ (Nat.le_refl _)⟩
/-- flat rows in one block -/
theorem own_flat {h : H} {n z : Nat} {rows : List (List S)} (hn : n < h.n) (hz0 : 0 < z) (hg : h.g n = .rw z rows.flatten) (hz : ∀ r ∈ rows, r.length = z) (hs : ∀ r ∈ rows, ∀ s ∈ r, Sc s) : OwnV (sv n 0 rows.length) (.fs rows) n h.n h := by
  refine ⟨_, rfl, [n], ?_, by simp, by simpa using hn⟩
  exact Rep.sl (bss := []) hn hz0 hg hz (RepL.sc fun s hs' => by
    obtain ⟨r, h1, h2⟩ := List.mem_flatten.1 hs'
    exact hs r h1 s h2)
theorem rws_sc {rs : List RowD} : ∀ r ∈ rws rs, ∀ s ∈ r, Sc s := by
  intro r hr
  obtain ⟨c, _, rfl⟩ := List.mem_map.1 hr
  exact row_sc
theorem NewRw.own {n : Nat} {h : H} {v : V} {rs : List RowD} (w : NewRw n h v rs) : n ≤ h.n ∧ OwnV v (.fs (rws rs)) n h.n h := by
  have := own_flat (h := h) (n := n) (z := 4) (rows := rws rs) (by have := w.le; omega) (by omega) w.g rws_row rws_sc
  rw [rws_len] at this
  rw [w.v]
  exact ⟨by have := w.le; omega, this⟩
theorem f_toRowSv {all : List RowD} (hl : all.length ≤ lim) (n : Nat) : ∃ v h', call Ev Fn.laws_toRowS [lv (rws all)] (D n) = some (v, h') ∧ (n ≤ h'.n ∧ OwnV v (.fs (rws all)) n h'.n h') := by
  obtain ⟨v, h', e, w⟩ := f_toRowS hl n
  exact ⟨v, h', e, w.own⟩
theorem OwnV.markW {h : H} {v : V} {rs : List RowD} {lo hi k : Nat} (w : Sep (OwnV v (.fs (rws rs)) lo hi) lo hi h) (hl : k + 4 * rs.length < 2 ^ 62) :
    ∃ p, call Ev Fn.laws_markRowS [v, iv .i64 k] h = some (iv .i64 ((k + 4 * rs.length : Nat) : Int), p) ∧ Sep (OwnV v (.fs (rws (mkWs k rs))) lo hi) lo hi (tidy h [iv .i64 ((k + 4 * rs.length : Nat) : Int)] p) ∧ ButR lo hi h (tidy h [iv .i64 ((k + 4 * rs.length : Nat) : Int)] p) := by
  obtain ⟨y, rfl, bs, w1, w2, w3⟩ := w.now
  obtain ⟨p, e1, r1, n1, o1⟩ := w1.markWs (k := k) w2 hl
  have ht := w.top
  have t : tidy h [iv .i64 ((k + 4 * rs.length : Nat) : Int)] p = p := tidy_same n1 fun c hc => o1 c (fun hh => by have := w3 c hh; omega)
  refine ⟨p, e1, ?_, ?_⟩
  · rw [t]; exact OwnV.sep ⟨y, rfl, bs, r1, w2, w3⟩ (by rw [n1]; exact ht)
  · rw [t]; exact ⟨n1, fun c hc => (o1 c fun hh => by have := w3 c hh; omega).1⟩
/-! results of rows -/
theorem p_eqWR {c : Int} {rs : List RowD} (hl : rs.length ≤ maxLen) : pureV (call Ev) Fn.laws_eqRowsResult [.agg [.int .i64 c, .fs (rws rs)], .agg [.int .i64 c, .fs (rws rs)]] = some (bv true) := by
  rw [pu_laws_eqRowsResult, vcase_b, if_neg (by simp), pc (p_eqRowS hl) rfl]
  simp
theorem p_heldWR {c : Int} {k : Nat} {rs : List RowD} (hk : k + 4 * rs.length < 2 ^ 62) : pureV (call Ev) Fn.laws_heldRowsResult [.agg [.int .i64 c, .fs (rws (mkWs k rs))], iv .i64 k] = some (iv .i64 ((k + 4 * rs.length : Nat) : Int)) := by
  rw [pu_laws_heldRowsResult, pc (p_heldWs hk) rfl]
  simp only [gV1_s, gI_i, vcase_b]
  rw [if_neg (by simp; omega)]
theorem r_markWR {h : H} {c : Int} {y : S} {rs : List RowD} {lo hi k : Nat} (w : Sep (OwnC 5 [.int .i64 c, y] [.int .i64 c, .fs (rws rs)] lo hi) lo hi h) (hl : k + 4 * rs.length < 2 ^ 62) :
    ∃ p, call Ev Fn.laws_markRowsResult [.agg [.int .i64 c, y], iv .i64 k] h = some (iv .i64 ((k + 4 * rs.length : Nat) : Int), p) ∧ Sep (OwnC 5 [.int .i64 c, y] [.int .i64 c, .fs (rws (mkWs k rs))] lo hi) lo hi (tidy h [iv .i64 ((k + 4 * rs.length : Nat) : Int)] p) ∧ ButR lo hi h (tidy h [iv .i64 ((k + 4 * rs.length : Nat) : Int)] p) := by
  obtain ⟨bs, w1, w2, w3⟩ := OwnC.f (pre := [.int .i64 c]) sc1 w.now
  have ht := w.top
  rw [eq_laws_markRowsResult]
  have l1 : load1 (h.new 0 [.int .i64 c, y]) (pv h.n 1) = some y := by simp [load1, H.cells, Blk.cells]
  rw [l1, Vm.ob]
  have w1' : Rep (h.new 0 [.int .i64 c, y]) 5 y (.fs (rws rs)) bs := w1.frame fun b hb => ⟨by have := w1.lt b hb; simp; omega, new_g' (by have := w1.lt b hb; omega)⟩
  obtain ⟨p, e1, r1, n1, o1⟩ := w1'.markWs (k := k) w2 hl
  rw [e1, Vm.ob]
  simp only [gV1_s, gI_i]
  have t1 : tidy (h.new 0 [.int .i64 c, y]) [iv .i64 ((k + 4 * rs.length : Nat) : Int)] p = p := tidy_same n1 fun d hd => o1 d fun hh => by have := w3 d hh; simp at hd; omega
  rw [t1]
  exact ⟨p, rfl, markC (pre := [.int .i64 c]) sc1 w3 w2 ht r1 (by rw [n1]; simp) (fun d hd hdn => by
    have := o1 d hd
    refine ⟨this.1.trans (new_g' (by omega)), this.2.trans ?_⟩
    simp [H.new, show d ≠ h.n by omega]) (fun hh => by rw [n1] at hh; simp at hh)⟩
end Vm
/-
  Pages: slices of slices of bytes: their size, a copy, a comparison, marks, and what is found of these.
-/
namespace Vm
open Go
abbrev pgr (l : List UInt8) : List S := [.fs (bys l)]
def bss (ps : List (List UInt8)) : List (List S) := ps.map pgr
@[simp] theorem bss_len (ps : List (List UInt8)) : (bss ps).length = ps.length := by simp [bss]
theorem bss_row {ps : List (List UInt8)} : ∀ r ∈ bss ps, r.length = 1 := by
  intro r hr
  obtain ⟨c, _, rfl⟩ := List.mem_map.1 hr
  rfl
theorem bss_get {ps : List (List UInt8)} {i : Nat} {l : List UInt8} (h : ps[i]? = some l) : (bss ps)[i]? = some (pgr l) := by simp [bss, h]
theorem idxF_pg {R : Type} {ps : List (List UInt8)} {i : Nat} {l : List UInt8} {k : List S → Option R} (h : ps[i]? = some l) : idxF 1 (bss ps) (i : Int) k = k (pgr l) := idxF_at (bss_get h) rfl
theorem rows_Pg {m : Nat} : ∀ rows : List (List S), (∀ r ∈ rows, r.length = PR.cellsOf T.S_uint8 ∧ Rp PR m T.S_uint8 r) → ∃ ps : List (List UInt8), rows = bss ps ∧ ∀ l ∈ ps, l.length ≤ maxLen
  | [], _ => ⟨[], rfl, by simp⟩
  | r :: rows, hr => by
    obtain ⟨ps, h1, h2⟩ := rows_Pg rows fun r hm => hr r (by simp [hm])
    obtain ⟨m', rr, h3, w1, w2⟩ := (hr r (by simp)).2.slice und_S_uint8
    obtain ⟨l, rfl⟩ := rows8 und_uint8 rr w2
    refine ⟨l :: ps, by rw [h1, h3]; rfl, fun x hx => ?_⟩
    rcases List.mem_cons.1 hx with rfl | hx
    · simpa using w1
    · exact h2 x hx
theorem arg_Pages {x : V} (hr : ArgRp PR T.S_S_uint8 x) : ∃ ps : List (List UInt8), x = lv (bss ps) ∧ (∀ l ∈ ps, l.length ≤ maxLen) ∧ ps.length ≤ maxLen := by
  obtain ⟨s, n, rfl, h1⟩ := hr.slice und_S_S_uint8
  obtain ⟨m, rows, h1, h2, h3⟩ := h1.slice und_S_S_uint8
  cases h1
  obtain ⟨rs, rfl, h4⟩ := rows_Pg rows h3
  exact ⟨rs, rfl, h4, by simpa using h2⟩

/-! size -/
def szPgs : List (List UInt8) → Int → Int
  | [], left => left
  | l :: ps, left => if (l.length : Int) ≤ left then szPgs ps (left - l.length) else -1
def szP (l : List UInt8) : Nat := l.length
def psz (ps : List (List UInt8)) : Nat := szAll szP ps
theorem psz_cons (l : List UInt8) (ps : List (List UInt8)) : psz (l :: ps) = l.length + psz ps := rfl
theorem szPgs_le : ∀ (ps : List (List UInt8)) (left : Int), 0 ≤ left → szPgs ps left ≤ left ∧ -1 ≤ szPgs ps left
  | [], left, h => ⟨Int.le_refl _, by simp only [szPgs]; omega⟩
  | r :: rs, left, h => by
    simp only [szPgs]
    split
    · have := szPgs_le rs (left - r.length) (by omega); omega
    · omega
theorem szPgs_sum : ∀ (ps : List (List UInt8)) (left : Int), 0 ≤ szPgs ps left → 0 ≤ left → szPgs ps left = left - psz ps
  | [], left, h, _ => by simp [szPgs, psz, szAll]
  | r :: rs, left, h, h0 => by
    simp only [szPgs] at h ⊢
    by_cases hle : (r.length : Int) ≤ left
    · rw [if_pos hle] at h ⊢
      rw [szPgs_sum rs _ h (by omega), psz_cons]; omega
    · rw [if_neg hle] at h; omega
theorem psz_mem : ∀ {ps : List (List UInt8)} {l : List UInt8}, l ∈ ps → l.length ≤ psz ps
  | [], _, h => by simp at h
  | x :: ps, l, h => by
    rw [psz_cons]
    rcases List.mem_cons.1 h with rfl | h
    · omega
    · have := psz_mem h; omega
theorem p_szPgs {all : List (List UInt8)} {left : Int} (h1 : 0 ≤ left) (h2 : left < 9223372036854775808) (hl : all.length ≤ maxLen) (hr : ∀ l ∈ all, l.length ≤ maxLen) : pureV (call Ev) Fn.laws_szByteSS [lv (bss all), iv .i64 left] = some (iv .i64 (if (all.length : Int) ≤ left then szPgs all (left - all.length) else -1)) := by
  unfold maxLen at hl
  have loop : ∀ (rs : List (List UInt8)) (i : Nat) (q : Int), all.drop i = rs → 0 ≤ q → q < 9223372036854775808 →
      (Lp.laws_szByteSS 0 [lv (bss all), iv .i64 q, iv .i64 i] (D 0)).bind (fun o102 => lcase o102 (fun l103 h104 =>
        (l103[0]?).bind fun w107 =>
        gV1 w107 fun x108 =>
        gI .i64 x108 fun i109 =>
        some (iv .i64 i109)) (fun v105 h106 =>
        frzV h106 v105)) = some (iv .i64 (szPgs rs q)) := by
    intro rs
    induction rs with
    | nil =>
      intro i q hi h1 h2
      have := drop_nil hi
      rw [eq_laws_szByteSS_l0, vcase_b, if_neg (by simp; omega), tidy_self, ob, lcase_done]
      simp only [gx0, ob, gV1_s, gI_i, szPgs]
    | cons r rs ih =>
      intro i q hi h1 h2
      obtain ⟨g1, g2, g3⟩ := drop_cons hi
      rw [eq_laws_szByteSS_l0, vcase_b, if_pos (by simp; omega), idxF_pg g1]
      simp only [ob, gx0, gx1, gF_f]
      rw [pc (p_szByteS h1 h2 (hr r (List.mem_of_getElem? g1))) rfl]
      simp only [gV1_s, gI_i, vcase_b, decide_eq_true_eq, szPgs, szL]
      by_cases hle : (r.length : Int) ≤ q
      · rw [if_pos hle, if_neg (by omega), w64 (by omega) (by omega), tidy_self, show (i : Int) + 1 = ((i + 1 : Nat) : Int) from by omega, if_pos hle]
        exact ih (i + 1) _ g2 (by omega) (by omega)
      · rw [if_neg hle, if_pos (by omega), if_neg hle]; rfl
  rw [pu_laws_szByteSS, vcase_b, bss_len, w64 (by omega) (by omega)]
  by_cases hq : (all.length : Int) ≤ left
  · rw [if_neg (by simp; omega), if_pos hq]
    exact loop all 0 _ rfl (by omega) (by omega)
  · rw [if_pos (by simp; omega), if_neg hq]

/-! a comparison -/
theorem p_eqPgs {all all' : List (List UInt8)} (hl : all.length ≤ maxLen) (hr : ∀ l ∈ all, l.length ≤ maxLen) (he : all = all') : pureV (call Ev) Fn.laws_eqByteSS [lv (bss all), lv (bss all')] = some (bv true) := by
  subst he
  unfold maxLen at hl
  have loop : ∀ (rs : List (List UInt8)) (i : Nat), all.drop i = rs → Lp.laws_eqByteSS 0 [lv (bss all), lv (bss all), iv .i64 i] (D 0) = some (.done [] (D 0)) := by
    intro rs
    induction rs with
    | nil =>
      intro i hi
      have := drop_nil hi
      rw [eq_laws_eqByteSS_l0, vcase_b, if_neg (by simp; omega), tidy_self]
    | cons r rs ih =>
      intro i hi
      obtain ⟨g1, g2, g3⟩ := drop_cons hi
      rw [eq_laws_eqByteSS_l0, vcase_b, if_pos (by simp; omega), idxF_pg g1]
      simp only [ob, gx0, gx1, gF_f]
      rw [idxF_pg g1]
      simp only [ob, gx0, gx1, gF_f]
      rw [pc (p_eqByteS (hr r (List.mem_of_getElem? g1))) rfl]
      simp only [gV1_s, gB_b, hchk_self, vcase_b, decide_true, Bool.not_true, Bool.false_eq_true, if_false]
      rw [w64 (by omega) (by omega), tidy_self, show (i : Int) + 1 = ((i + 1 : Nat) : Int) from by omega]
      exact ih (i + 1) g2
  rw [pu_laws_eqByteSS, vcase_b, if_neg (by simp), show iv .i64 0 = iv .i64 ((0 : Nat) : Int) from rfl, loop all 0 rfl]
  simp

/-! a copy -/
theorem f_toPgs {all : List (List UInt8)} (hl : all.length ≤ lim) (hr : ∀ l ∈ all, l.length ≤ lim) (n : Nat) : ∃ v h', call Ev Fn.laws_toByteSS [lv (bss all)] (D n) = some (v, h') ∧ (n ≤ h'.n ∧ OwnV v (.fs (bss all)) n h'.n h') := by
  have hl' := hl
  unfold lim at hl'
  rw [eq_laws_toByteSS, bss_len, mkSl_of (z := 1) (zero := [.sl none 0]) hl (by omega) rfl, ob]
  generalize hG : (D n).new 1 ((List.replicate all.length [S.sl none 0]).flatten) = G
  have gn : G.n = n + 1 := by rw [← hG]; simp
  have gg : G.g n = .rw 1 ((List.replicate all.length [S.sl none 0]).flatten) := by rw [← hG]; exact new_g (D n) _ _
  obtain ⟨h', ys, bs, e1, n1, g1, r1, d1, f1, _⟩ := fill_rep (z := 1) (b := n) (d := 1) (n0 := n + 1) (cs := pgr) (all := all) (L := fun i h => Lp.laws_toByteSS 0 [lv (bss all), sv n 0 all.length, iv .i64 i] h) (fin := [sv n 0 all.length]) (by omega) (fun _ => rfl)
    (fun i a h X ha hb hn hg hX hXb => by
      have hi : i < all.length := (List.getElem?_eq_some_iff.1 ha).1
      show ∃ h' row bs, Lp.laws_toByteSS 0 _ h = _ ∧ _
      rw [eq_laws_toByteSS_l0, vcase_b, if_pos (by simp; omega), idxF_pg ha]
      simp only [ob, gx0, gx1, gF_f]
      obtain ⟨v, h1, e1, w1⟩ := f_toByteS (hr a (List.mem_of_getElem? ha)) h.n
      rw [pF (h := h) e1 w1.nofz]
      have hle := w1.le
      have u : Up h (h.over h1) := up_over (by omega)
      have un : (h.over h1).n = h.n + 1 := by rw [over_n (by omega), hle]
      have wo : BysW (h.over h1) v a h.n := ⟨w1.own.v, by omega, by rw [over_ge (by omega)]; exact w1.own.g⟩
      have hv := w1.own.v
      subst hv
      generalize h.over h1 = M at u un wo ⊢
      have hg2 := (u.g n hb).trans hg
      rw [idxK_sv hi, stK_rw (z := 1) (e := 1) (o := i * 1) (b := n) (cs := X) (r := [.sl (some (h.n, 0)) a.length]) (by omega) hg2 (.inl ⟨_, rfl, rfl, rfl⟩) rfl (by omega), w64 (by omega) (by omega), show (i : Int) + 1 = ((i + 1 : Nat) : Int) from by omega]
      have ht : ∀ l, tidy h l (M.put n (.rw 1 (setAt X (i * 1) [.sl (some (h.n, 0)) a.length]))) = M.put n (.rw 1 (setAt X (i * 1) [.sl (some (h.n, 0)) a.length])) := fun l => no_tidy (b := n) hb (put_g _ _ _) (by
        rw [Bool.eq_false_iff]
        intro hh
        have := List.all_eq_true.1 hh (.sl (some (h.n, 0)) a.length) (by unfold setAt; simp)
        simp [belS] at this) (by rw [hg]; exact hXb)
      rw [ht]
      have w2 : Rep M 1 (.sl (some (h.n, 0)) a.length) (.fs (bys a)) [h.n] := Own.rep (d := 0) (ob := some h.n) wo
      have hne : h.n ≠ n := by omega
      refine ⟨_, [.sl (some (h.n, 0)) a.length], [h.n], rfl, by rw [put_n]; omega, put_g _ _ _, ?_, by simp, fun c hc => by rw [List.mem_singleton.1 hc]; exact Nat.le_refl _, fun c hc hcb => ?_⟩
      · have w3 : Rep (M.put n (.rw 1 (setAt X (i * 1) [.sl (some (h.n, 0)) a.length]))) 1 (.sl (some (h.n, 0)) a.length) (.fs (bys a)) [h.n] := w2.frame fun c hc => by
          rw [List.mem_singleton.1 hc]
          exact ⟨by rw [put_n]; omega, put_g' hne⟩
        exact RepL.cons (bs := [h.n]) w3 .nil
      · rw [put_g' hcb]; exact u.g c hc)
    (fun h => by
      show Lp.laws_toByteSS 0 _ h = _
      rw [eq_laws_toByteSS_l0, vcase_b, if_neg (by simp), tidy_self])
    all.length 0 G [] ((List.replicate all.length [.sl none 0]).flatten) [] (by omega) (by omega) (by omega) (by omega) (by simpa using gg) (repl_len rfl) (by
      rw [List.all_eq_true]
      intro s hs
      obtain ⟨r, hr, hs⟩ := List.mem_flatten.1 hs
      rw [List.eq_of_mem_replicate hr] at hs
      rw [List.mem_singleton.1 hs]; rfl) (by simpa using RepL.nil) (by simp) (by simp)
  rw [D_n, show iv .i64 0 = iv .i64 ((0 : Nat) : Int) from rfl, e1]
  simp only [ob, lcase_done, gx0]
  refine ⟨_, _, rfl, ⟨by omega, _, rfl, n :: bs, ?_, ?_, ?_⟩⟩
  · have := Rep.sl (d := 1) (h := h') (b := n) (z := 1) (rows := bss all) (by omega) (by omega) g1 bss_row r1
    rw [bss_len] at this
    exact this.lifts (by omega)
  · exact List.nodup_cons.2 ⟨fun hh => by have := f1 n hh; omega, d1⟩
  · intro c hc
    rcases List.mem_cons.1 hc with rfl | hc
    · omega
    · have := f1 c hc
      have := r1.lt c hc
      omega
theorem p_toPgs {all : List (List UInt8)} (hl : all.length ≤ lim) (hr : ∀ l ∈ all, l.length ≤ lim) : pureV (call Ev) Fn.laws_toByteSS [lv (bss all)] = some (lv (bss all)) := by
  obtain ⟨v, h', e, _, w⟩ := f_toPgs hl hr 0
  unfold pureV
  rw [e, ob, w.frz]

/-! marks -/
def mkP (k : Nat) (l : List UInt8) : List UInt8 := marks k l.length
def mkPs (k : Nat) (ps : List (List UInt8)) : List (List UInt8) := mkAll mkP szP k ps
theorem mkPs_len (k : Nat) (ps : List (List UInt8)) : (mkPs k ps).length = ps.length := mkAll_len _ _ _ _
theorem mkPs_cons (k : Nat) (l : List UInt8) (ps : List (List UInt8)) : mkPs k (l :: ps) = mkP k l :: mkPs (k + l.length) ps := rfl
theorem Rep.markPs {h : H} {d : Nat} {y : S} {rs : List (List UInt8)} {bs : List Nat} {k : Nat} (w : Rep h (d + 2) y (.fs (bss rs)) bs) (hd : bs.Nodup) (hk : k + psz rs < 2 ^ 62) (hn : rs.length < 2 ^ 62) :
    ∃ h', call Ev Fn.laws_markByteSS [.s y, iv .i64 k] h = some (iv .i64 ((k + psz rs : Nat) : Int), h') ∧ Rep h' (d + 2) y (.fs (bss (mkPs k rs))) bs ∧ h'.n = h.n ∧ ∀ c, c ∉ bs → h'.g c = h.g c ∧ h'.v c = h.v c := by
  obtain ⟨h', e1, r1, n1, o1⟩ := Rep.marks (z := 1) (cs := pgr) (mk := mkP) (sz := szP) (k := k) (Lv := fun v k i h => Lp.laws_markByteSS 0 [v, iv .i64 k, iv .i64 i] h) (fin := fun k => [iv .i64 k]) (by omega) (fun _ => rfl) w hd hk
    (fun b i k r h pre ys post bs hi hp hy hk hb hg wr hnd hnb => by
      show ∃ h' ys', Lp.laws_markByteSS 0 _ h = _ ∧ _
      rw [eq_laws_markByteSS_l0]
      simp only [lenV, Option.bind_some, gV1_s, gI_i, vcase_b]
      rw [if_pos (by simp; omega), idxK_sv hi]
      have wr' : RepL (Rep h (d + 1)) ys [.fs (bys r)] bs := wr
      cases wr' with
      | @cons y f bs' ys fs bss h1 h2 =>
        cases h2
        rw [List.append_nil] at hnd hnb
        have ld : load1 h (pv b (i * 1)) = some y := by
          simp only [load1, H.cells, hb, if_true, hg, Blk.cells]
          rw [List.getElem?_append_left (by simp; omega), List.getElem?_append_right (by omega), hp]
          simp
        simp only [ldK, ldT, cond_false, ld, ob]
        have hszr : szP r = r.length := rfl
        obtain ⟨h2, e2, r2, n2, o2⟩ := h1.mark (k := k) (by omega)
        rw [e2, ob]
        simp only [gV1_s, gI_i]
        have t1 : tidy h [iv .i64 ((k + r.length : Nat) : Int)] h2 = h2 := tidy_same n2 fun c hc => o2 c fun hh => by have := h1.lt c hh; omega
        rw [t1]
        have t2 : ∀ l, tidy h l h2 = h2 := fun l => tidy_same n2 fun c hc => o2 c fun hh => by have := h1.lt c hh; omega
        rw [t2, w64 (n := (i : Int) + 1) (by omega) (by omega), show (i : Int) + 1 = ((i + 1 : Nat) : Int) from by omega]
        refine ⟨h2, [y], ?_, n2, rfl, ?_, RepL.cons r2 .nil, fun c hc hcb => ?_⟩
        · rw [show k + szP r = k + r.length from rfl]
        · have := (o2 b hnb).1
          rw [this, hg]
        · exact o2 c fun hh => hcb (by simp [hh]))
    (fun o k h => by
      show Lp.laws_markByteSS 0 _ h = _
      rw [eq_laws_markByteSS_l0]
      simp only [lenV, Option.bind_some, gV1_s, gI_i, vcase_b]
      rw [if_neg (by simp), tidy_self])
  refine ⟨h', ?_, r1, n1, o1⟩
  rw [eq_laws_markByteSS, show iv .i64 0 = iv .i64 ((0 : Nat) : Int) from rfl, e1, ob, lcase_done]
  simp only [gx0, ob, gV1_s, gI_i]
  rfl
theorem OwnV.markP {h : H} {v : V} {rs : List (List UInt8)} {lo hi k : Nat} (w : Sep (OwnV v (.fs (bss rs)) lo hi) lo hi h) (hl : k + psz rs < 2 ^ 62) (hn : rs.length < 2 ^ 62 := by omega) :
    ∃ p, call Ev Fn.laws_markByteSS [v, iv .i64 k] h = some (iv .i64 ((k + psz rs : Nat) : Int), p) ∧ Sep (OwnV v (.fs (bss (mkPs k rs))) lo hi) lo hi (tidy h [iv .i64 ((k + psz rs : Nat) : Int)] p) ∧ ButR lo hi h (tidy h [iv .i64 ((k + psz rs : Nat) : Int)] p) := by
  obtain ⟨y, rfl, bs, w1, w2, w3⟩ := w.now
  obtain ⟨p, e1, r1, n1, o1⟩ := w1.markPs (k := k) w2 hl hn
  have ht := w.top
  have t : tidy h [iv .i64 ((k + psz rs : Nat) : Int)] p = p := tidy_same n1 fun c hc => o1 c (fun hh => by have := w3 c hh; omega)
  refine ⟨p, e1, ?_, ?_⟩
  · rw [t]; exact OwnV.sep ⟨y, rfl, bs, r1, w2, w3⟩ (by rw [n1]; exact ht)
  · rw [t]; exact ⟨n1, fun c hc => (o1 c fun hh => by have := w3 c hh; omega).1⟩
theorem p_heldPgs {k : Nat} {rs : List (List UInt8)} (hk : k + psz rs < 2 ^ 62) (hn : rs.length < 2 ^ 62) : pureV (call Ev) Fn.laws_heldByteSS [lv (bss (mkPs k rs)), iv .i64 k] = some (iv .i64 ((k + psz rs : Nat) : Int)) := by
  have loop : ∀ (q : List (List UInt8)) (i k' : Nat), (mkPs k rs).drop i = mkPs k' q → k' + psz q = k + psz rs → i + q.length = rs.length →
      Lp.laws_heldByteSS 0 [lv (bss (mkPs k rs)), iv .i64 k', iv .i64 i] (D 0) = some (.done [iv .i64 ((k + psz rs : Nat) : Int)] (D 0)) := by
    intro q
    induction q with
    | nil =>
      intro i k' hd hs hi
      simp only [List.length_nil] at hi
      rw [eq_laws_heldByteSS_l0, vcase_b, bss_len, mkPs_len, if_neg (by simp; omega), tidy_self, ← hs]
      rfl
    | cons r q ih =>
      intro i k' hd hs hi
      rw [mkPs_cons] at hd
      rw [psz_cons] at hs
      simp only [List.length_cons] at hi
      obtain ⟨g1, g2, _⟩ := drop_cons hd
      rw [eq_laws_heldByteSS_l0, vcase_b, bss_len, mkPs_len, if_pos (by simp; omega), idxF_pg g1]
      simp only [gx0, gx1, ob, gF_f]
      rw [show mkP k' r = Vm.marks k' r.length from rfl, pc (p_held (by omega)) rfl]
      simp only [gV1_s, gI_i, vcase_b]
      rw [if_neg (by simp; omega), w64 (n := (i : Int) + 1) (by omega) (by omega), tidy_self, show (i : Int) + 1 = ((i + 1 : Nat) : Int) from by omega]
      exact ih (i + 1) (k' + r.length) g2 (by omega) (by omega)
  rw [pu_laws_heldByteSS, show iv .i64 0 = iv .i64 ((0 : Nat) : Int) from rfl, loop rs 0 k (by simp) rfl (by simp), ob, lcase_done]
  simp only [gx0, ob, gV1_s, gI_i]
end Vm
/-
  The model's copy of bytes.
-/
namespace Vm
open Go
theorem f_l2Copy {m : List UInt8} (hm : m.length ≤ lim) (n : Nat) : ∃ v h', call Ev Fn.spec_l2Copy [lv (bys m)] (D n) = some (v, h') ∧ NewB n h' v m (some (n + 1)) ∧ h'.n = n + 2 := by
  have e : call Ev Fn.spec_l2Copy [lv (bys m)] (D n) = call Ev Fn.impl_copied [lv (bys m)] (D n) := by rw [eq_spec_l2Copy, eq_impl_copied]
  rw [e]; exact f_copied hm n
end Vm
/-
  Rows of runs, new.
-/
namespace Vm
open Go
/-- a row of a run, new -/
theorem run_row {h : H} {a : Int} {l : List UInt8} {b N : Nat} {k : Nat} (w : BysW h (sv b 0 k) l b) : RepL (Rep h 1) [.int .i64 a, .sl (some (b, 0)) k] (RunD.cs ⟨a, l⟩) [b] := by
  have hk := w.len
  have h1 : Rep h 1 (.sl (some (b, 0)) k) (.fs (bys l)) [b] := Own.rep (d := 0) (ob := some b) w
  exact RepL.cons (bs := []) (Rep.sc trivial) (RepL.cons (bs := [b]) h1 .nil)
theorem runs_snoc (rs : List RunD) (r : RunD) : runs (rs ++ [r]) = runs rs ++ [r.cs] := by simp [runs]
/-- new bytes over a heap -/
theorem new_bys {g : Nat} {xs : List V} {h h1 : H} {v : V} {m : List UInt8} (e1 : call Ev g xs (D h.n) = some (v, h1)) (w1 : NewB h.n h1 v m (some (h.n + 1))) (nn : h1.n = h.n + 2) :
    (∀ (R : Type) (off : Bool) (k : V → H → Option R), pcallF (call Ev) g off xs h k = k (sv (h.n + 1) 0 m.length) (h.over h1)) ∧ BysW (h.over h1) (sv (h.n + 1) 0 m.length) m (h.n + 1) ∧ Up h (h.over h1) ∧ (h.over h1).n = h.n + 2 ∧ HExt h (h.over h1) := by
  have hv := (show BysW h1 v m (h.n + 1) from w1.own).v
  have hle := w1.le
  refine ⟨fun R off k => ?_, ⟨rfl, by rw [over_n hle]; omega, ?_⟩, up_over hle, by rw [over_n hle, nn], ⟨by rw [over_n hle]; omega, fun b hb => .inr (over_lt hb)⟩⟩
  · rw [pF (h := h) (h1 := h1) (v := v) e1 ⟨by rw [hv]; rfl, w1.z⟩, hv]
  · rw [over_ge (by omega)]; exact (show BysW h1 v m (h.n + 1) from w1.own).g
theorem cellsR {R : Type} {a : Int} {y : S} (hy : isNo y = false) {k : Int → S → Option R} :
    (cellsK (.s y) fun c217 =>
      if c217.length = 1 ∧ 1 + 1 ≤ ([.int .i64 a, .sl none 0] : List S).length then
      ((setAt ([.int .i64 a, .sl none 0] : List S) 1 c217)[0]?).bind fun x218 =>
      gI .i64 x218 fun i219 =>
      ((setAt ([.int .i64 a, .sl none 0] : List S) 1 c217)[1]?).bind fun x220 =>
      if (setAt ([.int .i64 a, .sl none 0] : List S) 1 c217).length = 2 then k i219 x220 else none else none) = k a y := by
  simp only [cellsK, hy, cond_false, ln0, ln1, Nat.zero_add, Nat.reduceAdd, Nat.le_refl, and_self, if_true]
  rw [show setAt [.int .i64 a, .sl none 0] 1 [y] = [.int .i64 a, y] from rfl]
  simp only [gx0, gx1, ob, gI_i, ln0, ln1, Nat.zero_add, Nat.reduceAdd, if_true]
end Vm
/-
  Edits: pages with their numbers, of the form of runs.
-/
namespace Vm
open Go
theorem rp_Edit {n : Nat} {xs : List S} (hr : Rp PR n T.laws_Edit xs) : ∃ r : RunD, xs = r.cs ∧ r.ok := by
  obtain ⟨m, hf⟩ := hr.st und_laws_Edit
  obtain ⟨a0, b0, rfl, h0, a1, b1, rfl, h1, rfl⟩ := hf
  obtain ⟨x0, rfl, w0⟩ := h0.int und_int64
  obtain ⟨m', rows, rfl, w1, w2⟩ := h1.slice und_S_uint8
  obtain ⟨l, rfl⟩ := rows8 und_uint8 rows w2
  exact ⟨⟨x0, l⟩, rfl, (wf64 w0).1, (wf64 w0).2, by simpa using w1⟩
theorem rows_Edit {m : Nat} : ∀ rows : List (List S), (∀ r ∈ rows, r.length = PR.cellsOf T.laws_Edit ∧ Rp PR m T.laws_Edit r) → ∃ rs : List RunD, rows = runs rs ∧ ∀ r ∈ rs, r.ok
  | [], _ => ⟨[], rfl, by simp⟩
  | r :: rows, hr => by
    obtain ⟨rs, h1, h2⟩ := rows_Edit rows fun r hm => hr r (by simp [hm])
    obtain ⟨a, h3, h4⟩ := rp_Edit (hr r (by simp)).2
    refine ⟨a :: rs, by rw [h1, h3]; rfl, fun x hx => ?_⟩
    rcases List.mem_cons.1 hx with rfl | hx
    · exact h4
    · exact h2 x hx
theorem arg_Edits {x : V} (hr : ArgRp PR T.S_laws_Edit x) : ∃ rs : List RunD, x = lv (runs rs) ∧ (∀ r ∈ rs, r.ok) ∧ rs.length ≤ maxLen := by
  obtain ⟨s, n, rfl, h1⟩ := hr.slice und_S_laws_Edit
  obtain ⟨m, rows, h1, h2, h3⟩ := h1.slice und_S_laws_Edit
  cases h1
  obtain ⟨rs, rfl, h4⟩ := rows_Edit rows h3
  exact ⟨rs, rfl, h4, by simpa using h2⟩

theorem p_szRun (r : RunD) {left : Int} (h1 : 0 ≤ left) (h2 : left < 9223372036854775808) (hl : r.l.length ≤ maxLen) : pureV (call Ev) Fn.laws_szEdit [.agg r.cs, iv .i64 left] = some (iv .i64 (szL r.l.length left)) := by
  rw [pu_laws_szEdit, pc (p_szByteS h1 h2 hl) rfl]
  simp only [gV1_s, gI_i, vcase_b, decide_eq_true_eq]
  unfold szL
  split <;> split <;> first | rfl | omega
theorem p_szRunS {all : List RunD} {left : Int} (h1 : 0 ≤ left) (h2 : left < 9223372036854775808) (hl : all.length ≤ maxLen) (hr : ∀ r ∈ all, r.l.length ≤ maxLen) : pureV (call Ev) Fn.laws_szEditS [lv (runs all), iv .i64 left] = some (iv .i64 (if (all.length : Int) ≤ left then szRuns all (left - all.length) else -1)) := by
  unfold maxLen at hl
  have loop : ∀ (rs : List RunD) (i : Nat) (q : Int), all.drop i = rs → 0 ≤ q → q < 9223372036854775808 →
      (Lp.laws_szEditS 0 [lv (runs all), iv .i64 q, iv .i64 i] (D 0)).bind (fun o102 => lcase o102 (fun l103 h104 =>
        (l103[0]?).bind fun w107 =>
        gV1 w107 fun x108 =>
        gI .i64 x108 fun i109 =>
        some (iv .i64 i109)) (fun v105 h106 =>
        frzV h106 v105)) = some (iv .i64 (szRuns rs q)) := by
    intro rs
    induction rs with
    | nil =>
      intro i q hi h1 h2
      have := drop_nil hi
      rw [eq_laws_szEditS_l0, vcase_b, if_neg (by simp; omega), tidy_self, ob, lcase_done]
      simp only [gx0, ob, gV1_s, gI_i, szRuns]
    | cons r rs ih =>
      intro i q hi h1 h2
      obtain ⟨g1, g2, g3⟩ := drop_cons hi
      rw [eq_laws_szEditS_l0, vcase_b, if_pos (by simp; omega), idxF_run g1, rowN_run]
      simp only [ob, gx0, gx1, gI_i, gF_f, ln0, ln1, Nat.zero_add, Nat.reduceAdd, if_true]
      rw [pc (p_szRun r h1 h2 (hr r (List.mem_of_getElem? g1))) rfl]
      simp only [gV1_s, gI_i, vcase_b, decide_eq_true_eq, szRuns, szL]
      by_cases hle : (r.l.length : Int) ≤ q
      · rw [if_pos hle, if_neg (by omega), w64 (by omega) (by omega), tidy_self, show (i : Int) + 1 = ((i + 1 : Nat) : Int) from by omega, if_pos hle]
        exact ih (i + 1) _ g2 (by omega) (by omega)
      · rw [if_neg hle, if_pos (by omega), if_neg hle]; rfl
  rw [pu_laws_szEditS, vcase_b, runs_len, w64 (by omega) (by omega)]
  by_cases hq : (all.length : Int) ≤ left
  · rw [if_neg (by simp; omega), if_pos hq]
    exact loop all 0 _ rfl (by omega) (by omega)
  · rw [if_pos (by simp; omega), if_neg hq]

theorem p_eqRun (r : RunD) (hl : r.l.length ≤ maxLen) : pureV (call Ev) Fn.laws_eqEdit [.agg r.cs, .agg r.cs] = some (bv true) := by
  rw [pu_laws_eqEdit, vcase_b, if_neg (by simp), pc (p_eqByteS hl) rfl]
  simp
theorem p_eqRunS {all : List RunD} (hl : all.length ≤ maxLen) (hr : ∀ r ∈ all, r.l.length ≤ maxLen) : pureV (call Ev) Fn.laws_eqEditS [lv (runs all), lv (runs all)] = some (bv true) := by
  unfold maxLen at hl
  have loop : ∀ (rs : List RunD) (i : Nat), all.drop i = rs → Lp.laws_eqEditS 0 [lv (runs all), lv (runs all), iv .i64 i] (D 0) = some (.done [] (D 0)) := by
    intro rs
    induction rs with
    | nil =>
      intro i hi
      have := drop_nil hi
      rw [eq_laws_eqEditS_l0, vcase_b, if_neg (by simp; omega), tidy_self]
    | cons r rs ih =>
      intro i hi
      obtain ⟨g1, g2, g3⟩ := drop_cons hi
      rw [eq_laws_eqEditS_l0, vcase_b, if_pos (by simp; omega), idxF_run g1, rowN_run]
      simp only [ob, gx0, gx1, gI_i, gF_f, ln0, ln1, Nat.zero_add, Nat.reduceAdd, if_true]
      rw [idxF_run g1, rowN_run]
      simp only [ob, gx0, gx1, gI_i, gF_f, ln0, ln1, Nat.zero_add, Nat.reduceAdd, if_true]
      rw [pc (p_eqRun r (hr r (List.mem_of_getElem? g1))) rfl]
      simp only [gV1_s, gB_b, hchk_self, vcase_b, Bool.not_true, Bool.false_eq_true, if_false]
      rw [w64 (by omega) (by omega), tidy_self, show (i : Int) + 1 = ((i + 1 : Nat) : Int) from by omega]
      exact ih (i + 1) g2
  rw [pu_laws_eqEditS, vcase_b, if_neg (by simp), show iv .i64 0 = iv .i64 ((0 : Nat) : Int) from rfl, loop all 0 rfl]
  simp

theorem f_toRun (r : RunD) (hl : r.l.length ≤ lim) (n : Nat) : ∃ y h' bs, call Ev Fn.laws_toEdit [.agg r.cs] (D n) = some (.agg [.int .i64 r.at_, y], h') ∧ Rep h' 1 y (.fs (bys r.l)) bs ∧ bs.Nodup ∧ (∀ b ∈ bs, n ≤ b ∧ b < h'.n) ∧ n ≤ h'.n ∧ belS n y = false := by
  rw [eq_laws_toEdit]
  generalize hG : (((D n).new 0 [.int .i64 r.at_, .fs (bys r.l)]).new 0 [.int .i64 0, .sl none 0]).new 0 [.int .i64 0, .sl none 0] = G
  have gn : G.n = n + 3 := by rw [← hG]; simp
  have g0 : G.g n = .rw 0 [.int .i64 r.at_, .fs (bys r.l)] := by rw [← hG, new_g' (by simp; omega), new_g' (by simp)]; exact new_g (D n) _ _
  have g1 : G.g (n + 1) = .rw 0 [.int .i64 0, .sl none 0] := by rw [← hG, new_g' (by simp)]; exact new_g ((D n).new 0 [.int .i64 r.at_, .fs (bys r.l)]) _ _
  have g2 : G.g (n + 2) = .rw 0 [.int .i64 0, .sl none 0] := by rw [← hG]; exact new_g (((D n).new 0 [.int .i64 r.at_, .fs (bys r.l)]).new 0 [.int .i64 0, .sl none 0]) _ _
  clear hG
  have ld : ∀ {h : H} {b o e : Nat} {X : List S}, b < h.n → h.g b = .rw e X → load1 h (pv b o) = X[o]? := fun hb hg => by simp [load1, H.cells, hb, hg, Blk.cells]
  simp only [new_n, D_n]
  rw [ld (by omega) g0]
  simp only [gx0, ob, gI_i]
  rw [stK_rw (z := 1) (e := 0) (o := 0) (b := n + 1 + 1) (cs := [.int .i64 0, .sl none 0]) (r := [.int .i64 r.at_]) (by omega) g2 (.inl ⟨_, rfl, rfl, rfl⟩) rfl (by simp)]
  rw [show setAt [.int .i64 0, .sl none 0] 0 [.int .i64 r.at_] = [.int .i64 r.at_, .sl none 0] from rfl]
  have k0 : (G.put (n + 1 + 1) (.rw 0 [.int .i64 r.at_, .sl none 0])).g n = .rw 0 [.int .i64 r.at_, .fs (bys r.l)] := by rw [put_g' (by omega)]; exact g0
  have k1 : (G.put (n + 1 + 1) (.rw 0 [.int .i64 r.at_, .sl none 0])).g (n + 1) = .rw 0 [.int .i64 0, .sl none 0] := by rw [put_g' (by omega)]; exact g1
  have k2 : (G.put (n + 1 + 1) (.rw 0 [.int .i64 r.at_, .sl none 0])).g (n + 2) = .rw 0 [.int .i64 r.at_, .sl none 0] := put_g _ _ _
  have kn : (G.put (n + 1 + 1) (.rw 0 [.int .i64 r.at_, .sl none 0])).n = n + 3 := by rw [put_n, gn]
  generalize G.put (n + 1 + 1) (.rw 0 [.int .i64 r.at_, .sl none 0]) = K at k0 k1 k2 kn ⊢
  rw [ld (by omega) k0]
  simp only [gx0, gx1, ob]
  rw [show frzVs K [.s (.fs (bys r.l))] = some [lv (bys r.l)] from frzVs_cons frzV_lv frzVs_nil, ob, norm_nil]
  obtain ⟨v, h1, e1, w1⟩ := f_toByteS hl K.n
  rw [pF (h := K) e1 w1.nofz]
  have hle := w1.le
  have u : Up K (K.over h1) := up_over (by omega)
  have un : (K.over h1).n = K.n + 1 := by rw [over_n (by omega), hle]
  have wo : BysW (K.over h1) v r.l K.n := ⟨w1.own.v, by omega, by rw [over_ge (by omega)]; exact w1.own.g⟩
  have hv := w1.own.v
  subst hv
  have u1 := (u.g (n + 1) (by omega)).trans k1
  have u2 := (u.g (n + 2) (by omega)).trans k2
  generalize K.over h1 = M at u un wo u1 u2 ⊢
  rw [stK_rw (z := 1) (e := 0) (o := 1) (b := n + 1 + 1) (cs := [.int .i64 r.at_, .sl none 0]) (r := [.sl (some (K.n, 0)) r.l.length]) (by omega) u2 (.inl ⟨_, rfl, rfl, rfl⟩) rfl (by simp)]
  rw [show setAt [.int .i64 r.at_, .sl none 0] 1 [S.sl (some (K.n, 0)) r.l.length] = [.int .i64 r.at_, .sl (some (K.n, 0)) r.l.length] from rfl]
  rw [loadN_2 (b := n + 1 + 1) (e := 0) (by rw [put_n]; omega) (put_g _ _ _)]
  simp only [gx0, gx1, ob, gI_i, ln0, ln1, Nat.zero_add, Nat.reduceAdd, if_true]
  rw [stK_rw (z := 2) (e := 0) (o := 0) (b := n + 1) (cs := [.int .i64 0, .sl none 0]) (r := [.int .i64 r.at_, .sl (some (K.n, 0)) r.l.length]) (by rw [put_n]; omega) (by rw [put_g' (by omega)]; exact u1) (.inr rfl) rfl (by simp)]
  rw [show setAt [.int .i64 0, .sl none 0] 0 [.int .i64 r.at_, S.sl (some (K.n, 0)) r.l.length] = [.int .i64 r.at_, .sl (some (K.n, 0)) r.l.length] from rfl]
  rw [loadN_2 (b := n + 1) (e := 0) (by rw [put_n, put_n]; omega) (put_g _ _ _), ob]
  refine ⟨_, _, [K.n], rfl, Own.rep (d := 0) (ob := some K.n) ⟨rfl, by rw [put_n, put_n]; omega, ?_⟩, by simp, ?_, ?_, ?_⟩
  · rw [put_g' (by omega), put_g' (by omega)]; exact wo.g
  · intro b hb
    rw [List.mem_singleton.1 hb, put_n, put_n]
    omega
  · rw [put_n, put_n]; omega
  · simp [belS]; omega
theorem Rep.markRs {h : H} {d : Nat} {y : S} {rs : List RunD} {bs : List Nat} {k : Nat} (w : Rep h (d + 2) y (.fs (runs rs)) bs) (hd : bs.Nodup) (hk : k + rsz rs < 2 ^ 62) :
    ∃ h', call Ev Fn.laws_markEditS [.s y, iv .i64 k] h = some (iv .i64 ((k + rsz rs : Nat) : Int), h') ∧ Rep h' (d + 2) y (.fs (runs (mkRs k rs))) bs ∧ h'.n = h.n ∧ ∀ c, c ∉ bs → h'.g c = h.g c ∧ h'.v c = h.v c := by
  have hrl := rsz_len rs
  obtain ⟨h', e1, r1, n1, o1⟩ := Rep.marks (z := 2) (cs := RunD.cs) (mk := mkR) (sz := szR) (k := k) (Lv := fun v k i h => Lp.laws_markEditS 0 [v, iv .i64 k, iv .i64 i] h) (fin := fun k => [iv .i64 k]) (by omega) (fun _ => rfl) w hd hk
    (fun b i k r h pre ys post bs hi hp hy hk hb hg wr hnd hnb => by
      show ∃ h' ys', Lp.laws_markEditS 0 _ h = _ ∧ _
      rw [eq_laws_markEditS_l0]
      simp only [lenV, Option.bind_some, gV1_s, gI_i, vcase_b]
      rw [if_pos (by simp; omega), idxK_sv hi]
      simp only [padd, ob, Nat.add_zero]
      have wr' : RepL (Rep h (d + 1)) ys ([.int .i64 r.at_] ++ [.fs (bys r.l)]) bs := wr
      obtain ⟨y1, y2, b1, b2, rfl, rfl, w1, w2⟩ := wr'.split
      obtain ⟨rfl, rfl⟩ := w1.of_sc (by intro s hs; rw [List.mem_singleton.1 hs]; trivial)
      cases w2 with
      | @cons y f bs' ys fs bss h1 h2 =>
        cases h2
        rw [List.append_nil, List.nil_append] at hnd hnb
        rw [stK_rw (z := 1) (e := 2) (o := i * 2) (b := b) (cs := pre ++ ([.int .i64 r.at_] ++ [y]) ++ post) (r := [.int .i64 k]) hb hg (.inl ⟨_, rfl, rfl, rfl⟩) rfl (by simp; omega)]
        have hset : setAt (pre ++ ([.int .i64 r.at_] ++ [y]) ++ post) (i * 2) [.int .i64 k] = pre ++ ([.int .i64 k] ++ [y]) ++ post := by
          rw [List.append_assoc, setAt_at hp (z := 1) rfl]; simp
        rw [hset, idxK_sv hi]
        simp only [padd, ob]
        have ld : load1 (h.put b (.rw 2 (pre ++ ([.int .i64 k] ++ [y]) ++ post))) (pv b (i * 2 + 1)) = some y := by
          simp only [load1, H.cells, put_n, hb, if_true, put_g, Blk.cells]
          rw [List.getElem?_append_left (by simp; omega), List.getElem?_append_right (by omega), hp]
          simp
        simp only [ldK, ldT, cond_false, ld, ob]
        have h1' : Rep (h.put b (.rw 2 (pre ++ ([.int .i64 k] ++ [y]) ++ post))) (d + 1) y (.fs (bys r.l)) bs' := h1.frame fun c hc => ⟨h1.lt c hc, put_g' (fun hh => hnb (hh ▸ hc))⟩
        have hszr : szR r = 1 + r.l.length := rfl
        obtain ⟨h2, e2, r2, n2, o2⟩ := h1'.mark (k := k + 1) (by omega)
        rw [w64 (n := (k : Int) + 1) (by omega) (by omega), show (k : Int) + 1 = ((k + 1 : Nat) : Int) from by omega, e2, ob]
        simp only [gV1_s, gI_i]
        have t1 : tidy (h.put b (.rw 2 (pre ++ ([.int .i64 k] ++ [y]) ++ post))) [iv .i64 ((k + 1 + r.l.length : Nat) : Int)] h2 = h2 := tidy_same n2 fun c hc => o2 c fun hh => by have := h1.lt c hh; rw [put_n] at hc; omega
        rw [t1]
        have t2 : ∀ l, tidy h l h2 = h2 := fun l => tidy_same (n2.trans (put_n _ _ _)) fun c hc => by
          have hc1 : c ∉ bs' := fun hh => by have := h1.lt c hh; omega
          have := o2 c hc1
          have hcb : c ≠ b := by omega
          refine ⟨this.1.trans (put_g' hcb), this.2.trans ?_⟩
          simp only [H.put, if_neg hcb]
        rw [t2, w64 (n := (i : Int) + 1) (by omega) (by omega), show (i : Int) + 1 = ((i + 1 : Nat) : Int) from by omega]
        refine ⟨h2, [.int .i64 k, y], ?_, n2.trans (put_n _ _ _), rfl, ?_, ?_, fun c hc hcb => ?_⟩
        · rw [show k + szR r = k + 1 + r.l.length from by omega]
        · have := (o2 b hnb).1
          rw [this, put_g]; simp
        · have : RepL (Rep h2 (d + 1)) ([.int .i64 k] ++ [y]) ([.int .i64 k] ++ [.fs (bys (Vm.marks (k + 1) r.l.length))]) ([] ++ (bs' ++ [])) := RepL.append (RepL.sc (by intro s hs; rw [List.mem_singleton.1 hs]; trivial)) (.cons r2 .nil)
          exact this
        · have hcb' : c ∉ bs' := fun hh => hcb (by simp [hh])
          have := o2 c hcb'
          refine ⟨this.1.trans (put_g' hc), this.2.trans ?_⟩
          simp only [H.put, if_neg hc])
    (fun o k h => by
      show Lp.laws_markEditS 0 _ h = _
      rw [eq_laws_markEditS_l0]
      simp only [lenV, Option.bind_some, gV1_s, gI_i, vcase_b]
      rw [if_neg (by simp), tidy_self])
  refine ⟨h', ?_, r1, n1, o1⟩
  rw [eq_laws_markEditS, show iv .i64 0 = iv .i64 ((0 : Nat) : Int) from rfl, e1, ob, lcase_done]
  simp only [gx0, ob, gV1_s, gI_i]
  rfl
theorem f_toRunS {all : List RunD} (hl : all.length ≤ lim) (hr : ∀ r ∈ all, r.l.length ≤ lim) (n : Nat) : ∃ v h', call Ev Fn.laws_toEditS [lv (runs all)] (D n) = some (v, h') ∧ (n ≤ h'.n ∧ OwnRs v all n h'.n h') ∧ belV n v = false := by
  have hl' := hl
  unfold lim at hl'
  rw [eq_laws_toEditS, runs_len, mkSl_of (z := 2) (zero := [.int .i64 0, .sl none 0]) hl (by omega) rfl, ob]
  generalize hG : (D n).new 2 ((List.replicate all.length [.int .i64 0, .sl none 0]).flatten) = G
  have gn : G.n = n + 1 := by rw [← hG]; simp
  have gg : G.g n = .rw 2 ((List.replicate all.length [.int .i64 0, .sl none 0]).flatten) := by rw [← hG]; exact new_g (D n) _ _
  obtain ⟨h', ys, bs, e1, n1, g1, r1, d1, f1, _⟩ := fill_rep (z := 2) (b := n) (d := 1) (n0 := n + 1) (cs := RunD.cs) (all := all) (L := fun i h => Lp.laws_toEditS 0 [lv (runs all), sv n 0 all.length, iv .i64 i] h) (fin := [sv n 0 all.length]) (by omega) (fun _ => rfl)
    (fun i a h X ha hb hn hg hX hXb => by
      have hi : i < all.length := (List.getElem?_eq_some_iff.1 ha).1
      show ∃ h' row bs, Lp.laws_toEditS 0 _ h = _ ∧ _
      rw [eq_laws_toEditS_l0, vcase_b, if_pos (by simp; omega), idxF_run ha, rowN_run]
      simp only [ob, gx0, gx1, gI_i, gF_f, ln0, ln1, Nat.zero_add, Nat.reduceAdd, if_true]
      obtain ⟨y, h1, bs, e1, r1, d1, f1, n1, t1⟩ := f_toRun a (hr a (List.mem_of_getElem? ha)) h.n
      obtain ⟨h2, e2, u2, n2, w2⟩ := pC (h := h) (off := true) rfl e1 (⟨n1, by simpa using OwnF.c (pre := [.int .i64 a.at_]) (by intro s hs; rw [List.mem_singleton.1 hs]; trivial) ⟨bs, r1, d1, f1⟩⟩ : NewC 1 [.int .i64 a.at_, y] [.int .i64 a.at_, .fs (bys a.l)] h.n h1)
      rw [e2]
      simp only [ob, gVA_a, gx0, gx1, gI_i, ln0, ln1, Nat.zero_add, Nat.reduceAdd, if_true]
      obtain ⟨bs2, r2, d2, f2⟩ := w2.now
      have hg2 := (u2.g n hb).trans hg
      rw [idxK_sv hi, stK_rw (z := 2) (e := 2) (o := i * 2) (b := n) (cs := X) (r := [.int .i64 a.at_, y]) (by omega) hg2 (.inr rfl) rfl (by omega), w64 (by omega) (by omega), show (i : Int) + 1 = ((i + 1 : Nat) : Int) from by omega]
      have ht : ∀ l, tidy h l (h2.put n (.rw 2 (setAt X (i * 2) [.int .i64 a.at_, y]))) = h2.put n (.rw 2 (setAt X (i * 2) [.int .i64 a.at_, y])) := fun l => no_tidy (b := n) hb (put_g _ _ _) (by
        rw [Bool.eq_false_iff]
        intro hh
        have := List.all_eq_true.1 hh y (by unfold setAt; simp)
        rw [t1] at this; cases this) (by rw [hg]; exact hXb)
      rw [ht]
      refine ⟨_, [.int .i64 a.at_, y], bs2, rfl, by rw [put_n]; omega, put_g _ _ _, r2.frame fun c hc => ?_, d2, fun c hc => (f2 c hc).1, fun c hc hcb => ?_⟩
      · have := f2 c hc
        exact ⟨by rw [put_n]; exact r2.lt c hc, put_g' (by omega)⟩
      · rw [put_g' hcb]; exact u2.g c hc)
    (fun h => by
      show Lp.laws_toEditS 0 _ h = _
      rw [eq_laws_toEditS_l0, vcase_b, if_neg (by simp), tidy_self])
    all.length 0 G [] ((List.replicate all.length [.int .i64 0, .sl none 0]).flatten) [] (by omega) (by omega) (by omega) (by omega) (by simpa using gg) (repl_len rfl) (by
      rw [List.all_eq_true]
      intro s hs
      obtain ⟨r, hr, hs⟩ := List.mem_flatten.1 hs
      rw [List.eq_of_mem_replicate hr] at hs
      rcases List.mem_cons.1 hs with rfl | hs
      · rfl
      · rw [List.mem_singleton.1 hs]; rfl) (by simpa using RepL.nil) (by simp) (by simp)
  rw [D_n, show iv .i64 0 = iv .i64 ((0 : Nat) : Int) from rfl, e1]
  simp only [ob, lcase_done, gx0]
  refine ⟨_, _, rfl, ⟨by omega, _, rfl, n :: bs, ?_, ?_, ?_⟩, by simp [belV, belS]⟩
  · have := Rep.sl (d := 1) (h := h') (b := n) (z := 2) (rows := runs all) (by omega) (by omega) g1 runs_row r1
    rw [runs_len] at this
    exact this.lifts (by omega)
  · exact List.nodup_cons.2 ⟨fun hh => by have := f1 n hh; omega, d1⟩
  · intro c hc
    rcases List.mem_cons.1 hc with rfl | hc
    · omega
    · have := f1 c hc
      have := r1.lt c hc
      omega
theorem OwnRs.mark {h : H} {v : V} {rs : List RunD} {lo hi k : Nat} (w : Sep (OwnRs v rs lo hi) lo hi h) (hl : k + rsz rs < 2 ^ 62) :
    ∃ p, call Ev Fn.laws_markEditS [v, iv .i64 k] h = some (iv .i64 ((k + rsz rs : Nat) : Int), p) ∧ Sep (OwnRs v (mkRs k rs) lo hi) lo hi (tidy h [iv .i64 ((k + rsz rs : Nat) : Int)] p) ∧ ButR lo hi h (tidy h [iv .i64 ((k + rsz rs : Nat) : Int)] p) := by
  obtain ⟨y, rfl, bs, w1, w2, w3⟩ := w.now
  obtain ⟨p, e1, r1, n1, o1⟩ := w1.markRs (k := k) w2 hl
  have ht := w.top
  have t : tidy h [iv .i64 ((k + rsz rs : Nat) : Int)] p = p := tidy_same n1 fun c hc => o1 c (fun hh => by have := w3 c hh; omega)
  refine ⟨p, e1, ?_, ?_⟩
  · rw [t]; exact OwnRs.sep ⟨y, rfl, bs, r1, w2, w3⟩ (by rw [n1]; exact ht)
  · rw [t]; exact ⟨n1, fun c hc => (o1 c fun hh => by have := w3 c hh; omega).1⟩
theorem p_heldRs {k : Nat} {rs : List RunD} (hk : k + rsz rs < 2 ^ 62) : pureV (call Ev) Fn.laws_heldEditS [lv (runs (mkRs k rs)), iv .i64 k] = some (iv .i64 ((k + rsz rs : Nat) : Int)) := by
  have hrl := rsz_len rs
  have loop : ∀ (q : List RunD) (i k' : Nat), (mkRs k rs).drop i = mkRs k' q → k' + rsz q = k + rsz rs → i + q.length = rs.length →
      Lp.laws_heldEditS 0 [lv (runs (mkRs k rs)), iv .i64 k', iv .i64 i] (D 0) = some (.done [iv .i64 ((k + rsz rs : Nat) : Int)] (D 0)) := by
    intro q
    induction q with
    | nil =>
      intro i k' hd hs hi
      simp only [List.length_nil] at hi
      rw [eq_laws_heldEditS_l0, vcase_b, runs_len, mkRs_len, if_neg (by simp; omega), tidy_self, ← hs]
      rfl
    | cons r q ih =>
      intro i k' hd hs hi
      rw [mkRs_cons] at hd
      rw [rsz_cons] at hs
      simp only [List.length_cons] at hi
      obtain ⟨g1, g2, _⟩ := drop_cons hd
      rw [eq_laws_heldEditS_l0, vcase_b, runs_len, mkRs_len, if_pos (by simp; omega), idxF_run g1]
      simp only [gx0, gx1, ob, gI_i, gF_f]
      rw [vcase_b, if_neg (by simp [mkR]), idxF_run g1]
      simp only [gx0, gx1, ob, gI_i, gF_f]
      rw [w64 (n := (k' : Int) + 1) (by omega) (by omega), show (k' : Int) + 1 = ((k' + 1 : Nat) : Int) from by omega, show (mkR k' r).l = Vm.marks (k' + 1) r.l.length from rfl, pc (p_held (by omega)) rfl]
      simp only [gV1_s, gI_i, vcase_b]
      rw [if_neg (by simp; omega), w64 (n := (i : Int) + 1) (by omega) (by omega), tidy_self, show (i : Int) + 1 = ((i + 1 : Nat) : Int) from by omega]
      exact ih (i + 1) (k' + 1 + r.l.length) (by rw [g2, Nat.add_assoc]) (by omega) (by omega)
  rw [pu_laws_heldEditS, show iv .i64 0 = iv .i64 ((0 : Nat) : Int) from rfl, loop rs 0 k (by simp) rfl (by simp), ob, lcase_done]
  simp only [gx0, ob, gV1_s, gI_i]
theorem p_toRunS {all : List RunD} (hl : all.length ≤ lim) (hr : ∀ r ∈ all, r.l.length ≤ lim) : pureV (call Ev) Fn.laws_toEditS [lv (runs all)] = some (lv (runs all)) := by
  obtain ⟨v, h', e, ⟨_, w⟩, _⟩ := f_toRunS hl hr 0
  unfold pureV
  rw [e, ob, w.frz]
end Vm
/-
  A row of one's own slice turned into another one.
-/
namespace Vm
open Go
theorem flat_set {z : Nat} {rows : List (List S)} {i : Nat} {fr : List S} (hi : i < rows.length) : (rows.set i fr).flatten = (rows.take i).flatten ++ (fr ++ (rows.drop (i + 1)).flatten) := by
  rw [List.set_eq_take_append_cons_drop, if_pos hi, List.flatten_append, List.flatten_cons]
theorem flat_cut {rows : List (List S)} {i : Nat} (hi : i < rows.length) : rows.flatten = (rows.take i).flatten ++ (rows[i] ++ (rows.drop (i + 1)).flatten) := by
  conv => lhs; rw [← List.take_append_drop i rows, List.flatten_append, List.drop_eq_getElem_cons hi, List.flatten_cons]
theorem set_row {z d : Nat} {y : S} {rows : List (List S)} {bs : List Nat} {h : H} {row fr : List S} {br : List Nat} {i : Nat} (w : OutS z d y rows bs h) (hi : i < rows.length) (wr : RepL (Rep h d) row fr br) (hz : fr.length = z) (hd : br.Nodup) (hdis : ∀ a ∈ bs, a ∉ br) :
    ∃ b cs, y = .sl (some (b, 0)) rows.length ∧ b ∈ bs ∧ b < h.n ∧ h.g b = .rw z cs ∧ i * z + z ≤ cs.length ∧
      ∃ bs', OutS z d y (rows.set i fr) bs' (h.put b (.rw z (setAt cs (i * z) row))) ∧ ∀ c ∈ bs', c ∈ bs ∨ c ∈ br := by
  have hrow : row.length = z := wr.len.trans hz
  rcases w.rep with ⟨⟨h3, h4⟩ | ⟨h3, h4⟩, h5⟩ | ⟨b, z', cs, rows', bss, h3, h4, h5, h6, h7, h8, h9, h10⟩
  · rw [← h4] at h3; exact h3.elim
  · injection h4 with h4
    subst h4
    simp at hi
  · injection h4 with h4
    subst h4
    subst h3
    subst h5
    have hzz : z' = z := by
      rcases w.ty with hh | ⟨b', cs', hh, hg⟩
      · cases hh
      · injection hh with hh _
        injection hh with hh
        injection hh with hh _
        subst hh
        rw [h8] at hg
        injection hg
    subst hzz
    have hcl := h10.len
    rw [flat_len h9] at hcl
    have hiz : i * z' + z' ≤ cs.length := by rw [hcl, ← Nat.succ_mul]; exact Nat.mul_le_mul_right _ hi
    refine ⟨b, cs, rfl, by simp, h6, h8, hiz, ?_⟩
    have hd2 := List.nodup_cons.1 w.nd
    have w10 := h10
    rw [flat_cut hi] at w10
    obtain ⟨a1, a2, b1, b2, e1, e2, w1, w2⟩ := w10.split
    obtain ⟨a3, a4, b3, b4, e3, e4, w3, w4⟩ := w2.split
    subst e3; subst e4; subst e1; subst e2
    have l1 : a1.length = i * z' := by
      rw [w1.len, flat_len (z := z') (fun r hr => h9 r (List.mem_of_mem_take hr)), List.length_take, Nat.min_eq_left (by omega)]
    have l3 : a3.length = z' := w3.len.trans (h9 _ (List.getElem_mem hi))
    have hset : setAt (a1 ++ (a3 ++ a4)) (i * z') row = a1 ++ (row ++ a4) := by
      rw [setAt_at l1 hrow, ← l3, List.drop_left, List.append_assoc]
    rw [hset]
    have hnd := List.nodup_append.1 hd2.2
    have hnd2 := List.nodup_append.1 hnd.2.1
    have hg : ∀ c, c ≠ b → (h.put b (.rw z' (a1 ++ (row ++ a4)))).g c = h.g c := fun c hc => put_g' hc
    have hlt := w.rep.lt
    have fr1 : ∀ c, c ∈ b1 ∨ c ∈ b4 → c < (h.put b (.rw z' (a1 ++ (row ++ a4)))).n ∧ (h.put b (.rw z' (a1 ++ (row ++ a4)))).g c = h.g c := fun c hc => by
      have hm : c ∈ b1 ++ (b3 ++ b4) := by rcases hc with hc | hc <;> simp [hc]
      exact ⟨by rw [put_n]; exact hlt c (by simp [hm]), hg c (fun hh => hd2.1 (hh ▸ hm))⟩
    refine ⟨b :: (b1 ++ (br ++ b4)), ⟨?_, ?_, ?_, ?_⟩, ?_⟩
    · have := Rep.sl (d := d) (h := h.put b (.rw z' (a1 ++ (row ++ a4)))) (b := b) (z := z') (cs := a1 ++ (row ++ a4)) (rows := rows.set i fr) (bss := b1 ++ (br ++ b4)) (by rw [put_n]; exact h6) h7 (put_g _ _ _) (by
        intro r hr
        rcases List.mem_or_eq_of_mem_set hr with hr | rfl
        · exact h9 r hr
        · exact hz) (by
        rw [flat_set (z := z') hi]
        refine (w1.frame fun c hc => fr1 c (.inl hc)).append ((wr.frame fun c hc => ⟨by rw [put_n]; exact wr.lt c hc, hg c (fun hh => hdis b (by simp) (hh ▸ hc))⟩).append (w4.frame fun c hc => fr1 c (.inr hc))))
      simpa using this
    · refine List.nodup_cons.2 ⟨fun hh => ?_, ?_⟩
      · rcases List.mem_append.1 hh with hh | hh
        · exact hd2.1 (by simp [hh])
        rcases List.mem_append.1 hh with hh | hh
        · exact hdis b (by simp) hh
        · exact hd2.1 (by simp [hh])
      · refine List.nodup_append.2 ⟨hnd.1, List.nodup_append.2 ⟨hd, hnd2.2.1, fun x hx x' hx' hh => hdis x' (by simp [hx']) (hh ▸ hx)⟩, fun x hx x' hx' hh => ?_⟩
        rcases List.mem_append.1 hx' with hx' | hx'
        · exact hdis x (by simp [hx]) (hh ▸ hx')
        · exact hnd.2.2 x hx x' (by simp [hx']) hh
    · exact .inr ⟨b, a1 ++ (row ++ a4), by simp, put_g _ _ _⟩
    · intro r hr
      rcases List.mem_or_eq_of_mem_set hr with hr | rfl
      · exact w.len r hr
      · exact hz
    · intro c hc
      rcases List.mem_cons.1 hc with rfl | hc
      · exact .inl (by simp)
      rcases List.mem_append.1 hc with hc | hc
      · exact .inl (by simp [hc])
      rcases List.mem_append.1 hc with hc | hc
      · exact .inr hc
      · exact .inl (by simp [hc])
end Vm
/-
  Where a row with a table and a key stands; how long texts of a table may be.
-/
namespace Vm
open Go
def atF (t k : Int) : List RowD → Nat → Int
  | [], _ => -1
  | r :: rs, i => if r.tab = t ∧ r.key = k then i else atF t k rs (i + 1)
theorem atF_some {t k : Int} : ∀ (rs : List RowD) (i : Nat), atF t k rs i = -1 ∨ ∃ j r, rs[j]? = some r ∧ atF t k rs i = ((i + j : Nat) : Int) ∧ r.tab = t ∧ r.key = k
  | [], i => .inl rfl
  | r :: rs, i => by
    unfold atF
    by_cases h : r.tab = t ∧ r.key = k
    · rw [if_pos h]; exact .inr ⟨0, r, rfl, rfl, h⟩
    · rw [if_neg h]
      rcases atF_some rs (i + 1) with h1 | ⟨j, q, h1, h2, h3⟩
      · exact .inl h1
      · exact .inr ⟨j + 1, q, by simpa using h1, by rw [h2]; omega, h3⟩
theorem p_l6At {all : List RowD} {t k : Int} (hl : all.length ≤ maxLen) : pureV (call Ev) Fn.spec_l6At [lv (rws all), iv .i64 t, iv .i64 k] = some (iv .i64 (atF t k all 0)) := by
  unfold maxLen at hl
  have loop : ∀ (rs : List RowD) (i : Nat), all.drop i = rs → Lp.spec_l6At 0 [lv (rws all), iv .i64 t, iv .i64 k, iv .i64 i] (D 0) = some (if atF t k rs i = -1 then .done [] (D 0) else .ret (iv .i64 (atF t k rs i)) (D 0)) := by
    intro rs
    induction rs with
    | nil =>
      intro i hi
      have := drop_nil hi
      rw [eq_spec_l6At_l0, vcase_b, if_neg (by simp; omega), tidy_self]; rfl
    | cons r rs ih =>
      intro i hi
      obtain ⟨g1, g2, g3⟩ := drop_cons hi
      have ih' := ih (i + 1) g2
      rw [eq_spec_l6At_l0, vcase_b, if_pos (by simp; omega), idxF_rw g1]
      simp only [ob, gx0, gI_i, vcase_b, beq_iff_eq, tidy_self]
      rw [idxF_rw g1, w64 (by omega) (by omega), show (i : Int) + 1 = ((i + 1 : Nat) : Int) from by omega]
      simp only [ob, gx0, gx1, gI_i, vcase_b, beq_iff_eq]
      rw [ih']
      by_cases h1 : r.tab = t
      · by_cases h2 : r.key = k
        · have e : atF t k (r :: rs) i = i := by unfold atF; rw [if_pos ⟨h1, h2⟩]
          rw [if_pos h1, if_pos h2, e, if_neg (by omega)]
        · have e : atF t k (r :: rs) i = atF t k rs (i + 1) := by rw [atF]; rw [if_neg (fun h => h2 h.2)]
          rw [if_pos h1, if_neg h2, e]
      · have e : atF t k (r :: rs) i = atF t k rs (i + 1) := by rw [atF]; rw [if_neg (fun h => h1 h.1)]
        rw [if_neg h1, e]
  rw [pu_spec_l6At, show iv .i64 0 = iv .i64 ((0 : Nat) : Int) from rfl, loop all 0 rfl, ob]
  by_cases h0 : atF t k all 0 = -1
  · rw [if_pos h0, h0]; rfl
  · rw [if_neg h0, lcase_ret]; simp
/-- how long texts of a table may be -/
def lngF (t : Int) : List RowD → Option Int
  | [] => none
  | r :: rs => if r.tab = 0 ∧ r.key = t then some r.val else lngF t rs
theorem lng_at {t : Int} : ∀ (rs : List RowD) (i : Nat), (atF 0 t rs i = -1 ∧ lngF t rs = none) ∨ ∃ j r, rs[j]? = some r ∧ atF 0 t rs i = ((i + j : Nat) : Int) ∧ lngF t rs = some r.val
  | [], i => .inl ⟨rfl, rfl⟩
  | r :: rs, i => by
    unfold atF lngF
    by_cases h : r.tab = 0 ∧ r.key = t
    · rw [if_pos h, if_pos h]; exact .inr ⟨0, r, rfl, rfl, rfl⟩
    · rw [if_neg h, if_neg h]
      rcases lng_at rs (i + 1) with h1 | ⟨j, q, h1, h2, h3⟩
      · exact .inl h1
      · exact .inr ⟨j + 1, q, by simpa using h1, by rw [h2]; omega, h3⟩
theorem p_l8Longest {all : List RowD} {t : Int} (hl : all.length ≤ maxLen) : pureV (call Ev) Fn.spec_l8Longest [lv (rws all), iv .i64 t] = some (iv .i64 ((lngF t all).getD (-1))) := by
  rw [pu_spec_l8Longest, pc (p_l6At hl) rfl]
  simp only [gV1_s, gI_i, vcase_b, decide_eq_true_eq]
  rcases lng_at (t := t) all 0 with ⟨h1, h2⟩ | ⟨j, r, h1, h2, h3⟩
  · rw [h1, h2, if_pos (by omega)]; rfl
  · rw [h2, h3, if_neg (by omega), Nat.zero_add, idxF_rw h1]
    simp only [gx0, gx1, ob, gI_i]; rfl
theorem p_longest {all : List RowD} {t : Int} (hl : all.length ≤ maxLen) : pureV (call Ev) Fn.impl_longest [lv (rws all), iv .i64 t] = some (.tup [.s (.int .i64 ((lngF t all).getD 0)), .s (.bool (lngF t all).isSome)]) := by
  unfold maxLen at hl
  have loop : ∀ (rs : List RowD) (i : Nat), all.drop i = rs → ∃ h', Lp.impl_longest 0 [iv .i64 t, lv (rws all), iv .i64 (all.length : Int), iv .i64 i] (D 0) = some (match lngF t rs with | none => .done [] h' | some x => .ret (.tup [.s (.int .i64 x), .s (.bool true)]) h') := by
    intro rs
    induction rs with
    | nil =>
      intro i hi
      have := drop_nil hi
      refine ⟨D 0, ?_⟩
      rw [eq_impl_longest_l0, vcase_b, if_neg (by simp; omega), tidy_self]; rfl
    | cons r rs ih =>
      intro i hi
      obtain ⟨g1, g2, g3⟩ := drop_cons hi
      obtain ⟨h', ih'⟩ := ih (i + 1) g2
      rw [eq_impl_longest_l0, vcase_b, if_pos (by simp; omega), idxF_rw g1, rowN_rw]
      simp only [ob, gx0, gx1, gI_i, gS_s, ln0, ln1, Nat.zero_add, Nat.reduceAdd, if_true]
      rw [stK_row, load_0, load_1, load_2]
      simp only [ob, gI_i, vcase_b, beq_iff_eq]
      rw [putR_tidy rfl, w64 (by omega) (by omega), show (i : Int) + 1 = ((i + 1 : Nat) : Int) from by omega, ih']
      by_cases h1 : r.tab = 0
      · by_cases h2 : r.key = t
        · have e : lngF t (r :: rs) = some r.val := by rw [lngF, if_pos ⟨h1, h2⟩]
          rw [e, if_pos h1, if_pos h2]; exact ⟨_, rfl⟩
        · have e : lngF t (r :: rs) = lngF t rs := by rw [lngF, if_neg (fun h => h2 h.2)]
          rw [e, if_pos h1, if_neg h2]; exact ⟨_, rfl⟩
      · have e : lngF t (r :: rs) = lngF t rs := by rw [lngF, if_neg (fun h => h1 h.1)]
        rw [e, if_neg h1]; exact ⟨_, rfl⟩
  obtain ⟨h', e⟩ := loop all 0 rfl
  rw [pu_impl_longest, rws_len, show iv .i64 0 = iv .i64 ((0 : Nat) : Int) from rfl, e, ob]
  cases lngF t all with
  | none => rfl
  | some x => rw [lcase_ret]; simp; rfl
/-- rows without a fault have no value below 0 -/
theorem rowF_val {r : RowD} (h : rowF r = 0) : 0 ≤ r.val := by
  unfold rowF inB at h
  split at h
  · rename_i h2; simp only [Bool.and_eq_true, decide_eq_true_eq] at h2; omega
  · omega
theorem rowsFrom_all : ∀ {rs : List RowD} {p : Option RowD}, rowsFrom p rs = 0 → ∀ r ∈ rs, rowF r = 0
  | [], _, _ => by simp
  | r :: rs, p, h => by
    have h0 : rowF r = 0 := by
      by_cases h0 : rowF r = 0
      · exact h0
      · rw [rowsFrom_n h0] at h; exact absurd h h0
    have h2 : rowsFrom (some r) rs = 0 := by
      cases p with
      | none => rw [rowsFrom_0 h0] at h; exact h
      | some q =>
        cases hb : befB q r with
        | false => rw [rowsFrom_1 h0 hb] at h; omega
        | true => rw [rowsFrom_2 h0 hb] at h; exact h
    intro x hx
    rcases List.mem_cons.1 hx with rfl | hx
    · exact h0
    · exact rowsFrom_all h2 x hx
theorem rowsF_all {rs : List RowD} (h : rowsF rs = 0) : ∀ r ∈ rs, rowF r = 0 := by
  unfold rowsF at h
  split at h
  · omega
  · exact rowsFrom_all h
theorem lngF_pos {t : Int} : ∀ {rs : List RowD} {x : Int}, (∀ r ∈ rs, rowF r = 0) → lngF t rs = some x → 0 ≤ x
  | [], x, _, h => by cases h
  | r :: rs, x, hr, h => by
    unfold lngF at h
    split at h
    · cases h; exact rowF_val (hr r (by simp))
    · exact lngF_pos (fun q hq => hr q (by simp [hq])) h
def longF (rs : List RowD) (t : Int) : Int × Int := if rowsF rs = 0 then (if inB t 1 3 then (match lngF t rs with | none => (4, 0) | some x => (0, x)) else (3, 0)) else (rowsF rs, 0)
theorem p_spec_LongestIn {all : List RowD} {t : Int} (hs : ∀ r ∈ all, r.text.size ≤ maxLen) (hl : all.length ≤ maxLen) : pureV (call Ev) Fn.spec_LongestIn [lv (rws all), iv .i64 t] = some (.agg [.int .i64 (longF all t).1, .int .i64 (longF all t).2]) := by
  rw [pu_spec_LongestIn, pc (p_l6Rows hs hl) rfl]
  simp only [gV1_s, gI_i, vcase_b, bne_iff_ne, ne_eq]
  unfold longF
  by_cases h0 : rowsF all = 0
  · rw [if_neg (by simp [h0]), pc (p_l1In _ _ _) rfl, if_pos h0]
    simp only [gV1_s, gB_b, vcase_b]
    cases hb : inB t 1 3
    · rfl
    · rw [if_neg (by simp), pc (p_l8Longest hl) rfl, if_pos rfl]
      simp only [gV1_s, gI_i, vcase_b, decide_eq_true_eq]
      cases hx : lngF t all with
      | none => rfl
      | some x =>
        have := lngF_pos (rowsF_all h0) hx
        rw [Option.getD_some, if_neg (by omega)]
  · rw [if_pos h0, if_neg h0]
theorem p_LongestIn {all : List RowD} {t : Int} (hs : ∀ r ∈ all, r.text.size ≤ maxLen) (hl : all.length ≤ maxLen) : pureV (call Ev) Fn.impl_LongestIn [lv (rws all), iv .i64 t] = some (.agg [.int .i64 (longF all t).1, .int .i64 (longF all t).2]) := by
  rw [pu_impl_LongestIn, pc (p_RowsFault hs hl) rfl]
  simp only [gV1_s, gI_i, vcase_b, bne_iff_ne, ne_eq]
  unfold longF
  by_cases h0 : rowsF all = 0
  · rw [if_neg (by simp [h0]), pc (p_in _ _ _) rfl, if_pos h0]
    simp only [gV1_s, gB_b, vcase_b]
    cases hb : inB t 1 3
    · rfl
    · rw [if_neg (by simp), pc (p_longest hl) rfl, if_pos rfl]
      cases hx : lngF t all with
      | none => rfl
      | some x => rfl
  · rw [if_pos h0, if_neg h0]
end Vm
/-
  Changes: their size, a copy, a comparison, their fault; whether a change may be.
-/
namespace Vm
open Go
structure ChgD where
  was : Bool
  b : RowD
  is : Bool
  a : RowD
abbrev ChgD.cs (c : ChgD) : List S := [.bool c.was, .int .i64 c.b.tab, .int .i64 c.b.key, .int .i64 c.b.val, .str c.b.text, .bool c.is, .int .i64 c.a.tab, .int .i64 c.a.key, .int .i64 c.a.val, .str c.a.text]
structure ChgD.ok (c : ChgD) : Prop where
  b : c.b.ok
  a : c.a.ok
theorem rp_Change {n : Nat} {xs : List S} (hr : Rp PR n T.laws_Change xs) : ∃ c : ChgD, xs = c.cs ∧ c.ok := by
  obtain ⟨m, hf⟩ := hr.st und_laws_Change
  obtain ⟨a0, b0, rfl, h0, a1, b1, rfl, h1, a2, b2, rfl, h2, a3, b3, rfl, h3, rfl⟩ := hf
  obtain ⟨x0, rfl⟩ := h0.bool und_bool
  obtain ⟨x1, rfl, w1⟩ := rp_Row h1
  obtain ⟨x2, rfl⟩ := h2.bool und_bool
  obtain ⟨x3, rfl, w3⟩ := rp_Row h3
  exact ⟨⟨x0, x1, x2, x3⟩, rfl, w1, w3⟩
theorem arg_Change {x : V} (hr : ArgRp PR T.laws_Change x) : ∃ c : ChgD, x = .agg c.cs ∧ c.ok := by
  obtain ⟨cs, n, rfl, h1⟩ := hr.st und_laws_Change
  obtain ⟨r, rfl, h2⟩ := rp_Change h1
  exact ⟨r, rfl, h2⟩
theorem cl_bool {n : Bool} : Cl (.bool n) := fun _ _ => frz_b
theorem chg_cl {c : ChgD} : ∀ s ∈ c.cs, Cl s := by
  intro s hs
  simp only [List.mem_cons, List.not_mem_nil, or_false] at hs
  rcases hs with rfl | rfl | rfl | rfl | rfl | rfl | rfl | rfl | rfl | rfl <;> first | exact cl_i | exact cl_s | exact cl_bool
def szChg (c : ChgD) (left : Int) : Int := if (c.b.text.size : Int) ≤ left then (if (c.a.text.size : Int) ≤ left - c.b.text.size then left - c.b.text.size - c.a.text.size else -1) else -1
theorem p_szChange (c : ChgD) {left : Int} (h1 : 0 ≤ left) (h2 : left < 9223372036854775808) (hc : c.ok) : pureV (call Ev) Fn.laws_szChange [.agg c.cs, iv .i64 left] = some (iv .i64 (szChg c left)) := by
  rw [pu_laws_szChange, pc (p_szRow c.b left h1 h2 hc.b.s) rfl]
  simp only [gV1_s, gI_i, vcase_b, decide_eq_true_eq, szChg]
  by_cases hle : (c.b.text.size : Int) ≤ left
  · rw [if_pos hle, if_neg (by omega), pc (p_szRow c.a _ (by omega) (by omega) hc.a.s) rfl, if_pos hle]
    simp only [gV1_s, gI_i, vcase_b, decide_eq_true_eq]
    by_cases hle2 : (c.a.text.size : Int) ≤ left - c.b.text.size
    · rw [if_pos hle2, if_neg (by omega)]
    · rw [if_neg hle2, if_pos (by omega)]
  · rw [if_neg hle, if_pos (by omega), if_neg hle]
theorem p_toChange (c : ChgD) : pureV (call Ev) Fn.laws_toChange [.agg c.cs] = some (.agg c.cs) := by
  rw [pu_laws_toChange, pc (p_toRow c.b) rfl]
  simp only [ob, gx0, gx1, gVA_a, gI_i, gS_s, ln0, ln1, Nat.zero_add, Nat.reduceAdd, if_true]
  rw [pc (p_toRow c.a) rfl]
  simp only [ob, gx0, gx1, gVA_a, gI_i, gS_s, ln0, ln1, Nat.zero_add, Nat.reduceAdd, if_true]
/-! the fault -/
def sameK (a b : RowD) : Bool := decide (a.tab = b.tab) && decide (a.key = b.key)
def chgF (c : ChgD) : Int :=
  if (!c.was && !c.is) || (c.was && c.is && !sameK c.b c.a) then 1
  else if c.was = true ∧ rowF c.b ≠ 0 then rowF c.b else if c.is then rowF c.a else 0
def ordI (a b : RowD) : Int := if befB a b then -1 else if befB b a then 1 else 0
theorem p_order (a b : RowD) : pureV (call Ev) Fn.impl_order [.agg a.cs, .agg b.cs] = some (iv .i64 (ordI a b)) := by
  rw [pu_impl_order, pc (p_IsBefore a b) rfl]
  simp only [gV1_s, gB_b, vcase_b]
  unfold ordI
  cases befB a b
  · rw [if_neg (by simp), if_neg (by simp), pc (p_IsBefore b a) rfl]
    simp only [gV1_s, gB_b, vcase_b]
    cases befB b a <;> rfl
  · rfl
theorem ordI_0 {a b : RowD} : ordI a b = 0 ↔ sameK a b = true := by
  unfold ordI befB sameK
  simp only [Bool.or_eq_true, Bool.and_eq_true, decide_eq_true_eq]
  split
  · omega
  · split <;> omega
/-- the fault of the rows of a change -/
def chgR (c : ChgD) : Int := if c.was = true ∧ rowF c.b ≠ 0 then rowF c.b else if c.is then rowF c.a else 0
theorem chgF_eq (c : ChgD) : chgF c = if (!c.was && !c.is) || (c.was && c.is && !sameK c.b c.a) then 1 else chgR c := rfl
theorem p_l6Change (c : ChgD) (hc : c.ok) : pureV (call Ev) Fn.spec_l6Change [fv c.cs 0] = some (iv .i64 (chgF c)) := by
  have fin : ∀ q w1 w2 w3 w4 w5 w6 w7 w8 w9 w10 w11 w12 w13 w14 w15 w16 w17 w18 w19 w20 w21 w22 w23 w24 w25 w26 w27 w28 w29 w30 w31 w32 w33 w34 w35 w36 q2,
      Jn.spec_l6Change_0 q w1 w2 w3 w4 w5 w6 w7 w8 w9 w10 w11 w12 w13 w14 w15 w16 w17 w18 w19 w20 w21 w22 w23 w24 w25 w26 w27 w28 w29 w30 w31 w32 w33 w34 w35 w36 q2 c.was c.b.tab c.b.key c.b.val c.b.text c.is c.a.tab c.a.key c.a.val c.a.text = some (iv .i64 (if q2 = true then 1 else chgR c)) := by
    intro q w1 w2 w3 w4 w5 w6 w7 w8 w9 w10 w11 w12 w13 w14 w15 w16 w17 w18 w19 w20 w21 w22 w23 w24 w25 w26 w27 w28 w29 w30 w31 w32 w33 w34 w35 w36 q2
    unfold Jn.spec_l6Change_0 chgR
    rw [pc (p_l1Fault c.b hc.b.s) rfl]
    simp only [gV1_s, gI_i, vcase_b, bne_iff_ne, ne_eq]
    rw [pc (p_l1Fault c.a hc.a.s) rfl]
    simp only [gV1_s, gI_i]
    by_cases h0 : rowF c.b = 0 <;> cases q2 <;> cases c.was <;> cases c.is <;> simp [h0]
  rw [pu_spec_l6Change, chgF_eq]
  unfold Jn.spec_l6Change_1
  simp only [vcase_b, bne_iff_ne, ne_eq, fin]
  have hs : sameK c.b c.a = (decide (c.b.tab = c.a.tab) && decide (c.b.key = c.a.key)) := rfl
  rw [hs]
  cases c.was <;> cases c.is <;> simp only [Bool.not_true, Bool.not_false, Bool.false_eq_true, if_false, if_true, Bool.and_true, Bool.true_and, Bool.and_false, Bool.false_and, Bool.or_false, Bool.false_or]
  by_cases h1 : c.b.tab = c.a.tab
  · rw [if_neg (by simpa using h1), decide_eq_true h1, Bool.true_and]
    by_cases h2 : c.b.key = c.a.key <;> simp [h2]
  · rw [if_pos h1, decide_eq_false h1]; rfl
theorem p_changeFault (c : ChgD) (hc : c.ok) : pureV (call Ev) Fn.impl_changeFault [.agg c.cs] = some (iv .i64 (chgF c)) := by
  have fin : ∀ q2, Jn.impl_changeFault_0 q2 c.was c.b.tab c.b.key c.b.val c.b.text c.is c.a.tab c.a.key c.a.val c.a.text = some (iv .i64 (if q2 = true then 1 else chgR c)) := by
    intro q2
    unfold Jn.impl_changeFault_0 chgR
    rw [pc (p_RowFault c.b hc.b.s) rfl]
    simp only [gV1_s, gI_i, vcase_b, bne_iff_ne, ne_eq]
    rw [pc (p_RowFault c.a hc.a.s) rfl]
    simp only [gV1_s, gI_i]
    by_cases h0 : rowF c.b = 0 <;> cases q2 <;> cases c.was <;> cases c.is <;> simp [h0]
  rw [pu_impl_changeFault, chgF_eq]
  unfold Jn.impl_changeFault_2 Jn.impl_changeFault_1
  rw [pc (p_order c.b c.a) rfl]
  simp only [gV1_s, gI_i, vcase_b, fin, bne_iff_ne, ne_eq, ordI_0]
  cases c.was <;> cases c.is <;> simp
/-! whether a change may be -/
def ChgD.k (c : ChgD) : RowD := if c.is then c.a else c.b
theorem p_Change_key (c : ChgD) : pureV (call Ev) Fn.impl_Change_key [.agg c.cs] = some (.agg c.k.cs) := by
  rw [pu_impl_Change_key, vcase_b]; unfold ChgD.k
  cases c.is <;> rfl
theorem p_l6Key (c : ChgD) : pureV (call Ev) Fn.spec_l6Key [fv c.cs 0] = some (.tup [.s (.int .i64 c.k.tab), .s (.int .i64 c.k.key)]) := by
  rw [pu_spec_l6Key, vcase_b]; unfold ChgD.k
  cases c.is <;> rfl
/-- a row stands in the way of a change of a table -/
def hinders (c : ChgD) (r : RowD) : Bool := decide (r.tab = c.k.key) && !decide (r.tab = 0) && (!c.is || decide ((r.text.size : Int) > c.a.val))
def catF (rs : List RowD) (c : ChgD) : Int := if c.is && (!inB c.k.key 1 3 || decide (c.a.val > 8) || !(c.a.text.toList == (⟨#[]⟩ : ByteArray).toList)) then 10 else if rs.any (hinders c) then 8 else 0
theorem p_l8Catalog {all : List RowD} (c : ChgD) (hl : all.length ≤ maxLen) : pureV (call Ev) Fn.spec_l8Catalog [lv (rws all), fv c.cs 0] = some (iv .i64 (catF all c)) := by
  unfold maxLen at hl
  have loop : ∀ (rs : List RowD) (i : Nat), all.drop i = rs → Lp.spec_l8Catalog 0 [lv (rws all), fv c.cs 0, iv .i64 c.k.key, iv .i64 i] (D 0) = some (if rs.any (hinders c) then .ret (iv .i64 8) (D 0) else .done [] (D 0)) := by
    intro rs
    induction rs with
    | nil =>
      intro i hi
      have := drop_nil hi
      rw [eq_spec_l8Catalog_l0, vcase_b, if_neg (by simp; omega), tidy_self]; rfl
    | cons r rs ih =>
      intro i hi
      obtain ⟨g1, g2, g3⟩ := drop_cons hi
      have ih' := ih (i + 1) g2
      rw [eq_spec_l8Catalog_l0, vcase_b, if_pos (by simp; omega), idxF_rw g1]
      simp only [tidy_self]
      rw [w64 (by omega) (by omega), show (i : Int) + 1 = ((i + 1 : Nat) : Int) from by omega, ih', List.any_cons]
      simp only [ob, gx0, gI_i, vcase_b]
      rw [idxF_rw g1]
      simp only [ob, gx0, gI_i, vcase_b]
      rw [idxF_rw g1, show 0 + 5 = 5 from rfl, show 0 + 6 + 2 = 8 from rfl]
      simp only [ob, gx0, gx1, gI_i, gB_b, gS_s, vcase_b, beq_iff_eq, bne_iff_ne, ne_eq, decide_eq_true_eq]
      by_cases h1 : r.tab = c.k.key
      · rw [if_pos h1]
        by_cases h2 : r.tab = 0
        · have e : hinders c r = false := by simp [hinders, h2]
          rw [if_neg (by simpa using h2), e, Bool.false_or]
        · rw [if_pos h2]
          by_cases hi : c.is = true
          · by_cases h3 : (r.text.size : Int) > c.a.val
            · have e : hinders c r = true := by simp [hinders, h1, hi, h3]; rw [← h1]; exact h2
              rw [if_neg (by simp [hi]), if_pos h3, e, Bool.true_or, if_pos rfl]
            · have e : hinders c r = false := by simp [hinders, hi, h3]
              rw [if_neg (by simp [hi]), if_neg h3, e, Bool.false_or]
          · have e : hinders c r = true := by simp [hinders, h1, hi]; rw [← h1]; exact h2
            rw [if_pos (by simp [hi]), e, Bool.true_or, if_pos rfl]
      · have e : hinders c r = false := by simp [hinders, h1]
        rw [if_neg h1, e, Bool.false_or]
  have fin : ((Lp.spec_l8Catalog 0 [lv (rws all), fv c.cs 0, iv .i64 c.k.key, iv .i64 0] (D 0)).bind fun o133 => lcase o133 (fun l134 h135 =>
  some (iv .i64 0)) (fun v136 h137 =>
  frzV h137 v136)) = some (iv .i64 (if all.any (hinders c) then 8 else 0)) := by
    rw [show iv .i64 0 = iv .i64 ((0 : Nat) : Int) from rfl, loop all 0 rfl, ob]
    split
    · rw [lcase_ret]; simp
    · rw [lcase_done]; rfl
  rw [pu_spec_l8Catalog, pc (p_l6Key c) rfl]
  simp only [ob, gx0, gx1, gVT_t, gA1_s, gI_i, ln0, ln1, Nat.zero_add, Nat.reduceAdd, if_true, vcase_b]
  rw [fin, pc (p_l1In _ _ _) rfl]
  simp only [gV1_s, gB_b, vcase_b, decide_eq_true_eq]
  unfold catF
  cases c.is
  · simp
  · simp only [if_true, Bool.true_and]
    cases inB c.k.key 1 3
    · simp
    · simp only [Bool.not_true, Bool.false_or, Bool.false_eq_true, if_false]
      by_cases h3 : c.a.val > 8
      · simp [h3]
      · rw [if_neg h3, decide_eq_false h3, Bool.false_or]
        cases (c.a.text.toList == (⟨#[]⟩ : ByteArray).toList) <;> simp
end Vm
/-
  Whether a change may be: the program and the specification.
-/
namespace Vm
open Go
section
variable {R : Type}
theorem ldK_agg {t : VT} {ti : TI} {h : H} {b o : Nat} {cs : List S} {k : V → Option R} (ha : ti.agg = true) (hl : loadN ti.z h (pv b o) = some cs) : ldK t ti h (pv b o) k = k (.agg cs) := by
  simp only [ldK, ldT, ha, cond_true]; rw [hl, ob]
theorem ldK_one {t : VT} {ti : TI} {h : H} {b o : Nat} {x : S} {k : V → Option R} (ha : ti.agg = false) (hl : load1 h (pv b o) = some x) : ldK t ti h (pv b o) k = k (.s x) := by
  simp only [ldK, ldT, ha, cond_false]; rw [hl, ob]
end
theorem loadN_cs {h : H} {b : Nat} {cs : List S} {n : Nat} (hb : b < h.n) (hc : h.cells b = cs) (hn : cs.length = n) : loadN n h (pv b 0) = some cs := by
  simp only [loadN]
  rw [if_pos ⟨hb, by rw [hc]; omega⟩, hc, List.drop_zero, List.take_of_length_le (by omega)]
theorem load1_cs {h : H} {b o : Nat} {cs : List S} {x : S} (hc : h.cells b = cs) (hx : cs[o]? = some x) : load1 h (pv b o) = some x := by
  simp only [load1]; rw [hc, hx]
theorem keep_cells {h h' : H} (x : HKeep h h') {b : Nat} (hb : b < h.n) : h'.cells b = h.cells b := by
  unfold H.cells; rw [if_pos hb, if_pos (by have := x.1; omega), (x.2 b hb).1]
theorem p_tableMayBe {all : List RowD} (c : ChgD) (hl : all.length ≤ maxLen) : pureV (call Ev) Fn.impl_tableMayBe [lv (rws all), .agg c.cs] = some (iv .i64 (catF all c)) := by
  unfold maxLen at hl
  have hc0 : ∀ h1, HKeep ((D 0).new 0 c.cs) h1 → h1.cells 0 = c.cs := fun h1 x => by
    rw [keep_cells x (by simp)]; unfold H.cells; rw [if_pos (by simp)]; rfl
  have loop : ∀ (rs : List RowD) (i : Nat), all.drop i = rs → ∃ h', Lp.impl_tableMayBe 0 [pv 0 0, lv (rws all), iv .i64 (all.length : Int), iv .i64 i] ((D 0).new 0 c.cs) = some (if rs.any (hinders c) then .ret (iv .i64 8) h' else .done [] h') := by
    intro rs
    induction rs with
    | nil =>
      intro i hi
      have := drop_nil hi
      rw [eq_impl_tableMayBe_l0, vcase_b, if_neg (by simp; omega)]; exact ⟨_, rfl⟩
    | cons r rs ih =>
      intro i hi
      obtain ⟨g1, g2, g3⟩ := drop_cons hi
      obtain ⟨h', ih'⟩ := ih (i + 1) g2
      have hk := putR_keep ((D 0).new 0 c.cs) r
      have hcc := hc0 _ hk
      have hbn : 0 < (putR ((D 0).new 0 c.cs) r).n := by rw [putR_n]; simp
      rw [eq_impl_tableMayBe_l0, vcase_b, if_pos (by simp; omega), idxF_rw g1, rowN_rw]
      simp only [ob, gx0, gx1, gI_i, gS_s, ln0, ln1, Nat.zero_add, Nat.reduceAdd, if_true]
      rw [stK_row, load_0, load_3, w64 (by omega) (by omega), show (i : Int) + 1 = ((i + 1 : Nat) : Int) from by omega, putR_tidy rfl, ih']
      simp only [ob, gI_i, gS_s]
      rw [ldK_agg rfl (loadN_cs hbn hcc rfl)]
      simp only [ob, gVA_a, gx0, gx1, gI_i, gS_s, gB_b, ln0, ln1, Nat.zero_add, Nat.reduceAdd, if_true]
      rw [pc (p_Change_key c) rfl]
      simp only [ob, gVA_a, gx0, gx1, gI_i, gS_s, gB_b, ln0, ln1, Nat.zero_add, Nat.reduceAdd, if_true]
      rw [hchk_self, show padd 5 (pv 0 0) = some (pv 0 5) from rfl, ob, ldK_one rfl (load1_cs (o := 5) (x := .bool c.is) hcc rfl)]
      rw [show padd 6 (pv 0 0) = some (pv 0 6) from rfl, ob, show padd 2 (pv 0 6) = some (pv 0 8) from rfl, ob, ldK_one rfl (load1_cs (o := 8) (x := .int .i64 c.a.val) hcc rfl)]
      simp only [gV1_s, gB_b, gI_i, vcase_b, beq_iff_eq, bne_iff_ne, ne_eq, decide_eq_true_eq]
      rw [List.any_cons]
      by_cases h1 : r.tab = c.k.key
      · rw [if_pos h1]
        by_cases h2 : r.tab = 0
        · have e : hinders c r = false := by simp [hinders, h2]
          rw [if_neg (by simpa using h2), e, Bool.false_or]; exact ⟨_, rfl⟩
        · rw [if_pos h2]
          by_cases hi : c.is = true
          · by_cases h3 : (r.text.size : Int) > c.a.val
            · have e : hinders c r = true := by simp [hinders, h1, hi, h3]; rw [← h1]; exact h2
              rw [if_neg (by simp [hi]), if_pos h3, e, Bool.true_or]; exact ⟨_, rfl⟩
            · have e : hinders c r = false := by simp [hinders, hi, h3]
              rw [if_neg (by simp [hi]), if_neg h3, e, Bool.false_or]; exact ⟨_, rfl⟩
          · have e : hinders c r = true := by simp [hinders, h1, hi]; rw [← h1]; exact h2
            rw [if_pos (by simp [hi]), e, Bool.true_or]; exact ⟨_, rfl⟩
      · have e : hinders c r = false := by simp [hinders, h1]
        rw [if_neg h1, e, Bool.false_or]; exact ⟨_, rfl⟩
  have fin : ((Lp.impl_tableMayBe 0 [pv 0 0, lv (rws all), iv .i64 ((rws all).length : Int), iv .i64 0] ((D 0).new 0 c.cs)).bind fun o125 => lcase o125 (fun l126 h127 =>
  some (iv .i64 0)) (fun v128 h129 =>
  frzV h129 v128)) = some (iv .i64 (if all.any (hinders c) then 8 else 0)) := by
    obtain ⟨h', e⟩ := loop all 0 rfl
    rw [rws_len, show iv .i64 0 = iv .i64 ((0 : Nat) : Int) from rfl, e, ob]
    split
    · rw [lcase_ret]; simp
    · rw [lcase_done]; rfl
  rw [pu_impl_tableMayBe, vcase_b, fin, pc (p_in _ _ _) rfl]
  simp only [gV1_s, gB_b, vcase_b, decide_eq_true_eq]
  have hk : c.is = true → c.k = c.a := fun h => by unfold ChgD.k; rw [if_pos h]
  unfold catF
  cases hi : c.is
  · simp
  · rw [hk hi]
    simp only [if_true, Bool.true_and]
    cases inB c.a.key 1 3
    · simp
    · simp only [Bool.not_true, Bool.false_or, Bool.false_eq_true, if_false]
      by_cases h3 : c.a.val > 8
      · simp [h3]
      · rw [if_neg h3, decide_eq_false h3, Bool.false_or]
        cases (c.a.text.toList == (⟨#[]⟩ : ByteArray).toList) <;> simp
def mayC (rs : List RowD) (c : ChgD) : Int := if c.k.tab = 0 then catF rs c else if c.is then (match lngF c.k.tab rs with | none => 4 | some n => if (c.a.text.size : Int) > n then 10 else 0) else 0
def mayF (rs : List RowD) (c : ChgD) : Int := if rowsF rs = 0 then (if chgF c = 0 then mayC rs c else chgF c) else rowsF rs
theorem p_l8May {all : List RowD} (c : ChgD) (hl : all.length ≤ maxLen) (h0 : rowsF all = 0) : pureV (call Ev) Fn.spec_l8May [lv (rws all), fv c.cs 0] = some (iv .i64 (mayC all c)) := by
  rw [pu_spec_l8May, pc (p_l6Key c) rfl]
  simp only [ob, gx0, gx1, gVT_t, gA1_s, gI_i, ln0, ln1, Nat.zero_add, Nat.reduceAdd, if_true, vcase_b, beq_iff_eq]
  rw [pc (p_l8Catalog c hl) rfl]
  simp only [gV1_s, gI_i]
  unfold mayC
  by_cases ht : c.k.tab = 0
  · rw [if_pos ht, if_pos ht]
  rw [if_neg ht, if_neg ht]
  cases c.is
  · rfl
  rw [if_neg (by simp), pc (p_l8Longest hl) rfl, if_pos rfl]
  simp only [gV1_s, gI_i, vcase_b, decide_eq_true_eq]
  cases hx : lngF c.k.tab all with
  | none => rfl
  | some x =>
    have := lngF_pos (rowsF_all h0) hx
    rw [Option.getD_some, if_neg (by omega)]
    simp only []
    split <;> rfl
theorem p_mayBe {all : List RowD} (c : ChgD) (hl : all.length ≤ maxLen) : pureV (call Ev) Fn.impl_mayBe [lv (rws all), .agg c.cs] = some (iv .i64 (mayC all c)) := by
  rw [pu_impl_mayBe, pc (p_Change_key c) rfl]
  simp only [ob, gx0, gx1, gVA_a, gI_i, gS_s, ln0, ln1, Nat.zero_add, Nat.reduceAdd, if_true, vcase_b, beq_iff_eq]
  rw [pc (p_tableMayBe c hl) rfl]
  simp only [gV1_s, gI_i]
  unfold mayC
  by_cases ht : c.k.tab = 0
  · rw [if_pos ht, if_pos ht]
  rw [if_neg ht, if_neg ht]
  have hk : c.is = true → c.k = c.a := fun h => by unfold ChgD.k; rw [if_pos h]
  cases hi : c.is
  · rfl
  rw [if_neg (by simp), pc (p_longest hl) rfl, if_pos rfl, hk hi]
  simp only [ob, gx0, gx1, gVT_t, gA1_s, gI_i, gB_b, ln0, ln1, Nat.zero_add, Nat.reduceAdd, if_true, vcase_b, decide_eq_true_eq]
  cases hx : lngF c.a.tab all with
  | none => rfl
  | some x =>
    simp only [Option.isSome_some, Bool.not_true, Bool.false_eq_true, if_false, Option.getD_some]
    split <;> rfl
theorem p_spec_MayBe {all : List RowD} (c : ChgD) (hc : c.ok) (hs : ∀ r ∈ all, r.text.size ≤ maxLen) (hl : all.length ≤ maxLen) : pureV (call Ev) Fn.spec_MayBe [lv (rws all), .agg c.cs] = some (iv .i64 (mayF all c)) := by
  rw [pu_spec_MayBe, pc (p_l6Rows hs hl) rfl]
  simp only [gV1_s, gI_i, vcase_b, bne_iff_ne, ne_eq]
  unfold mayF
  by_cases h0 : rowsF all = 0
  · rw [if_neg (by simp [h0]), if_pos h0, pc (p_l6Change c hc) rfl]
    simp only [gV1_s, gI_i, vcase_b, bne_iff_ne, ne_eq]
    by_cases h1 : chgF c = 0
    · rw [if_neg (by simp [h1]), if_pos h1, pc (p_l8May c hl h0) rfl]
      simp only [gV1_s, gI_i]
    · rw [if_pos h1, if_neg h1]
  · rw [if_pos h0, if_neg h0]
theorem p_MayBe {all : List RowD} (c : ChgD) (hc : c.ok) (hs : ∀ r ∈ all, r.text.size ≤ maxLen) (hl : all.length ≤ maxLen) : pureV (call Ev) Fn.impl_MayBe [lv (rws all), .agg c.cs] = some (iv .i64 (mayF all c)) := by
  rw [pu_impl_MayBe, pc (p_RowsFault hs hl) rfl]
  simp only [gV1_s, gI_i, vcase_b, bne_iff_ne, ne_eq]
  unfold mayF
  by_cases h0 : rowsF all = 0
  · rw [if_neg (by simp [h0]), if_pos h0, pc (p_changeFault c hc) rfl]
    simp only [gV1_s, gI_i, vcase_b, bne_iff_ne, ne_eq]
    by_cases h1 : chgF c = 0
    · rw [if_neg (by simp [h1]), if_pos h1, pc (p_mayBe c hl) rfl]
      simp only [gV1_s, gI_i]
    · rw [if_pos h1, if_neg h1]
  · rw [if_pos h0, if_neg h0]
end Vm
/-
  Slices of flat rows that grow in a loop.
-/
namespace Vm
open Go
theorem szI {a b x : Int} (h : ¬ (if a ≤ b then x else -1) < 0) : a ≤ b := by
  by_cases h2 : a ≤ b
  · exact h2
  · rw [if_neg h2] at h; omega
theorem app_flat {z : Nat} {y : S} {rows : List (List S)} {bs : List Nat} {h : H} {row : List S} (w : OutS z 0 y rows bs h) (hs : ∀ s ∈ row, Sc s) (hz : row.length = z) (hz0 : 0 < z) (hl : rows.length + 1 ≤ lim) :
    ∃ h' bs', appS z (h.new z row) (.s y) (sv h.n 0 1) = some (sv (h.n + 1) 0 (rows.length + 1), h') ∧ OutS z 0 (.sl (some (h.n + 1, 0)) (rows.length + 1)) (rows ++ [row]) bs' h' ∧ h'.n = h.n + 2 ∧ (∀ c ∈ bs', c = h.n + 1 ∨ c ∈ bs) ∧ (∀ c, c < h.n → c ∉ bs → h'.g c = h.g c) := by
  obtain ⟨h', bs', e, o, n, m, k, _, _⟩ := app_row (fr := row) (br := []) w (RepL.sc hs) hz hz0 (by simp) (by simp) hl
  exact ⟨h', bs', e, o, n, fun c hc => by rcases m c hc with h | h | h <;> simp_all, k⟩
/-- a slice that grows over what stood in a heap of height n -/
def Gr (z n : Nat) (h0 : H) (y : S) (rows : List (List S)) (h : H) : Prop := n ≤ h.n ∧ (∀ c, c < n → h.g c = h0.g c) ∧ ∃ bs, OutS z 0 y rows bs h ∧ ∀ b ∈ bs, n ≤ b
theorem Gr.none {z n : Nat} {h : H} (hn : n ≤ h.n) : Gr z n h (.sl none 0) [] h := ⟨hn, fun _ _ => rfl, [], OutS.none, by simp⟩
theorem Gr.new {z : Nat} {h : H} (hz0 : 0 < z) : Gr z h.n h (.sl (some (h.n, 0)) 0) [] (h.new z []) := by
  refine ⟨by simp, fun c hc => new_g' (by omega), [h.n], ⟨?_, by simp, .inr ⟨h.n, [], rfl, new_g _ _ _⟩, by simp⟩, by simp⟩
  exact Rep.sl (rows := []) (bss := []) (by simp) hz0 (new_g _ _ _) (by simp) .nil
theorem Gr.keep {z n : Nat} {h0 h h' : H} {y : S} {rows : List (List S)} (w : Gr z n h0 y rows h) (x : HKeep h h') : Gr z n h0 y rows h' := by
  obtain ⟨w1, w2, bs, w3, w4⟩ := w
  exact ⟨Nat.le_trans w1 x.1, fun c hc => (x.2 c (by omega)).1.trans (w2 c hc), bs, w3.frame fun b hb => by
    have := w3.rep.lt b hb
    exact ⟨by have := x.1; omega, (x.2 b this).1⟩, w4⟩
theorem Gr.app {z n : Nat} {h0 h : H} {y : S} {rows : List (List S)} {row : List S} (w : Gr z n h0 y rows h) (hs : ∀ s ∈ row, Sc s) (hz : row.length = z) (hz0 : 0 < z) (hl : rows.length + 1 ≤ lim) :
    ∃ h', appS z (h.new z row) (.s y) (sv h.n 0 1) = some (sv (h.n + 1) 0 (rows.length + 1), h') ∧ Gr z n h0 (.sl (some (h.n + 1, 0)) (rows.length + 1)) (rows ++ [row]) h' ∧ h'.n = h.n + 2 := by
  obtain ⟨w1, w2, bs, w3, w4⟩ := w
  obtain ⟨h', bs', e, o, hn, m, k⟩ := app_flat w3 hs hz hz0 hl
  refine ⟨h', e, ⟨by omega, fun c hc => (k c (by omega) fun hh => by have := w4 c hh; omega).trans (w2 c hc), bs', o, fun b hb => ?_⟩, hn⟩
  rcases m b hb with rfl | hb
  · omega
  · exact w4 b hb
theorem Gr.own {z n : Nat} {h0 h : H} {y : S} {rows : List (List S)} (w : Gr z n h0 y rows h) : OwnF 1 y (.fs rows) n h.n h := by
  obtain ⟨w1, w2, bs, w3, w4⟩ := w
  exact ⟨bs, w3.rep, w3.nd, fun b hb => ⟨w4 b hb, w3.rep.lt b hb⟩⟩
theorem Gr.frz {z n : Nat} {h0 h : H} {y : S} {rows : List (List S)} (w : Gr z n h0 y rows h) : frzV h (.s y) = some (lv rows) := w.own.frz
theorem OwnF.lift {d k : Nat} {y f : S} {lo hi : Nat} {h : H} (w : OwnF d y f lo hi h) (hk : d ≤ k) : OwnF k y f lo hi h := by
  obtain ⟨bs, a, b, c⟩ := w
  exact ⟨bs, a.lifts hk, b, c⟩
theorem OwnF.no {d : Nat} {y f : S} {lo hi : Nat} {h : H} (w : OwnF d y f lo hi h) : isNo y = false := by
  obtain ⟨bs, a, b, c⟩ := w
  exact a.isNo
/-- the value that grew is not let go -/
theorem grow_tidy {h h' : H} {l : List V} {m k : Nat} (hm : h.n ≤ m) (hl : sv m 0 k ∈ l) : tidy h l h' = h' := by
  refine no_tidy_v ?_
  rw [List.all_eq_false]
  exact ⟨_, hl, by simp [belV, belS]; omega⟩
/-- a fault, of a depth that is asked -/
theorem bad2D (n d : Nat) (c : Int) : ∃ h', (stK 2 ((D n).new 0 [.int .i64 0, .sl none 0]) (pv ((D n).n) 0) (.agg [.int .i64 c, .sl none 0]) fun h105 =>
      (loadN 2 h105 (pv ((D n).n) 0)).bind fun c106 => some (V.agg c106, h105)) = some (.agg [.int .i64 c, .sl none 0], h') ∧ NewC d [.int .i64 c, .sl none 0] [.int .i64 c, .fs []] n h' := by
  rw [st2_new, loadN_2 (by simp) (by exact g_st), Vm.ob]
  refine ⟨_, rfl, by simp, [], ?_, by simp, by simp⟩
  exact RepL.cons (bs := []) (Rep.sc trivial) (RepL.cons (bs := []) Rep.nil .nil)
end Vm
