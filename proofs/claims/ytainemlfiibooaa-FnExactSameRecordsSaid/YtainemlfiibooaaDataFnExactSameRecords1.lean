/-
  What both ways of the law come to, and that the law returns true.
-/
import Derived.Test.YtainemlfiibooaaEqs
import Derived.Test.YtainemlfiibooaaDl
import Derived.Test.YtainemlfiibooaaTyp
set_option linter.unusedVariables false
set_option maxRecDepth 100000
set_option linter.unusedSimpArgs false
set_option linter.unusedSectionVars false
/-
  Numbers between two others.
-/
namespace Vm
open Go
def inB (n a b : Int) : Bool := decide (a ≤ n) && decide (n ≤ b)
theorem inB_iff {n a b : Int} : inB n a b = true ↔ a ≤ n ∧ n ≤ b := by simp [inB]
theorem p_l1In (n a b : Int) : pureV (call Ev) Fn.spec_l1In [iv .i64 n, iv .i64 a, iv .i64 b] = some (bv (inB n a b)) := by
  rw [pu_spec_l1In, vcase_b]
  unfold inB
  split <;> simp_all <;> omega
theorem p_in (n a b : Int) : pureV (call Ev) Fn.impl_in [iv .i64 n, iv .i64 a, iv .i64 b] = some (bv (inB n a b)) := by
  rw [pu_impl_in, vcase_b]
  unfold inB
  split <;> simp_all <;> omega
end Vm
/-
  Loops that fill a new slice, and what is frozen of it.
-/
namespace Vm
open Go

@[simp] theorem tidy_put {h : H} {l : List V} {b : Nat} {x : Blk} (hb : b < h.n) : tidy h l (h.put b x) = h.put b x := by
  unfold tidy
  split
  · obtain ⟨n, g, v⟩ := h
    simp only [H.put, H.mk.injEq, true_and]
    constructor <;> (funext c; split <;> first | rfl | (rename_i hc; rw [if_neg (by intro e; subst e; exact hc hb)]))
  · rfl
/-- a value that fills a row -/
def VRow (v : V) (r : List S) : Prop := (∃ x, v = .s x ∧ r = [x] ∧ isNo x = false) ∨ v = .agg r
theorem stK_rw {R : Type} {z e o b : Nat} {h : H} {cs r : List S} {v : V} {k : H → Option R} (hb : b < h.n) (hg : h.g b = .rw e cs) (hv : VRow v r) (hr : r.length = z) (ho : o + z ≤ cs.length) :
    stK z h (pv b o) v k = k (h.put b (.rw e (setAt cs o r))) := by
  rcases hv with ⟨x, rfl, rfl, hx⟩ | rfl
  · simp only [List.length_cons, List.length_nil, Nat.zero_add] at hr
    subst hr
    simp only [stK, if_true, put1K, if_pos hb, hg]
    rw [if_pos (by omega), hx]
    have : cs.set o x = setAt cs o [x] := by
      unfold setAt
      rw [List.set_eq_take_append_cons_drop, if_pos (by omega)]
      simp
    rw [this]; rfl
  · simp only [stK, putNK]
    rw [if_pos ⟨hb, hr⟩, hg]
    simp only
    rw [if_pos ho]
theorem idxK_sv {R : Type} {z b n i : Nat} {kd : IntKind} {f : V → Option R} (hi : i < n) : idxK z (sv b 0 n) (iv kd (i : Int)) f = f (pv b (i * z)) := by
  simp only [idxK, idxS]
  rw [if_pos ⟨by omega, by omega⟩]
  simp
theorem setAt_at {A r B : List S} {o z : Nat} (ho : A.length = o) (hz : r.length = z) : setAt (A ++ B) o r = A ++ r ++ B.drop z := by
  subst ho; subst hz
  unfold setAt
  simp
theorem map_flat_len {T : Nat → List S} {z : Nat} : ∀ (i : Nat), (∀ j, j < i → (T j).length = z) → (((List.range i).map T).flatten).length = i * z
  | 0, _ => by simp
  | i + 1, h => by
    rw [List.range_succ, List.map_append, List.flatten_append, List.length_append, map_flat_len i fun j hj => h j (by omega)]
    simp [h i (by omega), Nat.succ_mul]
theorem fill_loop {z n b : Nat} {T : Nat → List S} {L : Int → H → Option LOut} {fin : List V} (hT : ∀ i, i < n → (T i).length = z)
    (hstep : ∀ (i : Nat) (h : H), i < n → b < h.n → ∃ v l, VRow v (T i) ∧ L i h = stK z h (pv b (i * z)) v fun h' => L ((i + 1 : Nat) : Int) (tidy h l h'))
    (hend : ∀ h, L n h = some (.done fin h)) :
    ∀ (k i : Nat) (h : H) (cs : List S), i + k = n → b < h.n → h.g b = .rw z (((List.range i).map T).flatten ++ cs) → cs.length = k * z →
      ∃ h', L i h = some (.done fin h') ∧ h'.n = h.n ∧ h'.g b = .rw z (((List.range n).map T).flatten) ∧ ∀ c, c ≠ b → h'.g c = h.g c ∧ h'.v c = h.v c := by
  intro k
  induction k with
  | zero =>
    intro i h cs hi hb hg hl
    obtain rfl : i = n := by omega
    have : cs = [] := List.eq_nil_of_length_eq_zero (by omega)
    subst this
    exact ⟨h, hend h, rfl, by simpa using hg, fun _ _ => ⟨rfl, rfl⟩⟩
  | succ k ih =>
    intro i h cs hi hb hg hl
    obtain ⟨v, l, hv, e⟩ := hstep i h (by omega) hb
    have hz := hT i (by omega)
    have hp := map_flat_len (T := T) (z := z) i fun j hj => hT j (by omega)
    have hl' : cs.length = z + k * z := by rw [hl, Nat.succ_mul]; omega
    rw [e, stK_rw hb hg hv hz (by rw [List.length_append, hp]; omega), tidy_put hb, setAt_at hp hz]
    obtain ⟨h', g1, g2, g3, g4⟩ := ih (i + 1) (h.put b (.rw z (((List.range i).map T).flatten ++ T i ++ cs.drop z))) (cs.drop z) (by omega) hb
      (by rw [put_g, List.range_succ, List.map_append, List.flatten_append]; simp) (by rw [List.length_drop]; omega)
    refine ⟨h', g1, g2, g3, fun c hc => ?_⟩
    have := g4 c hc
    simp only [H.put, if_neg hc] at this
    exact this
/-- a cell that is frozen as it stands -/
def Cl (s : S) : Prop := ∀ (h : H) (d : Nat), frzS h d s = some s
theorem cl_i {k : IntKind} {n : Int} : Cl (.int k n) := fun _ _ => frz_i
theorem cl_b {n : Bool} : Cl (.bool n) := fun _ _ => frz_b
theorem cl_s {n : ByteArray} : Cl (.str n) := fun _ _ => frz_s
theorem cl_f {n : List (List S)} : Cl (.fs n) := fun _ _ => frz_f
theorem mapO_cl {h : H} {d : Nat} : ∀ {l : List S}, (∀ s ∈ l, Cl s) → mapO (frzS h d) l = some l
  | [], _ => rfl
  | s :: l, hl => by
    have h2 : mapO (frzS h d) l = some l := mapO_cl fun s hs => hl s (List.mem_cons_of_mem _ hs)
    simp [mapO, hl s (by simp) h d, h2]
theorem flat_len {z : Nat} : ∀ {rows : List (List S)}, (∀ r ∈ rows, r.length = z) → rows.flatten.length = rows.length * z
  | [], _ => by simp
  | r :: rows, h => by
    rw [List.flatten_cons, List.length_append, h r (by simp), flat_len fun r hr => h r (by simp [hr]), List.length_cons, Nat.succ_mul]; omega
theorem chunk_rows {z : Nat} : ∀ {rows : List (List S)}, (∀ r ∈ rows, r.length = z) → chunk z rows.length rows.flatten = rows
  | [], _ => rfl
  | r :: rows, h => by
    have hr := h r (by simp)
    have ih := chunk_rows (rows := rows) fun r hr => h r (by simp [hr])
    unfold chunk at ih ⊢
    rw [List.length_cons, List.range_succ_eq_map, List.map_cons, List.map_map]
    congr 1
    · simp [← hr]
    · conv => rhs; rw [← ih]
      refine List.map_congr_left fun i _ => ?_
      simp only [Function.comp_apply, List.flatten_cons]
      rw [Nat.succ_mul, Nat.add_comm, ← List.drop_drop, ← hr, List.drop_left]
theorem frzS_sl {h : H} {b z d : Nat} {rows : List (List S)} (hb : b < h.n) (hz0 : 0 < z) (hg : h.g b = .rw z rows.flatten) (hz : ∀ r ∈ rows, r.length = z) (hc : ∀ r ∈ rows, ∀ s ∈ r, Cl s) : frzS h (d + 1) (.sl (some (b, 0)) rows.length) = some (.fs rows) := by
  simp only [frzS]
  split
  · rename_i h0; rw [List.eq_nil_of_length_eq_zero h0]
  · have hl := flat_len hz
    simp only [hb, if_true, hg]
    rw [if_pos ⟨hz0, by omega⟩, List.drop_zero, List.take_of_length_le (by omega), mapO_cl (fun s hs => by
      obtain ⟨r, h1, h2⟩ := List.mem_flatten.1 hs
      exact hc r h1 s h2)]
    simp [chunk_rows hz]
theorem frzV_sv {h : H} {b z : Nat} {rows : List (List S)} (hb : b < h.n) (hz0 : 0 < z) (hg : h.g b = .rw z rows.flatten) (hz : ∀ r ∈ rows, r.length = z) (hc : ∀ r ∈ rows, ∀ s ∈ r, Cl s) : frzV h (sv b 0 rows.length) = some (lv rows) := by
  rw [frzV_s, frzS_sl hb hz0 hg hz hc]; rfl
theorem mkSl_of {z n : Nat} {zero : List S} {h : H} (hn : n ≤ lim) (hz0 : 0 < z) (hz : zero.length = z) {k1 k2 : IntKind} : mkSl z zero h (iv k1 (n : Int)) (iv k2 (n : Int)) = some (sv h.n 0 n, h.new z ((List.replicate n zero).flatten)) := by
  simp only [mkSl]
  rw [if_pos ⟨by omega, trivial, by omega, hz0, hz⟩]
  simp
theorem repl_len {n z : Nat} {zero : List S} (hz : zero.length = z) : ((List.replicate n zero).flatten).length = n * z := by
  rw [flat_len (z := z) (fun r hr => by rw [List.eq_of_mem_replicate hr, hz])]; simp
/-- a loop over rows that fills a slice -/
theorem fill_rows {z n b : Nat} {rows : List (List S)} {L : Int → H → Option LOut} {fin : List V} (hn : rows.length = n) (hr : ∀ r ∈ rows, r.length = z)
    (hstep : ∀ (i : Nat) (h : H) (r : List S), rows[i]? = some r → i < n → b < h.n → ∃ v l, VRow v r ∧ L i h = stK z h (pv b (i * z)) v fun h' => L ((i + 1 : Nat) : Int) (tidy h l h'))
    (hend : ∀ h, L n h = some (.done fin h)) (h : H) (cs : List S) (hb : b < h.n) (hg : h.g b = .rw z cs) (hl : cs.length = n * z) :
      ∃ h', L 0 h = some (.done fin h') ∧ h'.n = h.n ∧ h'.g b = .rw z rows.flatten ∧ ∀ c, c ≠ b → h'.g c = h.g c ∧ h'.v c = h.v c := by
  have hT : ∀ i, i < n → rows[i]? = some (rows.getD i []) := fun i hi => by rw [List.getD, List.getElem?_eq_getElem (by omega)]; rfl
  obtain ⟨h', g1, g2, g3, g4⟩ := fill_loop (z := z) (n := n) (b := b) (T := fun i => rows.getD i []) (L := L) (fin := fin) (fun i hi => hr _ (List.mem_of_getElem? (hT i hi)))
    (fun i h hi hb => hstep i h _ (hT i hi) hi hb) hend n 0 h cs (by omega) hb (by simpa using hg) hl
  refine ⟨h', g1, g2, ?_, g4⟩
  rw [g3]
  congr 2
  refine List.ext_getElem? fun i => ?_
  by_cases hi : i < n
  · rw [List.getElem?_map, List.getElem?_range hi, hT i hi]; rfl
  · rw [List.getElem?_eq_none (by simp; omega), List.getElem?_eq_none (by omega)]
end Vm
/-
  Bytes: as frozen slices, and as slices that are one's own.
-/
namespace Vm
open Go

def cell8 (c : UInt8) : S := .int .u8 c.toNat
/-- bytes as rows -/
def bys (l : List UInt8) : List (List S) := l.map fun c => [cell8 c]
/-- the byte at a place, as a number -/
def bt (l : List UInt8) (i : Int) : Int := ((l.getD i.toNat 0).toNat : Int)
theorem bt_nn (l : List UInt8) (i : Int) : 0 ≤ bt l i := by unfold bt; omega
theorem bt_lt (l : List UInt8) (i : Int) : bt l i < 256 := by
  unfold bt
  have := (l.getD i.toNat 0).toNat_lt
  omega
@[simp] theorem bys_len (l : List UInt8) : (bys l).length = l.length := by simp [bys]
theorem bys_row {l : List UInt8} : ∀ r ∈ bys l, r.length = 1 := by
  intro r hr
  obtain ⟨c, _, rfl⟩ := List.mem_map.1 hr
  rfl
theorem bys_cl {l : List UInt8} : ∀ r ∈ bys l, ∀ s ∈ r, Cl s := by
  intro r hr s hs
  obtain ⟨c, _, rfl⟩ := List.mem_map.1 hr
  rw [List.mem_singleton.1 hs]
  exact cl_i
theorem bys_flat (l : List UInt8) : (bys l).flatten = l.map cell8 := by
  induction l with
  | nil => rfl
  | cons c l ih => simp only [bys, List.map_cons, List.flatten_cons, List.singleton_append] at ih ⊢; rw [ih]
theorem bys_get {l : List UInt8} {i : Nat} (h : i < l.length) : (bys l)[i]? = some [.int .u8 (bt l i)] := by
  simp [bys, h, cell8, bt]
theorem bys_take (l : List UInt8) (n : Nat) : (bys l).take n = bys (l.take n) := by simp [bys, List.map_take]
theorem bys_drop (l : List UInt8) (n : Nat) : (bys l).drop n = bys (l.drop n) := by simp [bys, List.map_drop]
theorem bys_app (l m : List UInt8) : bys (l ++ m) = bys l ++ bys m := by simp [bys]
section
variable {R : Type}
/-- reading a byte -/
theorem idxF_by {l : List UInt8} {i : Int} {k : List S → Option R} (h0 : 0 ≤ i) (h1 : i < l.length) : idxF 1 (bys l) i k = k [.int .u8 (bt l i)] := by
  obtain ⟨n, rfl⟩ : ∃ n : Nat, i = n := ⟨i.toNat, by omega⟩
  exact idxF_at (bys_get (by omega)) rfl
theorem idxF_out {z : Nat} {rows : List (List S)} {i : Int} {k : List S → Option R} (h : ¬ (0 ≤ i ∧ i < rows.length)) : idxF z rows i k = none := by
  unfold idxF; rw [if_neg h]
theorem bnd_of {y n : Nat} {kd : IntKind} (h : n ≤ y) : bnd y (iv kd (n : Int)) = some n := by
  simp only [bnd]; rw [if_pos ⟨by omega, by omega⟩]; simp
theorem slF_lo {l : List UInt8} {a : Nat} {kd : IntKind} {k : List (List S) → Option R} (h : a ≤ l.length) : slF 1 (bys l) (some (iv kd (a : Int))) none k = k (bys (l.drop a)) := by
  unfold slF
  simp only [bys_len, Option.bind_some, bnd_of h, if_pos (show ∀ r ∈ bys l, r.length = 1 from bys_row)]
  rw [show l.length = (bys l).length from (bys_len l).symm, List.take_length, bys_drop]
theorem slF_hi {l : List UInt8} {b : Nat} {kd : IntKind} {k : List (List S) → Option R} (h : b ≤ l.length) : slF 1 (bys l) none (some (iv kd (b : Int))) k = k (bys (l.take b)) := by
  unfold slF
  simp only [bys_len, Option.bind_some, bnd_of h, if_pos (show ∀ r ∈ bys l, r.length = 1 from bys_row)]
  rw [bys_take, List.drop_zero]
theorem slF_lh {l : List UInt8} {a b : Nat} {kd kd' : IntKind} {k : List (List S) → Option R} (h : a ≤ b) (h2 : b ≤ l.length) : slF 1 (bys l) (some (iv kd (a : Int))) (some (iv kd' (b : Int))) k = k (bys ((l.take b).drop a)) := by
  unfold slF
  simp only [bys_len, Option.bind_some, bnd_of h, bnd_of h2, if_pos (show ∀ r ∈ bys l, r.length = 1 from bys_row)]
  rw [bys_take, bys_drop]
end
theorem bytesS_map (l : List UInt8) : bytesS (l.map cell8) = some l := by
  induction l with
  | nil => rfl
  | cons c l ih =>
    have := c.toNat_lt
    simp only [List.map_cons, cell8, bytesS] at ih ⊢
    rw [ih, Option.bind_some, if_pos ⟨by omega, by omega⟩]
    simp
theorem fsStr_by {l : List UInt8} (h : l.length ≤ lim) : fsStr (bys l) = some (.s (.str ⟨l.toArray⟩)) := by
  unfold fsStr
  rw [if_pos bys_row, Option.bind_some, bys_flat, bytesS_map, Option.bind_some, bys_len, if_pos h]

/-- a slice that holds all of a block's bytes, and may be written -/
structure BysW (h : H) (v : V) (l : List UInt8) (b : Nat) : Prop where
  v : v = sv b 0 l.length
  n : b < h.n
  g : h.g b = .rw 1 (l.map cell8)
theorem BysW.newly (h : H) (l : List UInt8) : BysW (h.new 1 (l.map cell8)) (sv h.n 0 l.length) l h.n := ⟨rfl, by simp, by simp⟩
theorem BysW.frz {h : H} {v : V} {l : List UInt8} {b d : Nat} (w : BysW h v l b) : v = sv b 0 l.length ∧ frzS h (d + 1) (.sl (some (b, 0)) l.length) = some (.fs (bys l)) := by
  refine ⟨w.v, ?_⟩
  have := frzS_sl (h := h) (b := b) (z := 1) (d := d) (rows := bys l) w.n (by omega) (by rw [bys_flat]; exact w.g) bys_row bys_cl
  rwa [bys_len] at this
/-- bytes that are one's own: none at all, or a block -/
def Own (h : H) (v : V) (l : List UInt8) : Option Nat → Prop
  | none => v = .s (.sl none 0) ∧ l = []
  | some b => BysW h v l b
theorem Own.frz {h : H} {v : V} {l : List UInt8} {ob : Option Nat} {d : Nat} (w : Own h v l ob) : ∃ s, v = .s s ∧ frzS h (d + 1) s = some (.fs (bys l)) := by
  cases ob with
  | none => obtain ⟨rfl, rfl⟩ := w; exact ⟨_, rfl, frz_n⟩
  | some b => obtain ⟨h1, h2⟩ := BysW.frz (d := d) w; exact ⟨_, h1, h2⟩
theorem BysW.set {R : Type} {h : H} {n : Nat} {l : List UInt8} {b i : Nat} {c : UInt8} {x : Int} {k : H → Option R} (w : BysW h (sv b 0 n) l b) (hi : i < l.length) (hx : x = (c.toNat : Int)) : stK 1 h (pv b (i * 1)) (iv .u8 x) k = k (h.put b (.rw 1 ((l.set i c).map cell8))) := by
  subst hx
  rw [stK_rw (z := 1) (e := 1) (o := i * 1) (v := iv .u8 c.toNat) (cs := l.map cell8) (r := [cell8 c]) w.n w.g (.inl ⟨_, rfl, rfl, rfl⟩) rfl (by simp; omega)]
  congr 3
  unfold setAt
  rw [List.map_set, List.set_eq_take_append_cons_drop, if_pos (by simp; omega)]
  simp
theorem BysW.set_w {h : H} {n : Nat} {l : List UInt8} {b i : Nat} {c : UInt8} (w : BysW h (sv b 0 n) l b) : BysW (h.put b (.rw 1 ((l.set i c).map cell8))) (sv b 0 n) (l.set i c) b := by
  refine ⟨?_, w.n, put_g _ _ _⟩
  rw [w.v, List.length_set]
theorem BysW.len {h : H} {n : Nat} {l : List UInt8} {b : Nat} (w : BysW h (sv b 0 n) l b) : n = l.length := by
  have := w.v
  injection this with h1
  injection h1
theorem BysW.get {R : Type} {h : H} {n : Nat} {l : List UInt8} {b i : Nat} {ti : TI} {k : V → Option R} (w : BysW h (sv b 0 n) l b) (hi : i < l.length) (hz : ti.agg = false) : ldK (.one (.i .u8)) ti h (pv b (i * 1)) k = k (iv .u8 (bt l i)) := by
  have : load1 h (pv b (i * 1)) = some (.int .u8 (bt l i)) := by
    simp [load1, H.cells, w.n, w.g, Blk.cells, hi, cell8, bt]
  simp only [ldK, ldT, hz, cond_false, this, Option.bind_some]
theorem bt_ext {l m : List UInt8} (hl : l.length = m.length) (h : ∀ i : Nat, i < l.length → bt l i = bt m i) : l = m := by
  refine List.ext_getElem hl fun i h1 h2 => ?_
  have := h i h1
  simp only [bt, Int.toNat_natCast, List.getD, List.getElem?_eq_getElem h1, List.getElem?_eq_getElem h2, Option.getD_some] at this
  exact UInt8.toNat_inj.1 (by omega)
end Vm
/-
  What the laws' helpers on bytes come to: a copy, a comparison, marks written and found again.
-/
namespace Vm
open Go

theorem p_eqByteS {l m : List UInt8} (hl : l.length ≤ maxLen) : pureV (call Ev) Fn.laws_eqByteS [lv (bys l), lv (bys m)] = some (bv (decide (l = m))) := by
  unfold maxLen at hl
  rw [pu_laws_eqByteS, vcase_b, bys_len, bys_len]
  by_cases hlm : l.length = m.length
  case neg =>
    rw [if_pos (by simp; omega)]
    rw [show decide (l = m) = false from by simp; intro e; exact hlm (by rw [e])]
  rw [if_neg (by simp [hlm])]
  have loop : ∀ (k i : Nat), i + k = l.length → (∀ j : Nat, j < i → bt l j = bt m j) → Lp.laws_eqByteS 0 [lv (bys l), lv (bys m), iv .i64 i] (D 0) = some (if l = m then .done [] (D 0) else .ret (bv false) (D 0)) := by
    intro k
    induction k with
    | zero =>
      intro i hi hj
      rw [eq_laws_eqByteS_l0, vcase_b, if_neg (by simp; omega), if_pos (bt_ext hlm fun j hjl => hj j (by omega)), tidy_self]
    | succ k ih =>
      intro i hi hj
      rw [eq_laws_eqByteS_l0, vcase_b, if_pos (by simp; omega), idxF_by (by omega) (by omega)]
      simp only [List.getElem?_cons_zero, Option.bind_some, gI_i]
      rw [idxF_by (by omega) (by omega)]
      simp only [List.getElem?_cons_zero, Option.bind_some, gI_i]
      rw [vcase_b]
      by_cases hb : bt l i = bt m i
      · rw [if_neg (by simpa using hb), w64 (by omega) (by omega), show (i : Int) + 1 = ((i + 1 : Nat) : Int) from by omega, tidy_self]
        refine ih (i + 1) (by omega) fun j hji => ?_
        by_cases hje : j = i
        · subst hje; exact hb
        · exact hj j (by omega)
      · rw [if_pos (by simpa using hb), if_neg (fun e => hb (by rw [e]))]
  rw [show iv .i64 0 = iv .i64 ((0 : Nat) : Int) from rfl, loop l.length 0 (by omega) (fun j hj => by omega)]
  by_cases he : l = m <;> simp [he]

def marks (k : Nat) (n : Nat) : List UInt8 := (List.range n).map fun i => UInt8.ofNat ((k + i) % 256)
theorem marks_len (k n : Nat) : (marks k n).length = n := by simp [marks]
theorem marks_get {k n i : Nat} (h : i < n) : (marks k n)[i]? = some (UInt8.ofNat ((k + i) % 256)) := by simp [marks, h]
theorem wrap8 (k : Nat) : IntKind.u8.wrap (k : Int) = ((UInt8.ofNat (k % 256)).toNat : Int) := by
  simp [IntKind.wrap, IntKind.signed, IntKind.bits]
theorem marks_bt {k n i : Nat} (h : i < n) : bt (marks k n) i = IntKind.u8.wrap ((k + i : Nat) : Int) := by
  rw [wrap8]
  simp only [bt, Int.toNat_natCast, List.getD, marks_get h, Option.getD_some]
theorem r_mark {h : H} {v : V} {l : List UInt8} {ob : Option Nat} {k : Nat} (hv : Own h v l ob) (hl : k + l.length < 2 ^ 62) :
    ∃ h', call Ev Fn.laws_markByteS [v, iv .i64 k] h = some (iv .i64 ((k + l.length : Nat) : Int), h') ∧ Own h' v (marks k l.length) ob ∧ h'.n = h.n ∧ ∀ c, ob ≠ some c → h'.g c = h.g c ∧ h'.v c = h.v c := by
  cases ob with
  | none =>
    obtain ⟨rfl, rfl⟩ := hv
    refine ⟨h, ?_, ⟨rfl, rfl⟩, rfl, fun _ _ => ⟨rfl, rfl⟩⟩
    rw [eq_laws_markByteS, eq_laws_markByteS_l0]
    simp only [lenV, Option.bind_some, gV1_s, gI_i, vcase_b]
    simp
  | some b =>
    obtain ⟨rfl, hb, hg⟩ := hv
    obtain ⟨h', e1, e2, e3, e4⟩ := fill_rows (z := 1) (n := l.length) (b := b) (rows := bys (marks k l.length)) (L := fun i h => Lp.laws_markByteS 0 [sv b 0 l.length, iv .i64 (k + i), iv .i64 i] h) (fin := [iv .i64 ((k + l.length : Nat) : Int)]) (by simp [marks_len]) bys_row
      (fun i h r hr hi hb => by
        rw [bys_get (by rw [marks_len]; exact hi), marks_bt hi] at hr; cases hr
        refine ⟨iv .u8 (IntKind.u8.wrap ((k + i : Nat) : Int)), [sv b 0 l.length, iv .i64 ((k : Int) + ((i + 1 : Nat) : Int)), iv .i64 ((i + 1 : Nat) : Int)], .inl ⟨_, rfl, rfl, rfl⟩, ?_⟩
        show Lp.laws_markByteS 0 _ h = _
        rw [eq_laws_markByteS_l0]
        simp only [lenV, Option.bind_some, gV1_s, gI_i, vcase_b]
        rw [if_pos (by simp; omega), idxK_sv hi, w64 (by omega) (by omega), w64 (by omega) (by omega), show (i : Int) + 1 = ((i + 1 : Nat) : Int) from by omega, show (k : Int) + (i : Int) + 1 = (k : Int) + ((i + 1 : Nat) : Int) from by omega]
        rfl)
      (fun h => by
        show Lp.laws_markByteS 0 _ h = _
        rw [eq_laws_markByteS_l0]
        simp only [lenV, Option.bind_some, gV1_s, gI_i, vcase_b]
        rw [if_neg (by simp), tidy_self]
        rfl) h _ hb hg (by simp)
    rw [eq_laws_markByteS]
    rw [Int.add_zero] at e1
    rw [e1]
    exact ⟨h', rfl, ⟨by rw [marks_len], by rw [e2]; exact hb, by rw [e3, bys_flat]⟩, e2, fun c hc => e4 c (by intro e; subst e; exact hc rfl)⟩
theorem p_held {k n : Nat} (hl : k + n < 2 ^ 62) : pureV (call Ev) Fn.laws_heldByteS [lv (bys (marks k n)), iv .i64 k] = some (iv .i64 ((k + n : Nat) : Int)) := by
  have hlen := marks_len k n
  have loop : ∀ (q i : Nat), i + q = n → Lp.laws_heldByteS 0 [lv (bys (marks k n)), iv .i64 ((k + i : Nat) : Int), iv .i64 i] (D 0) = some (.done [iv .i64 ((k + n : Nat) : Int)] (D 0)) := by
    intro q
    induction q with
    | zero =>
      intro i hi
      rw [eq_laws_heldByteS_l0, vcase_b, bys_len, hlen, if_neg (by simp; omega), tidy_self, show k + i = k + n from by omega]
    | succ q ih =>
      intro i hi
      rw [eq_laws_heldByteS_l0, vcase_b, bys_len, hlen, if_pos (by simp; omega), idxF_by (by omega) (by omega), marks_bt (by omega)]
      simp only [List.getElem?_cons_zero, Option.bind_some, gI_i]
      rw [vcase_b, if_neg (by simp), w64 (by omega) (by omega), w64 (by omega) (by omega), tidy_self,
          show ((k + i : Nat) : Int) + 1 = ((k + (i + 1) : Nat) : Int) from by omega, show (i : Int) + 1 = ((i + 1 : Nat) : Int) from by omega]
      exact ih (i + 1) (by omega)
  rw [pu_laws_heldByteS, show iv .i64 0 = iv .i64 ((0 : Nat) : Int) from rfl, show iv .i64 (k : Int) = iv .i64 ((k + 0 : Nat) : Int) from rfl, loop n 0 (by omega)]
  simp
end Vm
/-
  Calls with an answer that is new, and what is one's own of it.
-/
namespace Vm
open Go

theorem over_n {h h1 : H} (hn : h.n ≤ h1.n) : (h.over h1).n = h1.n := by simp only [H.over]; omega
theorem over_lt {h h1 : H} {b : Nat} (hb : b < h.n) : (h.over h1).g b = h.g b ∧ (h.over h1).v b = h.v b := by simp [H.over, hb]
theorem over_ge {h h1 : H} {b : Nat} (hb : h.n ≤ b) : (h.over h1).g b = h1.g b := by simp only [H.over]; rw [if_neg (by omega)]
/-- a heap with what was there, and more -/
structure Up (h h' : H) : Prop where
  n : h.n ≤ h'.n
  g : ∀ b, b < h.n → h'.g b = h.g b
theorem Up.refl (h : H) : Up h h := ⟨Nat.le_refl _, fun _ _ => rfl⟩
theorem Up.trans {a b c : H} (x : Up a b) (y : Up b c) : Up a c := ⟨Nat.le_trans x.n y.n, fun i hi => (y.g i (Nat.lt_of_lt_of_le hi x.n)).trans (x.g i hi)⟩
theorem up_over {h h1 : H} (hn : h.n ≤ h1.n) : Up h (h.over h1) := ⟨by rw [over_n hn]; exact hn, fun b hb => (over_lt hb).1⟩
theorem up_new {h : H} {e : Nat} {cs : List S} : Up h (h.new e cs) := ⟨by simp, fun b hb => new_g' (by omega)⟩
theorem Own.up {h h' : H} (u : Up h h') {v : V} {l : List UInt8} {ob : Option Nat} (x : Own h v l ob) : Own h' v l ob := by
  cases ob with
  | none => exact x
  | some b => exact ⟨x.v, Nat.lt_of_lt_of_le x.n u.n, by rw [u.g b x.n]; exact x.g⟩
/-- all but one block as it was -/
structure But (b : Option Nat) (h h' : H) : Prop where
  n : h'.n = h.n
  g : ∀ c, b ≠ some c → h'.g c = h.g c
theorem Own.but {h h' : H} {o : Option Nat} (u : But o h h') {v : V} {l : List UInt8} {ob : Option Nat} (x : Own h v l ob) (hne : ∀ b, ob = some b → o ≠ some b) : Own h' v l ob := by
  cases ob with
  | none => exact x
  | some b => exact ⟨x.v, by rw [u.n]; exact x.n, by rw [u.g b (hne b rfl)]; exact x.g⟩
theorem tidy_same {h h' : H} {l : List V} (hn : h'.n = h.n) (hg : ∀ c, h.n ≤ c → h'.g c = h.g c ∧ h'.v c = h.v c) : tidy h l h' = h' := by
  unfold tidy
  split
  · obtain ⟨n', g', v'⟩ := h'
    simp only at hn
    subst hn
    simp only [H.mk.injEq, true_and]
    constructor <;> (funext b; split <;> first | rfl | (have := hg b (by omega); simp_all))
  · rfl
/-- cells that lead nowhere, once they are frozen -/
theorem nofz_of {n : Nat} {v : V} {h : H} (h1 : scaV v = true) (h2 : ∀ b, n ≤ b → b < h.n → ∀ s ∈ (h.g b).cells, scaS s = true) : NoFz n (v, h) := ⟨h1, h2⟩
theorem pF {R : Type} {cl : Nat → List V → H → Option (V × H)} {g : Nat} {off : Bool} {xs : List V} {h h1 : H} {v : V} {k : V → H → Option R} (hc : cl g xs (D h.n) = some (v, h1)) (hz : NoFz h.n (v, h1)) : pcallF cl g off xs h k = k v (h.over h1) := by
  unfold pcallF
  rw [hc, ob]
  unfold fchk
  rw [if_pos (.inr hz.1)]
  have e : h.over (scrub h.n h1) = h.over h1 := by
    unfold H.over scrub
    simp only [H.mk.injEq, true_and, and_true]
    funext b
    by_cases hb : b < h.n
    · rw [if_pos hb, if_pos hb]
    · rw [if_neg hb, if_neg hb, if_neg]
      rintro ⟨h2, h3, h4⟩
      have : ((h1.g b).cells.all scaS) = true := List.all_eq_true.2 (hz.2 b h2 h3)
      rw [this] at h4; cases h4
  cases off with
  | true => rfl
  | false => dsimp only [cond_false]; rw [e]
theorem loadN_rw {n e b o : Nat} {h : H} {cs : List S} (hb : b < h.n) (hg : h.g b = .rw e cs) (ho : o + n ≤ cs.length) : loadN n h (pv b o) = some ((cs.drop o).take n) := by
  simp only [loadN, H.cells, hb, if_true, hg, Blk.cells, true_and]
  rw [if_pos ho]
theorem loadN_2 {e b : Nat} {h : H} {x y : S} (hb : b < h.n) (hg : h.g b = .rw e [x, y]) : loadN 2 h (pv b 0) = some [x, y] := loadN_rw hb hg (by simp)
/-- a pair stored into a new block -/
theorem st2_new {R : Type} {h : H} {x y a b : S} {k : H → Option R} : stK 2 (h.new 0 [a, b]) (pv h.n 0) (.agg [x, y]) k = k ((h.new 0 [a, b]).put h.n (.rw 0 [x, y])) :=
  stK_rw (z := 2) (e := 0) (o := 0) (b := h.n) (cs := [a, b]) (r := [x, y]) (by simp) (new_g _ _ _) (.inr rfl) rfl (by simp)
theorem up_st {h : H} {e e' : Nat} {cs cs' : List S} : Up h ((h.new e cs).put h.n (.rw e' cs')) := ⟨by simp, fun b hb => by rw [put_g' (by omega), new_g' (by omega)]⟩
theorem g_st {h : H} {e e' : Nat} {cs cs' : List S} : ((h.new e cs).put h.n (.rw e' cs')).g h.n = .rw e' cs' := put_g _ _ _
theorem n_st {h : H} {e e' : Nat} {cs cs' : List S} : ((h.new e cs).put h.n (.rw e' cs')).n = h.n + 1 := by simp
/-- a result of a code and bytes: its two cells -/
def Own2 (h : H) (c : Int) (y : S) (l : List UInt8) (ob : Option Nat) : Prop := Own h (.s y) l ob
theorem frz2 {h : H} {c : Int} {y : S} {l : List UInt8} {ob : Option Nat} (w : Own h (.s y) l ob) : frzV h (.agg [.int .i64 c, y]) = some (.agg [.int .i64 c, .fs (bys l)]) := by
  obtain ⟨s, h1, h2⟩ := w.frz (d := 7)
  cases h1
  simp [h2]
theorem frz1 {h : H} {v : V} {l : List UInt8} {ob : Option Nat} (w : Own h v l ob) : frzV h v = some (lv (bys l)) := by
  obtain ⟨s, rfl, h2⟩ := w.frz (d := 7)
  simp [h2]
theorem frzVs_nil {h : H} : frzVs h [] = some [] := id rfl
theorem frzVs_cons {h : H} {v w : V} {vs ws : List V} (h1 : frzV h v = some w) (h2 : frzVs h vs = some ws) : frzVs h (v :: vs) = some (w :: ws) := by simp [frzVs, h1, h2]
theorem frzV_iv {h : H} {k : IntKind} {n : Int} : frzV h (iv k n) = some (iv k n) := by simp
theorem frzV_lv {h : H} {l : List (List S)} : frzV h (lv l) = some (lv l) := by simp
theorem frzV_agf {h : H} {c : Int} {l : List (List S)} : frzV h (.agg [.int .i64 c, .fs l]) = some (.agg [.int .i64 c, .fs l]) := by simp
theorem norm_nil {l : List V} : normVs [] l = l := by cases l <;> rfl
/-- what a function that answers with new bytes comes to: on a heap of which nothing is left -/
structure NewB (n : Nat) (h : H) (v : V) (l : List UInt8) (ob : Option Nat) : Prop where
  own : Own h v l ob
  le : n ≤ h.n
  new : ∀ b, ob = some b → n ≤ b
  z : ∀ b, n ≤ b → b < h.n → ∀ s ∈ (h.g b).cells, scaS s = true
theorem Own.sca {h : H} {y : S} {l : List UInt8} {ob : Option Nat} (w : Own h (.s y) l ob) : scaS y = true := by
  cases ob with
  | none => obtain ⟨h1, _⟩ := w; cases h1; rfl
  | some b => have := w.v; cases this; rfl
end Vm
/-
  A copy of bytes, as a call whose answer is new.
-/
namespace Vm
open Go

/-- an answer of new bytes that lie in a block -/
structure NewA (n : Nat) (h : H) (v : V) (l : List UInt8) : Prop where
  own : BysW h v l n
  le : h.n = n + 1
theorem NewA.nofz {n : Nat} {h : H} {v : V} {l : List UInt8} (w : NewA n h v l) : NoFz n (v, h) := by
  refine nofz_of ?_ fun b h1 h2 s hs => ?_
  · rw [w.own.v]; rfl
  · have : b = n := by have := w.le; omega
    subst this
    rw [w.own.g] at hs
    obtain ⟨c, _, rfl⟩ := List.mem_map.1 hs
    rfl
theorem f_toByteS {l : List UInt8} (hl : l.length ≤ lim) (n : Nat) : ∃ v h', call Ev Fn.laws_toByteS [lv (bys l)] (D n) = some (v, h') ∧ NewA n h' v l := by
  have hl' := hl
  unfold lim at hl'
  rw [eq_laws_toByteS, bys_len, mkSl_of (z := 1) (zero := [.int .u8 0]) hl (by omega) rfl, ob]
  obtain ⟨h', e1, e2, e3, e4⟩ := fill_rows (z := 1) (n := l.length) (b := n) (rows := bys l) (L := fun i h => Lp.laws_toByteS 0 [lv (bys l), sv n 0 l.length, iv .i64 i] h) (fin := [sv n 0 l.length]) (by simp) bys_row
    (fun i h r hr hi hb => by
      rw [bys_get hi] at hr; cases hr
      refine ⟨iv .u8 (bt l i), [lv (bys l), sv n 0 l.length, iv .i64 ((i + 1 : Nat) : Int)], .inl ⟨_, rfl, rfl, rfl⟩, ?_⟩
      show Lp.laws_toByteS 0 _ h = _
      rw [eq_laws_toByteS_l0, vcase_b, if_pos (by simp; omega), idxF_by (by omega) (by omega)]
      simp only [gx0, ob, gI_i]
      rw [idxK_sv hi, w64 (by omega) (by omega), show (i : Int) + 1 = ((i + 1 : Nat) : Int) from by omega])
    (fun h => by
      show Lp.laws_toByteS 0 _ h = _
      rw [eq_laws_toByteS_l0, vcase_b, if_neg (by simp), tidy_self])
    ((D n).new 1 ((List.replicate l.length [.int .u8 0]).flatten)) _ (by simp) (by exact new_g (D n) _ _) (repl_len rfl)
  rw [D_n, e1]
  simp only [ob, lcase_done, gx0]
  exact ⟨_, _, rfl, ⟨rfl, by rw [e2]; simp, by rw [e3, bys_flat]⟩, by rw [e2]; simp⟩
theorem p_toByteS {l : List UInt8} (hl : l.length ≤ lim) : pureV (call Ev) Fn.laws_toByteS [lv (bys l)] = some (lv (bys l)) := by
  obtain ⟨v, h', e, w⟩ := f_toByteS hl 0
  unfold pureV
  rw [e, ob, frz1 (ob := some 0) w.own]
end Vm
/-
  Bytes that came in.
-/
namespace Vm
open Go

theorem rows8 {P : Program} {m : Nat} {e : TypeId} (he : P.underlying e = some (.int .u8)) : ∀ rows : List (List S), (∀ r ∈ rows, r.length = P.cellsOf e ∧ Rp P m e r) → ∃ l : List UInt8, rows = bys l
  | [], _ => ⟨[], rfl⟩
  | r :: rows, hr => by
    obtain ⟨l, h1⟩ := rows8 he rows fun r hm => hr r (by simp [hm])
    obtain ⟨n, h3, h4⟩ := (hr r (by simp)).2.int he
    have hb := wf8 h4
    refine ⟨UInt8.ofNat n.toNat :: l, ?_⟩
    have : cell8 (UInt8.ofNat n.toNat) = .int .u8 n := by
      unfold cell8
      congr 1
      simp
      omega
    rw [h1, h3]
    simp only [bys, List.map_cons, this]
theorem bys_of {P : Program} {n : Nat} {t e : TypeId} {s : S} (ht : P.underlying t = some (.slice e)) (he : P.underlying e = some (.int .u8)) (hr : Rp P n t [s]) : ∃ l, s = .fs (bys l) ∧ l.length ≤ maxLen := by
  obtain ⟨m, rows, h1, h2, h3⟩ := hr.slice ht
  obtain ⟨l, rfl⟩ := rows8 he rows h3
  cases h1
  exact ⟨l, rfl, by simpa using h2⟩
theorem rp_Bytes {n : Nat} {s : S} (hr : Rp PR n T.S_uint8 [s]) : ∃ l, s = .fs (bys l) ∧ l.length ≤ maxLen := bys_of und_S_uint8 und_uint8 hr
theorem arg_Bytes {x : V} (hr : ArgRp PR T.S_uint8 x) : ∃ l, x = lv (bys l) ∧ l.length ≤ maxLen := by
  obtain ⟨s, n, rfl, h1⟩ := hr.slice und_S_uint8
  obtain ⟨l, rfl, h2⟩ := rp_Bytes h1
  exact ⟨l, rfl, h2⟩
theorem arg_u8 {x : V} (hr : ArgRp PR T.uint8 x) : ∃ c : UInt8, x = iv .u8 c.toNat := by
  obtain ⟨n, rfl, h⟩ := hr.int und_uint8
  have := wf8 h
  exact ⟨UInt8.ofNat n.toNat, by congr 2; simp; omega⟩
end Vm
/-
  Runs: their fault, their size, a comparison.
-/
namespace Vm
open Go

structure RunD where
  at_ : Int
  l : List UInt8
abbrev RunD.cs (r : RunD) : List S := [.int .i64 r.at_, .fs (bys r.l)]
def runs (rs : List RunD) : List (List S) := rs.map RunD.cs
@[simp] theorem runs_len (rs : List RunD) : (runs rs).length = rs.length := by simp [runs]
theorem runs_row {rs : List RunD} : ∀ r ∈ runs rs, r.length = 2 := by
  intro r hr
  obtain ⟨c, _, rfl⟩ := List.mem_map.1 hr
  rfl
theorem runs_cl {rs : List RunD} : ∀ r ∈ runs rs, ∀ s ∈ r, Cl s := by
  intro r hr s hs
  obtain ⟨c, _, rfl⟩ := List.mem_map.1 hr
  rcases List.mem_cons.1 hs with rfl | hs
  · exact cl_i
  · rw [List.mem_singleton.1 hs]; exact cl_f
theorem runs_get {rs : List RunD} {i : Nat} {r : RunD} (h : rs[i]? = some r) : (runs rs)[i]? = some r.cs := by simp [runs, h]
section
variable {R : Type}
theorem idxF_run {rs : List RunD} {i : Nat} {r : RunD} {k : List S → Option R} (h : rs[i]? = some r) : idxF 2 (runs rs) (i : Int) k = k r.cs := idxF_at (runs_get h) rfl
end
theorem rowN_run {r : RunD} : rowN 2 r.cs 0 = some r.cs := rowN_all rfl
structure RunD.ok (r : RunD) : Prop where
  a1 : -9223372036854775808 ≤ r.at_
  a2 : r.at_ < 9223372036854775808
  n : r.l.length ≤ maxLen
theorem rp_Run {n : Nat} {xs : List S} (hr : Rp PR n T.laws_Run xs) : ∃ r : RunD, xs = r.cs ∧ r.ok := by
  obtain ⟨m, hf⟩ := hr.st und_laws_Run
  obtain ⟨a0, b0, rfl, h0, a1, b1, rfl, h1, rfl⟩ := hf
  obtain ⟨x0, rfl, w0⟩ := h0.int und_int64
  obtain ⟨m', rows, rfl, w1, w2⟩ := h1.slice und_S_uint8
  obtain ⟨l, rfl⟩ := rows8 und_uint8 rows w2
  exact ⟨⟨x0, l⟩, rfl, (wf64 w0).1, (wf64 w0).2, by simpa using w1⟩
theorem rows_Run {m : Nat} : ∀ rows : List (List S), (∀ r ∈ rows, r.length = PR.cellsOf T.laws_Run ∧ Rp PR m T.laws_Run r) → ∃ rs : List RunD, rows = runs rs ∧ ∀ r ∈ rs, r.ok
  | [], _ => ⟨[], rfl, by simp⟩
  | r :: rows, hr => by
    obtain ⟨rs, h1, h2⟩ := rows_Run rows fun r hm => hr r (by simp [hm])
    obtain ⟨a, h3, h4⟩ := rp_Run (hr r (by simp)).2
    refine ⟨a :: rs, by rw [h1, h3]; rfl, fun x hx => ?_⟩
    rcases List.mem_cons.1 hx with rfl | hx
    · exact h4
    · exact h2 x hx
theorem arg_Runs {x : V} (hr : ArgRp PR T.S_laws_Run x) : ∃ rs : List RunD, x = lv (runs rs) ∧ (∀ r ∈ rs, r.ok) ∧ rs.length ≤ maxLen := by
  obtain ⟨s, n, rfl, h1⟩ := hr.slice und_S_laws_Run
  obtain ⟨m, rows, h1, h2, h3⟩ := h1.slice und_S_laws_Run
  cases h1
  obtain ⟨rs, rfl, h4⟩ := rows_Run rows h3
  exact ⟨rs, rfl, h4, by simpa using h2⟩

/-! size -/
/-- what is left of a number of cells, or -1 -/
def szL (n : Int) (left : Int) : Int := if n ≤ left then left - n else -1
def szRuns : List RunD → Int → Int
  | [], left => left
  | r :: rs, left => if (r.l.length : Int) ≤ left then szRuns rs (left - r.l.length) else -1
theorem szRuns_le : ∀ (rs : List RunD) (left : Int), 0 ≤ left → szRuns rs left ≤ left ∧ -1 ≤ szRuns rs left
  | [], left, h => ⟨Int.le_refl _, by simp only [szRuns]; omega⟩
  | r :: rs, left, h => by
    simp only [szRuns]
    split
    · have := szRuns_le rs (left - r.l.length) (by omega); omega
    · omega
theorem szRuns_all : ∀ (rs : List RunD) (left : Int), 0 ≤ szRuns rs left → ∀ r ∈ rs, (r.l.length : Int) ≤ left
  | [], left, h => by simp
  | r :: rs, left, h => by
    simp only [szRuns] at h
    split at h
    · intro x hx
      rcases List.mem_cons.1 hx with rfl | hx
      · assumption
      · have := szRuns_all rs _ h x hx; omega
    · omega
theorem p_szByteS {l : List UInt8} {left : Int} (h1 : 0 ≤ left) (h2 : left < 9223372036854775808) (hl : l.length ≤ maxLen) : pureV (call Ev) Fn.laws_szByteS [lv (bys l), iv .i64 left] = some (iv .i64 (szL l.length left)) := by
  unfold maxLen at hl
  rw [pu_laws_szByteS, vcase_b, bys_len, w64 (by omega) (by omega)]
  unfold szL
  simp only [decide_eq_true_eq]
  split <;> split <;> first | rfl | omega
theorem p_szRun (r : RunD) {left : Int} (h1 : 0 ≤ left) (h2 : left < 9223372036854775808) (hl : r.l.length ≤ maxLen) : pureV (call Ev) Fn.laws_szRun [.agg r.cs, iv .i64 left] = some (iv .i64 (szL r.l.length left)) := by
  rw [pu_laws_szRun, pc (p_szByteS h1 h2 hl) rfl]
  simp only [gV1_s, gI_i, vcase_b, decide_eq_true_eq]
  unfold szL
  split <;> split <;> first | rfl | omega
theorem p_szRunS {all : List RunD} {left : Int} (h1 : 0 ≤ left) (h2 : left < 9223372036854775808) (hl : all.length ≤ maxLen) (hr : ∀ r ∈ all, r.l.length ≤ maxLen) : pureV (call Ev) Fn.laws_szRunS [lv (runs all), iv .i64 left] = some (iv .i64 (if (all.length : Int) ≤ left then szRuns all (left - all.length) else -1)) := by
  unfold maxLen at hl
  have loop : ∀ (rs : List RunD) (i : Nat) (q : Int), all.drop i = rs → 0 ≤ q → q < 9223372036854775808 →
      (Lp.laws_szRunS 0 [lv (runs all), iv .i64 q, iv .i64 i] (D 0)).bind (fun o102 => lcase o102 (fun l103 h104 =>
        (l103[0]?).bind fun w107 =>
        gV1 w107 fun x108 =>
        gI .i64 x108 fun i109 =>
        some (iv .i64 i109)) (fun v105 h106 =>
        frzV h106 v105)) = some (iv .i64 (szRuns rs q)) := by
    intro rs
    induction rs with
    | nil =>
      intro i q hi h1 h2
      have := drop_nil hi
      rw [eq_laws_szRunS_l0, vcase_b, if_neg (by simp; omega), tidy_self, ob, lcase_done]
      simp only [gx0, ob, gV1_s, gI_i, szRuns]
    | cons r rs ih =>
      intro i q hi h1 h2
      obtain ⟨g1, g2, g3⟩ := drop_cons hi
      rw [eq_laws_szRunS_l0, vcase_b, if_pos (by simp; omega), idxF_run g1, rowN_run]
      simp only [ob, gx0, gx1, gI_i, gF_f, ln0, ln1, Nat.zero_add, Nat.reduceAdd, if_true]
      rw [pc (p_szRun r h1 h2 (hr r (List.mem_of_getElem? g1))) rfl]
      simp only [gV1_s, gI_i, vcase_b, decide_eq_true_eq, szRuns, szL]
      by_cases hle : (r.l.length : Int) ≤ q
      · rw [if_pos hle, if_neg (by omega), w64 (by omega) (by omega), tidy_self, show (i : Int) + 1 = ((i + 1 : Nat) : Int) from by omega, if_pos hle]
        exact ih (i + 1) _ g2 (by omega) (by omega)
      · rw [if_neg hle, if_pos (by omega), if_neg hle]; rfl
  rw [pu_laws_szRunS, vcase_b, runs_len, w64 (by omega) (by omega)]
  by_cases hq : (all.length : Int) ≤ left
  · rw [if_neg (by simp; omega), if_pos hq]
    exact loop all 0 _ rfl (by omega) (by omega)
  · rw [if_pos (by simp; omega), if_neg hq]

/-! a comparison -/
theorem p_eqRun (r : RunD) (hl : r.l.length ≤ maxLen) : pureV (call Ev) Fn.laws_eqRun [.agg r.cs, .agg r.cs] = some (bv true) := by
  rw [pu_laws_eqRun, vcase_b, if_neg (by simp), pc (p_eqByteS hl) rfl]
  simp
theorem p_eqRunS {all : List RunD} (hl : all.length ≤ maxLen) (hr : ∀ r ∈ all, r.l.length ≤ maxLen) : pureV (call Ev) Fn.laws_eqRunS [lv (runs all), lv (runs all)] = some (bv true) := by
  unfold maxLen at hl
  have loop : ∀ (rs : List RunD) (i : Nat), all.drop i = rs → Lp.laws_eqRunS 0 [lv (runs all), lv (runs all), iv .i64 i] (D 0) = some (.done [] (D 0)) := by
    intro rs
    induction rs with
    | nil =>
      intro i hi
      have := drop_nil hi
      rw [eq_laws_eqRunS_l0, vcase_b, if_neg (by simp; omega), tidy_self]
    | cons r rs ih =>
      intro i hi
      obtain ⟨g1, g2, g3⟩ := drop_cons hi
      rw [eq_laws_eqRunS_l0, vcase_b, if_pos (by simp; omega), idxF_run g1, rowN_run]
      simp only [ob, gx0, gx1, gI_i, gF_f, ln0, ln1, Nat.zero_add, Nat.reduceAdd, if_true]
      rw [idxF_run g1, rowN_run]
      simp only [ob, gx0, gx1, gI_i, gF_f, ln0, ln1, Nat.zero_add, Nat.reduceAdd, if_true]
      rw [pc (p_eqRun r (hr r (List.mem_of_getElem? g1))) rfl]
      simp only [gV1_s, gB_b, hchk_self, vcase_b, Bool.not_true, Bool.false_eq_true, if_false]
      rw [w64 (by omega) (by omega), tidy_self, show (i : Int) + 1 = ((i + 1 : Nat) : Int) from by omega]
      exact ih (i + 1) g2
  rw [pu_laws_eqRunS, vcase_b, if_neg (by simp), show iv .i64 0 = iv .i64 ((0 : Nat) : Int) from rfl, loop all 0 rfl]
  simp

/-! the fault -/
def runsG : Int → List RunD → Int
  | _, [] => 0
  | least, r :: rs => if inB r.at_ 0 63 && inB r.l.length 1 64 && decide (r.at_ + r.l.length ≤ 64) then (if r.at_ < least then 1 else runsG (r.at_ + r.l.length + 1) rs) else 3
def runsF (rs : List RunD) : Int := if 64 < rs.length then 2 else runsG 0 rs
theorem p_RunsFault {all : List RunD} (hl : all.length ≤ maxLen) : pureV (call Ev) Fn.impl_RunsFault [lv (runs all)] = some (iv .i64 (runsF all)) := by
  unfold maxLen at hl
  have loop : ∀ (rs : List RunD) (i : Nat) (q : Int), all.drop i = rs →
      (Lp.impl_RunsFault 0 [iv .i64 q, lv (runs all), iv .i64 all.length, iv .i64 i] (D 0)).bind (fun o102 => lcase o102 (fun l103 h104 => some (iv .i64 0)) (fun v105 h106 => frzV h106 v105)) = some (iv .i64 (runsG q rs)) := by
    intro rs
    induction rs with
    | nil =>
      intro i q hi
      have := drop_nil hi
      rw [eq_impl_RunsFault_l0, vcase_b, if_neg (by simp; omega), tidy_self]
      simp [runsG]
    | cons r rs ih =>
      intro i q hi
      obtain ⟨g1, g2, g3⟩ := drop_cons hi
      rw [eq_impl_RunsFault_l0, vcase_b, if_pos (by simp; omega), idxF_run g1, rowN_run]
      simp only [ob, gx0, gx1, gI_i, gF_f, ln0, ln1, Nat.zero_add, Nat.reduceAdd, if_true]
      rw [stK_rw (z := 2) (e := 0) (o := 0) (b := (D 0).n) (cs := [.int .i64 0, .sl none 0]) (r := r.cs) (by simp) (new_g _ _ _) (.inr rfl) rfl (by simp)]
      have l0 : ∀ {X : List S}, load1 (((D 0).new 0 [.int .i64 0, .sl none 0]).put (D 0).n (.rw 0 X)) (pv (D 0).n 0) = X[0]? := fun {X} => by simp [load1, H.cells, Blk.cells]
      have l1 : ∀ {X : List S}, load1 (((D 0).new 0 [.int .i64 0, .sl none 0]).put (D 0).n (.rw 0 X)) (pv (D 0).n 1) = X[1]? := fun {X} => by simp [load1, H.cells, Blk.cells]
      have se : setAt [.int .i64 0, .sl none 0] 0 r.cs = r.cs := id rfl
      rw [se]
      simp only [l0, l1, gx0, gx1, ob, lenV, gV1_s, gI_i, bys_len]
      rw [pc (p_in _ _ _) rfl]
      simp only [gV1_s, gB_b, vcase_b]
      unfold runsG
      cases hA : inB r.at_ 0 63
      · simp
      simp only [Bool.not_true, Bool.false_eq_true, if_false, Bool.true_and]
      rw [pc (p_in _ _ _) rfl]
      simp only [gV1_s, gB_b, vcase_b]
      cases hB : inB r.l.length 1 64
      · simp
      simp only [Bool.not_true, Bool.false_eq_true, if_false, Bool.true_and]
      have hA' := inB_iff.1 hA
      have hB' := inB_iff.1 hB
      rw [w64 (n := r.at_ + (r.l.length : Int)) (by omega) (by omega)]
      by_cases h64 : r.at_ + (r.l.length : Int) ≤ 64
      case neg => rw [if_pos (by simp; omega)]; simp [h64]
      rw [if_neg (by simp; omega)]
      by_cases hq : r.at_ < q
      · rw [if_pos (by simpa using hq)]; simp [h64, hq]
      rw [if_neg (by simpa using hq), w64 (by omega) (by omega), w64 (by omega) (by omega), tidy_ext ((HKeep.refl _).new.put (by simp)) (by simp [belV, belS]), show (i : Int) + 1 = ((i + 1 : Nat) : Int) from by omega, ih (i + 1) _ g2]
      simp [h64, hq]
  rw [pu_impl_RunsFault, vcase_b, runs_len]
  unfold runsF
  by_cases h64 : 64 < all.length
  · rw [if_pos (by simp; omega), if_pos h64]
  · rw [if_neg (by simp; omega), if_neg h64]
    exact loop all 0 0 rfl
theorem p_l3Fault {all : List RunD} (hl : all.length ≤ maxLen) : pureV (call Ev) Fn.spec_l3Fault [lv (runs all)] = some (iv .i64 (runsF all)) := by
  unfold maxLen at hl
  have loop : ∀ (rs : List RunD) (i : Nat) (q : Int), all.drop i = rs → (i = 0 ∧ q = 0 ∨ 0 < i ∧ ∃ p : RunD, all[i - 1]? = some p ∧ q = p.at_ + p.l.length + 1 ∧ 0 ≤ p.at_ ∧ p.at_ + p.l.length ≤ 64) →
      (Lp.spec_l3Fault 0 [lv (runs all), iv .i64 i] (D 0)).bind (fun o102 => lcase o102 (fun l103 h104 => some (iv .i64 0)) (fun v105 h106 => frzV h106 v105)) = some (iv .i64 (runsG q rs)) := by
    intro rs
    induction rs with
    | nil =>
      intro i q hi _
      have := drop_nil hi
      rw [eq_spec_l3Fault_l0, vcase_b, if_neg (by simp; omega), tidy_self]
      simp [runsG]
    | cons r rs ih =>
      intro i q hi hprev
      obtain ⟨g1, g2, g3⟩ := drop_cons hi
      rw [eq_spec_l3Fault_l0, vcase_b, if_pos (by simp; omega), idxF_run g1]
      simp only [gx0, gx1, ob, gI_i, gF_f, bys_len]
      rw [idxF_run g1]
      simp only [gx0, gx1, ob, gI_i, gF_f, bys_len]
      rw [pc (p_l1In _ _ _) rfl]
      simp only [gV1_s, gB_b, vcase_b]
      unfold runsG
      cases hA : inB r.at_ 0 63
      · simp
      simp only [Bool.not_true, Bool.false_eq_true, if_false, Bool.true_and]
      rw [pc (p_l1In _ _ _) rfl]
      simp only [gV1_s, gB_b, vcase_b]
      cases hB : inB r.l.length 1 64
      · simp
      simp only [Bool.not_true, Bool.false_eq_true, if_false, Bool.true_and]
      have hA' := inB_iff.1 hA
      have hB' := inB_iff.1 hB
      rw [idxF_run g1]
      simp only [gx0, gx1, ob, gI_i, gF_f, bys_len]
      rw [w64 (n := r.at_ + (r.l.length : Int)) (by omega) (by omega)]
      by_cases h64 : r.at_ + (r.l.length : Int) ≤ 64
      case neg => rw [if_pos (by simp; omega)]; simp [h64]
      rw [if_neg (by simp; omega)]
      have hnext := ih (i + 1) (r.at_ + r.l.length + 1) g2 (.inr ⟨by omega, r, by simpa using g1, rfl, hA'.1, h64⟩)
      rw [w64 (n := (i : Int) + 1) (by omega) (by omega), tidy_self, show (i : Int) + 1 = ((i + 1 : Nat) : Int) from by omega]
      rcases hprev with ⟨rfl, rfl⟩ | ⟨hpos, p, g4, rfl, p1, p2⟩
      · rw [if_neg (by simp), hnext]
        simp [h64, show ¬ r.at_ < 0 by omega]
      · rw [if_pos (by simp; omega), w64 (n := (i : Int) - 1) (by omega) (by omega), idxF_run g1, show (i : Int) - 1 = ((i - 1 : Nat) : Int) from by omega]
        simp only [gx0, gx1, ob, gI_i, gF_f, bys_len]
        rw [idxF_run g4]
        simp only [gx0, gx1, ob, gI_i, gF_f, bys_len]
        rw [idxF_run g4]
        simp only [gx0, gx1, ob, gI_i, gF_f, bys_len]
        rw [w64 (by omega) (by omega)]
        by_cases hq : r.at_ ≤ p.at_ + p.l.length
        · rw [if_pos (by simpa using hq)]; simp [h64, show r.at_ < p.at_ + p.l.length + 1 by omega]
        · rw [if_neg (by simpa using hq), hnext]; simp [h64, show ¬ r.at_ < p.at_ + p.l.length + 1 by omega]
  rw [pu_spec_l3Fault, vcase_b, runs_len]
  unfold runsF
  by_cases h64 : 64 < all.length
  · rw [if_pos (by simp; omega), if_pos h64]
  · rw [if_neg (by simp; omega), if_neg h64]
    exact loop all 0 0 rfl (.inl ⟨rfl, rfl⟩)
def inR (r : RunD) : Prop := 0 ≤ r.at_ ∧ r.at_ + r.l.length ≤ 64 ∧ 1 ≤ r.l.length
theorem runsG_ok : ∀ (rs : List RunD) (q : Int), runsG q rs = 0 → ∀ r ∈ rs, inR r
  | [], q, h => by simp
  | r :: rs, q, h => by
    unfold runsG at h
    split at h
    · rename_i hc
      simp only [Bool.and_eq_true, decide_eq_true_eq] at hc
      have h1 := inB_iff.1 hc.1.1
      have h2 := inB_iff.1 hc.1.2
      split at h
      · omega
      · intro x hx
        rcases List.mem_cons.1 hx with rfl | hx
        · exact ⟨h1.1, hc.2, by omega⟩
        · exact runsG_ok rs _ h x hx
    · omega
theorem runsF_ok {rs : List RunD} (h : runsF rs = 0) : rs.length ≤ 64 ∧ ∀ r ∈ rs, inR r := by
  unfold runsF at h
  split at h
  · omega
  · exact ⟨by omega, runsG_ok rs 0 h⟩
end Vm
/-
  Records: their fault.
-/
namespace Vm
open Go
structure RecD where
  kind : Int
  tx : Int
  page : Int
  rs : List RunD
abbrev RecD.cs (r : RecD) : List S := [.int .i64 r.kind, .int .i64 r.tx, .int .i64 r.page, .fs (runs r.rs)]
structure RecD.ok (r : RecD) : Prop where
  k1 : -9223372036854775808 ≤ r.kind
  k2 : r.kind < 9223372036854775808
  t1 : -9223372036854775808 ≤ r.tx
  t2 : r.tx < 9223372036854775808
  p1 : -9223372036854775808 ≤ r.page
  p2 : r.page < 9223372036854775808
  r1 : ∀ x ∈ r.rs, x.ok
  r2 : r.rs.length ≤ maxLen
theorem rp_Rec {n : Nat} {xs : List S} (hr : Rp PR n T.laws_Record xs) : ∃ r : RecD, xs = r.cs ∧ r.ok := by
  obtain ⟨m, hf⟩ := hr.st und_laws_Record
  obtain ⟨a0, b0, rfl, h0, a1, b1, rfl, h1, a2, b2, rfl, h2, a3, b3, rfl, h3, rfl⟩ := hf
  obtain ⟨x0, rfl, w0⟩ := h0.int und_int64
  obtain ⟨x1, rfl, w1⟩ := h1.int und_int64
  obtain ⟨x2, rfl, w2⟩ := h2.int und_int64
  obtain ⟨m', rows, rfl, w3, w4⟩ := h3.slice und_S_laws_Run
  obtain ⟨rs, rfl, h4⟩ := rows_Run rows w4
  exact ⟨⟨x0, x1, x2, rs⟩, rfl, (wf64 w0).1, (wf64 w0).2, (wf64 w1).1, (wf64 w1).2, (wf64 w2).1, (wf64 w2).2, h4, by simpa using w3⟩
theorem arg_Rec {x : V} (hr : ArgRp PR T.laws_Record x) : ∃ r : RecD, x = .agg r.cs ∧ r.ok := by
  obtain ⟨cs, n, rfl, h1⟩ := hr.st und_laws_Record
  obtain ⟨r, rfl, h2⟩ := rp_Rec h1
  exact ⟨r, rfl, h2⟩
/-- the fault of the runs of a record of a kind -/
def recG (k : Int) (rs : List RunD) : Int :=
  if inB k 2 4 = false then 0 else if runsF rs ≠ 0 then runsF rs else match rs with
    | [] => 1
    | r :: _ => if k = 4 ∧ r.l.length ≠ 64 then 1 else 0
def recF (r : RecD) : Int :=
  if inB r.kind 1 6 = false then 1 else if inB r.kind 2 4 = false ∧ (r.page ≠ 0 ∨ r.rs ≠ []) then 1 else if r.kind = 4 ∧ r.tx ≠ 0 then 1 else
  if r.kind ≠ 4 ∧ inB r.tx 1 99 = false then 3 else if inB r.page 0 11 = false then 3 else recG r.kind r.rs
theorem p_turns (k : Int) : pureV (call Ev) Fn.impl_turns [iv .i64 k] = some (bv (inB k 2 4)) := by
  rw [pu_impl_turns, vcase_b, vcase_b]
  by_cases h2 : k = 2
  · subst h2; rfl
  rw [if_neg (by simpa using h2)]
  by_cases h3 : k = 3
  · subst h3; rfl
  rw [if_neg (by simpa using h3)]
  by_cases h4 : k = 4
  · subst h4; rfl
  have : inB k 2 4 = false := by
    cases h : inB k 2 4
    · rfl
    · have := inB_iff.1 h; omega
  rw [this]; simp [h4]
theorem p_l4Runs (k : Int) : pureV (call Ev) Fn.spec_l4Runs [iv .i64 k] = some (bv (inB k 2 4)) := by
  rw [pu_spec_l4Runs, pc (p_l1In _ _ _) rfl]; simp
theorem p_isTx (k : Int) : pureV (call Ev) Fn.impl_isTx [iv .i64 k] = some (bv (inB k 1 99)) := by
  rw [pu_impl_isTx, pc (p_in _ _ _) rfl]; simp
theorem runsF_first {r x : RunD} {rs : List RunD} (h : runsF (r :: x :: rs) = 0) : r.l.length ≠ 64 := by
  unfold runsF at h
  split at h
  · omega
  unfold runsG at h
  split at h
  · rename_i hc
    split at h
    · omega
    unfold runsG at h
    split at h
    · rename_i hc2
      simp only [Bool.and_eq_true, decide_eq_true_eq] at hc hc2
      have h1 := inB_iff.1 hc.1.1
      have h2 := inB_iff.1 hc2.1.1
      split at h
      · omega
      · omega
    · omega
  · omega
section
variable {k t p : Int} {rs : List RunD} (hl : rs.length ≤ maxLen)
theorem recG_0 (hk : inB k 2 4 = false) : recG k rs = 0 := by unfold recG; rw [if_pos hk]
theorem recG_f (hk : inB k 2 4 = true) (hf : ¬ runsF rs = 0) : recG k rs = runsF rs := by unfold recG; rw [if_neg (by simp [hk]), if_pos hf]
theorem recG_nil (hk : inB k 2 4 = true) : recG k [] = 1 := by unfold recG; rw [if_neg (by simp [hk]), if_neg (by decide)]
theorem recG_cons {r : RunD} (hk : inB k 2 4 = true) (hf : runsF (r :: rs) = 0) : recG k (r :: rs) = if k = 4 ∧ r.l.length ≠ 64 then 1 else 0 := by unfold recG; rw [if_neg (by simp [hk]), if_neg (by simp [hf])]
include hl
theorem J_Rec0 (h2 : inB k 2 4 = false → rs = []) : Jn.impl_RecordFault_0 false (runs rs) k = some (iv .i64 (recG k rs)) := by
  unfold Jn.impl_RecordFault_0
  rw [vcase_b, if_neg (by simp), pc (p_RunsFault hl) rfl]
  simp only [gV1_s, gI_i, vcase_b, runs_len]
  cases hk : inB k 2 4
  · have h4 : ¬ k = 4 := fun hh => by subst hh; exact absurd hk (by decide)
    have h5 := h2 hk
    subst h5
    rw [recG_0 hk, if_neg (by decide), pc (p_turns k) rfl]
    simp only [gV1_s, gB_b, vcase_b, hk]
    rw [if_neg (by simp), if_neg (by simpa using h4)]
  by_cases hf : runsF rs = 0
  case neg => rw [recG_f hk hf, if_pos (by simpa using hf)]
  rw [if_neg (by simp [hf]), pc (p_turns k) rfl]
  simp only [gV1_s, gB_b, vcase_b, hk, if_true]
  match rs with
  | [] => rw [recG_nil hk]; rfl
  | r :: rs =>
    rw [recG_cons hk hf, if_neg (by simp; omega)]
    by_cases h4 : k = 4
    · rw [if_pos (by simpa using h4)]
      match rs with
      | [] =>
        rw [if_neg (by simp), show (0 : Int) = ((0 : Nat) : Int) from rfl, idxF_run (r := r) (by simp)]
        simp only [gx0, gx1, ob, gF_f, vcase_b, bys_len]
        by_cases h5 : r.l.length = 64
        · rw [if_neg (by simp; omega), if_neg (fun hh => hh.2 h5)]
        · rw [if_pos (by simp; omega), if_pos ⟨h4, h5⟩]
      | x :: rs =>
        rw [if_pos (by simp; omega), if_pos ⟨h4, runsF_first hf⟩]
    · rw [if_neg (by simpa using h4), if_neg (fun hh => h4 hh.1)]
theorem J_Rec1 {q : Bool} (h2 : inB k 2 4 = false → rs = []) : Jn.impl_RecordFault_1 q p (runs rs) k = some (iv .i64 (if q = true then 3 else if inB p 0 11 = false then 3 else recG k rs)) := by
  unfold Jn.impl_RecordFault_1
  rw [vcase_b]
  cases q
  · rw [if_neg (by simp), pc (p_in _ _ _) rfl]
    simp only [gV1_s, gB_b]
    cases hp : inB p 0 11
    · unfold Jn.impl_RecordFault_0
      simp
    · rw [show (!true) = false from rfl, J_Rec0 hl h2]; simp
  · unfold Jn.impl_RecordFault_0
    simp
theorem J_l4 {q : Bool} (h2 : inB k 2 4 = false → rs = []) : Jn.spec_l4Fault_0 q p k (runs rs) = some (iv .i64 (if q = true then 3 else if inB p 0 11 = false then 3 else recG k rs)) := by
  unfold Jn.spec_l4Fault_0
  rw [vcase_b]
  cases q
  case true => simp
  rw [if_neg (by simp), pc (p_l1In _ _ _) rfl]
  simp only [gV1_s, gB_b, vcase_b]
  cases hp : inB p 0 11
  · simp
  have e : (if false = true then (3 : Int) else if true = false then 3 else recG k rs) = recG k rs := by simp
  rw [e, if_neg (by simp), pc (p_l4Runs k) rfl]
  simp only [gV1_s, gB_b, vcase_b]
  cases hk : inB k 2 4
  · rw [recG_0 hk]; rfl
  rw [if_neg (by simp), pc (p_l3Fault hl) rfl]
  simp only [gV1_s, gI_i, vcase_b, runs_len]
  by_cases hf : runsF rs = 0
  case neg => rw [recG_f hk hf, if_pos (by simpa using hf)]
  rw [if_neg (by simp [hf])]
  match rs with
  | [] => rw [recG_nil hk]; rfl
  | r :: rs =>
    rw [recG_cons hk hf, if_neg (by simp; omega)]
    by_cases h4 : k = 4
    · rw [if_pos (by simpa using h4), show (0 : Int) = ((0 : Nat) : Int) from rfl, idxF_run (r := r) (by simp)]
      simp only [gx0, gx1, ob, gF_f, vcase_b, bys_len]
      by_cases h5 : r.l.length = 64
      · rw [if_neg (by simp; omega), if_neg (fun hh => hh.2 h5)]
      · rw [if_pos (by simp; omega), if_pos ⟨h4, h5⟩]
    · rw [if_neg (by simpa using h4), if_neg (fun hh => h4 hh.1)]
end
theorem p_RecordFault (r : RecD) (hl : r.rs.length ≤ maxLen) : pureV (call Ev) Fn.impl_RecordFault [.agg r.cs] = some (iv .i64 (recF r)) := by
  obtain ⟨k, t, p, rs⟩ := r
  rw [pu_impl_RecordFault, pc (p_in _ _ _) rfl]
  simp only [gV1_s, gB_b, vcase_b]
  cases h1 : inB k 1 6
  · simp [recF, h1]
  rw [if_neg (by simp), pc (p_turns k) rfl]
  simp only [gV1_s, gB_b, vcase_b, runs_len]
  cases h2 : inB k 2 4
  · have h4 : ¬ k = 4 := fun hh => by subst hh; exact absurd h2 (by decide)
    rw [if_pos (by simp)]
    by_cases hp : p = 0
    case neg =>
      rw [show recF ⟨k, t, p, rs⟩ = 1 from by simp [recF, h1, h2, hp], if_pos (by simpa using hp)]
    rw [if_neg (by simpa using hp)]
    by_cases hr : rs = []
    case neg =>
      have : 0 < rs.length := List.length_pos_iff.2 hr
      rw [show recF ⟨k, t, p, rs⟩ = 1 from by simp [recF, h1, h2, hr], if_pos (by simp; omega)]
    have e : recF ⟨k, t, p, rs⟩ = if inB t 1 99 = false then 3 else if inB p 0 11 = false then 3 else recG k rs := by simp [recF, h1, h2, hr, hp, h4]
    rw [e, if_neg (by simp [hr]), if_neg (by simpa using h4), if_pos (by simpa using h4), pc (p_isTx t) rfl]
    simp only [gV1_s, gB_b]
    rw [J_Rec1 hl (fun _ => hr)]
    cases h5 : inB t 1 99 <;> simp
  · rw [if_neg (by simp)]
    by_cases h4 : k = 4
    · rw [if_pos (by simpa using h4)]
      by_cases ht : t = 0
      · have e : recF ⟨k, t, p, rs⟩ = if inB p 0 11 = false then 3 else recG k rs := by subst h4; subst ht; simp [recF, show inB 4 1 6 = true from rfl, show inB 4 2 4 = true from rfl]
        rw [e, if_neg (by simpa using ht), if_neg (by simpa using h4), J_Rec1 hl (by simp [h2])]
        simp
      · rw [show recF ⟨k, t, p, rs⟩ = 1 from by simp [recF, h1, h2, h4, ht], if_pos (by simpa using ht)]
    · have e : recF ⟨k, t, p, rs⟩ = if inB t 1 99 = false then 3 else if inB p 0 11 = false then 3 else recG k rs := by simp [recF, h1, h2, h4]
      rw [e, if_neg (by simpa using h4), if_pos (by simpa using h4), pc (p_isTx t) rfl]
      simp only [gV1_s, gB_b]
      rw [J_Rec1 hl (by simp [h2])]
      cases h5 : inB t 1 99 <;> simp
theorem p_l4Fault (r : RecD) (hl : r.rs.length ≤ maxLen) : pureV (call Ev) Fn.spec_l4Fault [fv r.cs 0] = some (iv .i64 (recF r)) := by
  obtain ⟨k, t, p, rs⟩ := r
  rw [pu_spec_l4Fault, pc (p_l1In _ _ _) rfl]
  simp only [gV1_s, gB_b, vcase_b]
  cases h1 : inB k 1 6
  · simp [recF, h1]
  rw [if_neg (by simp), pc (p_l4Runs k) rfl]
  simp only [gV1_s, gB_b, vcase_b, runs_len]
  cases h2 : inB k 2 4
  · have h4 : ¬ k = 4 := fun hh => by subst hh; exact absurd h2 (by decide)
    rw [if_pos (by simp)]
    by_cases hp : p = 0
    case neg =>
      rw [show recF ⟨k, t, p, rs⟩ = 1 from by simp [recF, h1, h2, hp], if_pos (by simpa using hp)]
    rw [if_neg (by simpa using hp)]
    by_cases hr : rs = []
    case neg =>
      have : 0 < rs.length := List.length_pos_iff.2 hr
      rw [show recF ⟨k, t, p, rs⟩ = 1 from by simp [recF, h1, h2, hr], if_pos (by simp; omega)]
    have e : recF ⟨k, t, p, rs⟩ = if inB t 1 99 = false then 3 else if inB p 0 11 = false then 3 else recG k rs := by simp [recF, h1, h2, hr, hp, h4]
    rw [e, if_neg (by simp [hr]), if_neg (by simpa using h4), if_pos (by simpa using h4), pc (p_l1In _ _ _) rfl]
    simp only [gV1_s, gB_b]
    rw [J_l4 hl (fun _ => hr)]
    cases h5 : inB t 1 99 <;> simp
  · rw [if_neg (by simp)]
    by_cases h4 : k = 4
    · rw [if_pos (by simpa using h4)]
      by_cases ht : t = 0
      · have e : recF ⟨k, t, p, rs⟩ = if inB p 0 11 = false then 3 else recG k rs := by subst h4; subst ht; simp [recF, show inB 4 1 6 = true from rfl, show inB 4 2 4 = true from rfl]
        rw [e, if_neg (by simpa using ht), if_neg (by simpa using h4), J_l4 hl (by simp [h2])]
        simp
      · rw [show recF ⟨k, t, p, rs⟩ = 1 from by simp [recF, h1, h2, h4, ht], if_pos (by simpa using ht)]
    · have e : recF ⟨k, t, p, rs⟩ = if inB t 1 99 = false then 3 else if inB p 0 11 = false then 3 else recG k rs := by simp [recF, h1, h2, h4]
      rw [e, if_neg (by simpa using h4), if_pos (by simpa using h4), pc (p_l1In _ _ _) rfl]
      simp only [gV1_s, gB_b]
      rw [J_l4 hl (by simp [h2])]
      cases h5 : inB t 1 99 <;> simp
theorem p_spec_RecordFault (r : RecD) (hl : r.rs.length ≤ maxLen) : pureV (call Ev) Fn.spec_RecordFault [.agg r.cs] = some (iv .i64 (recF r)) := by
  rw [pu_spec_RecordFault, pc (p_l4Fault r hl) rfl]; simp
theorem p_szRecord (r : RecD) (hr : r.ok) {left : Int} (h1 : 0 ≤ left) (h2 : left < 9223372036854775808) : pureV (call Ev) Fn.laws_szRecord [.agg r.cs, iv .i64 left] = some (iv .i64 (if (r.rs.length : Int) ≤ left then szRuns r.rs (left - r.rs.length) else -1)) := by
  rw [pu_laws_szRecord, pc (p_szRunS h1 h2 hr.r2 fun x hx => (hr.r1 x hx).n) rfl]
  have hz : -1 ≤ (if (r.rs.length : Int) ≤ left then szRuns r.rs (left - r.rs.length) else -1) := by
    by_cases hle : (r.rs.length : Int) ≤ left
    · rw [if_pos hle]; exact (szRuns_le r.rs (left - r.rs.length) (by omega)).2
    · rw [if_neg hle]; omega
  generalize (if (r.rs.length : Int) ≤ left then szRuns r.rs (left - r.rs.length) else -1) = z at hz ⊢
  simp only [gV1_s, gI_i, vcase_b, decide_eq_true_eq]
  by_cases h : z < 0
  · rw [if_pos h, show z = -1 from by omega]
  · rw [if_neg h]
theorem p_eqRecord (r : RecD) (hl : r.rs.length ≤ maxLen) (hr : ∀ x ∈ r.rs, x.l.length ≤ maxLen) : pureV (call Ev) Fn.laws_eqRecord [.agg r.cs, .agg r.cs] = some (bv true) := by
  rw [pu_laws_eqRecord]
  simp only [vcase_b, bne_self_eq_false, Bool.false_eq_true, if_false]
  rw [pc (p_eqRunS hl hr) rfl]
  simp
end Vm
/-
  Bytes appended and copied; results of a code and bytes: compared, marked, found again.
-/
namespace Vm
open Go

theorem cellsS_by {h : H} {m : List UInt8} : cellsS 1 h (lv (bys m)) = some (m.map cell8) := by
  simp only [cellsS, if_pos (show ∀ r ∈ bys m, r.length = 1 from bys_row), bys_flat]
theorem cellsS_w {h : H} {v : V} {l : List UInt8} {b : Nat} (w : BysW h v l b) : cellsS 1 h v = some (l.map cell8) := by
  have hc : h.cells b = l.map cell8 := by unfold H.cells; rw [if_pos w.n, w.g]; rfl
  rw [w.v]
  simp only [cellsS, hc]
  rw [if_pos ⟨w.n, by simp⟩, List.drop_zero, List.take_of_length_le (by simp)]
/-- bytes behind bytes that are one's own -/
theorem app_by {h : H} {v : V} {l m : List UInt8} {b : Nat} (w : BysW h v l b) (hm : l.length + m.length ≤ lim) :
    appS 1 h v (lv (bys m)) = some (sv h.n 0 (l ++ m).length, (h.put b .dead).new 1 ((l ++ m).map cell8)) := by
  have h1 := cellsS_w w
  obtain ⟨rfl, w2, w3⟩ := w
  simp only [appS, h1, cellsS_by, Option.bind_some, lenS, bys_len]
  rw [if_pos ⟨w2, hm, by omega⟩, w3]
  simp
theorem app_own {h : H} {l m : List UInt8} {b : Nat} : BysW ((h.put b .dead).new 1 ((l ++ m).map cell8)) (sv h.n 0 (l ++ m).length) (l ++ m) h.n := ⟨rfl, by simp, new_g (h.put b .dead) _ _⟩
/-- the copy of bytes that begins with nothing -/
theorem app_nil {h : H} {m : List UInt8} (hm : m.length ≤ lim) : appS 1 (h.new 1 []) (sv h.n 0 0) (lv (bys m)) = some (sv (h.n + 1) 0 m.length, ((h.new 1 []).put h.n .dead).new 1 (m.map cell8)) := by
  have := app_by (h := h.new 1 []) (v := sv h.n 0 0) (l := []) (m := m) (b := h.n) ⟨rfl, by simp, by simp⟩ (by simpa using hm)
  simpa using this
theorem f_copied {m : List UInt8} (hm : m.length ≤ lim) (n : Nat) : ∃ v h', call Ev Fn.impl_copied [lv (bys m)] (D n) = some (v, h') ∧ NewB n h' v m (some (n + 1)) ∧ h'.n = n + 2 := by
  rw [eq_impl_copied, app_nil hm, ob]
  refine ⟨_, _, rfl, ⟨⟨rfl, by simp, ?_⟩, by simp; omega, fun b hb => by cases hb; omega, fun b h1 h2 s hs => ?_⟩, by simp⟩
  · exact new_g (((D n).new 1 []).put n .dead) _ _
  · have h3 : b = n ∨ b = n + 1 := by simp at h2; omega
    rcases h3 with rfl | rfl
    · rw [new_g' (by simp)] at hs
      simp [Blk.cells] at hs
    · have e : ((((D n).new 1 []).put (D n).n .dead).new 1 (m.map cell8)).g (n + 1) = .rw 1 (m.map cell8) := new_g (((D n).new 1 []).put n .dead) _ _
      dsimp only at hs
      rw [e] at hs
      obtain ⟨c, _, rfl⟩ := List.mem_map.1 hs
      rfl

theorem p_eqBR {c c' : Int} {l m : List UInt8} (hl : l.length ≤ maxLen) : pureV (call Ev) Fn.laws_eqBytesResult [.agg [.int .i64 c, .fs (bys l)], .agg [.int .i64 c', .fs (bys m)]] = some (bv (decide (c = c') && decide (l = m))) := by
  rw [pu_laws_eqBytesResult, vcase_b, pc (p_eqByteS hl) rfl]
  by_cases h1 : c = c' <;> by_cases h2 : l = m <;> simp [h1, h2]
theorem p_heldBR {c : Int} {k n : Nat} (hl : k + n < 2 ^ 62) : pureV (call Ev) Fn.laws_heldBytesResult [.agg [.int .i64 c, .fs (bys (marks k n))], iv .i64 k] = some (iv .i64 ((k + n : Nat) : Int)) := by
  rw [pu_laws_heldBytesResult, pc (p_held hl) rfl]
  simp only [gV1_s, gI_i, vcase_b]
  rw [if_neg (by simp; omega)]
theorem tidy_but {h h' : H} {o : Option Nat} {n : Int} (hn : h.n ≤ h'.n) (hg : ∀ c, c < h.n → o ≠ some c → h'.g c = h.g c ∧ h'.v c = h.v c) (hc : ∀ b, o = some b → (h'.g b).cells.all (belS h.n) = true) :
    (tidy h [iv .i64 n] h').n = h.n ∧ ∀ c, c < h.n → (tidy h [iv .i64 n] h').g c = h'.g c := by
  unfold tidy
  rw [if_pos]
  · exact ⟨rfl, fun c hc => by simp [hc]⟩
  · refine ⟨hn, by simp [belV, belS], fun b hb => ?_⟩
    by_cases ho : o = some b
    · exact .inr (hc b ho)
    · exact .inl (hg b hb ho)
theorem cell8_bel {n : Nat} (l : List UInt8) : (l.map cell8).all (belS n) = true := by
  rw [List.all_eq_true]
  intro s hs
  obtain ⟨c, _, rfl⟩ := List.mem_map.1 hs
  rfl
/-- a marked result -/
theorem r_markBR {h : H} {c : Int} {y : S} {l : List UInt8} {ob : Option Nat} {k : Nat} (hv : Own h (.s y) l ob) (hl : k + l.length < 2 ^ 62) :
    ∃ p, call Ev Fn.laws_markBytesResult [.agg [.int .i64 c, y], iv .i64 k] h = some (iv .i64 ((k + l.length : Nat) : Int), p) ∧ Own (tidy h [iv .i64 ((k + l.length : Nat) : Int)] p) (.s y) (marks k l.length) ob ∧ But ob h (tidy h [iv .i64 ((k + l.length : Nat) : Int)] p) := by
  have u : Up h (h.new 0 [.int .i64 c, y]) := up_new
  obtain ⟨h', e1, e2, e3, e4⟩ := r_mark (k := k) (hv.up u) hl
  have hb : ∀ b, ob = some b → b < h.n := fun b hb => by subst hb; exact hv.n
  rw [eq_laws_markBytesResult]
  have l1 : load1 (h.new 0 [.int .i64 c, y]) (pv h.n 1) = some y := by simp [load1, H.cells, Blk.cells]
  rw [l1, Vm.ob, e1, Vm.ob]
  simp only [gV1_s, gI_i]
  have t1 : tidy (h.new 0 [.int .i64 c, y]) [iv .i64 ((k + l.length : Nat) : Int)] h' = h' := tidy_same e3 fun c hc => e4 c (fun hh => by have := hb c hh; simp at hc; omega)
  rw [t1]
  refine ⟨h', rfl, ?_⟩
  have hbel : ∀ b, ob = some b → (h'.g b).cells.all (belS h.n) = true := fun b hb => by
    subst hb
    rw [(show BysW h' (.s y) (marks k l.length) b from e2).g]
    exact cell8_bel _
  obtain ⟨t2, t3⟩ := tidy_but (n := ((k + l.length : Nat) : Int)) (h := h) (h' := h') (o := ob) (by rw [e3]; simp) (fun c hc ho => by
    have := e4 c ho
    refine ⟨this.1.trans (new_g' (by omega)), this.2⟩) hbel
  refine ⟨?_, t2, fun c hc => ?_⟩
  · cases ob with
    | none => exact e2
    | some b => exact ⟨e2.v, by rw [t2]; exact hb b rfl, by rw [t3 b (hb b rfl)]; exact e2.g⟩
  · by_cases hcn : c < h.n
    · rw [t3 c hcn, (e4 c hc).1, new_g' (by omega)]
    · unfold tidy
      split
      · simp [hcn]
      · rename_i hT
        exfalso
        refine hT ⟨by rw [e3]; simp, by simp [belV, belS], fun b hb' => ?_⟩
        by_cases ho : ob = some b
        · exact .inr (hbel b ho)
        · exact .inl ⟨(e4 b ho).1.trans (new_g' (by omega)), (e4 b ho).2⟩
end Vm
/-
  What is one's own in a stretch of blocks: kept when other blocks change.
-/
namespace Vm
open Go
/-- a fact on the blocks from lo to hi alone -/
structure Sep (Q : H → Prop) (lo hi : Nat) (h : H) : Prop where
  top : hi ≤ h.n
  q : ∀ h' : H, hi ≤ h'.n → (∀ b, lo ≤ b → b < hi → h'.g b = h.g b) → Q h'
/-- all but the blocks from lo to hi as it was -/
structure ButR (lo hi : Nat) (h h' : H) : Prop where
  n : h'.n = h.n
  g : ∀ c, (c < lo ∨ hi ≤ c) → h'.g c = h.g c
section
variable {Q : H → Prop} {lo hi : Nat} {h h' : H}
theorem Sep.now (w : Sep Q lo hi h) : Q h := w.q h w.top fun _ _ _ => rfl
theorem Sep.up (w : Sep Q lo hi h) (u : Up h h') : Sep Q lo hi h' := ⟨Nat.le_trans w.top u.n, fun h2 hn hg => w.q h2 hn fun b h1 h3 => (hg b h1 h3).trans (u.g b (by have := w.top; omega))⟩
theorem Sep.but {a b : Nat} (w : Sep Q lo hi h) (u : ButR a b h h') (hd : hi ≤ a ∨ b ≤ lo) : Sep Q lo hi h' := ⟨by rw [u.n]; exact w.top, fun h2 hn hg => w.q h2 hn fun c h1 h3 => (hg c h1 h3).trans (u.g c (by omega))⟩
theorem Sep.over {h1 : H} {hi : Nat} {n : Nat} (hn : n = h.n) (hl : h.n ≤ h1.n) (w : Sep Q n hi h1) : Sep Q n hi (h.over h1) := by
  subst hn
  exact ⟨by rw [over_n hl]; exact w.top, fun h2 hn hg => w.q h2 hn fun b h1 h3 => (hg b h1 h3).trans (over_ge h1)⟩
theorem Sep.mono {lo' hi' : Nat} (w : Sep Q lo hi h) (h1 : lo' ≤ lo) (h2 : hi ≤ hi') (h3 : hi' ≤ h.n) : Sep Q lo' hi' h := ⟨h3, fun h' hn hg => w.q h' (by omega) fun b a b' => hg b (by omega) (by omega)⟩
end
/-- what stands in one block -/
def At (b : Nat) (x : Blk) (h : H) : Prop := b < h.n ∧ h.g b = x
theorem Sep.at {h : H} {b : Nat} {x : Blk} (hb : b < h.n) (hg : h.g b = x) : Sep (At b x) b (b + 1) h := ⟨hb, fun h' hn hg' => ⟨by omega, by rw [hg' b (Nat.le_refl _) (by omega), hg]⟩⟩
/-- bytes in a stretch of blocks -/
def OwnB (v : V) (l : List UInt8) (lo hi : Nat) (h : H) : Prop := ∃ ob, Own h v l ob ∧ ∀ b, ob = some b → lo ≤ b ∧ b < hi
theorem OwnB.sep {v : V} {l : List UInt8} {lo hi : Nat} {h : H} (w : OwnB v l lo hi h) (hn : hi ≤ h.n) : Sep (OwnB v l lo hi) lo hi h := ⟨hn, fun h' hn' hg => by
  obtain ⟨ob, h1, h2⟩ := w
  refine ⟨ob, ?_, h2⟩
  cases ob with
  | none => exact h1
  | some b =>
    have := h2 b rfl
    exact ⟨h1.v, by omega, by rw [hg b this.1 this.2]; exact h1.g⟩⟩
theorem OwnB.frz {v : V} {l : List UInt8} {lo hi : Nat} {h : H} (w : OwnB v l lo hi h) : frzV h v = some (lv (bys l)) := by
  obtain ⟨ob, h1, _⟩ := w
  exact frz1 h1
/-- the answer of a call on a dead heap -/
structure NewS (Q : Nat → Nat → H → Prop) (v : V) (n : Nat) (h : H) : Prop where
  le : n ≤ h.n
  q : Sep (Q n h.n) n h.n h
  z : NoFz n (v, h)
theorem NewA.s {n : Nat} {h : H} {v : V} {l : List UInt8} (w : NewA n h v l) : NewS (OwnB v l) v n h := by
  have := w.le
  exact ⟨by omega, OwnB.sep ⟨some n, w.own, fun b hb => by cases hb; omega⟩ (Nat.le_refl _), w.nofz⟩
theorem NewB.s {n : Nat} {h : H} {v : V} {l : List UInt8} {o : Option Nat} (w : NewB n h v l o) : Sep (OwnB v l n h.n) n h.n h := by
  refine OwnB.sep ⟨o, w.own, fun b hb => ⟨w.new b hb, ?_⟩⟩ (Nat.le_refl _)
  subst hb
  exact w.own.n
/-- a call with a new answer -/
theorem pN {R : Type} {Q : Nat → Nat → H → Prop} {cl : Nat → List V → H → Option (V × H)} {g : Nat} {off : Bool} {xs : List V} {h : H} {n : Nat} {v : V} {h1 : H} {k : V → H → Option R} (hn : h.n = n) (hc : cl g xs (D n) = some (v, h1)) (w : NewS Q v n h1) :
    ∃ h', pcallF cl g off xs h k = k v h' ∧ Up h h' ∧ n ≤ h'.n ∧ Sep (Q n h'.n) n h'.n h' := by
  subst hn
  refine ⟨h.over h1, pF hc w.z, up_over w.le, ?_, ?_⟩
  · rw [over_n w.le]; exact w.le
  · have := Sep.over rfl w.le w.q
    rwa [over_n w.le]
/-- marked bytes -/
theorem OwnB.mark {h : H} {v : V} {l : List UInt8} {lo hi k : Nat} (w : Sep (OwnB v l lo hi) lo hi h) (hl : k + l.length < 2 ^ 62) :
    ∃ p, call Ev Fn.laws_markByteS [v, iv .i64 k] h = some (iv .i64 ((k + l.length : Nat) : Int), p) ∧ Sep (OwnB v (marks k l.length) lo hi) lo hi (tidy h [iv .i64 ((k + l.length : Nat) : Int)] p) ∧ ButR lo hi h (tidy h [iv .i64 ((k + l.length : Nat) : Int)] p) := by
  obtain ⟨ob, h1, h2⟩ := w.now
  obtain ⟨p, e1, e2, e3, e4⟩ := r_mark (k := k) h1 hl
  have t : tidy h [iv .i64 ((k + l.length : Nat) : Int)] p = p := tidy_same e3 fun c hc => e4 c (fun hh => by have := h2 c hh; have := w.top; omega)
  refine ⟨p, e1, ?_, ?_⟩
  · rw [t]; exact OwnB.sep ⟨ob, e2, h2⟩ (by rw [e3]; exact w.top)
  · rw [t]
    refine ⟨e3, fun c hc => (e4 c (fun hh => ?_)).1⟩
    have := h2 c hh
    omega
/-- from one block's change to a stretch's -/
theorem But.r {h h' : H} {ob : Option Nat} {lo hi : Nat} (u : But ob h h') (h2 : ∀ b, ob = some b → lo ≤ b ∧ b < hi) : ButR lo hi h h' := ⟨u.n, fun c hc => u.g c (fun hh => by have := h2 c hh; omega)⟩

/-! results of a code and bytes, and of a code, a number and bytes -/
theorem NewB.s2 {n : Nat} {h : H} {y : S} {l : List UInt8} {o : Option Nat} {c : Int} (w : NewB n h (.s y) l o) : NewS (OwnB (.s y) l) (.agg [.int .i64 c, y]) n h :=
  ⟨w.le, w.s, ⟨by simp [w.own.sca], w.z⟩⟩
theorem OwnB.frz2 {y : S} {l : List UInt8} {lo hi : Nat} {h : H} {c : Int} (w : OwnB (.s y) l lo hi h) : frzV h (.agg [.int .i64 c, y]) = some (.agg [.int .i64 c, .fs (bys l)]) := by
  obtain ⟨ob, h1, _⟩ := w
  exact Vm.frz2 h1
theorem OwnB.mark2 {h : H} {y : S} {l : List UInt8} {lo hi k : Nat} {c : Int} (w : Sep (OwnB (.s y) l lo hi) lo hi h) (hl : k + l.length < 2 ^ 62) :
    ∃ p, call Ev Fn.laws_markBytesResult [.agg [.int .i64 c, y], iv .i64 k] h = some (iv .i64 ((k + l.length : Nat) : Int), p) ∧ Sep (OwnB (.s y) (marks k l.length) lo hi) lo hi (tidy h [iv .i64 ((k + l.length : Nat) : Int)] p) ∧ ButR lo hi h (tidy h [iv .i64 ((k + l.length : Nat) : Int)] p) := by
  obtain ⟨ob, h1, h2⟩ := w.now
  obtain ⟨p, e1, e2, e3⟩ := r_markBR (c := c) (k := k) h1 hl
  exact ⟨p, e1, OwnB.sep ⟨ob, e2, h2⟩ (by rw [e3.n]; exact w.top), e3.r h2⟩
/-- the same answer, frozen -/
theorem NewS.p {Q : Nat → Nat → H → Prop} {f : Nat} {xs : List V} {h : H} {v w : V} (hc : call Ev f xs (D 0) = some (v, h)) (hq : NewS Q v 0 h) (hf : Q 0 h.n h → frzV h v = some w) : pureV (call Ev) f xs = some w := by
  unfold pureV
  rw [hc, Vm.ob, hf hq.q.now]
end Vm
/-
  Live values of any depth: what they are once frozen, and which blocks they lie in.
-/
namespace Vm
open Go
/-- a cell that leads nowhere, and is not frozen -/
def Sc : S → Prop
  | .int _ _ => True
  | .bool _ => True
  | .str _ => True
  | _ => False
theorem Sc.cl {s : S} (h : Sc s) : Cl s := by cases s <;> first | exact h.elim | exact cl_i | exact cl_b | exact cl_s
theorem Sc.sca {s : S} (h : Sc s) : scaS s = true := by cases s <;> first | exact h.elim | rfl
theorem Sc.no {s : S} (h : Sc s) : isNo s = false := by cases s <;> first | exact h.elim | rfl
inductive RepL (R : S → S → List Nat → Prop) : List S → List S → List Nat → Prop
  | nil : RepL R [] [] []
  | cons {y f : S} {bs : List Nat} {ys fs : List S} {bss : List Nat} : R y f bs → RepL R ys fs bss → RepL R (y :: ys) (f :: fs) (bs ++ bss)
def Rep (h : H) : Nat → S → S → List Nat → Prop
  | 0 => fun y f bs => (Sc y ∧ f = y ∨ y = .sl none 0 ∧ f = .fs []) ∧ bs = []
  | d + 1 => fun y f bs => ((Sc y ∧ f = y ∨ y = .sl none 0 ∧ f = .fs []) ∧ bs = []) ∨ ∃ b z cs rows bss, y = .sl (some (b, 0)) rows.length ∧ f = .fs rows ∧ bs = b :: bss ∧ b < h.n ∧ 0 < z ∧ h.g b = .rw z cs ∧ (∀ r ∈ rows, r.length = z) ∧ RepL (Rep h d) cs rows.flatten bss
section
variable {R R' : S → S → List Nat → Prop}
theorem RepL.mono {cs fs : List S} {bss : List Nat} (w : RepL R cs fs bss) (hr : ∀ y f bs, (∀ b ∈ bs, b ∈ bss) → R y f bs → R' y f bs) : RepL R' cs fs bss := by
  induction w with
  | nil => exact .nil
  | @cons y f bs ys fs bss h1 h2 ih => exact .cons (hr _ _ _ (fun b hb => by simp [hb]) h1) (ih fun y f bs hb => hr y f bs fun b hh => by simp [hb b hh])
theorem RepL.len {cs fs : List S} {bss : List Nat} (w : RepL R cs fs bss) : cs.length = fs.length := by
  induction w with
  | nil => rfl
  | cons h1 h2 ih => simp [ih]
theorem RepL.append {cs fs cs' fs' : List S} {bss bss' : List Nat} (w : RepL R cs fs bss) (w' : RepL R cs' fs' bss') : RepL R (cs ++ cs') (fs ++ fs') (bss ++ bss') := by
  induction w with
  | nil => exact w'
  | cons h1 h2 ih => rw [List.cons_append, List.cons_append, List.append_assoc]; exact .cons h1 ih
theorem RepL.split : ∀ {fs fs' : List S} {cs : List S} {bss : List Nat}, RepL R cs (fs ++ fs') bss → ∃ a a' b b', cs = a ++ a' ∧ bss = b ++ b' ∧ RepL R a fs b ∧ RepL R a' fs' b'
  | [], fs', cs, bss, w => ⟨[], cs, [], bss, rfl, rfl, .nil, w⟩
  | f :: fs, fs', cs, bss, w => by
    cases w with
    | @cons y f bs ys fs bss h1 h2 =>
      obtain ⟨a, a', b, b', rfl, rfl, w1, w2⟩ := RepL.split h2
      exact ⟨y :: a, a', bs ++ b, b', rfl, by simp, .cons h1 w1, w2⟩
end
section
variable {h h' : H}
theorem Rep.sc {d : Nat} {s : S} (hs : Sc s) : Rep h d s s [] := by
  cases d with
  | zero => exact ⟨.inl ⟨hs, rfl⟩, rfl⟩
  | succ d => exact .inl ⟨.inl ⟨hs, rfl⟩, rfl⟩
theorem Rep.nil {d : Nat} : Rep h d (.sl none 0) (.fs []) [] := by
  cases d with
  | zero => exact ⟨.inr ⟨rfl, rfl⟩, rfl⟩
  | succ d => exact .inl ⟨.inr ⟨rfl, rfl⟩, rfl⟩
theorem Rep.sl {d b z : Nat} {cs : List S} {rows : List (List S)} {bss : List Nat} (hb : b < h.n) (hz : 0 < z) (hg : h.g b = .rw z cs) (hr : ∀ r ∈ rows, r.length = z) (w : RepL (Rep h d) cs rows.flatten bss) : Rep h (d + 1) (.sl (some (b, 0)) rows.length) (.fs rows) (b :: bss) :=
  .inr ⟨b, z, cs, rows, bss, rfl, rfl, rfl, hb, hz, hg, hr, w⟩
theorem RepL.sc {d : Nat} : ∀ {l : List S}, (∀ s ∈ l, Sc s) → RepL (Rep h d) l l []
  | [], _ => .nil
  | s :: l, hl => RepL.cons (bs := []) (Rep.sc (hl s (by simp))) (RepL.sc fun s hs => hl s (by simp [hs]))
theorem Rep.of_sc {d : Nat} {y f : S} {bs : List Nat} (w : Rep h d y f bs) (hf : Sc f) : y = f ∧ bs = [] := by
  cases d with
  | zero =>
    obtain ⟨⟨h1, rfl⟩ | ⟨rfl, rfl⟩, rfl⟩ := w
    · exact ⟨rfl, rfl⟩
    · exact hf.elim
  | succ d =>
    obtain ⟨⟨h1, rfl⟩ | ⟨rfl, rfl⟩, rfl⟩ | ⟨b, z, cs, rows, bss, rfl, rfl, rfl, h1⟩ := w
    · exact ⟨rfl, rfl⟩
    · exact hf.elim
    · exact hf.elim
theorem RepL.of_sc {d : Nat} : ∀ {cs fs : List S} {bss : List Nat}, RepL (Rep h d) cs fs bss → (∀ s ∈ fs, Sc s) → cs = fs ∧ bss = []
  | _, _, _, .nil, _ => ⟨rfl, rfl⟩
  | _, _, _, .cons h1 h2, hs => by
    obtain ⟨rfl, rfl⟩ := Rep.of_sc h1 (hs _ (by simp))
    obtain ⟨rfl, rfl⟩ := RepL.of_sc h2 fun s hs' => hs s (by simp [hs'])
    exact ⟨rfl, rfl⟩
theorem Rep.frame : ∀ {d : Nat} {y f : S} {bs : List Nat}, Rep h d y f bs → (∀ b ∈ bs, b < h'.n ∧ h'.g b = h.g b) → Rep h' d y f bs
  | 0, y, f, bs, w, _ => w
  | d + 1, y, f, bs, w, hb => by
    rcases w with w | ⟨b, z, cs, rows, bss, rfl, rfl, rfl, h1, h2, h3, h4, h5⟩
    · exact .inl w
    · have := hb b (by simp)
      exact .inr ⟨b, z, cs, rows, bss, rfl, rfl, rfl, this.1, h2, this.2.trans h3, h4, h5.mono fun y f bs hs w => Rep.frame w fun b' hb' => hb b' (by simp [hs b' hb'])⟩
theorem RepL.frame {d : Nat} {cs fs : List S} {bss : List Nat} (w : RepL (Rep h d) cs fs bss) (hb : ∀ b ∈ bss, b < h'.n ∧ h'.g b = h.g b) : RepL (Rep h' d) cs fs bss :=
  w.mono fun y f bs hs w => w.frame fun b hbb => hb b (hs b hbb)
theorem Rep.lift : ∀ {d : Nat} {y f : S} {bs : List Nat}, Rep h d y f bs → Rep h (d + 1) y f bs
  | 0, y, f, bs, w => .inl w
  | d + 1, y, f, bs, w => by
    rcases w with w | ⟨b, z, cs, rows, bss, rfl, rfl, rfl, h1, h2, h3, h4, h5⟩
    · exact .inl w
    · exact .inr ⟨b, z, cs, rows, bss, rfl, rfl, rfl, h1, h2, h3, h4, h5.mono fun y f bs hs w => w.lift⟩
theorem Rep.lifts {d k : Nat} {y f : S} {bs : List Nat} (w : Rep h d y f bs) (hd : d ≤ k) : Rep h k y f bs := by
  obtain ⟨j, rfl⟩ := Nat.exists_eq_add_of_le hd
  induction j with
  | zero => exact w
  | succ j ih => exact (ih (by omega)).lift
theorem RepL.lifts {d k : Nat} {cs fs : List S} {bss : List Nat} (w : RepL (Rep h d) cs fs bss) (hd : d ≤ k) : RepL (Rep h k) cs fs bss := w.mono fun y f bs _ w => w.lifts hd
theorem Rep.lt : ∀ {d : Nat} {y f : S} {bs : List Nat}, Rep h d y f bs → ∀ b ∈ bs, b < h.n
  | 0, y, f, bs, w => by obtain ⟨_, rfl⟩ := w; simp
  | d + 1, y, f, bs, w => by
    rcases w with ⟨_, rfl⟩ | ⟨b, z, cs, rows, bss, rfl, rfl, rfl, h1, h2, h3, h4, h5⟩
    · simp
    · intro c hc
      rcases List.mem_cons.1 hc with rfl | hc
      · exact h1
      · clear h3 h4
        generalize rows.flatten = fl at h5
        induction h5 with
        | nil => simp at hc
        | cons w1 w2 ih =>
          rcases List.mem_append.1 hc with hc | hc
          · exact w1.lt _ hc
          · exact ih (by simp [hc]) hc
theorem RepL.lt {d : Nat} {cs fs : List S} {bss : List Nat} (w : RepL (Rep h d) cs fs bss) : ∀ b ∈ bss, b < h.n := by
  induction w with
  | nil => simp
  | cons w1 w2 ih =>
    intro c hc
    rcases List.mem_append.1 hc with hc | hc
    · exact w1.lt _ hc
    · exact ih _ hc
theorem Rep.sca {d : Nat} {y f : S} {bs : List Nat} (w : Rep h d y f bs) : scaS y = true := by
  cases d with
  | zero =>
    obtain ⟨⟨h1, rfl⟩ | ⟨rfl, rfl⟩, rfl⟩ := w
    · exact h1.sca
    · rfl
  | succ d =>
    obtain ⟨⟨h1, rfl⟩ | ⟨rfl, rfl⟩, rfl⟩ | ⟨b, z, cs, rows, bss, rfl, rfl, rfl, h1⟩ := w
    · exact h1.sca
    · rfl
    · rfl
theorem Rep.isNo {d : Nat} {y f : S} {bs : List Nat} (w : Rep h d y f bs) : isNo y = false := by
  cases d with
  | zero =>
    obtain ⟨⟨h1, rfl⟩ | ⟨rfl, rfl⟩, rfl⟩ := w
    · exact h1.no
    · rfl
  | succ d =>
    obtain ⟨⟨h1, rfl⟩ | ⟨rfl, rfl⟩, rfl⟩ | ⟨b, z, cs, rows, bss, rfl, rfl, rfl, h1⟩ := w
    · exact h1.no
    · rfl
    · rfl
/-- what it is once frozen -/
theorem Rep.frz : ∀ {d k : Nat} {y f : S} {bs : List Nat}, Rep h d y f bs → d ≤ k → frzS h k y = some f
  | 0, k, y, f, bs, w, _ => by
    obtain ⟨⟨h1, rfl⟩ | ⟨rfl, rfl⟩, rfl⟩ := w
    · exact h1.cl h k
    · exact frz_n
  | d + 1, 0, y, f, bs, w, hk => by omega
  | d + 1, k + 1, y, f, bs, w, hk => by
    rcases w with ⟨⟨h1, rfl⟩ | ⟨rfl, rfl⟩, rfl⟩ | ⟨b, z, cs, rows, bss, rfl, rfl, rfl, h1, h2, h3, h4, h5⟩
    · exact h1.cl h (k + 1)
    · exact frz_n
    · have hl := flat_len h4
      have hc := h5.len
      have hm : mapO (frzS h k) cs = some rows.flatten := by
        clear h3 h4 hl hc
        generalize rows.flatten = fl at h5
        induction h5 with
        | nil => rfl
        | cons w1 w2 ih => simp only [mapO, Rep.frz w1 (show d ≤ k by omega), ih, Option.bind_some]
      simp only [frzS]
      split
      · rename_i h0; rw [List.eq_nil_of_length_eq_zero h0]
      · rw [h3]
        simp only
        rw [if_pos ⟨h2, by omega⟩, List.drop_zero, List.take_of_length_le (by omega), hm]
        simp [chunk_rows h4]
theorem RepL.mapO {d k : Nat} {cs fs : List S} {bss : List Nat} (w : RepL (Rep h d) cs fs bss) (hd : d ≤ k) : Vm.mapO (frzS h k) cs = some fs := by
  induction w with
  | nil => rfl
  | cons w1 w2 ih => simp only [Vm.mapO, w1.frz hd, ih, Option.bind_some]
end
/-- bytes -/
theorem bys_sc {l : List UInt8} : ∀ s ∈ (bys l).flatten, Sc s := by
  rw [bys_flat]
  intro s hs
  obtain ⟨c, _, rfl⟩ := List.mem_map.1 hs
  trivial
theorem Rep.of_bys {h : H} {d : Nat} {y : S} {l : List UInt8} {bs : List Nat} (w : Rep h (d + 1) y (.fs (bys l)) bs) : (l = [] ∧ ∃ o, y = .sl o 0) ∨ ∃ b, BysW h (.s y) l b ∧ bs = [b] := by
  rcases w with ⟨⟨h1, rfl⟩ | ⟨rfl, h2⟩, rfl⟩ | ⟨b, z, cs, rows, bss, rfl, h0, rfl, h1, h2, h3, h4, h5⟩
  · exact h1.elim
  · injection h2 with h2
    exact .inl ⟨List.eq_nil_of_length_eq_zero (by simpa using congrArg List.length h2), _, rfl⟩
  · injection h0 with h0
    subst h0
    obtain ⟨rfl, rfl⟩ := h5.of_sc bys_sc
    by_cases hl : l = []
    · subst hl; exact .inl ⟨rfl, _, rfl⟩
    · refine .inr ⟨b, ⟨by simp, h1, ?_⟩, rfl⟩
      have hh : (bys l) ≠ [] := by simp [bys, hl]
      have h6 := h4 _ (List.head_mem hh)
      have h7 : ((bys l).head hh).length = 1 := bys_row _ (List.head_mem hh)
      rw [h3, bys_flat, ← h6, h7]
theorem Own.rep {h : H} {d : Nat} {y : S} {l : List UInt8} {ob : Option Nat} (h1 : Own h (.s y) l ob) : Rep h (d + 1) y (.fs (bys l)) ob.toList := by
  cases ob with
  | none => obtain ⟨h1, rfl⟩ := h1; cases h1; exact Rep.nil
  | some b =>
    have hv := h1.v
    injection hv with hv
    subst hv
    have := Rep.sl (d := d) (h := h) (b := b) (z := 1) (rows := bys l) (bss := []) h1.n (by omega) (by rw [bys_flat]; exact h1.g) bys_row (RepL.sc (by exact bys_sc))
    rwa [bys_len] at this
/-- a value of one's own in a stretch of blocks -/
def OwnF (d : Nat) (y f : S) (lo hi : Nat) (h : H) : Prop := ∃ bs, Rep h d y f bs ∧ bs.Nodup ∧ ∀ b ∈ bs, lo ≤ b ∧ b < hi
theorem OwnF.sep {d : Nat} {y f : S} {lo hi : Nat} {h : H} (w : OwnF d y f lo hi h) (hn : hi ≤ h.n) : Sep (OwnF d y f lo hi) lo hi h := ⟨hn, fun h' hn' hg => by
  obtain ⟨bs, h1, h2, h3⟩ := w
  exact ⟨bs, h1.frame fun b hb => ⟨by have := h3 b hb; omega, hg b (h3 b hb).1 (h3 b hb).2⟩, h2, h3⟩⟩
theorem OwnF.frz {d : Nat} {y f : S} {lo hi : Nat} {h : H} (w : OwnF d y f lo hi h) (hd : d ≤ 8 := by omega) : frzV h (.s y) = some (.s f) := by
  obtain ⟨bs, h1, _⟩ := w
  simp only [frzV, h1.frz hd, Vm.ob]
theorem OwnB.f {d : Nat} {y : S} {l : List UInt8} {lo hi : Nat} {h : H} (w : OwnB (.s y) l lo hi h) : OwnF (d + 1) y (.fs (bys l)) lo hi h := by
  obtain ⟨ob, h1, h2⟩ := w
  refine ⟨ob.toList, h1.rep, ?_, fun b hb => h2 b (by simpa using hb)⟩
  cases ob <;> simp
/-- marked bytes -/
theorem Rep.mark {h : H} {d : Nat} {y : S} {l : List UInt8} {bs : List Nat} {k : Nat} (w : Rep h (d + 1) y (.fs (bys l)) bs) (hl : k + l.length < 2 ^ 62) :
    ∃ h', call Ev Fn.laws_markByteS [.s y, iv .i64 k] h = some (iv .i64 ((k + l.length : Nat) : Int), h') ∧ Rep h' (d + 1) y (.fs (bys (marks k l.length))) bs ∧ h'.n = h.n ∧ ∀ c, c ∉ bs → h'.g c = h.g c ∧ h'.v c = h.v c := by
  rcases w.of_bys with ⟨rfl, o, rfl⟩ | ⟨b, w1, rfl⟩
  · refine ⟨h, ?_, w, rfl, fun _ _ => ⟨rfl, rfl⟩⟩
    rw [eq_laws_markByteS, eq_laws_markByteS_l0]
    simp only [lenV, Option.bind_some, gV1_s, gI_i, vcase_b]
    simp
  · obtain ⟨h', e1, e2, e3, e4⟩ := r_mark (k := k) (ob := some b) w1 hl
    exact ⟨h', e1, Own.rep (ob := some b) e2, e3, fun c hc => e4 c (by simpa using fun hh => hc (by simp [hh]))⟩

/-! loops that mark the rows of a slice -/
section
variable {α : Type} (cs : α → List S) (mk : Nat → α → α) (sz : α → Nat)
def mkAll : Nat → List α → List α
  | _, [] => []
  | k, a :: xs => mk k a :: mkAll (k + sz a) xs
def szAll : List α → Nat
  | [] => 0
  | a :: xs => sz a + szAll xs
theorem mkAll_len : ∀ (k : Nat) (xs : List α), (mkAll mk sz k xs).length = xs.length
  | _, [] => rfl
  | k, a :: xs => by simp [mkAll, mkAll_len]
/-- one round: the row in its place is marked -/
def MarkStep (z b d : Nat) (L : Nat → Nat → H → Option LOut) : Prop := ∀ (i k : Nat) (a : α) (h : H) (pre ys post : List S) (bs : List Nat), pre.length = i * z → ys.length = z → k + sz a < 2 ^ 62 → b < h.n →
  h.g b = .rw z (pre ++ ys ++ post) → RepL (Rep h d) ys (cs a) bs → bs.Nodup → b ∉ bs →
  ∃ h' ys', L k i h = L (k + sz a) (i + 1) h' ∧ h'.n = h.n ∧ ys'.length = z ∧ h'.g b = .rw z (pre ++ ys' ++ post) ∧ RepL (Rep h' d) ys' (cs (mk k a)) bs ∧ ∀ c, c ≠ b → c ∉ bs → h'.g c = h.g c ∧ h'.v c = h.v c
variable {cs mk sz}
theorem mark_loop {z b d : Nat} {L : Nat → Nat → H → Option LOut} {n : Nat} {fin : Nat → List V} (step : ∀ (i k : Nat) (a : α) (h : H) (pre ys post : List S) (bs : List Nat), i < n → pre.length = i * z → ys.length = z → k + sz a < 2 ^ 62 → b < h.n →
    h.g b = .rw z (pre ++ ys ++ post) → RepL (Rep h d) ys (cs a) bs → bs.Nodup → b ∉ bs →
    ∃ h' ys', L k i h = L (k + sz a) (i + 1) h' ∧ h'.n = h.n ∧ ys'.length = z ∧ h'.g b = .rw z (pre ++ ys' ++ post) ∧ RepL (Rep h' d) ys' (cs (mk k a)) bs ∧ ∀ c, c ≠ b → c ∉ bs → h'.g c = h.g c ∧ h'.v c = h.v c)
    (last : ∀ k h, L k n h = some (.done (fin k) h)) :
    ∀ (xs : List α) (i k : Nat) (h : H) (pre ys : List S) (bs : List Nat), (∀ a ∈ xs, (cs a).length = z) → i + xs.length = n → pre.length = i * z → k + szAll sz xs < 2 ^ 62 → b < h.n → h.g b = .rw z (pre ++ ys) → RepL (Rep h d) ys (xs.map cs).flatten bs → bs.Nodup → b ∉ bs →
    ∃ h' ys', L k i h = some (.done (fin (k + szAll sz xs)) h') ∧ h'.n = h.n ∧ h'.g b = .rw z (pre ++ ys') ∧ RepL (Rep h' d) ys' ((mkAll mk sz k xs).map cs).flatten bs ∧ ∀ c, c ≠ b → c ∉ bs → h'.g c = h.g c ∧ h'.v c = h.v c
  | [], i, k, h, pre, ys, bs, hz, hi, hp, hk, hb, hg, w, hd, hn => by
    obtain rfl : i = n := by simpa using hi
    refine ⟨h, ys, ?_, rfl, hg, ?_, fun _ _ _ => ⟨rfl, rfl⟩⟩
    · rw [last]; rfl
    · exact w
  | a :: xs, i, k, h, pre, ys, bs, hz, hi, hp, hk, hb, hg, w, hd, hn => by
    simp only [List.map_cons, List.flatten_cons] at w
    obtain ⟨y1, y2, b1, b2, rfl, rfl, w1, w2⟩ := w.split
    have hza := hz a (by simp)
    simp only [szAll] at hk
    simp only [List.length_cons] at hi
    have hd' := List.nodup_append.1 hd
    obtain ⟨h1, ys1, e1, n1, l1, g1, r1, o1⟩ := step i k a h pre y1 y2 b1 (by omega) hp (w1.len.trans hza) (by omega) hb (by rw [hg, List.append_assoc]) w1 hd'.1 (fun hh => hn (by simp [hh]))
    have w2' : RepL (Rep h1 d) y2 (xs.map cs).flatten b2 := w2.frame fun c hc => by
      have hcb : c ≠ b := fun hh => hn (by simp [← hh, hc])
      exact ⟨by rw [n1]; exact w2.lt c hc, (o1 c hcb fun hh => hd'.2.2 c hh c hc rfl).1⟩
    obtain ⟨h2, ys2, e2, n2, g2, r2, o2⟩ := mark_loop step last xs (i + 1) (k + sz a) h1 (pre ++ ys1) y2 b2 (fun a ha => hz a (by simp [ha])) (by omega) (by rw [List.length_append, hp, l1, Nat.succ_mul]) (by omega) (by rw [n1]; exact hb) g1 w2' hd'.2.1 (fun hh => hn (by simp [hh]))
    refine ⟨h2, ys1 ++ ys2, ?_, by rw [n2, n1], by rw [g2, List.append_assoc], ?_, fun c hc hcb => ?_⟩
    · rw [e1, e2]; simp only [szAll]; rw [Nat.add_assoc]
    · simp only [mkAll, List.map_cons, List.flatten_cons]
      refine (r1.frame fun c hc => ?_).append r2
      have hcb : c ≠ b := fun hh => hn (by simp [← hh, hc])
      exact ⟨by rw [n2]; exact r1.lt c hc, (o2 c hcb fun hh => hd'.2.2 c hc c hh rfl).1⟩
    · have a1 := o1 c hc fun hh => hcb (by simp [hh])
      have a2 := o2 c hc fun hh => hcb (by simp [hh])
      exact ⟨a2.1.trans a1.1, a2.2.trans a1.2⟩
/-- a whole slice is marked -/
theorem Rep.marks {z d : Nat} {y : S} {xs : List α} {bs : List Nat} {h : H} {k : Nat} {Lv : V → Nat → Nat → H → Option LOut} {fin : Nat → List V} (hz0 : 0 < z) (hz : ∀ a, (cs a).length = z) (w : Rep h (d + 1) y (.fs (xs.map cs)) bs) (hd : bs.Nodup) (hk : k + szAll sz xs < 2 ^ 62)
    (step : ∀ (b i k : Nat) (a : α) (h : H) (pre ys post : List S) (bs : List Nat), i < xs.length → pre.length = i * z → ys.length = z → k + sz a < 2 ^ 62 → b < h.n →
      h.g b = .rw z (pre ++ ys ++ post) → RepL (Rep h d) ys (cs a) bs → bs.Nodup → b ∉ bs →
      ∃ h' ys', Lv (sv b 0 xs.length) k i h = Lv (sv b 0 xs.length) (k + sz a) (i + 1) h' ∧ h'.n = h.n ∧ ys'.length = z ∧ h'.g b = .rw z (pre ++ ys' ++ post) ∧ RepL (Rep h' d) ys' (cs (mk k a)) bs ∧ ∀ c, c ≠ b → c ∉ bs → h'.g c = h.g c ∧ h'.v c = h.v c)
    (last : ∀ o k h, Lv (.s (.sl o xs.length)) k xs.length h = some (.done (fin k) h)) :
    ∃ h', Lv (.s y) k 0 h = some (.done (fin (k + szAll sz xs)) h') ∧ Rep h' (d + 1) y (.fs ((mkAll mk sz k xs).map cs)) bs ∧ h'.n = h.n ∧ ∀ c, c ∉ bs → h'.g c = h.g c ∧ h'.v c = h.v c := by
  have base : xs = [] → ∀ o, y = .sl o 0 → ∃ h', Lv (.s y) k 0 h = some (.done (fin (k + szAll sz xs)) h') ∧ Rep h' (d + 1) y (.fs ((mkAll mk sz k xs).map cs)) bs ∧ h'.n = h.n ∧ ∀ c, c ∉ bs → h'.g c = h.g c ∧ h'.v c = h.v c := by
    rintro rfl o rfl
    exact ⟨h, last o k h, w, rfl, fun _ _ => ⟨rfl, rfl⟩⟩
  rcases w with ⟨⟨h1, h2⟩ | ⟨h1, h2⟩, h3⟩ | ⟨b, z', ys, rows, bss, h1, h0, h2, h3, h4, h5, h6, h7⟩
  · rw [← h2] at h1; exact h1.elim
  · injection h2 with h2
    exact base (List.eq_nil_of_length_eq_zero (by simpa using congrArg List.length h2)) none h1
  · injection h0 with h0
    by_cases has : xs = []
    · refine base has (some (b, 0)) ?_
      rw [h1, ← h0, has]; rfl
    · have hzz : z' = z := by
        obtain ⟨a, xs', rfl⟩ := List.exists_cons_of_ne_nil has
        have := h6 (cs a) (by rw [← h0]; simp)
        rw [← this, hz]
      subst hzz
      subst h0
      subst h2
      have hlen : (xs.map cs).length = xs.length := by simp
      rw [hlen] at h1
      subst h1
      have hd2 := List.nodup_cons.1 hd
      obtain ⟨h', ys', e1, n1, g1, r1, o1⟩ := mark_loop (cs := cs) (mk := mk) (sz := sz) (fin := fin) (L := Lv (sv b 0 xs.length)) (n := xs.length) (step b) (fun k h => last _ k h) xs 0 k h [] ys bss (fun a _ => hz a) (by simp) (by simp) hk h3 (by simpa using h5) h7 hd2.2 hd2.1
      refine ⟨h', e1, ?_, n1, fun c hc => ?_⟩
      · have := Rep.sl (d := d) (h := h') (b := b) (z := z') (rows := (mkAll mk sz k xs).map cs) (bss := bss) (by rw [n1]; exact h3) hz0 (by simpa using g1) (fun r hr => by
          obtain ⟨a, _, rfl⟩ := List.mem_map.1 hr
          exact hz a) r1
        simpa [mkAll_len] using this
      · exact o1 c (fun hh => hc (by simp [hh])) (fun hh => hc (by simp [hh]))
end
end Vm
/-
  Runs that live: copied, compared, marked, found again.
-/
namespace Vm
open Go
theorem szRuns_ok {rs : List RunD} (h : ¬ (if (rs.length : Int) ≤ 1048576 then szRuns rs (1048576 - rs.length) else -1) < 0) : rs.length ≤ 1048576 ∧ (∀ r ∈ rs, r.l.length ≤ lim) ∧ ∀ r ∈ rs, r.l.length ≤ 1048576 := by
  split at h
  · rename_i hle
    have h2 := szRuns_all rs _ (Int.not_lt.1 h)
    refine ⟨by omega, fun r hr => ?_, fun r hr => ?_⟩
    · have := h2 r hr; unfold lim; omega
    · have := h2 r hr; omega
  · omega
def szR (r : RunD) : Nat := 1 + r.l.length
def mkR (k : Nat) (r : RunD) : RunD := ⟨k, marks (k + 1) r.l.length⟩
def rsz (rs : List RunD) : Nat := szAll szR rs
def mkRs (k : Nat) (rs : List RunD) : List RunD := mkAll mkR szR k rs
theorem rsz_cons (r : RunD) (rs : List RunD) : rsz (r :: rs) = 1 + r.l.length + rsz rs := rfl
theorem rsz_len : ∀ rs : List RunD, rs.length ≤ rsz rs
  | [] => Nat.le_refl _
  | r :: rs => by have := rsz_len rs; rw [rsz_cons, List.length_cons]; omega
theorem szRuns_sum : ∀ (rs : List RunD) (left : Int), 0 ≤ szRuns rs left → 0 ≤ left → szRuns rs left = left - rsz rs + rs.length
  | [], left, h, _ => by simp [szRuns, rsz, szAll]
  | r :: rs, left, h, h0 => by
    simp only [szRuns] at h ⊢
    by_cases hle : (r.l.length : Int) ≤ left
    · rw [if_pos hle] at h ⊢
      rw [szRuns_sum rs _ h (by omega), rsz_cons, List.length_cons]; omega
    · rw [if_neg hle] at h; omega
theorem szRuns_rsz {rs : List RunD} (h : ¬ (if (rs.length : Int) ≤ 1048576 then szRuns rs (1048576 - rs.length) else -1) < 0) : rsz rs ≤ 1048576 := by
  split at h
  · rename_i hle
    have := szRuns_sum rs _ (Int.not_lt.1 h) (by omega); omega
  · omega
/-- a run copied -/
theorem f_toRun (r : RunD) (hl : r.l.length ≤ lim) (n : Nat) : ∃ y h' bs, call Ev Fn.laws_toRun [.agg r.cs] (D n) = some (.agg [.int .i64 r.at_, y], h') ∧ Rep h' 1 y (.fs (bys r.l)) bs ∧ bs.Nodup ∧ (∀ b ∈ bs, n ≤ b ∧ b < h'.n) ∧ n ≤ h'.n ∧ belS n y = false := by
  rw [eq_laws_toRun]
  generalize hG : (((D n).new 0 [.int .i64 r.at_, .fs (bys r.l)]).new 0 [.int .i64 0, .sl none 0]).new 0 [.int .i64 0, .sl none 0] = G
  have gn : G.n = n + 3 := by rw [← hG]; simp
  have g0 : G.g n = .rw 0 [.int .i64 r.at_, .fs (bys r.l)] := by rw [← hG, new_g' (by simp; omega), new_g' (by simp)]; exact new_g (D n) _ _
  have g1 : G.g (n + 1) = .rw 0 [.int .i64 0, .sl none 0] := by rw [← hG, new_g' (by simp)]; exact new_g ((D n).new 0 [.int .i64 r.at_, .fs (bys r.l)]) _ _
  have g2 : G.g (n + 2) = .rw 0 [.int .i64 0, .sl none 0] := by rw [← hG]; exact new_g (((D n).new 0 [.int .i64 r.at_, .fs (bys r.l)]).new 0 [.int .i64 0, .sl none 0]) _ _
  clear hG
  have ld : ∀ {h : H} {b o e : Nat} {X : List S}, b < h.n → h.g b = .rw e X → load1 h (pv b o) = X[o]? := fun hb hg => by simp [load1, H.cells, hb, hg, Blk.cells]
  simp only [new_n, D_n]
  rw [ld (by omega) g0]
  simp only [gx0, ob, gI_i]
  rw [stK_rw (z := 1) (e := 0) (o := 0) (b := n + 1 + 1) (cs := [.int .i64 0, .sl none 0]) (r := [.int .i64 r.at_]) (by omega) g2 (.inl ⟨_, rfl, rfl, rfl⟩) rfl (by simp)]
  rw [show setAt [.int .i64 0, .sl none 0] 0 [.int .i64 r.at_] = [.int .i64 r.at_, .sl none 0] from rfl]
  have k0 : (G.put (n + 1 + 1) (.rw 0 [.int .i64 r.at_, .sl none 0])).g n = .rw 0 [.int .i64 r.at_, .fs (bys r.l)] := by rw [put_g' (by omega)]; exact g0
  have k1 : (G.put (n + 1 + 1) (.rw 0 [.int .i64 r.at_, .sl none 0])).g (n + 1) = .rw 0 [.int .i64 0, .sl none 0] := by rw [put_g' (by omega)]; exact g1
  have k2 : (G.put (n + 1 + 1) (.rw 0 [.int .i64 r.at_, .sl none 0])).g (n + 2) = .rw 0 [.int .i64 r.at_, .sl none 0] := put_g _ _ _
  have kn : (G.put (n + 1 + 1) (.rw 0 [.int .i64 r.at_, .sl none 0])).n = n + 3 := by rw [put_n, gn]
  generalize G.put (n + 1 + 1) (.rw 0 [.int .i64 r.at_, .sl none 0]) = K at k0 k1 k2 kn ⊢
  rw [ld (by omega) k0]
  simp only [gx0, gx1, ob]
  rw [show frzVs K [.s (.fs (bys r.l))] = some [lv (bys r.l)] from frzVs_cons frzV_lv frzVs_nil, ob, norm_nil]
  obtain ⟨v, h1, e1, w1⟩ := f_toByteS hl K.n
  rw [pF (h := K) e1 w1.nofz]
  have hle := w1.le
  have u : Up K (K.over h1) := up_over (by omega)
  have un : (K.over h1).n = K.n + 1 := by rw [over_n (by omega), hle]
  have wo : BysW (K.over h1) v r.l K.n := ⟨w1.own.v, by omega, by rw [over_ge (by omega)]; exact w1.own.g⟩
  have hv := w1.own.v
  subst hv
  have u1 := (u.g (n + 1) (by omega)).trans k1
  have u2 := (u.g (n + 2) (by omega)).trans k2
  generalize K.over h1 = M at u un wo u1 u2 ⊢
  rw [stK_rw (z := 1) (e := 0) (o := 1) (b := n + 1 + 1) (cs := [.int .i64 r.at_, .sl none 0]) (r := [.sl (some (K.n, 0)) r.l.length]) (by omega) u2 (.inl ⟨_, rfl, rfl, rfl⟩) rfl (by simp)]
  rw [show setAt [.int .i64 r.at_, .sl none 0] 1 [S.sl (some (K.n, 0)) r.l.length] = [.int .i64 r.at_, .sl (some (K.n, 0)) r.l.length] from rfl]
  rw [loadN_2 (b := n + 1 + 1) (e := 0) (by rw [put_n]; omega) (put_g _ _ _)]
  simp only [gx0, gx1, ob, gI_i, ln0, ln1, Nat.zero_add, Nat.reduceAdd, if_true]
  rw [stK_rw (z := 2) (e := 0) (o := 0) (b := n + 1) (cs := [.int .i64 0, .sl none 0]) (r := [.int .i64 r.at_, .sl (some (K.n, 0)) r.l.length]) (by rw [put_n]; omega) (by rw [put_g' (by omega)]; exact u1) (.inr rfl) rfl (by simp)]
  rw [show setAt [.int .i64 0, .sl none 0] 0 [.int .i64 r.at_, S.sl (some (K.n, 0)) r.l.length] = [.int .i64 r.at_, .sl (some (K.n, 0)) r.l.length] from rfl]
  rw [loadN_2 (b := n + 1) (e := 0) (by rw [put_n, put_n]; omega) (put_g _ _ _), ob]
  refine ⟨_, _, [K.n], rfl, Own.rep (d := 0) (ob := some K.n) ⟨rfl, by rw [put_n, put_n]; omega, ?_⟩, by simp, ?_, ?_, ?_⟩
  · rw [put_g' (by omega), put_g' (by omega)]; exact wo.g
  · intro b hb
    rw [List.mem_singleton.1 hb, put_n, put_n]
    omega
  · rw [put_n, put_n]; omega
  · simp [belS]; omega
theorem runs_map (rs : List RunD) : runs rs = rs.map RunD.cs := rfl
/-- runs that are marked -/
theorem Rep.markRs {h : H} {d : Nat} {y : S} {rs : List RunD} {bs : List Nat} {k : Nat} (w : Rep h (d + 2) y (.fs (runs rs)) bs) (hd : bs.Nodup) (hk : k + rsz rs < 2 ^ 62) :
    ∃ h', call Ev Fn.laws_markRunS [.s y, iv .i64 k] h = some (iv .i64 ((k + rsz rs : Nat) : Int), h') ∧ Rep h' (d + 2) y (.fs (runs (mkRs k rs))) bs ∧ h'.n = h.n ∧ ∀ c, c ∉ bs → h'.g c = h.g c ∧ h'.v c = h.v c := by
  have hrl := rsz_len rs
  obtain ⟨h', e1, r1, n1, o1⟩ := Rep.marks (z := 2) (cs := RunD.cs) (mk := mkR) (sz := szR) (k := k) (Lv := fun v k i h => Lp.laws_markRunS 0 [v, iv .i64 k, iv .i64 i] h) (fin := fun k => [iv .i64 k]) (by omega) (fun _ => rfl) w hd hk
    (fun b i k r h pre ys post bs hi hp hy hk hb hg wr hnd hnb => by
      show ∃ h' ys', Lp.laws_markRunS 0 _ h = _ ∧ _
      rw [eq_laws_markRunS_l0]
      simp only [lenV, Option.bind_some, gV1_s, gI_i, vcase_b]
      rw [if_pos (by simp; omega), idxK_sv hi]
      simp only [padd, ob, Nat.add_zero]
      have wr' : RepL (Rep h (d + 1)) ys ([.int .i64 r.at_] ++ [.fs (bys r.l)]) bs := wr
      obtain ⟨y1, y2, b1, b2, rfl, rfl, w1, w2⟩ := wr'.split
      obtain ⟨rfl, rfl⟩ := w1.of_sc (by intro s hs; rw [List.mem_singleton.1 hs]; trivial)
      cases w2 with
      | @cons y f bs' ys fs bss h1 h2 =>
        cases h2
        rw [List.append_nil, List.nil_append] at hnd hnb
        rw [stK_rw (z := 1) (e := 2) (o := i * 2) (b := b) (cs := pre ++ ([.int .i64 r.at_] ++ [y]) ++ post) (r := [.int .i64 k]) hb hg (.inl ⟨_, rfl, rfl, rfl⟩) rfl (by simp; omega)]
        have hset : setAt (pre ++ ([.int .i64 r.at_] ++ [y]) ++ post) (i * 2) [.int .i64 k] = pre ++ ([.int .i64 k] ++ [y]) ++ post := by
          rw [List.append_assoc, setAt_at hp (z := 1) rfl]; simp
        rw [hset, idxK_sv hi]
        simp only [padd, ob]
        have ld : load1 (h.put b (.rw 2 (pre ++ ([.int .i64 k] ++ [y]) ++ post))) (pv b (i * 2 + 1)) = some y := by
          simp only [load1, H.cells, put_n, hb, if_true, put_g, Blk.cells]
          rw [List.getElem?_append_left (by simp; omega), List.getElem?_append_right (by omega), hp]
          simp
        simp only [ldK, ldT, cond_false, ld, ob]
        have h1' : Rep (h.put b (.rw 2 (pre ++ ([.int .i64 k] ++ [y]) ++ post))) (d + 1) y (.fs (bys r.l)) bs' := h1.frame fun c hc => ⟨h1.lt c hc, put_g' (fun hh => hnb (hh ▸ hc))⟩
        have hszr : szR r = 1 + r.l.length := rfl
        obtain ⟨h2, e2, r2, n2, o2⟩ := h1'.mark (k := k + 1) (by omega)
        rw [w64 (n := (k : Int) + 1) (by omega) (by omega), show (k : Int) + 1 = ((k + 1 : Nat) : Int) from by omega, e2, ob]
        simp only [gV1_s, gI_i]
        have t1 : tidy (h.put b (.rw 2 (pre ++ ([.int .i64 k] ++ [y]) ++ post))) [iv .i64 ((k + 1 + r.l.length : Nat) : Int)] h2 = h2 := tidy_same n2 fun c hc => o2 c fun hh => by have := h1.lt c hh; rw [put_n] at hc; omega
        rw [t1]
        have t2 : ∀ l, tidy h l h2 = h2 := fun l => tidy_same (n2.trans (put_n _ _ _)) fun c hc => by
          have hc1 : c ∉ bs' := fun hh => by have := h1.lt c hh; omega
          have := o2 c hc1
          have hcb : c ≠ b := by omega
          refine ⟨this.1.trans (put_g' hcb), this.2.trans ?_⟩
          simp only [H.put, if_neg hcb]
        rw [t2, w64 (n := (i : Int) + 1) (by omega) (by omega), show (i : Int) + 1 = ((i + 1 : Nat) : Int) from by omega]
        refine ⟨h2, [.int .i64 k, y], ?_, n2.trans (put_n _ _ _), rfl, ?_, ?_, fun c hc hcb => ?_⟩
        · rw [show k + szR r = k + 1 + r.l.length from by omega]
        · have := (o2 b hnb).1
          rw [this, put_g]; simp
        · have : RepL (Rep h2 (d + 1)) ([.int .i64 k] ++ [y]) ([.int .i64 k] ++ [.fs (bys (Vm.marks (k + 1) r.l.length))]) ([] ++ (bs' ++ [])) := RepL.append (RepL.sc (by intro s hs; rw [List.mem_singleton.1 hs]; trivial)) (.cons r2 .nil)
          exact this
        · have hcb' : c ∉ bs' := fun hh => hcb (by simp [hh])
          have := o2 c hcb'
          refine ⟨this.1.trans (put_g' hc), this.2.trans ?_⟩
          simp only [H.put, if_neg hc])
    (fun o k h => by
      show Lp.laws_markRunS 0 _ h = _
      rw [eq_laws_markRunS_l0]
      simp only [lenV, Option.bind_some, gV1_s, gI_i, vcase_b]
      rw [if_neg (by simp), tidy_self])
  refine ⟨h', ?_, r1, n1, o1⟩
  rw [eq_laws_markRunS, show iv .i64 0 = iv .i64 ((0 : Nat) : Int) from rfl, e1, ob, lcase_done]
  simp only [gx0, ob, gV1_s, gI_i]
  rfl
end Vm
/-
  Cells of one's own; results that are marked; slices that are filled row by row.
-/
namespace Vm
open Go
theorem sc_bel {n : Nat} {s : S} (h : Sc s) : belS n s = true := by cases s <;> first | exact h.elim | rfl
theorem Rep.top {h : H} {d N : Nat} {y f : S} {bs : List Nat} (w : Rep h d y f bs) (hb : ∀ b ∈ bs, b < N) : belS N y = true := by
  cases d with
  | zero =>
    obtain ⟨⟨h1, rfl⟩ | ⟨rfl, rfl⟩, rfl⟩ := w
    · exact sc_bel h1
    · rfl
  | succ d =>
    obtain ⟨⟨h1, rfl⟩ | ⟨rfl, rfl⟩, rfl⟩ | ⟨b, z, cs, rows, bss, rfl, rfl, rfl, h1⟩ := w
    · exact sc_bel h1
    · rfl
    · simpa [belS] using hb b (by simp)
theorem RepL.top {h : H} {d N : Nat} {cs fs : List S} {bss : List Nat} (w : RepL (Rep h d) cs fs bss) (hb : ∀ b ∈ bss, b < N) : cs.all (belS N) = true := by
  induction w with
  | nil => rfl
  | cons w1 w2 ih =>
    rw [List.all_cons, w1.top fun b hh => hb b (by simp [hh]), ih fun b hh => hb b (by simp [hh])]; rfl
theorem Rep.bel {h : H} {N : Nat} : ∀ {d : Nat} {y f : S} {bs : List Nat}, Rep h d y f bs → (∀ b ∈ bs, b < N) → ∀ b ∈ bs, (h.g b).cells.all (belS N) = true
  | 0, y, f, bs, w, _ => by obtain ⟨_, rfl⟩ := w; simp
  | d + 1, y, f, bs, w, hb => by
    rcases w with ⟨_, rfl⟩ | ⟨b, z, cs, rows, bss, rfl, rfl, rfl, h1, h2, h3, h4, h5⟩
    · simp
    · intro c hc
      rcases List.mem_cons.1 hc with rfl | hc
      · rw [h3]; exact h5.top fun b hh => hb b (by simp [hh])
      · have hb' : ∀ b ∈ bss, b < N := fun b hh => hb b (by simp [hh])
        clear h3 h4 hb
        generalize rows.flatten = fl at h5
        induction h5 with
        | nil => simp at hc
        | cons w1 w2 ih =>
          rcases List.mem_append.1 hc with hc | hc
          · exact w1.bel (fun b hh => hb' b (by simp [hh])) _ hc
          · exact ih (by simp [hc]) hc fun b hh => hb' b (by simp [hh])
theorem RepL.bel {h : H} {d N : Nat} {cs fs : List S} {bss : List Nat} (w : RepL (Rep h d) cs fs bss) (hb : ∀ b ∈ bss, b < N) : ∀ b ∈ bss, (h.g b).cells.all (belS N) = true := by
  induction w with
  | nil => simp
  | cons w1 w2 ih =>
    intro c hc
    rcases List.mem_append.1 hc with hc | hc
    · exact w1.bel (fun b hh => hb b (by simp [hh])) _ hc
    · exact ih (fun b hh => hb b (by simp [hh])) _ hc
/-- what was marked, once what else was made is let go -/
theorem mark_tidy {h h' : H} {d : Nat} {ys fs : List S} {bs : List Nat} {n : Int} (w : RepL (Rep h' d) ys fs bs) (hb : ∀ b ∈ bs, b < h.n) (hn : h.n ≤ h'.n) (ho : ∀ c, c ∉ bs → c < h.n → h'.g c = h.g c ∧ h'.v c = h.v c) (h2 : h'.n = h.n → ∀ c, h.n ≤ c → h'.g c = h.g c) :
    (tidy h [iv .i64 n] h').n = h.n ∧ RepL (Rep (tidy h [iv .i64 n] h') d) ys fs bs ∧ ∀ c, c ∉ bs → (tidy h [iv .i64 n] h').g c = h.g c := by
  have hT : Tidy h [iv .i64 n] h' := ⟨hn, by simp [belV, belS], fun b hb' => by
    by_cases hbb : b ∈ bs
    · exact .inr (w.bel hb b hbb)
    · exact .inl (ho b hbb hb')⟩
  unfold tidy
  rw [if_pos hT]
  refine ⟨rfl, w.frame fun b hbb => ⟨hb b hbb, by simp [hb b hbb]⟩, fun c hc => ?_⟩
  by_cases hcn : c < h.n
  · simp only [if_pos hcn]; exact (ho c hc hcn).1
  · simp only [if_neg hcn]
/-- cells of one's own in a stretch of blocks -/
def OwnC (d : Nat) (ys fs : List S) (lo hi : Nat) (h : H) : Prop := ∃ bs, RepL (Rep h d) ys fs bs ∧ bs.Nodup ∧ ∀ b ∈ bs, lo ≤ b ∧ b < hi
theorem OwnC.sep {d : Nat} {ys fs : List S} {lo hi : Nat} {h : H} (w : OwnC d ys fs lo hi h) (hn : hi ≤ h.n) : Sep (OwnC d ys fs lo hi) lo hi h := ⟨hn, fun h' hn' hg => by
  obtain ⟨bs, h1, h2, h3⟩ := w
  exact ⟨bs, h1.frame fun b hb => ⟨by have := h3 b hb; omega, hg b (h3 b hb).1 (h3 b hb).2⟩, h2, h3⟩⟩
theorem OwnC.frz {d : Nat} {ys fs : List S} {lo hi : Nat} {h : H} (w : OwnC d ys fs lo hi h) (hd : d ≤ 8 := by omega) : frzV h (.agg ys) = some (.agg fs) := by
  obtain ⟨bs, h1, _⟩ := w
  simp only [frzV, h1.mapO hd, Vm.ob]
theorem RepL.sca {h : H} {d : Nat} {cs fs : List S} {bss : List Nat} (w : RepL (Rep h d) cs fs bss) : cs.all scaS = true := by
  induction w with
  | nil => rfl
  | cons w1 w2 ih => rw [List.all_cons, w1.sca, ih]; rfl
theorem OwnC.scaV {d : Nat} {ys fs : List S} {lo hi : Nat} {h : H} (w : OwnC d ys fs lo hi h) : Vm.scaV (.agg ys) = true := by
  obtain ⟨bs, h1, _⟩ := w
  exact h1.sca
/-- one value behind plain cells -/
theorem OwnF.c {d : Nat} {pre : List S} {y f : S} {lo hi : Nat} {h : H} (hp : ∀ s ∈ pre, Sc s) (w : OwnF d y f lo hi h) : OwnC d (pre ++ [y]) (pre ++ [f]) lo hi h := by
  obtain ⟨bs, h1, h2, h3⟩ := w
  exact ⟨bs, by simpa using (RepL.sc (d := d) hp).append (.cons h1 .nil), h2, h3⟩
theorem OwnC.f {d : Nat} {pre : List S} {y f : S} {lo hi : Nat} {h : H} (hp : ∀ s ∈ pre, Sc s) (w : OwnC d (pre ++ [y]) (pre ++ [f]) lo hi h) : OwnF d y f lo hi h := by
  obtain ⟨bs, h1, h2, h3⟩ := w
  obtain ⟨a, a', b, b', e1, rfl, w1, w2⟩ := h1.split
  obtain ⟨rfl, rfl⟩ := w1.of_sc hp
  have := List.append_cancel_left e1
  subst this
  cases w2 with
  | cons w3 w4 => cases w4; exact ⟨_, by simpa using w3, by simpa using h2, by simpa using h3⟩
/-- a result whose last cell is marked -/
theorem markC {h h' : H} {pre : List S} {y f' : S} {lo hi d : Nat} {n : Int} {bs : List Nat} (hp : ∀ s ∈ pre, Sc s) (hb : ∀ b ∈ bs, lo ≤ b ∧ b < hi) (hd : bs.Nodup) (ht : hi ≤ h.n) (w : Rep h' d y f' bs) (hn : h.n ≤ h'.n) (ho : ∀ c, c ∉ bs → c < h.n → h'.g c = h.g c ∧ h'.v c = h.v c) (h2 : h'.n = h.n → ∀ c, h.n ≤ c → h'.g c = h.g c) :
    Sep (OwnC d (pre ++ [y]) (pre ++ [f']) lo hi) lo hi (tidy h [iv .i64 n] h') ∧ ButR lo hi h (tidy h [iv .i64 n] h') := by
  have w' : RepL (Rep h' d) (pre ++ [y]) (pre ++ [f']) bs := by simpa using (RepL.sc (d := d) hp).append (.cons w .nil)
  obtain ⟨t1, t2, t3⟩ := mark_tidy (n := n) w' (fun b hbb => by have := hb b hbb; omega) hn ho h2
  refine ⟨OwnC.sep ⟨bs, t2, hd, hb⟩ (by rw [t1]; exact ht), t1, fun c hc => t3 c fun hh => ?_⟩
  have := hb c hh
  omega
/-- the answer of a call: new cells of one's own -/
structure NewC (d : Nat) (ys fs : List S) (n : Nat) (h : H) : Prop where
  le : n ≤ h.n
  q : OwnC d ys fs n h.n h
theorem scrub_g {n : Nat} {h : H} {b : Nat} (hb : (h.g b).cells.all scaS = true) : (scrub n h).g b = h.g b := by
  simp only [scrub]
  rw [if_neg (fun hh => by rw [hb] at hh; cases hh.2.2)]
theorem Rep.scaB {h : H} : ∀ {d : Nat} {y f : S} {bs : List Nat}, Rep h d y f bs → ∀ b ∈ bs, (h.g b).cells.all scaS = true
  | 0, y, f, bs, w => by obtain ⟨_, rfl⟩ := w; simp
  | d + 1, y, f, bs, w => by
    rcases w with ⟨_, rfl⟩ | ⟨b, z, cs, rows, bss, rfl, rfl, rfl, h1, h2, h3, h4, h5⟩
    · simp
    · intro c hc
      rcases List.mem_cons.1 hc with rfl | hc
      · rw [h3]; exact h5.sca
      · clear h3 h4
        generalize rows.flatten = fl at h5
        induction h5 with
        | nil => simp at hc
        | cons w1 w2 ih =>
          rcases List.mem_append.1 hc with hc | hc
          · exact w1.scaB _ hc
          · exact ih (by simp [hc]) hc
theorem RepL.scaB {h : H} {d : Nat} {cs fs : List S} {bss : List Nat} (w : RepL (Rep h d) cs fs bss) : ∀ b ∈ bss, (h.g b).cells.all scaS = true := by
  induction w with
  | nil => simp
  | cons w1 w2 ih =>
    intro c hc
    rcases List.mem_append.1 hc with hc | hc
    · exact w1.scaB _ hc
    · exact ih _ hc
/-- a call with a new answer of cells -/
theorem pC {cl : Nat → List V → H → Option (V × H)} {g : Nat} {off : Bool} {xs : List V} {h : H} {n d : Nat} {ys fs : List S} {h1 : H} (hn : h.n = n) (hc : cl g xs (D n) = some (.agg ys, h1)) (w : NewC d ys fs n h1) :
    ∃ h', (∀ (R : Type) (k : V → H → Option R), pcallF cl g off xs h k = k (.agg ys) h') ∧ Up h h' ∧ n ≤ h'.n ∧ Sep (OwnC d ys fs n h'.n) n h'.n h' := by
  subst hn
  have hle : h.n ≤ h1.n := w.le
  have ov : ∀ h2 : H, h2.n = h1.n → (∀ b, (h1.g b).cells.all scaS = true → h2.g b = h1.g b) → Up h (h.over h2) ∧ h.n ≤ (h.over h2).n ∧ Sep (OwnC d ys fs h.n (h.over h2).n) h.n (h.over h2).n (h.over h2) := fun h2 hn2 hg2 => by
    have hle2 : h.n ≤ h2.n := by omega
    refine ⟨up_over hle2, by rw [over_n hle2]; omega, OwnC.sep ?_ (Nat.le_refl _)⟩
    obtain ⟨bs, w1, w2, w3⟩ := w.q
    rw [over_n hle2, hn2]
    refine ⟨bs, w1.frame fun b hb => ?_, w2, w3⟩
    have := w3 b hb
    exact ⟨by rw [over_n hle2]; omega, by rw [over_ge this.1]; exact hg2 b (w1.scaB b hb)⟩
  cases off with
  | true =>
    obtain ⟨a1, a2, a3⟩ := ov h1 rfl (fun _ _ => rfl)
    refine ⟨h.over h1, fun R k => ?_, a1, a2, a3⟩
    unfold pcallF
    rw [hc, Vm.ob]
    unfold fchk
    rw [if_pos (.inl rfl)]; rfl
  | false =>
    obtain ⟨a1, a2, a3⟩ := ov (scrub h.n h1) rfl (fun b hb => scrub_g hb)
    refine ⟨h.over (scrub h.n h1), fun R k => ?_, a1, a2, a3⟩
    unfold pcallF
    rw [hc, Vm.ob]
    unfold fchk
    rw [if_pos (.inr w.q.scaV)]; rfl
/-- .. of one value -/
theorem pVx {cl : Nat → List V → H → Option (V × H)} {g : Nat} {off : Bool} {xs : List V} {h : H} {n d : Nat} {y f : S} {h1 : H} (hn : h.n = n) (hc : cl g xs (D n) = some (.s y, h1)) (hle : n ≤ h1.n) (w : OwnF d y f n h1.n h1) :
    ∃ h', (∀ (R : Type) (k : V → H → Option R), pcallF cl g off xs h k = k (.s y) h') ∧ Up h h' ∧ n ≤ h'.n ∧ Sep (OwnF d y f n h'.n) n h'.n h' ∧ HExt h h' := by
  subst hn
  have ov : ∀ h2 : H, h2.n = h1.n → (∀ b, (h1.g b).cells.all scaS = true → h2.g b = h1.g b) → Up h (h.over h2) ∧ h.n ≤ (h.over h2).n ∧ Sep (OwnF d y f h.n (h.over h2).n) h.n (h.over h2).n (h.over h2) ∧ HExt h (h.over h2) := fun h2 hn2 hg2 => by
    have hle2 : h.n ≤ h2.n := by omega
    refine ⟨up_over hle2, by rw [over_n hle2]; omega, OwnF.sep ?_ (Nat.le_refl _), ⟨by rw [over_n hle2]; omega, fun b hb => .inr (over_lt hb)⟩⟩
    obtain ⟨bs, w1, w2, w3⟩ := w
    rw [over_n hle2, hn2]
    refine ⟨bs, w1.frame fun b hb => ?_, w2, w3⟩
    have := w3 b hb
    exact ⟨by rw [over_n hle2]; omega, by rw [over_ge this.1]; exact hg2 b (w1.scaB b hb)⟩
  cases off with
  | true =>
    obtain ⟨a1, a2, a3⟩ := ov h1 rfl (fun _ _ => rfl)
    refine ⟨h.over h1, fun R k => ?_, a1, a2, a3⟩
    unfold pcallF
    rw [hc, Vm.ob]
    unfold fchk
    rw [if_pos (.inl rfl)]; rfl
  | false =>
    obtain ⟨a1, a2, a3⟩ := ov (scrub h.n h1) rfl (fun b hb => scrub_g hb)
    refine ⟨h.over (scrub h.n h1), fun R k => ?_, a1, a2, a3⟩
    unfold pcallF
    rw [hc, Vm.ob]
    unfold fchk
    rw [if_pos (.inr (by obtain ⟨bs, w1, _⟩ := w; exact w1.sca))]; rfl
theorem pV {cl : Nat → List V → H → Option (V × H)} {g : Nat} {off : Bool} {xs : List V} {h : H} {n d : Nat} {y f : S} {h1 : H} (hn : h.n = n) (hc : cl g xs (D n) = some (.s y, h1)) (hle : n ≤ h1.n) (w : OwnF d y f n h1.n h1) :
    ∃ h', (∀ (R : Type) (k : V → H → Option R), pcallF cl g off xs h k = k (.s y) h') ∧ Up h h' ∧ n ≤ h'.n ∧ Sep (OwnF d y f n h'.n) n h'.n h' := by
  obtain ⟨h', a, b, c, d, _⟩ := pVx (off := off) hn hc hle w
  exact ⟨h', a, b, c, d⟩
theorem NewC.p {f d : Nat} {xs : List V} {h : H} {ys fs : List S} (hd : d ≤ 8) (hc : call Ev f xs (D 0) = some (.agg ys, h)) (w : NewC d ys fs 0 h) : pureV (call Ev) f xs = some (.agg fs) := by
  unfold pureV
  rw [hc, Vm.ob]
  exact w.q.frz hd

theorem bel_mono {n m : Nat} (h : n ≤ m) {s : S} (hs : belS n s = true) : belS m s = true := by
  cases s with
  | ptr p => cases p <;> simp_all [belS]; omega
  | sl p k => cases p <;> simp_all [belS]; omega
  | fn f cap =>
    simp only [belS, List.all_eq_true, decide_eq_true_eq] at hs ⊢
    intro x hx
    have := hs x hx
    omega
  | _ => exact hs
/-- what leads to new blocks is not let go -/
theorem no_tidy {h h' : H} {l : List V} {b e : Nat} {cs : List S} (hb : b < h.n) (hg : h'.g b = .rw e cs) (hc : cs.all (belS h.n) = false) (hX : (h.g b).cells.all (belS h.n) = true) : tidy h l h' = h' := by
  unfold tidy
  rw [if_neg]
  rintro ⟨_, _, h3⟩
  rcases h3 b hb with ⟨h4, _⟩ | h4
  · rw [← h4, hg] at hX
    rw [show (Blk.rw e cs).cells = cs from rfl, hc] at hX
    cases hX
  · rw [hg, show (Blk.rw e cs).cells = cs from rfl, hc] at h4
    cases h4
theorem no_tidy_v {h h' : H} {l : List V} (hl : l.all (belV h.n) = false) : tidy h l h' = h' := by
  unfold tidy
  rw [if_neg]
  rintro ⟨_, h2, _⟩
  rw [hl] at h2
  cases h2

/-! slices that are filled row by row -/
section
variable {α : Type} {cs : α → List S}
theorem fill_rep {z b d n0 : Nat} {L : Nat → H → Option LOut} {fin : List V} {all : List α} (hz0 : 0 < z) (hz : ∀ a, (cs a).length = z)
    (step : ∀ (i : Nat) (a : α) (h : H) (X : List S), all[i]? = some a → b < h.n → n0 ≤ h.n → h.g b = .rw z X → X.length = all.length * z → X.all (belS h.n) = true →
      ∃ h' row bs, L i h = L (i + 1) h' ∧ h.n ≤ h'.n ∧ h'.g b = .rw z (setAt X (i * z) row) ∧ RepL (Rep h' d) row (cs a) bs ∧ bs.Nodup ∧ (∀ c ∈ bs, h.n ≤ c) ∧ ∀ c, c < h.n → c ≠ b → h'.g c = h.g c)
    (last : ∀ h, L all.length h = some (.done fin h)) :
    ∀ (q i : Nat) (h : H) (ys tail : List S) (bs : List Nat), i + q = all.length → b < h.n → n0 ≤ h.n → b < n0 → h.g b = .rw z (ys ++ tail) → tail.length = q * z → tail.all (belS n0) = true → RepL (Rep h d) ys ((all.take i).map cs).flatten bs → bs.Nodup → (∀ c ∈ bs, n0 ≤ c) →
    ∃ h' ys' bs', L i h = some (.done fin h') ∧ h.n ≤ h'.n ∧ h'.g b = .rw z ys' ∧ RepL (Rep h' d) ys' (all.map cs).flatten bs' ∧ bs'.Nodup ∧ (∀ c ∈ bs', n0 ≤ c) ∧ ∀ c, c < h.n → c ≠ b → c ∉ bs → h'.g c = h.g c := by
  intro q
  induction q with
  | zero =>
    intro i h ys tail bs hi hb hn hbn hg ht htb w hd hbs
    obtain rfl : i = all.length := by omega
    have : tail = [] := List.eq_nil_of_length_eq_zero (by omega)
    subst this
    exact ⟨h, ys, bs, last h, Nat.le_refl _, by simpa using hg, by simpa using w, hd, hbs, fun _ _ _ _ => rfl⟩
  | succ q ih =>
    intro i h ys tail bs hi hb hn hbn hg ht htb w hd hbs
    have hil : i < all.length := by omega
    have ha : all[i]? = some all[i] := List.getElem?_eq_getElem hil
    have hyl : ys.length = i * z := by
      rw [w.len, flat_len (z := z) (fun r hr => by obtain ⟨a, _, rfl⟩ := List.mem_map.1 hr; exact hz a)]
      rw [List.length_map, List.length_take, Nat.min_eq_left (by omega)]
    have htl : tail.length = z + q * z := by rw [ht, Nat.succ_mul]; omega
    have hX : (ys ++ tail).length = all.length * z := by
      rw [List.length_append, hyl, ht, ← Nat.add_mul, hi]
    obtain ⟨h1, row, b1, e1, n1, g1, r1, d1, f1, o1⟩ := step i all[i] h (ys ++ tail) ha hb hn hg hX (by
      rw [List.all_append, w.top w.lt, Bool.true_and]
      rw [List.all_eq_true] at htb ⊢
      exact fun s hs => bel_mono hn (htb s hs))
    have hrl : row.length = z := r1.len.trans (hz _)
    have hbl : ∀ c ∈ bs, c < h.n := w.lt
    have hdis : ∀ c ∈ bs, ∀ c' ∈ b1, c ≠ c' := fun c hc c' hc' hh => by have := hbl c hc; have := f1 c' hc'; omega
    have w' : RepL (Rep h1 d) (ys ++ row) ((all.take (i + 1)).map cs).flatten (bs ++ b1) := by
      have e : (all.take (i + 1)) = all.take i ++ [all[i]] := by rw [List.take_add_one, ha]; rfl
      rw [e, List.map_append, List.flatten_append]
      refine RepL.append (w.frame fun c hc => ⟨by have := hbl c hc; omega, o1 c (hbl c hc) (fun hh => by have := hbs c hc; omega)⟩) ?_
      simpa using r1
    rw [setAt_at hyl hrl] at g1
    obtain ⟨h2, ys2, bs2, e2, n2, g2, r2, d2, f2, o2⟩ := ih (i + 1) h1 (ys ++ row) (tail.drop z) (bs ++ b1) (by omega) (by omega) (by omega) hbn g1 (by rw [List.length_drop]; omega) (by rw [List.all_eq_true] at htb ⊢; exact fun s hs => htb s (List.mem_of_mem_drop hs)) w' (List.nodup_append.2 ⟨hd, d1, hdis⟩) (fun c hc => by
      rcases List.mem_append.1 hc with hc | hc
      · exact hbs c hc
      · have := f1 c hc; omega)
    refine ⟨h2, ys2, bs2, by rw [e1, e2], by omega, g2, r2, d2, f2, fun c hc hcb hcs => ?_⟩
    rw [o2 c (by omega) hcb (fun hh => ?_), o1 c hc hcb]
    rcases List.mem_append.1 hh with hh | hh
    · exact hcs hh
    · have := f1 c hh; omega
end
end Vm
/-
  Results of a code and one value, as they are made at the end of a function.
-/
namespace Vm
open Go
theorem sc1 {k : IntKind} {c : Int} : ∀ s ∈ [S.int k c], Sc s := by intro s hs; rw [List.mem_singleton.1 hs]; trivial
/-- a fault -/
theorem bad2C (n : Nat) (c : Int) : ∃ h', (stK 2 ((D n).new 0 [.int .i64 0, .sl none 0]) (pv ((D n).n) 0) (.agg [.int .i64 c, .sl none 0]) fun h105 =>
      (loadN 2 h105 (pv ((D n).n) 0)).bind fun c106 => some (V.agg c106, h105)) = some (.agg [.int .i64 c, .sl none 0], h') ∧ NewC 4 [.int .i64 c, .sl none 0] [.int .i64 c, .fs []] n h' := by
  rw [st2_new, loadN_2 (by simp) (by exact g_st), Vm.ob]
  refine ⟨_, rfl, by simp, [], ?_, by simp, by simp⟩
  exact RepL.cons (bs := []) (Rep.sc trivial) (RepL.cons (bs := []) Rep.nil .nil)
/-- a value put into a result that stands in block n -/
theorem fin2S {n d : Nat} {K : H} {y f : S} (hn : n < K.n) (g : K.g n = .rw 0 [.int .i64 0, .sl none 0]) (w : OwnF d y f (n + 1) K.n K) {c : Int} :
    ∃ h', (stK 2 K (pv n 0) (.agg [.int .i64 c, y]) fun h116 => (loadN 2 h116 (pv n 0)).bind fun c117 => some (V.agg c117, h116)) = some (.agg [.int .i64 c, y], h') ∧ NewC d [.int .i64 c, y] [.int .i64 c, f] n h' := by
  rw [stK_rw (z := 2) (e := 0) (o := 0) (b := n) (cs := [.int .i64 0, .sl none 0]) (r := [.int .i64 c, y]) hn g (.inr rfl) rfl (by simp)]
  rw [show setAt [.int .i64 0, .sl none 0] 0 [.int .i64 c, y] = [.int .i64 c, y] from rfl]
  rw [loadN_2 (b := n) (e := 0) (by rw [put_n]; omega) (put_g _ _ _), ob]
  obtain ⟨bs, w1, w2, w3⟩ := w
  refine ⟨_, rfl, by rw [put_n]; omega, ?_⟩
  refine OwnF.c (pre := [.int .i64 c]) sc1 ⟨bs, w1.frame fun b hb => ?_, w2, fun b hb => ?_⟩
  · have := w3 b hb
    exact ⟨by rw [put_n]; omega, put_g' (by omega)⟩
  · have := w3 b hb
    rw [put_n]; omega
theorem cells2 {R : Type} {y : S} (hy : isNo y = false) {k : Int → S → Option R} :
    (cellsK (.s y) fun c112 =>
      if c112.length = 1 ∧ 1 + 1 ≤ ([.int .i64 0, .sl none 0] : List S).length then
      ((setAt ([.int .i64 0, .sl none 0] : List S) 1 c112)[0]?).bind fun x113 =>
      gI .i64 x113 fun i114 =>
      ((setAt ([.int .i64 0, .sl none 0] : List S) 1 c112)[1]?).bind fun x115 =>
      if (setAt ([.int .i64 0, .sl none 0] : List S) 1 c112).length = 2 then k i114 x115 else none else none) = k 0 y := by
  simp only [cellsK, hy, cond_false, ln0, ln1, Nat.zero_add, Nat.reduceAdd, Nat.le_refl, and_self, if_true]
  rw [show setAt [.int .i64 0, .sl none 0] 1 [y] = [.int .i64 0, y] from rfl]
  simp only [gx0, gx1, ob, gI_i, ln0, ln1, Nat.zero_add, Nat.reduceAdd, if_true]
theorem fin2 {g n d : Nat} {xs : List V} {y f : S} {h1 : H} {off : Bool} (hc : call Ev g xs (D (n + 1)) = some (.s y, h1)) (hle : n + 1 ≤ h1.n) (w : OwnF d y f (n + 1) h1.n h1) :
    ∃ h', (pcallF (call Ev) g off xs ((D n).new 0 [.int .i64 0, .sl none 0]) fun v110 h111 =>
      cellsK v110 fun c112 =>
      if c112.length = 1 ∧ 1 + 1 ≤ ([.int .i64 0, .sl none 0] : List S).length then
      ((setAt ([.int .i64 0, .sl none 0] : List S) 1 c112)[0]?).bind fun x113 =>
      gI .i64 x113 fun i114 =>
      ((setAt ([.int .i64 0, .sl none 0] : List S) 1 c112)[1]?).bind fun x115 =>
      if (setAt ([.int .i64 0, .sl none 0] : List S) 1 c112).length = 2 then
      stK 2 h111 (pv ((D n).n) 0) (.agg [.int .i64 i114, x115]) fun h116 =>
      (loadN 2 h116 (pv ((D n).n) 0)).bind fun c117 =>
      some (V.agg c117, h116)
      else none
      else none) = some (.agg [.int .i64 0, y], h') ∧ NewC d [.int .i64 0, y] [.int .i64 0, f] n h' := by
  obtain ⟨K, e, u, hn, w'⟩ := pV (h := (D n).new 0 [.int .i64 0, .sl none 0]) (off := off) (n := n + 1) (by simp) hc hle w
  have hy : isNo y = false := by obtain ⟨bs, w1, _⟩ := w; exact w1.isNo
  rw [e]
  rw [cells2 hy]
  exact fin2S (K := K) (by omega) (by rw [u.g n (by simp)]; exact new_g (D n) _ _) w'.now
/-- a marked result of bytes -/
theorem r_markBC {h : H} {c : Int} {y : S} {l : List UInt8} {lo hi k : Nat} (w : Sep (OwnC 4 [.int .i64 c, y] [.int .i64 c, .fs (bys l)] lo hi) lo hi h) (hl : k + l.length < 2 ^ 62) :
    ∃ p, call Ev Fn.laws_markBytesResult [.agg [.int .i64 c, y], iv .i64 k] h = some (iv .i64 ((k + l.length : Nat) : Int), p) ∧ Sep (OwnC 4 [.int .i64 c, y] [.int .i64 c, .fs (bys (marks k l.length))] lo hi) lo hi (tidy h [iv .i64 ((k + l.length : Nat) : Int)] p) ∧ ButR lo hi h (tidy h [iv .i64 ((k + l.length : Nat) : Int)] p) := by
  obtain ⟨bs, w1, w2, w3⟩ := OwnC.f (pre := [.int .i64 c]) sc1 w.now
  have ht := w.top
  rw [eq_laws_markBytesResult]
  have l1 : load1 (h.new 0 [.int .i64 c, y]) (pv h.n 1) = some y := by simp [load1, H.cells, Blk.cells]
  rw [l1, Vm.ob]
  have w1' : Rep (h.new 0 [.int .i64 c, y]) 4 y (.fs (bys l)) bs := w1.frame fun b hb => ⟨by have := w1.lt b hb; simp; omega, new_g' (by have := w1.lt b hb; omega)⟩
  obtain ⟨p, e1, r1, n1, o1⟩ := w1'.mark (k := k) hl
  rw [e1, Vm.ob]
  simp only [gV1_s, gI_i]
  have t1 : tidy (h.new 0 [.int .i64 c, y]) [iv .i64 ((k + l.length : Nat) : Int)] p = p := tidy_same n1 fun d hd => o1 d fun hh => by have := w3 d hh; simp at hd; omega
  rw [t1]
  exact ⟨p, rfl, markC (pre := [.int .i64 c]) sc1 w3 w2 ht r1 (by rw [n1]; simp) (fun d hd hdn => by
    have := o1 d hd
    refine ⟨this.1.trans (new_g' (by omega)), this.2.trans ?_⟩
    simp [H.new, show d ≠ h.n by omega]) (fun hh => by rw [n1] at hh; simp at hh)⟩
end Vm
/-
  Runs as arguments and as results of a law.
-/
namespace Vm
open Go
/-- runs in a stretch of blocks -/
def OwnRs (v : V) (rs : List RunD) (lo hi : Nat) (h : H) : Prop := ∃ y, v = .s y ∧ OwnF 4 y (.fs (runs rs)) lo hi h
theorem OwnRs.frz {v : V} {rs : List RunD} {lo hi : Nat} {h : H} (w : OwnRs v rs lo hi h) : frzV h v = some (lv (runs rs)) := by
  obtain ⟨y, rfl, w⟩ := w
  exact w.frz
theorem OwnRs.sep {v : V} {rs : List RunD} {lo hi : Nat} {h : H} (w : OwnRs v rs lo hi h) (hn : hi ≤ h.n) : Sep (OwnRs v rs lo hi) lo hi h := ⟨hn, fun h' hn' hg => by
  obtain ⟨y, rfl, w⟩ := w
  exact ⟨y, rfl, (w.sep hn).q h' hn' hg⟩⟩
theorem f_toRunS {all : List RunD} (hl : all.length ≤ lim) (hr : ∀ r ∈ all, r.l.length ≤ lim) (n : Nat) : ∃ v h', call Ev Fn.laws_toRunS [lv (runs all)] (D n) = some (v, h') ∧ (n ≤ h'.n ∧ OwnRs v all n h'.n h') ∧ belV n v = false := by
  have hl' := hl
  unfold lim at hl'
  rw [eq_laws_toRunS, runs_len, mkSl_of (z := 2) (zero := [.int .i64 0, .sl none 0]) hl (by omega) rfl, ob]
  generalize hG : (D n).new 2 ((List.replicate all.length [.int .i64 0, .sl none 0]).flatten) = G
  have gn : G.n = n + 1 := by rw [← hG]; simp
  have gg : G.g n = .rw 2 ((List.replicate all.length [.int .i64 0, .sl none 0]).flatten) := by rw [← hG]; exact new_g (D n) _ _
  obtain ⟨h', ys, bs, e1, n1, g1, r1, d1, f1, _⟩ := fill_rep (z := 2) (b := n) (d := 1) (n0 := n + 1) (cs := RunD.cs) (all := all) (L := fun i h => Lp.laws_toRunS 0 [lv (runs all), sv n 0 all.length, iv .i64 i] h) (fin := [sv n 0 all.length]) (by omega) (fun _ => rfl)
    (fun i a h X ha hb hn hg hX hXb => by
      have hi : i < all.length := (List.getElem?_eq_some_iff.1 ha).1
      show ∃ h' row bs, Lp.laws_toRunS 0 _ h = _ ∧ _
      rw [eq_laws_toRunS_l0, vcase_b, if_pos (by simp; omega), idxF_run ha, rowN_run]
      simp only [ob, gx0, gx1, gI_i, gF_f, ln0, ln1, Nat.zero_add, Nat.reduceAdd, if_true]
      obtain ⟨y, h1, bs, e1, r1, d1, f1, n1, t1⟩ := f_toRun a (hr a (List.mem_of_getElem? ha)) h.n
      obtain ⟨h2, e2, u2, n2, w2⟩ := pC (h := h) (off := true) rfl e1 (⟨n1, by simpa using OwnF.c (pre := [.int .i64 a.at_]) (by intro s hs; rw [List.mem_singleton.1 hs]; trivial) ⟨bs, r1, d1, f1⟩⟩ : NewC 1 [.int .i64 a.at_, y] [.int .i64 a.at_, .fs (bys a.l)] h.n h1)
      rw [e2]
      simp only [ob, gVA_a, gx0, gx1, gI_i, ln0, ln1, Nat.zero_add, Nat.reduceAdd, if_true]
      obtain ⟨bs2, r2, d2, f2⟩ := w2.now
      have hg2 := (u2.g n hb).trans hg
      rw [idxK_sv hi, stK_rw (z := 2) (e := 2) (o := i * 2) (b := n) (cs := X) (r := [.int .i64 a.at_, y]) (by omega) hg2 (.inr rfl) rfl (by omega), w64 (by omega) (by omega), show (i : Int) + 1 = ((i + 1 : Nat) : Int) from by omega]
      have ht : ∀ l, tidy h l (h2.put n (.rw 2 (setAt X (i * 2) [.int .i64 a.at_, y]))) = h2.put n (.rw 2 (setAt X (i * 2) [.int .i64 a.at_, y])) := fun l => no_tidy (b := n) hb (put_g _ _ _) (by
        rw [Bool.eq_false_iff]
        intro hh
        have := List.all_eq_true.1 hh y (by unfold setAt; simp)
        rw [t1] at this; cases this) (by rw [hg]; exact hXb)
      rw [ht]
      refine ⟨_, [.int .i64 a.at_, y], bs2, rfl, by rw [put_n]; omega, put_g _ _ _, r2.frame fun c hc => ?_, d2, fun c hc => (f2 c hc).1, fun c hc hcb => ?_⟩
      · have := f2 c hc
        exact ⟨by rw [put_n]; exact r2.lt c hc, put_g' (by omega)⟩
      · rw [put_g' hcb]; exact u2.g c hc)
    (fun h => by
      show Lp.laws_toRunS 0 _ h = _
      rw [eq_laws_toRunS_l0, vcase_b, if_neg (by simp), tidy_self])
    all.length 0 G [] ((List.replicate all.length [.int .i64 0, .sl none 0]).flatten) [] (by omega) (by omega) (by omega) (by omega) (by simpa using gg) (repl_len rfl) (by
      rw [List.all_eq_true]
      intro s hs
      obtain ⟨r, hr, hs⟩ := List.mem_flatten.1 hs
      rw [List.eq_of_mem_replicate hr] at hs
      rcases List.mem_cons.1 hs with rfl | hs
      · rfl
      · rw [List.mem_singleton.1 hs]; rfl) (by simpa using RepL.nil) (by simp) (by simp)
  rw [D_n, show iv .i64 0 = iv .i64 ((0 : Nat) : Int) from rfl, e1]
  simp only [ob, lcase_done, gx0]
  refine ⟨_, _, rfl, ⟨by omega, _, rfl, n :: bs, ?_, ?_, ?_⟩, by simp [belV, belS]⟩
  · have := Rep.sl (d := 1) (h := h') (b := n) (z := 2) (rows := runs all) (by omega) (by omega) g1 runs_row r1
    rw [runs_len] at this
    exact this.lifts (by omega)
  · exact List.nodup_cons.2 ⟨fun hh => by have := f1 n hh; omega, d1⟩
  · intro c hc
    rcases List.mem_cons.1 hc with rfl | hc
    · omega
    · have := f1 c hc
      have := r1.lt c hc
      omega
theorem OwnRs.pv {cl : Nat → List V → H → Option (V × H)} {g : Nat} {off : Bool} {xs : List V} {h : H} {n : Nat} {v : V} {rs : List RunD} {h1 : H} (hn : h.n = n) (hc : cl g xs (D n) = some (v, h1)) (hw : n ≤ h1.n ∧ OwnRs v rs n h1.n h1) :
    ∃ h', (∀ (R : Type) (k : V → H → Option R), pcallF cl g off xs h k = k v h') ∧ Up h h' ∧ n ≤ h'.n ∧ Sep (OwnRs v rs n h'.n) n h'.n h' := by
  obtain ⟨hle, y, rfl, w⟩ := hw
  obtain ⟨h', e, u, hn', w'⟩ := pV (off := off) hn hc hle w
  exact ⟨h', e, u, hn', OwnRs.sep ⟨y, rfl, w'.now⟩ (Nat.le_refl _)⟩
theorem OwnRs.mark {h : H} {v : V} {rs : List RunD} {lo hi k : Nat} (w : Sep (OwnRs v rs lo hi) lo hi h) (hl : k + rsz rs < 2 ^ 62) :
    ∃ p, call Ev Fn.laws_markRunS [v, iv .i64 k] h = some (iv .i64 ((k + rsz rs : Nat) : Int), p) ∧ Sep (OwnRs v (mkRs k rs) lo hi) lo hi (tidy h [iv .i64 ((k + rsz rs : Nat) : Int)] p) ∧ ButR lo hi h (tidy h [iv .i64 ((k + rsz rs : Nat) : Int)] p) := by
  obtain ⟨y, rfl, bs, w1, w2, w3⟩ := w.now
  obtain ⟨p, e1, r1, n1, o1⟩ := w1.markRs (k := k) w2 hl
  have ht := w.top
  have t : tidy h [iv .i64 ((k + rsz rs : Nat) : Int)] p = p := tidy_same n1 fun c hc => o1 c (fun hh => by have := w3 c hh; omega)
  refine ⟨p, e1, ?_, ?_⟩
  · rw [t]; exact OwnRs.sep ⟨y, rfl, bs, r1, w2, w3⟩ (by rw [n1]; exact ht)
  · rw [t]; exact ⟨n1, fun c hc => (o1 c fun hh => by have := w3 c hh; omega).1⟩
theorem mkRs_cons (k : Nat) (r : RunD) (rs : List RunD) : mkRs k (r :: rs) = mkR k r :: mkRs (k + (1 + r.l.length)) rs := rfl
theorem mkRs_len (k : Nat) (rs : List RunD) : (mkRs k rs).length = rs.length := mkAll_len _ _ _ _
theorem p_heldRs {k : Nat} {rs : List RunD} (hk : k + rsz rs < 2 ^ 62) : pureV (call Ev) Fn.laws_heldRunS [lv (runs (mkRs k rs)), iv .i64 k] = some (iv .i64 ((k + rsz rs : Nat) : Int)) := by
  have hrl := rsz_len rs
  have loop : ∀ (q : List RunD) (i k' : Nat), (mkRs k rs).drop i = mkRs k' q → k' + rsz q = k + rsz rs → i + q.length = rs.length →
      Lp.laws_heldRunS 0 [lv (runs (mkRs k rs)), iv .i64 k', iv .i64 i] (D 0) = some (.done [iv .i64 ((k + rsz rs : Nat) : Int)] (D 0)) := by
    intro q
    induction q with
    | nil =>
      intro i k' hd hs hi
      simp only [List.length_nil] at hi
      rw [eq_laws_heldRunS_l0, vcase_b, runs_len, mkRs_len, if_neg (by simp; omega), tidy_self, ← hs]
      rfl
    | cons r q ih =>
      intro i k' hd hs hi
      rw [mkRs_cons] at hd
      rw [rsz_cons] at hs
      simp only [List.length_cons] at hi
      obtain ⟨g1, g2, _⟩ := drop_cons hd
      rw [eq_laws_heldRunS_l0, vcase_b, runs_len, mkRs_len, if_pos (by simp; omega), idxF_run g1]
      simp only [gx0, gx1, ob, gI_i, gF_f]
      rw [vcase_b, if_neg (by simp [mkR]), idxF_run g1]
      simp only [gx0, gx1, ob, gI_i, gF_f]
      rw [w64 (n := (k' : Int) + 1) (by omega) (by omega), show (k' : Int) + 1 = ((k' + 1 : Nat) : Int) from by omega, show (mkR k' r).l = Vm.marks (k' + 1) r.l.length from rfl, pc (p_held (by omega)) rfl]
      simp only [gV1_s, gI_i, vcase_b]
      rw [if_neg (by simp; omega), w64 (n := (i : Int) + 1) (by omega) (by omega), tidy_self, show (i : Int) + 1 = ((i + 1 : Nat) : Int) from by omega]
      exact ih (i + 1) (k' + 1 + r.l.length) (by rw [g2, Nat.add_assoc]) (by omega) (by omega)
  rw [pu_laws_heldRunS, show iv .i64 0 = iv .i64 ((0 : Nat) : Int) from rfl, loop rs 0 k (by simp) rfl (by simp), ob, lcase_done]
  simp only [gx0, ob, gV1_s, gI_i]
theorem p_toRunS {all : List RunD} (hl : all.length ≤ lim) (hr : ∀ r ∈ all, r.l.length ≤ lim) : pureV (call Ev) Fn.laws_toRunS [lv (runs all)] = some (lv (runs all)) := by
  obtain ⟨v, h', e, ⟨_, w⟩, _⟩ := f_toRunS hl hr 0
  unfold pureV
  rw [e, ob, w.frz]
end Vm
/-
  Records as arguments.
-/
namespace Vm
open Go
theorem loadN_4 {e b : Nat} {h : H} {x y z u : S} (hb : b < h.n) (hg : h.g b = .rw e [x, y, z, u]) : loadN 4 h (pv b 0) = some [x, y, z, u] := loadN_rw hb hg (by simp)
theorem st4_new {R : Type} {h : H} {x y z u a b c d : S} {k : H → Option R} : stK 4 (h.new 0 [a, b, c, d]) (pv h.n 0) (.agg [x, y, z, u]) k = k ((h.new 0 [a, b, c, d]).put h.n (.rw 0 [x, y, z, u])) :=
  stK_rw (z := 4) (e := 0) (o := 0) (b := h.n) (cs := [a, b, c, d]) (r := [x, y, z, u]) (by simp) (new_g _ _ _) (.inr rfl) rfl (by simp)
theorem sc3 {a b c : Int} : ∀ s ∈ [S.int .i64 a, .int .i64 b, .int .i64 c], Sc s := by
  intro s hs
  simp only [List.mem_cons, List.not_mem_nil, or_false] at hs
  rcases hs with rfl | rfl | rfl <;> trivial
theorem f_toRecord (r : RecD) (hl : r.rs.length ≤ lim) (hr : ∀ x ∈ r.rs, x.l.length ≤ lim) (n : Nat) : ∃ y h', call Ev Fn.laws_toRecord [.agg r.cs] (D n) = some (.agg [.int .i64 r.kind, .int .i64 r.tx, .int .i64 r.page, y], h') ∧ NewC 4 [.int .i64 r.kind, .int .i64 r.tx, .int .i64 r.page, y] r.cs n h' ∧ belS n y = false := by
  obtain ⟨k, t, p, rs⟩ := r
  rw [eq_laws_toRecord]
  generalize hG : (((D n).new 0 [.int .i64 k, .int .i64 t, .int .i64 p, .fs (runs rs)]).new 0 [.int .i64 0, .int .i64 0, .int .i64 0, .sl none 0]).new 0 [.int .i64 0, .int .i64 0, .int .i64 0, .sl none 0] = G
  have gn : G.n = n + 3 := by rw [← hG]; simp
  have g0 : G.g n = .rw 0 [.int .i64 k, .int .i64 t, .int .i64 p, .fs (runs rs)] := by rw [← hG, new_g' (by simp; omega), new_g' (by simp)]; exact new_g (D n) _ _
  have g1 : G.g (n + 1) = .rw 0 [.int .i64 0, .int .i64 0, .int .i64 0, .sl none 0] := by rw [← hG, new_g' (by simp)]; exact new_g ((D n).new 0 [.int .i64 k, .int .i64 t, .int .i64 p, .fs (runs rs)]) _ _
  have g2 : G.g (n + 2) = .rw 0 [.int .i64 0, .int .i64 0, .int .i64 0, .sl none 0] := by rw [← hG]; exact new_g (((D n).new 0 [.int .i64 k, .int .i64 t, .int .i64 p, .fs (runs rs)]).new 0 [.int .i64 0, .int .i64 0, .int .i64 0, .sl none 0]) _ _
  clear hG
  have ld : ∀ {h : H} {b o e : Nat} {X : List S}, b < h.n → h.g b = .rw e X → load1 h (pv b o) = X[o]? := fun hb hg => by simp [load1, H.cells, hb, hg, Blk.cells]
  simp only [new_n, D_n]
  rw [ld (by omega) g0]
  simp only [gx0, ob, gI_i]
  rw [stK_rw (z := 1) (e := 0) (o := 0) (b := n + 1 + 1) (cs := [.int .i64 0, .int .i64 0, .int .i64 0, .sl none 0]) (r := [.int .i64 k]) (by omega) g2 (.inl ⟨_, rfl, rfl, rfl⟩) rfl (by simp)]
  rw [show setAt [.int .i64 0, .int .i64 0, .int .i64 0, .sl none 0] 0 [.int .i64 k] = [.int .i64 k, .int .i64 0, .int .i64 0, .sl none 0] from rfl]
  rw [ld (b := n) (by rw [put_n]; omega) (by rw [put_g' (by omega)]; exact g0)]
  simp only [gx0, gx1, ob, gI_i]
  rw [stK_rw (z := 1) (e := 0) (o := 1) (b := n + 1 + 1) (cs := [.int .i64 k, .int .i64 0, .int .i64 0, .sl none 0]) (r := [.int .i64 t]) (by rw [put_n]; omega) (put_g _ _ _) (.inl ⟨_, rfl, rfl, rfl⟩) rfl (by simp)]
  rw [show setAt [.int .i64 k, .int .i64 0, .int .i64 0, .sl none 0] 1 [.int .i64 t] = [.int .i64 k, .int .i64 t, .int .i64 0, .sl none 0] from rfl]
  rw [ld (b := n) (by rw [put_n, put_n]; omega) (by rw [put_g' (by omega), put_g' (by omega)]; exact g0)]
  simp only [gx0, gx1, ob, gI_i]
  rw [stK_rw (z := 1) (e := 0) (o := 2) (b := n + 1 + 1) (cs := [.int .i64 k, .int .i64 t, .int .i64 0, .sl none 0]) (r := [.int .i64 p]) (by rw [put_n, put_n]; omega) (put_g _ _ _) (.inl ⟨_, rfl, rfl, rfl⟩) rfl (by simp)]
  rw [show setAt [.int .i64 k, .int .i64 t, .int .i64 0, .sl none 0] 2 [.int .i64 p] = [.int .i64 k, .int .i64 t, .int .i64 p, .sl none 0] from rfl]
  generalize hK : ((G.put (n + 1 + 1) (.rw 0 [.int .i64 k, .int .i64 0, .int .i64 0, .sl none 0])).put (n + 1 + 1) (.rw 0 [.int .i64 k, .int .i64 t, .int .i64 0, .sl none 0])).put (n + 1 + 1) (.rw 0 [.int .i64 k, .int .i64 t, .int .i64 p, .sl none 0]) = K
  have kn : K.n = n + 3 := by rw [← hK, put_n, put_n, put_n, gn]
  have k0 : K.g n = .rw 0 [.int .i64 k, .int .i64 t, .int .i64 p, .fs (runs rs)] := by rw [← hK, put_g' (by omega), put_g' (by omega), put_g' (by omega)]; exact g0
  have k1 : K.g (n + 1) = .rw 0 [.int .i64 0, .int .i64 0, .int .i64 0, .sl none 0] := by rw [← hK, put_g' (by omega), put_g' (by omega), put_g' (by omega)]; exact g1
  have k2 : K.g (n + 2) = .rw 0 [.int .i64 k, .int .i64 t, .int .i64 p, .sl none 0] := by rw [← hK]; exact put_g _ _ _
  clear hK g0 g1 g2 gn
  rw [ld (by omega) k0]
  simp only [gx0, gx1, ob]
  rw [show frzVs K [.s (.fs (runs rs))] = some [lv (runs rs)] from frzVs_cons frzV_lv frzVs_nil, ob, norm_nil]
  obtain ⟨v, h1, e1, w1, b1⟩ := f_toRunS hl hr K.n
  obtain ⟨M, e2, u, mn, y, rfl, wo⟩ : ∃ h', (∀ (R : Type) (k : V → H → Option R), pcallF (call Ev) Fn.laws_toRunS ([V.s (.fs (runs rs))].all offV) [lv (runs rs)] K k = k v h') ∧ Up K h' ∧ K.n ≤ h'.n ∧ ∃ y, v = .s y ∧ OwnF 4 y (.fs (runs rs)) K.n h'.n h' := by
    obtain ⟨h', e, u, hn, w⟩ := OwnRs.pv (off := [V.s (.fs (runs rs))].all offV) rfl e1 w1
    obtain ⟨y, hy, w⟩ := w.now
    exact ⟨h', e, u, hn, y, hy, w⟩
  rw [e2]
  have u1 := (u.g (n + 1) (by omega)).trans k1
  have u2 := (u.g (n + 2) (by omega)).trans k2
  obtain ⟨bs, w2, w3, w4⟩ := wo
  rw [stK_rw (z := 1) (e := 0) (o := 3) (b := n + 1 + 1) (cs := [.int .i64 k, .int .i64 t, .int .i64 p, .sl none 0]) (r := [y]) (by omega) u2 (.inl ⟨_, rfl, rfl, w2.isNo⟩) rfl (by simp)]
  rw [show setAt [.int .i64 k, .int .i64 t, .int .i64 p, .sl none 0] 3 [y] = [.int .i64 k, .int .i64 t, .int .i64 p, y] from rfl]
  rw [loadN_4 (b := n + 1 + 1) (e := 0) (by rw [put_n]; omega) (put_g _ _ _)]
  simp only [gx0, gx1, ob, gI_i, ln0, ln1, Nat.zero_add, Nat.reduceAdd, if_true]
  rw [stK_rw (z := 4) (e := 0) (o := 0) (b := n + 1) (cs := [.int .i64 0, .int .i64 0, .int .i64 0, .sl none 0]) (r := [.int .i64 k, .int .i64 t, .int .i64 p, y]) (by rw [put_n]; omega) (by rw [put_g' (by omega)]; exact u1) (.inr rfl) rfl (by simp)]
  rw [show setAt [.int .i64 0, .int .i64 0, .int .i64 0, .sl none 0] 0 [.int .i64 k, .int .i64 t, .int .i64 p, y] = [.int .i64 k, .int .i64 t, .int .i64 p, y] from rfl]
  rw [loadN_4 (b := n + 1) (e := 0) (by rw [put_n, put_n]; omega) (put_g _ _ _), ob]
  have hb : belS n y = false := by
    rw [Bool.eq_false_iff]
    intro hh
    have : belV K.n (.s y) = true := bel_mono (by omega) hh
    rw [b1] at this; cases this
  refine ⟨y, _, rfl, ⟨by rw [put_n, put_n]; omega, ?_⟩, hb⟩
  refine OwnF.c (pre := [.int .i64 k, .int .i64 t, .int .i64 p]) sc3 ⟨bs, w2.frame fun c hc => ?_, w3, fun c hc => ?_⟩
  · have := w4 c hc
    exact ⟨by rw [put_n, put_n]; omega, by rw [put_g' (by omega), put_g' (by omega)]⟩
  · have := w4 c hc
    rw [put_n, put_n]; omega
theorem p_toRecord (r : RecD) (hl : r.rs.length ≤ lim) (hr : ∀ x ∈ r.rs, x.l.length ≤ lim) : pureV (call Ev) Fn.laws_toRecord [.agg r.cs] = some (.agg r.cs) := by
  obtain ⟨y, h', e, w, _⟩ := f_toRecord r hl hr 0
  exact NewC.p (by omega) e w
end Vm
/-
  A slice of rows of one's own that grows row by row.
-/
namespace Vm
open Go
structure OutS (z d : Nat) (y : S) (rows : List (List S)) (bs : List Nat) (h : H) : Prop where
  rep : Rep h (d + 1) y (.fs rows) bs
  nd : bs.Nodup
  ty : y = .sl none 0 ∨ ∃ b cs, y = .sl (some (b, 0)) rows.length ∧ h.g b = .rw z cs
  len : ∀ r ∈ rows, r.length = z
theorem OutS.none {z d : Nat} {h : H} : OutS z d (.sl none 0) [] [] h := ⟨Rep.nil, by simp, .inl rfl, by simp⟩
theorem OutS.frame {z d : Nat} {y : S} {rows : List (List S)} {bs : List Nat} {h h' : H} (w : OutS z d y rows bs h) (hb : ∀ b ∈ bs, b < h'.n ∧ h'.g b = h.g b) : OutS z d y rows bs h' := by
  refine ⟨w.rep.frame hb, w.nd, ?_, w.len⟩
  rcases w.ty with h1 | ⟨b, cs, h1, h2⟩
  · exact .inl h1
  · refine .inr ⟨b, cs, h1, ?_⟩
    have hbb : b ∈ bs := by
      rcases w.rep with ⟨⟨h3, _⟩ | ⟨h3, _⟩, _⟩ | ⟨b', z', cs', rows', bss, h3, _, h4, _⟩
      · rw [h1] at h3; exact h3.elim
      · rw [h1] at h3; cases h3
      · rw [h1] at h3
        injection h3 with h3 _
        injection h3 with h3
        injection h3 with h3 _
        rw [h4, h3]; simp
    rw [(hb b hbb).2]; exact h2
theorem app_row {z d : Nat} {y : S} {rows : List (List S)} {bs : List Nat} {h : H} {row fr : List S} {br : List Nat} (w : OutS z d y rows bs h) (wr : RepL (Rep h d) row fr br) (hz : fr.length = z) (hz0 : 0 < z) (hd : br.Nodup) (hdis : ∀ a ∈ bs, a ∉ br) (hl : rows.length + 1 ≤ lim) :
    ∃ h' bs', appS z (h.new z row) (.s y) (sv h.n 0 1) = some (sv (h.n + 1) 0 (rows.length + 1), h') ∧ OutS z d (.sl (some (h.n + 1, 0)) (rows.length + 1)) (rows ++ [fr]) bs' h' ∧ h'.n = h.n + 2 ∧ (∀ c ∈ bs', c = h.n + 1 ∨ c ∈ bs ∨ c ∈ br) ∧ (∀ c, c < h.n → c ∉ bs → h'.g c = h.g c) ∧ (∀ c, c < h.n → h'.g c = h.g c ∨ (h'.g c = .dead ∧ c ∈ bs)) ∧ ∃ cs0, h'.g (h.n + 1) = .rw z (cs0 ++ row) := by
  have hrow : row.length = z := wr.len.trans hz
  have hlt := w.rep.lt
  have hlr := wr.lt
  have cy : cellsS z (h.new z row) (sv h.n 0 1) = some row := by
    simp only [cellsS, H.cells, new_n, new_g, Blk.cells]
    rw [if_pos ⟨by omega, by simp; omega⟩]
    simp [← hrow]
  have gn : (h.new z row).g h.n = .rw z row := new_g _ _ _
  rcases w.rep with ⟨⟨h3, h4⟩ | ⟨h3, h4⟩, h5⟩ | ⟨b, z', cs, rows', bss, h3, h4, h5, h6, h7, h8, h9, h10⟩
  · rw [← h4] at h3; exact h3.elim
  · subst h3
    injection h4 with h4
    subst h4
    subst h5
    refine ⟨(h.new z row).new z row, (h.n + 1) :: br, ?_, ⟨?_, ?_, ?_, ?_⟩, by simp, ?_, fun c hc _ => ?_, fun c hc => .inl ?_, [], new_g (h.new z row) z row⟩
    · simp only [appS, cy, Option.bind_some, lenS]
      rw [if_pos ⟨trivial, by simpa using hl, hz0⟩, if_neg (by omega)]
      rfl
    · have := Rep.sl (d := d) (h := (h.new z row).new z row) (b := h.n + 1) (z := z) (cs := row) (rows := [fr]) (bss := br) (by simp) hz0 (by exact new_g (h.new z row) z row) (by simpa using hz) (by
        simpa using wr.frame fun c hc => ⟨by have := hlr c hc; simp; omega, by rw [new_g' (by have := hlr c hc; simp; omega), new_g' (by have := hlr c hc; omega)]⟩)
      simpa using this
    · exact List.nodup_cons.2 ⟨fun hh => by have := hlr _ hh; omega, hd⟩
    · exact .inr ⟨_, row, rfl, by exact new_g (h.new z row) z row⟩
    · simpa using hz
    · intro c hc
      rcases List.mem_cons.1 hc with h1 | h1
      · exact .inl h1
      · exact .inr (.inr h1)
    · rw [new_g' (by simp; omega), new_g' (by omega)]
    · rw [new_g' (by simp; omega), new_g' (by omega)]
  · injection h4 with h4
    subst h4
    subst h3
    subst h5
    have hzz : z' = z := by
      rcases w.ty with hh | ⟨b', cs', hh, hg⟩
      · cases hh
      · injection hh with hh _
        injection hh with hh
        injection hh with hh _
        subst hh
        rw [h8] at hg
        injection hg
    subst hzz
    have hcl := h10.len
    rw [flat_len h9] at hcl
    have hbn : b ≠ h.n := by omega
    have cx : cellsS z' (h.new z' row) (sv b 0 rows.length) = some cs := by
      have hc : (h.new z' row).cells b = cs := by unfold H.cells; rw [if_pos (by simp; omega), new_g' hbn, h8]; rfl
      simp only [cellsS, hc]
      rw [if_pos ⟨by simp; omega, by omega⟩, List.drop_zero, List.take_of_length_le (by omega)]
    have hd2 := List.nodup_cons.1 w.nd
    refine ⟨((h.new z' row).put b .dead).new z' (cs ++ row), (h.n + 1) :: (bss ++ br), ?_, ⟨?_, ?_, ?_, ?_⟩, by simp, ?_, fun c hc hcb => ?_, fun c hc => ?_, cs, new_g ((h.new z' row).put b .dead) z' (cs ++ row)⟩
    · simp only [appS, cx, cy, Option.bind_some, lenS]
      rw [if_pos ⟨by rw [new_n]; omega, hl, hz0⟩, new_g' hbn, h8]
      simp only [if_true]
      rfl
    · have fr1 : ∀ c, c < h.n → c ≠ b → (((h.new z' row).put b .dead).new z' (cs ++ row)).g c = h.g c := fun c hc hcb => by
        rw [new_g' (by simp; omega), put_g' hcb, new_g' (by omega)]
      have := Rep.sl (d := d) (h := ((h.new z' row).put b .dead).new z' (cs ++ row)) (b := h.n + 1) (z := z') (cs := cs ++ row) (rows := rows ++ [fr]) (bss := bss ++ br) (by simp) hz0 (by exact new_g ((h.new z' row).put b .dead) z' (cs ++ row)) (by
          intro r hr
          rcases List.mem_append.1 hr with hr | hr
          · exact h9 r hr
          · rw [List.mem_singleton.1 hr]; exact hz) (by
        rw [List.flatten_append]
        have wr2 : RepL (Rep (((h.new z' row).put b .dead).new z' (cs ++ row)) d) row fr br := wr.frame fun c hc => by
          have := hlr c hc
          exact ⟨by simp; omega, fr1 c this (fun hh => hdis b (by simp) (hh ▸ hc))⟩
        refine RepL.append (h10.frame fun c hc => ?_) (by simpa using wr2)
        have := hlt c (by simp [hc])
        exact ⟨by simp; omega, fr1 c this (fun hh => hd2.1 (hh ▸ hc))⟩)
      simpa using this
    · refine List.nodup_cons.2 ⟨fun hh => ?_, List.nodup_append.2 ⟨hd2.2, hd, fun a ha a' ha' hh => hdis a (by simp [ha]) (hh ▸ ha')⟩⟩
      rcases List.mem_append.1 hh with hh | hh
      · have := hlt (h.n + 1) (by simp [hh]); omega
      · have := hlr _ hh; omega
    · exact .inr ⟨h.n + 1, cs ++ row, by simp, by exact new_g ((h.new z' row).put b .dead) z' (cs ++ row)⟩
    · intro r hr
      rcases List.mem_append.1 hr with hr | hr
      · exact h9 r hr
      · rw [List.mem_singleton.1 hr]; exact hz
    · intro c hc
      rcases List.mem_cons.1 hc with h1 | h1
      · exact .inl h1
      rcases List.mem_append.1 h1 with h1 | h1
      · exact .inr (.inl (by simp [h1]))
      · exact .inr (.inr h1)
    · rw [new_g' (by simp; omega), put_g' (fun hh => hcb (by simp [hh])), new_g' (by omega)]
    · by_cases hcb : c = b
      · subst hcb
        refine .inr ⟨?_, by simp⟩
        rw [new_g' (by simp; omega)]
        exact put_g _ _ _
      · refine .inl ?_
        rw [new_g' (by simp; omega), put_g' hcb, new_g' (by omega)]
end Vm
/-
  Rows of runs, new.
-/
namespace Vm
open Go
/-- a row of a run, new -/
theorem run_row {h : H} {a : Int} {l : List UInt8} {b N : Nat} {k : Nat} (w : BysW h (sv b 0 k) l b) : RepL (Rep h 1) [.int .i64 a, .sl (some (b, 0)) k] (RunD.cs ⟨a, l⟩) [b] := by
  have hk := w.len
  have h1 : Rep h 1 (.sl (some (b, 0)) k) (.fs (bys l)) [b] := Own.rep (d := 0) (ob := some b) w
  exact RepL.cons (bs := []) (Rep.sc trivial) (RepL.cons (bs := [b]) h1 .nil)
theorem runs_snoc (rs : List RunD) (r : RunD) : runs (rs ++ [r]) = runs rs ++ [r.cs] := by simp [runs]
/-- new bytes over a heap -/
theorem new_bys {g : Nat} {xs : List V} {h h1 : H} {v : V} {m : List UInt8} (e1 : call Ev g xs (D h.n) = some (v, h1)) (w1 : NewB h.n h1 v m (some (h.n + 1))) (nn : h1.n = h.n + 2) :
    (∀ (R : Type) (off : Bool) (k : V → H → Option R), pcallF (call Ev) g off xs h k = k (sv (h.n + 1) 0 m.length) (h.over h1)) ∧ BysW (h.over h1) (sv (h.n + 1) 0 m.length) m (h.n + 1) ∧ Up h (h.over h1) ∧ (h.over h1).n = h.n + 2 ∧ HExt h (h.over h1) := by
  have hv := (show BysW h1 v m (h.n + 1) from w1.own).v
  have hle := w1.le
  refine ⟨fun R off k => ?_, ⟨rfl, by rw [over_n hle]; omega, ?_⟩, up_over hle, by rw [over_n hle, nn], ⟨by rw [over_n hle]; omega, fun b hb => .inr (over_lt hb)⟩⟩
  · rw [pF (h := h) (h1 := h1) (v := v) e1 ⟨by rw [hv]; rfl, w1.z⟩, hv]
  · rw [over_ge (by omega)]; exact (show BysW h1 v m (h.n + 1) from w1.own).g
theorem cellsR {R : Type} {a : Int} {y : S} (hy : isNo y = false) {k : Int → S → Option R} :
    (cellsK (.s y) fun c217 =>
      if c217.length = 1 ∧ 1 + 1 ≤ ([.int .i64 a, .sl none 0] : List S).length then
      ((setAt ([.int .i64 a, .sl none 0] : List S) 1 c217)[0]?).bind fun x218 =>
      gI .i64 x218 fun i219 =>
      ((setAt ([.int .i64 a, .sl none 0] : List S) 1 c217)[1]?).bind fun x220 =>
      if (setAt ([.int .i64 a, .sl none 0] : List S) 1 c217).length = 2 then k i219 x220 else none else none) = k a y := by
  simp only [cellsK, hy, cond_false, ln0, ln1, Nat.zero_add, Nat.reduceAdd, Nat.le_refl, and_self, if_true]
  rw [show setAt [.int .i64 a, .sl none 0] 1 [y] = [.int .i64 a, y] from rfl]
  simp only [gx0, gx1, ob, gI_i, ln0, ln1, Nat.zero_add, Nat.reduceAdd, if_true]
end Vm
/-
  A record as bytes.
-/
namespace Vm
open Go
/-- a number as a byte -/
def b8 (n : Int) : UInt8 := UInt8.ofNat (IntKind.u8.wrap n).toNat
theorem wrap8_bd (n : Int) : 0 ≤ IntKind.u8.wrap n ∧ IntKind.u8.wrap n < 256 := by
  simp [IntKind.wrap, IntKind.signed, IntKind.bits]; omega
theorem b8_int (n : Int) : ((b8 n).toNat : Int) = IntKind.u8.wrap n := by
  have := wrap8_bd n
  unfold b8
  rw [UInt8.toNat_ofNat_of_lt' (by show _ < 256; omega)]
  omega
theorem b8_cell (n : Int) : S.int .u8 (IntKind.u8.wrap n) = cell8 (b8 n) := by
  unfold cell8; rw [b8_int]
theorem wrap8_mod (n : Int) : IntKind.u8.wrap n = n % 256 := by simp [IntKind.wrap, IntKind.signed, IntKind.bits]
theorem rem_of {t : Nat} {a b : Int} (h : 0 ≤ a) (hb : 0 < b) : bin Ev .rem t (iv .i64 a) (iv .i64 b) = some (iv .i64 (a % b)) := by
  simp only [bin, binI, if_true]
  rw [if_neg (by omega), Int.tmod_eq_emod_of_nonneg h]
theorem quo_of {t : Nat} {a b : Int} (h : 0 ≤ a) (hb : 0 < b) (ha : a < 9223372036854775808) : bin Ev .quo t (iv .i64 a) (iv .i64 b) = some (iv .i64 (a / b)) := by
  have h1 : 0 ≤ a / b := Int.ediv_nonneg h (by omega)
  have h2 : a / b ≤ a := Int.ediv_le_self b h
  simp only [bin, binI, if_true]
  rw [if_neg (by omega), Int.tdiv_eq_ediv_of_nonneg h, w64 (by omega) (by omega)]
theorem shr8_of {t : Nat} {a : Int} (h : 0 ≤ a) : bin Ev .shr t (iv .i64 a) (iv .u64 8) = some (iv .i64 (a / 256)) := by
  simp only [bin]
  rw [if_neg (by omega)]
  rw [show (2 : Int) ^ (min (8 : Int).toNat IntKind.i64.bits) = 256 from rfl, Int.fdiv_eq_ediv_of_nonneg a (by omega)]
/-- bytes behind one's own, whatever they stand in -/
theorem app_w {h : H} {v y : V} {l m : List UInt8} {b : Nat} (w : BysW h v l b) (hy : cellsS 1 h y = some (m.map cell8)) (hl : lenS y = some m.length) (hm : l.length + m.length ≤ lim) :
    appS 1 h v y = some (sv h.n 0 (l ++ m).length, (h.put b .dead).new 1 ((l ++ m).map cell8)) := by
  have h1 := cellsS_w w
  obtain ⟨rfl, w2, w3⟩ := w
  simp only [appS, h1, hy, hl, Option.bind_some]
  rw [if_pos ⟨w2, hm, by omega⟩, w3]
  simp
/-- a sum of bytes -/
def sumB : List UInt8 → Int → Int
  | [], n => n
  | c :: l, n => sumB l ((n * 31 + (c.toNat : Int)) % 65521)
theorem sumB_bd : ∀ (l : List UInt8) (n : Int), 0 ≤ n → n < 65521 → 0 ≤ sumB l n ∧ sumB l n < 65521
  | [], n, h1, h2 => ⟨h1, h2⟩
  | c :: l, n, h1, h2 => sumB_bd l _ (Int.emod_nonneg _ (by omega)) (Int.emod_lt_of_pos _ (by omega))
theorem p_l4Sum {l : List UInt8} (hl : l.length < 2 ^ 62) : pureV (call Ev) Fn.spec_l4Sum [lv (bys l)] = some (iv .i64 (sumB l 1)) := by
  have loop : ∀ (r : List UInt8) (i : Nat) (n : Int), l.drop i = r → 0 ≤ n → n < 65521 → Lp.spec_l4Sum 0 [lv (bys l), iv .i64 n, iv .i64 i] (D 0) = some (.done [iv .i64 (sumB r n)] (D 0)) := by
    intro r
    induction r with
    | nil =>
      intro i n hi h1 h2
      have := drop_nil hi
      rw [eq_spec_l4Sum_l0, vcase_b, bys_len, if_neg (by simp; omega), tidy_self]; rfl
    | cons c r ih =>
      intro i n hi h1 h2
      obtain ⟨g1, g2, g3⟩ := drop_cons hi
      have hc := c.toNat_lt
      have hb : bt l i = (c.toNat : Int) := by simp [bt, List.getD, g1]
      rw [eq_spec_l4Sum_l0, vcase_b, bys_len, if_pos (by simp; omega), idxF_by (by omega) (by omega), hb]
      simp only [gx0, ob, gI_i]
      rw [w64 (n := n * 31) (by omega) (by omega), w64 (n := (c.toNat : Int)) (by omega) (by omega), w64 (n := n * 31 + (c.toNat : Int)) (by omega) (by omega), rem_of (by omega) (by omega), ob]
      simp only [gV1_s, gI_i]
      rw [w64 (by omega) (by omega), tidy_self, show (i : Int) + 1 = ((i + 1 : Nat) : Int) from by omega]
      exact ih (i + 1) _ g2 (Int.emod_nonneg _ (by omega)) (Int.emod_lt_of_pos _ (by omega))
  rw [pu_spec_l4Sum, show iv .i64 0 = iv .i64 ((0 : Nat) : Int) from rfl, loop l 0 1 (by simp) (by omega) (by omega), ob, lcase_done]
  simp only [gx0, ob, gV1_s, gI_i]
theorem lp_sum {v : V} {l : List UInt8} {b : Nat} {h : H} (w : BysW h v l b) (hl : l.length < 2 ^ 62) : Lp.impl_packed 2 [v, iv .i64 1, v, iv .i64 l.length, iv .i64 0] h = some (.done [v, iv .i64 (sumB l 1)] h) := by
  have loop : ∀ (r : List UInt8) (i : Nat) (n : Int), l.drop i = r → 0 ≤ n → n < 65521 → Lp.impl_packed 2 [v, iv .i64 n, v, iv .i64 l.length, iv .i64 i] h = some (.done [v, iv .i64 (sumB r n)] h) := by
    intro r
    induction r with
    | nil =>
      intro i n hi h1 h2
      have := drop_nil hi
      rw [eq_impl_packed_l2, vcase_b, if_neg (by simp; omega), tidy_self]; rfl
    | cons c r ih =>
      intro i n hi h1 h2
      obtain ⟨g1, g2, g3⟩ := drop_cons hi
      have hc := c.toNat_lt
      have hb : bt l i = (c.toNat : Int) := by simp [bt, List.getD, g1]
      have hv := w.v
      rw [eq_impl_packed_l2, vcase_b, if_pos (by simp; omega)]
      have e : ∀ {R : Type} {k : V → Option R}, idxK 1 v (iv .i64 (i : Int)) k = k (pv b (i * 1)) := fun {R} {k} => by rw [hv]; exact idxK_sv g3
      rw [e, BysW.get (n := l.length) (by rw [← hv]; exact w) g3 rfl, hb]
      simp only [gV1_s, gI_i]
      rw [w64 (n := n * 31) (by omega) (by omega), w64 (n := (c.toNat : Int)) (by omega) (by omega), w64 (n := n * 31 + (c.toNat : Int)) (by omega) (by omega), rem_of (by omega) (by omega), ob]
      simp only [gV1_s, gI_i]
      rw [w64 (by omega) (by omega), tidy_self, show (i : Int) + 1 = ((i + 1 : Nat) : Int) from by omega]
      exact ih (i + 1) _ g2 (Int.emod_nonneg _ (by omega)) (Int.emod_lt_of_pos _ (by omega))
  rw [show iv .i64 0 = iv .i64 ((0 : Nat) : Int) from rfl]
  exact loop l 0 1 (by simp) (by omega) (by omega)
/-! the bytes of a record -/
def pkRuns : List RunD → List UInt8
  | [] => []
  | r :: rs => [b8 r.at_, b8 r.l.length] ++ r.l ++ pkRuns rs
def pkHead (r : RecD) : List UInt8 := [0, b8 r.kind, b8 r.tx, b8 r.page, b8 r.rs.length]
def pk1 (r : RecD) : List UInt8 := (pkHead r ++ pkRuns r.rs).set 0 (b8 (((pkHead r ++ pkRuns r.rs).length : Nat) + 2 : Int))
def pk (r : RecD) : List UInt8 := pk1 r ++ [b8 (sumB (pk1 r) 1 / 256), b8 (sumB (pk1 r) 1)]
theorem pkRuns_len : ∀ rs : List RunD, (pkRuns rs).length = rsz rs + rs.length
  | [] => rfl
  | r :: rs => by
    have := pkRuns_len rs
    rw [rsz_cons]
    simp only [pkRuns, List.length_append, List.length_cons, List.length_nil, this]; omega
theorem pk1_len (r : RecD) : (pk1 r).length = 5 + (rsz r.rs + r.rs.length) := by
  unfold pk1 pkHead
  rw [List.length_set, List.length_append, pkRuns_len]
  simp only [List.length_cons, List.length_nil]
theorem pk_len (r : RecD) : (pk r).length = 7 + (rsz r.rs + r.rs.length) := by
  unfold pk
  rw [List.length_append, pk1_len]
  simp only [List.length_cons, List.length_nil]; omega
theorem cells2_new {h : H} {a b : Int} : cellsS 1 (h.new 1 [.int .u8 (IntKind.u8.wrap a), .int .u8 (IntKind.u8.wrap b)]) (sv h.n 0 2) = some ([b8 a, b8 b].map cell8) := by
  simp only [cellsS, H.cells, new_n, new_g, Blk.cells]
  rw [if_pos ⟨by omega, by simp⟩, b8_cell, b8_cell]
  simp
section
variable {all : List RunD}
theorem lp_packed (hl : all.length < 2 ^ 31) : ∀ (rs : List RunD) (i : Nat) (h : H) (v : V) (l : List UInt8) (b n0 : Nat), all.drop i = rs → BysW h v l b → n0 ≤ b → l.length + (rsz rs + rs.length) ≤ lim →
    ∃ h' v' b', Lp.impl_packed 0 [v, lv (runs all), iv .i64 all.length, iv .i64 i] h = some (.done [v'] h') ∧ BysW h' v' (l ++ pkRuns rs) b' ∧ n0 ≤ b' := by
  intro rs
  induction rs with
  | nil =>
    intro i h v l b n0 hi w hb hs
    have := drop_nil hi
    rw [eq_impl_packed_l0, vcase_b, if_neg (by simp; omega), tidy_self]
    exact ⟨h, v, b, rfl, by simpa [pkRuns] using w, hb⟩
  | cons r rs ih =>
    intro i h v l b n0 hi w hb hs
    obtain ⟨g1, g2, g3⟩ := drop_cons hi
    rw [rsz_cons, List.length_cons] at hs
    have hbn := w.n
    rw [eq_impl_packed_l0, vcase_b, if_pos (by simp; omega)]
    have e : ∀ {R : Type} {k : V → Option R}, idxK 2 (lv (runs all)) (iv .i64 (i : Int)) k = k (.s (.fp r.cs 0)) := fun {R} {k} => idxF_run g1
    have e2 : ∀ {R : Type} {k : V → Option R}, ldK (.agg [.i .i64, .f]) ⟨2, 32, [.int .i64 0, .sl none 0], true, .st [(0, 2), (1, 33)], false⟩ h (.s (.fp r.cs 0)) k = k (.agg r.cs) := fun {R} {k} => by
      simp only [ldK, ldT, cond_true, loadN, rowN_run, ob]
      rfl
    rw [e, e2]
    simp only [gVA_a, gx0, gx1, ob, gI_i]
    rw [if_pos (show ([_, _] : List S).length = 2 from rfl), st2_new]
    have u1 : Up h ((h.new 0 [.int .i64 0, .sl none 0]).put h.n (.rw 0 [.int .i64 r.at_, .fs (bys r.l)])) := up_st
    have gn : ((h.new 0 [.int .i64 0, .sl none 0]).put h.n (.rw 0 [.int .i64 r.at_, .fs (bys r.l)])).n = h.n + 1 := n_st
    have gg : ((h.new 0 [.int .i64 0, .sl none 0]).put h.n (.rw 0 [.int .i64 r.at_, .fs (bys r.l)])).g h.n = .rw 0 [.int .i64 r.at_, .fs (bys r.l)] := g_st
    generalize (h.new 0 [.int .i64 0, .sl none 0]).put h.n (.rw 0 [.int .i64 r.at_, .fs (bys r.l)]) = G at u1 gn gg ⊢
    have ld : ∀ {K : H} {o : Nat}, h.n < K.n → K.g h.n = .rw 0 [.int .i64 r.at_, .fs (bys r.l)] → load1 K (pv h.n o) = ([.int .i64 r.at_, .fs (bys r.l)] : List S)[o]? := fun {K} {o} h1 h2 => by simp [load1, H.cells, h1, h2, Blk.cells]
    simp only [ld (K := G) (by omega) gg, gx0, gx1, ob, gI_i, lenV, gV1_s, bys_len]
    have wg : BysW G v l b := (show Own h v l (some b) from w).up u1
    have wn : BysW (G.new 1 [.int .u8 (IntKind.u8.wrap r.at_), .int .u8 (IntKind.u8.wrap (r.l.length : Int))]) v l b := (show Own G v l (some b) from wg).up up_new
    rw [app_w wn cells2_new rfl (by simp only [List.length_cons, List.length_nil]; omega), ob]
    have kg : ((((G.new 1 [.int .u8 (IntKind.u8.wrap r.at_), .int .u8 (IntKind.u8.wrap (r.l.length : Int))]).put b .dead).new 1 ((l ++ [b8 r.at_, b8 r.l.length]).map cell8)).g h.n) = .rw 0 [.int .i64 r.at_, .fs (bys r.l)] := by
      rw [new_g' (by simp; omega), put_g' (by omega), new_g' (by omega)]; exact gg
    have wk : BysW (((G.new 1 [.int .u8 (IntKind.u8.wrap r.at_), .int .u8 (IntKind.u8.wrap (r.l.length : Int))]).put b .dead).new 1 ((l ++ [b8 r.at_, b8 r.l.length]).map cell8)) (sv (G.new 1 [.int .u8 (IntKind.u8.wrap r.at_), .int .u8 (IntKind.u8.wrap (r.l.length : Int))]).n 0 (l ++ [b8 r.at_, b8 r.l.length]).length) (l ++ [b8 r.at_, b8 r.l.length]) (G.n + 1) := app_own
    have kn : (((G.new 1 [.int .u8 (IntKind.u8.wrap r.at_), .int .u8 (IntKind.u8.wrap (r.l.length : Int))]).put b .dead).new 1 ((l ++ [b8 r.at_, b8 r.l.length]).map cell8)).n = G.n + 2 := by simp
    generalize ((G.new 1 [.int .u8 (IntKind.u8.wrap r.at_), .int .u8 (IntKind.u8.wrap (r.l.length : Int))]).put b .dead).new 1 ((l ++ [b8 r.at_, b8 r.l.length]).map cell8) = K at kg wk kn ⊢
    dsimp only
    rw [ld (by omega) kg]
    simp only [gx0, gx1, ob]
    rw [app_w (m := r.l) wk cellsS_by (by simp [lenS]) (by simp only [List.length_append, List.length_cons, List.length_nil]; omega), ob]
    dsimp only
    rw [no_tidy_v (by simp [belV, belS]; omega), w64 (by omega) (by omega), show (i : Int) + 1 = ((i + 1 : Nat) : Int) from by omega]
    obtain ⟨h', v', b', e5, w5, b5⟩ := ih (i + 1) _ _ ((l ++ [b8 r.at_, b8 r.l.length]) ++ r.l) K.n n0 g2 (app_own (h := K) (b := G.n + 1)) (by omega) (by simp only [List.length_append, List.length_cons, List.length_nil]; omega)
    refine ⟨h', v', b', e5, ?_, b5⟩
    simpa [pkRuns] using w5
theorem lp_l4Pack {k t p : Int} (hl : all.length < 2 ^ 31) : ∀ (rs : List RunD) (i : Nat) (h : H) (v : V) (l : List UInt8) (b n0 : Nat), all.drop i = rs → BysW h v l b → n0 ≤ b → l.length + (rsz rs + rs.length) ≤ lim →
    ∃ h' v' b', Lp.spec_l4Pack 0 [fv [.int .i64 k, .int .i64 t, .int .i64 p, .fs (runs all)] 0, v, iv .i64 i] h = some (.done [v'] h') ∧ BysW h' v' (l ++ pkRuns rs) b' ∧ n0 ≤ b' := by
  intro rs
  induction rs with
  | nil =>
    intro i h v l b n0 hi w hb hs
    have := drop_nil hi
    rw [eq_spec_l4Pack_l0]
    simp only [Nat.zero_add, List.getElem?_cons_succ, List.getElem?_cons_zero, ob, gF_f, runs_len, vcase_b]
    rw [if_neg (by simp; omega), tidy_self]
    exact ⟨h, v, b, rfl, by simpa [pkRuns] using w, hb⟩
  | cons r rs ih =>
    intro i h v l b n0 hi w hb hs
    obtain ⟨g1, g2, g3⟩ := drop_cons hi
    rw [rsz_cons, List.length_cons] at hs
    have hbn := w.n
    have e : ∀ {R : Type} {k : List S → Option R}, idxF 2 (runs all) (i : Int) k = k r.cs := idxF_run g1
    rw [eq_spec_l4Pack_l0]
    simp only [Nat.zero_add, List.getElem?_cons_succ, List.getElem?_cons_zero, ob, gF_f, runs_len, vcase_b]
    rw [if_pos (by simp; omega)]
    have hk : ∀ {R : Type} {k : H → Option R}, killV v h k = k (h.put b .dead) := fun {R} {k} => by rw [w.v]; rfl
    rw [hk]
    simp only [e, List.getElem?_cons_succ, List.getElem?_cons_zero, ob, gI_i, gF_f, bys_len]
    have x0 : HExt (h.put b .dead) h := ⟨by simp, fun c hc => by
      by_cases hcb : c = b
      · subst hcb; exact .inl (put_g _ _ _)
      · right; exact ⟨(put_g' hcb).symm, by simp [H.put, hcb]⟩⟩
    rw [hchk_of x0.new]
    have wn : BysW (h.new 1 [.int .u8 (IntKind.u8.wrap r.at_), .int .u8 (IntKind.u8.wrap (r.l.length : Int))]) v l b := (show Own h v l (some b) from w).up up_new
    rw [app_w wn cells2_new rfl (by simp only [List.length_cons, List.length_nil]; omega), ob]
    dsimp only
    have x1 : HExt (h.put b .dead) (((h.new 1 [.int .u8 (IntKind.u8.wrap r.at_), .int .u8 (IntKind.u8.wrap (r.l.length : Int))]).put b .dead).new 1 ((l ++ [b8 r.at_, b8 r.l.length]).map cell8)) := (x0.new.put (.inr (put_g _ _ _))).new
    rw [hchk_of x1]
    simp only [sca_v, scaS, cond_true]
    have wk : BysW (((h.new 1 [.int .u8 (IntKind.u8.wrap r.at_), .int .u8 (IntKind.u8.wrap (r.l.length : Int))]).put b .dead).new 1 ((l ++ [b8 r.at_, b8 r.l.length]).map cell8)) (sv (h.new 1 [.int .u8 (IntKind.u8.wrap r.at_), .int .u8 (IntKind.u8.wrap (r.l.length : Int))]).n 0 (l ++ [b8 r.at_, b8 r.l.length]).length) (l ++ [b8 r.at_, b8 r.l.length]) (h.n + 1) := app_own
    have kn : (((h.new 1 [.int .u8 (IntKind.u8.wrap r.at_), .int .u8 (IntKind.u8.wrap (r.l.length : Int))]).put b .dead).new 1 ((l ++ [b8 r.at_, b8 r.l.length]).map cell8)).n = h.n + 2 := by simp
    generalize ((h.new 1 [.int .u8 (IntKind.u8.wrap r.at_), .int .u8 (IntKind.u8.wrap (r.l.length : Int))]).put b .dead).new 1 ((l ++ [b8 r.at_, b8 r.l.length]).map cell8) = K at wk kn x1 ⊢
    rw [app_w (m := r.l) wk cellsS_by (by simp [lenS]) (by simp only [List.length_append, List.length_cons, List.length_nil]; omega), ob]
    dsimp only
    rw [hchk_of (HExt.new (x1.put (.inl (by rw [put_n]; omega))))]
    simp only [sca_v, scaS, cond_true]
    rw [no_tidy_v (by simp [belV, belS]; omega), w64 (by omega) (by omega), show (i : Int) + 1 = ((i + 1 : Nat) : Int) from by omega]
    obtain ⟨h', v', b', e5, w5, b5⟩ := ih (i + 1) _ _ ((l ++ [b8 r.at_, b8 r.l.length]) ++ r.l) K.n n0 g2 (app_own (h := K) (b := h.n + 1)) (by omega) (by simp only [List.length_append, List.length_cons, List.length_nil]; omega)
    refine ⟨h', v', b', e5, ?_, b5⟩
    simpa [pkRuns] using w5
end
/-- a record with a size that is known -/
structure RecD.sm (r : RecD) : Prop where
  n : r.rs.length ≤ 1048576
  s : rsz r.rs ≤ 1048576
theorem b8_mod (n : Int) : b8 (n % 256) = b8 n := by unfold b8; rw [wrap8_mod, wrap8_mod, Int.emod_emod_of_dvd n (by omega)]
theorem lenF {e : Nat} {rows : List (List S)} : lenV (.sl e) (lv rows) = some (iv .i64 (rows.length : Int)) := id rfl
theorem head_cells (r : RecD) : [S.int .u8 0, .int .u8 (IntKind.u8.wrap r.kind), .int .u8 (IntKind.u8.wrap r.tx), .int .u8 (IntKind.u8.wrap r.page), .int .u8 (IntKind.u8.wrap (r.rs.length : Int))] = (pkHead r).map cell8 := by
  simp only [b8_cell, pkHead, List.map_cons, List.map_nil]
  rfl
theorem f_packed {r : RecD} (hr : r.sm) (n : Nat) : ∃ y h', call Ev Fn.impl_packed [.agg r.cs] (D n) = some (.s y, h') ∧ n ≤ h'.n ∧ OwnF 4 y (.fs (bys (pk r))) n h'.n h' ∧ y = .sl (some (h'.n - 1, 0)) (pk r).length := by
  have h1 := hr.n
  have h2 := hr.s
  rw [eq_impl_packed]
  have ld : ∀ {h : H} {b o e : Nat} {X : List S}, b < h.n → h.g b = .rw e X → load1 h (pv b o) = X[o]? := fun hb hg => by simp [load1, H.cells, hb, hg, Blk.cells]
  have g0 : ((D n).new 0 r.cs).g n = .rw 0 r.cs := new_g (D n) _ _
  simp only [D_n, ld (h := (D n).new 0 r.cs) (b := n) (by simp) g0, gx0, gx1, ob, gI_i, lenF, gV1_s, runs_len]
  rw [head_cells r]
  have g1 : (((D n).new 0 r.cs).new 1 ((pkHead r).map cell8)).g n = .rw 0 r.cs := by rw [new_g' (by simp)]; exact g0
  rw [ld (by simp; omega) g1]
  simp only [gx0, gx1, ob, lenF, gV1_s, gI_i, runs_len]
  have w0 : BysW (((D n).new 0 r.cs).new 1 ((pkHead r).map cell8)) (sv (n + 1) 0 5) (pkHead r) (n + 1) := ⟨rfl, by simp, by exact new_g ((D n).new 0 r.cs) _ _⟩
  obtain ⟨h', v', b', e1, w1, b1⟩ := lp_packed (all := r.rs) (by omega) r.rs 0 _ _ _ _ n (by simp) w0 (by omega) (by simp only [pkHead, List.length_cons, List.length_nil]; unfold lim; omega)
  rw [show ((D n).new 0 r.cs).n = n + 1 from rfl, show iv .i64 0 = iv .i64 ((0 : Nat) : Int) from rfl, e1, ob, lcase_done]
  simp only [gx0, ob]
  have hlen : (pkHead r ++ pkRuns r.rs).length = 5 + (rsz r.rs + r.rs.length) := by
    rw [List.length_append, pkRuns_len]; simp only [pkHead, List.length_cons, List.length_nil]
  have hv := w1.v
  have hlv : lenV (.sl 5) v' = some (iv .i64 ((pkHead r ++ pkRuns r.rs).length : Nat)) := by rw [hv]; rfl
  simp only [hlv, ob, gV1_s, gI_i]
  have ei : ∀ {R : Type} {k : V → Option R}, idxK 1 v' (iv .i64 ((0 : Nat) : Int)) k = k (pv b' (0 * 1)) := fun {R} {k} => by rw [hv]; exact idxK_sv (by omega)
  rw [ei, w64 (by omega) (by omega), BysW.set (n := (pkHead r ++ pkRuns r.rs).length) (i := 0) (c := b8 (((pkHead r ++ pkRuns r.rs).length : Nat) + 2 : Int)) (by rw [← hv]; exact w1) (by omega) (by rw [b8_int])]
  have w2 := BysW.set_w (i := 0) (c := b8 (((pkHead r ++ pkRuns r.rs).length : Nat) + 2 : Int)) (show BysW h' (sv b' 0 (pkHead r ++ pkRuns r.rs).length) _ b' by rw [← hv]; exact w1)
  rw [show (pkHead r ++ pkRuns r.rs).set 0 (b8 (((pkHead r ++ pkRuns r.rs).length : Nat) + 2 : Int)) = pk1 r from rfl] at w2 ⊢
  rw [← hv] at w2
  generalize h'.put b' (.rw 1 ((pk1 r).map cell8)) = K at w2 ⊢
  have hl1 := pk1_len r
  rw [show (((pkHead r ++ pkRuns r.rs).length : Nat) : Int) = ((pk1 r).length : Nat) from by rw [hlen, hl1]]
  rw [show iv .i64 ((0 : Nat) : Int) = iv .i64 0 from rfl, lp_sum w2 (by omega), ob, lcase_done]
  simp only [gx0, gx1, ob, gV1_s, gI_i]
  have hs := sumB_bd (pk1 r) 1 (by omega) (by omega)
  rw [shr8_of hs.1, ob]
  simp only [gV1_s, gI_i]
  have wn : BysW (K.new 1 [.int .u8 (IntKind.u8.wrap (sumB (pk1 r) 1 / 256)), .int .u8 (IntKind.u8.wrap (sumB (pk1 r) 1))]) v' (pk1 r) b' := (show Own K v' (pk1 r) (some b') from w2).up up_new
  rw [app_w wn cells2_new rfl (by simp only [List.length_cons, List.length_nil]; unfold lim; omega), ob]
  have w3 := app_own (h := K.new 1 [.int .u8 (IntKind.u8.wrap (sumB (pk1 r) 1 / 256)), .int .u8 (IntKind.u8.wrap (sumB (pk1 r) 1))]) (l := pk1 r) (m := [b8 (sumB (pk1 r) 1 / 256), b8 (sumB (pk1 r) 1)]) (b := b')
  rw [show pk1 r ++ [b8 (sumB (pk1 r) 1 / 256), b8 (sumB (pk1 r) 1)] = pk r from rfl] at w3 ⊢
  have hKn : n ≤ K.n := by have := w2.n; omega
  refine ⟨_, _, rfl, by simp; omega, OwnB.f (d := 3) ⟨some (K.n + 1), w3, fun c hc => by cases hc; simp; omega⟩, by simp⟩
theorem f_l4Pack {r : RecD} (hr : r.sm) (n : Nat) : ∃ y h', call Ev Fn.spec_l4Pack [fv r.cs 0] (D n) = some (.s y, h') ∧ n ≤ h'.n ∧ OwnF 4 y (.fs (bys (pk r))) n h'.n h' := by
  have h1 := hr.n
  have h2 := hr.s
  rw [eq_spec_l4Pack, runs_len, head_cells r, hchk_of (HExt.new (HExt.refl _))]
  have w0 : BysW ((D n).new 1 ((pkHead r).map cell8)) (sv n 0 5) (pkHead r) n := ⟨rfl, by simp, by exact new_g (D n) _ _⟩
  obtain ⟨h', v', b', e1, w1, b1⟩ := lp_l4Pack (all := r.rs) (k := r.kind) (t := r.tx) (p := r.page) (by omega) r.rs 0 _ _ _ _ n (by simp) w0 (by omega) (by simp only [pkHead, List.length_cons, List.length_nil]; unfold lim; omega)
  rw [D_n, show iv .i64 0 = iv .i64 ((0 : Nat) : Int) from rfl, e1, ob, lcase_done]
  simp only [gx0, ob]
  have hlen : (pkHead r ++ pkRuns r.rs).length = 5 + (rsz r.rs + r.rs.length) := by
    rw [List.length_append, pkRuns_len]; simp only [pkHead, List.length_cons, List.length_nil]
  have hv := w1.v
  have hlv : lenV (.sl 5) v' = some (iv .i64 ((pkHead r ++ pkRuns r.rs).length : Nat)) := by rw [hv]; rfl
  simp only [hlv, ob, gV1_s, gI_i]
  have ei : ∀ {R : Type} {k : V → Option R}, idxK 1 v' (iv .i64 ((0 : Nat) : Int)) k = k (pv b' (0 * 1)) := fun {R} {k} => by rw [hv]; exact idxK_sv (by omega)
  rw [ei, w64 (by omega) (by omega), BysW.set (n := (pkHead r ++ pkRuns r.rs).length) (i := 0) (c := b8 (((pkHead r ++ pkRuns r.rs).length : Nat) + 2 : Int)) (by rw [← hv]; exact w1) (by omega) (by rw [b8_int])]
  have w2 := BysW.set_w (i := 0) (c := b8 (((pkHead r ++ pkRuns r.rs).length : Nat) + 2 : Int)) (show BysW h' (sv b' 0 (pkHead r ++ pkRuns r.rs).length) _ b' by rw [← hv]; exact w1)
  rw [show (pkHead r ++ pkRuns r.rs).set 0 (b8 (((pkHead r ++ pkRuns r.rs).length : Nat) + 2 : Int)) = pk1 r from rfl] at w2 ⊢
  rw [← hv] at w2
  generalize h'.put b' (.rw 1 ((pk1 r).map cell8)) = K at w2 ⊢
  have hl1 := pk1_len r
  have hs := sumB_bd (pk1 r) 1 (by omega) (by omega)
  rw [frzVs_cons (frz1 (ob := some b') w2) frzVs_nil, ob, norm_nil, pc (p_l4Sum (by omega)) rfl]
  simp only [gV1_s, gI_i]
  rw [quo_of hs.1 (by omega) (by omega), ob]
  simp only [gV1_s, gI_i]
  rw [rem_of hs.1 (by omega), ob]
  simp only [gV1_s, gI_i]
  have wn : BysW (K.new 1 [.int .u8 (IntKind.u8.wrap (sumB (pk1 r) 1 / 256)), .int .u8 (IntKind.u8.wrap (sumB (pk1 r) 1 % 256))]) v' (pk1 r) b' := (show Own K v' (pk1 r) (some b') from w2).up up_new
  rw [app_w wn cells2_new rfl (by simp only [List.length_cons, List.length_nil]; unfold lim; omega), ob]
  have w3 := app_own (h := K.new 1 [.int .u8 (IntKind.u8.wrap (sumB (pk1 r) 1 / 256)), .int .u8 (IntKind.u8.wrap (sumB (pk1 r) 1 % 256))]) (l := pk1 r) (m := [b8 (sumB (pk1 r) 1 / 256), b8 (sumB (pk1 r) 1 % 256)]) (b := b')
  rw [b8_mod, show pk1 r ++ [b8 (sumB (pk1 r) 1 / 256), b8 (sumB (pk1 r) 1)] = pk r from rfl] at w3 ⊢
  have hKn : n ≤ K.n := by have := w2.n; omega
  exact ⟨_, _, rfl, by simp; omega, OwnB.f (d := 3) ⟨some (K.n + 1), w3, fun c hc => by cases hc; simp; omega⟩⟩
end Vm
/-
  A record read from bytes: two ways that come to the same.
-/
namespace Vm
open Go
def cutL (d : List UInt8) (i k : Nat) : List UInt8 := (d.take k).drop i
def bn (d : List UInt8) (i : Nat) : Nat := (bt d i).toNat
theorem bn_bt (d : List UInt8) (i : Nat) : ((bn d i : Nat) : Int) = bt d i := by unfold bn; have := bt_nn d i; omega
theorem bn_lt (d : List UInt8) (i : Nat) : bn d i < 256 := by have := bn_bt d i; have := bt_lt d i; omega
/-- the runs that the model reads -/
def spL (d : List UInt8) : Nat → Nat → List RunD
  | 0, _ => []
  | q + 1, i => if i + 2 ≤ d.length then (if i + 2 + bn d (i + 1) ≤ d.length then ⟨bt d i, cutL d (i + 2) (i + 2 + bn d (i + 1))⟩ :: spL d q (i + 2 + bn d (i + 1)) else []) else []
/-- the runs that the program reads -/
def imL (d : List UInt8) (e : Nat) : Nat → Nat → Option (List RunD × Nat)
  | 0, i => some ([], i)
  | q + 1, i => if i + 2 ≤ e ∧ i + 2 + bn d (i + 1) ≤ e then (imL d e q (i + 2 + bn d (i + 1))).map fun p => (⟨bt d i, cutL d (i + 2) (i + 2 + bn d (i + 1))⟩ :: p.1, p.2) else none
def spR (d : List UInt8) : RecD := ⟨bt d 1, bt d 2, bt d 3, spL d (bn d 4) 5⟩
theorem b8_nat {n : Int} (h1 : 0 ≤ n) (h2 : n < 256) : ((b8 n).toNat : Int) = n := by rw [b8_int, wrap8_mod, Int.emod_eq_of_lt h1 h2]
theorem bt_app {pre l : List UInt8} {c : UInt8} {i : Nat} (h : pre.length = i) : bt (pre ++ c :: l) i = c.toNat := by
  simp only [bt, Int.toNat_natCast, List.getD]
  rw [List.getElem?_append_right (by omega), h]
  simp
theorem spL_pk : ∀ (rs : List RunD) (pre tl : List UInt8) (i : Nat), pre.length = i → (∀ r ∈ rs, inR r) → spL (pre ++ (pkRuns rs ++ tl)) rs.length i = rs
  | [], pre, tl, i, hp, hr => rfl
  | r :: rs, pre, tl, i, hp, hr => by
    have h := hr r (by simp)
    unfold inR at h
    have e : pre ++ (pkRuns (r :: rs) ++ tl) = pre ++ b8 r.at_ :: b8 r.l.length :: (r.l ++ (pkRuns rs ++ tl)) := by simp [pkRuns]
    have b0 : bt (pre ++ (pkRuns (r :: rs) ++ tl)) i = r.at_ := by rw [e, bt_app hp, b8_nat h.1 (by omega)]
    have b1 : bn (pre ++ (pkRuns (r :: rs) ++ tl)) (i + 1) = r.l.length := by
      have : ((bn (pre ++ (pkRuns (r :: rs) ++ tl)) (i + 1) : Nat) : Int) = r.l.length := by
        rw [bn_bt, e, show pre ++ b8 r.at_ :: b8 r.l.length :: (r.l ++ (pkRuns rs ++ tl)) = (pre ++ [b8 r.at_]) ++ b8 r.l.length :: (r.l ++ (pkRuns rs ++ tl)) from by simp, bt_app (by simp [hp]), b8_nat (by omega) (by omega)]
      omega
    have hlen : i + 2 + r.l.length ≤ (pre ++ (pkRuns (r :: rs) ++ tl)).length := by
      rw [e]; simp only [List.length_append, List.length_cons]; omega
    have ec : cutL (pre ++ (pkRuns (r :: rs) ++ tl)) (i + 2) (i + 2 + r.l.length) = r.l := by
      unfold cutL
      rw [e, show pre ++ b8 r.at_ :: b8 r.l.length :: (r.l ++ (pkRuns rs ++ tl)) = ((pre ++ [b8 r.at_, b8 r.l.length]) ++ r.l) ++ (pkRuns rs ++ tl) from by simp]
      rw [List.take_append_of_le_length (by simp; omega), List.take_of_length_le (by simp; omega), List.drop_append_of_le_length (by simp; omega), List.drop_of_length_le (by simp; omega)]
      simp
    have ih := spL_pk rs ((pre ++ [b8 r.at_, b8 r.l.length]) ++ r.l) tl (i + 2 + r.l.length) (by simp; omega) fun x hx => hr x (by simp [hx])
    rw [show ((pre ++ [b8 r.at_, b8 r.l.length]) ++ r.l) ++ (pkRuns rs ++ tl) = pre ++ (pkRuns (r :: rs) ++ tl) from by simp [pkRuns]] at ih
    simp only [List.length_cons, spL]
    rw [if_pos (by omega), b1, if_pos hlen, b0, ec, ih]
theorem imL_pk : ∀ (rs : List RunD) (pre tl : List UInt8) (i e : Nat), pre.length = i → (∀ r ∈ rs, inR r) → i + (pkRuns rs).length ≤ e → imL (pre ++ (pkRuns rs ++ tl)) e rs.length i = some (rs, i + (pkRuns rs).length)
  | [], pre, tl, i, e, hp, hr, he => rfl
  | r :: rs, pre, tl, i, e, hp, hr, he => by
    have h := hr r (by simp)
    unfold inR at h
    have ee : pre ++ (pkRuns (r :: rs) ++ tl) = pre ++ b8 r.at_ :: b8 r.l.length :: (r.l ++ (pkRuns rs ++ tl)) := by simp [pkRuns]
    have b0 : bt (pre ++ (pkRuns (r :: rs) ++ tl)) i = r.at_ := by rw [ee, bt_app hp, b8_nat h.1 (by omega)]
    have b1 : bn (pre ++ (pkRuns (r :: rs) ++ tl)) (i + 1) = r.l.length := by
      have : ((bn (pre ++ (pkRuns (r :: rs) ++ tl)) (i + 1) : Nat) : Int) = r.l.length := by
        rw [bn_bt, ee, show pre ++ b8 r.at_ :: b8 r.l.length :: (r.l ++ (pkRuns rs ++ tl)) = (pre ++ [b8 r.at_]) ++ b8 r.l.length :: (r.l ++ (pkRuns rs ++ tl)) from by simp, bt_app (by simp [hp]), b8_nat (by omega) (by omega)]
      omega
    have hl2 : (pkRuns (r :: rs)).length = 2 + r.l.length + (pkRuns rs).length := by simp [pkRuns]; omega
    have ec : cutL (pre ++ (pkRuns (r :: rs) ++ tl)) (i + 2) (i + 2 + r.l.length) = r.l := by
      unfold cutL
      rw [ee, show pre ++ b8 r.at_ :: b8 r.l.length :: (r.l ++ (pkRuns rs ++ tl)) = ((pre ++ [b8 r.at_, b8 r.l.length]) ++ r.l) ++ (pkRuns rs ++ tl) from by simp]
      rw [List.take_append_of_le_length (by simp; omega), List.take_of_length_le (by simp; omega), List.drop_append_of_le_length (by simp; omega), List.drop_of_length_le (by simp; omega)]
      simp
    have ih := imL_pk rs ((pre ++ [b8 r.at_, b8 r.l.length]) ++ r.l) tl (i + 2 + r.l.length) e (by simp; omega) (fun x hx => hr x (by simp [hx])) (by omega)
    rw [show ((pre ++ [b8 r.at_, b8 r.l.length]) ++ r.l) ++ (pkRuns rs ++ tl) = pre ++ (pkRuns (r :: rs) ++ tl) from by simp [pkRuns]] at ih
    simp only [List.length_cons, imL]
    rw [b1, if_pos ⟨by omega, by omega⟩, b0, ec, ih]
    simp only [Option.map_some, Option.some.injEq, Prod.mk.injEq, true_and]
    omega
/-- a record without a fault: its fields -/
theorem recF_ok {r : RecD} (h : recF r = 0) : 1 ≤ r.kind ∧ r.kind ≤ 6 ∧ 0 ≤ r.tx ∧ r.tx ≤ 99 ∧ 0 ≤ r.page ∧ r.page ≤ 11 ∧ r.rs.length ≤ 64 ∧ ∀ x ∈ r.rs, inR x := by
  unfold recF at h
  split at h
  · omega
  rename_i h1
  split at h
  · omega
  rename_i h2
  split at h
  · omega
  rename_i h3
  split at h
  · omega
  rename_i h4
  split at h
  · omega
  rename_i h5
  have k := inB_iff.1 (by simpa using h1)
  have p := inB_iff.1 (by simpa using h5)
  have t : 0 ≤ r.tx ∧ r.tx ≤ 99 := by
    by_cases hk : r.kind = 4
    · have : r.tx = 0 := by
        by_cases ht : r.tx = 0
        · exact ht
        · exact absurd ⟨hk, ht⟩ h3
      omega
    · have : inB r.tx 1 99 = true := by
        cases hb : inB r.tx 1 99
        · exact absurd ⟨hk, hb⟩ h4
        · rfl
      have := inB_iff.1 this
      omega
  have rr : r.rs.length ≤ 64 ∧ ∀ x ∈ r.rs, inR x := by
    cases hk : inB r.kind 2 4
    · have : r.rs = [] := by
        by_cases hr : r.rs = []
        · exact hr
        · exact absurd ⟨hk, .inr hr⟩ h2
      rw [this]; simp
    · unfold recG at h
      rw [if_neg (by simp [hk])] at h
      by_cases hf : runsF r.rs = 0
      · exact runsF_ok hf
      · rw [if_pos hf] at h; exact absurd h hf
  exact ⟨k.1, k.2, t.1, t.2, p.1, p.2, rr.1, rr.2⟩
theorem pk_form (r : RecD) : pk r = [b8 (((pkHead r ++ pkRuns r.rs).length : Nat) + 2 : Int), b8 r.kind, b8 r.tx, b8 r.page, b8 r.rs.length] ++ (pkRuns r.rs ++ [b8 (sumB (pk1 r) 1 / 256), b8 (sumB (pk1 r) 1)]) := by
  have : pk1 r = [b8 (((pkHead r ++ pkRuns r.rs).length : Nat) + 2 : Int), b8 r.kind, b8 r.tx, b8 r.page, b8 r.rs.length] ++ pkRuns r.rs := by
    unfold pk1
    rw [show pkHead r ++ pkRuns r.rs = (0 : UInt8) :: ([b8 r.kind, b8 r.tx, b8 r.page, b8 r.rs.length] ++ pkRuns r.rs) from rfl, List.set_cons_zero]
    rfl
  unfold pk
  rw [this, List.append_assoc]
theorem bn_cons {a b c d e : UInt8} {l : List UInt8} : bt ([a, b, c, d, e] ++ l) 1 = b.toNat ∧ bt ([a, b, c, d, e] ++ l) 2 = c.toNat ∧ bt ([a, b, c, d, e] ++ l) 3 = d.toNat ∧ bn ([a, b, c, d, e] ++ l) 4 = e.toNat := by
  refine ⟨rfl, rfl, rfl, rfl⟩
theorem spR_pk {r : RecD} (h : recF r = 0) : spR (pk r) = r := by
  obtain ⟨k1, k2, t1, t2, p1, p2, n, hr⟩ := recF_ok h
  obtain ⟨k, t, p, rs⟩ := r
  dsimp only at k1 k2 t1 t2 p1 p2 n hr
  rw [pk_form]
  unfold spR
  obtain ⟨e1, e2, e3, e4⟩ := bn_cons (a := b8 (((pkHead ⟨k, t, p, rs⟩ ++ pkRuns rs).length : Nat) + 2 : Int)) (b := b8 k) (c := b8 t) (d := b8 p) (e := b8 (rs.length : Nat)) (l := pkRuns rs ++ [b8 (sumB (pk1 ⟨k, t, p, rs⟩) 1 / 256), b8 (sumB (pk1 ⟨k, t, p, rs⟩) 1)])
  dsimp only
  rw [e1, e2, e3, e4, b8_nat (by omega) (by omega), b8_nat (by omega) (by omega), b8_nat (by omega) (by omega)]
  have hn : (b8 (rs.length : Nat)).toNat = rs.length := by have := b8_nat (n := ((rs.length : Nat) : Int)) (by omega) (by omega); omega
  rw [hn, spL_pk rs _ _ 5 rfl hr]
theorem imL_r {r : RecD} (h : recF r = 0) : imL (pk r) ((pk r).length - 2) (bn (pk r) 4) 5 = some (r.rs, (pk r).length - 2) := by
  obtain ⟨k1, k2, t1, t2, p1, p2, n, hr⟩ := recF_ok h
  have hl := pk_len r
  have hl2 := pkRuns_len r.rs
  have hn : (b8 (r.rs.length : Nat)).toNat = r.rs.length := by have := b8_nat (n := ((r.rs.length : Nat) : Int)) (by omega) (by omega); omega
  have h4 : bn (pk r) 4 = r.rs.length := by rw [pk_form, bn_cons.2.2.2, hn]
  rw [h4]
  have := imL_pk r.rs [b8 (((pkHead r ++ pkRuns r.rs).length : Nat) + 2 : Int), b8 r.kind, b8 r.tx, b8 r.page, b8 r.rs.length] [b8 (sumB (pk1 r) 1 / 256), b8 (sumB (pk1 r) 1)] 5 ((pk r).length - 2) rfl hr (by omega)
  rw [← pk_form] at this
  rw [this]
  simp only [Option.some.injEq, Prod.mk.injEq, true_and]
  omega
/-- is a beginning of bytes a record? -/
def rdOk (d : List UInt8) : Prop := 7 ≤ d.length ∧ 7 ≤ bn d 0 ∧ bn d 0 ≤ d.length ∧ recF (spR (d.take (bn d 0))) = 0 ∧ pk (spR (d.take (bn d 0))) = d.take (bn d 0)
instance (d : List UInt8) : Decidable (rdOk d) := by unfold rdOk; infer_instance
def rdRec (d : List UInt8) : RecD := if rdOk d then spR (d.take (bn d 0)) else ⟨0, 0, 0, []⟩
def rdN (d : List UInt8) : Nat := if rdOk d then bn d 0 else 0
def rdC (d : List UInt8) : Int := if rdOk d then 0 else 5
theorem im_ok {d : List UInt8} {rs : List RunD} {i : Nat} (h : imL d (d.length - 2) (bn d 4) 5 = some (rs, i)) (hf : recF ⟨bt d 1, bt d 2, bt d 3, rs⟩ = 0) (hp : pk ⟨bt d 1, bt d 2, bt d 3, rs⟩ = d) : spR d = ⟨bt d 1, bt d 2, bt d 3, rs⟩ := by
  have := spR_pk hf
  rwa [hp] at this
theorem im_of {d : List UInt8} (hf : recF (spR d) = 0) (hp : pk (spR d) = d) : imL d (d.length - 2) (bn d 4) 5 = some ((spR d).rs, d.length - 2) := by
  have := imL_r hf
  rwa [hp] at this
theorem bn_take {d : List UInt8} {n i : Nat} (h : i < n) : bt (d.take n) i = bt d i := by
  simp only [bt, Int.toNat_natCast, List.getD]
  rw [List.getElem?_take_of_lt h]
end Vm
/-
  PackRecord: what both ways come to; a record that is marked.
-/
namespace Vm
open Go
theorem frzV_ag4 {h : H} {a b c : Int} {l : List (List S)} : frzV h (.agg [.int .i64 a, .int .i64 b, .int .i64 c, .fs l]) = some (.agg [.int .i64 a, .int .i64 b, .int .i64 c, .fs l]) := by simp
theorem NewC.weak {d n m : Nat} {ys fs : List S} {h : H} (w : NewC d ys fs m h) (hn : n ≤ m) : NewC d ys fs n h := by
  obtain ⟨h1, bs, h2, h3, h4⟩ := w
  exact ⟨by omega, bs, h2, h3, fun b hb => by have := h4 b hb; omega⟩
theorem NewC.lift {d k n : Nat} {ys fs : List S} {h : H} (w : NewC d ys fs n h) (hk : d ≤ k) : NewC k ys fs n h := by
  obtain ⟨h1, bs, h2, h3, h4⟩ := w
  exact ⟨h1, bs, h2.lifts hk, h3, h4⟩
/-- a fault, in a result that stands behind others -/
theorem bad2K {K : H} {n : Nat} {c : Int} (hn : n ≤ K.n) : ∃ h', (stK 2 (K.new 0 [.int .i64 0, .sl none 0]) (pv K.n 0) (.agg [.int .i64 c, .sl none 0]) fun h105 =>
      (loadN 2 h105 (pv K.n 0)).bind fun c106 => some (V.agg c106, h105)) = some (.agg [.int .i64 c, .sl none 0], h') ∧ NewC 4 [.int .i64 c, .sl none 0] [.int .i64 c, .fs []] n h' := by
  rw [st2_new, loadN_2 (by simp) (by exact g_st), Vm.ob]
  refine ⟨_, rfl, by simp; omega, [], ?_, by simp, by simp⟩
  exact RepL.cons (bs := []) (Rep.sc trivial) (RepL.cons (bs := []) Rep.nil .nil)
/-- a value of a call put into a result that stands behind others -/
theorem fin2K {g n d : Nat} {xs : List V} {y f : S} {h1 K : H} {off : Bool} (hn : n ≤ K.n) (hc : call Ev g xs (D (K.n + 1)) = some (.s y, h1)) (hle : K.n + 1 ≤ h1.n) (w : OwnF d y f (K.n + 1) h1.n h1) :
    ∃ h', (pcallF (call Ev) g off xs (K.new 0 [.int .i64 0, .sl none 0]) fun v110 h111 =>
      cellsK v110 fun c112 =>
      if c112.length = 1 ∧ 1 + 1 ≤ ([.int .i64 0, .sl none 0] : List S).length then
      ((setAt ([.int .i64 0, .sl none 0] : List S) 1 c112)[0]?).bind fun x113 =>
      gI .i64 x113 fun i114 =>
      ((setAt ([.int .i64 0, .sl none 0] : List S) 1 c112)[1]?).bind fun x115 =>
      if (setAt ([.int .i64 0, .sl none 0] : List S) 1 c112).length = 2 then
      stK 2 h111 (pv K.n 0) (.agg [.int .i64 i114, x115]) fun h116 =>
      (loadN 2 h116 (pv K.n 0)).bind fun c117 =>
      some (V.agg c117, h116)
      else none
      else none) = some (.agg [.int .i64 0, y], h') ∧ NewC d [.int .i64 0, y] [.int .i64 0, f] n h' := by
  obtain ⟨L, e, u, hL, w'⟩ := pV (h := K.new 0 [.int .i64 0, .sl none 0]) (off := off) (n := K.n + 1) (by simp) hc hle w
  have hy : isNo y = false := by obtain ⟨bs, w1, _⟩ := w; exact w1.isNo
  rw [e, cells2 hy]
  obtain ⟨h', e2, w2⟩ := fin2S (n := K.n) (K := L) (c := 0) (by omega) (by rw [u.g K.n (by simp)]; exact new_g K _ _) w'.now
  exact ⟨h', e2, w2.weak hn⟩
def pkL (r : RecD) : List UInt8 := if recF r = 0 then pk r else []
theorem pkL_len {r : RecD} (hr : r.sm) : (pkL r).length ≤ 2097159 := by
  have := hr.n
  have := hr.s
  unfold pkL
  split
  · rw [pk_len]; omega
  · simp
theorem p_spec_PackRecord {r : RecD} (hr : r.sm) (hl : r.rs.length ≤ maxLen) : pureV (call Ev) Fn.spec_PackRecord [.agg r.cs] = some (.agg [.int .i64 (recF r), .fs (bys (pkL r))]) := by
  rw [pu_spec_PackRecord, pc (p_l4Fault r hl) rfl]
  simp only [gV1_s, gI_i, vcase_b]
  unfold pkL
  by_cases hc : recF r = 0
  case neg => rw [if_pos (by simpa using hc), if_neg hc]; rfl
  rw [if_neg (by simp [hc]), if_pos hc, hc]
  obtain ⟨y, h1, e1, n1, w1⟩ := f_l4Pack hr 2
  obtain ⟨K, e, u, hK, w'⟩ := pV (h := ((D 0).new 0 r.cs).new 0 [.int .i64 0, .sl none 0]) (off := false) (n := 2) (by simp) e1 n1 w1
  have hy : isNo y = false := by obtain ⟨bs, w1, _⟩ := w1; exact w1.isNo
  rw [e, cells2 hy]
  rw [stK_rw (z := 2) (e := 0) (o := 0) (b := 1) (cs := [.int .i64 0, .sl none 0]) (r := [.int .i64 0, y]) (by omega) (by rw [u.g 1 (by simp)]; exact new_g ((D 0).new 0 r.cs) _ _) (.inr rfl) rfl (by simp)]
  rw [show setAt [.int .i64 0, .sl none 0] 0 [.int .i64 0, y] = [.int .i64 0, y] from rfl]
  rw [loadN_2 (b := 1) (e := 0) (by rw [put_n]; omega) (put_g _ _ _), ob]
  obtain ⟨bs, w2, _, w3⟩ := w'.now
  have w4 : Rep (K.put 1 (.rw 0 [.int .i64 0, y])) 4 y (.fs (bys (pk r))) bs := w2.frame fun b hb => by
    have := w3 b hb
    exact ⟨by rw [put_n]; omega, put_g' (by omega)⟩
  have := w4.frz (k := 8) (by omega)
  simp [this]
theorem f_PackRecord {r : RecD} (hr : r.sm) (hl : r.rs.length ≤ maxLen) (n : Nat) : ∃ y h', call Ev Fn.impl_PackRecord [.agg r.cs] (D n) = some (.agg [.int .i64 (recF r), y], h') ∧ NewC 4 [.int .i64 (recF r), y] [.int .i64 (recF r), .fs (bys (pkL r))] n h' := by
  rw [eq_impl_PackRecord]
  have g0 : (((D n).new 0 r.cs).new 0 [.int .i64 0, .sl none 0]).g n = .rw 0 r.cs := by rw [new_g' (by simp)]; exact new_g (D n) _ _
  have l0 := loadN_4 (h := ((D n).new 0 r.cs).new 0 [.int .i64 0, .sl none 0]) (b := n) (by simp; omega) g0
  rw [D_n, l0]
  simp only [ob, gx0, gx1, gI_i]
  rw [if_pos (show ([_, _, _, _] : List S).length = 4 from rfl), frzVs_cons frzV_ag4 frzVs_nil, ob, norm_nil, pc (p_RecordFault r hl) rfl]
  simp only [gV1_s, gI_i, vcase_b]
  unfold pkL
  have kn : ((D n).new 0 r.cs).n = n + 1 := by simp
  by_cases hc : recF r = 0
  case neg =>
    obtain ⟨h', e1, w1⟩ := bad2K (K := (D n).new 0 r.cs) (n := n) (c := recF r) (by rw [kn]; omega)
    rw [if_pos (by simpa using hc), if_neg hc, e1]
    exact ⟨_, h', rfl, w1⟩
  rw [if_neg (by simp [hc]), if_pos hc, hc]
  rw [if_pos (show ([_, _, _, _] : List S).length = 4 from rfl), ob, norm_nil]
  obtain ⟨y, h1, e1, n1, w1, _⟩ := f_packed hr (n + 2)
  obtain ⟨h', e2, w2⟩ := fin2K (K := (D n).new 0 r.cs) (n := n) (off := [V.agg r.cs].all offV) (by rw [kn]; omega) (by rw [kn]; exact e1) (by rw [kn]; exact n1) (by rw [kn]; exact w1)
  rw [e2]
  exact ⟨y, h', rfl, w2⟩
/-- a marked record -/
theorem r_markRec {h : H} {a b c : Int} {y : S} {rs : List RunD} {lo hi k : Nat} (w : Sep (OwnC 4 [.int .i64 a, .int .i64 b, .int .i64 c, y] [.int .i64 a, .int .i64 b, .int .i64 c, .fs (runs rs)] lo hi) lo hi h) (hl : k + rsz rs < 2 ^ 62) :
    ∃ p, call Ev Fn.laws_markRecord [.agg [.int .i64 a, .int .i64 b, .int .i64 c, y], iv .i64 k] h = some (iv .i64 ((k + rsz rs : Nat) : Int), p) ∧ Sep (OwnC 4 [.int .i64 a, .int .i64 b, .int .i64 c, y] [.int .i64 a, .int .i64 b, .int .i64 c, .fs (runs (mkRs k rs))] lo hi) lo hi (tidy h [iv .i64 ((k + rsz rs : Nat) : Int)] p) ∧ ButR lo hi h (tidy h [iv .i64 ((k + rsz rs : Nat) : Int)] p) := by
  obtain ⟨bs, w1, w2, w3⟩ := OwnC.f (pre := [.int .i64 a, .int .i64 b, .int .i64 c]) sc3 w.now
  have ht := w.top
  rw [eq_laws_markRecord]
  have l1 : load1 (h.new 0 [.int .i64 a, .int .i64 b, .int .i64 c, y]) (pv h.n 3) = some y := by simp [load1, H.cells, Blk.cells]
  rw [l1, Vm.ob]
  have w1' : Rep (h.new 0 [.int .i64 a, .int .i64 b, .int .i64 c, y]) 4 y (.fs (runs rs)) bs := w1.frame fun b hb => ⟨by have := w1.lt b hb; simp; omega, new_g' (by have := w1.lt b hb; omega)⟩
  obtain ⟨p, e1, r1, n1, o1⟩ := w1'.markRs (k := k) w2 hl
  rw [e1, Vm.ob]
  simp only [gV1_s, gI_i]
  have t1 : tidy (h.new 0 [.int .i64 a, .int .i64 b, .int .i64 c, y]) [iv .i64 ((k + rsz rs : Nat) : Int)] p = p := tidy_same n1 fun d hd => o1 d fun hh => by have := w3 d hh; simp at hd; omega
  rw [t1]
  exact ⟨p, rfl, markC (pre := [.int .i64 a, .int .i64 b, .int .i64 c]) sc3 w3 w2 ht r1 (by rw [n1]; simp) (fun d hd hdn => by
    have := o1 d hd
    refine ⟨this.1.trans (new_g' (by omega)), this.2.trans ?_⟩
    simp [H.new, show d ≠ h.n by omega]) (fun hh => by rw [n1] at hh; simp at hh)⟩
end Vm
/-
  The model's copy of bytes.
-/
namespace Vm
open Go
theorem f_l2Copy {m : List UInt8} (hm : m.length ≤ lim) (n : Nat) : ∃ v h', call Ev Fn.spec_l2Copy [lv (bys m)] (D n) = some (v, h') ∧ NewB n h' v m (some (n + 1)) ∧ h'.n = n + 2 := by
  have e : call Ev Fn.spec_l2Copy [lv (bys m)] (D n) = call Ev Fn.impl_copied [lv (bys m)] (D n) := by rw [eq_spec_l2Copy, eq_impl_copied]
  rw [e]; exact f_copied hm n
end Vm
/-
  A record read from bytes: the model's walk.
-/
namespace Vm
open Go
theorem frzV_cells {h : H} {cs : List S} (hc : ∀ s ∈ cs, Cl s) : frzV h (.agg cs) = some (.agg cs) := by simp [mapO_cl hc]
section
variable {d : List UInt8} (hd : 7 ≤ d.length) (hl : d.length ≤ 2147483648)
include hd hl
theorem lp_l4Read {k t p : Int} : ∀ (q i j : Nat) (h : H) (y : S) (bs : List Nat) (acc : List RunD), j + q = bn d 4 → i ≤ d.length → acc.length ≤ j → OutS 2 1 y (runs acc) bs h → (∀ c ∈ bs, 2 ≤ c) → 2 ≤ h.n → h.g 1 = .rw 0 [.int .i64 k, .int .i64 t, .int .i64 p, y] →
    ∃ h' y' bs', Lp.spec_l4Read 0 [lv (bys d), pv 0 0, pv 1 0, iv .i64 i, iv .i64 j] h = some (.done [pv 0 0, pv 1 0] h') ∧ OutS 2 1 y' (runs (acc ++ spL d q i)) bs' h' ∧ (∀ c ∈ bs', 2 ≤ c) ∧ 2 ≤ h'.n ∧ h'.g 1 = .rw 0 [.int .i64 k, .int .i64 t, .int .i64 p, y'] ∧ h'.g 0 = h.g 0 := by
  have h4 : ((bn d 4 : Nat) : Int) = bt d 4 := bn_bt d 4
  have h4' := bn_lt d 4
  intro q
  induction q with
  | zero =>
    intro i j h y bs acc hj hi ha w hb hn hg
    rw [eq_spec_l4Read_l0, idxF_by (by omega) (by omega)]
    simp only [gx0, ob, gI_i, vcase_b]
    rw [w64 (n := bt d 4) (by omega) (by omega), if_neg (by simp; omega)]
    unfold Jn.spec_l4Read_l0_0
    rw [vcase_b, if_neg (by simp), tidy_self]
    exact ⟨h, y, bs, rfl, by simpa [spL] using w, hb, hn, hg, rfl⟩
  | succ q ih =>
    intro i j h y bs acc hj hi ha w hb hn hg
    rw [eq_spec_l4Read_l0, idxF_by (by omega) (by omega)]
    simp only [gx0, ob, gI_i, vcase_b]
    rw [w64 (n := bt d 4) (by omega) (by omega), if_pos (by simp; omega), w64 (n := (i : Int) + 2) (by omega) (by omega)]
    unfold Jn.spec_l4Read_l0_0
    rw [vcase_b, bys_len]
    simp only [spL]
    by_cases h1 : i + 2 ≤ d.length
    case neg =>
      rw [if_neg (by simp; omega), if_neg h1, tidy_self]
      exact ⟨h, y, bs, rfl, by simpa using w, hb, hn, hg, rfl⟩
    rw [if_pos (by simp; omega), if_pos h1, w64 (n := (i : Int) + 1) (by omega) (by omega), w64 (n := (i : Int) + 2) (by omega) (by omega), show (i : Int) + 1 = ((i + 1 : Nat) : Int) from by omega, idxF_by (by omega) (by omega)]
    simp only [gx0, ob, gI_i, vcase_b]
    have hm := bn_bt d (i + 1)
    have hm' := bn_lt d (i + 1)
    rw [← hm, w64 (n := ((bn d (i + 1) : Nat) : Int)) (by omega) (by omega), w64 (n := (i : Int) + 2 + ((bn d (i + 1) : Nat) : Int)) (by omega) (by omega)]
    generalize hmm : bn d (i + 1) = m at *
    by_cases h2 : i + 2 + m ≤ d.length
    case neg =>
      rw [if_pos (by simp; omega), if_neg h2, tidy_self]
      exact ⟨h, y, bs, rfl, by simpa using w, hb, hn, hg, rfl⟩
    rw [if_neg (by simp; omega), if_pos h2]
    have ld : load1 h (pv 1 3) = some y := by simp [load1, H.cells, show 1 < h.n by omega, hg, Blk.cells]
    simp only [padd, Nat.zero_add, ob, ldK, ldT, cond_false, ld]
    rw [idxF_by (by omega) (by omega)]
    simp only [gx0, ob, gI_i]
    rw [w64 (n := bt d i) (by have := bt_nn d i; omega) (by have := bt_lt d i; omega), show (i : Int) + 2 = ((i + 2 : Nat) : Int) from by omega, show ((i + 2 : Nat) : Int) + (m : Int) = ((i + 2 + m : Nat) : Int) from by omega, slF_lh (by omega) (by omega)]
    rw [show (d.take (i + 2 + m)).drop (i + 2) = cutL d (i + 2) (i + 2 + m) from rfl]
    obtain ⟨v, h1', e1, w1, nn⟩ := f_l2Copy (m := cutL d (i + 2) (i + 2 + m)) (by unfold cutL; rw [List.length_drop, List.length_take]; unfold lim; omega) h.n
    obtain ⟨e3, w2, u2, n2, x2⟩ := new_bys e1 w1 nn
    rw [e3]
    generalize h.over h1' = K at w2 u2 n2 x2 ⊢
    rw [hchk_of x2]
    simp only [sca_v, scaS, cond_true]
    rw [cellsR rfl, hchk_of (HExt.new x2)]
    have wk : OutS 2 1 y (runs acc) bs K := w.frame fun c hc => by
      have := w.rep.lt c hc
      exact ⟨by omega, u2.g c (by omega)⟩
    have wr := run_row (a := bt d i) (N := 0) w2
    obtain ⟨h2', bs2, e4, w3, n3, f3, o3, q3, _⟩ := app_row wk wr rfl (by omega) (by simp) (fun c hc hh => by have := w.rep.lt c hc; have := List.mem_singleton.1 hh; omega) (by simp; unfold lim; omega)
    rw [e4, ob]
    dsimp only
    have k1 : h2'.g 1 = .rw 0 [.int .i64 k, .int .i64 t, .int .i64 p, y] := by rw [o3 1 (by omega) (fun hh => by have := hb 1 hh; omega), u2.g 1 (by omega)]; exact hg
    rw [← runs_snoc] at w3
    generalize (runs acc).length + 1 = N at w3 ⊢
    rw [stK_rw (z := 1) (e := 0) (o := 3) (b := 1) (cs := [.int .i64 k, .int .i64 t, .int .i64 p, y]) (r := [.sl (some (K.n + 1, 0)) N]) (by omega) k1 (.inl ⟨_, rfl, rfl, rfl⟩) rfl (by simp)]
    rw [show setAt [.int .i64 k, .int .i64 t, .int .i64 p, y] 3 [S.sl (some (K.n + 1, 0)) N] = [.int .i64 k, .int .i64 t, .int .i64 p, .sl (some (K.n + 1, 0)) N] from rfl]
    rw [w64 (n := (j : Int) + 1) (by omega) (by omega), show (j : Int) + 1 = ((j + 1 : Nat) : Int) from by omega]
    rw [no_tidy (b := 1) (by omega) (put_g _ _ _) (by simp [belS]; omega) (by
      rw [hg]
      simp only [Blk.cells, List.all_cons, List.all_nil, Bool.and_true]
      rw [w.rep.top w.rep.lt]; rfl)]
    have hb3 : ∀ c ∈ bs2, 2 ≤ c := fun c hc => by
      rcases f3 c hc with h1 | h1 | h1
      · omega
      · exact hb c h1
      · have := List.mem_singleton.1 h1; omega
    have w3' : OutS 2 1 (.sl (some (K.n + 1, 0)) N) (runs (acc ++ [⟨bt d i, cutL d (i + 2) (i + 2 + m)⟩])) bs2 (h2'.put 1 (.rw 0 [.int .i64 k, .int .i64 t, .int .i64 p, .sl (some (K.n + 1, 0)) N])) := w3.frame fun c hc => by
      have := w3.rep.lt c hc
      have := hb3 c hc
      exact ⟨by rw [put_n]; omega, put_g' (by omega)⟩
    obtain ⟨h', y', bs', e5, w5, b5, n5, o5, o6⟩ := ih (i + 2 + m) (j + 1) _ _ bs2 (acc ++ [⟨bt d i, cutL d (i + 2) (i + 2 + m)⟩]) (by omega) (by omega) (by rw [List.length_append, List.length_singleton]; omega) w3' hb3 (by rw [put_n]; omega) (put_g _ _ _)
    refine ⟨h', y', bs', e5, ?_, b5, n5, o5, ?_⟩
    · simpa using w5
    · rw [o6, put_g' (by omega), o3 0 (by omega) (fun hh => by have := hb 0 hh; omega), u2.g 0 (by omega)]
theorem p_l4Read : pureV (call Ev) Fn.spec_l4Read [lv (bys d)] = some (.agg (spR d).cs) := by
  rw [pu_spec_l4Read, show (1 : Int) = ((1 : Nat) : Int) from rfl, idxF_by (by omega) (by omega)]
  simp only [gx0, ob, gI_i]
  rw [show (2 : Int) = ((2 : Nat) : Int) from rfl, idxF_by (by omega) (by omega)]
  simp only [gx0, ob, gI_i]
  rw [show (3 : Int) = ((3 : Nat) : Int) from rfl, idxF_by (by omega) (by omega)]
  simp only [gx0, ob, gI_i]
  have b1 := bt_nn d (1 : Nat)
  have b2 := bt_nn d (2 : Nat)
  have b3 := bt_nn d (3 : Nat)
  have c1 := bt_lt d (1 : Nat)
  have c2 := bt_lt d (2 : Nat)
  have c3 := bt_lt d (3 : Nat)
  rw [hchk_of (HExt.new (HExt.refl _)), w64 (n := bt d (1 : Nat)) (by omega) (by omega), w64 (n := bt d (2 : Nat)) (by omega) (by omega), w64 (n := bt d (3 : Nat)) (by omega) (by omega)]
  generalize hG : (((D 0).new 0 [.int .i64 0, .int .i64 0, .int .i64 0, .sl none 0]).new 0 [.int .i64 0, .int .i64 0, .int .i64 0, .sl none 0]).put 1 (.rw 0 [.int .i64 (bt d (1 : Nat)), .int .i64 (bt d (2 : Nat)), .int .i64 (bt d (3 : Nat)), .sl none 0]) = G
  have gn : G.n = 2 := by rw [← hG]; simp
  have g1 : G.g 1 = .rw 0 [.int .i64 (bt d (1 : Nat)), .int .i64 (bt d (2 : Nat)), .int .i64 (bt d (3 : Nat)), .sl none 0] := by rw [← hG]; exact put_g _ _ _
  have g0 : G.g 0 = .rw 0 [.int .i64 0, .int .i64 0, .int .i64 0, .sl none 0] := by rw [← hG, put_g' (by omega), new_g' (by simp)]; exact new_g (D 0) _ _
  clear hG
  obtain ⟨h', y', bs', e5, w5, b5, n5, o5, o6⟩ := lp_l4Read hd hl (bn d 4) 5 0 G (.sl none 0) [] [] (by omega) (by omega) (by simp) (by simpa [runs] using OutS.none) (by simp) (by omega) g1
  rw [show iv .i64 5 = iv .i64 ((5 : Nat) : Int) from rfl, show iv .i64 0 = iv .i64 ((0 : Nat) : Int) from rfl, e5, ob, lcase_done]
  simp only [gx0, gx1, ob, ldK, ldT, cond_true]
  rw [loadN_4 (b := 1) (e := 0) (by omega) o5]
  simp only [gVA_a, gx0, gx1, ob, gI_i, ln0, ln1, Nat.zero_add, Nat.reduceAdd, if_true]
  rw [stK_rw (z := 4) (e := 0) (o := 0) (b := 0) (cs := [.int .i64 0, .int .i64 0, .int .i64 0, .sl none 0]) (r := [.int .i64 (bt d (1 : Nat)), .int .i64 (bt d (2 : Nat)), .int .i64 (bt d (3 : Nat)), y']) (by omega) (by rw [o6]; exact g0) (.inr rfl) rfl (by simp)]
  rw [show setAt [.int .i64 0, .int .i64 0, .int .i64 0, .sl none 0] 0 [.int .i64 (bt d (1 : Nat)), .int .i64 (bt d (2 : Nat)), .int .i64 (bt d (3 : Nat)), y'] = [.int .i64 (bt d (1 : Nat)), .int .i64 (bt d (2 : Nat)), .int .i64 (bt d (3 : Nat)), y'] from rfl]
  rw [loadN_4 (b := 0) (e := 0) (by rw [put_n]; omega) (put_g _ _ _), ob]
  have w6 : Rep (h'.put 0 (.rw 0 [.int .i64 (bt d (1 : Nat)), .int .i64 (bt d (2 : Nat)), .int .i64 (bt d (3 : Nat)), y'])) 2 y' (.fs (runs ([] ++ spL d (bn d 4) 5))) bs' := w5.rep.frame fun c hc => by
    have := b5 c hc
    exact ⟨by rw [put_n]; exact w5.rep.lt c hc, put_g' (by omega)⟩
  have := w6.frz (k := 8) (by omega)
  simp only [List.nil_append] at this
  generalize h'.put 0 (.rw 0 [.int .i64 (bt d (1 : Nat)), .int .i64 (bt d (2 : Nat)), .int .i64 (bt d (3 : Nat)), y']) = Q at this ⊢
  rw [frzV_a]
  simp only [mapO, frz_i, this, ob]
  rfl
end
theorem toList_loop (s : ByteArray) : ∀ (q i : Nat) (r : List UInt8), i + q = s.size → ByteArray.toList.loop s i r = r.reverse ++ s.data.toList.drop i := by
  intro q
  induction q with
  | zero =>
    intro i r hi
    rw [ByteArray.toList.loop, if_neg (by omega), List.drop_of_length_le (by simp; omega)]
    simp
  | succ q ih =>
    intro i r hi
    rw [ByteArray.toList.loop, if_pos (by omega), ih (i + 1) _ (by omega), str_drop (i := i) (by omega)]
    simp
theorem toList_data (s : ByteArray) : s.toList = s.data.toList := by
  unfold ByteArray.toList
  rw [toList_loop s s.size 0 [] (by omega)]
  simp
theorem str_eq {a b : List UInt8} : ((⟨a.toArray⟩ : ByteArray).toList == (⟨b.toArray⟩ : ByteArray).toList) = decide (a = b) := by
  rw [toList_data, toList_data]
  by_cases h : a = b <;> simp [h]
theorem loadN_6 {e b : Nat} {h : H} {x y z u v w : S} (hb : b < h.n) (hg : h.g b = .rw e [x, y, z, u, v, w]) : loadN 6 h (pv b 0) = some [x, y, z, u, v, w] := loadN_rw hb hg (by simp)
theorem cvStr_w {h : H} {v : V} {l : List UInt8} {b : Nat} (w : BysW h v l b) (hl : l.length ≤ lim) : cvStr h v = some (.s (.str ⟨l.toArray⟩)) := by
  have h1 := cellsS_w w
  obtain ⟨rfl, w2, w3⟩ := w
  simp only [cvStr, h1, Option.bind_some, bytesS_map]
  rw [if_pos hl]
abbrev six (c u : Int) (r : RecD) : List S := [.int .i64 c, .int .i64 u, .int .i64 r.kind, .int .i64 r.tx, .int .i64 r.page, .fs (runs r.rs)]
theorem bad_rd {d : List UInt8} (h : ¬ rdOk d) : six (rdC d) (rdN d) (rdRec d) = [.int .i64 5, .int .i64 0, .int .i64 0, .int .i64 0, .int .i64 0, .fs []] := by
  unfold rdC rdN rdRec
  rw [if_neg h, if_neg h, if_neg h]; rfl
theorem ok_rd {d : List UInt8} (h : rdOk d) : six (rdC d) (rdN d) (rdRec d) = six 0 (bn d 0) (spR (d.take (bn d 0))) := by
  unfold rdC rdN rdRec
  rw [if_pos h, if_pos h, if_pos h]
theorem spL_bd (d : List UInt8) : ∀ (q i : Nat), i ≤ d.length → (spL d q i).length ≤ q ∧ rsz (spL d q i) ≤ q + (d.length - i)
  | 0, i, _ => by simp [spL, rsz, szAll]
  | q + 1, i, hi => by
    simp only [spL]
    split
    · split
      · rename_i h1 h2
        have := spL_bd d q (i + 2 + bn d (i + 1)) h2
        rw [List.length_cons, rsz_cons]
        have hc : (cutL d (i + 2) (i + 2 + bn d (i + 1))).length = bn d (i + 1) := by unfold cutL; rw [List.length_drop, List.length_take]; omega
        dsimp only
        rw [hc]
        omega
      · simp [rsz, szAll]
    · simp [rsz, szAll]
theorem spR_sm {d : List UInt8} (h7 : 7 ≤ d.length) (hl : d.length ≤ 1000) : (spR d).sm := by
  have h1 := spL_bd d (bn d 4) 5 (by omega)
  have h2 := bn_lt d 4
  exact ⟨by unfold spR; dsimp only; omega, by unfold spR; dsimp only; omega⟩
theorem J_rd0 {t : Bool} {w1 w2 w3 w4 w5 w6 w7 : V} {h : H} {n : Nat} {r : RecD} {q : Bool} (hn : 2 ≤ h.n) (hb : (n : Int) < 256) (g0 : h.g 0 = .rw 0 [.int .i64 0, .int .i64 0, .int .i64 0, .int .i64 0, .int .i64 0, .sl none 0]) (g1 : h.g 1 = .rw 0 r.cs) :
    Jn.spec_ReadRecord_0 t w1 w2 w3 w4 w5 w6 w7 q h n = some (.agg (if q = true then [.int .i64 5, .int .i64 0, .int .i64 0, .int .i64 0, .int .i64 0, .fs []] else six 0 n r)) := by
  unfold Jn.spec_ReadRecord_0
  rw [vcase_b]
  cases q
  · rw [if_neg (by simp), if_neg (by simp), loadN_4 (b := 1) (by omega) g1]
    simp only [gx0, gx1, ob, gI_i, ln0, ln1, Nat.zero_add, Nat.reduceAdd, if_true]
    rw [w64 (by omega) (by omega), stK_rw (z := 6) (e := 0) (o := 0) (b := 0) (cs := [.int .i64 0, .int .i64 0, .int .i64 0, .int .i64 0, .int .i64 0, .sl none 0]) (r := six 0 n r) (by omega) g0 (.inr rfl) rfl (by simp)]
    rw [show setAt [.int .i64 0, .int .i64 0, .int .i64 0, .int .i64 0, .int .i64 0, .sl none 0] 0 (six 0 n r) = six 0 n r from rfl]
    rw [loadN_6 (b := 0) (e := 0) (by rw [put_n]; omega) (put_g _ _ _), ob]
    exact frzV_cells (by
      intro s hs
      simp only [List.mem_cons, List.not_mem_nil, or_false] at hs
      rcases hs with rfl | rfl | rfl | rfl | rfl | rfl <;> first | exact cl_i | exact cl_f)
  · rw [if_pos rfl, if_pos rfl]
    rw [stK_rw (z := 6) (e := 0) (o := 0) (b := 0) (cs := [.int .i64 0, .int .i64 0, .int .i64 0, .int .i64 0, .int .i64 0, .sl none 0]) (r := [.int .i64 5, .int .i64 0, .int .i64 0, .int .i64 0, .int .i64 0, .sl none 0]) (by omega) g0 (.inr rfl) rfl (by simp)]
    rw [show setAt [.int .i64 0, .int .i64 0, .int .i64 0, .int .i64 0, .int .i64 0, .sl none 0] 0 [.int .i64 5, .int .i64 0, .int .i64 0, .int .i64 0, .int .i64 0, .sl none 0] = [.int .i64 5, .int .i64 0, .int .i64 0, .int .i64 0, .int .i64 0, .sl none 0] from rfl]
    rw [loadN_6 (b := 0) (e := 0) (by rw [put_n]; omega) (put_g _ _ _), ob]
    simp
theorem p_spec_ReadRecord {d : List UInt8} (hl : d.length ≤ maxLen) : pureV (call Ev) Fn.spec_ReadRecord [lv (bys d)] = some (.agg (six (rdC d) (rdN d) (rdRec d))) := by
  unfold maxLen at hl
  rw [pu_spec_ReadRecord, vcase_b, bys_len]
  by_cases h7 : 7 ≤ d.length
  case neg => rw [if_pos (by simp; omega), bad_rd (fun hh => h7 hh.1)]
  rw [if_neg (by simp; omega)]
  have i0 : ∀ {R : Type} {k : List S → Option R}, idxF 1 (bys d) 0 k = k [.int .u8 (bt d 0)] := fun {R} {k} => idxF_by (i := 0) (by omega) (by omega)
  have hb : ((bn d 0 : Nat) : Int) = bt d 0 := bn_bt d 0
  have hb2 := bn_lt d 0
  rw [i0]
  simp only [gx0, ob, gI_i]
  rw [i0]
  simp only [gx0, ob, gI_i, vcase_b]
  rw [← hb, w64 (n := ((bn d 0 : Nat) : Int)) (by omega) (by omega)]
  by_cases h8 : 7 ≤ bn d 0
  case neg =>
    rw [if_pos (by simp; omega), bad_rd (fun hh => h8 hh.2.1)]
    unfold Jn.spec_ReadRecord_1
    simp
  rw [if_neg (by simp; omega)]
  unfold Jn.spec_ReadRecord_1
  rw [vcase_b]
  by_cases h9 : bn d 0 ≤ d.length
  case neg => rw [if_pos (by simp; omega), bad_rd (fun hh => h9 hh.2.2.1)]
  rw [if_neg (by simp; omega), i0]
  simp only [gx0, ob, gI_i]
  have ec : ∀ {R : Type} {k : List (List S) → Option R}, slF 1 (bys d) none (some (iv .i64 ((bn d 0 : Nat) : Int))) k = k (bys (d.take (bn d 0))) := slF_hi h9
  rw [← hb, w64 (n := ((bn d 0 : Nat) : Int)) (by omega) (by omega), ec]
  have htl : (d.take (bn d 0)).length = bn d 0 := by rw [List.length_take]; omega
  rw [p_l4Read (by omega) (by omega)]
  simp only [ob, gVA_a, gx0, gx1, gI_i, gF_f]
  have hsm := spR_sm (d := d.take (bn d 0)) (by omega) (by omega)
  generalize hr : spR (d.take (bn d 0)) = r at *
  rw [if_pos (show ([_, _, _, _] : List S).length = 4 from rfl), pc (p_l4Fault r (by have := hsm.n; unfold maxLen; omega)) rfl]
  simp only [gV1_s, gI_i, hchk_self, vcase_b]
  generalize hG : ((D 0).new 0 [.int .i64 0, .int .i64 0, .int .i64 0, .int .i64 0, .int .i64 0, .sl none 0]).new 0 [.int .i64 0, .int .i64 0, .int .i64 0, .sl none 0] = G0
  have gn0 : G0.n = 2 := by rw [← hG]; simp
  have gg0 : G0.g 0 = .rw 0 [.int .i64 0, .int .i64 0, .int .i64 0, .int .i64 0, .int .i64 0, .sl none 0] := by rw [← hG, new_g' (by simp)]; exact new_g (D 0) _ _
  generalize hG1 : G0.put 1 (.rw 0 [.int .i64 r.kind, .int .i64 r.tx, .int .i64 r.page, .fs (runs r.rs)]) = G
  have gn : G.n = 2 := by rw [← hG1, put_n, gn0]
  have g0 : G.g 0 = .rw 0 [.int .i64 0, .int .i64 0, .int .i64 0, .int .i64 0, .int .i64 0, .sl none 0] := by rw [← hG1, put_g' (by omega)]; exact gg0
  have g1 : G.g 1 = .rw 0 r.cs := by rw [← hG1]; exact put_g _ _ _
  by_cases hf : recF r = 0
  case neg =>
    rw [if_pos (by simpa using hf), J_rd0 (by omega) (by omega) g0 g1, bad_rd (fun hh => by have := hh.2.2.2.1; rw [hr] at this; exact hf this)]
    rfl
  rw [if_neg (by simp [hf]), ec, fsStr_by (by rw [htl]; unfold lim; omega), ob]
  simp only [gV1_s, gS_s]
  obtain ⟨y, h1, e1, n1, w1⟩ := f_l4Pack hsm 2
  obtain ⟨K, e, u, hK, w', x⟩ := pVx (h := G) (off := false) gn e1 n1 w1
  obtain ⟨bs, w2, _, w3⟩ := w'.now
  rw [e, hchk_of x, show scaV (.s y) = true from w2.sca]
  have hpl := pk_len r
  obtain ⟨b, w4⟩ : ∃ b, BysW K (.s y) (pk r) b := by
    rcases Rep.of_bys (d := 3) w2 with ⟨h0, _⟩ | ⟨b, h0, _⟩
    · rw [h0] at hpl; simp at hpl; omega
    · exact ⟨b, h0⟩
  have h1' := hsm.n
  have h2' := hsm.s
  rw [cond_true, cvStr_w w4 (by unfold lim; omega), ob]
  simp only [gV1_s, gS_s, hchk_of x]
  rw [str_eq, J_rd0 (by omega) (by omega) (by rw [u.g 0 (by omega)]; exact g0) (by rw [u.g 1 (by omega)]; exact g1)]
  by_cases hp : pk r = d.take (bn d 0)
  · rw [ok_rd ⟨h7, h8, h9, by rw [hr]; exact hf, by rw [hr]; exact hp⟩, hr]
    simp [hp]
  · rw [bad_rd (fun hh => hp (by have := hh.2.2.2.2; rwa [hr] at this))]
    simp [hp]
end Vm
