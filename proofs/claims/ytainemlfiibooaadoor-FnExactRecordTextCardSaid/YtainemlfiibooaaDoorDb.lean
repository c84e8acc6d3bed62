/-
  Bytes: as frozen slices, and as slices that are one's own.
-/
import Derived.Test.YtainemlfiibooaaDoorDf
set_option linter.unusedVariables false
set_option maxRecDepth 100000
set_option linter.unusedSimpArgs false
namespace Vm
open Go

def cell8 (c : UInt8) : S := .int .u8 c.toNat
/-- bytes as rows -/
def bys (l : List UInt8) : List (List S) := l.map fun c => [cell8 c]
/-- the byte at a place, as a number -/
def bt (l : List UInt8) (i : Int) : Int := ((l.getD i.toNat 0).toNat : Int)
theorem bt_nn (l : List UInt8) (i : Int) : 0 ≤ bt l i := by unfold bt; omega
theorem bt_lt (l : List UInt8) (i : Int) : bt l i < 256 := by
  unfold bt
  have := (l.getD i.toNat 0).toNat_lt
  omega
@[simp] theorem bys_len (l : List UInt8) : (bys l).length = l.length := by simp [bys]
theorem bys_row {l : List UInt8} : ∀ r ∈ bys l, r.length = 1 := by
  intro r hr
  obtain ⟨c, _, rfl⟩ := List.mem_map.1 hr
  rfl
theorem bys_cl {l : List UInt8} : ∀ r ∈ bys l, ∀ s ∈ r, Cl s := by
  intro r hr s hs
  obtain ⟨c, _, rfl⟩ := List.mem_map.1 hr
  rw [List.mem_singleton.1 hs]
  exact cl_i
theorem bys_flat (l : List UInt8) : (bys l).flatten = l.map cell8 := by
  induction l with
  | nil => rfl
  | cons c l ih => simp only [bys, List.map_cons, List.flatten_cons, List.singleton_append] at ih ⊢; rw [ih]
theorem bys_get {l : List UInt8} {i : Nat} (h : i < l.length) : (bys l)[i]? = some [.int .u8 (bt l i)] := by
  simp [bys, h, cell8, bt]
theorem bys_take (l : List UInt8) (n : Nat) : (bys l).take n = bys (l.take n) := by simp [bys, List.map_take]
theorem bys_drop (l : List UInt8) (n : Nat) : (bys l).drop n = bys (l.drop n) := by simp [bys, List.map_drop]
theorem bys_app (l m : List UInt8) : bys (l ++ m) = bys l ++ bys m := by simp [bys]
section
variable {R : Type}
/-- reading a byte -/
theorem idxF_by {l : List UInt8} {i : Int} {k : List S → Option R} (h0 : 0 ≤ i) (h1 : i < l.length) : idxF 1 (bys l) i k = k [.int .u8 (bt l i)] := by
  obtain ⟨n, rfl⟩ : ∃ n : Nat, i = n := ⟨i.toNat, by omega⟩
  exact idxF_at (bys_get (by omega)) rfl
theorem idxF_out {z : Nat} {rows : List (List S)} {i : Int} {k : List S → Option R} (h : ¬ (0 ≤ i ∧ i < rows.length)) : idxF z rows i k = none := by
  unfold idxF; rw [if_neg h]
theorem bnd_of {y n : Nat} {kd : IntKind} (h : n ≤ y) : bnd y (iv kd (n : Int)) = some n := by
  simp only [bnd]; rw [if_pos ⟨by omega, by omega⟩]; simp
theorem slF_lo {l : List UInt8} {a : Nat} {kd : IntKind} {k : List (List S) → Option R} (h : a ≤ l.length) : slF 1 (bys l) (some (iv kd (a : Int))) none k = k (bys (l.drop a)) := by
  unfold slF
  simp only [bys_len, Option.bind_some, bnd_of h, if_pos (show ∀ r ∈ bys l, r.length = 1 from bys_row)]
  rw [show l.length = (bys l).length from (bys_len l).symm, List.take_length, bys_drop]
theorem slF_hi {l : List UInt8} {b : Nat} {kd : IntKind} {k : List (List S) → Option R} (h : b ≤ l.length) : slF 1 (bys l) none (some (iv kd (b : Int))) k = k (bys (l.take b)) := by
  unfold slF
  simp only [bys_len, Option.bind_some, bnd_of h, if_pos (show ∀ r ∈ bys l, r.length = 1 from bys_row)]
  rw [bys_take, List.drop_zero]
theorem slF_lh {l : List UInt8} {a b : Nat} {kd kd' : IntKind} {k : List (List S) → Option R} (h : a ≤ b) (h2 : b ≤ l.length) : slF 1 (bys l) (some (iv kd (a : Int))) (some (iv kd' (b : Int))) k = k (bys ((l.take b).drop a)) := by
  unfold slF
  simp only [bys_len, Option.bind_some, bnd_of h, bnd_of h2, if_pos (show ∀ r ∈ bys l, r.length = 1 from bys_row)]
  rw [bys_take, bys_drop]
end
theorem bytesS_map (l : List UInt8) : bytesS (l.map cell8) = some l := by
  induction l with
  | nil => rfl
  | cons c l ih =>
    have := c.toNat_lt
    simp only [List.map_cons, cell8, bytesS] at ih ⊢
    rw [ih, Option.bind_some, if_pos ⟨by omega, by omega⟩]
    simp
theorem fsStr_by {l : List UInt8} (h : l.length ≤ lim) : fsStr (bys l) = some (.s (.str ⟨l.toArray⟩)) := by
  unfold fsStr
  rw [if_pos bys_row, Option.bind_some, bys_flat, bytesS_map, Option.bind_some, bys_len, if_pos h]

/-- a slice that holds all of a block's bytes, and may be written -/
structure BysW (h : H) (v : V) (l : List UInt8) (b : Nat) : Prop where
  v : v = sv b 0 l.length
  n : b < h.n
  g : h.g b = .rw 1 (l.map cell8)
theorem BysW.newly (h : H) (l : List UInt8) : BysW (h.new 1 (l.map cell8)) (sv h.n 0 l.length) l h.n := ⟨rfl, by simp, by simp⟩
theorem BysW.frz {h : H} {v : V} {l : List UInt8} {b d : Nat} (w : BysW h v l b) : v = sv b 0 l.length ∧ frzS h (d + 1) (.sl (some (b, 0)) l.length) = some (.fs (bys l)) := by
  refine ⟨w.v, ?_⟩
  have := frzS_sl (h := h) (b := b) (z := 1) (d := d) (rows := bys l) w.n (by omega) (by rw [bys_flat]; exact w.g) bys_row bys_cl
  rwa [bys_len] at this
/-- bytes that are one's own: none at all, or a block -/
def Own (h : H) (v : V) (l : List UInt8) : Option Nat → Prop
  | none => v = .s (.sl none 0) ∧ l = []
  | some b => BysW h v l b
theorem Own.frz {h : H} {v : V} {l : List UInt8} {ob : Option Nat} {d : Nat} (w : Own h v l ob) : ∃ s, v = .s s ∧ frzS h (d + 1) s = some (.fs (bys l)) := by
  cases ob with
  | none => obtain ⟨rfl, rfl⟩ := w; exact ⟨_, rfl, frz_n⟩
  | some b => obtain ⟨h1, h2⟩ := BysW.frz (d := d) w; exact ⟨_, h1, h2⟩
theorem BysW.set {R : Type} {h : H} {n : Nat} {l : List UInt8} {b i : Nat} {c : UInt8} {x : Int} {k : H → Option R} (w : BysW h (sv b 0 n) l b) (hi : i < l.length) (hx : x = (c.toNat : Int)) : stK 1 h (pv b (i * 1)) (iv .u8 x) k = k (h.put b (.rw 1 ((l.set i c).map cell8))) := by
  subst hx
  rw [stK_rw (z := 1) (e := 1) (o := i * 1) (v := iv .u8 c.toNat) (cs := l.map cell8) (r := [cell8 c]) w.n w.g (.inl ⟨_, rfl, rfl, rfl⟩) rfl (by simp; omega)]
  congr 3
  unfold setAt
  rw [List.map_set, List.set_eq_take_append_cons_drop, if_pos (by simp; omega)]
  simp
theorem BysW.set_w {h : H} {n : Nat} {l : List UInt8} {b i : Nat} {c : UInt8} (w : BysW h (sv b 0 n) l b) : BysW (h.put b (.rw 1 ((l.set i c).map cell8))) (sv b 0 n) (l.set i c) b := by
  refine ⟨?_, w.n, put_g _ _ _⟩
  rw [w.v, List.length_set]
theorem BysW.len {h : H} {n : Nat} {l : List UInt8} {b : Nat} (w : BysW h (sv b 0 n) l b) : n = l.length := by
  have := w.v
  injection this with h1
  injection h1
theorem BysW.get {R : Type} {h : H} {n : Nat} {l : List UInt8} {b i : Nat} {ti : TI} {k : V → Option R} (w : BysW h (sv b 0 n) l b) (hi : i < l.length) (hz : ti.agg = false) : ldK (.one (.i .u8)) ti h (pv b (i * 1)) k = k (iv .u8 (bt l i)) := by
  have : load1 h (pv b (i * 1)) = some (.int .u8 (bt l i)) := by
    simp [load1, H.cells, w.n, w.g, Blk.cells, hi, cell8, bt]
  simp only [ldK, ldT, hz, cond_false, this, Option.bind_some]
theorem bt_ext {l m : List UInt8} (hl : l.length = m.length) (h : ∀ i : Nat, i < l.length → bt l i = bt m i) : l = m := by
  refine List.ext_getElem hl fun i h1 h2 => ?_
  have := h i h1
  simp only [bt, Int.toNat_natCast, List.getD, List.getElem?_eq_getElem h1, List.getElem?_eq_getElem h2, Option.getD_some] at this
  exact UInt8.toNat_inj.1 (by omega)
end Vm
