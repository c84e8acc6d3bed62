/-
  Slices of bytes in the small machine's heap: what they hold, how they are read, cut, written, made longer.
-/
import Derived.Test.YtfmkfefblbophaaDl
set_option linter.unusedVariables false
set_option maxRecDepth 100000
set_option linter.unusedSimpArgs false
namespace Vm
open Go

def cell8 (c : UInt8) : S := .int .u8 c.toNat
/-- the byte at a place, as a number -/
def bt (l : List UInt8) (i : Int) : Int := ((l.getD i.toNat 0).toNat : Int)
theorem bt_nn (l : List UInt8) (i : Int) : 0 ≤ bt l i := by unfold bt; omega
theorem bt_lt (l : List UInt8) (i : Int) : bt l i < 256 := by
  unfold bt
  have := (l.getD i.toNat 0).toNat_lt
  omega
/-- a slice that holds these bytes -/
def Bys (h : H) (v : V) (l : List UInt8) : Prop := ∃ a, v = .s (.sl a l.length) ∧ cellsS 1 h v = some (l.map cell8)
/-- a slice that holds all of a block's bytes, and may be written -/
structure BysW (h : H) (v : V) (l : List UInt8) (b : Nat) : Prop where
  v : v = sv b 0 l.length
  n : b < h.n
  g : h.g b = .rw 1 (l.map cell8)

theorem Bys.nil (h : H) : Bys h (.s (.sl none 0)) [] := ⟨none, rfl, rfl⟩
theorem BysW.r {h : H} {v : V} {l : List UInt8} {b : Nat} (x : BysW h v l b) : Bys h v l := by
  obtain ⟨rfl, h2, h3⟩ := x
  refine ⟨_, rfl, ?_⟩
  have hc : h.cells b = l.map cell8 := by unfold H.cells; rw [if_pos h2, h3]; rfl
  simp only [cellsS, hc]
  rw [if_pos ⟨h2, by simp⟩, List.drop_zero, List.take_of_length_le (by simp)]
theorem cellsS_mono {z : Nat} {h h' : H} (x : HExt h h') {v : V} {cs : List S} (hc : cellsS z h v = some cs) : cellsS z h' v = some cs := by
  unfold cellsS at hc ⊢
  split at hc
  · exact hc
  · rename_i b o n
    split at hc
    · rename_i hb
      have := x.1
      rw [x.cells hb.1, if_pos ⟨by omega, hb.2⟩]; exact hc
    · cases hc
  · exact hc
  · cases hc
theorem Bys.mono {h h' : H} (x : HExt h h') {v : V} {l : List UInt8} (hb : Bys h v l) : Bys h' v l := by
  obtain ⟨a, h1, h2⟩ := hb
  exact ⟨a, h1, cellsS_mono x h2⟩
theorem BysW.mono {h h' : H} (x : HExt h h') {v : V} {l : List UInt8} {b : Nat} (hb : BysW h v l b) : BysW h' v l b :=
  ⟨hb.v, Nat.lt_of_lt_of_le hb.n x.1, by rw [(x.2 b hb.n).1]; exact hb.g⟩
theorem Bys.len {h : H} {v : V} {l : List UInt8} (hb : Bys h v l) {e : Nat} : lenV (.sl e) v = some (iv .i64 l.length) := by
  obtain ⟨a, rfl, _⟩ := hb; rfl
theorem Bys.lenS {h : H} {v : V} {l : List UInt8} (hb : Bys h v l) : Vm.lenS v = some l.length := by
  obtain ⟨a, rfl, _⟩ := hb; rfl
theorem Bys.cells {h : H} {v : V} {l : List UInt8} (hb : Bys h v l) : cellsS 1 h v = some (l.map cell8) := by
  obtain ⟨a, _, h2⟩ := hb; exact h2
/-- where the bytes stand -/
theorem Bys.place {h : H} {v : V} {l : List UInt8} (hb : Bys h v l) (hl : l ≠ []) : ∃ b o, v = sv b o l.length ∧ b < h.n ∧ o + l.length ≤ (h.cells b).length ∧ ((h.cells b).drop o).take l.length = l.map cell8 := by
  obtain ⟨a, rfl, h2⟩ := hb
  cases a with
  | none =>
    cases l with
    | nil => exact absurd rfl hl
    | cons c l => simp [cellsS] at h2
  | some p =>
    obtain ⟨b, o⟩ := p
    simp only [cellsS] at h2
    split at h2
    · rename_i hc
      rw [Nat.mul_one] at h2 hc
      exact ⟨b, o, rfl, hc.1, hc.2, Option.some.inj h2⟩
    · cases h2
theorem Bys.at {h : H} {v : V} {l : List UInt8} (hb : Bys h v l) {k : IntKind} {i : Int} (h0 : 0 ≤ i) (h1 : i < l.length) : ∃ p, idxS 1 v (iv k i) = some p ∧ load1 h p = some (.int .u8 (bt l i)) := by
  have hl : l ≠ [] := by intro e; subst e; simp at h1; omega
  obtain ⟨b, o, rfl, hn, hle, hc⟩ := hb.place hl
  refine ⟨pv b (o + i.toNat * 1), ?_, ?_⟩
  · simp only [idxS]; rw [if_pos ⟨h0, by omega⟩]
  · simp only [load1, Nat.mul_one]
    have hi : i.toNat < l.length := by omega
    have e1 : (h.cells b)[o + i.toNat]? = (((h.cells b).drop o).take l.length)[i.toNat]? := by
      rw [List.getElem?_take, if_pos hi, List.getElem?_drop]
    rw [e1, hc, List.getElem?_map, List.getElem?_eq_getElem hi]
    simp [cell8, bt, List.getD, hi]
/-- reading a byte -/
theorem Bys.get {h : H} {v : V} {l : List UInt8} (hb : Bys h v l) {k : IntKind} {i : Int} (h0 : 0 ≤ i) (h1 : i < l.length) {R : Type} {F : S → Option R} :
    ((idxS 1 v (iv k i)).bind fun p => (load1 h p).bind F) = F (.int .u8 (bt l i)) := by
  obtain ⟨p, e1, e2⟩ := hb.at (k := k) h0 h1
  rw [e1, Option.bind_some, e2, Option.bind_some]

theorem HExt.put {h0 h : H} (x : HExt h0 h) {b : Nat} {y : Blk} (hb : h0.n ≤ b) : HExt h0 (h.put b y) := ⟨x.1, fun i hi => by
  have : i ≠ b := by omega
  simp only [H.put, if_neg this]; exact x.2 i hi⟩
theorem HExt.new {h0 h : H} (x : HExt h0 h) {e : Nat} {cs : List S} : HExt h0 (h.new e cs) := by rw [nw_zero]; exact x.up
theorem new_n (h : H) (e : Nat) (cs : List S) : (h.new e cs).n = h.n + 1 := id rfl
theorem new_g (h : H) (e : Nat) (cs : List S) : (h.new e cs).g h.n = .rw e cs := by simp [H.new]
theorem BysW.newly (h : H) (l : List UInt8) {v : V} (hv : v = sv h.n 0 l.length) : BysW (h.new 1 (l.map cell8)) v l h.n := ⟨hv, by rw [new_n]; omega, new_g _ _ _⟩

/-- what can be appended: bytes of a slice or of a string -/
def Cel (h : H) (y : V) (m : List UInt8) : Prop := cellsS 1 h y = some (m.map cell8) ∧ Vm.lenS y = some m.length
theorem Bys.c {h : H} {v : V} {l : List UInt8} (hb : Bys h v l) : Cel h v l := ⟨hb.cells, hb.lenS⟩
theorem Cel.str (h : H) (s : ByteArray) : Cel h (.s (.str s)) s.data.toList := ⟨rfl, by simp [Vm.lenS]⟩
/-- append to bytes that may be written: they go, and new ones stand in a new block -/
theorem BysW.app {h : H} {x y : V} {l m : List UInt8} {b : Nat} (hx : BysW h x l b) (hy : Cel h y m) (hl : l.length + m.length ≤ lim) :
    ∃ h' v, appS 1 h x y = some (v, h') ∧ BysW h' v (l ++ m) h.n ∧ h'.n = h.n + 1 ∧ (∀ h0, HExt h0 h → h0.n ≤ b → HExt h0 h') := by
  have hc := hx.r.cells
  obtain ⟨rfl, hn, hg⟩ := hx
  refine ⟨(h.put b .dead).new 1 (l.map cell8 ++ m.map cell8), sv h.n 0 (l.length + m.length), ?_, ?_, rfl, fun h0 x hb => (x.put hb).new⟩
  · simp only [appS]
    rw [hc, Option.bind_some, hy.1, Option.bind_some, hy.2, Option.bind_some, if_pos ⟨hn, hl, by omega⟩, hg]
    rfl
  · rw [← List.map_append]
    exact BysW.newly (h.put b .dead) (l ++ m) (by simp [put_n])
/-- append to nothing -/
theorem app_nil {h : H} {y : V} {m : List UInt8} (hy : Cel h y m) (hm : m ≠ []) (hl : m.length ≤ lim) :
    appS 1 h (.s (.sl none 0)) y = some (sv h.n 0 m.length, h.new 1 (m.map cell8)) := by
  simp only [appS]
  rw [hy.1, Option.bind_some, hy.2, Option.bind_some, if_pos ⟨trivial, hl, by omega⟩, if_neg (by simpa using hm)]
/-- a byte is written -/
theorem BysW.set {h : H} {v : V} {l : List UInt8} {b : Nat} (hx : BysW h v l b) {k : IntKind} {i : Int} (h0 : 0 ≤ i) (h1 : i < l.length) (c : UInt8) {n : Int} (hn : n = c.toNat) :
    ∃ p h', idxS 1 v (iv k i) = some p ∧ stV 1 h p (iv .u8 n) = some h' ∧ BysW h' v (l.set i.toNat c) b ∧ h'.n = h.n ∧ (∀ h0, HExt h0 h → h0.n ≤ b → HExt h0 h') ∧ (∀ b', b' ≠ b → h'.g b' = h.g b') := by
  obtain ⟨rfl, hn', hg⟩ := hx
  subst hn
  refine ⟨pv b (0 + i.toNat * 1), h.put b (.rw 1 ((l.map cell8).set i.toNat (cell8 c))), ?_, ?_, ?_, rfl, fun h0 x hb => x.put hb, fun b' hb => by simp [H.put, hb]⟩
  · simp only [idxS]; rw [if_pos ⟨h0, by omega⟩]
  · simp only [stV, put1, isNo, hg, Nat.mul_one, Nat.zero_add]
    rw [if_pos trivial, if_pos ⟨hn', trivial⟩, if_pos (by simp; omega)]
    rfl
  · refine ⟨by simp, by rw [put_n]; exact hn', ?_⟩
    simp [H.put, List.map_set]
/-- bytes cut -/
theorem Bys.cut {h : H} {v : V} {l : List UInt8} (hb : Bys h v l) (hne : l ≠ []) (hok : ∀ b o n, v = sv b o n → okE h 1 b = true) (lo hi : Nat) (h1 : lo ≤ hi) (h2 : hi ≤ l.length) :
    ∃ v', slS 1 h v (some (iv .i64 lo)) (some (iv .i64 hi)) = some v' ∧ Bys h v' ((l.take hi).drop lo) ∧ ∃ b o n, v' = sv b o n ∧ ∃ o' n', v = sv b o' n' := by
  obtain ⟨b, o, rfl, hn, hle, hc⟩ := hb.place hne
  have ok := hok b o l.length rfl
  refine ⟨sv b (o + lo * 1) (hi - lo), ?_, ?_, b, _, _, rfl, _, _, rfl⟩
  · simp only [slS, bnd]
    rw [if_pos ⟨by omega, by omega⟩, Option.bind_some, if_pos ⟨by omega, by omega⟩, Option.bind_some, if_pos ok]
    simp
  · have hlen : ((l.take hi).drop lo).length = hi - lo := by simp; omega
    refine ⟨some (b, o + lo * 1), by rw [hlen], ?_⟩
    simp only [cellsS]
    rw [if_pos ⟨hn, by omega⟩]
    congr 1
    rw [Nat.mul_one, Nat.mul_one, List.map_drop, List.map_take, ← hc, List.take_take, Nat.min_eq_left h2, List.drop_take, List.drop_drop]
end Vm
