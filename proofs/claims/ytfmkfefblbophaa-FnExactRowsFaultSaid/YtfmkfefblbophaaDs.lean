/-
  Slices of structs in the small machine's heap: their rows of cells, how they are read and written.
-/
import Derived.Test.YtfmkfefblbophaaDb
set_option linter.unusedVariables false
set_option maxRecDepth 100000
set_option linter.unusedSimpArgs false
namespace Vm
open Go

theorem flat_len {z : Nat} : ∀ {rows : List (List S)}, (∀ r ∈ rows, r.length = z) → rows.flatten.length = rows.length * z
  | [], _ => by simp
  | r :: rows, h => by
    rw [List.flatten_cons, List.length_append, h r (by simp), flat_len fun r hr => h r (by simp [hr]), List.length_cons, Nat.succ_mul]; omega
theorem flat_get {z : Nat} : ∀ {rows : List (List S)} {i : Nat}, (∀ r ∈ rows, r.length = z) → (hi : i < rows.length) → (rows.flatten.drop (i * z)).take z = rows[i]
  | r :: rows, 0, h, _ => by
    have := h r (by simp)
    simp [← this]
  | r :: rows, i + 1, h, hi => by
    have h1 := h r (by simp)
    have := flat_get (rows := rows) (i := i) (fun r hr => h r (by simp [hr])) (by simpa using hi)
    rw [List.flatten_cons, Nat.succ_mul, Nat.add_comm, ← List.drop_drop, ← h1, List.drop_left, h1, this]; rfl
theorem flat_set {z : Nat} {xs : List S} (hx : xs.length = z) : ∀ {rows : List (List S)} {i : Nat}, (∀ r ∈ rows, r.length = z) → i < rows.length → setAt rows.flatten (i * z) xs = (rows.set i xs).flatten
  | r :: rows, 0, h, _ => by
    have h1 := h r (by simp)
    simp [setAt, hx, ← h1]
  | r :: rows, i + 1, h, hi => by
    have h1 := h r (by simp)
    have := flat_set hx (rows := rows) (i := i) (fun r hr => h r (by simp [hr])) (by simpa using hi)
    rw [List.set_cons_succ, List.flatten_cons, List.flatten_cons, ← this]
    unfold setAt
    rw [Nat.succ_mul, Nat.add_comm (i * z) z, ← h1, List.take_append, List.drop_append]
    have e1 : r.length + i * r.length - r.length = i * r.length := by omega
    have e2 : r.length + i * r.length + xs.length - r.length = i * r.length + xs.length := by omega
    rw [e1, e2, List.take_of_length_le (by omega), List.drop_of_length_le (by omega)]
    simp

/-- a slice with these rows -/
def Sls (h : H) (z : Nat) (v : V) (rows : List (List S)) : Prop := (∀ r ∈ rows, r.length = z) ∧ ∃ a, v = .s (.sl a rows.length) ∧ cellsS z h v = some rows.flatten
structure SlW (h : H) (z : Nat) (v : V) (rows : List (List S)) (b : Nat) : Prop where
  all : ∀ r ∈ rows, r.length = z
  v : v = sv b 0 rows.length
  n : b < h.n
  g : h.g b = .rw z rows.flatten
theorem Sls.nil (h : H) (z : Nat) : Sls h z (.s (.sl none 0)) [] := ⟨by simp, none, rfl, rfl⟩
theorem SlW.r {h : H} {z : Nat} {v : V} {rows : List (List S)} {b : Nat} (x : SlW h z v rows b) : Sls h z v rows := by
  obtain ⟨hz, rfl, h2, h3⟩ := x
  refine ⟨hz, _, rfl, ?_⟩
  have hc : h.cells b = rows.flatten := by unfold H.cells; rw [if_pos h2, h3]; rfl
  have hl := flat_len hz
  simp only [cellsS, hc]
  rw [if_pos ⟨h2, by omega⟩, List.drop_zero, List.take_of_length_le (by omega)]
theorem Sls.mono {h h' : H} (x : HExt h h') {z : Nat} {v : V} {rows : List (List S)} (hb : Sls h z v rows) : Sls h' z v rows := by
  obtain ⟨hz, a, h1, h2⟩ := hb
  exact ⟨hz, a, h1, cellsS_mono x h2⟩
theorem SlW.mono {h h' : H} (x : HExt h h') {z : Nat} {v : V} {rows : List (List S)} {b : Nat} (hb : SlW h z v rows b) : SlW h' z v rows b :=
  ⟨hb.all, hb.v, Nat.lt_of_lt_of_le hb.n x.1, by rw [(x.2 b hb.n).1]; exact hb.g⟩
theorem Sls.len {h : H} {z : Nat} {v : V} {rows : List (List S)} (hb : Sls h z v rows) {e : Nat} : lenV (.sl e) v = some (iv .i64 rows.length) := by
  obtain ⟨_, a, rfl, _⟩ := hb; rfl
theorem Sls.at {h : H} {z : Nat} {v : V} {rows : List (List S)} (hb : Sls h z v rows) {k : IntKind} {i : Nat} (hi : i < rows.length) :
    ∃ b o, idxS z v (iv k i) = some (pv b o) ∧ b < h.n ∧ o + z ≤ (h.cells b).length ∧ ((h.cells b).drop o).take z = rows[i] := by
  obtain ⟨hz, a, rfl, h2⟩ := hb
  cases a with
  | none =>
    cases rows with
    | nil => simp at hi
    | cons r rows => simp [cellsS] at h2
  | some p =>
    obtain ⟨b, o⟩ := p
    simp only [cellsS] at h2
    split at h2
    · rename_i hc
      have h3 := Option.some.inj h2
      have hle : (i + 1) * z ≤ rows.length * z := Nat.mul_le_mul_right _ hi
      rw [Nat.succ_mul] at hle
      refine ⟨b, o + i * z, ?_, hc.1, by omega, ?_⟩
      · simp only [idxS]; rw [if_pos ⟨by omega, by omega⟩]; simp
      · rw [← flat_get hz hi, ← h3, List.drop_take, List.take_take, List.drop_drop, Nat.min_eq_left (by omega)]
    · cases h2
/-- reading an element that is a struct -/
theorem Sls.get {h : H} {z : Nat} {v : V} {rows : List (List S)} (hb : Sls h z v rows) {k : IntKind} {i : Nat} (hi : i < rows.length) {R : Type} {F : List S → Option R} :
    ((idxS z v (iv k i)).bind fun p => (loadN z h p).bind F) = F rows[i] := by
  obtain ⟨b, o, e, h1, h2, h3⟩ := hb.at (k := k) hi
  rw [e, Option.bind_some]
  have : loadN z h (pv b o) = some rows[i] := by simp only [loadN]; rw [if_pos ⟨h1, h2⟩, h3]
  rw [this, Option.bind_some]
/-- an element is written -/
theorem SlW.set {h : H} {z : Nat} {v : V} {rows : List (List S)} {b : Nat} (hx : SlW h z v rows b) {k : IntKind} {i : Nat} (hi : i < rows.length) {xs : List S} (hl : xs.length = z) :
    ∃ p h', idxS z v (iv k i) = some p ∧ stV z h p (.agg xs) = some h' ∧ SlW h' z v (rows.set i xs) b ∧ h'.n = h.n ∧ (∀ h0, HExt h0 h → h0.n ≤ b → HExt h0 h') ∧ (∀ b', b' ≠ b → h'.g b' = h.g b') := by
  obtain ⟨hz, rfl, hn, hg⟩ := hx
  have hle : (i + 1) * z ≤ rows.length * z := Nat.mul_le_mul_right _ hi
  rw [Nat.succ_mul] at hle
  have hfl := flat_len hz
  refine ⟨pv b (i * z), h.put b (.rw z (setAt rows.flatten (i * z) xs)), ?_, ?_, ?_, rfl, fun h0 x hb => x.put hb, fun b' hb => by simp [H.put, hb]⟩
  · simp only [idxS]; rw [if_pos ⟨by omega, by omega⟩]; simp
  · simp only [stV, putN, hg]
    rw [if_pos ⟨hn, hl⟩, if_pos (by omega)]
  · refine ⟨fun r hr => ?_, by simp, by rw [put_n]; exact hn, ?_⟩
    · rcases List.mem_or_eq_of_mem_set hr with hr | rfl
      · exact hz r hr
      · exact hl
    · simp [H.put, flat_set hl hz hi]
theorem mkSl_rows {h : H} {z n : Nat} {zero : List S} (hn : n ≤ lim) (hz : 0 < z) (hl : zero.length = z) : mkSl z zero h (iv .i64 n) (iv .i64 n) = some (sv h.n 0 n, h.new z (List.replicate n zero).flatten) := by
  simp only [mkSl]
  rw [if_pos ⟨by omega, trivial, by omega, hz, hl⟩]
  simp
theorem SlW.newly (h : H) {z : Nat} {rows : List (List S)} (hz : ∀ r ∈ rows, r.length = z) : SlW (h.new z rows.flatten) z (sv h.n 0 rows.length) rows h.n := ⟨hz, rfl, by rw [new_n]; omega, new_g _ _ _⟩
end Vm
