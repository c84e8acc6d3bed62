/-
  Laws of the small machine's operations, for reading what a piece of code comes to.
-/
import Derived.Test.YtpdoloemacmbaaaVmR
import Derived.Test.YtpdoloemacmbaaaVmN
set_option linter.unusedVariables false
set_option maxRecDepth 100000
set_option linter.unusedSimpArgs false
namespace Vm
open Go
section
variable {R : Type}
/-- steps that the kernel need not look through -/
theorem ob {α β : Type} {a : α} {f : α → Option β} : (some a).bind f = f a := id rfl
theorem gx0 {α : Type} {x : α} {l : List α} : (x :: l)[0]? = some x := id rfl
theorem gx1 {α : Type} {x : α} {l : List α} {n : Nat} : (x :: l)[n + 1]? = l[n]? := by simp
theorem ln0 {α : Type} : ([] : List α).length = 0 := id rfl
theorem ln1 {α : Type} {x : α} {l : List α} : (x :: l).length = l.length + 1 := by simp
@[simp] theorem gV1_s {x : S} {q : S → Option R} : gV1 (.s x) q = q x := id rfl
@[simp] theorem gVA_a {x : List S} {q : List S → Option R} : gVA (.agg x) q = q x := id rfl
@[simp] theorem gVT_t {x : List A} {q : List A → Option R} : gVT (.tup x) q = q x := id rfl
@[simp] theorem gA1_s {x : S} {q : S → Option R} : gA1 (.s x) q = q x := id rfl
@[simp] theorem gAA_a {x : List S} {q : List S → Option R} : gAA (.agg x) q = q x := id rfl
@[simp] theorem gI_i {k : IntKind} {n : Int} {q : Int → Option R} : gI k (.int k n) q = q n := by simp [gI]
@[simp] theorem gB_b {b : Bool} {q : Bool → Option R} : gB (.bool b) q = q b := id rfl
@[simp] theorem gS_s {b : ByteArray} {q : ByteArray → Option R} : gS (.str b) q = q b := id rfl
@[simp] theorem gF_f {b : List (List S)} {q : List (List S) → Option R} : gF (.fs b) q = q b := id rfl
@[simp] theorem vcase_b {b : Bool} {x y : Option R} : vcase (bv b) x y = if b = true then x else y := by cases b <;> rfl
@[simp] theorem gcase_b {b : Bool} {x y z : Option R} : gcase (bv b) x y z = if b = true then x else y := by cases b <;> rfl
@[simp] theorem lcase_done {l : List V} {h : H} {f : List V → H → Option R} {g : V → H → Option R} : lcase (.done l h) f g = f l h := id rfl
@[simp] theorem lcase_ret {l : V} {h : H} {f : List V → H → Option R} {g : V → H → Option R} : lcase (.ret l h) f g = g l h := id rfl
/-- a pure call that was found -/
theorem pc {cl : Nat → List V → H → Option (V × H)} {g : Nat} {xs : List V} {v : V} {k : V → Option R} (h : pureV cl g xs = some v) (hs : scaV v = true) : pcallS cl g xs k = k v := by
  unfold pcallS; rw [h]; simp [hs]
end
@[simp] theorem sca_i {k : IntKind} {n : Int} : scaS (.int k n) = true := id rfl
@[simp] theorem sca_b {n : Bool} : scaS (.bool n) = true := id rfl
@[simp] theorem sca_s {n : ByteArray} : scaS (.str n) = true := id rfl
@[simp] theorem sca_v {x : S} : scaV (.s x) = scaS x := id rfl
@[simp] theorem sca_a {x : List S} : scaV (.agg x) = x.all scaS := id rfl
@[simp] theorem sca_t {x : List A} : scaV (.tup x) = x.all scaA := id rfl
@[simp] theorem scaA_s {x : S} : scaA (.s x) = scaS x := id rfl
@[simp] theorem scaA_a {x : List S} : scaA (.agg x) = x.all scaS := id rfl
@[simp] theorem frz_i {h : H} {k : IntKind} {n : Int} {d : Nat} : frzS h d (.int k n) = some (.int k n) := by cases d <;> rfl
@[simp] theorem frz_b {h : H} {n : Bool} {d : Nat} : frzS h d (.bool n) = some (.bool n) := by cases d <;> rfl
@[simp] theorem frz_s {h : H} {n : ByteArray} {d : Nat} : frzS h d (.str n) = some (.str n) := by cases d <;> rfl
@[simp] theorem frz_f {h : H} {n : List (List S)} {d : Nat} : frzS h d (.fs n) = some (.fs n) := by cases d <;> rfl
@[simp] theorem frz_p {h : H} {n : List S} {o d : Nat} : frzS h d (.fp n o) = some (.fp n o) := by cases d <;> rfl
@[simp] theorem frz_n {h : H} {d : Nat} : frzS h d (.sl none 0) = some (.fs []) := by cases d <;> simp [frzS]
@[simp] theorem frzV_s {h : H} {x : S} : frzV h (.s x) = (frzS h 8 x).bind fun y => some (.s y) := id rfl
@[simp] theorem frzV_a {h : H} {x : List S} : frzV h (.agg x) = (mapO (frzS h 8) x).bind fun y => some (.agg y) := id rfl
@[simp] theorem frzV_t {h : H} {x : List A} : frzV h (.tup x) = (frzAs h x).bind fun y => some (.tup y) := id rfl
attribute [simp] mapO
theorem frzS_bool {h : H} {d : Nat} {s : S} {b : Bool} : frzS h d s = some (.bool b) → s = .bool b := by
  unfold frzS
  intro e
  repeat' split at e
  all_goals first
    | (cases e; done)
    | (cases e; rfl)
    | (obtain ⟨l, _, h2⟩ := Option.bind_eq_some_iff.1 e; cases h2)
/-- how a call of the law comes out -/
theorem law_of {E : Env} {f : Nat} {xs : List V} {b : Bool} (h : pureV (call E) f xs = some (bv b)) : ∃ h', call E f xs (D 0) = some (bv b, h') := by
  unfold pureV at h
  obtain ⟨⟨v, h'⟩, hc, h2⟩ := Option.bind_eq_some_iff.1 h
  refine ⟨h', ?_⟩
  rw [hc]
  congr 2
  cases v with
  | s x =>
    obtain ⟨y, h3, h4⟩ := Option.bind_eq_some_iff.1 h2
    cases h4
    rw [frzS_bool h3]
  | agg cs => obtain ⟨y, h3, h4⟩ := Option.bind_eq_some_iff.1 h2; cases h4
  | tup as => obtain ⟨y, h3, h4⟩ := Option.bind_eq_some_iff.1 h2; cases h4

/-! heaps -/
@[simp] theorem tidy_self (h : H) (l : List V) : tidy h l h = h := by
  unfold tidy
  split
  · cases h; simp
  · rfl
theorem HExt.refl (h : H) : HExt h h := ⟨Nat.le_refl _, fun _ _ => .inr ⟨rfl, rfl⟩⟩
theorem HExt.trans {a b c : H} (x : HExt a b) (y : HExt b c) : HExt a c := ⟨Nat.le_trans x.1 y.1, fun i hi => by
  rcases x.2 i hi with h1 | h1
  · exact .inl h1
  rcases y.2 i (Nat.lt_of_lt_of_le hi x.1) with h2 | h2
  · exact .inl (h1.1 ▸ h2)
  · exact .inr ⟨h2.1.trans h1.1, h2.2.trans h1.2⟩⟩
/-- nothing that was there was touched -/
def HKeep (h h' : H) : Prop := h.n ≤ h'.n ∧ ∀ b, b < h.n → h'.g b = h.g b ∧ h'.v b = h.v b
theorem HKeep.ext {h h' : H} (x : HKeep h h') : HExt h h' := ⟨x.1, fun b hb => .inr (x.2 b hb)⟩
theorem HKeep.refl (h : H) : HKeep h h := ⟨Nat.le_refl _, fun _ _ => ⟨rfl, rfl⟩⟩
theorem HKeep.trans {a b c : H} (x : HKeep a b) (y : HKeep b c) : HKeep a c := ⟨Nat.le_trans x.1 y.1, fun i hi => by
  have h1 := x.2 i hi
  have h2 := y.2 i (Nat.lt_of_lt_of_le hi x.1)
  exact ⟨h2.1.trans h1.1, h2.2.trans h1.2⟩⟩
/-- new blocks that nobody leads to are let go -/
theorem tidy_ext {h h' : H} {l : List V} (x : HKeep h h') (hl : l.all (belV h.n) = true) : tidy h l h' = h := by
  unfold tidy
  rw [if_pos ⟨x.1, hl, fun b hb => Or.inl (x.2 b hb)⟩]
  obtain ⟨n, g, v⟩ := h
  simp only [H.mk.injEq, true_and]
  constructor <;> (funext b; split <;> first | rfl | exact (x.2 b (by assumption)).1 | exact (x.2 b (by assumption)).2)
@[simp] theorem hchk_self {R : Type} (h : H) (x : Option R) : hchk h h x = x := by unfold hchk; rw [if_pos (HExt.refl h)]
theorem hchk_of {R : Type} {h h' : H} {x : Option R} (hx : HExt h h') : hchk h h' x = x := by unfold hchk; rw [if_pos hx]
theorem HKeep.new {h0 h : H} (x : HKeep h0 h) {e : Nat} {cs : List S} : HKeep h0 (h.new e cs) := x.trans ⟨by simp [H.new], fun b hb => by
  have : b ≠ h.n := by omega
  simp [H.new, this]⟩
theorem HKeep.put {h0 h : H} (x : HKeep h0 h) {b : Nat} {y : Blk} (hb : h0.n ≤ b) : HKeep h0 (h.put b y) := ⟨x.1, fun i hi => by
  have : i ≠ b := by omega
  simpa [H.put, this] using x.2 i hi⟩
theorem HExt.new {h0 h : H} (x : HExt h0 h) {e : Nat} {cs : List S} : HExt h0 (h.new e cs) := x.trans (HKeep.refl h).new.ext
theorem HExt.put {h0 h : H} (x : HExt h0 h) {b : Nat} {y : Blk} (hb : h0.n ≤ b ∨ h0.g b = .dead) : HExt h0 (h.put b y) := ⟨x.1, fun i hi => by
  rcases x.2 i hi with h1 | h1
  · exact .inl h1
  · by_cases hib : i = b
    · subst hib
      rcases hb with hb | hb
      · omega
      · exact .inl hb
    · right; simpa [H.put, hib] using h1⟩
@[simp] theorem new_n (h : H) (e : Nat) (cs : List S) : (h.new e cs).n = h.n + 1 := id rfl
@[simp] theorem put_n (h : H) (b : Nat) (x : Blk) : (h.put b x).n = h.n := id rfl
@[simp] theorem new_g (h : H) (e : Nat) (cs : List S) : (h.new e cs).g h.n = .rw e cs := by simp [H.new]
theorem new_g' {h : H} {e : Nat} {cs : List S} {b : Nat} (hb : b ≠ h.n) : (h.new e cs).g b = h.g b := by simp [H.new, hb]
@[simp] theorem put_g (h : H) (b : Nat) (x : Blk) : (h.put b x).g b = x := by simp [H.put]
theorem put_g' {h : H} {x : Blk} {b c : Nat} (hb : c ≠ b) : (h.put b x).g c = h.g c := by simp [H.put, hb]
@[simp] theorem D_n (n : Nat) : (D n).n = n := id rfl

/-! whole numbers -/
theorem w64 {n : Int} (h1 : -9223372036854775808 ≤ n) (h2 : n < 9223372036854775808) : IntKind.i64.wrap n = n := by
  simp [IntKind.wrap, IntKind.signed, IntKind.bits]; split <;> omega
theorem w8 {n : Int} (h1 : 0 ≤ n) (h2 : n < 256) : IntKind.u8.wrap n = n := by
  simp [IntKind.wrap, IntKind.signed, IntKind.bits]; omega
theorem wf64 {n : Int} (h : (Lit.int .i64 n).wf = true) : -9223372036854775808 ≤ n ∧ n < 9223372036854775808 := by
  simp [Lit.wf, IntKind.min, IntKind.max, IntKind.signed, IntKind.bits] at h; omega
theorem wf8 {n : Int} (h : (Lit.int .u8 n).wf = true) : 0 ≤ n ∧ n < 256 := by
  simp [Lit.wf, IntKind.min, IntKind.max, IntKind.signed, IntKind.bits] at h; omega
/-- the byte of a string at a place -/
def sby (s : ByteArray) (i : Int) : Int := ((s.get! i.toNat).toNat : Int)
theorem idxStr_of {s : ByteArray} {k : IntKind} {i : Int} (h0 : 0 ≤ i) (h1 : i < (s.size : Int)) : idxStr (.s (.str s)) (iv k i) = some (iv .u8 (sby s i)) := by
  simp only [idxStr]; rw [if_pos ⟨h0, h1⟩]; rfl
theorem str_drop {s : ByteArray} {i : Nat} (h : i < s.size) : s.data.toList.drop i = s.get! i :: s.data.toList.drop (i + 1) := by
  have h' : i < s.data.toList.length := by simpa using h
  rw [List.drop_eq_getElem_cons h']
  congr 1
  have h2 : i < s.data.size := h
  simp only [ByteArray.get!, Array.getElem_toList]
  exact (getElem!_pos s.data i h2).symm
theorem str_drop_all {s : ByteArray} {i : Nat} (h : s.size ≤ i) : s.data.toList.drop i = [] := List.drop_of_length_le (by simpa using h)

/-! frozen slices -/
section
variable {R : Type}
theorem idxF_at {z : Nat} {rows : List (List S)} {i : Nat} {r : List S} {k : List S → Option R} (h : rows[i]? = some r) (hz : r.length = z) : idxF z rows (i : Int) k = k r := by
  have hi : i < rows.length := (List.getElem?_eq_some_iff.1 h).1
  unfold idxF
  rw [if_pos ⟨by omega, by omega⟩]
  simp [h, hz]
theorem drop_cons {α : Type} {l r : List α} {x : α} {i : Nat} (h : l.drop i = x :: r) : l[i]? = some x ∧ l.drop (i + 1) = r ∧ i < l.length := by
  have hi : i < l.length := by
    have := congrArg List.length h
    simp at this; omega
  rw [List.drop_eq_getElem_cons hi] at h
  injection h with h1 h2
  exact ⟨by rw [List.getElem?_eq_getElem hi, h1], h2, hi⟩
theorem drop_nil {α : Type} {l : List α} {i : Nat} (h : l.drop i = []) : l.length ≤ i := by simpa using h
theorem rowN_all {n : Nat} {r : List S} (h : r.length = n) : rowN n r 0 = some r := by
  simp [rowN, ← h]
end
end Vm
