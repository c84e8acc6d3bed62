/-
  What the values and the heap of the small machine stand for in a world of the model.
-/
import Derived.Test.YtfmkfefblbophaaVm
import Derived.WalkKit
import Derived.Laws.CopyRow
import Derived.Laws.Cells
import Derived.Laws.Entries
import Derived.LoopN
set_option linter.unusedVariables false
namespace Vm
open Go

/-- where a block stands: its number, where it begins in it, the size of its elements, how many cells there are -/
structure BI where
  blk : Nat
  off : Nat
  e : Nat
  top : Nat

/-- a closure's captured places -/
def CR (ρ : List BI) : List (Nat × Nat) → List Value → Prop
  | [], [] => True
  | (b, o) :: r, v :: l => (∃ i, ρ[b]? = some i ∧ v = .pointer (some ⟨i.blk, i.off + o, none⟩)) ∧ CR ρ r l
  | _, _ => False

def SR (ρ : List BI) : S → Value → Prop
  | .no, _ => False
  | .bool b, x => x = .bool b
  | .int k n, x => x = .int k n
  | .str s, x => x = .string s
  | .ptr none, x => x = .pointer none
  | .ptr (some (b, o)), x => ∃ i, ρ[b]? = some i ∧ x = .pointer (some ⟨i.blk, i.off + o, none⟩)
  | .sl none n, x => n = 0 ∧ x = .slice none 0 0
  | .sl (some (b, o)) n, x => ∃ i a cap, ρ[b]? = some i ∧ x = .slice (some a) n cap ∧ n ≤ cap ∧ (cap ≠ 0 → a = ⟨i.blk, i.off + o, none⟩) ∧ (i.e ≠ 0 → cap ≠ 0 → i.off + o + cap * i.e ≤ i.top)
  | .fn f cap, x => ∃ xs : Array Value, x = .func (.func f) #[] xs ∧ CR ρ cap xs.toList
  | .nofn, x => x = .nilFunc

def SRs (ρ : List BI) : List S → List Value → Prop
  | [], [] => True
  | s :: r, x :: l => SR ρ s x ∧ SRs ρ r l
  | _, _ => False

def AR (ρ : List BI) : A → Value → Prop
  | .s x, v => (isNo x = false → SR ρ x v)
  | .agg cs, v => ∃ xs : Array Value, v = .agg xs ∧ SRs ρ cs xs.toList
def ARs (ρ : List BI) : List A → List Value → Prop
  | [], [] => True
  | s :: r, x :: l => AR ρ s x ∧ ARs ρ r l
  | _, _ => False

def VR (ρ : List BI) : V → Value → Prop
  | .s x, v => (isNo x = false → SR ρ x v)
  | .agg cs, v => ∃ xs : Array Value, v = .agg xs ∧ SRs ρ cs xs.toList
  | .tup vs, v => ∃ xs : Array Value, v = .tuple xs ∧ ARs ρ vs xs.toList
def VRs (ρ : List BI) : List V → List Value → Prop
  | [], [] => True
  | s :: r, x :: l => VR ρ s x ∧ VRs ρ r l
  | _, _ => False

/-- what one knows of the blocks stays known -/
def Le (ρ ρ' : List BI) : Prop := ∀ (b : Nat) (i : BI), ρ[b]? = some i → ρ'[b]? = some i
theorem Le.refl (ρ : List BI) : Le ρ ρ := fun _ _ h => h
theorem Le.trans {a b c : List BI} (h : Le a b) (g : Le b c) : Le a c := fun i x hx => g i x (h i x hx)
theorem Le.push (ρ : List BI) (i : BI) : Le ρ (ρ ++ [i]) := fun b x h => by
  have hb : b < ρ.length := (List.getElem?_eq_some_iff.1 h).1
  rw [List.getElem?_append_left hb]; exact h

theorem CR.mono {ρ ρ' : List BI} (hl : Le ρ ρ') : ∀ {c : List (Nat × Nat)} {l : List Value}, CR ρ c l → CR ρ' c l
  | [], [], _ => trivial
  | (b, o) :: r, v :: l, ⟨⟨i, h1, h2⟩, h3⟩ => ⟨⟨i, hl _ _ h1, h2⟩, CR.mono hl h3⟩
  | [], _ :: _, h => h.elim
  | _ :: _, [], h => h.elim
theorem SR.mono {ρ ρ' : List BI} (hl : Le ρ ρ') {s : S} {x : Value} (h : SR ρ s x) : SR ρ' s x := by
  cases s with
  | no => exact h
  | bool b => exact h
  | int k n => exact h
  | str s => exact h
  | nofn => exact h
  | ptr a => cases a with
    | none => exact h
    | some p => obtain ⟨i, h1, h2⟩ := h; exact ⟨i, hl _ _ h1, h2⟩
  | sl a n => cases a with
    | none => exact h
    | some p => obtain ⟨i, o, c, h1, h2⟩ := h; exact ⟨i, o, c, hl _ _ h1, h2⟩
  | fn f c => obtain ⟨xs, h1, h2⟩ := h; exact ⟨xs, h1, h2.mono hl⟩
theorem SRs.mono {ρ ρ' : List BI} (hl : Le ρ ρ') : ∀ {c : List S} {l : List Value}, SRs ρ c l → SRs ρ' c l
  | [], [], _ => trivial
  | _ :: _, _ :: _, ⟨h1, h3⟩ => ⟨h1.mono hl, SRs.mono hl h3⟩
  | [], _ :: _, h => h.elim
  | _ :: _, [], h => h.elim
theorem AR.mono {ρ ρ' : List BI} (hl : Le ρ ρ') {s : A} {x : Value} (h : AR ρ s x) : AR ρ' s x := by
  cases s with
  | s x => exact fun hn => (h hn).mono hl
  | agg cs => obtain ⟨xs, h1, h2⟩ := h; exact ⟨xs, h1, h2.mono hl⟩
theorem ARs.mono {ρ ρ' : List BI} (hl : Le ρ ρ') : ∀ {c : List A} {l : List Value}, ARs ρ c l → ARs ρ' c l
  | [], [], _ => trivial
  | _ :: _, _ :: _, ⟨h1, h3⟩ => ⟨h1.mono hl, ARs.mono hl h3⟩
  | [], _ :: _, h => h.elim
  | _ :: _, [], h => h.elim
theorem VR.mono {ρ ρ' : List BI} (hl : Le ρ ρ') {s : V} {x : Value} (h : VR ρ s x) : VR ρ' s x := by
  cases s with
  | s x => exact fun hn => (h hn).mono hl
  | agg cs => obtain ⟨xs, h1, h2⟩ := h; exact ⟨xs, h1, h2.mono hl⟩
  | tup vs => obtain ⟨xs, h1, h2⟩ := h; exact ⟨xs, h1, h2.mono hl⟩
theorem VRs.mono {ρ ρ' : List BI} (hl : Le ρ ρ') : ∀ {c : List V} {l : List Value}, VRs ρ c l → VRs ρ' c l
  | [], [], _ => trivial
  | _ :: _, _ :: _, ⟨h1, h3⟩ => ⟨h1.mono hl, VRs.mono hl h3⟩
  | [], _ :: _, h => h.elim
  | _ :: _, [], h => h.elim

theorem SR.one {ρ : List BI} {s : S} {x : Value} (h : SR ρ s x) : x.oneCell' = true := by
  cases s with
  | no => exact h.elim
  | bool b => cases h; rfl
  | int k n => cases h; rfl
  | str s => cases h; rfl
  | nofn => cases h; rfl
  | ptr a => cases a with
    | none => cases h; rfl
    | some p => obtain ⟨i, h1, rfl⟩ := h; rfl
  | sl a n => cases a with
    | none => obtain ⟨_, rfl⟩ := h; rfl
    | some p => obtain ⟨i, o, c, h1, rfl, _⟩ := h; rfl
  | fn f c => obtain ⟨xs, rfl, h2⟩ := h; rfl
theorem SR.cells {ρ : List BI} {s : S} {x : Value} (h : SR ρ s x) : x.cells = #[x] := by
  have := h.one
  cases x <;> first | rfl | (simp [Value.oneCell'] at this)
theorem SRs.length {ρ : List BI} : ∀ {c : List S} {l : List Value}, SRs ρ c l → l.length = c.length
  | [], [], _ => rfl
  | _ :: _, _ :: _, ⟨_, h⟩ => by simp [h.length]
  | [], _ :: _, h => h.elim
  | _ :: _, [], h => h.elim
theorem SRs.one {ρ : List BI} : ∀ {c : List S} {l : List Value}, SRs ρ c l → ∀ v ∈ l, v.oneCell' = true
  | [], [], _, v, hv => by simp at hv
  | _ :: _, _ :: _, ⟨h1, h2⟩, v, hv => by
    rcases List.mem_cons.1 hv with rfl | hv
    · exact h1.one
    · exact h2.one v hv
  | [], _ :: _, h, _, _ => h.elim
  | _ :: _, [], h, _, _ => h.elim
theorem SRs.get {ρ : List BI} : ∀ {c : List S} {l : List Value}, SRs ρ c l → ∀ {j : Nat} {s : S}, c[j]? = some s → ∃ x, l[j]? = some x ∧ SR ρ s x
  | [], [], _, j, s, hj => by simp at hj
  | s :: _, x :: _, ⟨h1, h2⟩, 0, s', hj => by simp at hj; subst hj; exact ⟨x, rfl, h1⟩
  | s :: _, x :: _, ⟨h1, h2⟩, j + 1, s', hj => by simp at hj ⊢; exact h2.get hj
  | [], _ :: _, h, _, _, _ => h.elim
  | _ :: _, [], h, _, _, _ => h.elim
theorem SRs.of_get {ρ : List BI} : ∀ {c : List S} {l : List Value}, l.length = c.length → (∀ (j : Nat) (s : S), c[j]? = some s → ∃ x, l[j]? = some x ∧ SR ρ s x) → SRs ρ c l
  | [], [], _, _ => trivial
  | s :: r, x :: l, hl, h => by
    refine ⟨?_, SRs.of_get (by simpa using hl) fun j s hj => ?_⟩
    · obtain ⟨y, hy, hs⟩ := h 0 s rfl
      simp at hy; subst hy; exact hs
    · obtain ⟨y, hy, hs⟩ := h (j + 1) s (by simpa using hj)
      exact ⟨y, by simpa using hy, hs⟩
  | [], _ :: _, hl, _ => by simp at hl
  | _ :: _, [], hl, _ => by simp at hl
theorem SRs.append {ρ : List BI} : ∀ {c : List S} {l : List Value} {c' : List S} {l' : List Value}, SRs ρ c l → SRs ρ c' l' → SRs ρ (c ++ c') (l ++ l')
  | [], [], _, _, _, h => h
  | _ :: _, _ :: _, _, _, ⟨h1, h3⟩, h => ⟨h1, h3.append h⟩
  | [], _ :: _, _, _, h, _ => h.elim
  | _ :: _, [], _, _, h, _ => h.elim
theorem SRs.take {ρ : List BI} : ∀ {c : List S} {l : List Value} (n : Nat), SRs ρ c l → SRs ρ (c.take n) (l.take n)
  | [], [], n, h => by simpa using h
  | _ :: _, _ :: _, 0, h => by simp [SRs]
  | _ :: _, _ :: _, n + 1, ⟨h1, h2⟩ => by simp only [List.take_succ_cons]; exact ⟨h1, h2.take n⟩
  | [], _ :: _, _, h => h.elim
  | _ :: _, [], _, h => h.elim
theorem SRs.drop {ρ : List BI} : ∀ {c : List S} {l : List Value} (n : Nat), SRs ρ c l → SRs ρ (c.drop n) (l.drop n)
  | [], [], n, h => by simpa using h
  | _ :: _, _ :: _, 0, h => h
  | _ :: _, _ :: _, n + 1, ⟨h1, h2⟩ => by simp only [List.drop_succ_cons]; exact h2.drop n
  | [], _ :: _, _, h => h.elim
  | _ :: _, [], _, h => h.elim
theorem VR.cells {ρ : List BI} {v : V} {x : Value} {cs : List S} (h : VR ρ v x) (hc : cellsOf v = some cs) : SRs ρ cs x.cells.toList := by
  cases v with
  | s s =>
    cases s with
    | no => simp [cellsOf] at hc
    | _ =>
      simp [cellsOf] at hc; subst hc
      have h' := h rfl
      rw [h'.cells]
      exact ⟨h', trivial⟩
  | agg l =>
    simp [cellsOf] at hc; subst hc
    obtain ⟨xs, rfl, h⟩ := h
    exact h
  | tup vs => simp [cellsOf] at hc

/-- nothing was said, nobody waited -/
def IO (w' w : World) : Prop := w'.os = w.os ∧ w'.tape = w.tape ∧ w'.output = w.output
theorem IO.trans {a b c : World} (h : IO a b) (g : IO b c) : IO a c := ⟨h.1.trans g.1, h.2.1.trans g.2.1, h.2.2.trans g.2.2⟩

/-- **A heap of the small machine in a world.** W0: the world in which the run began, whose blocks below base are what came in. -/
structure Rel (W0 : World) (base : Nat) (ρ : List BI) (h : H) (w : World) : Prop where
  io : IO w W0
  len : ρ.length = h.n
  bas : base ≤ w.heap.size
  old : ∀ (i : Nat), i < base → w.heap[i]? = W0.heap[i]?
  ro : ∀ (b : Nat) (i : BI) (cs : List S), ρ[b]? = some i → h.g b = .ro cs → i.e = 0 ∧ ∀ (j : Nat) (c : S), cs[j]? = some c → i.blk < base ∧ ∃ x, W0.cell? ⟨i.blk, i.off + j, none⟩ = some x ∧ SR ρ c x
  rw : ∀ (b : Nat) (i : BI) (e : Nat) (cs : List S), ρ[b]? = some i → h.g b = .rw e cs → base ≤ i.blk ∧ i.e = e ∧ ∃ c el fr, w.heap[i.blk]? = some (.cells c el fr) ∧ (fr = (0, 0) ∨ c.size ≤ fr.1) ∧ c.size = i.top ∧ i.off + cs.length ≤ c.size ∧ ∀ (j : Nat) (s : S), cs[j]? = some s → ∃ y, c[i.off + j]? = some y ∧ SR ρ s y
  inj : ∀ (b b' : Nat) (i i' : BI) (e e' : Nat) (cs cs' : List S), ρ[b]? = some i → ρ[b']? = some i' → h.g b = .rw e cs → h.g b' = .rw e' cs' → b ≠ b' → i.blk ≠ i'.blk

/-- blocks that nobody wrote stand as they stood -/
def Frm (ρ : List BI) (h h' : H) (w w' : World) : Prop :=
  h.n ≤ h'.n ∧ (∀ b, h.v b ≤ h'.v b) ∧ (∀ b, b < h.n → h'.v b = h.v b → h'.g b = h.g b) ∧
  ∀ (b : Nat) (i : BI) (e : Nat) (cs : List S), ρ[b]? = some i → h.g b = .rw e cs → h'.v b = h.v b → w'.heap[i.blk]? = w.heap[i.blk]?
theorem Frm.refl (ρ : List BI) (h : H) (w : World) : Frm ρ h h w w := ⟨Nat.le_refl _, fun _ => Nat.le_refl _, fun _ _ _ => rfl, fun _ _ _ _ _ _ _ => rfl⟩
theorem Frm.trans {ρ ρ' : List BI} {h h' h'' : H} {w w' w'' : World} (hl : Le ρ ρ') (hn : ρ.length = h.n) (a : Frm ρ h h' w w') (b : Frm ρ' h' h'' w' w'') : Frm ρ h h'' w w'' := by
  obtain ⟨a1, a2, a3, a4⟩ := a
  obtain ⟨b1, b2, b3, b4⟩ := b
  refine ⟨Nat.le_trans a1 b1, fun i => Nat.le_trans (a2 i) (b2 i), fun i hi hv => ?_, fun i x e cs hx hg hv => ?_⟩
  · have e1 : h'.v i = h.v i := by have := a2 i; have := b2 i; omega
    have e2 : h''.v i = h'.v i := by omega
    rw [b3 i (by omega) e2, a3 i hi e1]
  · have e1 : h'.v i = h.v i := by have := a2 i; have := b2 i; omega
    have e2 : h''.v i = h'.v i := by omega
    have hi : i < h.n := by rw [← hn]; exact (List.getElem?_eq_some_iff.1 hx).1
    rw [b4 i x e cs (hl _ _ hx) (by rw [a3 i hi e1]; exact hg) e2]
    exact a4 i x e cs hx hg e1

/-- the cells of a block, in the world -/
theorem Rel.cell {W0 : World} {base : Nat} {ρ : List BI} {h : H} {w : World} (r : Rel W0 base ρ h w) {b j : Nat} {s : S} (hs : (h.cells b)[j]? = some s) :
    ∃ i x, ρ[b]? = some i ∧ w.cell? ⟨i.blk, i.off + j, none⟩ = some x ∧ SR ρ s x := by
  unfold H.cells at hs
  split at hs
  case isFalse => simp at hs
  case isTrue hb =>
    have hb' : b < ρ.length := by rw [r.len]; exact hb
    obtain ⟨i, hi⟩ : ∃ i, ρ[b]? = some i := ⟨_, List.getElem?_eq_getElem hb'⟩
    cases hg : h.g b with
    | dead => rw [hg] at hs; simp [Blk.cells] at hs
    | ro cs =>
      rw [hg] at hs
      obtain ⟨h2, h3⟩ := r.ro b i cs hi hg
      obtain ⟨h1, x, hx, hr⟩ := h3 j s hs
      refine ⟨i, x, hi, ?_, hr⟩
      unfold World.cell? at hx ⊢
      simp only [r.old i.blk h1]
      exact hx
    | rw e cs =>
      rw [hg] at hs
      obtain ⟨h1, h2, c, el, fr, h3, hfr, h4, h5, h6⟩ := r.rw b i e cs hi hg
      obtain ⟨y, hy, hr⟩ := h6 j s hs
      exact ⟨i, y, hi, by unfold World.cell?; simp [h3, hy], hr⟩
end Vm
