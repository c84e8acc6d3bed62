/-
  What is one's own in a stretch of blocks: kept when other blocks change.
-/
import Derived.Test.YtfpcfiaoilcbgaaDRes
set_option linter.unusedVariables false
set_option maxRecDepth 100000
set_option linter.unusedSimpArgs false
namespace Vm
open Go
/-- a fact on the blocks from lo to hi alone -/
structure Sep (Q : H → Prop) (lo hi : Nat) (h : H) : Prop where
  top : hi ≤ h.n
  q : ∀ h' : H, hi ≤ h'.n → (∀ b, lo ≤ b → b < hi → h'.g b = h.g b) → Q h'
/-- all but the blocks from lo to hi as it was -/
structure ButR (lo hi : Nat) (h h' : H) : Prop where
  n : h'.n = h.n
  g : ∀ c, (c < lo ∨ hi ≤ c) → h'.g c = h.g c
section
variable {Q : H → Prop} {lo hi : Nat} {h h' : H}
theorem Sep.now (w : Sep Q lo hi h) : Q h := w.q h w.top fun _ _ _ => rfl
theorem Sep.up (w : Sep Q lo hi h) (u : Up h h') : Sep Q lo hi h' := ⟨Nat.le_trans w.top u.n, fun h2 hn hg => w.q h2 hn fun b h1 h3 => (hg b h1 h3).trans (u.g b (by have := w.top; omega))⟩
theorem Sep.but {a b : Nat} (w : Sep Q lo hi h) (u : ButR a b h h') (hd : hi ≤ a ∨ b ≤ lo) : Sep Q lo hi h' := ⟨by rw [u.n]; exact w.top, fun h2 hn hg => w.q h2 hn fun c h1 h3 => (hg c h1 h3).trans (u.g c (by omega))⟩
theorem Sep.over {h1 : H} {hi : Nat} {n : Nat} (hn : n = h.n) (hl : h.n ≤ h1.n) (w : Sep Q n hi h1) : Sep Q n hi (h.over h1) := by
  subst hn
  exact ⟨by rw [over_n hl]; exact w.top, fun h2 hn hg => w.q h2 hn fun b h1 h3 => (hg b h1 h3).trans (over_ge h1)⟩
theorem Sep.mono {lo' hi' : Nat} (w : Sep Q lo hi h) (h1 : lo' ≤ lo) (h2 : hi ≤ hi') (h3 : hi' ≤ h.n) : Sep Q lo' hi' h := ⟨h3, fun h' hn hg => w.q h' (by omega) fun b a b' => hg b (by omega) (by omega)⟩
end
/-- what stands in one block -/
def At (b : Nat) (x : Blk) (h : H) : Prop := b < h.n ∧ h.g b = x
theorem Sep.at {h : H} {b : Nat} {x : Blk} (hb : b < h.n) (hg : h.g b = x) : Sep (At b x) b (b + 1) h := ⟨hb, fun h' hn hg' => ⟨by omega, by rw [hg' b (Nat.le_refl _) (by omega), hg]⟩⟩
/-- bytes in a stretch of blocks -/
def OwnB (v : V) (l : List UInt8) (lo hi : Nat) (h : H) : Prop := ∃ ob, Own h v l ob ∧ ∀ b, ob = some b → lo ≤ b ∧ b < hi
theorem OwnB.sep {v : V} {l : List UInt8} {lo hi : Nat} {h : H} (w : OwnB v l lo hi h) (hn : hi ≤ h.n) : Sep (OwnB v l lo hi) lo hi h := ⟨hn, fun h' hn' hg => by
  obtain ⟨ob, h1, h2⟩ := w
  refine ⟨ob, ?_, h2⟩
  cases ob with
  | none => exact h1
  | some b =>
    have := h2 b rfl
    exact ⟨h1.v, by omega, by rw [hg b this.1 this.2]; exact h1.g⟩⟩
theorem OwnB.frz {v : V} {l : List UInt8} {lo hi : Nat} {h : H} (w : OwnB v l lo hi h) : frzV h v = some (lv (bys l)) := by
  obtain ⟨ob, h1, _⟩ := w
  exact frz1 h1
/-- the answer of a call on a dead heap -/
structure NewS (Q : Nat → Nat → H → Prop) (v : V) (n : Nat) (h : H) : Prop where
  le : n ≤ h.n
  q : Sep (Q n h.n) n h.n h
  z : NoFz n (v, h)
theorem NewA.s {n : Nat} {h : H} {v : V} {l : List UInt8} (w : NewA n h v l) : NewS (OwnB v l) v n h := by
  have := w.le
  exact ⟨by omega, OwnB.sep ⟨some n, w.own, fun b hb => by cases hb; omega⟩ (Nat.le_refl _), w.nofz⟩
theorem NewB.s {n : Nat} {h : H} {v : V} {l : List UInt8} {o : Option Nat} (w : NewB n h v l o) : Sep (OwnB v l n h.n) n h.n h := by
  refine OwnB.sep ⟨o, w.own, fun b hb => ⟨w.new b hb, ?_⟩⟩ (Nat.le_refl _)
  subst hb
  exact w.own.n
/-- a call with a new answer -/
theorem pN {R : Type} {Q : Nat → Nat → H → Prop} {cl : Nat → List V → H → Option (V × H)} {g : Nat} {off : Bool} {xs : List V} {h : H} {n : Nat} {v : V} {h1 : H} {k : V → H → Option R} (hn : h.n = n) (hc : cl g xs (D n) = some (v, h1)) (w : NewS Q v n h1) :
    ∃ h', pcallF cl g off xs h k = k v h' ∧ Up h h' ∧ n ≤ h'.n ∧ Sep (Q n h'.n) n h'.n h' := by
  subst hn
  refine ⟨h.over h1, pF hc w.z, up_over w.le, ?_, ?_⟩
  · rw [over_n w.le]; exact w.le
  · have := Sep.over rfl w.le w.q
    rwa [over_n w.le]
/-- marked bytes -/
theorem OwnB.mark {h : H} {v : V} {l : List UInt8} {lo hi k : Nat} (w : Sep (OwnB v l lo hi) lo hi h) (hl : k + l.length < 2 ^ 62) :
    ∃ p, call Ev Fn.laws_markByteS [v, iv .i64 k] h = some (iv .i64 ((k + l.length : Nat) : Int), p) ∧ Sep (OwnB v (marks k l.length) lo hi) lo hi (tidy h [iv .i64 ((k + l.length : Nat) : Int)] p) ∧ ButR lo hi h (tidy h [iv .i64 ((k + l.length : Nat) : Int)] p) := by
  obtain ⟨ob, h1, h2⟩ := w.now
  obtain ⟨p, e1, e2, e3, e4⟩ := r_mark (k := k) h1 hl
  have t : tidy h [iv .i64 ((k + l.length : Nat) : Int)] p = p := tidy_same e3 fun c hc => e4 c (fun hh => by have := h2 c hh; have := w.top; omega)
  refine ⟨p, e1, ?_, ?_⟩
  · rw [t]; exact OwnB.sep ⟨ob, e2, h2⟩ (by rw [e3]; exact w.top)
  · rw [t]
    refine ⟨e3, fun c hc => (e4 c (fun hh => ?_)).1⟩
    have := h2 c hh
    omega
/-- from one block's change to a stretch's -/
theorem But.r {h h' : H} {ob : Option Nat} {lo hi : Nat} (u : But ob h h') (h2 : ∀ b, ob = some b → lo ≤ b ∧ b < hi) : ButR lo hi h h' := ⟨u.n, fun c hc => u.g c (fun hh => by have := h2 c hh; omega)⟩

/-! results of a code and bytes, and of a code, a number and bytes -/
theorem NewB.s2 {n : Nat} {h : H} {y : S} {l : List UInt8} {o : Option Nat} {c : Int} (w : NewB n h (.s y) l o) : NewS (OwnB (.s y) l) (.agg [.int .i64 c, y]) n h :=
  ⟨w.le, w.s, ⟨by simp [w.own.sca], w.z⟩⟩
theorem OwnB.frz2 {y : S} {l : List UInt8} {lo hi : Nat} {h : H} {c : Int} (w : OwnB (.s y) l lo hi h) : frzV h (.agg [.int .i64 c, y]) = some (.agg [.int .i64 c, .fs (bys l)]) := by
  obtain ⟨ob, h1, _⟩ := w
  exact Vm.frz2 h1
/-- the same answer, frozen -/
theorem NewS.p {Q : Nat → Nat → H → Prop} {f : Nat} {xs : List V} {h : H} {v w : V} (hc : call Ev f xs (D 0) = some (v, h)) (hq : NewS Q v 0 h) (hf : Q 0 h.n h → frzV h v = some w) : pureV (call Ev) f xs = some w := by
  unfold pureV
  rw [hc, Vm.ob, hf hq.q.now]
end Vm
