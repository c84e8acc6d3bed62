/-
  Slices of flat rows that grow in a loop.
-/
import Derived.Test.YtfpcfiaoilcbgaaDRwm
set_option linter.unusedVariables false
set_option maxRecDepth 100000
set_option linter.unusedSimpArgs false
namespace Vm
open Go
theorem szI {a b x : Int} (h : ¬ (if a ≤ b then x else -1) < 0) : a ≤ b := by
  by_cases h2 : a ≤ b
  · exact h2
  · rw [if_neg h2] at h; omega
theorem app_flat {z : Nat} {y : S} {rows : List (List S)} {bs : List Nat} {h : H} {row : List S} (w : OutS z 0 y rows bs h) (hs : ∀ s ∈ row, Sc s) (hz : row.length = z) (hz0 : 0 < z) (hl : rows.length + 1 ≤ lim) :
    ∃ h' bs', appS z (h.new z row) (.s y) (sv h.n 0 1) = some (sv (h.n + 1) 0 (rows.length + 1), h') ∧ OutS z 0 (.sl (some (h.n + 1, 0)) (rows.length + 1)) (rows ++ [row]) bs' h' ∧ h'.n = h.n + 2 ∧ (∀ c ∈ bs', c = h.n + 1 ∨ c ∈ bs) ∧ (∀ c, c < h.n → c ∉ bs → h'.g c = h.g c) := by
  obtain ⟨h', bs', e, o, n, m, k, _, _⟩ := app_row (fr := row) (br := []) w (RepL.sc hs) hz hz0 (by simp) (by simp) hl
  exact ⟨h', bs', e, o, n, fun c hc => by rcases m c hc with h | h | h <;> simp_all, k⟩
/-- a slice that grows over what stood in a heap of height n -/
def Gr (z n : Nat) (h0 : H) (y : S) (rows : List (List S)) (h : H) : Prop := n ≤ h.n ∧ (∀ c, c < n → h.g c = h0.g c) ∧ ∃ bs, OutS z 0 y rows bs h ∧ ∀ b ∈ bs, n ≤ b
theorem Gr.none {z n : Nat} {h : H} (hn : n ≤ h.n) : Gr z n h (.sl none 0) [] h := ⟨hn, fun _ _ => rfl, [], OutS.none, by simp⟩
theorem Gr.new {z : Nat} {h : H} (hz0 : 0 < z) : Gr z h.n h (.sl (some (h.n, 0)) 0) [] (h.new z []) := by
  refine ⟨by simp, fun c hc => new_g' (by omega), [h.n], ⟨?_, by simp, .inr ⟨h.n, [], rfl, new_g _ _ _⟩, by simp⟩, by simp⟩
  exact Rep.sl (rows := []) (bss := []) (by simp) hz0 (new_g _ _ _) (by simp) .nil
theorem Gr.keep {z n : Nat} {h0 h h' : H} {y : S} {rows : List (List S)} (w : Gr z n h0 y rows h) (x : HKeep h h') : Gr z n h0 y rows h' := by
  obtain ⟨w1, w2, bs, w3, w4⟩ := w
  exact ⟨Nat.le_trans w1 x.1, fun c hc => (x.2 c (by omega)).1.trans (w2 c hc), bs, w3.frame fun b hb => by
    have := w3.rep.lt b hb
    exact ⟨by have := x.1; omega, (x.2 b this).1⟩, w4⟩
theorem Gr.app {z n : Nat} {h0 h : H} {y : S} {rows : List (List S)} {row : List S} (w : Gr z n h0 y rows h) (hs : ∀ s ∈ row, Sc s) (hz : row.length = z) (hz0 : 0 < z) (hl : rows.length + 1 ≤ lim) :
    ∃ h', appS z (h.new z row) (.s y) (sv h.n 0 1) = some (sv (h.n + 1) 0 (rows.length + 1), h') ∧ Gr z n h0 (.sl (some (h.n + 1, 0)) (rows.length + 1)) (rows ++ [row]) h' ∧ h'.n = h.n + 2 := by
  obtain ⟨w1, w2, bs, w3, w4⟩ := w
  obtain ⟨h', bs', e, o, hn, m, k⟩ := app_flat w3 hs hz hz0 hl
  refine ⟨h', e, ⟨by omega, fun c hc => (k c (by omega) fun hh => by have := w4 c hh; omega).trans (w2 c hc), bs', o, fun b hb => ?_⟩, hn⟩
  rcases m b hb with rfl | hb
  · omega
  · exact w4 b hb
theorem Gr.own {z n : Nat} {h0 h : H} {y : S} {rows : List (List S)} (w : Gr z n h0 y rows h) : OwnF 1 y (.fs rows) n h.n h := by
  obtain ⟨w1, w2, bs, w3, w4⟩ := w
  exact ⟨bs, w3.rep, w3.nd, fun b hb => ⟨w4 b hb, w3.rep.lt b hb⟩⟩
theorem Gr.frz {z n : Nat} {h0 h : H} {y : S} {rows : List (List S)} (w : Gr z n h0 y rows h) : frzV h (.s y) = some (lv rows) := w.own.frz
theorem OwnF.lift {d k : Nat} {y f : S} {lo hi : Nat} {h : H} (w : OwnF d y f lo hi h) (hk : d ≤ k) : OwnF k y f lo hi h := by
  obtain ⟨bs, a, b, c⟩ := w
  exact ⟨bs, a.lifts hk, b, c⟩
theorem OwnF.no {d : Nat} {y f : S} {lo hi : Nat} {h : H} (w : OwnF d y f lo hi h) : isNo y = false := by
  obtain ⟨bs, a, b, c⟩ := w
  exact a.isNo
/-- the value that grew is not let go -/
theorem grow_tidy {h h' : H} {l : List V} {m k : Nat} (hm : h.n ≤ m) (hl : sv m 0 k ∈ l) : tidy h l h' = h' := by
  refine no_tidy_v ?_
  rw [List.all_eq_false]
  exact ⟨_, hl, by simp [belV, belS]; omega⟩
/-- a fault, of a depth that is asked -/
theorem bad2D (n d : Nat) (c : Int) : ∃ h', (stK 2 ((D n).new 0 [.int .i64 0, .sl none 0]) (pv ((D n).n) 0) (.agg [.int .i64 c, .sl none 0]) fun h105 =>
      (loadN 2 h105 (pv ((D n).n) 0)).bind fun c106 => some (V.agg c106, h105)) = some (.agg [.int .i64 c, .sl none 0], h') ∧ NewC d [.int .i64 c, .sl none 0] [.int .i64 c, .fs []] n h' := by
  rw [st2_new, loadN_2 (by simp) (by exact g_st), Vm.ob]
  refine ⟨_, rfl, by simp, [], ?_, by simp, by simp⟩
  exact RepL.cons (bs := []) (Rep.sc trivial) (RepL.cons (bs := []) Rep.nil .nil)
end Vm
