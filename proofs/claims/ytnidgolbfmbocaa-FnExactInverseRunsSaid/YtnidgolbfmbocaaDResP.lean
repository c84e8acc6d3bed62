/-
  Results of a code, a number and a page: compared, marked, found again.
-/
import Derived.Test.YtnidgolbfmbocaaDRes
set_option linter.unusedVariables false
set_option maxRecDepth 100000
set_option linter.unusedSimpArgs false
namespace Vm
open Go

theorem loadN_3 {e b : Nat} {h : H} {x y z : S} (hb : b < h.n) (hg : h.g b = .rw e [x, y, z]) : loadN 3 h (pv b 0) = some [x, y, z] := loadN_rw hb hg (by simp)
theorem st3_new {R : Type} {h : H} {x y z a b c : S} {k : H → Option R} : stK 3 (h.new 0 [a, b, c]) (pv h.n 0) (.agg [x, y, z]) k = k ((h.new 0 [a, b, c]).put h.n (.rw 0 [x, y, z])) :=
  stK_rw (z := 3) (e := 0) (o := 0) (b := h.n) (cs := [a, b, c]) (r := [x, y, z]) (by simp) (new_g _ _ _) (.inr rfl) rfl (by simp)
theorem frz3 {h : H} {c d : Int} {y : S} {l : List UInt8} {ob : Option Nat} (w : Own h (.s y) l ob) : frzV h (.agg [.int .i64 c, .int .i64 d, y]) = some (.agg [.int .i64 c, .int .i64 d, .fs (bys l)]) := by
  obtain ⟨s, h1, h2⟩ := w.frz (d := 7)
  cases h1
  simp [h2]
theorem frzV_agf3 {h : H} {c d : Int} {l : List (List S)} : frzV h (.agg [.int .i64 c, .int .i64 d, .fs l]) = some (.agg [.int .i64 c, .int .i64 d, .fs l]) := by simp
theorem NewB.p3 {f : Nat} {xs : List V} {h : H} {c d : Int} {y : S} {l : List UInt8} {o : Option Nat} (hc : call Ev f xs (D 0) = some (.agg [.int .i64 c, .int .i64 d, y], h)) (w : NewB 0 h (.s y) l o) : pureV (call Ev) f xs = some (.agg [.int .i64 c, .int .i64 d, .fs (bys l)]) := by
  unfold pureV
  rw [hc, Vm.ob, frz3 w.own]
theorem p_eqPR {c c' d d' : Int} {l m : List UInt8} (hl : l.length ≤ maxLen) : pureV (call Ev) Fn.laws_eqPageResult [.agg [.int .i64 c, .int .i64 d, .fs (bys l)], .agg [.int .i64 c', .int .i64 d', .fs (bys m)]] = some (bv (decide (c = c') && (decide (d = d') && decide (l = m)))) := by
  rw [pu_laws_eqPageResult, vcase_b, vcase_b, pc (p_eqByteS hl) rfl]
  by_cases h1 : c = c' <;> by_cases h2 : d = d' <;> by_cases h3 : l = m <;> simp [h1, h2, h3]
theorem p_heldPR {c d : Int} {k n : Nat} (hl : k + n < 2 ^ 62) : pureV (call Ev) Fn.laws_heldPageResult [.agg [.int .i64 c, .int .i64 d, .fs (bys (marks k n))], iv .i64 k] = some (iv .i64 ((k + n : Nat) : Int)) := by
  rw [pu_laws_heldPageResult, pc (p_held hl) rfl]
  simp only [gV1_s, gI_i, vcase_b]
  rw [if_neg (by simp; omega)]
/-- a marked result -/
theorem r_markPR {h : H} {c d : Int} {y : S} {l : List UInt8} {ob : Option Nat} {k : Nat} (hv : Own h (.s y) l ob) (hl : k + l.length < 2 ^ 62) :
    ∃ p, call Ev Fn.laws_markPageResult [.agg [.int .i64 c, .int .i64 d, y], iv .i64 k] h = some (iv .i64 ((k + l.length : Nat) : Int), p) ∧ Own (tidy h [iv .i64 ((k + l.length : Nat) : Int)] p) (.s y) (marks k l.length) ob ∧ But ob h (tidy h [iv .i64 ((k + l.length : Nat) : Int)] p) := by
  have u : Up h (h.new 0 [.int .i64 c, .int .i64 d, y]) := up_new
  obtain ⟨h', e1, e2, e3, e4⟩ := r_mark (k := k) (hv.up u) hl
  have hb : ∀ b, ob = some b → b < h.n := fun b hb => by subst hb; exact hv.n
  rw [eq_laws_markPageResult]
  have l1 : load1 (h.new 0 [.int .i64 c, .int .i64 d, y]) (pv h.n 2) = some y := by simp [load1, H.cells, Blk.cells]
  rw [l1, Vm.ob, e1, Vm.ob]
  simp only [gV1_s, gI_i]
  have t1 : tidy (h.new 0 [.int .i64 c, .int .i64 d, y]) [iv .i64 ((k + l.length : Nat) : Int)] h' = h' := tidy_same e3 fun c hc => e4 c (fun hh => by have := hb c hh; simp at hc; omega)
  rw [t1]
  refine ⟨h', rfl, ?_⟩
  have hbel : ∀ b, ob = some b → (h'.g b).cells.all (belS h.n) = true := fun b hb => by
    subst hb
    rw [(show BysW h' (.s y) (marks k l.length) b from e2).g]
    exact cell8_bel _
  obtain ⟨t2, t3⟩ := tidy_but (n := ((k + l.length : Nat) : Int)) (h := h) (h' := h') (o := ob) (by rw [e3]; simp) (fun c hc ho => by
    have := e4 c ho
    refine ⟨this.1.trans (new_g' (by omega)), this.2⟩) hbel
  refine ⟨?_, t2, fun c hc => ?_⟩
  · cases ob with
    | none => exact e2
    | some b => exact ⟨e2.v, by rw [t2]; exact hb b rfl, by rw [t3 b (hb b rfl)]; exact e2.g⟩
  · by_cases hcn : c < h.n
    · rw [t3 c hcn, (e4 c hc).1, new_g' (by omega)]
    · unfold tidy
      split
      · simp [hcn]
      · rename_i hT
        exfalso
        refine hT ⟨by rw [e3]; simp, by simp [belV, belS], fun b hb' => ?_⟩
        by_cases ho : ob = some b
        · exact .inr (hbel b ho)
        · exact .inl ⟨(e4 b ho).1.trans (new_g' (by omega)), (e4 b ho).2⟩
/-- a fault, as a new result -/
theorem badP (n : Nat) (c : Int) : ∃ h', (stK 3 ((D n).new 0 [.int .i64 0, .int .i64 0, .sl none 0]) (pv ((D n).n) 0) (.agg [.int .i64 c, .int .i64 0, .sl none 0]) fun h105 =>
      (loadN 3 h105 (pv ((D n).n) 0)).bind fun c106 => some (V.agg c106, h105)) = some (.agg [.int .i64 c, .int .i64 0, .sl none 0], h') ∧ NewB n h' (.s (.sl none 0)) [] none := by
  rw [st3_new, loadN_3 (by simp) (by exact g_st), Vm.ob]
  refine ⟨_, rfl, ⟨rfl, rfl⟩, by simp, by simp, fun b h1 h2 s hs => ?_⟩
  have h3 : b = n := by simp at h2; omega
  subst h3
  have e : (((D b).new 0 [.int .i64 0, .int .i64 0, .sl none 0]).put (D b).n (.rw 0 [.int .i64 c, .int .i64 0, .sl none 0])).g b = .rw 0 [.int .i64 c, .int .i64 0, .sl none 0] := g_st
  rw [e] at hs
  simp only [Blk.cells, List.mem_cons, List.not_mem_nil, or_false] at hs
  rcases hs with rfl | rfl | rfl <;> rfl
end Vm
