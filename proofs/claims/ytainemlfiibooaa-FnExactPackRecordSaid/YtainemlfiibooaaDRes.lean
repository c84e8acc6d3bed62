/-
  Bytes appended and copied; results of a code and bytes: compared, marked, found again.
-/
import Derived.Test.YtainemlfiibooaaDCpF
set_option linter.unusedVariables false
set_option maxRecDepth 100000
set_option linter.unusedSimpArgs false
namespace Vm
open Go

theorem cellsS_by {h : H} {m : List UInt8} : cellsS 1 h (lv (bys m)) = some (m.map cell8) := by
  simp only [cellsS, if_pos (show ∀ r ∈ bys m, r.length = 1 from bys_row), bys_flat]
theorem cellsS_w {h : H} {v : V} {l : List UInt8} {b : Nat} (w : BysW h v l b) : cellsS 1 h v = some (l.map cell8) := by
  have hc : h.cells b = l.map cell8 := by unfold H.cells; rw [if_pos w.n, w.g]; rfl
  rw [w.v]
  simp only [cellsS, hc]
  rw [if_pos ⟨w.n, by simp⟩, List.drop_zero, List.take_of_length_le (by simp)]
/-- bytes behind bytes that are one's own -/
theorem app_by {h : H} {v : V} {l m : List UInt8} {b : Nat} (w : BysW h v l b) (hm : l.length + m.length ≤ lim) :
    appS 1 h v (lv (bys m)) = some (sv h.n 0 (l ++ m).length, (h.put b .dead).new 1 ((l ++ m).map cell8)) := by
  have h1 := cellsS_w w
  obtain ⟨rfl, w2, w3⟩ := w
  simp only [appS, h1, cellsS_by, Option.bind_some, lenS, bys_len]
  rw [if_pos ⟨w2, hm, by omega⟩, w3]
  simp
theorem app_own {h : H} {l m : List UInt8} {b : Nat} : BysW ((h.put b .dead).new 1 ((l ++ m).map cell8)) (sv h.n 0 (l ++ m).length) (l ++ m) h.n := ⟨rfl, by simp, new_g (h.put b .dead) _ _⟩
/-- the copy of bytes that begins with nothing -/
theorem app_nil {h : H} {m : List UInt8} (hm : m.length ≤ lim) : appS 1 (h.new 1 []) (sv h.n 0 0) (lv (bys m)) = some (sv (h.n + 1) 0 m.length, ((h.new 1 []).put h.n .dead).new 1 (m.map cell8)) := by
  have := app_by (h := h.new 1 []) (v := sv h.n 0 0) (l := []) (m := m) (b := h.n) ⟨rfl, by simp, by simp⟩ (by simpa using hm)
  simpa using this
theorem f_copied {m : List UInt8} (hm : m.length ≤ lim) (n : Nat) : ∃ v h', call Ev Fn.impl_copied [lv (bys m)] (D n) = some (v, h') ∧ NewB n h' v m (some (n + 1)) ∧ h'.n = n + 2 := by
  rw [eq_impl_copied, app_nil hm, ob]
  refine ⟨_, _, rfl, ⟨⟨rfl, by simp, ?_⟩, by simp; omega, fun b hb => by cases hb; omega, fun b h1 h2 s hs => ?_⟩, by simp⟩
  · exact new_g (((D n).new 1 []).put n .dead) _ _
  · have h3 : b = n ∨ b = n + 1 := by simp at h2; omega
    rcases h3 with rfl | rfl
    · rw [new_g' (by simp)] at hs
      simp [Blk.cells] at hs
    · have e : ((((D n).new 1 []).put (D n).n .dead).new 1 (m.map cell8)).g (n + 1) = .rw 1 (m.map cell8) := new_g (((D n).new 1 []).put n .dead) _ _
      dsimp only at hs
      rw [e] at hs
      obtain ⟨c, _, rfl⟩ := List.mem_map.1 hs
      rfl

theorem p_eqBR {c c' : Int} {l m : List UInt8} (hl : l.length ≤ maxLen) : pureV (call Ev) Fn.laws_eqBytesResult [.agg [.int .i64 c, .fs (bys l)], .agg [.int .i64 c', .fs (bys m)]] = some (bv (decide (c = c') && decide (l = m))) := by
  rw [pu_laws_eqBytesResult, vcase_b, pc (p_eqByteS hl) rfl]
  by_cases h1 : c = c' <;> by_cases h2 : l = m <;> simp [h1, h2]
theorem p_heldBR {c : Int} {k n : Nat} (hl : k + n < 2 ^ 62) : pureV (call Ev) Fn.laws_heldBytesResult [.agg [.int .i64 c, .fs (bys (marks k n))], iv .i64 k] = some (iv .i64 ((k + n : Nat) : Int)) := by
  rw [pu_laws_heldBytesResult, pc (p_held hl) rfl]
  simp only [gV1_s, gI_i, vcase_b]
  rw [if_neg (by simp; omega)]
theorem tidy_but {h h' : H} {o : Option Nat} {n : Int} (hn : h.n ≤ h'.n) (hg : ∀ c, c < h.n → o ≠ some c → h'.g c = h.g c ∧ h'.v c = h.v c) (hc : ∀ b, o = some b → (h'.g b).cells.all (belS h.n) = true) :
    (tidy h [iv .i64 n] h').n = h.n ∧ ∀ c, c < h.n → (tidy h [iv .i64 n] h').g c = h'.g c := by
  unfold tidy
  rw [if_pos]
  · exact ⟨rfl, fun c hc => by simp [hc]⟩
  · refine ⟨hn, by simp [belV, belS], fun b hb => ?_⟩
    by_cases ho : o = some b
    · exact .inr (hc b ho)
    · exact .inl (hg b hb ho)
theorem cell8_bel {n : Nat} (l : List UInt8) : (l.map cell8).all (belS n) = true := by
  rw [List.all_eq_true]
  intro s hs
  obtain ⟨c, _, rfl⟩ := List.mem_map.1 hs
  rfl
/-- a marked result -/
theorem r_markBR {h : H} {c : Int} {y : S} {l : List UInt8} {ob : Option Nat} {k : Nat} (hv : Own h (.s y) l ob) (hl : k + l.length < 2 ^ 62) :
    ∃ p, call Ev Fn.laws_markBytesResult [.agg [.int .i64 c, y], iv .i64 k] h = some (iv .i64 ((k + l.length : Nat) : Int), p) ∧ Own (tidy h [iv .i64 ((k + l.length : Nat) : Int)] p) (.s y) (marks k l.length) ob ∧ But ob h (tidy h [iv .i64 ((k + l.length : Nat) : Int)] p) := by
  have u : Up h (h.new 0 [.int .i64 c, y]) := up_new
  obtain ⟨h', e1, e2, e3, e4⟩ := r_mark (k := k) (hv.up u) hl
  have hb : ∀ b, ob = some b → b < h.n := fun b hb => by subst hb; exact hv.n
  rw [eq_laws_markBytesResult]
  have l1 : load1 (h.new 0 [.int .i64 c, y]) (pv h.n 1) = some y := by simp [load1, H.cells, Blk.cells]
  rw [l1, Vm.ob, e1, Vm.ob]
  simp only [gV1_s, gI_i]
  have t1 : tidy (h.new 0 [.int .i64 c, y]) [iv .i64 ((k + l.length : Nat) : Int)] h' = h' := tidy_same e3 fun c hc => e4 c (fun hh => by have := hb c hh; simp at hc; omega)
  rw [t1]
  refine ⟨h', rfl, ?_⟩
  have hbel : ∀ b, ob = some b → (h'.g b).cells.all (belS h.n) = true := fun b hb => by
    subst hb
    rw [(show BysW h' (.s y) (marks k l.length) b from e2).g]
    exact cell8_bel _
  obtain ⟨t2, t3⟩ := tidy_but (n := ((k + l.length : Nat) : Int)) (h := h) (h' := h') (o := ob) (by rw [e3]; simp) (fun c hc ho => by
    have := e4 c ho
    refine ⟨this.1.trans (new_g' (by omega)), this.2⟩) hbel
  refine ⟨?_, t2, fun c hc => ?_⟩
  · cases ob with
    | none => exact e2
    | some b => exact ⟨e2.v, by rw [t2]; exact hb b rfl, by rw [t3 b (hb b rfl)]; exact e2.g⟩
  · by_cases hcn : c < h.n
    · rw [t3 c hcn, (e4 c hc).1, new_g' (by omega)]
    · unfold tidy
      split
      · simp [hcn]
      · rename_i hT
        exfalso
        refine hT ⟨by rw [e3]; simp, by simp [belV, belS], fun b hb' => ?_⟩
        by_cases ho : ob = some b
        · exact .inr (hbel b ho)
        · exact .inl ⟨(e4 b ho).1.trans (new_g' (by omega)), (e4 b ho).2⟩
end Vm
