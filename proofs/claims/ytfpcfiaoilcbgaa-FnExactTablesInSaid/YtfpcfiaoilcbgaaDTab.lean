/-
  The tables that rows tell.
-/
import Derived.Test.YtfpcfiaoilcbgaaDGr
set_option linter.unusedVariables false
set_option maxRecDepth 100000
set_option linter.unusedSimpArgs false
namespace Vm
open Go
theorem rws_snoc (rs : List RowD) (r : RowD) : rws (rs ++ [r]) = rws rs ++ [r.cs] := by simp [rws]
def tabs (rs : List RowD) : List RowD := rs.filter fun r => decide (r.tab = 0)
theorem p_l8Tables {all : List RowD} (hl : all.length ≤ lim) : pureV (call Ev) Fn.spec_l8Tables [lv (rws all)] = some (lv (rws (tabs all))) := by
  have hl' := hl
  unfold lim at hl'
  have loop : ∀ (rs : List RowD) (i : Nat) (y : S) (out : List RowD) (h : H), all.drop i = rs → out.length ≤ i → Gr 4 0 (D 0) y (rws out) h →
      ∃ y' h', Lp.spec_l8Tables 0 [lv (rws all), .s y, iv .i64 i] h = some (.done [.s y'] h') ∧ Gr 4 0 (D 0) y' (rws (out ++ tabs rs)) h' := by
    intro rs
    induction rs with
    | nil =>
      intro i y out h hi ho w
      have := drop_nil hi
      refine ⟨y, h, ?_, by simpa [tabs] using w⟩
      rw [eq_spec_l8Tables_l0, vcase_b, if_neg (by simp; omega), tidy_self]
    | cons r rs ih =>
      intro i y out h hi ho w
      obtain ⟨g1, g2, g3⟩ := drop_cons hi
      rw [eq_spec_l8Tables_l0, vcase_b, if_pos (by simp; omega), idxF_rw g1, w64 (by omega) (by omega), show (i : Int) + 1 = ((i + 1 : Nat) : Int) from by omega]
      simp only [ob, gx0, gI_i, vcase_b, beq_iff_eq]
      by_cases h0 : r.tab = 0
      · rw [if_pos h0, idxF_rw g1, rowN_rw]
        simp only [ob, gx0, gx1, gI_i, gS_s, ln0, ln1, Nat.zero_add, Nat.reduceAdd, if_true]
        obtain ⟨h', e, w', hn⟩ := w.app (row := r.cs) row_sc rfl (by omega) (by rw [rws_len]; unfold lim; omega)
        rw [e, ob, grow_tidy (m := h.n + 1) (k := (rws out).length + 1) (by omega) (by simp)]
        rw [← rws_snoc] at w'
        obtain ⟨y', h2, e2, w2⟩ := ih (i + 1) _ (out ++ [r]) h' g2 (by simp; omega) w'
        refine ⟨y', h2, e2, ?_⟩
        have : tabs (r :: rs) = r :: tabs rs := by simp [tabs, h0]
        rw [this]; simpa using w2
      · rw [if_neg h0, tidy_self]
        obtain ⟨y', h2, e2, w2⟩ := ih (i + 1) y out h g2 (by omega) w
        refine ⟨y', h2, e2, ?_⟩
        have : tabs (r :: rs) = tabs rs := by simp [tabs, h0]
        rw [this]; exact w2
  obtain ⟨y', h', e, w⟩ := loop all 0 _ [] _ rfl (by simp) (Gr.new (z := 4) (h := D 0) (by omega))
  rw [pu_spec_l8Tables, show iv .i64 0 = iv .i64 ((0 : Nat) : Int) from rfl]
  rw [D_n] at e
  rw [e, ob, lcase_done]
  simp only [gx0, ob]
  exact w.frz
def tabC (rs : List RowD) : Int := rowsF rs
def tabL (rs : List RowD) : List RowD := if rowsF rs = 0 then tabs rs else []
theorem tabL_len (rs : List RowD) : (tabL rs).length ≤ rs.length := by
  unfold tabL tabs
  split
  · exact List.length_filter_le _ _
  · simp
theorem p_spec_TablesIn {all : List RowD} (hs : ∀ r ∈ all, r.text.size ≤ maxLen) (hl : all.length ≤ lim) : pureV (call Ev) Fn.spec_TablesIn [lv (rws all)] = some (.agg [.int .i64 (tabC all), .fs (rws (tabL all))]) := by
  rw [pu_spec_TablesIn, pc (p_l6Rows hs (by unfold lim at hl; unfold maxLen; omega)) rfl]
  simp only [gV1_s, gI_i, vcase_b, bne_iff_ne, ne_eq]
  unfold tabC tabL
  by_cases h0 : rowsF all = 0
  · rw [if_neg (by simp [h0]), p_l8Tables hl, if_pos h0]
    simp only [ob, gV1_s, gF_f]
    rw [h0]
  · rw [if_pos h0, if_neg h0]; rfl
theorem f_TablesIn {all : List RowD} (hs : ∀ r ∈ all, r.text.size ≤ maxLen) (hl : all.length ≤ lim) (n : Nat) : ∃ y h', call Ev Fn.impl_TablesIn [lv (rws all)] (D n) = some (.agg [.int .i64 (tabC all), y], h') ∧ NewC 5 [.int .i64 (tabC all), y] [.int .i64 (tabC all), .fs (rws (tabL all))] n h' := by
  have hl' := hl
  unfold lim at hl'
  rw [eq_impl_TablesIn, pc (p_RowsFault hs (by unfold maxLen; omega)) rfl]
  simp only [gV1_s, gI_i, vcase_b, bne_iff_ne, ne_eq]
  unfold tabC tabL
  by_cases h0 : rowsF all = 0
  case neg =>
    obtain ⟨h', e, w⟩ := bad2D n 5 (rowsF all)
    rw [if_pos h0, if_neg h0]
    exact ⟨_, h', e, w⟩
  rw [if_neg (by simp [h0]), if_pos h0, h0]
  have loop : ∀ (rs : List RowD) (i : Nat) (y : S) (out : List RowD) (h : H), all.drop i = rs → out.length ≤ i → Gr 4 (n + 1) ((D n).new 0 [.int .i64 0, .sl none 0]) y (rws out) h →
      ∃ y' h', Lp.impl_TablesIn 0 [pv n 0, .s y, lv (rws all), iv .i64 (all.length : Int), iv .i64 i] h = some (.done [pv n 0, .s y'] h') ∧ Gr 4 (n + 1) ((D n).new 0 [.int .i64 0, .sl none 0]) y' (rws (out ++ tabs rs)) h' := by
    intro rs
    induction rs with
    | nil =>
      intro i y out h hi ho w
      have := drop_nil hi
      refine ⟨y, h, ?_, by simpa [tabs] using w⟩
      rw [eq_impl_TablesIn_l0, vcase_b, if_neg (by simp; omega), tidy_self]
    | cons r rs ih =>
      intro i y out h hi ho w
      obtain ⟨g1, g2, g3⟩ := drop_cons hi
      rw [eq_impl_TablesIn_l0, vcase_b, if_pos (by simp; omega), idxF_rw g1, rowN_rw, w64 (by omega) (by omega), show (i : Int) + 1 = ((i + 1 : Nat) : Int) from by omega]
      simp only [ob, gx0, gx1, gI_i, gS_s, ln0, ln1, Nat.zero_add, Nat.reduceAdd, if_true]
      rw [stK_row, load_0, loadN_row]
      simp only [ob, gx0, gx1, gI_i, gS_s, ln0, ln1, Nat.zero_add, Nat.reduceAdd, if_true, vcase_b, beq_iff_eq]
      by_cases h0 : r.tab = 0
      · rw [if_pos h0]
        obtain ⟨h', e, w', hn⟩ := (w.keep (putR_keep h r)).app (row := r.cs) row_sc rfl (by omega) (by rw [rws_len]; unfold lim; omega)
        rw [e, ob, grow_tidy (m := (putR h r).n + 1) (k := (rws out).length + 1) (by rw [putR_n]; omega) (by simp)]
        rw [← rws_snoc] at w'
        obtain ⟨y', h2, e2, w2⟩ := ih (i + 1) _ (out ++ [r]) h' g2 (by simp; omega) w'
        refine ⟨y', h2, e2, ?_⟩
        have : tabs (r :: rs) = r :: tabs rs := by simp [tabs, h0]
        rw [this]; simpa using w2
      · have hb : [pv n 0, V.s y, lv (rws all), iv .i64 (all.length : Int), iv .i64 ((i + 1 : Nat) : Int)].all (belV h.n) = true := by
          obtain ⟨w1, _, bs, w3, _⟩ := w
          have hy := w3.rep.top (N := h.n) w3.rep.lt
          simp only [List.all_cons, List.all_nil, Bool.and_true, Bool.and_eq_true]
          exact ⟨by simp [belV, belS]; omega, hy, rfl, rfl, rfl⟩
        rw [if_neg h0, putR_tidy hb]
        obtain ⟨y', h2, e2, w2⟩ := ih (i + 1) y out h g2 (by omega) w
        refine ⟨y', h2, e2, ?_⟩
        have : tabs (r :: rs) = tabs rs := by simp [tabs, h0]
        rw [this]; exact w2
  obtain ⟨y', h', e, w⟩ := loop all 0 _ [] _ rfl (by simp) (Gr.none (z := 4) (n := n + 1) (h := (D n).new 0 [.int .i64 0, .sl none 0]) (by simp))
  rw [rws_len, D_n, show iv .i64 0 = iv .i64 ((0 : Nat) : Int) from rfl, e, ob, lcase_done]
  simp only [gx0, gx1, ob]
  rw [cells2 w.own.no]
  obtain ⟨h2, e2, w2⟩ := fin2S (n := n) (K := h') (c := 0) (by have := w.1; omega) (by rw [w.2.1 n (by omega)]; exact new_g (D n) _ _) (w.own.lift (k := 5) (by omega))
  refine ⟨y', h2, ?_, w2⟩
  rw [← e2]
  rfl
end Vm
