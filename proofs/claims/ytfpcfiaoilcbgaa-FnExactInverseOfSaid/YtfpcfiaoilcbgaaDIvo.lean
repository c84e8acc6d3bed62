/-
  The changes that take others back.
-/
import Derived.Test.YtfpcfiaoilcbgaaDChm
set_option linter.unusedVariables false
set_option maxRecDepth 100000
set_option linter.unusedSimpArgs false
namespace Vm
open Go
/-! cells that lie in a new block -/
def putX (h : H) (zs cs : List S) : H := (h.new 0 zs).put h.n (.rw 0 cs)
theorem putX_keep (h : H) (zs cs : List S) : HKeep h (putX h zs cs) := ((HKeep.refl h).new).put (Nat.le_refl _)
theorem putX_n (h : H) (zs cs : List S) : (putX h zs cs).n = h.n + 1 := rfl
theorem putX_g (h : H) (zs cs : List S) : (putX h zs cs).g h.n = .rw 0 cs := put_g _ _ _
theorem putX_cells (h : H) (zs cs : List S) : (putX h zs cs).cells h.n = cs := by
  unfold H.cells; rw [if_pos (by rw [putX_n]; omega), putX_g]; rfl
theorem putX_tidy {h : H} {zs cs : List S} {l : List V} (hl : l.all (belV h.n) = true) : tidy h l (putX h zs cs) = h := tidy_ext (putX_keep h zs cs) hl
section
variable {R : Type}
theorem stK_X {z : Nat} {h : H} {zs cs : List S} {k : H → Option R} (hz : zs.length = z) (hc : cs.length = z) : stK z (h.new 0 zs) (pv h.n 0) (.agg cs) k = k (putX h zs cs) := by
  rw [stK_rw (z := z) (o := 0) (b := h.n) (r := cs) (e := 0) (cs := zs) (by simp) (new_g h _ _) (.inr rfl) hc (by omega), setAt_all (by omega)]
  rfl
end
theorem loadN_X {h : H} {zs cs : List S} {n o : Nat} {r : List S} (hn : o + n ≤ cs.length) (hr : (cs.drop o).take n = r) : loadN n (putX h zs cs) (pv h.n o) = some r := by
  have := putX_cells h zs cs
  have h2 : h.n < (putX h zs cs).n := by rw [putX_n]; omega
  simp only [loadN]
  rw [if_pos ⟨h2, by rw [this]; exact hn⟩, this, hr]
theorem load1_X {h : H} {zs cs : List S} {o : Nat} {x : S} (hx : cs[o]? = some x) : load1 (putX h zs cs) (pv h.n o) = some x := by
  simp only [load1]; rw [putX_cells, hx]
abbrev zC : List S := [.bool false, .int .i64 0, .int .i64 0, .int .i64 0, .str ⟨#[]⟩, .bool false, .int .i64 0, .int .i64 0, .int .i64 0, .str ⟨#[]⟩]
/-! a change alone -/
def eqRowB (a b : RowD) : Bool := (a.tab == b.tab) && ((a.key == b.key) && ((a.val == b.val) && ((a.text.toList == b.text.toList) && true)))
def singF (c : ChgD) : Int := if chgF c = 0 then (if c.was && c.is && eqRowB c.b c.a then 1 else 0) else chgF c
theorem p_l9Change (c : ChgD) (hc : c.ok) : pureV (call Ev) Fn.spec_l9Change [fv c.cs 0] = some (iv .i64 (singF c)) := by
  rw [pu_spec_l9Change, pc (p_l6Change c hc) rfl]
  simp only [gV1_s, gI_i, vcase_b, bne_iff_ne, ne_eq]
  rw [show ((c.b.tab == c.a.tab) && ((c.b.key == c.a.key) && ((c.b.val == c.a.val) && ((c.b.text.toList == c.a.text.toList) && true)))) = eqRowB c.b c.a from rfl]
  unfold singF
  by_cases h0 : chgF c = 0
  · rw [if_neg (by simp [h0]), if_pos h0]
    cases c.was <;> cases c.is <;> cases eqRowB c.b c.a <;> simp
  · rw [if_pos h0, if_neg h0]
theorem p_singleFault (c : ChgD) (hc : c.ok) : pureV (call Ev) Fn.impl_singleFault [.agg c.cs] = some (iv .i64 (singF c)) := by
  rw [pu_impl_singleFault, pc (p_changeFault c hc) rfl]
  simp only [gV1_s, gI_i, vcase_b, bne_iff_ne, ne_eq]
  rw [show ((c.b.tab == c.a.tab) && ((c.b.key == c.a.key) && ((c.b.val == c.a.val) && ((c.b.text.toList == c.a.text.toList) && true)))) = eqRowB c.b c.a from rfl]
  unfold singF
  by_cases h0 : chgF c = 0
  · rw [if_neg (by simp [h0]), if_pos h0]
    cases c.was <;> cases c.is <;> cases eqRowB c.b c.a <;> simp
  · rw [if_pos h0, if_neg h0]
/-! the inverse -/
def invC (c : ChgD) : ChgD := ⟨c.is, c.a, c.was, c.b⟩
def invs (l : List ChgD) : List ChgD := l.reverse.map invC
theorem invs_snoc (l : List ChgD) (c : ChgD) : invs (l ++ [c]) = invC c :: invs l := by simp [invs]
theorem p_l10Inverse {all : List ChgD} (hl : all.length ≤ lim) : pureV (call Ev) Fn.spec_l10Inverse [lv (chs all)] = some (lv (chs (invs all))) := by
  have hl' := hl
  unfold lim at hl'
  have loop : ∀ (k : Nat) (y : S) (out : List ChgD) (h : H), k ≤ all.length → out.length + k ≤ all.length → Gr 10 0 (D 0) y (chs out) h →
      ∃ y' h', Lp.spec_l10Inverse 0 [lv (chs all), .s y, iv .i64 ((k : Int) - 1)] h = some (.done [.s y'] h') ∧ Gr 10 0 (D 0) y' (chs (out ++ invs (all.take k))) h' := by
    intro k
    induction k with
    | zero =>
      intro y out h hi ho w
      refine ⟨y, h, ?_, by simpa [invs] using w⟩
      rw [eq_spec_l10Inverse_l0, vcase_b, if_neg (by simp), tidy_self]
    | succ k ih =>
      intro y out h hi ho w
      obtain ⟨c, hc⟩ : ∃ c, all[k]? = some c := ⟨_, List.getElem?_eq_getElem (by omega)⟩
      rw [eq_spec_l10Inverse_l0, vcase_b, show ((k + 1 : Nat) : Int) - 1 = (k : Int) from by omega, if_pos (by simp), idxF_ch hc, rowN_ch, w64 (by omega) (by omega)]
      simp only [ob, gx0, gx1, gI_i, gS_s, gB_b, ln0, ln1, Nat.zero_add, Nat.reduceAdd, if_true]
      rw [stK_X (z := 10) (cs := c.cs) rfl rfl, load1_X (o := 5) (x := .bool c.is) rfl, loadN_X (o := 6) (r := c.a.cs) (by simp) rfl, load1_X (o := 0) (x := .bool c.was) rfl, loadN_X (o := 1) (r := c.b.cs) (by simp) rfl]
      simp only [ob, gx0, gx1, gI_i, gS_s, gB_b, ln0, ln1, Nat.zero_add, Nat.reduceAdd, if_true]
      obtain ⟨h', e, w', hn⟩ := (w.keep (putX_keep h zC c.cs)).app (row := (invC c).cs) chg_sc rfl (by omega) (by rw [chs_len]; unfold lim; omega)
      have e' : appS 10 ((putX h zC c.cs).new 10 [S.bool c.is, .int .i64 c.a.tab, .int .i64 c.a.key, .int .i64 c.a.val, .str c.a.text, .bool c.was, .int .i64 c.b.tab, .int .i64 c.b.key, .int .i64 c.b.val, .str c.b.text]) (.s y) (sv (putX h zC c.cs).n 0 1) = some (sv ((putX h zC c.cs).n + 1) 0 ((chs out).length + 1), h') := e
      rw [e', ob, grow_tidy (m := (putX h zC c.cs).n + 1) (k := (chs out).length + 1) (by rw [putX_n]; omega) (by simp)]
      rw [← chs_snoc] at w'
      obtain ⟨y', h2, e2, w2⟩ := ih _ (out ++ [invC c]) h' (by omega) (by simp; omega) w'
      refine ⟨y', h2, e2, ?_⟩
      have : all.take (k + 1) = all.take k ++ [c] := by rw [List.take_add_one, hc]; rfl
      rw [this, invs_snoc]; simpa using w2
  obtain ⟨y', h', e, w⟩ := loop all.length _ [] _ (Nat.le_refl _) (by simp) (Gr.new (z := 10) (h := D 0) (by omega))
  rw [pu_spec_l10Inverse, chs_len, w64 (by omega) (by omega)]
  rw [D_n] at e
  rw [e, ob, lcase_done]
  simp only [gx0, ob]
  rw [List.take_of_length_le (Nat.le_refl _)] at w
  exact w.frz
theorem f_inverse {all : List ChgD} (hl : all.length ≤ lim) (n : Nat) : ∃ y h', call Ev Fn.impl_inverse [lv (chs all)] (D n) = some (.s y, h') ∧ n ≤ h'.n ∧ OwnF 1 y (.fs (chs (invs all))) n h'.n h' := by
  have hl' := hl
  unfold lim at hl'
  have loop : ∀ (k : Nat) (y : S) (out : List ChgD) (h : H), k ≤ all.length → out.length + k ≤ all.length → Gr 10 n (D n) y (chs out) h →
      ∃ y' h', Lp.impl_inverse 0 [lv (chs all), .s y, iv .i64 ((k : Int) - 1)] h = some (.done [.s y'] h') ∧ Gr 10 n (D n) y' (chs (out ++ invs (all.take k))) h' := by
    intro k
    induction k with
    | zero =>
      intro y out h hi ho w
      refine ⟨y, h, ?_, by simpa [invs] using w⟩
      rw [eq_impl_inverse_l0, vcase_b, if_neg (by simp), tidy_self]
    | succ k ih =>
      intro y out h hi ho w
      obtain ⟨c, hc⟩ : ∃ c, all[k]? = some c := ⟨_, List.getElem?_eq_getElem (by omega)⟩
      rw [eq_impl_inverse_l0, vcase_b, show ((k + 1 : Nat) : Int) - 1 = (k : Int) from by omega, if_pos (by simp), idxF_ch hc, rowN_ch, w64 (by omega) (by omega)]
      simp only [ob, gx0, gx1, gI_i, gS_s, gB_b, ln0, ln1, Nat.zero_add, Nat.reduceAdd, if_true]
      rw [stK_X (z := 10) (cs := c.cs) rfl rfl, load1_X (o := 5) (x := .bool c.is) rfl, loadN_X (o := 6) (r := c.a.cs) (by simp) rfl, load1_X (o := 0) (x := .bool c.was) rfl, loadN_X (o := 1) (r := c.b.cs) (by simp) rfl]
      simp only [ob, gx0, gx1, gI_i, gS_s, gB_b, ln0, ln1, Nat.zero_add, Nat.reduceAdd, if_true]
      obtain ⟨h', e, w', hn⟩ := (w.keep (putX_keep h zC c.cs)).app (row := (invC c).cs) chg_sc rfl (by omega) (by rw [chs_len]; unfold lim; omega)
      have e' : appS 10 ((putX h zC c.cs).new 10 [S.bool c.is, .int .i64 c.a.tab, .int .i64 c.a.key, .int .i64 c.a.val, .str c.a.text, .bool c.was, .int .i64 c.b.tab, .int .i64 c.b.key, .int .i64 c.b.val, .str c.b.text]) (.s y) (sv (putX h zC c.cs).n 0 1) = some (sv ((putX h zC c.cs).n + 1) 0 ((chs out).length + 1), h') := e
      rw [e', ob, grow_tidy (m := (putX h zC c.cs).n + 1) (k := (chs out).length + 1) (by rw [putX_n]; omega) (by simp)]
      rw [← chs_snoc] at w'
      obtain ⟨y', h2, e2, w2⟩ := ih _ (out ++ [invC c]) h' (by omega) (by simp; omega) w'
      refine ⟨y', h2, e2, ?_⟩
      have : all.take (k + 1) = all.take k ++ [c] := by rw [List.take_add_one, hc]; rfl
      rw [this, invs_snoc]; simpa using w2
  obtain ⟨y', h', e, w⟩ := loop all.length _ [] _ (Nat.le_refl _) (by simp) (Gr.none (z := 10) (n := n) (h := D n) (by simp))
  rw [eq_impl_inverse, chs_len, w64 (by omega) (by omega), e, ob, lcase_done]
  simp only [gx0, ob]
  rw [List.take_of_length_le (Nat.le_refl _)] at w
  exact ⟨y', h', rfl, w.1, w.own⟩
/-! InverseOf -/
def firF : List ChgD → Int
  | [] => 0
  | c :: cs => if singF c = 0 then firF cs else singF c
def ivF (l : List ChgD) : Int := if 60 < l.length then 2 else firF l
def ivL (l : List ChgD) : List ChgD := if ivF l = 0 then invs l else []
theorem ivL_len (l : List ChgD) : (ivL l).length ≤ l.length := by
  unfold ivL invs
  split <;> simp
theorem p_spec_InverseOf {all : List ChgD} (hr : ∀ r ∈ all, r.ok) (hl : all.length ≤ lim) : pureV (call Ev) Fn.spec_InverseOf [lv (chs all)] = some (.agg [.int .i64 (ivF all), .fs (chs (ivL all))]) := by
  have hl' := hl
  unfold lim at hl'
  have loop : ∀ (rs : List ChgD) (i : Nat), all.drop i = rs → ∃ h1, Lp.spec_InverseOf 0 [lv (chs all), pv 0 0, iv .i64 i] ((D 0).new 0 [.int .i64 0, .sl none 0]) = some (if firF rs = 0 then .done [lv (chs all), pv 0 0] ((D 0).new 0 [.int .i64 0, .sl none 0]) else .ret (.agg [.int .i64 (firF rs), .sl none 0]) h1) := by
    intro rs
    induction rs with
    | nil =>
      intro i hi
      have := drop_nil hi
      rw [eq_spec_InverseOf_l0, vcase_b, if_neg (by simp; omega), tidy_self]; exact ⟨D 0, rfl⟩
    | cons r rs ih =>
      intro i hi
      obtain ⟨g1, g2, g3⟩ := drop_cons hi
      obtain ⟨h1, e1⟩ := ih (i + 1) g2
      rw [eq_spec_InverseOf_l0, vcase_b, if_pos (by simp; omega), idxF_ch g1, normV_ch, pc (p_l9Change r (hr r (List.mem_of_getElem? g1))) rfl]
      simp only [gV1_s, gI_i, vcase_b, bne_iff_ne, ne_eq]
      by_cases h0 : singF r = 0
      · have e : firF (r :: rs) = firF rs := by rw [firF, if_pos h0]
        rw [if_neg (by simp [h0]), tidy_self, w64 (by omega) (by omega), show (i : Int) + 1 = ((i + 1 : Nat) : Int) from by omega, e1, e]
        exact ⟨h1, rfl⟩
      · have e : firF (r :: rs) = singF r := by rw [firF, if_neg h0]
        rw [if_pos h0, e, stK_rw (z := 2) (e := 0) (o := 0) (b := 0) (cs := [.int .i64 0, .sl none 0]) (r := [.int .i64 (singF r), .sl none 0]) (by simp) (by exact new_g (D 0) _ _) (.inr rfl) rfl (by simp)]
        refine ⟨((D 0).new 0 [.int .i64 0, .sl none 0]).put 0 (.rw 0 [.int .i64 (singF r), .sl none 0]), ?_⟩
        simp only [ldT, cond_true]
        rw [show setAt [.int .i64 0, .sl none 0] 0 [.int .i64 (singF r), .sl none 0] = [.int .i64 (singF r), .sl none 0] from rfl, loadN_2 (b := 0) (e := 0) (by rw [put_n]; simp) (put_g _ _ _), ob, if_neg h0]
  rw [pu_spec_InverseOf, vcase_b, chs_len]
  unfold ivL ivF
  by_cases h60 : 60 < all.length
  · rw [if_pos (by simp; omega), if_pos h60]; rfl
  rw [if_neg (by simp; omega), if_neg h60]
  obtain ⟨h1, e1⟩ := loop all 0 rfl
  rw [show iv .i64 0 = iv .i64 ((0 : Nat) : Int) from rfl, e1, ob]
  by_cases h0 : firF all = 0
  · rw [if_pos h0, lcase_done, h0]
    simp only [gx0, gx1, ob, gV1_s, gF_f]
    rw [p_l10Inverse hl]
    simp only [ob, gV1_s, gF_f]
    rw [stK_rw (z := 2) (e := 0) (o := 0) (b := 0) (cs := [.int .i64 0, .sl none 0]) (r := [.int .i64 0, .fs (chs (invs all))]) (by simp) (by exact new_g (D 0) _ _) (.inr rfl) rfl (by simp)]
    simp only [ldT, cond_true]
    rw [show setAt [.int .i64 0, .sl none 0] 0 [.int .i64 0, .fs (chs (invs all))] = [.int .i64 0, .fs (chs (invs all))] from rfl, loadN_2 (b := 0) (e := 0) (by rw [put_n]; simp) (put_g _ _ _), ob, if_pos trivial]
    exact frzV_agf
  · rw [if_neg h0, lcase_ret, if_neg h0]; simp; rfl
theorem f_InverseOf {all : List ChgD} (hr : ∀ r ∈ all, r.ok) (hl : all.length ≤ lim) (n : Nat) : ∃ y h', call Ev Fn.impl_InverseOf [lv (chs all)] (D n) = some (.agg [.int .i64 (ivF all), y], h') ∧ NewC 5 [.int .i64 (ivF all), y] [.int .i64 (ivF all), .fs (chs (ivL all))] n h' := by
  have hl' := hl
  unfold lim at hl'
  have loop : ∀ (rs : List ChgD) (i : Nat), all.drop i = rs → ∃ h1, Lp.impl_InverseOf 0 [lv (chs all), pv n 0, lv (chs all), iv .i64 (all.length : Int), iv .i64 i] ((D n).new 0 [.int .i64 0, .sl none 0]) = some (if firF rs = 0 then .done [lv (chs all), pv n 0] ((D n).new 0 [.int .i64 0, .sl none 0]) else .ret (.agg [.int .i64 (firF rs), .sl none 0]) h1) ∧ n ≤ h1.n := by
    intro rs
    induction rs with
    | nil =>
      intro i hi
      have := drop_nil hi
      rw [eq_impl_InverseOf_l0, vcase_b, if_neg (by simp; omega), tidy_self]; exact ⟨D n, rfl, by simp⟩
    | cons r rs ih =>
      intro i hi
      obtain ⟨g1, g2, g3⟩ := drop_cons hi
      obtain ⟨h1, e1, n1⟩ := ih (i + 1) g2
      rw [eq_impl_InverseOf_l0, vcase_b, if_pos (by simp; omega), idxF_ch g1, rowN_ch]
      simp only [ob, gx0, gx1, gI_i, gS_s, gB_b, ln0, ln1, Nat.zero_add, Nat.reduceAdd, if_true]
      rw [stK_X (z := 10) (cs := r.cs) rfl rfl, loadN_X (o := 0) (r := r.cs) (by simp) rfl]
      simp only [ob, gx0, gx1, gI_i, gS_s, gB_b, ln0, ln1, Nat.zero_add, Nat.reduceAdd, if_true]
      rw [pc (p_singleFault r (hr r (List.mem_of_getElem? g1))) rfl]
      simp only [gV1_s, gI_i, vcase_b, bne_iff_ne, ne_eq]
      by_cases h0 : singF r = 0
      · have e : firF (r :: rs) = firF rs := by rw [firF, if_pos h0]
        rw [if_neg (by simp [h0]), putX_tidy (by
          simp only [List.all_cons, List.all_nil, Bool.and_true, Bool.and_eq_true]
          exact ⟨rfl, by simp [belV, belS], rfl, rfl, rfl⟩), w64 (by omega) (by omega), show (i : Int) + 1 = ((i + 1 : Nat) : Int) from by omega, e1, e]
        exact ⟨h1, rfl, n1⟩
      · have e : firF (r :: rs) = singF r := by rw [firF, if_neg h0]
        have gn : (putX ((D n).new 0 [.int .i64 0, .sl none 0]) zC r.cs).g n = .rw 0 [.int .i64 0, .sl none 0] := by
          rw [((putX_keep _ _ _).2 n (by simp)).1]; exact new_g (D n) _ _
        rw [if_pos h0, e, stK_rw (z := 2) (e := 0) (o := 0) (b := n) (cs := [.int .i64 0, .sl none 0]) (r := [.int .i64 (singF r), .sl none 0]) (by rw [putX_n]; simp; omega) gn (.inr rfl) rfl (by simp)]
        refine ⟨(putX ((D n).new 0 [.int .i64 0, .sl none 0]) zC r.cs).put n (.rw 0 [.int .i64 (singF r), .sl none 0]), ?_, by rw [put_n, putX_n]; simp; omega⟩
        simp only [ldT, cond_true]
        rw [show setAt [.int .i64 0, .sl none 0] 0 [.int .i64 (singF r), .sl none 0] = [.int .i64 (singF r), .sl none 0] from rfl, loadN_2 (b := n) (e := 0) (by rw [put_n, putX_n]; simp; omega) (put_g _ _ _), ob, if_neg h0]
  rw [eq_impl_InverseOf, vcase_b, chs_len]
  unfold ivL ivF
  by_cases h60 : 60 < all.length
  · obtain ⟨h', e, w⟩ := bad2D n 5 2
    rw [if_pos (by simp; omega), if_pos h60]
    exact ⟨_, h', e, w⟩
  rw [if_neg (by simp; omega), if_neg h60]
  obtain ⟨h1, e1, n1⟩ := loop all 0 rfl
  rw [D_n, show iv .i64 0 = iv .i64 ((0 : Nat) : Int) from rfl, e1, ob]
  by_cases h0 : firF all = 0
  · rw [if_pos h0, lcase_done, h0, if_pos rfl]
    simp only [gx0, gx1, ob, gV1_s, gF_f]
    obtain ⟨y, h2, e2, n2, w2⟩ := f_inverse hl (n + 1)
    obtain ⟨K, e3, u3, n3, w3⟩ := pV (h := (D n).new 0 [.int .i64 0, .sl none 0]) (off := true) (n := n + 1) (by simp) e2 n2 w2
    rw [e3, cells2 w2.no]
    obtain ⟨h4, e4, w4⟩ := fin2S (n := n) (K := K) (c := 0) (by omega) (by rw [u3.g n (by simp)]; exact new_g (D n) _ _) (w3.now.lift (k := 5) (by omega))
    exact ⟨y, h4, by rw [← e4]; rfl, w4⟩
  · rw [if_neg h0, lcase_ret, if_neg h0]
    exact ⟨_, h1, rfl, n1, [], RepL.cons (bs := []) (Rep.sc trivial) (RepL.cons (bs := []) Rep.nil .nil), by simp, by simp⟩
end Vm
