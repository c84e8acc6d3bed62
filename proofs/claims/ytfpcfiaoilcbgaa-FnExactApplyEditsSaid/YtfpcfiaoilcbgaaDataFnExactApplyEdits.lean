/-
  What both ways of the law come to, and that the law returns true.
-/
import Derived.Test.YtfpcfiaoilcbgaaEqs
import Derived.Test.YtfpcfiaoilcbgaaDl
import Derived.Test.YtfpcfiaoilcbgaaTyp
import Derived.Test.YtfpcfiaoilcbgaaDataFnExactApplyEdits1
set_option linter.unusedVariables false
set_option maxRecDepth 100000
set_option linter.unusedSimpArgs false
set_option linter.unusedSectionVars false
/-
  Slices of changes: their size, a copy, a comparison; marked.
-/
namespace Vm
open Go
def chs (rs : List ChgD) : List (List S) := rs.map ChgD.cs
@[simp] theorem chs_len (rs : List ChgD) : (chs rs).length = rs.length := by simp [chs]
theorem chs_row {rs : List ChgD} : ∀ r ∈ chs rs, r.length = 10 := by
  intro r hr
  obtain ⟨c, _, rfl⟩ := List.mem_map.1 hr
  rfl
theorem chg_sc {c : ChgD} : ∀ s ∈ c.cs, Sc s := by
  intro s hs
  simp only [List.mem_cons, List.not_mem_nil, or_false] at hs
  rcases hs with rfl | rfl | rfl | rfl | rfl | rfl | rfl | rfl | rfl | rfl <;> trivial
theorem chs_sc {rs : List ChgD} : ∀ r ∈ chs rs, ∀ s ∈ r, Sc s := by
  intro r hr
  obtain ⟨c, _, rfl⟩ := List.mem_map.1 hr
  exact chg_sc
theorem chs_get {rs : List ChgD} {i : Nat} {r : ChgD} (h : rs[i]? = some r) : (chs rs)[i]? = some r.cs := by simp [chs, h]
theorem chs_snoc (rs : List ChgD) (r : ChgD) : chs (rs ++ [r]) = chs rs ++ [r.cs] := by simp [chs]
section
variable {R : Type}
theorem idxF_ch {rs : List ChgD} {i : Nat} {r : ChgD} {k : List S → Option R} (h : rs[i]? = some r) : idxF 10 (chs rs) (i : Int) k = k r.cs := idxF_at (chs_get h) rfl
end
theorem rowN_ch {r : ChgD} : rowN 10 r.cs 0 = some r.cs := rowN_all rfl
theorem normV_ch {r : ChgD} : normV 10 (fv r.cs 0) = fv r.cs 0 := rfl
theorem rows_Change {m : Nat} : ∀ rows : List (List S), (∀ r ∈ rows, r.length = PR.cellsOf T.laws_Change ∧ Rp PR m T.laws_Change r) → ∃ rs : List ChgD, rows = chs rs ∧ ∀ r ∈ rs, r.ok
  | [], _ => ⟨[], rfl, by simp⟩
  | r :: rows, hr => by
    obtain ⟨rs, h1, h2⟩ := rows_Change rows fun r hm => hr r (by simp [hm])
    obtain ⟨a, h3, h4⟩ := rp_Change (hr r (by simp)).2
    refine ⟨a :: rs, by rw [h1, h3]; rfl, fun x hx => ?_⟩
    rcases List.mem_cons.1 hx with rfl | hx
    · exact h4
    · exact h2 x hx
theorem arg_Changes {x : V} (hr : ArgRp PR T.S_laws_Change x) : ∃ rs : List ChgD, x = lv (chs rs) ∧ (∀ r ∈ rs, r.ok) ∧ rs.length ≤ maxLen := by
  obtain ⟨s, n, rfl, h1⟩ := hr.slice und_S_laws_Change
  obtain ⟨m, rows, h1, h2, h3⟩ := h1.slice und_S_laws_Change
  cases h1
  obtain ⟨rs, rfl, h4⟩ := rows_Change rows h3
  exact ⟨rs, rfl, h4, by simpa using h2⟩
/-! size -/
def szChgs : List ChgD → Int → Int
  | [], left => left
  | r :: rs, left => if 0 ≤ szChg r left then szChgs rs (szChg r left) else -1
theorem szChg_le {c : ChgD} {left : Int} (h : 0 ≤ left) : szChg c left ≤ left ∧ -1 ≤ szChg c left := by
  unfold szChg
  split
  · split <;> omega
  · omega
theorem szChgs_le : ∀ (rs : List ChgD) (left : Int), 0 ≤ left → szChgs rs left ≤ left ∧ -1 ≤ szChgs rs left
  | [], left, h => ⟨Int.le_refl _, by simp only [szChgs]; omega⟩
  | r :: rs, left, h => by
    have h1 := szChg_le (c := r) h
    simp only [szChgs]
    split
    · rename_i h2
      have := szChgs_le rs (szChg r left) h2; omega
    · omega
theorem p_szChangeS {all : List ChgD} {left : Int} (h1 : 0 ≤ left) (h2 : left < 9223372036854775808) (hl : all.length ≤ maxLen) (hr : ∀ r ∈ all, r.ok) : pureV (call Ev) Fn.laws_szChangeS [lv (chs all), iv .i64 left] = some (iv .i64 (if (all.length : Int) ≤ left then szChgs all (left - all.length) else -1)) := by
  unfold maxLen at hl
  have loop : ∀ (rs : List ChgD) (i : Nat) (q : Int), all.drop i = rs → 0 ≤ q → q < 9223372036854775808 →
      (Lp.laws_szChangeS 0 [lv (chs all), iv .i64 q, iv .i64 i] (D 0)).bind (fun o102 => lcase o102 (fun l103 h104 =>
        (l103[0]?).bind fun w107 =>
        gV1 w107 fun x108 =>
        gI .i64 x108 fun i109 =>
        some (iv .i64 i109)) (fun v105 h106 =>
        frzV h106 v105)) = some (iv .i64 (szChgs rs q)) := by
    intro rs
    induction rs with
    | nil =>
      intro i q hi h1 h2
      have := drop_nil hi
      rw [eq_laws_szChangeS_l0, vcase_b, if_neg (by simp; omega), tidy_self, ob, lcase_done]
      simp only [gx0, ob, gV1_s, gI_i, szChgs]
    | cons r rs ih =>
      intro i q hi h1 h2
      obtain ⟨g1, g2, g3⟩ := drop_cons hi
      have hle := szChg_le (c := r) h1
      rw [eq_laws_szChangeS_l0, vcase_b, if_pos (by simp; omega), idxF_ch g1, rowN_ch]
      simp only [ob, gx0, gx1, gI_i, gS_s, gB_b, gVA_a, ln0, ln1, Nat.zero_add, Nat.reduceAdd, if_true]
      rw [pc (p_szChange r h1 h2 (hr r (List.mem_of_getElem? g1))) rfl]
      simp only [gV1_s, gI_i, vcase_b, decide_eq_true_eq, szChgs]
      by_cases hle : 0 ≤ szChg r q
      · rw [if_neg (by omega), w64 (by omega) (by omega), tidy_self, show (i : Int) + 1 = ((i + 1 : Nat) : Int) from by omega, if_pos hle]
        exact ih (i + 1) _ g2 (by omega) (by omega)
      · rw [if_pos (by omega), if_neg hle]; rfl
  rw [pu_laws_szChangeS, vcase_b, chs_len, w64 (by omega) (by omega)]
  by_cases hq : (all.length : Int) ≤ left
  · rw [if_neg (by simp; omega), if_pos hq]
    exact loop all 0 _ rfl (by omega) (by omega)
  · rw [if_pos (by simp; omega), if_neg hq]
/-! a copy -/
theorem f_toChangeSv {all : List ChgD} (hl : all.length ≤ lim) (n : Nat) : ∃ v h', call Ev Fn.laws_toChangeS [lv (chs all)] (D n) = some (v, h') ∧ (n ≤ h'.n ∧ OwnV v (.fs (chs all)) n h'.n h') := by
  have hl' := hl
  unfold lim at hl'
  rw [eq_laws_toChangeS, chs_len, mkSl_of (z := 10) (zero := [.bool false, .int .i64 0, .int .i64 0, .int .i64 0, .str ⟨#[]⟩, .bool false, .int .i64 0, .int .i64 0, .int .i64 0, .str ⟨#[]⟩]) hl (by omega) rfl, ob]
  obtain ⟨h', e1, e2, e3, _⟩ := fill_rows (z := 10) (n := all.length) (b := n) (rows := chs all) (L := fun i h => Lp.laws_toChangeS 0 [lv (chs all), sv n 0 all.length, iv .i64 i] h) (fin := [sv n 0 all.length]) (by simp) chs_row
    (fun i h r hr' hi hb => by
      obtain ⟨a, ha⟩ : ∃ a, all[i]? = some a := ⟨_, List.getElem?_eq_getElem hi⟩
      rw [chs_get ha] at hr'; cases hr'
      refine ⟨.agg a.cs, [lv (chs all), sv n 0 all.length, iv .i64 ((i + 1 : Nat) : Int)], .inr rfl, ?_⟩
      show Lp.laws_toChangeS 0 _ h = _
      rw [eq_laws_toChangeS_l0, vcase_b, if_pos (by simp; omega), idxF_ch ha, rowN_ch]
      simp only [ob, gx0, gx1, gI_i, gS_s, gB_b, gVA_a, ln0, ln1, Nat.zero_add, Nat.reduceAdd, if_true]
      rw [pc (p_toChange a) (by simp)]
      simp only [ob, gx0, gx1, gI_i, gS_s, gB_b, gVA_a, ln0, ln1, Nat.zero_add, Nat.reduceAdd, if_true]
      rw [idxK_sv hi, w64 (by omega) (by omega), show (i : Int) + 1 = ((i + 1 : Nat) : Int) from by omega])
    (fun h => by
      show Lp.laws_toChangeS 0 _ h = _
      rw [eq_laws_toChangeS_l0, vcase_b, if_neg (by simp), tidy_self])
    ((D n).new 10 ((List.replicate all.length [.bool false, .int .i64 0, .int .i64 0, .int .i64 0, .str ⟨#[]⟩, .bool false, .int .i64 0, .int .i64 0, .int .i64 0, .str ⟨#[]⟩]).flatten)) _ (by simp) (by exact new_g (D n) _ _) (repl_len rfl)
  rw [D_n, e1]
  simp only [ob, lcase_done, gx0]
  have hn : h'.n = n + 1 := by rw [e2]; simp
  have := own_flat (h := h') (n := n) (z := 10) (rows := chs all) (by omega) (by omega) e3 chs_row chs_sc
  rw [chs_len] at this
  exact ⟨_, _, rfl, by omega, this⟩
theorem p_toChangeS {all : List ChgD} (hl : all.length ≤ lim) : pureV (call Ev) Fn.laws_toChangeS [lv (chs all)] = some (lv (chs all)) := by
  obtain ⟨v, h', e, _, w⟩ := f_toChangeSv hl 0
  unfold pureV
  rw [e, ob, w.frz]
/-! a comparison -/
theorem p_eqChange (r : ChgD) : pureV (call Ev) Fn.laws_eqChange [.agg r.cs, .agg r.cs] = some (bv true) := by
  rw [pu_laws_eqChange, vcase_b, if_neg (by simp), pc (p_eqRow r.b) rfl]
  simp only [gV1_s, gB_b, vcase_b]
  rw [if_neg (by simp), if_neg (by simp), pc (p_eqRow r.a) rfl]
  simp
theorem p_eqChangeS {all : List ChgD} (hl : all.length ≤ maxLen) : pureV (call Ev) Fn.laws_eqChangeS [lv (chs all), lv (chs all)] = some (bv true) := by
  unfold maxLen at hl
  have loop : ∀ (rs : List ChgD) (i : Nat), all.drop i = rs → Lp.laws_eqChangeS 0 [lv (chs all), lv (chs all), iv .i64 i] (D 0) = some (.done [] (D 0)) := by
    intro rs
    induction rs with
    | nil =>
      intro i hi
      have := drop_nil hi
      rw [eq_laws_eqChangeS_l0, vcase_b, if_neg (by simp; omega), tidy_self]
    | cons r rs ih =>
      intro i hi
      obtain ⟨g1, g2, g3⟩ := drop_cons hi
      rw [eq_laws_eqChangeS_l0, vcase_b, if_pos (by simp; omega), idxF_ch g1, rowN_ch]
      simp only [ob, gx0, gx1, gI_i, gS_s, gB_b, gVA_a, ln0, ln1, Nat.zero_add, Nat.reduceAdd, if_true]
      rw [idxF_ch g1, rowN_ch]
      simp only [ob, gx0, gx1, gI_i, gS_s, gB_b, gVA_a, ln0, ln1, Nat.zero_add, Nat.reduceAdd, if_true]
      rw [pc (p_eqChange r) rfl]
      simp only [gV1_s, gB_b, hchk_self, vcase_b]
      rw [if_neg (by simp), tidy_self, w64 (by omega) (by omega), show (i : Int) + 1 = ((i + 1 : Nat) : Int) from by omega]
      exact ih (i + 1) g2
  rw [pu_laws_eqChangeS, vcase_b, if_neg (by simp), show iv .i64 0 = iv .i64 ((0 : Nat) : Int) from rfl, loop all 0 rfl]
  simp
/-! marks -/
noncomputable def mkG (k : Nat) (_ : ChgD) : ChgD := ⟨((k : Nat) : Int).tmod 3 == 0, ⟨(k + 1 : Nat), (k + 2 : Nat), (k + 3 : Nat), mtx (k + 4)⟩, ((k + 5 : Nat) : Int).tmod 3 == 0, ⟨(k + 6 : Nat), (k + 7 : Nat), (k + 8 : Nat), mtx (k + 9)⟩⟩
def szG (_ : ChgD) : Nat := 10
noncomputable def mkGs (k : Nat) (rs : List ChgD) : List ChgD := mkAll mkG szG k rs
theorem szG_all : ∀ rs : List ChgD, szAll szG rs = 10 * rs.length
  | [] => rfl
  | r :: rs => by simp only [szAll, szG, szG_all rs, List.length_cons]; omega
theorem mkGs_len (k : Nat) (rs : List ChgD) : (mkGs k rs).length = rs.length := mkAll_len _ _ _ _
theorem b_rem3 (k : Nat) : bin Ev .rem 3 (iv .i64 (k : Int)) (iv .i64 3) = some (iv .i64 ((k : Int).tmod 3)) := by simp [bin, binI]
theorem Rep.markGs {h : H} {d : Nat} {y : S} {rs : List ChgD} {bs : List Nat} {k : Nat} (w : Rep h (d + 1) y (.fs (chs rs)) bs) (hd : bs.Nodup) (hk : k + 10 * rs.length < 2 ^ 62) :
    ∃ h', call Ev Fn.laws_markChangeS [.s y, iv .i64 k] h = some (iv .i64 ((k + 10 * rs.length : Nat) : Int), h') ∧ Rep h' (d + 1) y (.fs (chs (mkGs k rs))) bs ∧ h'.n = h.n ∧ ∀ c, c ∉ bs → h'.g c = h.g c ∧ h'.v c = h.v c := by
  have hsz := szG_all rs
  obtain ⟨h', e1, r1, n1, o1⟩ := Rep.marks (z := 10) (cs := ChgD.cs) (mk := mkG) (sz := szG) (k := k) (Lv := fun v k i h => Lp.laws_markChangeS 0 [v, iv .i64 k, iv .i64 i] h) (fin := fun k => [iv .i64 k]) (by omega) (fun _ => rfl) w hd (by omega)
    (fun b i k r h pre ys post bs hi hp hy hk hb hg wr hnd hnb => by
      obtain ⟨rfl, rfl⟩ := wr.of_sc chg_sc
      have hk' : k + 10 < 2 ^ 62 := hk
      show ∃ h' ys', Lp.laws_markChangeS 0 _ h = _ ∧ _
      rw [eq_laws_markChangeS_l0]
      simp only [lenV, Option.bind_some, gV1_s, gI_i, vcase_b]
      rw [if_pos (by simp; omega)]
      simp only [idxK_sv hi, padd, ob]
      rw [w64 (n := (i : Int) + 1) (by omega) (by omega), w64 (n := (k : Int) + 1) (by omega) (by omega), w64 (n := (k : Int) + 1 + 1) (by omega) (by omega), w64 (n := (k : Int) + 1 + 1 + 1) (by omega) (by omega), w64 (n := (k : Int) + 1 + 1 + 1 + 1) (by omega) (by omega), w64 (n := (k : Int) + 1 + 1 + 1 + 1 + 1) (by omega) (by omega), w64 (n := (k : Int) + 1 + 1 + 1 + 1 + 1 + 1) (by omega) (by omega), w64 (n := (k : Int) + 1 + 1 + 1 + 1 + 1 + 1 + 1) (by omega) (by omega), w64 (n := (k : Int) + 1 + 1 + 1 + 1 + 1 + 1 + 1 + 1) (by omega) (by omega), w64 (n := (k : Int) + 1 + 1 + 1 + 1 + 1 + 1 + 1 + 1 + 1) (by omega) (by omega), w64 (n := (k : Int) + 1 + 1 + 1 + 1 + 1 + 1 + 1 + 1 + 1 + 1) (by omega) (by omega)]
      rw [show (i : Int) + 1 = ((i + 1 : Nat) : Int) from by omega, show (k : Int) + 1 + 1 + 1 + 1 + 1 + 1 + 1 + 1 + 1 + 1 = ((k + 10 : Nat) : Int) from by omega, show (k : Int) + 1 + 1 + 1 + 1 + 1 + 1 + 1 + 1 + 1 = ((k + 9 : Nat) : Int) from by omega, show (k : Int) + 1 + 1 + 1 + 1 + 1 + 1 + 1 + 1 = ((k + 8 : Nat) : Int) from by omega, show (k : Int) + 1 + 1 + 1 + 1 + 1 + 1 + 1 = ((k + 7 : Nat) : Int) from by omega, show (k : Int) + 1 + 1 + 1 + 1 + 1 + 1 = ((k + 6 : Nat) : Int) from by omega, show (k : Int) + 1 + 1 + 1 + 1 + 1 = ((k + 5 : Nat) : Int) from by omega, show (k : Int) + 1 + 1 + 1 + 1 = ((k + 4 : Nat) : Int) from by omega, show (k : Int) + 1 + 1 + 1 = ((k + 3 : Nat) : Int) from by omega, show (k : Int) + 1 + 1 = ((k + 2 : Nat) : Int) from by omega, show (k : Int) + 1 = ((k + 1 : Nat) : Int) from by omega]
      simp only [b_rem3, ob, gV1_s, gI_i]
      simp only [Nat.add_assoc, Nat.reduceAdd]
      rw [st_cell (j := 0) hb hg hp (by simp) rfl]
      rw [st_cell (j := 1) (by simp only [put_n]; exact hb) (put_g _ _ _) hp (by simp) rfl]
      rw [st_cell (j := 2) (by simp only [put_n]; exact hb) (put_g _ _ _) hp (by simp) rfl]
      rw [st_cell (j := 3) (by simp only [put_n]; exact hb) (put_g _ _ _) hp (by simp) rfl]
      rw [pc (p_markText (k := k + 4) (by omega)) rfl]
      simp only [gV1_s, gS_s]
      rw [st_cell (j := 4) (by simp only [put_n]; exact hb) (put_g _ _ _) hp (by simp) rfl]
      rw [st_cell (j := 5) (by simp only [put_n]; exact hb) (put_g _ _ _) hp (by simp) rfl]
      rw [st_cell (j := 6) (by simp only [put_n]; exact hb) (put_g _ _ _) hp (by simp) rfl]
      rw [st_cell (j := 7) (by simp only [put_n]; exact hb) (put_g _ _ _) hp (by simp) rfl]
      rw [st_cell (j := 8) (by simp only [put_n]; exact hb) (put_g _ _ _) hp (by simp) rfl]
      rw [pc (p_markText (k := k + 9) (by omega)) rfl]
      simp only [gV1_s, gS_s]
      rw [st_cell (j := 9) (by simp only [put_n]; exact hb) (put_g _ _ _) hp (by simp) rfl]
      simp only [List.set_cons_zero, List.set_cons_succ]
      generalize hF : ((((((((((h.put b (.rw 10 (pre ++ [.bool (((k : Nat) : Int).tmod 3 == 0), .int .i64 r.b.tab, .int .i64 r.b.key, .int .i64 r.b.val, .str r.b.text, .bool r.is, .int .i64 r.a.tab, .int .i64 r.a.key, .int .i64 r.a.val, .str r.a.text] ++ post))).put b (.rw 10 (pre ++ [.bool (((k : Nat) : Int).tmod 3 == 0), .int .i64 ((k + 1 : Nat) : Int), .int .i64 r.b.key, .int .i64 r.b.val, .str r.b.text, .bool r.is, .int .i64 r.a.tab, .int .i64 r.a.key, .int .i64 r.a.val, .str r.a.text] ++ post))).put b (.rw 10 (pre ++ [.bool (((k : Nat) : Int).tmod 3 == 0), .int .i64 ((k + 1 : Nat) : Int), .int .i64 ((k + 2 : Nat) : Int), .int .i64 r.b.val, .str r.b.text, .bool r.is, .int .i64 r.a.tab, .int .i64 r.a.key, .int .i64 r.a.val, .str r.a.text] ++ post))).put b (.rw 10 (pre ++ [.bool (((k : Nat) : Int).tmod 3 == 0), .int .i64 ((k + 1 : Nat) : Int), .int .i64 ((k + 2 : Nat) : Int), .int .i64 ((k + 3 : Nat) : Int), .str r.b.text, .bool r.is, .int .i64 r.a.tab, .int .i64 r.a.key, .int .i64 r.a.val, .str r.a.text] ++ post))).put b (.rw 10 (pre ++ [.bool (((k : Nat) : Int).tmod 3 == 0), .int .i64 ((k + 1 : Nat) : Int), .int .i64 ((k + 2 : Nat) : Int), .int .i64 ((k + 3 : Nat) : Int), .str (mtx (k + 4)), .bool r.is, .int .i64 r.a.tab, .int .i64 r.a.key, .int .i64 r.a.val, .str r.a.text] ++ post))).put b (.rw 10 (pre ++ [.bool (((k : Nat) : Int).tmod 3 == 0), .int .i64 ((k + 1 : Nat) : Int), .int .i64 ((k + 2 : Nat) : Int), .int .i64 ((k + 3 : Nat) : Int), .str (mtx (k + 4)), .bool (((k + 5 : Nat) : Int).tmod 3 == 0), .int .i64 r.a.tab, .int .i64 r.a.key, .int .i64 r.a.val, .str r.a.text] ++ post))).put b (.rw 10 (pre ++ [.bool (((k : Nat) : Int).tmod 3 == 0), .int .i64 ((k + 1 : Nat) : Int), .int .i64 ((k + 2 : Nat) : Int), .int .i64 ((k + 3 : Nat) : Int), .str (mtx (k + 4)), .bool (((k + 5 : Nat) : Int).tmod 3 == 0), .int .i64 ((k + 6 : Nat) : Int), .int .i64 r.a.key, .int .i64 r.a.val, .str r.a.text] ++ post))).put b (.rw 10 (pre ++ [.bool (((k : Nat) : Int).tmod 3 == 0), .int .i64 ((k + 1 : Nat) : Int), .int .i64 ((k + 2 : Nat) : Int), .int .i64 ((k + 3 : Nat) : Int), .str (mtx (k + 4)), .bool (((k + 5 : Nat) : Int).tmod 3 == 0), .int .i64 ((k + 6 : Nat) : Int), .int .i64 ((k + 7 : Nat) : Int), .int .i64 r.a.val, .str r.a.text] ++ post))).put b (.rw 10 (pre ++ [.bool (((k : Nat) : Int).tmod 3 == 0), .int .i64 ((k + 1 : Nat) : Int), .int .i64 ((k + 2 : Nat) : Int), .int .i64 ((k + 3 : Nat) : Int), .str (mtx (k + 4)), .bool (((k + 5 : Nat) : Int).tmod 3 == 0), .int .i64 ((k + 6 : Nat) : Int), .int .i64 ((k + 7 : Nat) : Int), .int .i64 ((k + 8 : Nat) : Int), .str r.a.text] ++ post))).put b (.rw 10 (pre ++ [.bool (((k : Nat) : Int).tmod 3 == 0), .int .i64 ((k + 1 : Nat) : Int), .int .i64 ((k + 2 : Nat) : Int), .int .i64 ((k + 3 : Nat) : Int), .str (mtx (k + 4)), .bool (((k + 5 : Nat) : Int).tmod 3 == 0), .int .i64 ((k + 6 : Nat) : Int), .int .i64 ((k + 7 : Nat) : Int), .int .i64 ((k + 8 : Nat) : Int), .str (mtx (k + 9))] ++ post))) = F
      have fn : F.n = h.n := by rw [← hF]; rfl
      have fg : F.g b = .rw 10 (pre ++ [.bool (((k : Nat) : Int).tmod 3 == 0), .int .i64 ((k + 1 : Nat) : Int), .int .i64 ((k + 2 : Nat) : Int), .int .i64 ((k + 3 : Nat) : Int), .str (mtx (k + 4)), .bool (((k + 5 : Nat) : Int).tmod 3 == 0), .int .i64 ((k + 6 : Nat) : Int), .int .i64 ((k + 7 : Nat) : Int), .int .i64 ((k + 8 : Nat) : Int), .str (mtx (k + 9))] ++ post) := by rw [← hF]; exact put_g _ _ _
      have fo : ∀ c, c ≠ b → F.g c = h.g c ∧ F.v c = h.v c := fun c hc => by
        rw [← hF]; simp only [H.put, if_neg hc]; exact ⟨trivial, trivial⟩
      rw [tidy_same fn fun c hc => fo c (by omega)]
      refine ⟨F, _, rfl, fn, rfl, fg, RepL.sc (chg_sc (c := mkG k r)), fun c hc _ => fo c hc⟩)
    (fun o k h => by
      show Lp.laws_markChangeS 0 _ h = _
      rw [eq_laws_markChangeS_l0]
      simp only [lenV, Option.bind_some, gV1_s, gI_i, vcase_b]
      rw [if_neg (by simp), tidy_self])
  rw [hsz] at e1
  refine ⟨h', ?_, r1, n1, o1⟩
  rw [eq_laws_markChangeS, show iv .i64 0 = iv .i64 ((0 : Nat) : Int) from rfl, e1, ob, lcase_done]
  simp only [gx0, ob, gV1_s, gI_i]
theorem p_heldGs {k : Nat} {rs : List ChgD} (hk : k + 10 * rs.length < 2 ^ 62) : pureV (call Ev) Fn.laws_heldChangeS [lv (chs (mkGs k rs)), iv .i64 k] = some (iv .i64 ((k + 10 * rs.length : Nat) : Int)) := by
  have loop : ∀ (q : List ChgD) (i k' : Nat), (mkGs k rs).drop i = mkGs k' q → k' + 10 * q.length = k + 10 * rs.length → i + q.length = rs.length →
      Lp.laws_heldChangeS 0 [lv (chs (mkGs k rs)), iv .i64 k', iv .i64 i] (D 0) = some (.done [iv .i64 ((k + 10 * rs.length : Nat) : Int)] (D 0)) := by
    intro q
    induction q with
    | nil =>
      intro i k' hd hs hi
      simp only [List.length_nil] at hi hs
      rw [eq_laws_heldChangeS_l0, vcase_b, chs_len, mkGs_len, if_neg (by simp; omega), tidy_self, ← hs]
      rfl
    | cons r q ih =>
      intro i k' hd hs hi
      simp only [List.length_cons] at hi hs
      have hd' : (mkGs k rs).drop i = mkG k' r :: mkGs (k' + 10) q := hd
      obtain ⟨g1, g2, g3⟩ := drop_cons hd'
      rw [eq_laws_heldChangeS_l0, vcase_b, chs_len, mkGs_len, if_pos (by simp; omega)]
      rw [w64 (n := (i : Int) + 1) (by omega) (by omega), w64 (n := (k' : Int) + 1) (by omega) (by omega), w64 (n := (k' : Int) + 1 + 1) (by omega) (by omega), w64 (n := (k' : Int) + 1 + 1 + 1) (by omega) (by omega), w64 (n := (k' : Int) + 1 + 1 + 1 + 1) (by omega) (by omega), w64 (n := (k' : Int) + 1 + 1 + 1 + 1 + 1) (by omega) (by omega), w64 (n := (k' : Int) + 1 + 1 + 1 + 1 + 1 + 1) (by omega) (by omega), w64 (n := (k' : Int) + 1 + 1 + 1 + 1 + 1 + 1 + 1) (by omega) (by omega), w64 (n := (k' : Int) + 1 + 1 + 1 + 1 + 1 + 1 + 1 + 1) (by omega) (by omega), w64 (n := (k' : Int) + 1 + 1 + 1 + 1 + 1 + 1 + 1 + 1 + 1) (by omega) (by omega), w64 (n := (k' : Int) + 1 + 1 + 1 + 1 + 1 + 1 + 1 + 1 + 1 + 1) (by omega) (by omega)]
      rw [show (i : Int) + 1 = ((i + 1 : Nat) : Int) from by omega, show (k' : Int) + 1 + 1 + 1 + 1 + 1 + 1 + 1 + 1 + 1 + 1 = ((k' + 10 : Nat) : Int) from by omega, show (k' : Int) + 1 + 1 + 1 + 1 + 1 + 1 + 1 + 1 + 1 = ((k' + 9 : Nat) : Int) from by omega, show (k' : Int) + 1 + 1 + 1 + 1 + 1 + 1 + 1 + 1 = ((k' + 8 : Nat) : Int) from by omega, show (k' : Int) + 1 + 1 + 1 + 1 + 1 + 1 + 1 = ((k' + 7 : Nat) : Int) from by omega, show (k' : Int) + 1 + 1 + 1 + 1 + 1 + 1 = ((k' + 6 : Nat) : Int) from by omega, show (k' : Int) + 1 + 1 + 1 + 1 + 1 = ((k' + 5 : Nat) : Int) from by omega, show (k' : Int) + 1 + 1 + 1 + 1 = ((k' + 4 : Nat) : Int) from by omega, show (k' : Int) + 1 + 1 + 1 = ((k' + 3 : Nat) : Int) from by omega, show (k' : Int) + 1 + 1 = ((k' + 2 : Nat) : Int) from by omega, show (k' : Int) + 1 = ((k' + 1 : Nat) : Int) from by omega]
      simp only [idxF_ch g1, b_rem3, ob, gx0, gx1, gI_i, gV1_s, gS_s, gB_b, hchk_self, tidy_self, mkG]
      rw [pc (p_markText (k := k' + 4) (by omega)) rfl]
      simp only [gV1_s, gS_s]
      rw [pc (p_markText (k := k' + 9) (by omega)) rfl]
      simp only [gV1_s, gS_s, vcase_b, bne_self_eq_false, Bool.false_eq_true, if_false, beq_self_eq_true, Bool.not_true]
      exact ih (i + 1) (k' + 10) g2 (by omega) (by omega)
  rw [pu_laws_heldChangeS, show iv .i64 0 = iv .i64 ((0 : Nat) : Int) from rfl, loop rs 0 k rfl rfl (by omega), ob, lcase_done]
  simp only [gx0, ob, gV1_s, gI_i]
theorem OwnV.markG {h : H} {v : V} {rs : List ChgD} {lo hi k : Nat} (w : Sep (OwnV v (.fs (chs rs)) lo hi) lo hi h) (hl : k + 10 * rs.length < 2 ^ 62) :
    ∃ p, call Ev Fn.laws_markChangeS [v, iv .i64 k] h = some (iv .i64 ((k + 10 * rs.length : Nat) : Int), p) ∧ Sep (OwnV v (.fs (chs (mkGs k rs))) lo hi) lo hi (tidy h [iv .i64 ((k + 10 * rs.length : Nat) : Int)] p) ∧ ButR lo hi h (tidy h [iv .i64 ((k + 10 * rs.length : Nat) : Int)] p) := by
  obtain ⟨y, rfl, bs, w1, w2, w3⟩ := w.now
  obtain ⟨p, e1, r1, n1, o1⟩ := w1.markGs (k := k) w2 hl
  have ht := w.top
  have t : tidy h [iv .i64 ((k + 10 * rs.length : Nat) : Int)] p = p := tidy_same n1 fun c hc => o1 c (fun hh => by have := w3 c hh; omega)
  refine ⟨p, e1, ?_, ?_⟩
  · rw [t]; exact OwnV.sep ⟨y, rfl, bs, r1, w2, w3⟩ (by rw [n1]; exact ht)
  · rw [t]; exact ⟨n1, fun c hc => (o1 c fun hh => by have := w3 c hh; omega).1⟩
/-! results of changes -/
theorem p_eqGR {c : Int} {rs : List ChgD} (hl : rs.length ≤ maxLen) : pureV (call Ev) Fn.laws_eqChangesResult [.agg [.int .i64 c, .fs (chs rs)], .agg [.int .i64 c, .fs (chs rs)]] = some (bv true) := by
  rw [pu_laws_eqChangesResult, vcase_b, if_neg (by simp), pc (p_eqChangeS hl) rfl]
  simp
theorem p_heldGR {c : Int} {k : Nat} {rs : List ChgD} (hk : k + 10 * rs.length < 2 ^ 62) : pureV (call Ev) Fn.laws_heldChangesResult [.agg [.int .i64 c, .fs (chs (mkGs k rs))], iv .i64 k] = some (iv .i64 ((k + 10 * rs.length : Nat) : Int)) := by
  rw [pu_laws_heldChangesResult, pc (p_heldGs hk) rfl]
  simp only [gV1_s, gI_i, vcase_b]
  rw [if_neg (by simp; omega)]
theorem r_markGR {h : H} {c : Int} {y : S} {rs : List ChgD} {lo hi k : Nat} (w : Sep (OwnC 5 [.int .i64 c, y] [.int .i64 c, .fs (chs rs)] lo hi) lo hi h) (hl : k + 10 * rs.length < 2 ^ 62) :
    ∃ p, call Ev Fn.laws_markChangesResult [.agg [.int .i64 c, y], iv .i64 k] h = some (iv .i64 ((k + 10 * rs.length : Nat) : Int), p) ∧ Sep (OwnC 5 [.int .i64 c, y] [.int .i64 c, .fs (chs (mkGs k rs))] lo hi) lo hi (tidy h [iv .i64 ((k + 10 * rs.length : Nat) : Int)] p) ∧ ButR lo hi h (tidy h [iv .i64 ((k + 10 * rs.length : Nat) : Int)] p) := by
  obtain ⟨bs, w1, w2, w3⟩ := OwnC.f (pre := [.int .i64 c]) sc1 w.now
  have ht := w.top
  rw [eq_laws_markChangesResult]
  have l1 : load1 (h.new 0 [.int .i64 c, y]) (pv h.n 1) = some y := by simp [load1, H.cells, Blk.cells]
  rw [l1, Vm.ob]
  have w1' : Rep (h.new 0 [.int .i64 c, y]) 5 y (.fs (chs rs)) bs := w1.frame fun b hb => ⟨by have := w1.lt b hb; simp; omega, new_g' (by have := w1.lt b hb; omega)⟩
  obtain ⟨p, e1, r1, n1, o1⟩ := w1'.markGs (k := k) w2 hl
  rw [e1, Vm.ob]
  simp only [gV1_s, gI_i]
  have t1 : tidy (h.new 0 [.int .i64 c, y]) [iv .i64 ((k + 10 * rs.length : Nat) : Int)] p = p := tidy_same n1 fun d hd => o1 d fun hh => by have := w3 d hh; simp at hd; omega
  rw [t1]
  exact ⟨p, rfl, markC (pre := [.int .i64 c]) sc1 w3 w2 ht r1 (by rw [n1]; simp) (fun d hd hdn => by
    have := o1 d hd
    refine ⟨this.1.trans (new_g' (by omega)), this.2.trans ?_⟩
    simp [H.new, show d ≠ h.n by omega]) (fun hh => by rw [n1] at hh; simp at hh)⟩
end Vm
/-
  Cells that lie in a new block.
-/
namespace Vm
open Go
theorem setAt_full {cs r : List S} (h : cs.length ≤ r.length) : setAt cs 0 r = r := by simp [setAt, List.drop_of_length_le h]
/-! cells that lie in a new block -/
def putX (h : H) (zs cs : List S) : H := (h.new 0 zs).put h.n (.rw 0 cs)
theorem putX_keep (h : H) (zs cs : List S) : HKeep h (putX h zs cs) := ((HKeep.refl h).new).put (Nat.le_refl _)
theorem putX_n (h : H) (zs cs : List S) : (putX h zs cs).n = h.n + 1 := rfl
theorem putX_g (h : H) (zs cs : List S) : (putX h zs cs).g h.n = .rw 0 cs := put_g _ _ _
theorem putX_cells (h : H) (zs cs : List S) : (putX h zs cs).cells h.n = cs := by
  unfold H.cells; rw [if_pos (by rw [putX_n]; omega), putX_g]; rfl
theorem putX_tidy {h : H} {zs cs : List S} {l : List V} (hl : l.all (belV h.n) = true) : tidy h l (putX h zs cs) = h := tidy_ext (putX_keep h zs cs) hl
section
variable {R : Type}
theorem stK_X {z : Nat} {h : H} {zs cs : List S} {k : H → Option R} (hz : zs.length = z) (hc : cs.length = z) : stK z (h.new 0 zs) (pv h.n 0) (.agg cs) k = k (putX h zs cs) := by
  rw [stK_rw (z := z) (o := 0) (b := h.n) (r := cs) (e := 0) (cs := zs) (by simp) (new_g h _ _) (.inr rfl) hc (by omega), setAt_full (by omega)]
  rfl
end
theorem loadN_X {h : H} {zs cs : List S} {n o : Nat} {r : List S} (hn : o + n ≤ cs.length) (hr : (cs.drop o).take n = r) : loadN n (putX h zs cs) (pv h.n o) = some r := by
  have := putX_cells h zs cs
  have h2 : h.n < (putX h zs cs).n := by rw [putX_n]; omega
  simp only [loadN]
  rw [if_pos ⟨h2, by rw [this]; exact hn⟩, this, hr]
theorem load1_X {h : H} {zs cs : List S} {o : Nat} {x : S} (hx : cs[o]? = some x) : load1 (putX h zs cs) (pv h.n o) = some x := by
  simp only [load1]; rw [putX_cells, hx]
theorem loadN_XX {h : H} {zs zs' cs cs' r : List S} {n : Nat} (hn : n ≤ cs.length) (hr : cs.take n = r) : loadN n (putX (putX h zs cs) zs' cs') (pv h.n 0) = some r := by
  have h1 : h.n < (putX h zs cs).n := by rw [putX_n]; omega
  have h2 : h.n < (putX (putX h zs cs) zs' cs').n := by rw [putX_n]; omega
  have hc : (putX (putX h zs cs) zs' cs').cells h.n = cs := by
    unfold H.cells; rw [if_pos h2, ((putX_keep _ _ _).2 h.n h1).1, putX_g]; rfl
  simp only [loadN]
  rw [if_pos ⟨h2, by rw [hc]; omega⟩, hc, List.drop_zero, hr]
end Vm
/-
  The changes that take others back.
-/
namespace Vm
open Go
abbrev zC : List S := [.bool false, .int .i64 0, .int .i64 0, .int .i64 0, .str ⟨#[]⟩, .bool false, .int .i64 0, .int .i64 0, .int .i64 0, .str ⟨#[]⟩]
/-! a change alone -/
def eqRowB (a b : RowD) : Bool := (a.tab == b.tab) && ((a.key == b.key) && ((a.val == b.val) && ((a.text.toList == b.text.toList) && true)))
def singF (c : ChgD) : Int := if chgF c = 0 then (if c.was && c.is && eqRowB c.b c.a then 1 else 0) else chgF c
theorem p_l9Change (c : ChgD) (hc : c.ok) : pureV (call Ev) Fn.spec_l9Change [fv c.cs 0] = some (iv .i64 (singF c)) := by
  rw [pu_spec_l9Change, pc (p_l6Change c hc) rfl]
  simp only [gV1_s, gI_i, vcase_b, bne_iff_ne, ne_eq]
  rw [show ((c.b.tab == c.a.tab) && ((c.b.key == c.a.key) && ((c.b.val == c.a.val) && ((c.b.text.toList == c.a.text.toList) && true)))) = eqRowB c.b c.a from rfl]
  unfold singF
  by_cases h0 : chgF c = 0
  · rw [if_neg (by simp [h0]), if_pos h0]
    cases c.was <;> cases c.is <;> cases eqRowB c.b c.a <;> simp
  · rw [if_pos h0, if_neg h0]
theorem p_singleFault (c : ChgD) (hc : c.ok) : pureV (call Ev) Fn.impl_singleFault [.agg c.cs] = some (iv .i64 (singF c)) := by
  rw [pu_impl_singleFault, pc (p_changeFault c hc) rfl]
  simp only [gV1_s, gI_i, vcase_b, bne_iff_ne, ne_eq]
  rw [show ((c.b.tab == c.a.tab) && ((c.b.key == c.a.key) && ((c.b.val == c.a.val) && ((c.b.text.toList == c.a.text.toList) && true)))) = eqRowB c.b c.a from rfl]
  unfold singF
  by_cases h0 : chgF c = 0
  · rw [if_neg (by simp [h0]), if_pos h0]
    cases c.was <;> cases c.is <;> cases eqRowB c.b c.a <;> simp
  · rw [if_pos h0, if_neg h0]
/-! the inverse -/
def invC (c : ChgD) : ChgD := ⟨c.is, c.a, c.was, c.b⟩
def invs (l : List ChgD) : List ChgD := l.reverse.map invC
theorem invs_snoc (l : List ChgD) (c : ChgD) : invs (l ++ [c]) = invC c :: invs l := by simp [invs]
theorem p_l10Inverse {all : List ChgD} (hl : all.length ≤ lim) : pureV (call Ev) Fn.spec_l10Inverse [lv (chs all)] = some (lv (chs (invs all))) := by
  have hl' := hl
  unfold lim at hl'
  have loop : ∀ (k : Nat) (y : S) (out : List ChgD) (h : H), k ≤ all.length → out.length + k ≤ all.length → Gr 10 0 (D 0) y (chs out) h →
      ∃ y' h', Lp.spec_l10Inverse 0 [lv (chs all), .s y, iv .i64 ((k : Int) - 1)] h = some (.done [.s y'] h') ∧ Gr 10 0 (D 0) y' (chs (out ++ invs (all.take k))) h' := by
    intro k
    induction k with
    | zero =>
      intro y out h hi ho w
      refine ⟨y, h, ?_, by simpa [invs] using w⟩
      rw [eq_spec_l10Inverse_l0, vcase_b, if_neg (by simp), tidy_self]
    | succ k ih =>
      intro y out h hi ho w
      obtain ⟨c, hc⟩ : ∃ c, all[k]? = some c := ⟨_, List.getElem?_eq_getElem (by omega)⟩
      rw [eq_spec_l10Inverse_l0, vcase_b, show ((k + 1 : Nat) : Int) - 1 = (k : Int) from by omega, if_pos (by simp), idxF_ch hc, rowN_ch, w64 (by omega) (by omega)]
      simp only [ob, gx0, gx1, gI_i, gS_s, gB_b, ln0, ln1, Nat.zero_add, Nat.reduceAdd, if_true]
      rw [stK_X (z := 10) (cs := c.cs) rfl rfl, load1_X (o := 5) (x := .bool c.is) rfl, loadN_X (o := 6) (r := c.a.cs) (by simp) rfl, load1_X (o := 0) (x := .bool c.was) rfl, loadN_X (o := 1) (r := c.b.cs) (by simp) rfl]
      simp only [ob, gx0, gx1, gI_i, gS_s, gB_b, ln0, ln1, Nat.zero_add, Nat.reduceAdd, if_true]
      obtain ⟨h', e, w', hn⟩ := (w.keep (putX_keep h zC c.cs)).app (row := (invC c).cs) chg_sc rfl (by omega) (by rw [chs_len]; unfold lim; omega)
      have e' : appS 10 ((putX h zC c.cs).new 10 [S.bool c.is, .int .i64 c.a.tab, .int .i64 c.a.key, .int .i64 c.a.val, .str c.a.text, .bool c.was, .int .i64 c.b.tab, .int .i64 c.b.key, .int .i64 c.b.val, .str c.b.text]) (.s y) (sv (putX h zC c.cs).n 0 1) = some (sv ((putX h zC c.cs).n + 1) 0 ((chs out).length + 1), h') := e
      rw [e', ob, grow_tidy (m := (putX h zC c.cs).n + 1) (k := (chs out).length + 1) (by rw [putX_n]; omega) (by simp)]
      rw [← chs_snoc] at w'
      obtain ⟨y', h2, e2, w2⟩ := ih _ (out ++ [invC c]) h' (by omega) (by simp; omega) w'
      refine ⟨y', h2, e2, ?_⟩
      have : all.take (k + 1) = all.take k ++ [c] := by rw [List.take_add_one, hc]; rfl
      rw [this, invs_snoc]; simpa using w2
  obtain ⟨y', h', e, w⟩ := loop all.length _ [] _ (Nat.le_refl _) (by simp) (Gr.new (z := 10) (h := D 0) (by omega))
  rw [pu_spec_l10Inverse, chs_len, w64 (by omega) (by omega)]
  rw [D_n] at e
  rw [e, ob, lcase_done]
  simp only [gx0, ob]
  rw [List.take_of_length_le (Nat.le_refl _)] at w
  exact w.frz
theorem f_inverse {all : List ChgD} (hl : all.length ≤ lim) (n : Nat) : ∃ y h', call Ev Fn.impl_inverse [lv (chs all)] (D n) = some (.s y, h') ∧ n ≤ h'.n ∧ OwnF 1 y (.fs (chs (invs all))) n h'.n h' := by
  have hl' := hl
  unfold lim at hl'
  have loop : ∀ (k : Nat) (y : S) (out : List ChgD) (h : H), k ≤ all.length → out.length + k ≤ all.length → Gr 10 n (D n) y (chs out) h →
      ∃ y' h', Lp.impl_inverse 0 [lv (chs all), .s y, iv .i64 ((k : Int) - 1)] h = some (.done [.s y'] h') ∧ Gr 10 n (D n) y' (chs (out ++ invs (all.take k))) h' := by
    intro k
    induction k with
    | zero =>
      intro y out h hi ho w
      refine ⟨y, h, ?_, by simpa [invs] using w⟩
      rw [eq_impl_inverse_l0, vcase_b, if_neg (by simp), tidy_self]
    | succ k ih =>
      intro y out h hi ho w
      obtain ⟨c, hc⟩ : ∃ c, all[k]? = some c := ⟨_, List.getElem?_eq_getElem (by omega)⟩
      rw [eq_impl_inverse_l0, vcase_b, show ((k + 1 : Nat) : Int) - 1 = (k : Int) from by omega, if_pos (by simp), idxF_ch hc, rowN_ch, w64 (by omega) (by omega)]
      simp only [ob, gx0, gx1, gI_i, gS_s, gB_b, ln0, ln1, Nat.zero_add, Nat.reduceAdd, if_true]
      rw [stK_X (z := 10) (cs := c.cs) rfl rfl, load1_X (o := 5) (x := .bool c.is) rfl, loadN_X (o := 6) (r := c.a.cs) (by simp) rfl, load1_X (o := 0) (x := .bool c.was) rfl, loadN_X (o := 1) (r := c.b.cs) (by simp) rfl]
      simp only [ob, gx0, gx1, gI_i, gS_s, gB_b, ln0, ln1, Nat.zero_add, Nat.reduceAdd, if_true]
      obtain ⟨h', e, w', hn⟩ := (w.keep (putX_keep h zC c.cs)).app (row := (invC c).cs) chg_sc rfl (by omega) (by rw [chs_len]; unfold lim; omega)
      have e' : appS 10 ((putX h zC c.cs).new 10 [S.bool c.is, .int .i64 c.a.tab, .int .i64 c.a.key, .int .i64 c.a.val, .str c.a.text, .bool c.was, .int .i64 c.b.tab, .int .i64 c.b.key, .int .i64 c.b.val, .str c.b.text]) (.s y) (sv (putX h zC c.cs).n 0 1) = some (sv ((putX h zC c.cs).n + 1) 0 ((chs out).length + 1), h') := e
      rw [e', ob, grow_tidy (m := (putX h zC c.cs).n + 1) (k := (chs out).length + 1) (by rw [putX_n]; omega) (by simp)]
      rw [← chs_snoc] at w'
      obtain ⟨y', h2, e2, w2⟩ := ih _ (out ++ [invC c]) h' (by omega) (by simp; omega) w'
      refine ⟨y', h2, e2, ?_⟩
      have : all.take (k + 1) = all.take k ++ [c] := by rw [List.take_add_one, hc]; rfl
      rw [this, invs_snoc]; simpa using w2
  obtain ⟨y', h', e, w⟩ := loop all.length _ [] _ (Nat.le_refl _) (by simp) (Gr.none (z := 10) (n := n) (h := D n) (by simp))
  rw [eq_impl_inverse, chs_len, w64 (by omega) (by omega), e, ob, lcase_done]
  simp only [gx0, ob]
  rw [List.take_of_length_le (Nat.le_refl _)] at w
  exact ⟨y', h', rfl, w.1, w.own⟩
/-! InverseOf -/
def firF : List ChgD → Int
  | [] => 0
  | c :: cs => if singF c = 0 then firF cs else singF c
def ivF (l : List ChgD) : Int := if 60 < l.length then 2 else firF l
def ivL (l : List ChgD) : List ChgD := if ivF l = 0 then invs l else []
theorem ivL_len (l : List ChgD) : (ivL l).length ≤ l.length := by
  unfold ivL invs
  split <;> simp
theorem p_spec_InverseOf {all : List ChgD} (hr : ∀ r ∈ all, r.ok) (hl : all.length ≤ lim) : pureV (call Ev) Fn.spec_InverseOf [lv (chs all)] = some (.agg [.int .i64 (ivF all), .fs (chs (ivL all))]) := by
  have hl' := hl
  unfold lim at hl'
  have loop : ∀ (rs : List ChgD) (i : Nat), all.drop i = rs → ∃ h1, Lp.spec_InverseOf 0 [lv (chs all), pv 0 0, iv .i64 i] ((D 0).new 0 [.int .i64 0, .sl none 0]) = some (if firF rs = 0 then .done [lv (chs all), pv 0 0] ((D 0).new 0 [.int .i64 0, .sl none 0]) else .ret (.agg [.int .i64 (firF rs), .sl none 0]) h1) := by
    intro rs
    induction rs with
    | nil =>
      intro i hi
      have := drop_nil hi
      rw [eq_spec_InverseOf_l0, vcase_b, if_neg (by simp; omega), tidy_self]; exact ⟨D 0, rfl⟩
    | cons r rs ih =>
      intro i hi
      obtain ⟨g1, g2, g3⟩ := drop_cons hi
      obtain ⟨h1, e1⟩ := ih (i + 1) g2
      rw [eq_spec_InverseOf_l0, vcase_b, if_pos (by simp; omega), idxF_ch g1, normV_ch, pc (p_l9Change r (hr r (List.mem_of_getElem? g1))) rfl]
      simp only [gV1_s, gI_i, vcase_b, bne_iff_ne, ne_eq]
      by_cases h0 : singF r = 0
      · have e : firF (r :: rs) = firF rs := by rw [firF, if_pos h0]
        rw [if_neg (by simp [h0]), tidy_self, w64 (by omega) (by omega), show (i : Int) + 1 = ((i + 1 : Nat) : Int) from by omega, e1, e]
        exact ⟨h1, rfl⟩
      · have e : firF (r :: rs) = singF r := by rw [firF, if_neg h0]
        rw [if_pos h0, e, stK_rw (z := 2) (e := 0) (o := 0) (b := 0) (cs := [.int .i64 0, .sl none 0]) (r := [.int .i64 (singF r), .sl none 0]) (by simp) (by exact new_g (D 0) _ _) (.inr rfl) rfl (by simp)]
        refine ⟨((D 0).new 0 [.int .i64 0, .sl none 0]).put 0 (.rw 0 [.int .i64 (singF r), .sl none 0]), ?_⟩
        simp only [ldT, cond_true]
        rw [show setAt [.int .i64 0, .sl none 0] 0 [.int .i64 (singF r), .sl none 0] = [.int .i64 (singF r), .sl none 0] from rfl, loadN_2 (b := 0) (e := 0) (by rw [put_n]; simp) (put_g _ _ _), ob, if_neg h0]
  rw [pu_spec_InverseOf, vcase_b, chs_len]
  unfold ivL ivF
  by_cases h60 : 60 < all.length
  · rw [if_pos (by simp; omega), if_pos h60]; rfl
  rw [if_neg (by simp; omega), if_neg h60]
  obtain ⟨h1, e1⟩ := loop all 0 rfl
  rw [show iv .i64 0 = iv .i64 ((0 : Nat) : Int) from rfl, e1, ob]
  by_cases h0 : firF all = 0
  · rw [if_pos h0, lcase_done, h0]
    simp only [gx0, gx1, ob, gV1_s, gF_f]
    rw [p_l10Inverse hl]
    simp only [ob, gV1_s, gF_f]
    rw [stK_rw (z := 2) (e := 0) (o := 0) (b := 0) (cs := [.int .i64 0, .sl none 0]) (r := [.int .i64 0, .fs (chs (invs all))]) (by simp) (by exact new_g (D 0) _ _) (.inr rfl) rfl (by simp)]
    simp only [ldT, cond_true]
    rw [show setAt [.int .i64 0, .sl none 0] 0 [.int .i64 0, .fs (chs (invs all))] = [.int .i64 0, .fs (chs (invs all))] from rfl, loadN_2 (b := 0) (e := 0) (by rw [put_n]; simp) (put_g _ _ _), ob, if_pos trivial]
    exact frzV_agf
  · rw [if_neg h0, lcase_ret, if_neg h0]; simp; rfl
theorem f_InverseOf {all : List ChgD} (hr : ∀ r ∈ all, r.ok) (hl : all.length ≤ lim) (n : Nat) : ∃ y h', call Ev Fn.impl_InverseOf [lv (chs all)] (D n) = some (.agg [.int .i64 (ivF all), y], h') ∧ NewC 5 [.int .i64 (ivF all), y] [.int .i64 (ivF all), .fs (chs (ivL all))] n h' := by
  have hl' := hl
  unfold lim at hl'
  have loop : ∀ (rs : List ChgD) (i : Nat), all.drop i = rs → ∃ h1, Lp.impl_InverseOf 0 [lv (chs all), pv n 0, lv (chs all), iv .i64 (all.length : Int), iv .i64 i] ((D n).new 0 [.int .i64 0, .sl none 0]) = some (if firF rs = 0 then .done [lv (chs all), pv n 0] ((D n).new 0 [.int .i64 0, .sl none 0]) else .ret (.agg [.int .i64 (firF rs), .sl none 0]) h1) ∧ n ≤ h1.n := by
    intro rs
    induction rs with
    | nil =>
      intro i hi
      have := drop_nil hi
      rw [eq_impl_InverseOf_l0, vcase_b, if_neg (by simp; omega), tidy_self]; exact ⟨D n, rfl, by simp⟩
    | cons r rs ih =>
      intro i hi
      obtain ⟨g1, g2, g3⟩ := drop_cons hi
      obtain ⟨h1, e1, n1⟩ := ih (i + 1) g2
      rw [eq_impl_InverseOf_l0, vcase_b, if_pos (by simp; omega), idxF_ch g1, rowN_ch]
      simp only [ob, gx0, gx1, gI_i, gS_s, gB_b, ln0, ln1, Nat.zero_add, Nat.reduceAdd, if_true]
      rw [stK_X (z := 10) (cs := r.cs) rfl rfl, loadN_X (o := 0) (r := r.cs) (by simp) rfl]
      simp only [ob, gx0, gx1, gI_i, gS_s, gB_b, ln0, ln1, Nat.zero_add, Nat.reduceAdd, if_true]
      rw [pc (p_singleFault r (hr r (List.mem_of_getElem? g1))) rfl]
      simp only [gV1_s, gI_i, vcase_b, bne_iff_ne, ne_eq]
      by_cases h0 : singF r = 0
      · have e : firF (r :: rs) = firF rs := by rw [firF, if_pos h0]
        rw [if_neg (by simp [h0]), putX_tidy (by
          simp only [List.all_cons, List.all_nil, Bool.and_true, Bool.and_eq_true]
          exact ⟨rfl, by simp [belV, belS], rfl, rfl, rfl⟩), w64 (by omega) (by omega), show (i : Int) + 1 = ((i + 1 : Nat) : Int) from by omega, e1, e]
        exact ⟨h1, rfl, n1⟩
      · have e : firF (r :: rs) = singF r := by rw [firF, if_neg h0]
        have gn : (putX ((D n).new 0 [.int .i64 0, .sl none 0]) zC r.cs).g n = .rw 0 [.int .i64 0, .sl none 0] := by
          rw [((putX_keep _ _ _).2 n (by simp)).1]; exact new_g (D n) _ _
        rw [if_pos h0, e, stK_rw (z := 2) (e := 0) (o := 0) (b := n) (cs := [.int .i64 0, .sl none 0]) (r := [.int .i64 (singF r), .sl none 0]) (by rw [putX_n]; simp; omega) gn (.inr rfl) rfl (by simp)]
        refine ⟨(putX ((D n).new 0 [.int .i64 0, .sl none 0]) zC r.cs).put n (.rw 0 [.int .i64 (singF r), .sl none 0]), ?_, by rw [put_n, putX_n]; simp; omega⟩
        simp only [ldT, cond_true]
        rw [show setAt [.int .i64 0, .sl none 0] 0 [.int .i64 (singF r), .sl none 0] = [.int .i64 (singF r), .sl none 0] from rfl, loadN_2 (b := n) (e := 0) (by rw [put_n, putX_n]; simp; omega) (put_g _ _ _), ob, if_neg h0]
  rw [eq_impl_InverseOf, vcase_b, chs_len]
  unfold ivL ivF
  by_cases h60 : 60 < all.length
  · obtain ⟨h', e, w⟩ := bad2D n 5 2
    rw [if_pos (by simp; omega), if_pos h60]
    exact ⟨_, h', e, w⟩
  rw [if_neg (by simp; omega), if_neg h60]
  obtain ⟨h1, e1, n1⟩ := loop all 0 rfl
  rw [D_n, show iv .i64 0 = iv .i64 ((0 : Nat) : Int) from rfl, e1, ob]
  by_cases h0 : firF all = 0
  · rw [if_pos h0, lcase_done, h0, if_pos rfl]
    simp only [gx0, gx1, ob, gV1_s, gF_f]
    obtain ⟨y, h2, e2, n2, w2⟩ := f_inverse hl (n + 1)
    obtain ⟨K, e3, u3, n3, w3⟩ := pV (h := (D n).new 0 [.int .i64 0, .sl none 0]) (off := true) (n := n + 1) (by simp) e2 n2 w2
    rw [e3, cells2 w2.no]
    obtain ⟨h4, e4, w4⟩ := fin2S (n := n) (K := K) (c := 0) (by omega) (by rw [u3.g n (by simp)]; exact new_g (D n) _ _) (w3.now.lift (k := 5) (by omega))
    exact ⟨y, h4, by rw [← e4]; rfl, w4⟩
  · rw [if_neg h0, lcase_ret, if_neg h0]
    exact ⟨_, h1, rfl, n1, [], RepL.cons (bs := []) (Rep.sc trivial) (RepL.cons (bs := []) Rep.nil .nil), by simp, by simp⟩
end Vm
/-
  The changes between rising rows: the program's way.
-/
namespace Vm
open Go
/-! cells in a block that is new -/
structure Nw (h : H) (cs : List S) (h' : H) : Prop where
  n : h'.n = h.n + 1
  g : h'.g h.n = .rw 0 cs
  k : ∀ c, c ≠ h.n → h'.g c = h.g c ∧ h'.v c = h.v c
theorem Nw.new {h : H} {cs : List S} : Nw h cs (h.new 0 cs) := ⟨rfl, new_g _ _ _, fun c hc => ⟨new_g' hc, rfl⟩⟩
theorem Nw.keep {h h' : H} {cs : List S} (w : Nw h cs h') : HKeep h h' := ⟨by rw [w.n]; omega, fun b hb => w.k b (by omega)⟩
theorem Nw.cells {h h' : H} {cs : List S} (w : Nw h cs h') : h'.cells h.n = cs := by
  unfold H.cells; rw [if_pos (by rw [w.n]; omega), w.g]; rfl
theorem Nw.put {h h' : H} {cs cs' : List S} (w : Nw h cs h') : Nw h cs' (h'.put h.n (.rw 0 cs')) := ⟨w.n, put_g _ _ _, fun c hc => by
  simp only [H.put, if_neg hc]; exact w.k c hc⟩
section
variable {R : Type}
theorem Nw.st1 {h h' : H} {cs : List S} {j : Nat} {x : S} {k : H → Option R} (w : Nw h cs h') (hj : j < cs.length) (hx : isNo x = false) : stK 1 h' (pv h.n j) (.s x) k = k (h'.put h.n (.rw 0 (cs.set j x))) := by
  have := st_cell (b := h.n) (e := 0) (o := 0) (j := j) (h := h') (pre := []) (row := cs) (post := []) (x := x) (k := k) (by rw [w.n]; omega) (by simpa using w.g) rfl hj hx
  simpa using this
theorem Nw.stN {h h' : H} {cs r : List S} {z o : Nat} {k : H → Option R} (w : Nw h cs h') (hr : r.length = z) (ho : o + z ≤ cs.length) : stK z h' (pv h.n o) (.agg r) k = k (h'.put h.n (.rw 0 (setAt cs o r))) :=
  stK_rw (by rw [w.n]; omega) w.g (.inr rfl) hr ho
end
theorem Nw.ld1 {h h' : H} {cs : List S} {o : Nat} {x : S} (w : Nw h cs h') (hx : cs[o]? = some x) : load1 h' (pv h.n o) = some x := load1_cs w.cells hx
theorem Nw.ldN {h h' : H} {cs r : List S} {o n : Nat} (w : Nw h cs h') (hn : o + n ≤ cs.length) (hr : (cs.drop o).take n = r) : loadN n h' (pv h.n o) = some r := by
  simp only [loadN]
  rw [if_pos ⟨by rw [w.n]; omega, by rw [w.cells]; exact hn⟩, w.cells, hr]
theorem Nw.kill {h a b : H} {cs cs' : List S} (w : Nw h cs a) (w' : Nw h cs' b) : HExt (a.put h.n .dead) b := ⟨by rw [put_n, w.n, w'.n]; omega, fun c hc => by
  by_cases hh : c = h.n
  · subst hh; exact .inl (put_g _ _ _)
  · refine .inr ?_
    have h1 := w.k c hh
    have h2 := w'.k c hh
    simp only [H.put, if_neg hh]
    exact ⟨h2.1.trans h1.1.symm, h2.2.trans h1.2.symm⟩⟩
theorem Nw.tidy {h h' : H} {cs : List S} {l : List V} (w : Nw h cs h') (hl : l.all (belV h.n) = true) : Vm.tidy h l h' = h := tidy_ext w.keep hl
/-! frozen slices of rows -/
theorem rws_cons (r : RowD) (rs : List RowD) : rws (r :: rs) = r.cs :: rws rs := rfl
section
variable {R : Type}
theorem idxK_rw {rs : List RowD} {i : Nat} {r : RowD} {kd : IntKind} {k : V → Option R} (h : rs[i]? = some r) : idxK 4 (lv (rws rs)) (iv kd (i : Int)) k = k (fv r.cs 0) := idxF_rw h
theorem ldK_rw {r : RowD} {h : H} {dd : TD} {bb : Bool} {w : Nat} {zz : List S} {k : V → Option R} : ldK (.agg [.i .i64, .i .i64, .i .i64, .s]) ⟨4, w, zz, true, dd, bb⟩ h (fv r.cs 0) k = k (.agg r.cs) := by
  simp only [ldK, ldT, cond_true, loadN]
  rw [rowN_rw]
  simp [tyV, tyL, tyS]
theorem slK_rw1 {r : RowD} {rs : List RowD} {h : H} {k : V → Option R} : slK 4 h (lv (rws (r :: rs))) (some (iv .i64 1)) none k = k (lv (rws rs)) := by
  show slF 4 (rws (r :: rs)) (some (iv .i64 1)) none (fun l => k (lv l)) = _
  unfold slF
  have hb : bnd (rws (r :: rs)).length (iv .i64 1) = some 1 := by simp [bnd] <;> omega
  simp only [Option.bind_some, hb]
  rw [if_pos rws_row, List.take_length]
  rfl
end
/-! the merge -/
def zR : RowD := ⟨0, 0, 0, ⟨#[]⟩⟩
def keepB (c : ChgD) : Bool := !c.was || !c.is || !eqRowB c.b c.a
def one (c : ChgD) : List ChgD := if keepB c then [c] else []
def btw : List RowD → List RowD → List ChgD
  | [], [] => []
  | [], a :: ns => one ⟨false, zR, true, a⟩ ++ btw [] ns
  | b :: bs, [] => one ⟨true, b, false, zR⟩ ++ btw bs []
  | b :: bs, a :: ns =>
    if befB b a then one ⟨true, b, false, zR⟩ ++ btw bs (a :: ns)
    else if befB a b then one ⟨false, zR, true, a⟩ ++ btw (b :: bs) ns
    else one ⟨true, b, true, a⟩ ++ btw bs ns
termination_by bs ns => bs.length + ns.length
theorem one_len (c : ChgD) : (one c).length ≤ 1 := by unfold one; split <;> simp
theorem btw_len : ∀ (bs ns : List RowD), (btw bs ns).length ≤ bs.length + ns.length := by
  intro bs ns
  induction bs, ns using btw.induct with
  | case1 => simp [btw]
  | case2 a ns ih => rw [btw, List.length_append]; have := one_len ⟨false, zR, true, a⟩; simp only [List.length_cons, List.length_nil] at *; omega
  | case3 b bs ih => rw [btw, List.length_append]; have := one_len ⟨true, b, false, zR⟩; simp only [List.length_cons, List.length_nil] at *; omega
  | case4 b bs a ns h ih => rw [btw, if_pos h, List.length_append]; have := one_len ⟨true, b, false, zR⟩; simp only [List.length_cons, List.length_nil] at *; omega
  | case5 b bs a ns h h2 ih => rw [btw, if_neg h, if_pos h2, List.length_append]; have := one_len ⟨false, zR, true, a⟩; simp only [List.length_cons, List.length_nil] at *; omega
  | case6 b bs a ns h h2 ih => rw [btw, if_neg h, if_neg h2, List.length_append]; have := one_len ⟨true, b, true, a⟩; simp only [List.length_cons, List.length_nil] at *; omega
/-! the walk -/
theorem bt_l0 {n : Nat} {h0 h h' : H} {y : S} {out : List ChgD} {c : ChgD} {ws vs : List (List S)} (q : Bool) (w : Nw h c.cs h') (g : Gr 10 n h0 y (chs out) h) (hl : out.length + 1 ≤ lim) :
    ∃ y' h2, Jn.impl_between_l0_0 q h' h (.s y) (lv ws) (lv vs) = Lp.impl_between 0 [lv ws, lv vs, .s y'] h2 ∧ Gr 10 n h0 y' (chs (out ++ if q then [c] else [])) h2 := by
  unfold Jn.impl_between_l0_0
  rw [vcase_b]
  cases q with
  | true =>
    rw [if_pos rfl, w.ldN (o := 0) (n := 10) (r := c.cs) (by simp) rfl]
    simp only [ob, gx0, gx1, gI_i, gS_s, gB_b, ln0, ln1, Nat.zero_add, Nat.reduceAdd, if_true]
    obtain ⟨h2, e, g', hn⟩ := (g.keep w.keep).app (row := c.cs) chg_sc rfl (by omega) (by rw [chs_len]; exact hl)
    rw [e, ob, grow_tidy (m := h'.n + 1) (k := (chs out).length + 1) (by rw [w.n]; omega) (by simp)]
    rw [← chs_snoc] at g'
    exact ⟨_, h2, rfl, g'⟩
  | false =>
    rw [if_neg (by simp), w.tidy (by
      obtain ⟨w1, _, bs, w3, _⟩ := g
      have hy := w3.rep.top (N := h.n) w3.rep.lt
      simp only [List.all_cons, List.all_nil, Bool.and_true, Bool.and_eq_true]
      exact ⟨rfl, rfl, hy⟩)]
    exact ⟨y, h, rfl, by simpa using g⟩
theorem bt_l1 {n : Nat} {h0 h h' : H} {y : S} {out : List ChgD} {c : ChgD} {ws vs : List (List S)} (w : Nw h c.cs h') (g : Gr 10 n h0 y (chs out) h) (hl : out.length + 1 ≤ lim) :
    ∃ y' h2, Jn.impl_between_l0_1 (!c.was || !c.is) h' h (.s y) (lv ws) (lv vs) = Lp.impl_between 0 [lv ws, lv vs, .s y'] h2 ∧ Gr 10 n h0 y' (chs (out ++ one c)) h2 := by
  unfold Jn.impl_between_l0_1
  rw [vcase_b, w.ldN (o := 1) (n := 4) (r := c.b.cs) (by simp) rfl, w.ldN (o := 6) (n := 4) (r := c.a.cs) (by simp) rfl]
  simp only [ob, gx0, gx1, gI_i, gS_s, gB_b, ln0, ln1, Nat.zero_add, Nat.reduceAdd, if_true]
  rw [show ((c.b.tab == c.a.tab) && ((c.b.key == c.a.key) && ((c.b.val == c.a.val) && ((c.b.text.toList == c.a.text.toList) && true)))) = eqRowB c.b c.a from rfl]
  unfold one keepB
  cases hq : (!c.was || !c.is) with
  | true => rw [if_pos rfl]; simpa using bt_l0 true w g hl
  | false => rw [if_neg (by simp)]; simpa using bt_l0 (!eqRowB c.b c.a) w g hl
theorem bt_l2 {n : Nat} {h0 h h' : H} {y : S} {out : List ChgD} {b : RowD} {was : Bool} {ws : List (List S)} {i : Int} {ns : List RowD} (w : Nw h (ChgD.cs ⟨was, b, false, zR⟩) h') (g : Gr 10 n h0 y (chs out) h) (hl : out.length + 1 ≤ lim) :
    (0 ≤ i → ∀ a ns', ns = a :: ns' → ∃ y' h2, Jn.impl_between_l0_2 (lv ws) h' i (lv (rws ns)) h (.s y) = Lp.impl_between 0 [lv ws, lv (rws ns'), .s y'] h2 ∧ Gr 10 n h0 y' (chs (out ++ one ⟨was, b, true, a⟩)) h2) ∧
    (i < 0 → ∃ y' h2, Jn.impl_between_l0_2 (lv ws) h' i (lv (rws ns)) h (.s y) = Lp.impl_between 0 [lv ws, lv (rws ns), .s y'] h2 ∧ Gr 10 n h0 y' (chs (out ++ one ⟨was, b, false, zR⟩)) h2) := by
  unfold Jn.impl_between_l0_2
  rw [vcase_b]
  refine ⟨fun hi a ns' ha => ?_, fun hi => ?_⟩
  · subst ha
    rw [if_pos (by simpa using hi), show iv .i64 0 = iv .i64 ((0 : Nat) : Int) from rfl, idxK_rw (r := a) rfl, ldK_rw]
    simp only [gVA_a, ob, gx0, gx1, gI_i, gS_s, gB_b, ln0, ln1, Nat.zero_add, Nat.reduceAdd, if_true]
    rw [w.st1 (j := 5) (x := .bool true) (by simp) rfl]
    have w1 := w.put (cs' := (ChgD.cs ⟨was, b, false, zR⟩).set 5 (.bool true))
    rw [hchk_of (w.kill w1), w1.stN (z := 4) (o := 6) (r := a.cs) rfl (by simp)]
    have w2 := w1.put (cs' := ChgD.cs ⟨was, b, true, a⟩)
    rw [show setAt ((ChgD.cs ⟨was, b, false, zR⟩).set 5 (.bool true)) 6 a.cs = ChgD.cs ⟨was, b, true, a⟩ from rfl, hchk_of (w.kill w2), slK_rw1, w2.ld1 (o := 0) (x := .bool was) rfl, w2.ld1 (o := 5) (x := .bool true) rfl]
    simp only [ob, gB_b, vcase_b]
    have := bt_l1 (ws := ws) (vs := rws ns') w2 g hl
    cases was
    · simpa using this
    · simpa using this
  · rw [if_neg (by simpa using hi), w.ld1 (o := 0) (x := .bool was) rfl, w.ld1 (o := 5) (x := .bool false) rfl]
    simp only [ob, gB_b, vcase_b]
    have := bt_l1 (ws := ws) (vs := rws ns) w g hl
    cases was
    · simpa using this
    · simpa using this
/-- one round behind the choice of the way -/
theorem bt_l3 {n : Nat} {h0 h : H} {y : S} {out : List ChgD} {i : Int} {bs ns : List RowD} (g : Gr 10 n h0 y (chs out) h) (hl : out.length + 1 ≤ lim) :
    (i = 0 → ∀ b bs' a ns', bs = b :: bs' → ns = a :: ns' → ∃ y' h2, Jn.impl_between_l0_3 i (lv (rws bs)) h (lv (rws ns)) (.s y) = Lp.impl_between 0 [lv (rws bs'), lv (rws ns'), .s y'] h2 ∧ Gr 10 n h0 y' (chs (out ++ one ⟨true, b, true, a⟩)) h2) ∧
    (i < 0 → ∀ b bs', bs = b :: bs' → ∃ y' h2, Jn.impl_between_l0_3 i (lv (rws bs)) h (lv (rws ns)) (.s y) = Lp.impl_between 0 [lv (rws bs'), lv (rws ns), .s y'] h2 ∧ Gr 10 n h0 y' (chs (out ++ one ⟨true, b, false, zR⟩)) h2) ∧
    (0 < i → ∀ a ns', ns = a :: ns' → ∃ y' h2, Jn.impl_between_l0_3 i (lv (rws bs)) h (lv (rws ns)) (.s y) = Lp.impl_between 0 [lv (rws bs), lv (rws ns'), .s y'] h2 ∧ Gr 10 n h0 y' (chs (out ++ one ⟨false, zR, true, a⟩)) h2) := by
  unfold Jn.impl_between_l0_3
  rw [vcase_b]
  have w : Nw h (ChgD.cs ⟨false, zR, false, zR⟩) (h.new 0 zC) := Nw.new
  have left : ∀ b bs', bs = b :: bs' → i ≤ 0 → ∃ h2, Nw h (ChgD.cs ⟨true, b, false, zR⟩) h2 ∧ (if decide (i ≤ 0) = true then
      (idxK 4 (lv (rws bs)) (iv .i64 0) fun v730 =>
  ldK (.agg [.i .i64, .i .i64, .i .i64, .s]) ⟨4, 40, [.int .i64 0, .int .i64 0, .int .i64 0, .str ⟨#[]⟩], true, .st [(0, 2), (1, 2), (2, 2), (3, 9)], true⟩ ((h.new 0 [.bool false, .int .i64 0, .int .i64 0, .int .i64 0, .str (⟨#[]⟩), .bool false, .int .i64 0, .int .i64 0, .int .i64 0, .str (⟨#[]⟩)]).put h.n .dead) v730 fun v731 =>
  gVA v731 fun c732 =>
  (c732[0]?).bind fun x733 =>
  gI .i64 x733 fun i734 =>
  (c732[1]?).bind fun x735 =>
  gI .i64 x735 fun i736 =>
  (c732[2]?).bind fun x737 =>
  gI .i64 x737 fun i738 =>
  (c732[3]?).bind fun x739 =>
  gS x739 fun y740 =>
  if c732.length = 4 then
  stK 1 (h.new 0 [.bool false, .int .i64 0, .int .i64 0, .int .i64 0, .str (⟨#[]⟩), .bool false, .int .i64 0, .int .i64 0, .int .i64 0, .str (⟨#[]⟩)]) (pv h.n 0) (bv true) fun h741 =>
  hchk ((h.new 0 [.bool false, .int .i64 0, .int .i64 0, .int .i64 0, .str (⟨#[]⟩), .bool false, .int .i64 0, .int .i64 0, .int .i64 0, .str (⟨#[]⟩)]).put h.n .dead) h741 (
  stK 4 h741 (pv h.n 1) (.agg [.int .i64 i734, .int .i64 i736, .int .i64 i738, .str y740]) fun h742 =>
  hchk ((h.new 0 [.bool false, .int .i64 0, .int .i64 0, .int .i64 0, .str (⟨#[]⟩), .bool false, .int .i64 0, .int .i64 0, .int .i64 0, .str (⟨#[]⟩)]).put h.n .dead) h742 (
  slK 4 h742 (lv (rws bs)) (some (iv .i64 1)) none fun v743 =>
  Jn.impl_between_l0_2 v743 h742 i (lv (rws ns)) h (.s y)))
  else none) else Jn.impl_between_l0_2 (lv (rws bs)) (h.new 0 [.bool false, .int .i64 0, .int .i64 0, .int .i64 0, .str (⟨#[]⟩), .bool false, .int .i64 0, .int .i64 0, .int .i64 0, .str (⟨#[]⟩)]) i (lv (rws ns)) h (.s y)) = Jn.impl_between_l0_2 (lv (rws bs')) h2 i (lv (rws ns)) h (.s y) := by
    intro b bs' hb hi
    subst hb
    have w1 := w.put (cs' := (ChgD.cs ⟨false, zR, false, zR⟩).set 0 (.bool true))
    have w2 := w1.put (cs' := ChgD.cs ⟨true, b, false, zR⟩)
    refine ⟨_, w2, ?_⟩
    rw [if_pos (by simpa using hi), show iv .i64 0 = iv .i64 ((0 : Nat) : Int) from rfl, idxK_rw (r := b) rfl, ldK_rw]
    simp only [gVA_a, ob, gx0, gx1, gI_i, gS_s, gB_b, ln0, ln1, Nat.zero_add, Nat.reduceAdd, if_true]
    rw [show stK 1 (h.new 0 zC) (pv h.n 0) (bv true) = stK 1 (h.new 0 zC) (pv h.n 0) (.s (.bool true)) from rfl, w.st1 (R := LOut) (j := 0) (x := .bool true) (by simp) rfl]
    rw [hchk_of (w.kill w1), w1.stN (z := 4) (o := 1) (r := b.cs) rfl (by simp)]
    rw [show setAt ((ChgD.cs ⟨false, zR, false, zR⟩).set 0 (.bool true)) 1 b.cs = ChgD.cs ⟨true, b, false, zR⟩ from rfl, hchk_of (w.kill w2), slK_rw1]
  refine ⟨fun hi b bs' a ns' hb ha => ?_, fun hi b bs' hb => ?_, fun hi a ns' ha => ?_⟩
  · obtain ⟨h2, w2, e2⟩ := left b bs' hb (by omega)
    rw [e2]
    exact (bt_l2 (ws := rws bs') (ns := ns) w2 g hl).1 (by omega) a ns' ha
  · obtain ⟨h2, w2, e2⟩ := left b bs' hb (by omega)
    rw [e2]
    exact (bt_l2 (ws := rws bs') (ns := ns) w2 g hl).2 hi
  · rw [if_neg (by simpa using hi)]
    exact (bt_l2 (ws := rws bs) (ns := ns) w g hl).1 (by omega) a ns' ha
theorem ordI_lt {a b : RowD} (h : befB a b = true) : ordI a b = -1 := by unfold ordI; rw [if_pos h]
theorem ordI_gt {a b : RowD} (h : befB a b ≠ true) (h2 : befB b a = true) : ordI a b = 1 := by unfold ordI; rw [if_neg h, if_pos h2]
theorem ordI_eq {a b : RowD} (h : befB a b ≠ true) (h2 : befB b a ≠ true) : ordI a b = 0 := by unfold ordI; rw [if_neg h, if_neg h2]
theorem bt_loop {n : Nat} {h0 : H} : ∀ (bs ns : List RowD) (y : S) (out : List ChgD) (h : H), Gr 10 n h0 y (chs out) h → out.length + bs.length + ns.length ≤ lim →
    ∃ y' h2, Lp.impl_between 0 [lv (rws bs), lv (rws ns), .s y] h = some (.done [.s y'] h2) ∧ Gr 10 n h0 y' (chs (out ++ btw bs ns)) h2 := by
  intro bs ns
  have l0 : ∀ rs : List RowD, lenV (.sl 45) (lv (rws rs)) = some (iv .i64 (rs.length : Int)) := fun rs => by simp [lenV]
  induction bs, ns using btw.induct with
  | case1 =>
    intro y out h g hl
    rw [eq_impl_between_l0]
    unfold Jn.impl_between_l0_4
    simp only [l0, ob, gV1_s, gI_i, vcase_b]
    exact ⟨y, h, by simp, by simpa [btw] using g⟩
  | case2 a ns ih =>
    intro y out h g hl
    simp only [List.length_cons, List.length_nil] at hl
    obtain ⟨y1, h1, e1, g1⟩ := (bt_l3 (i := 1) (bs := []) (ns := a :: ns) g (by omega)).2.2 (by omega) a ns rfl
    obtain ⟨y2, h2, e2, g2⟩ := ih y1 _ h1 g1 (by have := one_len ⟨false, zR, true, a⟩; simp only [List.length_append, List.length_nil] at *; omega)
    refine ⟨y2, h2, ?_, by rw [btw, ← List.append_assoc]; exact g2⟩
    rw [eq_impl_between_l0]
    unfold Jn.impl_between_l0_4
    simp only [l0, ob, gV1_s, gI_i, vcase_b]
    rw [← e2, ← e1]
    simp
  | case3 b bs ih =>
    intro y out h g hl
    simp only [List.length_cons, List.length_nil] at hl
    obtain ⟨y1, h1, e1, g1⟩ := (bt_l3 (i := -1) (bs := b :: bs) (ns := []) g (by omega)).2.1 (by omega) b bs rfl
    obtain ⟨y2, h2, e2, g2⟩ := ih y1 _ h1 g1 (by have := one_len ⟨true, b, false, zR⟩; simp only [List.length_append, List.length_nil] at *; omega)
    refine ⟨y2, h2, ?_, by rw [btw, ← List.append_assoc]; exact g2⟩
    rw [eq_impl_between_l0]
    unfold Jn.impl_between_l0_4
    simp only [l0, ob, gV1_s, gI_i, vcase_b]
    rw [← e2, ← e1, if_pos (by simp <;> omega), if_pos trivial, if_neg (by simp <;> omega), if_pos (by simp)]
  | case4 b bs a ns hb ih =>
    intro y out h g hl
    simp only [List.length_cons] at hl
    obtain ⟨y1, h1, e1, g1⟩ := (bt_l3 (i := -1) (bs := b :: bs) (ns := a :: ns) g (by omega)).2.1 (by omega) b bs rfl
    obtain ⟨y2, h2, e2, g2⟩ := ih y1 _ h1 g1 (by have := one_len ⟨true, b, false, zR⟩; simp only [List.length_append, List.length_cons] at *; omega)
    refine ⟨y2, h2, ?_, by rw [btw, if_pos hb, ← List.append_assoc]; exact g2⟩
    rw [eq_impl_between_l0]
    unfold Jn.impl_between_l0_4
    simp only [l0, ob, gV1_s, gI_i, vcase_b]
    rw [← e2, ← e1, if_pos (by simp <;> omega), if_pos trivial, if_neg (by simp <;> omega), if_neg (by simp <;> omega), show iv .i64 0 = iv .i64 ((0 : Nat) : Int) from rfl, idxK_rw (r := b) rfl, ldK_rw]
    simp only [gVA_a, ob, gx0, gx1, gI_i, gS_s, gB_b, ln0, ln1, Nat.zero_add, Nat.reduceAdd, if_true]
    rw [idxK_rw (r := a) rfl, ldK_rw]
    simp only [gVA_a, ob, gx0, gx1, gI_i, gS_s, gB_b, ln0, ln1, Nat.zero_add, Nat.reduceAdd, if_true]
    rw [pc (p_order b a) rfl, ordI_lt hb]
    simp only [gV1_s, gI_i, hchk_self]
  | case5 b bs a ns hb hb2 ih =>
    intro y out h g hl
    simp only [List.length_cons] at hl
    obtain ⟨y1, h1, e1, g1⟩ := (bt_l3 (i := 1) (bs := b :: bs) (ns := a :: ns) g (by omega)).2.2 (by omega) a ns rfl
    obtain ⟨y2, h2, e2, g2⟩ := ih y1 _ h1 g1 (by have := one_len ⟨false, zR, true, a⟩; simp only [List.length_append, List.length_cons] at *; omega)
    refine ⟨y2, h2, ?_, by rw [btw, if_neg hb, if_pos hb2, ← List.append_assoc]; exact g2⟩
    rw [eq_impl_between_l0]
    unfold Jn.impl_between_l0_4
    simp only [l0, ob, gV1_s, gI_i, vcase_b]
    rw [← e2, ← e1, if_pos (by simp <;> omega), if_pos trivial, if_neg (by simp <;> omega), if_neg (by simp <;> omega), show iv .i64 0 = iv .i64 ((0 : Nat) : Int) from rfl, idxK_rw (r := b) rfl, ldK_rw]
    simp only [gVA_a, ob, gx0, gx1, gI_i, gS_s, gB_b, ln0, ln1, Nat.zero_add, Nat.reduceAdd, if_true]
    rw [idxK_rw (r := a) rfl, ldK_rw]
    simp only [gVA_a, ob, gx0, gx1, gI_i, gS_s, gB_b, ln0, ln1, Nat.zero_add, Nat.reduceAdd, if_true]
    rw [pc (p_order b a) rfl, ordI_gt hb hb2]
    simp only [gV1_s, gI_i, hchk_self]
  | case6 b bs a ns hb hb2 ih =>
    intro y out h g hl
    simp only [List.length_cons] at hl
    obtain ⟨y1, h1, e1, g1⟩ := (bt_l3 (i := 0) (bs := b :: bs) (ns := a :: ns) g (by omega)).1 rfl b bs a ns rfl rfl
    obtain ⟨y2, h2, e2, g2⟩ := ih y1 _ h1 g1 (by have := one_len ⟨true, b, true, a⟩; simp only [List.length_append] at *; omega)
    refine ⟨y2, h2, ?_, by rw [btw, if_neg hb, if_neg hb2, ← List.append_assoc]; exact g2⟩
    rw [eq_impl_between_l0]
    unfold Jn.impl_between_l0_4
    simp only [l0, ob, gV1_s, gI_i, vcase_b]
    rw [← e2, ← e1, if_pos (by simp <;> omega), if_pos trivial, if_neg (by simp <;> omega), if_neg (by simp <;> omega), show iv .i64 0 = iv .i64 ((0 : Nat) : Int) from rfl, idxK_rw (r := b) rfl, ldK_rw]
    simp only [gVA_a, ob, gx0, gx1, gI_i, gS_s, gB_b, ln0, ln1, Nat.zero_add, Nat.reduceAdd, if_true]
    rw [idxK_rw (r := a) rfl, ldK_rw]
    simp only [gVA_a, ob, gx0, gx1, gI_i, gS_s, gB_b, ln0, ln1, Nat.zero_add, Nat.reduceAdd, if_true]
    rw [pc (p_order b a) rfl, ordI_eq hb hb2]
    simp only [gV1_s, gI_i, hchk_self]
theorem f_between {bs ns : List RowD} (hl : bs.length + ns.length ≤ lim) (n : Nat) : ∃ y h', call Ev Fn.impl_between [lv (rws bs), lv (rws ns)] (D n) = some (.s y, h') ∧ n ≤ h'.n ∧ OwnF 1 y (.fs (chs (btw bs ns))) n h'.n h' := by
  obtain ⟨y', h', e, w⟩ := bt_loop bs ns (.sl none 0) [] (D n) (Gr.none (z := 10) (n := n) (h := D n) (by simp)) (by simpa using hl)
  rw [eq_impl_between, e, ob, lcase_done]
  simp only [gx0, ob]
  exact ⟨y', h', rfl, w.1, w.own⟩
def chC (bs ns : List RowD) : Int := if rowsF bs = 0 then rowsF ns else rowsF bs
def chL (bs ns : List RowD) : List ChgD := if chC bs ns = 0 then btw bs ns else []
theorem chL_len (bs ns : List RowD) : (chL bs ns).length ≤ bs.length + ns.length := by
  unfold chL
  split
  · exact btw_len _ _
  · simp
theorem f_ChangesOf {bs ns : List RowD} (hs : ∀ r ∈ bs, r.text.size ≤ maxLen) (hs' : ∀ r ∈ ns, r.text.size ≤ maxLen) (hl : bs.length + ns.length ≤ lim) (n : Nat) : ∃ y h', call Ev Fn.impl_ChangesOf [lv (rws bs), lv (rws ns)] (D n) = some (.agg [.int .i64 (chC bs ns), y], h') ∧ NewC 5 [.int .i64 (chC bs ns), y] [.int .i64 (chC bs ns), .fs (chs (chL bs ns))] n h' := by
  have hl' := hl
  unfold lim at hl'
  rw [eq_impl_ChangesOf, pc (p_RowsFault hs (by unfold maxLen; omega)) rfl]
  simp only [gV1_s, gI_i, vcase_b, bne_iff_ne, ne_eq]
  rw [pc (p_RowsFault hs' (by unfold maxLen; omega)) rfl]
  simp only [gV1_s, gI_i, vcase_b, bne_iff_ne, ne_eq]
  unfold chL chC
  by_cases h0 : rowsF bs = 0
  case neg =>
    obtain ⟨h', e, w⟩ := bad2D n 5 (rowsF bs)
    rw [if_pos h0, if_neg h0, if_neg h0]
    exact ⟨_, h', e, w⟩
  rw [if_neg (by simp [h0]), if_pos h0]
  by_cases h1 : rowsF ns = 0
  case neg =>
    obtain ⟨h', e, w⟩ := bad2D n 5 (rowsF ns)
    rw [if_pos h1, if_neg h1]
    exact ⟨_, h', e, w⟩
  rw [if_neg (by simp [h1]), if_pos h1, h1]
  obtain ⟨y, h2, e2, n2, w2⟩ := f_between hl (n + 1)
  obtain ⟨h', e, w⟩ := fin2 (off := true) e2 n2 (w2.lift (k := 5) (by omega))
  exact ⟨y, h', e, w⟩
end Vm
/-
  Rising rows: keys put in one by one are the keys of the merge; the changes are those of the merge. (No program in sight.)
-/
namespace Vm
open Go
theorem bef_iff {a b : RowD} : befB a b = true ↔ a.tab < b.tab ∨ (a.tab = b.tab ∧ a.key < b.key) := by simp [befB]
theorem same_iff {a b : RowD} : sameK a b = true ↔ a.tab = b.tab ∧ a.key = b.key := by simp [sameK]
theorem bef_irr {a : RowD} : befB a a ≠ true := by rw [Ne, bef_iff]; omega
theorem bef_trans {a b c : RowD} (h : befB a b = true) (h2 : befB b c = true) : befB a c = true := by rw [bef_iff] at *; omega
theorem bef_tot {a b : RowD} (h : befB a b ≠ true) (h2 : befB b a ≠ true) : sameK a b = true := by rw [Ne, bef_iff] at *; rw [same_iff]; omega
theorem bef_ns {a b : RowD} (h : befB a b = true) : sameK a b = false := by
  cases hs : sameK a b with
  | false => rfl
  | true => rw [same_iff] at hs; rw [bef_iff] at h; omega
theorem bef_sn {a b : RowD} (h : befB a b = true) : sameK b a = false := by
  cases hs : sameK b a with
  | false => rfl
  | true => rw [same_iff] at hs; rw [bef_iff] at h; omega
abbrev Ris (l : List RowD) : Prop := l.Pairwise fun a b => befB a b = true
theorem ris_of : ∀ {rs : List RowD} {p : Option RowD}, rowsFrom p rs = 0 → Ris rs ∧ ∀ q, p = some q → ∀ r ∈ rs, befB q r = true
  | [], p, _ => ⟨List.Pairwise.nil, by simp⟩
  | r :: rs, p, h => by
    have h0 : rowF r = 0 := rowsFrom_all h r (by simp)
    have h2 : rowsFrom (some r) rs = 0 := by
      cases p with
      | none => rw [rowsFrom_0 h0] at h; exact h
      | some q =>
        cases hb : befB q r with
        | false => rw [rowsFrom_1 h0 hb] at h; omega
        | true => rw [rowsFrom_2 h0 hb] at h; exact h
    obtain ⟨i1, i2⟩ := ris_of h2
    refine ⟨List.pairwise_cons.2 ⟨i2 r rfl, i1⟩, fun q hq x hx => ?_⟩
    subst hq
    have hb : befB q r = true := by
      cases hb : befB q r with
      | false => rw [rowsFrom_1 h0 hb] at h; omega
      | true => rfl
    rcases List.mem_cons.1 hx with rfl | hx
    · exact hb
    · exact bef_trans hb (i2 r rfl x hx)
theorem ris_rows {rs : List RowD} (h : rowsF rs = 0) : Ris rs := by
  unfold rowsF at h
  split at h
  · omega
  · exact (ris_of h).1
theorem ris_ext : ∀ {l m : List RowD}, Ris l → Ris m → (∀ x, x ∈ l ↔ x ∈ m) → l = m
  | [], [], _, _, _ => rfl
  | [], b :: m, _, _, h => by have := (h b).2 (by simp); simp at this
  | a :: l, [], _, _, h => by have := (h a).1 (by simp); simp at this
  | a :: l, b :: m, h1, h2, h => by
    obtain ⟨h1, h1'⟩ := List.pairwise_cons.1 h1
    obtain ⟨h2, h2'⟩ := List.pairwise_cons.1 h2
    have hab : a = b := by
      rcases List.mem_cons.1 ((h a).1 (by simp)) with e | e
      · exact e
      rcases List.mem_cons.1 ((h b).2 (by simp)) with e' | e'
      · exact e'.symm
      exact absurd (bef_trans (h1 b e') (h2 a e)) bef_irr
    subst hab
    congr 1
    refine ris_ext h1' h2' fun x => ⟨fun hx => ?_, fun hx => ?_⟩
    · rcases List.mem_cons.1 ((h x).1 (by simp [hx])) with rfl | e
      · exact absurd (h1 x hx) bef_irr
      · exact e
    · rcases List.mem_cons.1 ((h x).2 (by simp [hx])) with rfl | e
      · exact absurd (h2 x hx) bef_irr
      · exact e
/-! put in -/
def insR (r : RowD) (ks : List RowD) : List RowD := ks.takeWhile (befB · r) ++ r :: ks.dropWhile (befB · r)
theorem mem_ins {r x : RowD} {ks : List RowD} : x ∈ insR r ks ↔ x = r ∨ x ∈ ks := by
  unfold insR
  rw [List.mem_append, List.mem_cons]
  have : x ∈ ks ↔ x ∈ ks.takeWhile (befB · r) ∨ x ∈ ks.dropWhile (befB · r) := by rw [← List.mem_append, List.takeWhile_append_dropWhile]
  rw [this]
  constructor
  · rintro (h | h | h) <;> simp [h]
  · rintro (h | h | h) <;> simp [h]
theorem tw_all {p : RowD → Bool} : ∀ {l : List RowD}, ∀ x ∈ l.takeWhile p, p x = true
  | a :: l, x, h => by
    rw [List.takeWhile_cons] at h
    split at h
    · rename_i hp
      rcases List.mem_cons.1 h with rfl | h
      · exact hp
      · exact tw_all x h
    · simp at h
theorem dw_gt {r : RowD} : ∀ {l : List RowD}, Ris l → (∀ x ∈ l, sameK x r = false) → ∀ x ∈ l.dropWhile (befB · r), befB r x = true
  | a :: l, hr, hs, x, h => by
    obtain ⟨h1, h2⟩ := List.pairwise_cons.1 hr
    rw [List.dropWhile_cons] at h
    split at h
    · exact dw_gt h2 (fun y hy => hs y (by simp [hy])) x h
    · rename_i hp
      have ha : befB r a = true := by
        by_cases hb : befB r a = true
        · exact hb
        · have := bef_tot hp hb
          rw [hs a (by simp)] at this; cases this
      rcases List.mem_cons.1 h with rfl | h
      · exact ha
      · exact bef_trans ha (h1 x h)
theorem ris_ins {r : RowD} {ks : List RowD} (hr : Ris ks) (hs : ∀ x ∈ ks, sameK x r = false) : Ris (insR r ks) := by
  unfold insR
  have hsub := List.takeWhile_append_dropWhile (p := (befB · r)) (l := ks)
  rw [← hsub] at hr
  obtain ⟨p1, p2, p3⟩ := List.pairwise_append.1 hr
  rw [hsub] at hr
  have hd := dw_gt hr hs
  refine List.pairwise_append.2 ⟨p1, List.pairwise_cons.2 ⟨hd, p2⟩, fun a ha b hb => ?_⟩
  rcases List.mem_cons.1 hb with rfl | hb
  · exact tw_all a ha
  · exact p3 a ha b hb
/-! rows found -/
def getF (x : RowD) : List RowD → Option RowD
  | [] => none
  | r :: rs => if sameK r x then some r else getF x rs
theorem getF_none {x : RowD} : ∀ {l : List RowD}, (∀ r ∈ l, sameK r x = false) → getF x l = none
  | [], _ => rfl
  | r :: l, h => by rw [getF, h r (by simp)]; exact getF_none fun q hq => h q (by simp [hq])
theorem getF_some {x : RowD} : ∀ {l : List RowD}, getF x l = none → ∀ r ∈ l, sameK r x = false
  | r :: l, h, q, hq => by
    rw [getF] at h
    split at h
    · cases h
    · rename_i hs
      rcases List.mem_cons.1 hq with rfl | hq
      · simpa using hs
      · exact getF_some h q hq
theorem at_get {x : RowD} : ∀ (rs : List RowD) (i : Nat), (atF x.tab x.key rs i = -1 ∧ getF x rs = none) ∨ ∃ j r, rs[j]? = some r ∧ atF x.tab x.key rs i = ((i + j : Nat) : Int) ∧ getF x rs = some r
  | [], i => .inl ⟨rfl, rfl⟩
  | r :: rs, i => by
    unfold atF getF
    by_cases h : r.tab = x.tab ∧ r.key = x.key
    · rw [if_pos h, if_pos (same_iff.2 h)]; exact .inr ⟨0, r, rfl, rfl, rfl⟩
    · rw [if_neg h, if_neg (fun hh => h (same_iff.1 hh))]
      rcases at_get rs (i + 1) with h1 | ⟨j, q, h1, h2, h3⟩
      · exact .inl h1
      · exact .inr ⟨j + 1, q, by simpa using h1, by rw [h2]; omega, h3⟩
/-! the keys -/
def keyStep (bs ks : List RowD) (r : RowD) : List RowD := if (getF r bs).isNone then insR r ks else ks
def keysF (bs ns : List RowD) : List RowD := ns.foldl (keyStep bs) bs
def mrgK : List RowD → List RowD → List RowD
  | [], [] => []
  | [], n :: ns => n :: mrgK [] ns
  | b :: bs, [] => b :: mrgK bs []
  | b :: bs, n :: ns =>
    if befB b n then b :: mrgK bs (n :: ns)
    else if befB n b then n :: mrgK (b :: bs) ns
    else b :: mrgK bs ns
termination_by bs ns => bs.length + ns.length
theorem ins_len {r : RowD} {ks : List RowD} : (insR r ks).length = ks.length + 1 := by
  unfold insR
  have := congrArg List.length (List.takeWhile_append_dropWhile (p := (befB · r)) (l := ks))
  simp only [List.length_append, List.length_cons] at *; omega
theorem keys_len (bs : List RowD) : ∀ (ns ks : List RowD), (ns.foldl (keyStep bs) ks).length ≤ ks.length + ns.length
  | [], ks => by simp
  | n :: ns, ks => by
    rw [List.foldl_cons]
    have := keys_len bs ns (keyStep bs ks n)
    have h2 : (keyStep bs ks n).length ≤ ks.length + 1 := by unfold keyStep; split <;> simp [ins_len]
    simp only [List.length_cons]; omega
theorem keys_ok {bs : List RowD} (hb : Ris bs) : ∀ (ns pre ks : List RowD), Ris (pre ++ ns) → Ris ks → (∀ x, x ∈ ks ↔ x ∈ bs ∨ (x ∈ pre ∧ getF x bs = none)) →
    Ris (ns.foldl (keyStep bs) ks) ∧ ∀ x, x ∈ ns.foldl (keyStep bs) ks ↔ x ∈ bs ∨ (x ∈ pre ++ ns ∧ getF x bs = none)
  | [], pre, ks, hn, hk, hm => ⟨hk, by simpa using hm⟩
  | n :: ns, pre, ks, hn, hk, hm => by
    rw [List.foldl_cons]
    have hpre : ∀ x ∈ pre, befB x n = true := fun x hx => (List.pairwise_append.1 hn).2.2 x hx n (by simp)
    have key : Ris (keyStep bs ks n) ∧ ∀ x, x ∈ keyStep bs ks n ↔ x ∈ bs ∨ (x ∈ pre ++ [n] ∧ getF x bs = none) := by
      unfold keyStep
      cases hg : getF n bs with
      | none =>
        rw [if_pos (show (none : Option RowD).isNone = true from rfl)]
        refine ⟨ris_ins hk fun x hx => ?_, fun x => ?_⟩
        · rcases (hm x).1 hx with h | h
          · exact getF_some hg x h
          · exact bef_ns (hpre x h.1)
        · rw [mem_ins, hm]
          constructor
          · rintro (rfl | h | h)
            · exact .inr ⟨by simp, hg⟩
            · exact .inl h
            · exact .inr ⟨by simp [h.1], h.2⟩
          · rintro (h | h)
            · exact .inr (.inl h)
            · rcases List.mem_append.1 h.1 with h1 | h1
              · exact .inr (.inr ⟨h1, h.2⟩)
              · exact .inl (by simpa using h1)
      | some q =>
        rw [if_neg (by simp)]
        refine ⟨hk, fun x => ?_⟩
        rw [hm]
        constructor
        · rintro (h | h)
          · exact .inl h
          · exact .inr ⟨by simp [h.1], h.2⟩
        · rintro (h | h)
          · exact .inl h
          · rcases List.mem_append.1 h.1 with h1 | h1
            · exact .inr ⟨h1, h.2⟩
            · rw [show x = n from by simpa using h1, hg] at h; cases h.2
    have := keys_ok hb ns (pre ++ [n]) (keyStep bs ks n) (by simpa using hn) key.1 key.2
    simpa using this
theorem mrg_mem : ∀ {bs ns : List RowD}, ∀ x ∈ mrgK bs ns, x ∈ bs ∨ x ∈ ns := by
  intro bs ns
  induction bs, ns using mrgK.induct with
  | case1 => simp [mrgK]
  | case2 n ns ih => intro x hx; rw [mrgK] at hx; rcases List.mem_cons.1 hx with rfl | hx
                     · simp
                     · rcases ih x hx with h | h <;> simp [h]
  | case3 b bs ih => intro x hx; rw [mrgK] at hx; rcases List.mem_cons.1 hx with rfl | hx
                     · simp
                     · rcases ih x hx with h | h <;> simp [h]
  | case4 b bs n ns h1 ih => intro x hx; rw [mrgK, if_pos h1] at hx; rcases List.mem_cons.1 hx with rfl | hx
                             · simp
                             · rcases ih x hx with h | h
                               · simp [h]
                               · exact .inr h
  | case5 b bs n ns h1 h2 ih => intro x hx; rw [mrgK, if_neg h1, if_pos h2] at hx; rcases List.mem_cons.1 hx with rfl | hx
                                · simp
                                · rcases ih x hx with h | h
                                  · exact .inl h
                                  · simp [h]
  | case6 b bs n ns h1 h2 ih => intro x hx; rw [mrgK, if_neg h1, if_neg h2] at hx; rcases List.mem_cons.1 hx with rfl | hx
                                · simp
                                · rcases ih x hx with h | h <;> simp [h]
theorem mrg_ok : ∀ {bs ns : List RowD}, Ris bs → Ris ns → Ris (mrgK bs ns) ∧ ∀ x, x ∈ mrgK bs ns ↔ x ∈ bs ∨ (x ∈ ns ∧ getF x bs = none) := by
  intro bs ns
  induction bs, ns using mrgK.induct with
  | case1 => intro _ _; simp [mrgK]
  | case2 n ns ih =>
    intro hb hn
    obtain ⟨n1, n2⟩ := List.pairwise_cons.1 hn
    obtain ⟨i1, i2⟩ := ih hb n2
    rw [mrgK]
    refine ⟨List.pairwise_cons.2 ⟨fun x hx => ?_, i1⟩, fun x => ?_⟩
    · rcases mrg_mem x hx with h | h
      · simp at h
      · exact n1 x h
    · rw [List.mem_cons, i2]; simp [getF]
  | case3 b bs ih =>
    intro hb hn
    obtain ⟨b1, b2⟩ := List.pairwise_cons.1 hb
    obtain ⟨i1, i2⟩ := ih b2 hn
    rw [mrgK]
    refine ⟨List.pairwise_cons.2 ⟨fun x hx => ?_, i1⟩, fun x => ?_⟩
    · rcases mrg_mem x hx with h | h
      · exact b1 x h
      · simp at h
    · rw [List.mem_cons, i2]; simp
  | case4 b bs n ns h1 ih =>
    intro hb hn
    obtain ⟨b1, b2⟩ := List.pairwise_cons.1 hb
    obtain ⟨n1, n2⟩ := List.pairwise_cons.1 hn
    obtain ⟨i1, i2⟩ := ih b2 hn
    have hbn : ∀ x ∈ n :: ns, befB b x = true := fun x hx => by
      rcases List.mem_cons.1 hx with rfl | hx
      · exact h1
      · exact bef_trans h1 (n1 x hx)
    rw [mrgK, if_pos h1]
    refine ⟨List.pairwise_cons.2 ⟨fun x hx => ?_, i1⟩, fun x => ?_⟩
    · rcases mrg_mem x hx with h | h
      · exact b1 x h
      · exact hbn x h
    · rw [List.mem_cons, i2, show (x ∈ b :: bs) = (x = b ∨ x ∈ bs) from propext List.mem_cons, or_assoc]
      refine or_congr Iff.rfl (or_congr Iff.rfl ⟨fun h => ⟨h.1, ?_⟩, fun h => ⟨h.1, ?_⟩⟩)
      · rw [getF, if_neg (by rw [bef_ns (hbn x h.1)]; simp)]; exact h.2
      · have := h.2; rw [getF, if_neg (by rw [bef_ns (hbn x h.1)]; simp)] at this; exact this
  | case5 b bs n ns h1 h2 ih =>
    intro hb hn
    obtain ⟨b1, b2⟩ := List.pairwise_cons.1 hb
    obtain ⟨n1, n2⟩ := List.pairwise_cons.1 hn
    obtain ⟨i1, i2⟩ := ih hb n2
    have hnb : ∀ x ∈ b :: bs, befB n x = true := fun x hx => by
      rcases List.mem_cons.1 hx with rfl | hx
      · exact h2
      · exact bef_trans h2 (b1 x hx)
    rw [mrgK, if_neg h1, if_pos h2]
    refine ⟨List.pairwise_cons.2 ⟨fun x hx => ?_, i1⟩, fun x => ?_⟩
    · rcases mrg_mem x hx with h | h
      · exact hnb x h
      · exact n1 x h
    · rw [List.mem_cons, i2]
      have hg : getF n (b :: bs) = none := getF_none fun r hr => bef_sn (hnb r hr)
      constructor
      · rintro (rfl | h | h)
        · exact .inr ⟨by simp, hg⟩
        · exact .inl h
        · exact .inr ⟨by simp [h.1], h.2⟩
      · rintro (h | h)
        · exact .inr (.inl h)
        · rcases List.mem_cons.1 h.1 with h3 | h3
          · exact .inl h3
          · exact .inr (.inr ⟨h3, h.2⟩)
  | case6 b bs n ns h1 h2 ih =>
    intro hb hn
    obtain ⟨b1, b2⟩ := List.pairwise_cons.1 hb
    obtain ⟨n1, n2⟩ := List.pairwise_cons.1 hn
    obtain ⟨i1, i2⟩ := ih b2 n2
    have hs := bef_tot h1 h2
    have hbn : ∀ x ∈ ns, befB b x = true := fun x hx => by
      have := n1 x hx
      rw [bef_iff] at *; rw [same_iff] at hs; omega
    rw [mrgK, if_neg h1, if_neg h2]
    refine ⟨List.pairwise_cons.2 ⟨fun x hx => ?_, i1⟩, fun x => ?_⟩
    · rcases mrg_mem x hx with h | h
      · exact b1 x h
      · exact hbn x h
    · rw [List.mem_cons, i2, show (x ∈ b :: bs) = (x = b ∨ x ∈ bs) from propext List.mem_cons, or_assoc]
      refine or_congr Iff.rfl (or_congr Iff.rfl ⟨fun h => ⟨by simp [h.1], ?_⟩, fun h => ?_⟩)
      · rw [getF, if_neg (by rw [bef_ns (hbn x h.1)]; simp)]; exact h.2
      · have hx : x ∈ ns := by
          rcases List.mem_cons.1 h.1 with rfl | h3
          · have := h.2; rw [getF, if_pos hs] at this; cases this
          · exact h3
        have := h.2; rw [getF, if_neg (by rw [bef_ns (hbn x hx)]; simp)] at this; exact ⟨hx, this⟩
theorem keys_mrg {bs ns : List RowD} (hb : Ris bs) (hn : Ris ns) : keysF bs ns = mrgK bs ns := by
  obtain ⟨k1, k2⟩ := keys_ok hb ns [] bs (by simpa using hn) hb (by simp)
  obtain ⟨m1, m2⟩ := mrg_ok hb hn
  exact ris_ext k1 m1 fun x => by rw [m2, show (x ∈ keysF bs ns) = _ from propext (k2 x)]; simp
/-! the changes -/
def ckF (bs ns : List RowD) (x : RowD) : ChgD := ⟨(getF x bs).isSome, (getF x bs).getD zR, (getF x ns).isSome, (getF x ns).getD zR⟩
theorem flat_congr {α β : Type} {f g : α → List β} : ∀ {l : List α}, (∀ x ∈ l, f x = g x) → l.flatMap f = l.flatMap g
  | [], _ => rfl
  | a :: l, h => by rw [List.flatMap_cons, List.flatMap_cons, h a (by simp), flat_congr fun x hx => h x (by simp [hx])]
theorem getF_skip {x r : RowD} {l : List RowD} (h : sameK r x = false) : getF x (r :: l) = getF x l := by rw [getF, if_neg (by simp [h])]
theorem getF_hit {x r : RowD} {l : List RowD} (h : sameK r x = true) : getF x (r :: l) = some r := by rw [getF, if_pos h]
theorem same_refl {a : RowD} : sameK a a = true := by rw [same_iff]; exact ⟨rfl, rfl⟩
theorem mrg_btw : ∀ {bs ns : List RowD}, Ris bs → Ris ns → (mrgK bs ns).flatMap (fun x => one (ckF bs ns x)) = btw bs ns := by
  intro bs ns
  induction bs, ns using mrgK.induct with
  | case1 => intro _ _; simp [mrgK, btw]
  | case2 n ns ih =>
    intro hb hn
    obtain ⟨n1, n2⟩ := List.pairwise_cons.1 hn
    rw [mrgK, btw, List.flatMap_cons, ← ih hb n2]
    congr 1
    · unfold ckF; rw [getF_hit same_refl]; rfl
    · refine flat_congr fun x hx => ?_
      have : befB n x = true := by
        rcases mrg_mem x hx with h | h
        · simp at h
        · exact n1 x h
      unfold ckF; rw [getF_skip (bef_ns this)]
  | case3 b bs ih =>
    intro hb hn
    obtain ⟨b1, b2⟩ := List.pairwise_cons.1 hb
    rw [mrgK, btw, List.flatMap_cons, ← ih b2 hn]
    congr 1
    · unfold ckF; rw [getF_hit same_refl]; rfl
    · refine flat_congr fun x hx => ?_
      have : befB b x = true := by
        rcases mrg_mem x hx with h | h
        · exact b1 x h
        · simp at h
      unfold ckF; rw [getF_skip (bef_ns this)]
  | case4 b bs n ns h1 ih =>
    intro hb hn
    obtain ⟨b1, b2⟩ := List.pairwise_cons.1 hb
    obtain ⟨n1, n2⟩ := List.pairwise_cons.1 hn
    have hbn : ∀ x ∈ n :: ns, befB b x = true := fun x hx => by
      rcases List.mem_cons.1 hx with rfl | hx
      · exact h1
      · exact bef_trans h1 (n1 x hx)
    rw [mrgK, btw, if_pos h1, if_pos h1, List.flatMap_cons, ← ih b2 hn]
    congr 1
    · unfold ckF; rw [getF_hit same_refl, getF_none fun r hr => bef_sn (hbn r hr)]; rfl
    · refine flat_congr fun x hx => ?_
      have : befB b x = true := by
        rcases mrg_mem x hx with h | h
        · exact b1 x h
        · exact hbn x h
      unfold ckF; rw [getF_skip (r := b) (bef_ns this)]
  | case5 b bs n ns h1 h2 ih =>
    intro hb hn
    obtain ⟨b1, b2⟩ := List.pairwise_cons.1 hb
    obtain ⟨n1, n2⟩ := List.pairwise_cons.1 hn
    have hnb : ∀ x ∈ b :: bs, befB n x = true := fun x hx => by
      rcases List.mem_cons.1 hx with rfl | hx
      · exact h2
      · exact bef_trans h2 (b1 x hx)
    rw [mrgK, btw, if_neg h1, if_pos h2, if_neg h1, if_pos h2, List.flatMap_cons, ← ih hb n2]
    congr 1
    · unfold ckF; rw [getF_hit (l := ns) same_refl, getF_none fun r hr => bef_sn (hnb r hr)]; rfl
    · refine flat_congr fun x hx => ?_
      have : befB n x = true := by
        rcases mrg_mem x hx with h | h
        · exact hnb x h
        · exact n1 x h
      unfold ckF; rw [getF_skip (r := n) (bef_ns this)]
  | case6 b bs n ns h1 h2 ih =>
    intro hb hn
    obtain ⟨b1, b2⟩ := List.pairwise_cons.1 hb
    obtain ⟨n1, n2⟩ := List.pairwise_cons.1 hn
    have hs := bef_tot h1 h2
    have hs' : sameK n b = true := by rw [same_iff] at *; omega
    have hbn : ∀ x ∈ ns, befB b x = true := fun x hx => by
      have := n1 x hx
      rw [bef_iff] at *; rw [same_iff] at hs; omega
    rw [mrgK, btw, if_neg h1, if_neg h2, if_neg h1, if_neg h2, List.flatMap_cons, ← ih b2 n2]
    congr 1
    · unfold ckF; rw [getF_hit same_refl, getF_hit (r := n) hs']; rfl
    · refine flat_congr fun x hx => ?_
      have hx : befB b x = true := by
        rcases mrg_mem x hx with h | h
        · exact b1 x h
        · exact hbn x h
      have hx2 : sameK n x = false := by
        have := bef_ns hx
        cases hq : sameK n x with
        | false => rfl
        | true => rw [same_iff] at *; rw [bef_iff] at hx; omega
      unfold ckF; rw [getF_skip (r := b) (bef_ns hx), getF_skip (r := n) hx2]
theorem keys_btw {bs ns : List RowD} (hb : Ris bs) (hn : Ris ns) : (keysF bs ns).flatMap (fun x => one (ckF bs ns x)) = btw bs ns := by
  rw [keys_mrg hb hn, mrg_btw hb hn]
end Vm
/-
  The changes between rising rows: the specification's way.
-/
namespace Vm
open Go
theorem frz_pv {h : H} {b : Nat} {cs : List S} (hb : b < h.n) (hg : h.g b = .rw 0 cs) (hc : ∀ s ∈ cs, Cl s) : frzV h (pv b 0) = some (fv cs 0) := by
  have h7 : mapO (frzS h 7) cs = some cs := mapO_cl hc
  simp only [frzV, frzS, hb, if_true, hg, h7, Option.bind_some]
/-- a slice of flat rows that fills its block -/
structure FlS (z : Nat) (h : H) (v : V) (rows : List (List S)) (b : Nat) : Prop where
  v : v = sv b 0 rows.length
  n : b < h.n
  g : h.g b = .rw z rows.flatten
  z : ∀ r ∈ rows, r.length = z
theorem FlS.cells {z b : Nat} {h : H} {v : V} {rows : List (List S)} (w : FlS z h v rows b) : cellsS z h v = some rows.flatten := by
  have hc : h.cells b = rows.flatten := by unfold H.cells; rw [if_pos w.n, w.g]; rfl
  have hl := flat_len w.z
  rw [w.v]
  simp only [cellsS, hc]
  rw [if_pos ⟨w.n, by omega⟩, List.drop_zero, List.take_of_length_le (by omega)]
theorem cellsS_lv {z : Nat} {h : H} {rows : List (List S)} (hz : ∀ r ∈ rows, r.length = z) : cellsS z h (lv rows) = some rows.flatten := by
  simp only [cellsS, if_pos hz]
theorem cellsS_row {z : Nat} {h : H} {row : List S} (hz : row.length = z) : cellsS z (h.new z row) (sv h.n 0 1) = some row := by
  have c2 : (h.new z row).cells h.n = row := by unfold H.cells; rw [if_pos (by simp), new_g]; rfl
  simp only [cellsS, c2]
  rw [if_pos ⟨by simp, by omega⟩, List.drop_zero, List.take_of_length_le (by omega)]
theorem app_fl {z b : Nat} {h : H} {v y : V} {rows more : List (List S)} (w : FlS z h v rows b) (hm : ∀ r ∈ more, r.length = z) (hc : cellsS z h y = some more.flatten) (hy : lenS y = some more.length) (hz0 : 0 < z) (hl : rows.length + more.length ≤ lim) :
    ∃ v' h', appS z h v y = some (v', h') ∧ FlS z h' v' (rows ++ more) h.n ∧ h'.n = h.n + 1 ∧ ∀ c, c < h.n → c ≠ b → h'.g c = h.g c := by
  have h1 := w.cells
  obtain ⟨rfl, w2, w3, w4⟩ := w
  refine ⟨sv h.n 0 (rows.length + more.length), (h.put b .dead).new z (rows.flatten ++ more.flatten), ?_, ⟨by rw [List.length_append], by simp, ?_, ?_⟩, by simp, fun c hc hcb => ?_⟩
  · simp only [appS, h1, hc, hy, Option.bind_some]
    rw [if_pos ⟨w2, hl, hz0⟩, w3]
    simp
  · rw [List.flatten_append]; exact new_g (h.put b .dead) _ _
  · intro r hr
    rcases List.mem_append.1 hr with hr | hr
    · exact w4 r hr
    · exact hm r hr
  · rw [new_g' (by simp; omega), put_g' hcb]
theorem FlS.nil {z : Nat} {h : H} : FlS z (h.new z []) (sv h.n 0 0) [] h.n := ⟨rfl, by simp, new_g _ _ _, by simp⟩
theorem FlS.keep {z b : Nat} {h h' : H} {v : V} {rows : List (List S)} (w : FlS z h v rows b) (hn : h.n ≤ h'.n) (hg : h'.g b = h.g b) : FlS z h' v rows b := ⟨w.v, by have := w.n; omega, by rw [hg]; exact w.g, w.z⟩
theorem FlS.own {z b n : Nat} {h : H} {y : S} {rows : List (List S)} (w : FlS z h (.s y) rows b) (hz0 : 0 < z) (hn : n ≤ b) (hs : ∀ r ∈ rows, ∀ s ∈ r, Sc s) : OwnF 1 y (.fs rows) n h.n h := by
  have hv := w.v
  injection hv with hv
  subst hv
  refine ⟨[b], ?_, by simp, by simpa using ⟨hn, w.n⟩⟩
  exact Rep.sl (bss := []) w.n hz0 w.g w.z (RepL.sc fun s hs' => by
    obtain ⟨r, h1, h2⟩ := List.mem_flatten.1 hs'
    exact hs r h1 s h2)
theorem FlS.frz {b z : Nat} {h : H} {v : V} {rows : List (List S)} (w : FlS z h v rows b) (hz0 : 0 < z) (hs : ∀ r ∈ rows, ∀ s ∈ r, Sc s) : frzV h v = some (lv rows) := by
  rw [w.v]; exact frzV_sv w.n hz0 w.g w.z fun r hr s h => (hs r hr s h).cl
/-- out of what is one's own -/
theorem OwnF.fl {z lo hi : Nat} {h : H} {y : S} {rows : List (List S)} (w : OwnF 1 y (.fs rows) lo hi h) (hz : ∀ r ∈ rows, r.length = z) (hs : ∀ r ∈ rows, ∀ s ∈ r, Sc s) (hne : rows ≠ []) : ∃ b, FlS z h (.s y) rows b ∧ lo ≤ b ∧ b < hi := by
  obtain ⟨bs, w1, w2, w3⟩ := w
  rcases w1 with ⟨⟨h1, h2⟩ | ⟨h1, h2⟩, h3⟩ | ⟨b, z', cs, rows', bss, h1, h0, h2, h3, h4, h5, h6, h7⟩
  · rw [← h2] at h1; exact h1.elim
  · injection h2 with h2; exact absurd h2 hne
  · injection h0 with h0
    subst h0
    obtain ⟨rfl, rfl⟩ := h7.of_sc fun s hs' => by
      obtain ⟨r, h8, h9⟩ := List.mem_flatten.1 hs'
      exact hs r h8 s h9
    obtain ⟨r, rows', rfl⟩ := List.exists_cons_of_ne_nil hne
    have : z' = z := by rw [← h6 r (by simp), hz r (by simp)]
    subst this
    exact ⟨b, ⟨by rw [h1], h3, h5, h6⟩, w3 b (by rw [h2]; simp)⟩
theorem flat_get {z : Nat} : ∀ {rows : List (List S)} {i j : Nat} {r : List S}, (∀ r ∈ rows, r.length = z) → rows[i]? = some r → j < z → rows.flatten[i * z + j]? = r[j]?
  | [], i, j, r, _, h, _ => by simp at h
  | q :: rows, 0, j, r, hz, h, hj => by
    simp only [List.getElem?_cons_zero, Option.some.injEq] at h
    subst h
    rw [List.flatten_cons, Nat.zero_mul, Nat.zero_add, List.getElem?_append_left (by rw [hz q (by simp)]; exact hj)]
  | q :: rows, i + 1, j, r, hz, h, hj => by
    rw [List.getElem?_cons_succ] at h
    have hq := hz q (by simp)
    rw [List.flatten_cons, List.getElem?_append_right (by rw [hq, Nat.succ_mul]; omega), hq, show (i + 1) * z + j - z = i * z + j from by rw [Nat.succ_mul]; omega]
    exact flat_get (fun r hr => hz r (by simp [hr])) h hj
theorem FlS.ld {b i j : Nat} {h : H} {v : V} {rs : List RowD} {r : RowD} {x : S} (w : FlS 4 h v (rws rs) b) (hr : rs[i]? = some r) (hj : j < 4) (hx : r.cs[j]? = some x) : load1 h (pv b (i * 4 + j)) = some x := by
  refine load1_cs (cs := (rws rs).flatten) (by unfold H.cells; rw [if_pos w.n, w.g]; rfl) ?_
  rw [flat_get w.z (rws_get hr) hj, hx]
/-! put in -/
theorem p_before_pv {h : H} {b : Nat} {k r : RowD} (hb : b < h.n) (hg : h.g b = .rw 0 r.cs) : (frzVs h [fv k.cs 0, pv b 0]).bind (fun l203 => some (normVs [4, 4] l203)) = some [fv k.cs 0, fv r.cs 0] := by
  have e1 : frzV h (fv k.cs 0) = some (fv k.cs 0) := by simp
  rw [frzVs_cons e1 (frzVs_cons (frz_pv hb hg row_cl) frzVs_nil), Vm.ob]; rfl
theorem slF_rws {rs : List RowD} {k : Nat} {R : Type} {f : List (List S) → Option R} (hk : k ≤ rs.length) : slF 4 (rws rs) none (some (iv .i64 (k : Int))) f = f (rws (rs.take k)) ∧ slF 4 (rws rs) (some (iv .i64 (k : Int))) none f = f (rws (rs.drop k)) := by
  have hb : bnd (rws rs).length (iv .i64 (k : Int)) = some k := by rw [rws_len]; exact bnd_of hk
  unfold slF
  refine ⟨?_, ?_⟩
  · simp only [Option.bind_some, hb]
    rw [if_pos rws_row, List.drop_zero]; simp [rws, List.map_take]
  · simp only [Option.bind_some, hb]
    rw [if_pos rws_row, List.take_length]; simp [rws, List.map_drop]
theorem tw_pos {k r : RowD} {ks : List RowD} (h : befB k r = true) : (k :: ks).takeWhile (befB · r) = k :: ks.takeWhile (befB · r) ∧ (k :: ks).dropWhile (befB · r) = ks.dropWhile (befB · r) := by
  rw [List.takeWhile_cons, List.dropWhile_cons]; simp [h]
theorem tw_neg {k r : RowD} {ks : List RowD} (h : befB k r = false) : (k :: ks).takeWhile (befB · r) = [] ∧ (k :: ks).dropWhile (befB · r) = k :: ks := by
  rw [List.takeWhile_cons, List.dropWhile_cons]; simp [h]
theorem tw_dw {r : RowD} : ∀ (ks : List RowD), ks.take (ks.takeWhile (befB · r)).length = ks.takeWhile (befB · r) ∧ ks.drop (ks.takeWhile (befB · r)).length = ks.dropWhile (befB · r)
  | [] => ⟨rfl, rfl⟩
  | k :: ks => by
    obtain ⟨i1, i2⟩ := tw_dw (r := r) ks
    cases hb : befB k r with
    | true => rw [(tw_pos hb).1, (tw_pos hb).2]; exact ⟨by rw [List.length_cons, List.take_succ_cons, i1], by rw [List.length_cons, List.drop_succ_cons, i2]⟩
    | false => rw [(tw_neg hb).1, (tw_neg hb).2]; exact ⟨rfl, rfl⟩
theorem f_l6Put {ks : List RowD} {r : RowD} (hl : ks.length + 1 ≤ lim) (n : Nat) : ∃ y h', call Ev Fn.spec_l6Put [lv (rws ks), .agg r.cs] (D n) = some (.s y, h') ∧ n ≤ h'.n ∧ OwnF 1 y (.fs (rws (insR r ks))) n h'.n h' := by
  have hl' := hl
  unfold lim at hl'
  have loop : ∀ (q : List RowD) (i : Nat), ks.drop i = q → Lp.spec_l6Put 0 [lv (rws ks), pv n 0, iv .i64 i] ((D n).new 0 r.cs) = some (.done [lv (rws ks), pv n 0, iv .i64 ((i + (q.takeWhile (befB · r)).length : Nat) : Int)] ((D n).new 0 r.cs)) := by
    intro q
    induction q with
    | nil =>
      intro i hi
      have := drop_nil hi
      rw [eq_spec_l6Put_l0, vcase_b, if_neg (by simp; omega), tidy_self]; simp
    | cons k q ih =>
      intro i hi
      obtain ⟨g1, g2, g3⟩ := drop_cons hi
      rw [eq_spec_l6Put_l0, vcase_b, if_pos (by simp; omega), idxF_rw g1]
      have e := p_before_pv (h := (D n).new 0 r.cs) (b := n) (k := k) (r := r) (by simp) (by exact new_g (D n) _ _)
      obtain ⟨l, e1, e2⟩ : ∃ l, frzVs ((D n).new 0 r.cs) [fv k.cs 0, pv n 0] = some l ∧ normVs [4, 4] l = [fv k.cs 0, fv r.cs 0] := by
        cases hf : frzVs ((D n).new 0 r.cs) [fv k.cs 0, pv n 0] with
        | none => rw [hf] at e; cases e
        | some l => rw [hf, Vm.ob] at e; exact ⟨l, rfl, by injection e⟩
      rw [e1, ob, e2, pc (p_l1Before k r) rfl]
      simp only [gV1_s, gB_b, vcase_b, tidy_self]
      rw [w64 (by omega) (by omega), show (i : Int) + 1 = ((i + 1 : Nat) : Int) from by omega]
      cases hb : befB k r with
      | true =>
        rw [if_pos rfl, ih (i + 1) g2, (tw_pos hb).1, List.length_cons, Nat.add_assoc i 1, Nat.add_comm 1]
      | false => rw [if_neg (by simp), (tw_neg hb).1]; simp
  have htl : (ks.takeWhile (befB · r)).length ≤ ks.length := by
    have := congrArg List.length (List.takeWhile_append_dropWhile (p := (befB · r)) (l := ks))
    rw [List.length_append] at this; omega
  have hdl : (ks.takeWhile (befB · r)).length + (ks.dropWhile (befB · r)).length = ks.length := by
    have := congrArg List.length (List.takeWhile_append_dropWhile (p := (befB · r)) (l := ks))
    rw [List.length_append] at this; omega
  obtain ⟨t1, t2⟩ := tw_dw (r := r) ks
  rw [eq_spec_l6Put, D_n, show iv .i64 0 = iv .i64 ((0 : Nat) : Int) from rfl, loop ks 0 rfl, ob, lcase_done]
  simp only [gx0, gx1, ob, gV1_s, gF_f, gI_i, Nat.zero_add]
  rw [(slF_rws htl).1, t1]
  obtain ⟨v1, h1, e1, w1, n1, k1⟩ := app_fl (z := 4) (h := ((D n).new 0 r.cs).new 4 []) (y := lv (rws (ks.takeWhile (befB · r)))) (more := rws (ks.takeWhile (befB · r))) FlS.nil rws_row (cellsS_lv rws_row) rfl (by omega) (by simp; unfold lim; omega)
  rw [e1, ob]
  have gr : h1.g n = .rw 0 r.cs := by rw [k1 n (by simp; omega) (by simp), new_g' (by simp)]; exact new_g (D n) _ _
  have cr : h1.cells n = r.cs := by unfold H.cells; rw [if_pos (by rw [n1]; simp; omega), gr]; rfl
  rw [ldK_agg rfl (loadN_cs (by rw [n1]; simp; omega) cr rfl)]
  simp only [gVA_a, ob, gx0, gx1, gI_i, gS_s, ln0, ln1, Nat.zero_add, Nat.reduceAdd, if_true]
  rw [(slF_rws htl).2, t2, hchk_of (HKeep.refl h1).new.ext]
  have w1' : FlS 4 (h1.new 4 r.cs) v1 ([] ++ rws (ks.takeWhile (befB · r))) _ := w1.keep (by simp) (new_g' (by have := w1.n; omega))
  obtain ⟨v2, h2, e2, w2, n2, k2⟩ := app_fl (z := 4) (h := h1.new 4 r.cs) (y := sv h1.n 0 1) (more := [r.cs]) w1' (by simp) (by simpa using cellsS_row (h := h1) (z := 4) (row := r.cs) rfl) rfl (by omega) (by simp; unfold lim; omega)
  rw [e2, ob]
  obtain ⟨v3, h3, e3, w3, n3, k3⟩ := app_fl (z := 4) (h := h2) (y := lv (rws (ks.dropWhile (befB · r)))) (more := rws (ks.dropWhile (befB · r))) w2 rws_row (cellsS_lv rws_row) rfl (by omega) (by simp; unfold lim; omega)
  rw [e3, ob]
  have hr : ([] ++ rws (ks.takeWhile (befB · r)) ++ [r.cs] ++ rws (ks.dropWhile (befB · r))) = rws (insR r ks) := by simp [insR, rws]
  rw [hr] at w3
  have hv := w3.v
  subst hv
  refine ⟨_, h3, rfl, by rw [n3, n2]; simp; rw [n1]; simp; omega, w3.own (by omega) ?_ rws_sc⟩
  rw [n2]; simp; rw [n1]; simp; omega
/-! the keys -/
theorem keyStep_len {bs ks : List RowD} {r : RowD} : (keyStep bs ks r).length ≤ ks.length + 1 := by unfold keyStep; split <;> simp [ins_len]
theorem lp_keys {bs ns : List RowD} (hl : bs.length ≤ maxLen) (hln : ns.length ≤ 1000000) : ∀ (q : List RowD) (i : Nat) (ks : List RowD) (v : V) (b : Nat) (h : H), ns.drop i = q → FlS 4 h v (rws ks) b → ks.length + q.length ≤ 10000000 →
    ∃ v' b' h', Lp.spec_l6Changes 0 [lv (rws bs), lv (rws ns), v, iv .i64 i] h = some (.done [lv (rws bs), lv (rws ns), v'] h') ∧ FlS 4 h' v' (rws (q.foldl (keyStep bs) ks)) b' := by
  intro q
  induction q with
  | nil =>
    intro i ks v b h hi w hk
    have := drop_nil hi
    refine ⟨v, b, h, ?_, w⟩
    rw [eq_spec_l6Changes_l0, vcase_b, if_neg (by simp; omega), tidy_self]
  | cons r q ih =>
    intro i ks v b h hi w hk
    simp only [List.length_cons] at hk
    obtain ⟨g1, g2, g3⟩ := drop_cons hi
    rw [eq_spec_l6Changes_l0, vcase_b, if_pos (by simp; omega), idxF_rw g1]
    simp only [ob, gx0, gI_i]
    rw [idxF_rw g1]
    simp only [ob, gx0, gx1, gI_i]
    rw [pc (p_l6At hl) rfl]
    simp only [gV1_s, gI_i, hchk_self, vcase_b, decide_eq_true_eq]
    rw [w64 (by omega) (by omega), show (i : Int) + 1 = ((i + 1 : Nat) : Int) from by omega]
    rw [List.foldl_cons]
    rcases at_get (x := r) bs 0 with ⟨h1, h2⟩ | ⟨j, x, h1, h2, h3⟩
    · have e : keyStep bs ks r = insR r ks := by unfold keyStep; rw [h2]; rfl
      rw [h1, if_pos (by omega), idxF_rw g1, rowN_rw, e]
      simp only [ob, gx0, gx1, gI_i, gS_s, ln0, ln1, Nat.zero_add, Nat.reduceAdd, if_true]
      have ea : frzV h (.agg r.cs) = some (.agg r.cs) := by simp
      rw [frzVs_cons (w.frz (by omega) rws_sc) (frzVs_cons ea frzVs_nil), ob, norm_nil]
      obtain ⟨y, hp, e1, n1, w1⟩ := f_l6Put (ks := ks) (r := r) (by unfold lim; omega) h.n
      obtain ⟨K, e2, u2, n2, w2⟩ := pV (h := h) (n := h.n) (off := [v, V.agg r.cs].all offV) rfl e1 n1 w1
      rw [e2]
      obtain ⟨b2, w3, b3, b4⟩ := w2.now.fl rws_row rws_sc (by
        intro hh
        have := congrArg List.length hh
        rw [rws_len, ins_len] at this; simp at this)
      have hv := w3.v
      injection hv with hv
      subst hv
      rw [grow_tidy (h := h) (m := b2) (k := (rws (insR r ks)).length) b3 (by simp)]
      exact ih (i + 1) (insR r ks) _ b2 K g2 w3 (by rw [ins_len]; omega)
    · have e : keyStep bs ks r = ks := by unfold keyStep; rw [h3]; rfl
      rw [h2, if_neg (by omega), tidy_self, e]
      exact ih (i + 1) ks v b h g2 w (by omega)
/-! the changes -/
theorem cs_l0 {m : Nat} {h0 h h' : H} {y : S} {out : List ChgD} {c : ChgD} {vs : V} {bs ns : List (List S)} {i : Nat} (hi : i < 100000000) (w : Nw h c.cs h') (g : Gr 10 m h0 y (chs out) h) (hl : out.length + 1 ≤ lim) :
    ∃ y' h2, Jn.spec_l6Changes_l2_0 h' h (.s y) bs ns vs (i : Int) = Lp.spec_l6Changes 2 [lv bs, lv ns, vs, .s y', iv .i64 ((i + 1 : Nat) : Int)] h2 ∧ Gr 10 m h0 y' (chs (out ++ [c])) h2 := by
  unfold Jn.spec_l6Changes_l2_0
  rw [w.ldN (o := 0) (n := 10) (r := c.cs) (by simp) rfl]
  simp only [ob, gx0, gx1, gI_i, gS_s, gB_b, ln0, ln1, Nat.zero_add, Nat.reduceAdd, if_true]
  obtain ⟨h2, e, g', hn⟩ := (g.keep w.keep).app (row := c.cs) chg_sc rfl (by omega) (by rw [chs_len]; exact hl)
  rw [e, ob, w64 (by omega) (by omega), show (i : Int) + 1 = ((i + 1 : Nat) : Int) from by omega, grow_tidy (m := h'.n + 1) (k := (chs out).length + 1) (by rw [w.n]; omega) (by simp)]
  rw [← chs_snoc] at g'
  exact ⟨_, h2, rfl, g'⟩
/-- a row that was looked up, and where it stands -/
def Fnd (rs : List RowD) (x : RowD) (i : Int) : Prop := (i = -1 ∧ getF x rs = none) ∨ ∃ j r, rs[j]? = some r ∧ i = ((j : Nat) : Int) ∧ getF x rs = some r
theorem fnd_at (rs : List RowD) (x : RowD) : Fnd rs x (atF x.tab x.key rs 0) := by
  rcases at_get (x := x) rs 0 with h | ⟨j, r, h1, h2, h3⟩
  · exact .inl h
  · exact .inr ⟨j, r, h1, by rw [h2, Nat.zero_add], h3⟩
theorem cs_l1 {m : Nat} {h0 h : H} {y : S} {out : List ChgD} {vs : V} {bs ns : List RowD} {x : RowD} {p q : Int} {i : Nat} (q0 q1 : Bool) (w1 w2 w3 w4 w5 w6 w7 w8 w9 : V) (hi : i < 100000000) (hp : Fnd bs x p) (hq : Fnd ns x q) (h1 : q1 = !keepB (ckF bs ns x)) (g : Gr 10 m h0 y (chs out) h) (hl : out.length + 1 ≤ lim) :
    ∃ y' h2, Jn.spec_l6Changes_l2_1 q0 w1 w2 w3 w4 w5 w6 w7 w8 w9 q1 (rws bs) (rws ns) vs (.s y) (i : Int) h p q = Lp.spec_l6Changes 2 [lv (rws bs), lv (rws ns), vs, .s y', iv .i64 ((i + 1 : Nat) : Int)] h2 ∧ Gr 10 m h0 y' (chs (out ++ one (ckF bs ns x))) h2 := by
  subst h1
  unfold Jn.spec_l6Changes_l2_1
  rw [vcase_b]
  cases hk : keepB (ckF bs ns x) with
  | false =>
    have : one (ckF bs ns x) = [] := by unfold one; rw [hk]; rfl
    rw [this, List.append_nil, w64 (by omega) (by omega), show (i : Int) + 1 = ((i + 1 : Nat) : Int) from by omega]
    exact ⟨y, h, by simp, g⟩
  | true =>
    have ho : one (ckF bs ns x) = [ckF bs ns x] := by unfold one; rw [hk]; rfl
    rw [ho, if_neg (by simp)]
    have w : Nw h zC (h.new 0 zC) := Nw.new
    have pb : decide (p ≥ 0) = (getF x bs).isSome := by
      rcases hp with ⟨rfl, hp⟩ | ⟨j, r, hj, rfl, hp⟩ <;> rw [hp] <;> simp
    have qb : decide (q ≥ 0) = (getF x ns).isSome := by
      rcases hq with ⟨rfl, hq⟩ | ⟨j, r, hj, rfl, hq⟩ <;> rw [hq] <;> simp
    rw [pb, qb]
    rw [w.stN (z := 10) (o := 0) (r := [.bool (getF x bs).isSome, .int .i64 0, .int .i64 0, .int .i64 0, .str (⟨#[]⟩), .bool (getF x ns).isSome, .int .i64 0, .int .i64 0, .int .i64 0, .str (⟨#[]⟩)]) rfl (by simp)]
    have w0 := w.put (cs' := ChgD.cs ⟨(getF x bs).isSome, zR, (getF x ns).isSome, zR⟩)
    rw [show setAt zC 0 [.bool (getF x bs).isSome, .int .i64 0, .int .i64 0, .int .i64 0, .str (⟨#[]⟩), .bool (getF x ns).isSome, .int .i64 0, .int .i64 0, .int .i64 0, .str (⟨#[]⟩)] = ChgD.cs ⟨(getF x bs).isSome, zR, (getF x ns).isSome, zR⟩ from rfl]
    revert w0
    generalize ((h.new 0 zC).put h.n (.rw 0 (ChgD.cs ⟨(getF x bs).isSome, zR, (getF x ns).isSome, zR⟩))) = A
    intro w0
    simp only [vcase_b]
    have ec : ckF bs ns x = ⟨(getF x bs).isSome, (getF x bs).getD zR, (getF x ns).isSome, (getF x ns).getD zR⟩ := rfl
    rcases hp with ⟨rfl, hp⟩ | ⟨j, r, hj, rfl, hp⟩
    · rw [hp] at w0 ec ⊢
      rw [if_neg (by simp)]
      rcases hq with ⟨rfl, hq⟩ | ⟨j2, r2, hj2, rfl, hq⟩
      · rw [hq] at w0 ec ⊢
        rw [if_neg (by simp)]
        exact cs_l0 hi (by rw [ec]; exact w0) g hl
      · rw [hq] at w0 ec ⊢
        rw [if_pos (show (some r2).isSome = true from rfl), idxF_rw hj2, rowN_rw]
        simp only [ob, gx0, gx1, gI_i, gS_s, ln0, ln1, Nat.zero_add, Nat.reduceAdd, if_true]
        rw [w0.stN (z := 4) (o := 6) (r := r2.cs) rfl (by simp)]
        refine cs_l0 hi (c := ckF bs ns x) ?_ g hl
        rw [ec]
        exact w0.put
    · rw [hp] at w0 ec ⊢
      rw [if_pos (show (some r).isSome = true from rfl), idxF_rw hj, rowN_rw]
      simp only [ob, gx0, gx1, gI_i, gS_s, ln0, ln1, Nat.zero_add, Nat.reduceAdd, if_true]
      rw [w0.stN (z := 4) (o := 1) (r := r.cs) rfl (by simp)]
      have w1 := w0.put (cs' := ChgD.cs ⟨true, r, (getF x ns).isSome, zR⟩)
      rw [show setAt (ChgD.cs ⟨(some r).isSome, zR, (getF x ns).isSome, zR⟩) 1 r.cs = ChgD.cs ⟨true, r, (getF x ns).isSome, zR⟩ from rfl]
      revert w1
      generalize (A.put h.n (.rw 0 (ChgD.cs ⟨true, r, (getF x ns).isSome, zR⟩))) = B
      intro w1
      rcases hq with ⟨rfl, hq⟩ | ⟨j2, r2, hj2, rfl, hq⟩
      · rw [hq] at w1 ec ⊢
        rw [if_neg (by simp)]
        exact cs_l0 hi (by rw [ec]; exact w1) g hl
      · rw [hq] at w1 ec ⊢
        rw [if_pos (show (some r2).isSome = true from rfl), idxF_rw hj2, rowN_rw]
        simp only [ob, gx0, gx1, gI_i, gS_s, ln0, ln1, Nat.zero_add, Nat.reduceAdd, if_true]
        rw [w1.stN (z := 4) (o := 6) (r := r2.cs) rfl (by simp)]
        refine cs_l0 hi (c := ckF bs ns x) ?_ g hl
        rw [ec]
        exact w1.put
theorem lp_chgs {bs ns ks : List RowD} {v : V} {b m : Nat} {h0 : H} (hl : bs.length ≤ maxLen) (hl2 : ns.length ≤ maxLen) (hks : ks.length < 10000000) (hf : FlS 4 h0 v (rws ks) b) (hm : h0.n = m) : ∀ (q : List RowD) (i : Nat) (y : S) (out : List ChgD) (h : H), ks.drop i = q → out.length ≤ i → Gr 10 m h0 y (chs out) h →
    ∃ y' h', Lp.spec_l6Changes 2 [lv (rws bs), lv (rws ns), v, .s y, iv .i64 i] h = some (.done [.s y'] h') ∧ Gr 10 m h0 y' (chs (out ++ q.flatMap fun x => one (ckF bs ns x))) h' := by
  intro q
  have l0 : lenV (.sl 45) v = some (iv .i64 (ks.length : Int)) := by rw [hf.v]; simp [lenV]
  induction q with
  | nil =>
    intro i y out h hi ho g
    have := drop_nil hi
    refine ⟨y, h, ?_, by simpa using g⟩
    rw [eq_spec_l6Changes_l2, l0]
    simp only [ob, gV1_s, gI_i, vcase_b]
    rw [if_neg (by simp; omega), tidy_self]
  | cons x q ih =>
    intro i y out h hi ho g
    obtain ⟨g1, g2, g3⟩ := drop_cons hi
    have hf' : FlS 4 h v (rws ks) b := hf.keep (by have := g.1; omega) (g.2.1 b (by have := hf.n; omega))
    have hv := hf'.v
    have fin : ∃ y2 h2, Lp.spec_l6Changes 2 [lv (rws bs), lv (rws ns), v, .s y, iv .i64 i] h = Lp.spec_l6Changes 2 [lv (rws bs), lv (rws ns), v, .s y2, iv .i64 ((i + 1 : Nat) : Int)] h2 ∧ Gr 10 m h0 y2 (chs (out ++ one (ckF bs ns x))) h2 := by
      have a1 := fnd_at bs x
      have a2 := fnd_at ns x
      rw [eq_spec_l6Changes_l2, l0]
      simp only [ob, gV1_s, gI_i, vcase_b]
      rw [if_pos (by simp; omega)]
      have ix : ∀ {R : Type} (k : V → Option R), idxK 4 v (iv .i64 (i : Int)) k = k (pv b (i * 4)) := fun k => by rw [hv]; exact idxK_sv (by simpa using g3)
      have l1 : ∀ {R : Type} (k : V → Option R), ldK (.one (.i .i64)) ⟨1, 8, [.int .i64 0], false, .int .i64, false⟩ h (pv b (i * 4 + 0)) k = k (.s (.int .i64 x.tab)) := fun k => ldK_one rfl (hf'.ld g1 (by omega) rfl)
      have l2 : ∀ {R : Type} (k : V → Option R), ldK (.one (.i .i64)) ⟨1, 8, [.int .i64 0], false, .int .i64, false⟩ h (pv b (i * 4 + 1)) k = k (.s (.int .i64 x.key)) := fun k => ldK_one rfl (hf'.ld g1 (by omega) rfl)
      simp only [ix, padd, ob, l1, l2, gV1_s, gI_i]
      rw [pc (p_l6At hl) rfl]
      simp only [gV1_s, gI_i, hchk_self]
      rw [pc (p_l6At hl2) rfl]
      simp only [gV1_s, gI_i, hchk_self]
      generalize atF x.tab x.key bs 0 = p at a1
      generalize atF x.tab x.key ns 0 = q at a2
      unfold Jn.spec_l6Changes_l2_2
      simp only [vcase_b]
      have hl3 : out.length + 1 ≤ lim := by unfold lim; omega
      rcases a1 with ⟨rfl, hp⟩ | ⟨j, r, hj, rfl, hp⟩
      · rw [if_neg (by simp), if_neg (by simp)]
        refine cs_l1 _ _ _ _ _ _ _ _ _ _ _ (by omega) (.inl ⟨rfl, hp⟩) a2 ?_ g hl3
        unfold ckF keepB; rw [hp]; rfl
      · rw [if_pos (by simp)]
        rcases a2 with ⟨rfl, hq⟩ | ⟨j2, r2, hj2, rfl, hq⟩
        · rw [if_neg (by simp)]
          refine cs_l1 _ _ _ _ _ _ _ _ _ _ _ (by omega) (.inr ⟨j, r, hj, rfl, hp⟩) (.inl ⟨rfl, hq⟩) ?_ g hl3
          unfold ckF keepB; rw [hp, hq]; rfl
        · rw [if_pos (by simp), idxF_rw hj, rowN_rw]
          simp only [ob, gx0, gx1, gI_i, gS_s, ln0, ln1, Nat.zero_add, Nat.reduceAdd, if_true]
          rw [idxF_rw hj2, rowN_rw]
          simp only [ob, gx0, gx1, gI_i, gS_s, ln0, ln1, Nat.zero_add, Nat.reduceAdd, if_true]
          refine cs_l1 _ _ _ _ _ _ _ _ _ _ _ (by omega) (.inr ⟨j, r, hj, rfl, hp⟩) (.inr ⟨j2, r2, hj2, rfl, hq⟩) ?_ g hl3
          unfold ckF keepB eqRowB; rw [hp, hq]; simp
    obtain ⟨y2, h2, e2, w2⟩ := fin
    obtain ⟨y3, h3, e3, w3⟩ := ih (i + 1) y2 _ h2 g2 (by have := one_len (ckF bs ns x); rw [List.length_append]; omega) w2
    exact ⟨y3, h3, by rw [e2, e3], by rw [List.flatMap_cons, ← List.append_assoc]; exact w3⟩
theorem p_l6Changes {bs ns : List RowD} (hl : bs.length ≤ 60) (hl2 : ns.length ≤ 60) (hb : Ris bs) (hn : Ris ns) : pureV (call Ev) Fn.spec_l6Changes [lv (rws bs), lv (rws ns)] = some (lv (chs (btw bs ns))) := by
  rw [pu_spec_l6Changes]
  obtain ⟨v1, h1, e1, w1, n1, k1⟩ := app_fl (z := 4) (h := (D 0).new 4 []) (y := lv (rws bs)) (more := rws bs) FlS.nil rws_row (cellsS_lv rws_row) rfl (by omega) (by simp; unfold lim; omega)
  rw [D_n] at e1
  rw [e1, ob]
  obtain ⟨v2, b2, h2, e2, w2⟩ := lp_keys (bs := bs) (ns := ns) (by unfold maxLen; omega) (by omega) ns 0 bs v1 _ h1 rfl (by simpa using w1) (by omega)
  rw [show iv .i64 0 = iv .i64 ((0 : Nat) : Int) from rfl, e2, ob, lcase_done]
  simp only [gx0, gx1, ob, gV1_s, gF_f]
  have hkl := keys_len bs ns bs
  obtain ⟨y3, h3, e3, w3⟩ := lp_chgs (bs := bs) (ns := ns) (ks := ns.foldl (keyStep bs) bs) (by unfold maxLen; omega) (by unfold maxLen; omega) (by omega) w2 rfl _ 0 _ [] _ rfl (by simp) (Gr.new (z := 10) (h := h2) (by omega))
  rw [e3, ob, lcase_done]
  simp only [gx0, ob]
  have := w3.frz
  rw [List.nil_append, List.drop_zero, show ns.foldl (keyStep bs) bs = keysF bs ns from rfl, keys_btw hb hn] at this
  exact this
theorem p_spec_ChangesOf {bs ns : List RowD} (hs : ∀ r ∈ bs, r.text.size ≤ maxLen) (hs' : ∀ r ∈ ns, r.text.size ≤ maxLen) (hl : bs.length ≤ maxLen) (hl' : ns.length ≤ maxLen) : pureV (call Ev) Fn.spec_ChangesOf [lv (rws bs), lv (rws ns)] = some (.agg [.int .i64 (chC bs ns), .fs (chs (chL bs ns))]) := by
  rw [pu_spec_ChangesOf, pc (p_l6Rows hs hl) rfl]
  simp only [gV1_s, gI_i, vcase_b, bne_iff_ne, ne_eq]
  rw [pc (p_l6Rows hs' hl') rfl]
  simp only [gV1_s, gI_i, vcase_b, bne_iff_ne, ne_eq]
  unfold chL chC
  by_cases h0 : rowsF bs = 0
  case neg => rw [if_pos h0, if_neg h0, if_neg h0]; rfl
  rw [if_neg (by simp [h0]), if_pos h0]
  by_cases h1 : rowsF ns = 0
  case neg => rw [if_pos h1, if_neg h1]; rfl
  have b60 : ∀ {l : List RowD}, rowsF l = 0 → l.length ≤ 60 := fun {l} h => by
    unfold rowsF at h
    split at h
    · omega
    · omega
  rw [if_neg (by simp [h1]), if_pos h1, p_l6Changes (b60 h0) (b60 h1) (ris_rows h0) (ris_rows h1)]
  simp only [ob, gV1_s, gF_f]
  rw [h1]
end Vm
/-
  What is one's own is not let go; calls with answers of any shape.
-/
namespace Vm
open Go
theorem Rep.stay {h : H} {d n : Nat} {y f : S} {bs : List Nat} (w : Rep h d y f bs) (hb : ∀ b ∈ bs, n ≤ b) (hy : belS n y = true) : bs = [] ∧ ∀ h', Rep h' d y f [] := by
  cases d with
  | zero => obtain ⟨w1, rfl⟩ := w; exact ⟨rfl, fun _ => ⟨w1, rfl⟩⟩
  | succ d =>
    rcases w with ⟨w1, rfl⟩ | ⟨b, z, cs, rows, bss, rfl, rfl, rfl, h1⟩
    · exact ⟨rfl, fun _ => .inl ⟨w1, rfl⟩⟩
    · have := hb b (by simp)
      simp [belS] at hy; omega
theorem RepL.stay {h : H} {d n : Nat} {ys fs : List S} {bs : List Nat} (w : RepL (Rep h d) ys fs bs) (hb : ∀ b ∈ bs, n ≤ b) (hy : ys.all (belS n) = true) : bs = [] ∧ ∀ h', RepL (Rep h' d) ys fs [] := by
  induction w with
  | nil => exact ⟨rfl, fun _ => .nil⟩
  | @cons y f bs ys fs bss h1 h2 ih =>
    rw [List.all_cons, Bool.and_eq_true] at hy
    obtain ⟨rfl, a2⟩ := h1.stay (fun b hb' => hb b (by simp [hb'])) hy.1
    obtain ⟨rfl, b2⟩ := ih (fun b hb' => hb b (by simp [hb'])) hy.2
    exact ⟨rfl, fun h' => RepL.cons (bs := []) (a2 h') (b2 h')⟩
theorem tidy_up {h h' : H} {l : List V} (u : Up h h') : Up h (tidy h l h') := by
  unfold tidy
  split
  · exact ⟨Nat.le_refl _, fun b hb => by simp only [if_pos hb]; exact u.g b hb⟩
  · exact u
theorem own_tidyC {h h' : H} {l : List V} {d lo : Nat} {ys fs : List S} (u : Up h h') (w : OwnC d ys fs lo h'.n h') (hlo : h.n ≤ lo) (hy : .agg ys ∈ l) : Up h (tidy h l h') ∧ OwnC d ys fs lo (tidy h l h').n (tidy h l h') := by
  refine ⟨tidy_up u, ?_⟩
  unfold tidy
  split
  · rename_i ht
    obtain ⟨bs, w1, w2, w3⟩ := w
    have hb : belV h.n (.agg ys) = true := by
      have := ht.2.1
      rw [List.all_eq_true] at this
      exact this _ hy
    obtain ⟨rfl, a⟩ := w1.stay (fun b hb => by have := w3 b hb; omega) hb
    exact ⟨[], a _, by simp, by simp⟩
  · exact w
theorem own_tidy {h h' : H} {l : List V} {d lo : Nat} {y f : S} (u : Up h h') (w : OwnF d y f lo h'.n h') (hlo : h.n ≤ lo) (hy : .s y ∈ l) : Up h (tidy h l h') ∧ OwnF d y f lo (tidy h l h').n (tidy h l h') := by
  refine ⟨tidy_up u, ?_⟩
  unfold tidy
  split
  · rename_i ht
    obtain ⟨bs, w1, w2, w3⟩ := w
    have hb : belV h.n (.s y) = true := by
      have := ht.2.1
      rw [List.all_eq_true] at this
      exact this _ hy
    obtain ⟨rfl, a⟩ := w1.stay (fun b hb => by have := w3 b hb; omega) hb
    exact ⟨[], a _, by simp, by simp⟩
  · exact w
theorem OwnF.len {d lo hi t : Nat} {y : S} {rows : List (List S)} {h : H} (w : OwnF d y (.fs rows) lo hi h) : lenV (.sl t) (.s y) = some (iv .i64 (rows.length : Int)) := by
  obtain ⟨bs, w1, _⟩ := w
  cases d with
  | zero =>
    obtain ⟨⟨h1, h2⟩ | ⟨rfl, h2⟩, _⟩ := w1
    · rw [← h2] at h1; exact h1.elim
    · injection h2 with h2; subst h2; rfl
  | succ d =>
    rcases w1 with ⟨⟨h1, h2⟩ | ⟨rfl, h2⟩, _⟩ | ⟨b, z, cs, rows', bss, rfl, h0, _⟩
    · rw [← h2] at h1; exact h1.elim
    · injection h2 with h2; subst h2; rfl
    · injection h0 with h0; subst h0; rfl
theorem OwnF.up {d lo hi : Nat} {y f : S} {h h' : H} (w : OwnF d y f lo hi h) (u : Up h h') : OwnF d y f lo hi h' := by
  obtain ⟨bs, w1, w2, w3⟩ := w
  exact ⟨bs, w1.frame fun b hb => ⟨by have := w1.lt b hb; have := u.n; omega, u.g b (w1.lt b hb)⟩, w2, w3⟩
theorem OwnF.weak {d lo hi lo' hi' : Nat} {y f : S} {h : H} (w : OwnF d y f lo hi h) (h1 : lo' ≤ lo) (h2 : hi ≤ hi') : OwnF d y f lo' hi' h := by
  obtain ⟨bs, w1, w2, w3⟩ := w
  exact ⟨bs, w1, w2, fun b hb => by have := w3 b hb; omega⟩
theorem HKeep.up {h h' : H} (x : HKeep h h') : Up h h' := ⟨x.1, fun b hb => (x.2 b hb).1⟩
/-- a call with an answer of any shape, in which one value is new -/
theorem pX {cl : Nat → List V → H → Option (V × H)} {g : Nat} {off : Bool} {xs : List V} {h : H} {n d : Nat} {v : V} {y f : S} {h1 : H} (hn : h.n = n) (hc : cl g xs (D n) = some (v, h1)) (hs : scaV v = true) (hle : n ≤ h1.n) (w : OwnF d y f n h1.n h1) :
    ∃ h', (∀ (R : Type) (k : V → H → Option R), pcallF cl g off xs h k = k v h') ∧ Up h h' ∧ n ≤ h'.n ∧ OwnF d y f n h'.n h' := by
  subst hn
  have ov : ∀ h2 : H, h2.n = h1.n → (∀ b, (h1.g b).cells.all scaS = true → h2.g b = h1.g b) → Up h (h.over h2) ∧ h.n ≤ (h.over h2).n ∧ OwnF d y f h.n (h.over h2).n (h.over h2) := fun h2 hn2 hg2 => by
    have hle2 : h.n ≤ h2.n := by omega
    refine ⟨up_over hle2, by rw [over_n hle2]; omega, ?_⟩
    obtain ⟨bs, w1, w2, w3⟩ := w
    rw [over_n hle2, hn2]
    refine ⟨bs, w1.frame fun b hb => ?_, w2, w3⟩
    have := w3 b hb
    exact ⟨by rw [over_n hle2]; omega, by rw [over_ge this.1]; exact hg2 b (w1.scaB b hb)⟩
  cases off with
  | true =>
    obtain ⟨a1, a2, a3⟩ := ov h1 rfl (fun _ _ => rfl)
    refine ⟨h.over h1, fun R k => ?_, a1, a2, a3⟩
    unfold pcallF
    rw [hc, Vm.ob]
    unfold fchk
    rw [if_pos (.inl rfl)]; rfl
  | false =>
    obtain ⟨a1, a2, a3⟩ := ov (scrub h.n h1) rfl (fun b hb => scrub_g hb)
    refine ⟨h.over (scrub h.n h1), fun R k => ?_, a1, a2, a3⟩
    unfold pcallF
    rw [hc, Vm.ob]
    unfold fchk
    rw [if_pos (.inr hs)]; rfl
end Vm
/-
  Pages with edits done to them: what both ways come to.
-/
namespace Vm
open Go
theorem bss_snoc (ps : List (List UInt8)) (l : List UInt8) : bss (ps ++ [l]) = bss ps ++ [pgr l] := by simp [bss]
theorem bss_set (ps : List (List UInt8)) (i : Nat) (l : List UInt8) : bss (ps.set i l) = (bss ps).set i (pgr l) := by simp [bss, List.map_set]
/-- a row of new bytes -/
theorem pg_row {h : H} {l : List UInt8} {b : Nat} {k : Nat} (w : BysW h (sv b 0 k) l b) : RepL (Rep h 1) [.sl (some (b, 0)) k] (pgr l) [b] := by
  have hk := w.len
  have h1 : Rep h 1 (.sl (some (b, 0)) k) (.fs (bys l)) [b] := Own.rep (d := 0) (ob := some b) w
  exact RepL.cons (bs := [b]) h1 .nil
theorem cellsK_s {R : Type} {y : S} (hy : isNo y = false) {k : List S → Option R} : cellsK (.s y) k = k [y] := by
  simp only [cellsK, hy, cond_false]
theorem set01 {x y : S} : setAt [x] 0 [y] = [y] := id rfl
theorem l01 {x y : S} : ([y].length = 1 ∧ 0 + 1 ≤ [x].length) = True := by simp
/-! pages copied -/
section
variable {all : List (List UInt8)} (hl : all.length ≤ lim) (hr : ∀ l ∈ all, l.length ≤ lim)
include hl hr
theorem lp_copies : ∀ (rs : List (List UInt8)) (i : Nat) (h : H) (y : S) (bs : List Nat) (n0 : Nat), all.drop i = rs → OutS 1 1 y (bss (all.take i)) bs h → (∀ c ∈ bs, n0 ≤ c) → n0 ≤ h.n →
    ∃ h' y' bs', Lp.impl_copies 0 [.s y, lv (bss all), iv .i64 all.length, iv .i64 i] h = some (.done [.s y'] h') ∧ OutS 1 1 y' (bss all) bs' h' ∧ (∀ c ∈ bs', n0 ≤ c) ∧ h.n ≤ h'.n ∧ ∀ c, c < n0 → h'.g c = h.g c := by
  intro rs
  induction rs with
  | nil =>
    intro i h y bs n0 hi w hb hn
    have := drop_nil hi
    rw [eq_impl_copies_l0, vcase_b, if_neg (by simp; omega), tidy_self]
    rw [List.take_of_length_le this] at w
    exact ⟨h, y, bs, rfl, w, hb, Nat.le_refl _, fun _ _ => rfl⟩
  | cons r rs ih =>
    intro i h y bs n0 hi w hb hn
    have hl' := hl
    unfold lim at hl'
    obtain ⟨g1, g2, g3⟩ := drop_cons hi
    rw [eq_impl_copies_l0, vcase_b, if_pos (by simp; omega), idxF_pg g1]
    simp only [gx0, ob, gF_f]
    obtain ⟨v, h1, e1, w1, nn⟩ := f_copied (m := r) (hr r (List.mem_of_getElem? g1)) h.n
    obtain ⟨e2, w2, u2, n2, x2⟩ := new_bys e1 w1 nn
    rw [e2]
    generalize h.over h1 = K at w2 u2 n2 x2 ⊢
    rw [cellsK_s rfl, if_pos (by simp), set01]
    have wk : OutS 1 1 y (bss (all.take i)) bs K := w.frame fun c hc => by
      have := w.rep.lt c hc
      exact ⟨by omega, u2.g c (by omega)⟩
    obtain ⟨h2, bs2, e3, w3, n3, f3, o3, q3, _⟩ := app_row wk (pg_row w2) rfl (by omega) (by simp) (fun c hc hh => by have := w.rep.lt c hc; have := List.mem_singleton.1 hh; omega) (by simp; unfold lim; omega)
    rw [e3, ob]
    dsimp only
    rw [w64 (n := (i : Int) + 1) (by omega) (by omega), show (i : Int) + 1 = ((i + 1 : Nat) : Int) from by omega]
    rw [no_tidy_v (by simp [belV, belS]; omega)]
    have hrow : bss (all.take (i + 1)) = bss (all.take i) ++ [pgr r] := by
      rw [List.take_add_one, g1, Option.toList_some, bss_snoc]
    rw [← hrow] at w3
    have hb3 : ∀ c ∈ bs2, n0 ≤ c := fun c hc => by
      rcases f3 c hc with h1 | h1 | h1
      · omega
      · exact hb c h1
      · have := List.mem_singleton.1 h1; omega
    obtain ⟨h', y', bs', e4, w4, b4, n4, o4⟩ := ih (i + 1) h2 _ bs2 n0 g2 w3 hb3 (by omega)
    refine ⟨h', y', bs', e4, w4, b4, by omega, fun c hc => ?_⟩
    rw [o4 c hc, o3 c (by omega) (fun hh => by have := hb c hh; omega), u2.g c (by omega)]
theorem f_copies (n : Nat) : ∃ y h' bs, call Ev Fn.impl_copies [lv (bss all)] (D n) = some (.s y, h') ∧ OutS 1 1 y (bss all) bs h' ∧ (∀ c ∈ bs, n ≤ c) ∧ n ≤ h'.n := by
  obtain ⟨h', y', bs', e4, w4, b4, n4, o4⟩ := lp_copies hl hr all 0 (D n) (.sl none 0) [] n (by simp) (by simpa [bss] using OutS.none) (by simp) (by simp)
  rw [eq_impl_copies, bss_len, show iv .i64 0 = iv .i64 ((0 : Nat) : Int) from rfl, e4, ob, lcase_done]
  simp only [gx0, ob]
  exact ⟨y', h', bs', rfl, w4, b4, n4⟩
theorem lp_l7Copy : ∀ (rs : List (List UInt8)) (i : Nat) (h : H) (y : S) (bs : List Nat) (n0 : Nat), all.drop i = rs → OutS 1 1 y (bss (all.take i)) bs h → (∀ c ∈ bs, n0 ≤ c) → n0 ≤ h.n →
    ∃ h' y' bs', Lp.spec_l7Copy 0 [lv (bss all), .s y, iv .i64 i] h = some (.done [.s y'] h') ∧ OutS 1 1 y' (bss all) bs' h' ∧ (∀ c ∈ bs', n0 ≤ c) ∧ h.n ≤ h'.n ∧ ∀ c, c < n0 → h'.g c = h.g c := by
  intro rs
  induction rs with
  | nil =>
    intro i h y bs n0 hi w hb hn
    have := drop_nil hi
    rw [eq_spec_l7Copy_l0, vcase_b, if_neg (by simp; omega), tidy_self]
    rw [List.take_of_length_le this] at w
    exact ⟨h, y, bs, rfl, w, hb, Nat.le_refl _, fun _ _ => rfl⟩
  | cons r rs ih =>
    intro i h y bs n0 hi w hb hn
    have hl' := hl
    unfold lim at hl'
    obtain ⟨g1, g2, g3⟩ := drop_cons hi
    rw [eq_spec_l7Copy_l0, vcase_b, if_pos (by simp; omega), idxF_pg g1]
    simp only [gx0, ob, gF_f]
    obtain ⟨v, h1, e1, w1, nn⟩ := f_l2Copy (m := r) (hr r (List.mem_of_getElem? g1)) h.n
    obtain ⟨e2, w2, u2, n2, x2⟩ := new_bys e1 w1 nn
    rw [e2]
    generalize h.over h1 = K at w2 u2 n2 x2 ⊢
    rw [cellsK_s rfl, if_pos (by simp), set01]
    have wk : OutS 1 1 y (bss (all.take i)) bs K := w.frame fun c hc => by
      have := w.rep.lt c hc
      exact ⟨by omega, u2.g c (by omega)⟩
    obtain ⟨h2, bs2, e3, w3, n3, f3, o3, q3, _⟩ := app_row wk (pg_row w2) rfl (by omega) (by simp) (fun c hc hh => by have := w.rep.lt c hc; have := List.mem_singleton.1 hh; omega) (by simp; unfold lim; omega)
    rw [e3, ob]
    dsimp only
    rw [w64 (n := (i : Int) + 1) (by omega) (by omega), show (i : Int) + 1 = ((i + 1 : Nat) : Int) from by omega]
    rw [no_tidy_v (by simp [belV, belS]; omega)]
    have hrow : bss (all.take (i + 1)) = bss (all.take i) ++ [pgr r] := by
      rw [List.take_add_one, g1, Option.toList_some, bss_snoc]
    rw [← hrow] at w3
    have hb3 : ∀ c ∈ bs2, n0 ≤ c := fun c hc => by
      rcases f3 c hc with h1 | h1 | h1
      · omega
      · exact hb c h1
      · have := List.mem_singleton.1 h1; omega
    obtain ⟨h', y', bs', e4, w4, b4, n4, o4⟩ := ih (i + 1) h2 _ bs2 n0 g2 w3 hb3 (by omega)
    refine ⟨h', y', bs', e4, w4, b4, by omega, fun c hc => ?_⟩
    rw [o4 c hc, o3 c (by omega) (fun hh => by have := hb c hh; omega), u2.g c (by omega)]
theorem f_l7Copy (n : Nat) : ∃ y h' bs, call Ev Fn.spec_l7Copy [lv (bss all)] (D n) = some (.s y, h') ∧ OutS 1 1 y (bss all) bs h' ∧ (∀ c ∈ bs, n ≤ c) ∧ n ≤ h'.n := by
  have w0 : OutS 1 1 (.sl (some (n, 0)) 0) (bss ([] : List (List UInt8))) [n] ((D n).new 1 []) := ⟨by
    have := Rep.sl (d := 1) (h := (D n).new 1 []) (b := n) (z := 1) (cs := []) (rows := []) (bss := []) (by simp) (by omega) (new_g (D n) _ _) (by simp) .nil
    exact this, by simp, .inr ⟨n, [], rfl, new_g (D n) _ _⟩, by simp [bss]⟩
  obtain ⟨h', y', bs', e4, w4, b4, n4, o4⟩ := lp_l7Copy hl hr all 0 ((D n).new 1 []) (.sl (some (n, 0)) 0) [n] n (by simp) (by simpa using w0) (by simp) (by simp)
  rw [eq_spec_l7Copy, D_n, show iv .i64 0 = iv .i64 ((0 : Nat) : Int) from rfl, e4, ob, lcase_done]
  simp only [gx0, ob]
  exact ⟨y', h', bs', rfl, w4, b4, by simp at n4; omega⟩
end
/-- a call with a slice of rows, new -/
theorem pO {cl : Nat → List V → H → Option (V × H)} {g : Nat} {off : Bool} {xs : List V} {h : H} {z d n : Nat} {y : S} {rows : List (List S)} {bs : List Nat} {h1 : H} (hn : h.n = n) (hc : cl g xs (D n) = some (.s y, h1)) (w : OutS z d y rows bs h1) (hb : ∀ c ∈ bs, n ≤ c) (hle : n ≤ h1.n) :
    ∃ h', (∀ (R : Type) (k : V → H → Option R), pcallF cl g off xs h k = k (.s y) h') ∧ Up h h' ∧ h'.n = h1.n ∧ OutS z d y rows bs h' ∧ HExt h h' := by
  subst hn
  have ov : ∀ h2 : H, h2.n = h1.n → (∀ b, (h1.g b).cells.all scaS = true → h2.g b = h1.g b) → Up h (h.over h2) ∧ (h.over h2).n = h1.n ∧ OutS z d y rows bs (h.over h2) ∧ HExt h (h.over h2) := fun h2 hn2 hg2 => by
    have hle2 : h.n ≤ h2.n := by omega
    refine ⟨up_over hle2, by rw [over_n hle2, hn2], w.frame fun c hc => ?_, ⟨by rw [over_n hle2]; omega, fun b hb => .inr (over_lt hb)⟩⟩
    have := w.rep.lt c hc
    exact ⟨by rw [over_n hle2]; omega, by rw [over_ge (hb c hc)]; exact hg2 c (w.rep.scaB c hc)⟩
  cases off with
  | true =>
    obtain ⟨a1, a2, a3, a4⟩ := ov h1 rfl (fun _ _ => rfl)
    refine ⟨h.over h1, fun R k => ?_, a1, a2, a3, a4⟩
    unfold pcallF
    rw [hc, Vm.ob]
    unfold fchk
    rw [if_pos (.inl rfl)]; rfl
  | false =>
    obtain ⟨a1, a2, a3, a4⟩ := ov (scrub h.n h1) rfl (fun b hb => scrub_g hb)
    refine ⟨h.over (scrub h.n h1), fun R k => ?_, a1, a2, a3, a4⟩
    unfold pcallF
    rw [hc, Vm.ob]
    unfold fchk
    rw [if_pos (.inr w.rep.sca)]; rfl
end Vm
/-
  Pages with edits done to them: what both ways come to.
-/
namespace Vm
open Go
/-- one edit done -/
def edP (ps : List (List UInt8)) (e : RunD) : List (List UInt8) := if e.at_ = ps.length then ps ++ [e.l] else ps.set e.at_.toNat e.l
def edG : List (List UInt8) → List RunD → Int × List (List UInt8)
  | ps, [] => (0, ps)
  | ps, e :: es => if e.l.length ≠ 64 ∨ inB e.at_ 0 ps.length = false then (1, []) else if e.at_ = 12 then (2, []) else edG (edP ps e) es
def edF (ps : List (List UInt8)) (es : List RunD) : Int × List RunD × List (List UInt8) := if 12 < ps.length then (2, [], []) else ((edG ps es).1, (if (edG ps es).1 = 0 then es else []), (edG ps es).2)
theorem edP_len {ps : List (List UInt8)} {e : RunD} (h1 : ps.length ≤ 12) (h2 : e.at_ ≠ 12) : (edP ps e).length ≤ 12 := by
  unfold edP
  split
  · rw [List.length_append]; simp; omega
  · rw [List.length_set]; exact h1
/-- one's own edits -/
theorem edr {e : RunD} {a : Int} (h : e.at_ = a) : RunD.cs ⟨a, e.l⟩ = e.cs := by subst h; rfl
section
variable {all : List RunD} (hl : all.length ≤ maxLen) (hr : ∀ e ∈ all, e.l.length ≤ lim)
include hl hr
theorem lp_ownEdits : ∀ (rs : List RunD) (i : Nat) (h : H) (y : S) (bs : List Nat) (n0 : Nat), all.drop i = rs → OutS 2 1 y (runs (all.take i)) bs h → (∀ c ∈ bs, n0 ≤ c) → n0 ≤ h.n → all.length + 1 ≤ lim →
    ∃ h' y' bs', Lp.impl_ownEdits 0 [.s y, lv (runs all), iv .i64 all.length, iv .i64 i] h = some (.done [.s y'] h') ∧ OutS 2 1 y' (runs all) bs' h' ∧ (∀ c ∈ bs', n0 ≤ c) ∧ h.n ≤ h'.n ∧ ∀ c, c < n0 → h'.g c = h.g c := by
  intro rs
  induction rs with
  | nil =>
    intro i h y bs n0 hi w hb hn _
    have := drop_nil hi
    rw [eq_impl_ownEdits_l0, vcase_b, if_neg (by simp; omega), tidy_self]
    rw [List.take_of_length_le this] at w
    exact ⟨h, y, bs, rfl, w, hb, Nat.le_refl _, fun _ _ => rfl⟩
  | cons r rs ih =>
    intro i h y bs n0 hi w hb hn hlm
    have hlm' := hlm
    unfold lim at hlm'
    obtain ⟨g1, g2, g3⟩ := drop_cons hi
    rw [eq_impl_ownEdits_l0, vcase_b, if_pos (by simp; omega), idxF_run g1, rowN_run]
    simp only [gx0, gx1, ob, gI_i, gF_f]
    rw [if_pos (show ([_, _] : List S).length = 2 from rfl), st2_new]
    have u1 : Up h ((h.new 0 [.int .i64 0, .sl none 0]).put h.n (.rw 0 [.int .i64 r.at_, .fs (bys r.l)])) := up_st
    have gn : ((h.new 0 [.int .i64 0, .sl none 0]).put h.n (.rw 0 [.int .i64 r.at_, .fs (bys r.l)])).n = h.n + 1 := n_st
    have gg : ((h.new 0 [.int .i64 0, .sl none 0]).put h.n (.rw 0 [.int .i64 r.at_, .fs (bys r.l)])).g h.n = .rw 0 [.int .i64 r.at_, .fs (bys r.l)] := g_st
    generalize (h.new 0 [.int .i64 0, .sl none 0]).put h.n (.rw 0 [.int .i64 r.at_, .fs (bys r.l)]) = G at u1 gn gg ⊢
    have ld : ∀ {o : Nat}, load1 G (pv h.n o) = ([.int .i64 r.at_, .fs (bys r.l)] : List S)[o]? := fun {o} => by simp [load1, H.cells, gn, gg, Blk.cells]
    simp only [ld, gx0, gx1, ob, gI_i]
    rw [frzVs_cons frzV_lv frzVs_nil, ob, norm_nil]
    obtain ⟨v, h1, e1, w1, nn⟩ := f_copied (m := r.l) (hr r (List.mem_of_getElem? g1)) G.n
    obtain ⟨e2, w2, u2, n2, x2⟩ := new_bys e1 w1 nn
    rw [e2]
    generalize G.over h1 = K at w2 u2 n2 x2 ⊢
    rw [hchk_of x2]
    simp only [sca_v, scaS, cond_true]
    rw [cellsR rfl]
    rw [hchk_of (HExt.new x2)]
    have wk : OutS 2 1 y (runs (all.take i)) bs K := w.frame fun c hc => by
      have := w.rep.lt c hc
      exact ⟨by omega, (u2.g c (by omega)).trans (u1.g c this)⟩
    have wr := run_row (a := r.at_) (N := 0) w2
    obtain ⟨h2, bs2, e3, w3, n3, f3, o3, q3, _⟩ := app_row wk wr rfl (by omega) (by simp) (fun c hc hh => by have := w.rep.lt c hc; have := List.mem_singleton.1 hh; omega) (by simp; unfold lim; omega)
    rw [e3, ob]
    dsimp only
    rw [w64 (n := (i : Int) + 1) (by omega) (by omega), show (i : Int) + 1 = ((i + 1 : Nat) : Int) from by omega]
    rw [no_tidy_v (by simp [belV, belS]; omega)]
    have hrow : runs (all.take (i + 1)) = runs (all.take i) ++ [RunD.cs ⟨r.at_, r.l⟩] := by
      rw [List.take_add_one, g1, Option.toList_some, runs_snoc]
    rw [← hrow] at w3
    have hb3 : ∀ c ∈ bs2, n0 ≤ c := fun c hc => by
      rcases f3 c hc with h1 | h1 | h1
      · omega
      · exact hb c h1
      · have := List.mem_singleton.1 h1; omega
    obtain ⟨h', y', bs', e4, w4, b4, n4, o4⟩ := ih (i + 1) h2 _ bs2 n0 g2 w3 hb3 (by omega) hlm
    refine ⟨h', y', bs', e4, w4, b4, by omega, fun c hc => ?_⟩
    rw [o4 c hc, o3 c (by omega) (fun hh => by have := hb c hh; omega), u2.g c (by omega), u1.g c (by omega)]
theorem f_ownEdits (hlm : all.length + 1 ≤ lim) (n : Nat) : ∃ y h' bs, call Ev Fn.impl_ownEdits [lv (runs all)] (D n) = some (.s y, h') ∧ OutS 2 1 y (runs all) bs h' ∧ (∀ c ∈ bs, n ≤ c) ∧ n ≤ h'.n := by
  obtain ⟨h', y', bs', e4, w4, b4, n4, o4⟩ := lp_ownEdits hl hr all 0 (D n) (.sl none 0) [] n (by simp) (by simpa [runs] using OutS.none) (by simp) (by simp) hlm
  rw [eq_impl_ownEdits, runs_len, show iv .i64 0 = iv .i64 ((0 : Nat) : Int) from rfl, e4, ob, lcase_done]
  simp only [gx0, ob]
  exact ⟨y', h', bs', rfl, w4, b4, n4⟩
end
theorem len_out {z d t : Nat} {y : S} {rows : List (List S)} {bs : List Nat} {h : H} (w : OutS z d y rows bs h) : lenV (.sl t) (.s y) = some (iv .i64 (rows.length : Int)) := by
  rcases w.rep with ⟨⟨h1, h2⟩ | ⟨h1, h2⟩, _⟩ | ⟨b, z', cs, rows', bss, h1, h2, _⟩
  · rw [← h2] at h1; exact h1.elim
  · injection h2 with h2; subst h1; subst h2; rfl
  · injection h2 with h2; subst h1; subst h2; rfl
/-- a page of one's own turned into new bytes -/
theorem set_pg {R : Type} {y : S} {ps : List (List UInt8)} {bs : List Nat} {h : H} {l : List UInt8} {c : Nat} {i : Nat} {f : H → Option R} (w : OutS 1 1 y (bss ps) bs h) (hi : i < ps.length) (wb : BysW h (sv c 0 l.length) l c) (hc : c ∉ bs) :
    ∃ h' bs', (idxK 1 (.s y) (iv .i64 (i : Int)) fun v => stK 1 h v (sv c 0 l.length) f) = f h' ∧ OutS 1 1 y (bss (ps.set i l)) bs' h' ∧ h'.n = h.n ∧ (∀ a ∈ bs', a ∈ bs ∨ a = c) ∧ (∀ a, a ∉ bs → h'.g a = h.g a) ∧ ∃ b cs, b ∈ bs ∧ b < h.n ∧ h.g b = .rw 1 cs ∧ h'.g b = .rw 1 (setAt cs (i * 1) [.sl (some (c, 0)) l.length]) ∧ i < cs.length := by
  obtain ⟨b, cs, rfl, hb, hbn, hg, hle, bs', w2, hm⟩ := set_row w (by simpa using hi) (pg_row wb) rfl (by simp) (fun a ha hh => hc (by rw [← List.mem_singleton.1 hh]; exact ha))
  rw [bss_len, idxK_sv hi, stK_rw (z := 1) (e := 1) (o := i * 1) (b := b) (cs := cs) (r := [.sl (some (c, 0)) l.length]) hbn hg (.inl ⟨_, rfl, rfl, rfl⟩) rfl (by omega)]
  refine ⟨_, bs', rfl, by rw [bss_set, ← bss_len ps]; exact w2, put_n _ _ _, fun a ha => ?_, fun a ha => put_g' (fun hh => ha (hh ▸ hb)), b, cs, hb, hbn, hg, put_g _ _ _, by omega⟩
  rcases hm a ha with h1 | h1
  · exact .inl h1
  · exact .inr (List.mem_singleton.1 h1)
theorem set_no_tidy {h h' : H} {l : List V} {b c k i : Nat} {cs : List S} (hb : b < h.n) (hX : (h.g b).cells.all (belS h.n) = true) (hg : h'.g b = .rw 1 (setAt cs (i * 1) [.sl (some (c, 0)) k])) (hi : i < cs.length) (hc : h.n ≤ c) : tidy h l h' = h' := no_tidy hb hg (by
  rw [Bool.eq_false_iff]
  intro hh
  have := List.all_eq_true.1 hh (.sl (some (c, 0)) k) (by unfold setAt; simp)
  simp [belS] at this; omega) hX
end Vm
/-
  Pages with edits done to them: the program's way.
-/
namespace Vm
open Go
theorem st3_at {R : Type} {K : H} {n : Nat} {a b c : S} {x y z : S} {f : H → Option R} (hn : n < K.n) (hg : K.g n = .rw 0 [a, b, c]) : stK 3 K (pv n 0) (.agg [x, y, z]) f = f (K.put n (.rw 0 [x, y, z])) := by
  rw [stK_rw (z := 3) (e := 0) (o := 0) (b := n) (cs := [a, b, c]) (r := [x, y, z]) hn hg (.inr rfl) rfl (by simp)]
  rfl
theorem ld3_at {R : Type} {K : H} {n : Nat} {x y z : S} {bt : Nat} {zz : List S} {d : TD} {cm : Bool} {f : V → Option R} (hn : n < K.n) (hg : K.g n = .rw 0 [x, y, z]) : ldT ⟨3, bt, zz, true, d, cm⟩ K (pv n 0) f = f (.agg [x, y, z]) := by
  simp only [ldT, cond_true]
  rw [show loadN 3 K (pv n 0) = some [x, y, z] from loadN_rw hn hg (by simp), ob]
theorem lp_impl_AE {all : List RunD} (hl : all.length ≤ maxLen) (hr : ∀ e ∈ all, e.l.length ≤ lim) {n : Nat} : ∀ (es : List RunD) (i : Nat) (ps : List (List UInt8)) (h : H) (y : S) (bs : List Nat), all.drop i = es → OutS 1 1 y (bss ps) bs h → (∀ c ∈ bs, n < c) → n < h.n → h.g n = .rw 0 [.int .i64 0, .sl none 0, .sl none 0] → ps.length ≤ 12 →
    ((edG ps es).1 = 0 ∧ ∃ h' y' bs', Lp.impl_ApplyEdits 0 [lv (runs all), pv n 0, .s y, lv (runs all), iv .i64 all.length, iv .i64 i] h = some (.done [lv (runs all), pv n 0, .s y'] h') ∧ OutS 1 1 y' (bss (edG ps es).2) bs' h' ∧ (∀ c ∈ bs', n < c) ∧ n < h'.n ∧ h'.g n = .rw 0 [.int .i64 0, .sl none 0, .sl none 0]) ∨
    ((edG ps es).1 ≠ 0 ∧ (edG ps es).2 = [] ∧ ∃ h', Lp.impl_ApplyEdits 0 [lv (runs all), pv n 0, .s y, lv (runs all), iv .i64 all.length, iv .i64 i] h = some (.ret (.agg [.int .i64 (edG ps es).1, .sl none 0, .sl none 0]) h') ∧ n ≤ h'.n) := by
  intro es
  induction es with
  | nil =>
    intro i ps h y bs hi w hb hn hg hp
    have := drop_nil hi
    refine .inl ⟨rfl, h, y, bs, ?_, w, hb, hn, hg⟩
    rw [eq_impl_ApplyEdits_l0, vcase_b, if_neg (by simp; omega), tidy_self]
  | cons r es ih =>
    intro i ps h y bs hi w hb hn hg hp
    unfold maxLen at hl
    obtain ⟨g1, g2, g3⟩ := drop_cons hi
    have hrl := hr r (List.mem_of_getElem? g1)
    rw [eq_impl_ApplyEdits_l0, vcase_b, if_pos (by simp; omega), idxF_run g1, rowN_run]
    simp only [gx0, gx1, ob, gI_i, gF_f]
    rw [if_pos (show ([_, _] : List S).length = 2 from rfl), st2_new]
    have u1 : Up h ((h.new 0 [.int .i64 0, .sl none 0]).put h.n (.rw 0 [.int .i64 r.at_, .fs (bys r.l)])) := up_st
    have gn : ((h.new 0 [.int .i64 0, .sl none 0]).put h.n (.rw 0 [.int .i64 r.at_, .fs (bys r.l)])).n = h.n + 1 := n_st
    have gg : ((h.new 0 [.int .i64 0, .sl none 0]).put h.n (.rw 0 [.int .i64 r.at_, .fs (bys r.l)])).g h.n = .rw 0 [.int .i64 r.at_, .fs (bys r.l)] := g_st
    generalize (h.new 0 [.int .i64 0, .sl none 0]).put h.n (.rw 0 [.int .i64 r.at_, .fs (bys r.l)]) = G at u1 gn gg ⊢
    have ldX : ∀ {K : H} {o : Nat}, h.n < K.n → K.g h.n = G.g h.n → load1 K (pv h.n o) = ([.int .i64 r.at_, .fs (bys r.l)] : List S)[o]? := fun {K o} hk hkg => by simp [load1, H.cells, hk, hkg, gg, Blk.cells]
    have ld : ∀ {o : Nat}, load1 G (pv h.n o) = ([.int .i64 r.at_, .fs (bys r.l)] : List S)[o]? := fun {o} => ldX (by omega) rfl
    have gG : G.g n = .rw 0 [.int .i64 0, .sl none 0, .sl none 0] := (u1.g n hn).trans hg
    have wG : OutS 1 1 y (bss ps) bs G := w.frame fun c hc => by
      have := w.rep.lt c hc
      exact ⟨by omega, u1.g c this⟩
    have bad : ∀ c : Int, (stK 3 G (pv n 0) (.agg [.int .i64 c, .sl none 0, .sl none 0]) fun h261 =>
        ldT ⟨3, 56, [.int .i64 0, .sl none 0, .sl none 0], true, .st [(0, 2), (1, 72), (2, 68)], false⟩ h261 (pv n 0) fun v262 => some (LOut.ret v262 h261)) = some (.ret (.agg [.int .i64 c, .sl none 0, .sl none 0]) (G.put n (.rw 0 [.int .i64 c, .sl none 0, .sl none 0]))) := fun c => by
      rw [st3_at (by omega) gG, ld3_at (by rw [put_n]; omega) (put_g _ _ _)]
    have eL : lenV (.sl 5) (.s (.fs (bys r.l))) = some (iv .i64 (r.l.length : Int)) := by simp [lenV]
    have eY : ∀ t, lenV (.sl t) (.s y) = some (iv .i64 (ps.length : Int)) := fun t => by rw [len_out w, bss_len]
    simp only [ld, gx0, gx1, ob, eL, gV1_s, gI_i]
    rw [vcase_b]
    by_cases h64 : r.l.length = 64
    case neg =>
      have hE : edG ps (r :: es) = (1, []) := by simp only [edG]; rw [if_pos (.inl h64)]
      right
      rw [if_pos (by simp; omega), hE]
      refine ⟨by simp, rfl, G.put n (.rw 0 [.int .i64 1, .sl none 0, .sl none 0]), ?_, ?_⟩
      · unfold Jn.impl_ApplyEdits_l0_0
        rw [vcase_b, if_pos rfl]
        exact bad 1
      · rw [put_n]; omega
    rw [if_neg (by simp; omega), eY, ob]
    simp only [gV1_s, gI_i]
    rw [pc (p_in _ _ _) rfl]
    simp only [gV1_s, gB_b]
    unfold Jn.impl_ApplyEdits_l0_0
    rw [vcase_b]
    cases hin : inB r.at_ 0 (ps.length : Int)
    · have hE : edG ps (r :: es) = (1, []) := by simp only [edG]; rw [if_pos (.inr hin)]
      right
      rw [if_pos (by simp), hE]
      refine ⟨by simp, rfl, _, bad 1, ?_⟩
      rw [put_n]; omega
    rw [if_neg (by simp)]
    have hin' := inB_iff.1 hin
    simp only [ld, gx0, ob, gI_i]
    rw [vcase_b]
    by_cases h12 : r.at_ = 12
    · have hE : edG ps (r :: es) = (2, []) := by simp only [edG]; rw [if_neg (by simp [h64, hin]), if_pos h12]
      right
      rw [if_pos (by simp [h12]), hE]
      refine ⟨by simp, rfl, _, bad 2, ?_⟩
      rw [put_n]; omega
    have hE : edG ps (r :: es) = edG (edP ps r) es := by simp only [edG]; rw [if_neg (by simp [h64, hin]), if_neg h12]
    rw [if_neg (by simp [h12]), eY, ob, hE]
    simp only [gV1_s, gI_i]
    rw [vcase_b]
    have hpl := edP_len (e := r) hp h12
    by_cases ha : r.at_ = ps.length
    · rw [if_pos (by simp [ha])]
      have wn : RepL (Rep G 1) [.sl none 0] (pgr []) [] := RepL.cons (bs := []) Rep.nil .nil
      obtain ⟨h2, bs2, e3, w3, n3, f3, o3, q3, _⟩ := app_row wG wn rfl (by omega) (by simp) (fun c hc => by simp) (by simp; unfold lim; omega)
      rw [e3, ob]
      dsimp only
      have k2 : h2.g h.n = G.g h.n := o3 h.n (by omega) (fun hh => by have := w.rep.lt _ hh; omega)
      simp only [ldX (K := h2) (by omega) k2, gx0, gx1, ob, gI_i]
      rw [frzVs_cons frzV_lv frzVs_nil, ob, norm_nil]
      obtain ⟨v, h1, e1, w1, nn⟩ := f_copied (m := r.l) hrl h2.n
      obtain ⟨e2, w2, u2, n2, x2⟩ := new_bys e1 w1 nn
      rw [e2]
      generalize h2.over h1 = K at w2 u2 n2 x2 ⊢
      rw [hchk_of x2]
      simp only [sca_v, scaS, cond_true]
      rw [bss_len] at w3
      rw [← bss_snoc, bss_len] at *
      have wK : OutS 1 1 (.sl (some (G.n + 1, 0)) (ps.length + 1)) (bss (ps ++ [[]])) bs2 K := w3.frame fun c hc => by
        have := w3.rep.lt c hc
        exact ⟨by omega, u2.g c this⟩
      obtain ⟨h3, bs3, e4, w4, n4, m4, o4, _⟩ := set_pg (R := LOut) (i := ps.length) (f := fun h282 => Lp.impl_ApplyEdits 0 [lv (runs all), pv n 0, sv (G.n + 1) 0 (ps.length + 1), lv (runs all), iv .i64 all.length, iv .i64 (IntKind.i64.wrap ((i : Int) + 1))] (tidy h [lv (runs all), pv n 0, sv (G.n + 1) 0 (ps.length + 1), lv (runs all), iv .i64 all.length, iv .i64 (IntKind.i64.wrap ((i : Int) + 1))] h282)) wK (by simp) w2 (fun hh => by have := w3.rep.lt _ hh; omega)
      rw [ha, e4]
      rw [no_tidy_v (by simp [belV, belS]; omega), w64 (n := (i : Int) + 1) (by omega) (by omega), show (i : Int) + 1 = ((i + 1 : Nat) : Int) from by omega]
      have hps : (ps ++ [[]]).set ps.length r.l = edP ps r := by
        unfold edP
        rw [if_pos ha, List.set_append_right _ _ (Nat.le_refl _), Nat.sub_self]; rfl
      rw [hps] at w4
      have hb2 : ∀ c ∈ bs2, n < c := fun c hc => by
        rcases f3 c hc with h1 | h1 | h1
        · omega
        · exact hb c h1
        · simp at h1
      refine ih (i + 1) (edP ps r) h3 _ bs3 g2 w4 (fun c hc => ?_) (by omega) ?_ hpl
      · rcases m4 c hc with h1 | h1
        · exact hb2 c h1
        · omega
      · rw [o4 n (fun hh => by have := hb2 n hh; omega), u2.g n (by omega), o3 n (by omega) (fun hh => by have := hb n hh; omega)]
        exact gG
    · rw [if_neg (by simpa using ha)]
      obtain ⟨a, hA⟩ : ∃ a : Nat, r.at_ = a := ⟨r.at_.toNat, by omega⟩
      simp only [ld, gx0, gx1, ob, gI_i]
      rw [frzVs_cons frzV_lv frzVs_nil, ob, norm_nil]
      obtain ⟨v, h1, e1, w1, nn⟩ := f_copied (m := r.l) hrl G.n
      obtain ⟨e2, w2, u2, n2, x2⟩ := new_bys e1 w1 nn
      rw [e2]
      generalize G.over h1 = K at w2 u2 n2 x2 ⊢
      rw [hchk_of x2]
      simp only [sca_v, scaS, cond_true]
      have wK : OutS 1 1 y (bss ps) bs K := wG.frame fun c hc => by
        have := wG.rep.lt c hc
        exact ⟨by omega, u2.g c this⟩
      obtain ⟨h3, bs3, e4, w4, n4, m4, o4, b, cs, hbb, hbn, hgb, hgb', hic⟩ := set_pg (R := LOut) (i := a) (f := fun h282 => Lp.impl_ApplyEdits 0 [lv (runs all), pv n 0, .s y, lv (runs all), iv .i64 all.length, iv .i64 (IntKind.i64.wrap ((i : Int) + 1))] (tidy h [lv (runs all), pv n 0, .s y, lv (runs all), iv .i64 all.length, iv .i64 (IntKind.i64.wrap ((i : Int) + 1))] h282)) wK (by omega) w2 (fun hh => by have := wG.rep.lt _ hh; omega)
      rw [hA, e4]
      rw [set_no_tidy (h := h) (w.rep.lt b hbb) (w.rep.bel w.rep.lt b hbb) hgb' hic (by omega), w64 (n := (i : Int) + 1) (by omega) (by omega), show (i : Int) + 1 = ((i + 1 : Nat) : Int) from by omega]
      have hps : ps.set a r.l = edP ps r := by
        unfold edP
        rw [if_neg ha, hA]; rfl
      rw [hps] at w4
      refine ih (i + 1) (edP ps r) h3 _ bs3 g2 w4 (fun c hc => ?_) (by omega) ?_ hpl
      · rcases m4 c hc with h1 | h1
        · exact hb c h1
        · omega
      · rw [o4 n (fun hh => by have := hb n hh; omega), u2.g n (by omega)]
        exact gG
end Vm
/-
  Pages with edits done to them: the program's answer.
-/
namespace Vm
open Go
theorem OutS.isNo {z d : Nat} {y : S} {rows : List (List S)} {bs : List Nat} {h : H} (w : OutS z d y rows bs h) : isNo y = false := w.rep.isNo
theorem edG_len : ∀ (es : List RunD) (ps : List (List UInt8)), ps.length ≤ 12 → (edG ps es).2.length ≤ 12
  | [], ps, h => h
  | e :: es, ps, h => by
    simp only [edG]
    split
    · simp
    split
    · simp
    · rename_i h2
      exact edG_len es _ (edP_len h h2)
/-- two slices of rows of one's own, behind a code -/
theorem ownE {h : H} {z1 d1 z2 d2 n d : Nat} {y1 y2 : S} {r1 r2 : List (List S)} {b1 b2 : List Nat} {c : Int} (w1 : OutS z1 d1 y1 r1 b1 h) (w2 : OutS z2 d2 y2 r2 b2 h) (hd : ∀ a ∈ b1, a ∉ b2) (h1 : ∀ a ∈ b1, n ≤ a) (h2 : ∀ a ∈ b2, n ≤ a) (hd1 : d1 + 1 ≤ d) (hd2 : d2 + 1 ≤ d) :
    OwnC d [.int .i64 c, y1, y2] [.int .i64 c, .fs r1, .fs r2] n h.n h := by
  refine ⟨b1 ++ (b2 ++ []), RepL.cons (bs := []) (Rep.sc trivial) (RepL.cons (w1.rep.lifts hd1) (RepL.cons (w2.rep.lifts hd2) .nil)), ?_, fun b hb => ?_⟩
  · rw [List.append_nil]
    exact List.nodup_append.2 ⟨w1.nd, w2.nd, fun a ha a' ha' hh => hd a ha (hh ▸ ha')⟩
  · rw [List.append_nil] at hb
    rcases List.mem_append.1 hb with hb | hb
    · exact ⟨h1 b hb, w1.rep.lt b hb⟩
    · exact ⟨h2 b hb, w2.rep.lt b hb⟩
theorem ownE0 {h : H} {n d : Nat} {c : Int} : OwnC d [.int .i64 c, .sl none 0, .sl none 0] [.int .i64 c, .fs [], .fs []] n h.n h :=
  ⟨[], RepL.cons (bs := []) (Rep.sc trivial) (RepL.cons (bs := []) Rep.nil (RepL.cons (bs := []) Rep.nil .nil)), by simp, by simp⟩
theorem f_ApplyEdits {ps : List (List UInt8)} {es : List RunD} (hp : ps.length ≤ lim) (hpl : ∀ l ∈ ps, l.length ≤ lim) (he : es.length ≤ maxLen) (hel : ∀ e ∈ es, e.l.length ≤ lim) (hlm : es.length + 1 ≤ lim) (n : Nat) :
    ∃ y z h', call Ev Fn.impl_ApplyEdits [lv (bss ps), lv (runs es)] (D n) = some (.agg [.int .i64 (edF ps es).1, y, z], h') ∧ NewC 4 [.int .i64 (edF ps es).1, y, z] [.int .i64 (edF ps es).1, .fs (runs (edF ps es).2.1), .fs (bss (edF ps es).2.2)] n h' := by
  rw [eq_impl_ApplyEdits, vcase_b, bss_len]
  unfold edF
  by_cases h12 : 12 < ps.length
  · rw [if_pos (by simp; omega), if_pos h12]
    rw [D_n, st3_at (K := (D n).new 0 [.int .i64 0, .sl none 0, .sl none 0]) (n := n) (by simp) (new_g (D n) _ _)]
    rw [show loadN 3 (((D n).new 0 [.int .i64 0, .sl none 0, .sl none 0]).put n (.rw 0 [.int .i64 2, .sl none 0, .sl none 0])) (pv n 0) = some [.int .i64 2, .sl none 0, .sl none 0] from loadN_rw (by simp) (put_g _ _ _) (by simp), ob]
    exact ⟨_, _, _, rfl, by simp, by simp only [runs, bss, List.map_nil]; exact ownE0⟩
  rw [if_neg (by simp; omega), if_neg h12]
  generalize hG : (D n).new 0 [.int .i64 0, .sl none 0, .sl none 0] = G
  have gn : G.n = n + 1 := by rw [← hG]; simp
  have gg : G.g n = .rw 0 [.int .i64 0, .sl none 0, .sl none 0] := by rw [← hG]; exact new_g (D n) _ _
  obtain ⟨y1, k1, b1, e1, w1, f1, n1⟩ := f_copies hp hpl G.n
  obtain ⟨K, e2, u2, n2, w2, _⟩ := pO (h := G) (off := true) rfl e1 w1 f1 n1
  rw [e2, D_n, runs_len, show iv .i64 0 = iv .i64 ((0 : Nat) : Int) from rfl]
  have gK : K.g n = .rw 0 [.int .i64 0, .sl none 0, .sl none 0] := (u2.g n (by omega)).trans gg
  rcases lp_impl_AE he hel es 0 ps K y1 b1 (by simp) w2 (fun c hc => by have := f1 c hc; omega) (by omega) gK (by omega) with ⟨hc, h', y', bs', e3, w3, f3, n3, g3⟩ | ⟨hc, hc2, h', e3, n3⟩
  · rw [e3, ob, lcase_done]
    simp only [gx0, gx1, ob, gV1_s, gF_f]
    obtain ⟨y4, k4, b4, e4, w4, f4, n4⟩ := f_ownEdits he hel hlm h'.n
    obtain ⟨M, e5, u5, n5, w5, _⟩ := pO (h := h') (off := true) rfl e4 w4 f4 n4
    rw [e5, cellsK_s w5.isNo, if_pos (by simp), cellsK_s w3.isNo, show setAt [.int .i64 0, .sl none 0, .sl none 0] 1 [y4] = [.int .i64 0, y4, .sl none 0] from rfl, if_pos (by simp), show setAt [.int .i64 0, y4, .sl none 0] 2 [y'] = [.int .i64 0, y4, y'] from rfl]
    simp only [gx0, gx1, ob, gI_i, ln0, ln1, Nat.zero_add, Nat.reduceAdd, if_true]
    have gM : M.g n = .rw 0 [.int .i64 0, .sl none 0, .sl none 0] := (u5.g n n3).trans g3
    have hM := u5.n
    rw [st3_at (by omega) gM, ld3_at (by rw [put_n]; omega) (put_g _ _ _), hc, if_pos rfl]
    have w3M : OutS 1 1 y' (bss (edG ps es).2) bs' (M.put n (.rw 0 [.int .i64 0, y4, y'])) := w3.frame fun c hc => by
      have a := w3.rep.lt c hc
      have b := f3 c hc
      exact ⟨by rw [put_n]; omega, (put_g' (by omega)).trans (u5.g c a)⟩
    have w5M : OutS 2 1 y4 (runs es) b4 (M.put n (.rw 0 [.int .i64 0, y4, y'])) := w5.frame fun c hc => by
      have a := w5.rep.lt c hc
      have b := f4 c hc
      exact ⟨by rw [put_n]; omega, put_g' (by omega)⟩
    refine ⟨_, _, _, rfl, by rw [put_n]; omega, ownE w5M w3M (fun a ha hh => by have := f4 a ha; have := w3.rep.lt a hh; omega) (fun a ha => by have := f4 a ha; omega) (fun a ha => by have := f3 a ha; omega) (by omega) (by omega)⟩
  · rw [e3, ob, lcase_ret, if_neg hc, hc2]
    exact ⟨_, _, _, rfl, n3, by simp only [runs, bss, List.map_nil]; exact ownE0⟩
end Vm
/-
  Pages with edits done to them: the other way.
-/
namespace Vm
open Go
theorem p_l7Bad {c : Int} : pureV (call Ev) Fn.spec_l7Bad [iv .i64 c] = some (.agg [.int .i64 c, .fs [], .fs []]) := by rw [pu_spec_l7Bad]
/-- what stands in the place of the work -/
structure Wk (q : Nat) (y2 y1 : S) (es : List RunD) (ps : List (List UInt8)) (b2 b1 : List Nat) (h : H) : Prop where
  e : OutS 2 1 y2 (runs es) b2 h
  p : OutS 1 1 y1 (bss ps) b1 h
  d : ∀ a ∈ b1, a ∉ b2
  l2 : ∀ a ∈ b2, a ≠ q ∧ 0 < a
  l1 : ∀ a ∈ b1, a ≠ q ∧ 0 < a
  qn : 0 < q ∧ q < h.n
  g : h.g q = .rw 0 [.int .i64 0, y2, y1]
  z : h.g 0 = .rw 0 [.int .i64 0, .sl none 0, .sl none 0]
theorem Wk.ld {q : Nat} {y2 y1 : S} {es : List RunD} {ps : List (List UInt8)} {b2 b1 : List Nat} {h : H} (w : Wk q y2 y1 es ps b2 b1 h) {o : Nat} : load1 h (pv q o) = ([.int .i64 0, y2, y1] : List S)[o]? := by
  simp [load1, H.cells, w.qn.2, w.g, Blk.cells]
theorem Wk.bel {q : Nat} {y2 y1 : S} {es : List RunD} {ps : List (List UInt8)} {b2 b1 : List Nat} {h : H} (w : Wk q y2 y1 es ps b2 b1 h) : (h.g q).cells.all (belS h.n) = true := by
  rw [w.g]
  simp only [Blk.cells, List.all_cons, List.all_nil, Bool.and_true]
  rw [w.e.rep.top w.e.rep.lt, w.p.rep.top w.p.rep.lt]; rfl
theorem J0_AE {all : List RunD} (hlm : all.length + 1 ≤ lim) (hr : ∀ e ∈ all, e.l.length ≤ lim) {q i : Nat} {r : RunD} (hi : all[i]? = some r) {y2 y1 : S} {ps : List (List UInt8)} {b2 b1 : List Nat} {h h1 : H} (w : Wk q y2 y1 (all.take i) ps b2 b1 h1) (hn : h.n ≤ h1.n) (hq : q < h.n) (hX : (h.g q).cells.all (belS h.n) = true) :
    ∃ h2 y3 b3, Jn.spec_ApplyEdits_l0_0 h1 (pv q 0) r.cs (runs all) (pv 0 0) (i : Int) h = Lp.spec_ApplyEdits 0 [lv (runs all), pv 0 0, pv q 0, iv .i64 ((i + 1 : Nat) : Int)] h2 ∧ Wk q y3 y1 (all.take (i + 1)) ps b3 b1 h2 := by
  have hlm' := hlm
  unfold lim at hlm'
  have hil : i < all.length := (List.getElem?_eq_some_iff.1 hi).1
  unfold Jn.spec_ApplyEdits_l0_0
  simp only [padd, ob, Nat.zero_add, ldK, ldT, cond_false, w.ld, gx0, gx1, gI_i, gF_f]
  obtain ⟨v, k1, e1, w1, nn⟩ := f_l2Copy (m := r.l) (hr r (List.mem_of_getElem? hi)) h1.n
  obtain ⟨e3, wb, u2, n2, x2⟩ := new_bys e1 w1 nn
  rw [e3]
  generalize h1.over k1 = K at wb u2 n2 x2 ⊢
  rw [hchk_of x2]
  simp only [sca_v, scaS, cond_true]
  rw [cellsR rfl]
  rw [hchk_of (HExt.new x2)]
  have wk : OutS 2 1 y2 (runs (all.take i)) b2 K := w.e.frame fun c hc => by
    have := w.e.rep.lt c hc
    exact ⟨by omega, u2.g c (by omega)⟩
  have wr := run_row (a := r.at_) (N := 0) wb
  obtain ⟨h2, bs2, e4, w3, n3, f3, o3, q3, _⟩ := app_row wk wr rfl (by omega) (by simp) (fun c hc hh => by have := w.e.rep.lt c hc; have := List.mem_singleton.1 hh; omega) (by simp; unfold lim; omega)
  rw [e4, ob]
  dsimp only
  have hq1 := w.qn
  have kq : h2.g q = .rw 0 [.int .i64 0, y2, y1] := by rw [o3 q (by omega) (fun hh => (w.l2 q hh).1 rfl), u2.g q hq1.2]; exact w.g
  rw [stK_rw (z := 1) (e := 0) (o := 1) (b := q) (cs := [.int .i64 0, y2, y1]) (r := [.sl (some (K.n + 1, 0)) ((runs (all.take i)).length + 1)]) (by omega) kq (.inl ⟨_, rfl, rfl, rfl⟩) rfl (by simp)]
  rw [show setAt [.int .i64 0, y2, y1] 1 [S.sl (some (K.n + 1, 0)) ((runs (all.take i)).length + 1)] = [.int .i64 0, .sl (some (K.n + 1, 0)) ((runs (all.take i)).length + 1), y1] from rfl]
  rw [w64 (n := (i : Int) + 1) (by omega) (by omega), show (i : Int) + 1 = ((i + 1 : Nat) : Int) from by omega]
  rw [no_tidy (b := q) hq (put_g _ _ _) (by simp [belS]; omega) hX]
  have hrow : runs (all.take (i + 1)) = runs (all.take i) ++ [RunD.cs ⟨r.at_, r.l⟩] := by
    rw [List.take_add_one, hi, Option.toList_some, runs_snoc]
  rw [← hrow] at w3
  generalize (runs (all.take i)).length + 1 = N at w3 ⊢
  have f3' : ∀ c ∈ bs2, c ∈ b2 ∨ h1.n ≤ c := fun c hc => by
    rcases f3 c hc with a | a | a
    · right; omega
    · exact .inl a
    · have := List.mem_singleton.1 a; right; omega
  refine ⟨_, _, bs2, rfl, w3.frame fun c hc => ⟨by rw [put_n]; exact w3.rep.lt c hc, put_g' ?_⟩, w.p.frame fun c hc => ?_, fun a ha hh => ?_, fun a ha => ?_, w.l1, ⟨hq1.1, by rw [put_n]; omega⟩, put_g _ _ _, ?_⟩
  · rcases f3' c hc with a | a
    · exact (w.l2 c a).1
    · omega
  · have := w.p.rep.lt c hc
    have := (w.l1 c hc).1
    exact ⟨by rw [put_n]; omega, by rw [put_g' this, o3 c (by omega) (fun hh => w.d c hc hh), u2.g c (by omega)]⟩
  · have := w.p.rep.lt a ha
    rcases f3' a hh with b | b
    · exact w.d a ha b
    · omega
  · rcases f3' a ha with b | b
    · exact w.l2 a b
    · omega
  · rw [put_g' (by omega), o3 0 (by omega) (fun hh => by have := (w.l2 0 hh).2; omega), u2.g 0 (by omega)]
    exact w.z
theorem lp_spec_AE {all : List RunD} (hlm : all.length + 1 ≤ lim) (hr : ∀ e ∈ all, e.l.length ≤ lim) {q : Nat} : ∀ (es : List RunD) (i : Nat) (ps : List (List UInt8)) (h : H) (y2 y1 : S) (b2 b1 : List Nat), all.drop i = es → Wk q y2 y1 (all.take i) ps b2 b1 h → ps.length ≤ 12 →
    ((edG ps es).1 = 0 ∧ ∃ h' y2' y1' b2' b1', Lp.spec_ApplyEdits 0 [lv (runs all), pv 0 0, pv q 0, iv .i64 i] h = some (.done [pv 0 0, pv q 0] h') ∧ Wk q y2' y1' all (edG ps es).2 b2' b1' h') ∨
    ((edG ps es).1 ≠ 0 ∧ (edG ps es).2 = [] ∧ ∃ h', Lp.spec_ApplyEdits 0 [lv (runs all), pv 0 0, pv q 0, iv .i64 i] h = some (.ret (.agg [.int .i64 (edG ps es).1, .fs [], .fs []]) h')) := by
  intro es
  induction es with
  | nil =>
    intro i ps h y2 y1 b2 b1 hi w hp
    have := drop_nil hi
    rw [List.take_of_length_le this] at w
    refine .inl ⟨rfl, h, y2, y1, b2, b1, ?_, w⟩
    rw [eq_spec_ApplyEdits_l0, vcase_b, if_neg (by simp; omega), tidy_self]
  | cons r es ih =>
    intro i ps h y2 y1 b2 b1 hi w hp
    have hlm' := hlm
    unfold lim at hlm'
    obtain ⟨g1, g2, g3⟩ := drop_cons hi
    have hrl := hr r (List.mem_of_getElem? g1)
    have hq := w.qn
    rw [eq_spec_ApplyEdits_l0, vcase_b, if_pos (by simp; omega), idxF_run g1]
    simp only [gx0, gx1, ob, gI_i, gF_f]
    have bad : ∀ c : Int, ∃ h', ((pureV (call Ev) Fn.spec_l7Bad [iv .i64 c]).bind fun v325 =>
        gVA v325 fun c326 => (c326[0]?).bind fun x327 => gI .i64 x327 fun i328 => (c326[1]?).bind fun x329 => gF x329 fun z330 => (c326[2]?).bind fun x331 => gF x331 fun z332 =>
        if c326.length = 3 then
        stK 3 h (pv 0 0) (.agg [.int .i64 i328, .fs z330, .fs z332]) fun h333 =>
        ldT ⟨3, 56, [.int .i64 0, .sl none 0, .sl none 0], true, .st [(0, 2), (1, 72), (2, 68)], false⟩ h333 (pv 0 0) fun v334 =>
        some (LOut.ret v334 h333) else none) = some (.ret (.agg [.int .i64 c, .fs [], .fs []]) h') := fun c => by
      rw [p_l7Bad, ob]
      simp only [gVA_a, gx0, gx1, ob, gI_i, gF_f, ln0, ln1, Nat.zero_add, Nat.reduceAdd, if_true]
      rw [st3_at (by omega) w.z, ld3_at (by rw [put_n]; omega) (put_g _ _ _)]
      exact ⟨_, rfl⟩
    have eY : ∀ t, lenV (.sl t) (.s y1) = some (iv .i64 (ps.length : Int)) := fun t => by rw [len_out w.p, bss_len]
    rw [vcase_b, bys_len]
    by_cases h64 : r.l.length = 64
    case neg =>
      have hE : edG ps (r :: es) = (1, []) := by simp only [edG]; rw [if_pos (.inl h64)]
      right
      obtain ⟨h', e⟩ := bad 1
      rw [if_pos (by simp; omega), hE, hchk_self]
      refine ⟨by simp, rfl, h', ?_⟩
      unfold Jn.spec_ApplyEdits_l0_1
      rw [vcase_b, if_pos rfl]
      exact e
    rw [if_neg (by simp; omega)]
    simp only [padd, ob, Nat.zero_add, ldK, ldT, cond_false, w.ld, gx0, gx1, gI_i, gF_f]
    rw [eY, ob]
    simp only [gV1_s, gI_i]
    rw [pc (p_l1In _ _ _) rfl]
    simp only [gV1_s, gB_b, hchk_self]
    unfold Jn.spec_ApplyEdits_l0_1
    rw [vcase_b]
    cases hin : inB r.at_ 0 (ps.length : Int)
    · have hE : edG ps (r :: es) = (1, []) := by simp only [edG]; rw [if_pos (.inr hin)]
      right
      obtain ⟨h', e⟩ := bad 1
      rw [if_pos (by simp), hE]
      exact ⟨by simp, rfl, h', e⟩
    rw [if_neg (by simp)]
    have hin' := inB_iff.1 hin
    simp only [gx0, ob, gI_i]
    rw [vcase_b]
    by_cases h12 : r.at_ = 12
    · have hE : edG ps (r :: es) = (2, []) := by simp only [edG]; rw [if_neg (by simp [h64, hin]), if_pos h12]
      right
      obtain ⟨h', e⟩ := bad 2
      rw [if_pos (by simp [h12]), hE]
      exact ⟨by simp, rfl, h', e⟩
    have hE : edG ps (r :: es) = edG (edP ps r) es := by simp only [edG]; rw [if_neg (by simp [h64, hin]), if_neg h12]
    rw [if_neg (by simp [h12]), hE]
    simp only [padd, ob, Nat.zero_add, ldK, ldT, cond_false, w.ld, gx0, gx1, gI_i, gF_f]
    rw [eY, ob]
    simp only [gV1_s, gI_i]
    rw [vcase_b]
    have hpl := edP_len (e := r) hp h12
    obtain ⟨v, k1, e1, w1, nn⟩ := f_l2Copy (m := r.l) hrl h.n
    obtain ⟨e3, wb, u2, n2, x2⟩ := new_bys e1 w1 nn
    by_cases ha : r.at_ = ps.length
    · rw [if_pos (by simp [ha]), e3]
      generalize h.over k1 = K at wb u2 n2 x2 ⊢
      rw [hchk_of x2, cellsK_s rfl, if_pos (by simp), set01, hchk_of (HExt.new x2)]
      have wk : OutS 1 1 y1 (bss ps) b1 K := w.p.frame fun c hc => by
        have := w.p.rep.lt c hc
        exact ⟨by omega, u2.g c this⟩
      obtain ⟨h2, bs2, e4, w3, n3, f3, o3, q3, _⟩ := app_row wk (pg_row wb) rfl (by omega) (by simp) (fun c hc hh => by have := w.p.rep.lt c hc; have := List.mem_singleton.1 hh; omega) (by simp; unfold lim; omega)
      rw [e4, ob]
      dsimp only
      have kq : h2.g q = .rw 0 [.int .i64 0, y2, y1] := by rw [o3 q (by omega) (fun hh => (w.l1 q hh).1 rfl), u2.g q hq.2]; exact w.g
      rw [stK_rw (z := 1) (e := 0) (o := 2) (b := q) (cs := [.int .i64 0, y2, y1]) (r := [.sl (some (K.n + 1, 0)) ((bss ps).length + 1)]) (by omega) kq (.inl ⟨_, rfl, rfl, rfl⟩) rfl (by simp)]
      rw [show setAt [.int .i64 0, y2, y1] 2 [S.sl (some (K.n + 1, 0)) ((bss ps).length + 1)] = [.int .i64 0, y2, .sl (some (K.n + 1, 0)) ((bss ps).length + 1)] from rfl]
      have hps : ps ++ [r.l] = edP ps r := by unfold edP; rw [if_pos ha]
      rw [← bss_snoc, hps] at w3
      generalize (bss ps).length + 1 = N at w3 ⊢
      have f3' : ∀ c ∈ bs2, c ∈ b1 ∨ h.n ≤ c := fun c hc => by
        rcases f3 c hc with a | a | a
        · right; omega
        · exact .inl a
        · have := List.mem_singleton.1 a; right; omega
      have wN : Wk q y2 (.sl (some (K.n + 1, 0)) N) (all.take i) (edP ps r) b2 bs2 (h2.put q (.rw 0 [.int .i64 0, y2, .sl (some (K.n + 1, 0)) N])) := by
        refine ⟨w.e.frame fun c hc => ?_, w3.frame fun c hc => ⟨by rw [put_n]; exact w3.rep.lt c hc, put_g' ?_⟩, fun a ha hh => ?_, w.l2, fun a ha => ?_, ⟨hq.1, by rw [put_n]; omega⟩, put_g _ _ _, ?_⟩
        · have := w.e.rep.lt c hc
          exact ⟨by rw [put_n]; omega, by rw [put_g' (w.l2 c hc).1, o3 c (by omega) (fun hh => w.d c hh hc), u2.g c (by omega)]⟩
        · rcases f3' c hc with a | a
          · exact (w.l1 c a).1
          · omega
        · have := w.e.rep.lt a hh
          rcases f3' a ha with b | b
          · exact w.d a b hh
          · omega
        · rcases f3' a ha with b | b
          · exact w.l1 a b
          · omega
        · rw [put_g' (by omega), o3 0 (by omega) (fun hh => by have := (w.l1 0 hh).2; omega), u2.g 0 (by omega)]
          exact w.z
      obtain ⟨h4, y3, b3, e5, w5⟩ := J0_AE (h := h) hlm hr g1 wN (by rw [put_n]; omega) hq.2 w.bel
      rw [e5]
      exact ih (i + 1) _ h4 y3 _ b3 bs2 g2 w5 hpl
    · rw [if_neg (by simpa using ha), e3]
      obtain ⟨a, hA⟩ : ∃ a : Nat, r.at_ = a := ⟨r.at_.toNat, by omega⟩
      generalize h.over k1 = K at wb u2 n2 x2 ⊢
      rw [hchk_of x2]
      simp only [sca_v, scaS, cond_true]
      have wk : OutS 1 1 y1 (bss ps) b1 K := w.p.frame fun c hc => by
        have := w.p.rep.lt c hc
        exact ⟨by omega, u2.g c this⟩
      obtain ⟨h3, bs3, e4, w4, n4, m4, o4, _⟩ := set_pg (R := LOut) (i := a) (f := fun h375 => Jn.spec_ApplyEdits_l0_0 h375 (pv q 0) r.cs (runs all) (pv 0 0) (i : Int) h) wk (by omega) wb (fun hh => by have := w.p.rep.lt _ hh; omega)
      rw [hA]
      rw [e4]
      have hps : ps.set a r.l = edP ps r := by
        unfold edP
        rw [if_neg ha, hA]; rfl
      rw [hps] at w4
      have wN : Wk q y2 y1 (all.take i) (edP ps r) b2 bs3 h3 := by
        refine ⟨w.e.frame fun c hc => ?_, w4, fun a ha hh => ?_, w.l2, fun a ha => ?_, ⟨hq.1, by omega⟩, ?_, ?_⟩
        · have := w.e.rep.lt c hc
          exact ⟨by omega, by rw [o4 c (fun hh => w.d c hh hc), u2.g c (by omega)]⟩
        · have := w.e.rep.lt a hh
          rcases m4 a ha with b | b
          · exact w.d a b hh
          · omega
        · rcases m4 a ha with b | b
          · exact w.l1 a b
          · omega
        · rw [o4 q (fun hh => (w.l1 q hh).1 rfl), u2.g q hq.2]; exact w.g
        · rw [o4 0 (fun hh => by have := (w.l1 0 hh).2; omega), u2.g 0 (by omega)]; exact w.z
      obtain ⟨h5, y3, b3, e5, w5⟩ := J0_AE (h := h) hlm hr g1 wN (by omega) hq.2 w.bel
      rw [e5]
      exact ih (i + 1) _ h5 y3 _ b3 bs3 g2 w5 hpl
theorem p_spec_ApplyEdits {ps : List (List UInt8)} {es : List RunD} (hp : ps.length ≤ lim) (hpl : ∀ l ∈ ps, l.length ≤ lim) (hel : ∀ e ∈ es, e.l.length ≤ lim) (hlm : es.length + 1 ≤ lim) :
    pureV (call Ev) Fn.spec_ApplyEdits [lv (bss ps), lv (runs es)] = some (.agg [.int .i64 (edF ps es).1, .fs (runs (edF ps es).2.1), .fs (bss (edF ps es).2.2)]) := by
  rw [pu_spec_ApplyEdits, vcase_b, bss_len]
  unfold edF
  by_cases h12 : 12 < ps.length
  · rw [if_pos (by simp; omega), if_pos h12, p_l7Bad, ob]
    simp only [gVA_a, gx0, gx1, ob, gI_i, gF_f, ln0, ln1, Nat.zero_add, Nat.reduceAdd, if_true]
    rfl
  rw [if_neg (by simp; omega), if_neg h12]
  generalize hG : (D 0).new 0 [.int .i64 0, .sl none 0, .sl none 0] = G
  have gn : G.n = 1 := by rw [← hG]; simp
  have gg : G.g 0 = .rw 0 [.int .i64 0, .sl none 0, .sl none 0] := by rw [← hG]; exact new_g (D 0) _ _
  obtain ⟨y1, k1, b1, e1, w1, f1, n1⟩ := f_l7Copy hp hpl G.n
  obtain ⟨K, e2, u2, n2, w2, _⟩ := pO (h := G) (off := true) rfl e1 w1 f1 n1
  rw [e2, cellsK_s w2.isNo, if_pos (by simp), show setAt [.int .i64 0, .sl none 0, .sl none 0] 2 [y1] = [.int .i64 0, .sl none 0, y1] from rfl]
  simp only [gx0, gx1, ob, gI_i, ln0, ln1, Nat.zero_add, Nat.reduceAdd, if_true]
  rw [st3_at (K := K.new 0 [.int .i64 0, .sl none 0, .sl none 0]) (n := K.n) (by simp) (new_g _ _ _)]
  have uK : Up K ((K.new 0 [.int .i64 0, .sl none 0, .sl none 0]).put K.n (.rw 0 [.int .i64 0, .sl none 0, y1])) := up_st
  have wM : Wk K.n (.sl none 0) y1 (es.take 0) ps [] b1 ((K.new 0 [.int .i64 0, .sl none 0, .sl none 0]).put K.n (.rw 0 [.int .i64 0, .sl none 0, y1])) :=
    ⟨by simpa [runs] using OutS.none, w2.frame fun c hc => by
      have := w2.rep.lt c hc
      exact ⟨by simp; omega, uK.g c this⟩, by simp, by simp, fun a ha => by have := f1 a ha; have := w2.rep.lt a ha; omega, ⟨by omega, by simp⟩, put_g _ _ _, by rw [uK.g 0 (by omega), u2.g 0 (by omega)]; exact gg⟩
  generalize (K.new 0 [.int .i64 0, .sl none 0, .sl none 0]).put K.n (.rw 0 [.int .i64 0, .sl none 0, y1]) = M at wM ⊢
  rcases lp_spec_AE hlm hel es 0 ps M _ y1 [] b1 (by simp) wM (by omega) with ⟨hc, h', y2', y1', b2', b1', e3, w3⟩ | ⟨hc, hc2, h', e3⟩
  · rw [show iv .i64 0 = iv .i64 ((0 : Nat) : Int) from rfl, e3, ob, lcase_done]
    have hq := w3.qn
    simp only [gx0, gx1, ob, ldK]
    rw [ld3_at hq.2 w3.g]
    simp only [gVA_a, gx0, gx1, ob, gI_i, ln0, ln1, Nat.zero_add, Nat.reduceAdd, if_true]
    rw [st3_at (by omega) w3.z, ld3_at (by rw [put_n]; omega) (put_g _ _ _), hc, if_pos rfl]
    have a1 : OutS 2 1 y2' (runs es) b2' (h'.put 0 (.rw 0 [.int .i64 0, y2', y1'])) := w3.e.frame fun c hc => ⟨by rw [put_n]; exact w3.e.rep.lt c hc, put_g' (by have := (w3.l2 c hc).2; omega)⟩
    have a2 : OutS 1 1 y1' (bss (edG ps es).2) b1' (h'.put 0 (.rw 0 [.int .i64 0, y2', y1'])) := w3.p.frame fun c hc => ⟨by rw [put_n]; exact w3.p.rep.lt c hc, put_g' (by have := (w3.l1 c hc).2; omega)⟩
    exact (ownE (n := 0) (d := 4) a1 a2 (fun a ha hh => w3.d a hh ha) (by simp) (by simp) (by omega) (by omega)).frz
  · rw [show iv .i64 0 = iv .i64 ((0 : Nat) : Int) from rfl, e3, ob, lcase_ret, if_neg hc, hc2]
    simp [runs, bss]
end Vm
/-
  Results of edits and pages: compared, marked, found again.
-/
namespace Vm
open Go
theorem frzV_er {h : H} {c : Int} {a b : List (List S)} : frzV h (.agg [.int .i64 c, .fs a, .fs b]) = some (.agg [.int .i64 c, .fs a, .fs b]) := by simp
theorem loadE_3 {e b : Nat} {h : H} {x y z : S} (hb : b < h.n) (hg : h.g b = .rw e [x, y, z]) : loadN 3 h (pv b 0) = some [x, y, z] := loadN_rw hb hg (by simp)
theorem stE_3 {R : Type} {h : H} {x y z a b c : S} {k : H → Option R} : stK 3 (h.new 0 [a, b, c]) (pv h.n 0) (.agg [x, y, z]) k = k ((h.new 0 [a, b, c]).put h.n (.rw 0 [x, y, z])) :=
  stK_rw (z := 3) (e := 0) (o := 0) (b := h.n) (cs := [a, b, c]) (r := [x, y, z]) (by simp) (new_g _ _ _) (.inr rfl) rfl (by simp)
theorem p_eqER {c : Int} {m : List RunD × List (List UInt8)} (h1 : m.1.length ≤ maxLen ∧ m.2.length ≤ maxLen) (h2 : (∀ r ∈ m.1, r.l.length ≤ maxLen) ∧ ∀ l ∈ m.2, l.length ≤ maxLen) : pureV (call Ev) Fn.laws_eqEditsResult [.agg [.int .i64 c, .fs (runs m.1), .fs (bss m.2)], .agg [.int .i64 c, .fs (runs m.1), .fs (bss m.2)]] = some (bv true) := by
  rw [pu_laws_eqEditsResult, vcase_b, if_neg (by simp), pc (p_eqRunS h1.1 h2.1) rfl]
  simp only [gV1_s, gB_b, vcase_b, Bool.not_true, Bool.false_eq_true, if_false]
  rw [pc (p_eqPgs h1.2 h2.2 rfl) rfl]
  simp only [gV1_s, gB_b, vcase_b, Bool.not_true, Bool.false_eq_true, if_false]
theorem r_markER {h : H} {c : Int} {y z : S} {m : List RunD × List (List UInt8)} {lo hi k : Nat} (w : Sep (OwnC 4 [.int .i64 c, y, z] [.int .i64 c, .fs (runs m.1), .fs (bss m.2)] lo hi) lo hi h) (hl : k + (rsz m.1 + psz m.2) < 2 ^ 62) (hn : m.2.length < 2 ^ 62 := by omega) :
    ∃ p, call Ev Fn.laws_markEditsResult [.agg [.int .i64 c, y, z], iv .i64 k] h = some (iv .i64 ((k + (rsz m.1 + psz m.2) : Nat) : Int), p) ∧ Sep (OwnC 4 [.int .i64 c, y, z] [.int .i64 c, .fs (runs (mkRs k m.1)), .fs (bss (mkPs (k + rsz m.1) m.2))] lo hi) lo hi (tidy h [iv .i64 ((k + (rsz m.1 + psz m.2) : Nat) : Int)] p) ∧ ButR lo hi h (tidy h [iv .i64 ((k + (rsz m.1 + psz m.2) : Nat) : Int)] p) := by
  obtain ⟨bs, w1, w2, w3⟩ := w.now
  cases w1 with
  | @cons _ _ b0 _ _ bs' x0 w1 =>
    obtain ⟨_, rfl⟩ := x0.of_sc trivial
    cases w1 with
    | @cons _ _ b1 _ _ bs'' x1 w1 =>
      cases w1 with
      | @cons _ _ b2 _ _ bs3 x2 w1 =>
        cases w1
        simp only [List.nil_append, List.append_nil] at w2 w3
        have hnd := List.nodup_append.1 w2
        rw [eq_laws_markEditsResult]
        generalize hG : h.new 0 [.int .i64 c, y, z] = G
        have gn : G.n = h.n + 1 := by rw [← hG]; simp
        have gg : G.g h.n = .rw 0 [.int .i64 c, y, z] := by rw [← hG]; exact new_g _ _ _
        have go : ∀ q, q < h.n → G.g q = h.g q ∧ G.v q = h.v q := fun q hq => by
          rw [← hG]; exact ⟨new_g' (by omega), rfl⟩
        have ld : ∀ {K : H} {o : Nat}, h.n < K.n → K.g h.n = .rw 0 [.int .i64 c, y, z] → load1 K (pv h.n o) = ([.int .i64 c, y, z] : List S)[o]? := fun {K o} hk hkg => by simp [load1, H.cells, hk, hkg, Blk.cells]
        rw [ld (by omega) gg]
        simp only [gx0, gx1, ob]
        have l1 := x1.lt
        have l2 := x2.lt
        have x1G : Rep G 4 y (.fs (runs m.1)) b1 := x1.frame fun q hq => ⟨by have := l1 q hq; omega, (go q (l1 q hq)).1⟩
        obtain ⟨p1, e1, r1, n1, o1⟩ := Rep.markRs (d := 2) (k := k) x1G hnd.1 (by omega)
        rw [e1, ob]
        simp only [gV1_s, gI_i]
        have t1 : tidy G [iv .i64 ((k + rsz m.1 : Nat) : Int)] p1 = p1 := tidy_same n1 fun q hq => o1 q fun hh => by have := l1 q hh; omega
        have gp : p1.g h.n = .rw 0 [.int .i64 c, y, z] := (o1 h.n (fun hh => by have := l1 _ hh; omega)).1.trans gg
        rw [t1, ld (by omega) gp]
        simp only [gx0, gx1, ob]
        have x2P : Rep p1 4 z (.fs (bss m.2)) b2 := x2.frame fun q hq => ⟨by have := l2 q hq; omega, (o1 q (fun hh => hnd.2.2 q hh q hq rfl)).1.trans (go q (l2 q hq)).1⟩
        obtain ⟨p2, e2, r2, n2, o2⟩ := Rep.markPs (d := 2) (k := k + rsz m.1) x2P hnd.2.1 (by omega) hn
        rw [e2, ob]
        simp only [gV1_s, gI_i]
        have t2 : tidy p1 [iv .i64 ((k + rsz m.1 + psz m.2 : Nat) : Int)] p2 = p2 := tidy_same n2 fun q hq => o2 q fun hh => by have := l2 q hh; omega
        rw [t2, Nat.add_assoc]
        have r1' : Rep p2 4 y (.fs (runs (mkRs k m.1))) b1 := r1.frame fun q hq => ⟨by have := l1 q hq; omega, (o2 q (fun hh => hnd.2.2 q hq q hh rfl)).1⟩
        have wr : RepL (Rep p2 4) [.int .i64 c, y, z] [.int .i64 c, .fs (runs (mkRs k m.1)), .fs (bss (mkPs (k + rsz m.1) m.2))] (b1 ++ b2) := by
          have := RepL.cons (bs := []) (Rep.sc (h := p2) (d := 4) (s := .int .i64 c) trivial) (RepL.cons r1' (RepL.cons r2 .nil))
          simpa using this
        obtain ⟨a1, a2, a3⟩ := mark_tidy (n := ((k + (rsz m.1 + psz m.2) : Nat) : Int)) (h := h) wr (fun b hb => by
            rcases List.mem_append.1 hb with hb | hb
            · exact l1 b hb
            · exact l2 b hb) (by omega) (fun q hq hqn => by
            have h1 : q ∉ b1 := fun hh => hq (by simp [hh])
            have h2 : q ∉ b2 := fun hh => hq (by simp [hh])
            exact ⟨(o2 q h2).1.trans ((o1 q h1).1.trans (go q hqn).1), (o2 q h2).2.trans ((o1 q h1).2.trans (go q hqn).2)⟩) (fun hh => by omega)
        refine ⟨p2, rfl, OwnC.sep ⟨_, a2, w2, w3⟩ (by rw [a1]; exact w.top), a1, fun q hq => a3 q fun hh => ?_⟩
        have := w3 q hh
        omega
theorem p_heldER {c : Int} {k : Nat} {m : List RunD × List (List UInt8)} (hk : k + (rsz m.1 + psz m.2) < 2 ^ 62) (hn : m.2.length < 2 ^ 62 := by omega) : pureV (call Ev) Fn.laws_heldEditsResult [.agg [.int .i64 c, .fs (runs (mkRs k m.1)), .fs (bss (mkPs (k + rsz m.1) m.2))], iv .i64 k] = some (iv .i64 ((k + (rsz m.1 + psz m.2) : Nat) : Int)) := by
  rw [pu_laws_heldEditsResult, pc (p_heldRs (by omega)) rfl]
  simp only [gV1_s, gI_i, vcase_b]
  rw [if_neg (by simp; omega), pc (p_heldPgs (by omega) hn) rfl]
  simp only [gV1_s, gI_i, vcase_b]
  rw [if_neg (by simp; omega), Nat.add_assoc]
theorem edG_all {P : List UInt8 → Prop} : ∀ (es : List RunD) (ps : List (List UInt8)), (∀ l ∈ ps, P l) → (∀ e ∈ es, P e.l) → ∀ l ∈ (edG ps es).2, P l
  | [], ps, h, _ => h
  | e :: es, ps, h, he => by
    simp only [edG]
    split
    · simp
    split
    · simp
    · refine edG_all es _ (fun l hl => ?_) (fun x hx => he x (by simp [hx]))
      unfold edP at hl
      split at hl
      · rcases List.mem_append.1 hl with hl | hl
        · exact h l hl
        · rw [List.mem_singleton.1 hl]; exact he e (by simp)
      · rcases List.mem_or_eq_of_mem_set hl with hl | rfl
        · exact h l hl
        · exact he e (by simp)
theorem psz_le {B : Nat} : ∀ ps : List (List UInt8), (∀ l ∈ ps, l.length ≤ B) → psz ps ≤ ps.length * B
  | [], _ => Nat.zero_le _
  | l :: ps, h => by
    have := psz_le ps fun x hx => h x (by simp [hx])
    have := h l (by simp)
    rw [psz_cons, List.length_cons, Nat.succ_mul]; omega
theorem edF_bd {ps : List (List UInt8)} {es : List RunD} {B : Nat} (h1 : ∀ l ∈ ps, l.length ≤ B) (h2 : ∀ e ∈ es, e.l.length ≤ B) :
    (edF ps es).2.1.length ≤ es.length ∧ rsz (edF ps es).2.1 ≤ rsz es ∧ (∀ r ∈ (edF ps es).2.1, r.l.length ≤ B) ∧ (edF ps es).2.2.length ≤ 12 ∧ (∀ l ∈ (edF ps es).2.2, l.length ≤ B) ∧ psz (edF ps es).2.2 ≤ 12 * B := by
  have key : (edF ps es).2.2.length ≤ 12 ∧ ∀ l ∈ (edF ps es).2.2, l.length ≤ B := by
    unfold edF
    split
    · simp
    · exact ⟨edG_len es ps (by omega), edG_all (P := fun l => l.length ≤ B) es ps h1 h2⟩
  have k2 := psz_le _ key.2
  have := Nat.mul_le_mul_right B key.1
  refine ⟨?_, ?_, ?_, key.1, key.2, by omega⟩
  · unfold edF; split
    · simp
    · dsimp only; split <;> simp
  · unfold edF; split
    · exact Nat.zero_le _
    · dsimp only; split
      · exact Nat.le_refl _
      · exact Nat.zero_le _
  · unfold edF; split
    · simp
    · dsimp only; split
      · exact h2
      · simp
end Vm
/-
  The law of ApplyEdits returns true.
-/
namespace Vm
open Go
theorem run_FnExactApplyEdits (xs : List V) (hx : ArgsRp PR [T.S_S_uint8, T.S_laws_Edit] xs) : ∃ h', call Ev Fn.laws_FnExactApplyEdits xs (D 0) = some (bv true, h') := by
  match xs, hx with
  | [x0, x1], ⟨h0, h1, _⟩ =>
    obtain ⟨l0, rfl, hr0, hl0⟩ := arg_Pages h0
    obtain ⟨l1, rfl, hr1, hl1⟩ := arg_Edits h1
    refine law_of ?_
    rw [pu_laws_FnExactApplyEdits]
    rw [pc (p_szPgs (by omega) (by omega) hl0 hr0) rfl]
    simp only [gV1_s, gI_i, vcase_b, decide_eq_true_eq]
    by_cases hq0 : (if (l0.length : Int) ≤ 1048576 then szPgs l0 (1048576 - l0.length) else -1) < 0
    · rw [if_pos hq0]
    have hm0 : (l0.length : Int) ≤ 1048576 := szI hq0
    rw [if_neg hq0]
    rw [if_pos hm0] at hq0
    try rw [if_pos hm0]
    have hq0b := szPgs_le l0 (1048576 - l0.length) (by omega)
    have hq0s := szPgs_sum l0 (1048576 - l0.length) (by omega) (by omega)
    have hlim0 : l0.length ≤ lim := by unfold lim; omega
    have hlin0 : ∀ x ∈ l0, x.length ≤ lim := fun x hx => by have := psz_mem hx; unfold lim; omega
    rw [pc (p_szRunS (by omega) (by omega) hl1 fun r hr => (hr1 r hr).n) rfl]
    simp only [gV1_s, gI_i, vcase_b, decide_eq_true_eq]
    by_cases hq1 : (if (l1.length : Int) ≤ (szPgs l0 (1048576 - l0.length)) then szRuns l1 ((szPgs l0 (1048576 - l0.length)) - l1.length) else -1) < 0
    · rw [if_pos hq1]
    have hm1 : (l1.length : Int) ≤ (szPgs l0 (1048576 - l0.length)) := szI hq1
    rw [if_neg hq1]
    rw [if_pos hm1] at hq1
    try rw [if_pos hm1]
    have hq1b := szRuns_le l1 ((szPgs l0 (1048576 - l0.length)) - l1.length) (by omega)
    have hq1s := szRuns_sum l1 ((szPgs l0 (1048576 - l0.length)) - l1.length) (by omega) (by omega)
    have hlim1 : l1.length ≤ lim := by unfold lim; omega
    have hn1 : ∀ r ∈ l1, r.l.length ≤ lim := fun r hr => by have := szRuns_all l1 ((szPgs l0 (1048576 - l0.length)) - l1.length) (by omega) r hr; unfold lim; omega
    rw [p_toPgs hlim0 hlin0]
    simp only [ob, gV1_s, gF_f]
    rw [p_toRunS hlim1 hn1]
    simp only [ob, gV1_s, gF_f]
    have hB0 : ∀ x ∈ l0, x.length ≤ 1048576 := fun x hx => by have := psz_mem hx; omega
    have hB1 : ∀ r ∈ l1, r.l.length ≤ 1048576 := fun r hr => by have := szRuns_all l1 (szPgs l0 (1048576 - ↑l0.length) - l1.length) (by omega) r hr; omega
    have hlm1 : l1.length + 1 ≤ lim := by unfold lim; omega
    have hps := p_spec_ApplyEdits (ps := l0) (es := l1) hlim0 hlin0 hn1 hlm1
    have hfs := fun n => f_ApplyEdits (ps := l0) (es := l1) hlim0 hlin0 hl1 hn1 hlm1 n
    obtain ⟨s1, s2, s3, s4, s5, s6⟩ := edF_bd hB0 hB1
    generalize (edF l0 l1).1 = c at hps hfs
    generalize (edF l0 l1).2 = m at s1 s2 s3 s4 s5 s6 hps hfs
    have hmm : m.1.length ≤ maxLen ∧ m.2.length ≤ maxLen := by unfold maxLen; omega
    have hmr : (∀ r ∈ m.1, r.l.length ≤ maxLen) ∧ ∀ l ∈ m.2, l.length ≤ maxLen := ⟨fun r hr => by have := s3 r hr; unfold maxLen; omega, fun r hr => by have := s5 r hr; unfold maxLen; omega⟩
    rw [hps]
    simp only [ob, gVA_a, gx0, gx1, gI_i, gF_f, ln0, ln1, Nat.zero_add, Nat.reduceAdd, if_true]
    generalize hA : ((D 0).new 0 [.int .i64 0, .sl none 0, .sl none 0]).put 0 (.rw 0 [.int .i64 c, .fs (runs m.1), .fs (bss m.2)]) = A
    have an : A.n = 1 := by rw [← hA]; simp
    have wA : Sep (At 0 (.rw 0 [.int .i64 c, .fs (runs m.1), .fs (bss m.2)])) 0 1 A := Sep.at (by omega) (by rw [← hA]; exact put_g _ _ _)
    obtain ⟨v0, k0, e0, q0⟩ := f_toPgs hlim0 hlin0 A.n
    obtain ⟨B0, eB0, uB0, nB0, w0⟩ := OwnV.pv rfl e0 q0
    rw [eB0]
    clear eB0 e0 q0
    rw [an] at nB0 w0
    replace wA := wA.up uB0
    clear uB0
    obtain ⟨v1, k1, e1, q1⟩ := f_toRunS hlim1 hn1 B0.n
    obtain ⟨B1, eB1, uB1, nB1, w1⟩ := OwnRs.pv rfl e1 q1.1
    rw [eB1]
    clear eB1 e1 q1
    replace wA := wA.up uB1
    replace w0 := w0.up uB1
    clear uB1
    rw [frzVs_cons w0.now.frz (frzVs_cons w1.now.frz frzVs_nil), ob, norm_nil]
    obtain ⟨y, z, k2, e2, q2⟩ := hfs B1.n
    obtain ⟨C, eC, uC, nC, wg⟩ := pC (h := B1) rfl e2 q2
    rw [eC]
    clear eC e2 q2
    replace wA := wA.up uC
    replace w0 := w0.up uC
    replace w1 := w1.up uC
    clear uC
    simp only [gVA_a, gx0, gx1, ob, gI_i, ln0, ln1, Nat.zero_add, Nat.reduceAdd, if_true]
    rw [stE_3]
    have uG : Up C ((C.new 0 [.int .i64 0, .sl none 0, .sl none 0]).put C.n (.rw 0 [.int .i64 c, y, z])) := up_st
    have wG : Sep (At C.n (.rw 0 [.int .i64 c, y, z])) C.n (C.n + 1) ((C.new 0 [.int .i64 0, .sl none 0, .sl none 0]).put C.n (.rw 0 [.int .i64 c, y, z])) := Sep.at (by rw [n_st]; omega) g_st
    have nG : ((C.new 0 [.int .i64 0, .sl none 0, .sl none 0]).put C.n (.rw 0 [.int .i64 c, y, z])).n = C.n + 1 := n_st
    replace wA := wA.up uG
    replace w0 := w0.up uG
    replace w1 := w1.up uG
    replace wg := wg.up uG
    generalize (C.new 0 [.int .i64 0, .sl none 0, .sl none 0]).put C.n (.rw 0 [.int .i64 c, y, z]) = HG at wA w0 w1 wg wG nG ⊢
    clear uG
    rw [loadE_3 wG.now.1 wG.now.2]
    simp only [gx0, gx1, ob, gI_i, ln0, ln1, Nat.zero_add, Nat.reduceAdd, if_true]
    rw [loadE_3 wA.now.1 wA.now.2]
    simp only [gx0, gx1, ob, gI_i, ln0, ln1, Nat.zero_add, Nat.reduceAdd, if_true]
    rw [frzVs_cons wg.now.frz (frzVs_cons frzV_er frzVs_nil), ob, norm_nil, pc (p_eqER hmm hmr) rfl]
    simp only [gV1_s, gB_b, vcase_b, decide_true, Bool.and_self, Bool.not_true, Bool.false_eq_true, if_false]
    rw [frzVs_cons w0.now.frz (frzVs_cons frzV_lv frzVs_nil), ob, norm_nil, pc (p_eqPgs hl0 hr0 rfl) rfl]
    simp only [gV1_s, gB_b, vcase_b, decide_true, Bool.and_self, Bool.not_true, Bool.false_eq_true, if_false]
    rw [frzVs_cons w1.now.frz (frzVs_cons frzV_lv frzVs_nil), ob, norm_nil, pc (p_eqRunS hl1 fun r hr => (hr1 r hr).n) rfl]
    simp only [gV1_s, gB_b, vcase_b, decide_true, Bool.and_self, Bool.not_true, Bool.false_eq_true, if_false]
    rw [show (1 : Int) = ((1 : Nat) : Int) from rfl]
    obtain ⟨p0, e0, m0, b0⟩ := OwnV.markP (k := 1) w0 (by omega)
    rw [e0, ob]
    simp only [gV1_s, gI_i]
    replace wA := wA.but b0 (by omega)
    replace w1 := w1.but b0 (by omega)
    replace wg := wg.but b0 (by omega)
    replace wG := wG.but b0 (by omega)
    replace w0 := m0
    clear m0 e0
    obtain ⟨p1, e1, m1, b1⟩ := OwnRs.mark (k := 1 + psz l0) w1 (by omega)
    rw [e1, ob]
    simp only [gV1_s, gI_i]
    replace wA := wA.but b1 (by omega)
    replace w0 := w0.but b1 (by omega)
    replace wg := wg.but b1 (by omega)
    replace wG := wG.but b1 (by omega)
    replace w1 := m1
    clear m1 e1
    rw [if_neg (by simp; omega)]
    unfold Jn.laws_FnExactApplyEdits_0
    dsimp only
    generalize tidy HG [iv .i64 ((1 + psz l0 : Nat) : Int)] p0 = F0 at wA w0 w1 wg wG b0 b1 ⊢
    generalize tidy F0 [iv .i64 ((1 + psz l0 + rsz l1 : Nat) : Int)] p1 = F1 at wA w0 w1 wg wG b0 b1 ⊢
    clear b0 b1
    rw [loadE_3 wG.now.1 wG.now.2]
    simp only [gx0, gx1, ob, gI_i, ln0, ln1, Nat.zero_add, Nat.reduceAdd, if_true]
    rw [loadE_3 wA.now.1 wA.now.2]
    simp only [gx0, gx1, ob, gI_i, ln0, ln1, Nat.zero_add, Nat.reduceAdd, if_true]
    rw [frzVs_cons wg.now.frz (frzVs_cons frzV_er frzVs_nil), ob, norm_nil, pc (p_eqER hmm hmr) rfl]
    simp only [gV1_s, gB_b, vcase_b, decide_true, Bool.and_self, Bool.not_true, Bool.false_eq_true, if_false]
    obtain ⟨pg, eg, mg, bg⟩ := r_markER (k := 1) wg (by omega)
    rw [show (1 : Int) = ((1 : Nat) : Int) from rfl, eg, ob]
    simp only [gV1_s, gI_i]
    replace wA := wA.but bg (by omega)
    replace w0 := w0.but bg (by omega)
    replace w1 := w1.but bg (by omega)
    replace wG := wG.but bg (by omega)
    replace wg := mg
    clear mg eg
    generalize tidy F1 [iv .i64 ((1 + (rsz m.1 + psz m.2) : Nat) : Int)] pg = G at wA wg wG bg ⊢
    rw [loadE_3 wG.now.1 wG.now.2]
    simp only [gx0, gx1, ob, gI_i, ln0, ln1, Nat.zero_add, Nat.reduceAdd, if_true]
    rw [frzVs_cons wg.now.frz (frzVs_cons frzV_iv frzVs_nil), ob, norm_nil, pc (p_heldER (by omega)) rfl]
    simp only [gV1_s, gI_i, vcase_b]
    rw [if_neg (by simp; omega), if_neg (by simp)]
    rw [p_toPgs hlim0 hlin0]
    simp only [ob, gV1_s, gF_f]
    rw [p_toRunS hlim1 hn1]
    simp only [ob, gV1_s, gF_f]
    obtain ⟨y', z', k5, e5, w5⟩ := hfs 0
    rw [NewC.p (by omega) e5 w5]
    simp only [ob, gVA_a, gx0, gx1, gI_i, gF_f, ln0, ln1, Nat.zero_add, Nat.reduceAdd, if_true]
    rw [stE_3]
    have uK : Up G ((G.new 0 [.int .i64 0, .sl none 0, .sl none 0]).put G.n (.rw 0 [.int .i64 c, .fs (runs m.1), .fs (bss m.2)])) := up_st
    have wK : Sep (At G.n (.rw 0 [.int .i64 c, .fs (runs m.1), .fs (bss m.2)])) G.n (G.n + 1) ((G.new 0 [.int .i64 0, .sl none 0, .sl none 0]).put G.n (.rw 0 [.int .i64 c, .fs (runs m.1), .fs (bss m.2)])) := Sep.at (by rw [n_st]; omega) g_st
    replace wA := wA.up uK
    replace wg := wg.up uK
    replace wG := wG.up uK
    generalize (G.new 0 [.int .i64 0, .sl none 0, .sl none 0]).put G.n (.rw 0 [.int .i64 c, .fs (runs m.1), .fs (bss m.2)]) = K at wA wg wG wK ⊢
    rw [loadE_3 wK.now.1 wK.now.2]
    simp only [gx0, gx1, ob, gI_i, ln0, ln1, Nat.zero_add, Nat.reduceAdd, if_true]
    rw [loadE_3 wA.now.1 wA.now.2]
    simp only [gx0, gx1, ob, gI_i, ln0, ln1, Nat.zero_add, Nat.reduceAdd, if_true]
    rw [frzVs_cons frzV_er (frzVs_cons frzV_er frzVs_nil), ob, norm_nil, pc (p_eqER hmm hmr) rfl]
    simp only [gV1_s, gB_b, vcase_b, decide_true, Bool.and_self, Bool.not_true, Bool.false_eq_true, if_false]
    rw [loadE_3 wG.now.1 wG.now.2]
    simp only [gx0, gx1, ob, gI_i, ln0, ln1, Nat.zero_add, Nat.reduceAdd, if_true]
    rw [frzVs_cons wg.now.frz (frzVs_cons frzV_iv frzVs_nil), ob, norm_nil, pc (p_heldER (by omega)) rfl]
    simp only [gV1_s, gI_i, vcase_b]
    rw [if_neg (by simp; omega), if_neg (by simp)]
end Vm
