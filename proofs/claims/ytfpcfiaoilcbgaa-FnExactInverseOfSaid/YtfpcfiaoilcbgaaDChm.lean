/-
  Slices of changes: their size, a copy, a comparison; marked.
-/
import Derived.Test.YtfpcfiaoilcbgaaDMay
import Derived.Test.YtfpcfiaoilcbgaaDGr
set_option linter.unusedVariables false
set_option maxRecDepth 100000
set_option linter.unusedSimpArgs false
namespace Vm
open Go
def chs (rs : List ChgD) : List (List S) := rs.map ChgD.cs
@[simp] theorem chs_len (rs : List ChgD) : (chs rs).length = rs.length := by simp [chs]
theorem chs_row {rs : List ChgD} : ∀ r ∈ chs rs, r.length = 10 := by
  intro r hr
  obtain ⟨c, _, rfl⟩ := List.mem_map.1 hr
  rfl
theorem chg_sc {c : ChgD} : ∀ s ∈ c.cs, Sc s := by
  intro s hs
  simp only [List.mem_cons, List.not_mem_nil, or_false] at hs
  rcases hs with rfl | rfl | rfl | rfl | rfl | rfl | rfl | rfl | rfl | rfl <;> trivial
theorem chs_sc {rs : List ChgD} : ∀ r ∈ chs rs, ∀ s ∈ r, Sc s := by
  intro r hr
  obtain ⟨c, _, rfl⟩ := List.mem_map.1 hr
  exact chg_sc
theorem chs_get {rs : List ChgD} {i : Nat} {r : ChgD} (h : rs[i]? = some r) : (chs rs)[i]? = some r.cs := by simp [chs, h]
theorem chs_snoc (rs : List ChgD) (r : ChgD) : chs (rs ++ [r]) = chs rs ++ [r.cs] := by simp [chs]
section
variable {R : Type}
theorem idxF_ch {rs : List ChgD} {i : Nat} {r : ChgD} {k : List S → Option R} (h : rs[i]? = some r) : idxF 10 (chs rs) (i : Int) k = k r.cs := idxF_at (chs_get h) rfl
end
theorem rowN_ch {r : ChgD} : rowN 10 r.cs 0 = some r.cs := rowN_all rfl
theorem normV_ch {r : ChgD} : normV 10 (fv r.cs 0) = fv r.cs 0 := rfl
theorem rows_Change {m : Nat} : ∀ rows : List (List S), (∀ r ∈ rows, r.length = PR.cellsOf T.laws_Change ∧ Rp PR m T.laws_Change r) → ∃ rs : List ChgD, rows = chs rs ∧ ∀ r ∈ rs, r.ok
  | [], _ => ⟨[], rfl, by simp⟩
  | r :: rows, hr => by
    obtain ⟨rs, h1, h2⟩ := rows_Change rows fun r hm => hr r (by simp [hm])
    obtain ⟨a, h3, h4⟩ := rp_Change (hr r (by simp)).2
    refine ⟨a :: rs, by rw [h1, h3]; rfl, fun x hx => ?_⟩
    rcases List.mem_cons.1 hx with rfl | hx
    · exact h4
    · exact h2 x hx
theorem arg_Changes {x : V} (hr : ArgRp PR T.S_laws_Change x) : ∃ rs : List ChgD, x = lv (chs rs) ∧ (∀ r ∈ rs, r.ok) ∧ rs.length ≤ maxLen := by
  obtain ⟨s, n, rfl, h1⟩ := hr.slice und_S_laws_Change
  obtain ⟨m, rows, h1, h2, h3⟩ := h1.slice und_S_laws_Change
  cases h1
  obtain ⟨rs, rfl, h4⟩ := rows_Change rows h3
  exact ⟨rs, rfl, h4, by simpa using h2⟩
/-! size -/
def szChgs : List ChgD → Int → Int
  | [], left => left
  | r :: rs, left => if 0 ≤ szChg r left then szChgs rs (szChg r left) else -1
theorem szChg_le {c : ChgD} {left : Int} (h : 0 ≤ left) : szChg c left ≤ left ∧ -1 ≤ szChg c left := by
  unfold szChg
  split
  · split <;> omega
  · omega
theorem szChgs_le : ∀ (rs : List ChgD) (left : Int), 0 ≤ left → szChgs rs left ≤ left ∧ -1 ≤ szChgs rs left
  | [], left, h => ⟨Int.le_refl _, by simp only [szChgs]; omega⟩
  | r :: rs, left, h => by
    have h1 := szChg_le (c := r) h
    simp only [szChgs]
    split
    · rename_i h2
      have := szChgs_le rs (szChg r left) h2; omega
    · omega
theorem p_szChangeS {all : List ChgD} {left : Int} (h1 : 0 ≤ left) (h2 : left < 9223372036854775808) (hl : all.length ≤ maxLen) (hr : ∀ r ∈ all, r.ok) : pureV (call Ev) Fn.laws_szChangeS [lv (chs all), iv .i64 left] = some (iv .i64 (if (all.length : Int) ≤ left then szChgs all (left - all.length) else -1)) := by
  unfold maxLen at hl
  have loop : ∀ (rs : List ChgD) (i : Nat) (q : Int), all.drop i = rs → 0 ≤ q → q < 9223372036854775808 →
      (Lp.laws_szChangeS 0 [lv (chs all), iv .i64 q, iv .i64 i] (D 0)).bind (fun o102 => lcase o102 (fun l103 h104 =>
        (l103[0]?).bind fun w107 =>
        gV1 w107 fun x108 =>
        gI .i64 x108 fun i109 =>
        some (iv .i64 i109)) (fun v105 h106 =>
        frzV h106 v105)) = some (iv .i64 (szChgs rs q)) := by
    intro rs
    induction rs with
    | nil =>
      intro i q hi h1 h2
      have := drop_nil hi
      rw [eq_laws_szChangeS_l0, vcase_b, if_neg (by simp; omega), tidy_self, ob, lcase_done]
      simp only [gx0, ob, gV1_s, gI_i, szChgs]
    | cons r rs ih =>
      intro i q hi h1 h2
      obtain ⟨g1, g2, g3⟩ := drop_cons hi
      have hle := szChg_le (c := r) h1
      rw [eq_laws_szChangeS_l0, vcase_b, if_pos (by simp; omega), idxF_ch g1, rowN_ch]
      simp only [ob, gx0, gx1, gI_i, gS_s, gB_b, gVA_a, ln0, ln1, Nat.zero_add, Nat.reduceAdd, if_true]
      rw [pc (p_szChange r h1 h2 (hr r (List.mem_of_getElem? g1))) rfl]
      simp only [gV1_s, gI_i, vcase_b, decide_eq_true_eq, szChgs]
      by_cases hle : 0 ≤ szChg r q
      · rw [if_neg (by omega), w64 (by omega) (by omega), tidy_self, show (i : Int) + 1 = ((i + 1 : Nat) : Int) from by omega, if_pos hle]
        exact ih (i + 1) _ g2 (by omega) (by omega)
      · rw [if_pos (by omega), if_neg hle]; rfl
  rw [pu_laws_szChangeS, vcase_b, chs_len, w64 (by omega) (by omega)]
  by_cases hq : (all.length : Int) ≤ left
  · rw [if_neg (by simp; omega), if_pos hq]
    exact loop all 0 _ rfl (by omega) (by omega)
  · rw [if_pos (by simp; omega), if_neg hq]
/-! a copy -/
theorem f_toChangeSv {all : List ChgD} (hl : all.length ≤ lim) (n : Nat) : ∃ v h', call Ev Fn.laws_toChangeS [lv (chs all)] (D n) = some (v, h') ∧ (n ≤ h'.n ∧ OwnV v (.fs (chs all)) n h'.n h') := by
  have hl' := hl
  unfold lim at hl'
  rw [eq_laws_toChangeS, chs_len, mkSl_of (z := 10) (zero := [.bool false, .int .i64 0, .int .i64 0, .int .i64 0, .str ⟨#[]⟩, .bool false, .int .i64 0, .int .i64 0, .int .i64 0, .str ⟨#[]⟩]) hl (by omega) rfl, ob]
  obtain ⟨h', e1, e2, e3, _⟩ := fill_rows (z := 10) (n := all.length) (b := n) (rows := chs all) (L := fun i h => Lp.laws_toChangeS 0 [lv (chs all), sv n 0 all.length, iv .i64 i] h) (fin := [sv n 0 all.length]) (by simp) chs_row
    (fun i h r hr' hi hb => by
      obtain ⟨a, ha⟩ : ∃ a, all[i]? = some a := ⟨_, List.getElem?_eq_getElem hi⟩
      rw [chs_get ha] at hr'; cases hr'
      refine ⟨.agg a.cs, [lv (chs all), sv n 0 all.length, iv .i64 ((i + 1 : Nat) : Int)], .inr rfl, ?_⟩
      show Lp.laws_toChangeS 0 _ h = _
      rw [eq_laws_toChangeS_l0, vcase_b, if_pos (by simp; omega), idxF_ch ha, rowN_ch]
      simp only [ob, gx0, gx1, gI_i, gS_s, gB_b, gVA_a, ln0, ln1, Nat.zero_add, Nat.reduceAdd, if_true]
      rw [pc (p_toChange a) (by simp)]
      simp only [ob, gx0, gx1, gI_i, gS_s, gB_b, gVA_a, ln0, ln1, Nat.zero_add, Nat.reduceAdd, if_true]
      rw [idxK_sv hi, w64 (by omega) (by omega), show (i : Int) + 1 = ((i + 1 : Nat) : Int) from by omega])
    (fun h => by
      show Lp.laws_toChangeS 0 _ h = _
      rw [eq_laws_toChangeS_l0, vcase_b, if_neg (by simp), tidy_self])
    ((D n).new 10 ((List.replicate all.length [.bool false, .int .i64 0, .int .i64 0, .int .i64 0, .str ⟨#[]⟩, .bool false, .int .i64 0, .int .i64 0, .int .i64 0, .str ⟨#[]⟩]).flatten)) _ (by simp) (by exact new_g (D n) _ _) (repl_len rfl)
  rw [D_n, e1]
  simp only [ob, lcase_done, gx0]
  have hn : h'.n = n + 1 := by rw [e2]; simp
  have := own_flat (h := h') (n := n) (z := 10) (rows := chs all) (by omega) (by omega) e3 chs_row chs_sc
  rw [chs_len] at this
  exact ⟨_, _, rfl, by omega, this⟩
theorem p_toChangeS {all : List ChgD} (hl : all.length ≤ lim) : pureV (call Ev) Fn.laws_toChangeS [lv (chs all)] = some (lv (chs all)) := by
  obtain ⟨v, h', e, _, w⟩ := f_toChangeSv hl 0
  unfold pureV
  rw [e, ob, w.frz]
/-! a comparison -/
theorem p_eqChange (r : ChgD) : pureV (call Ev) Fn.laws_eqChange [.agg r.cs, .agg r.cs] = some (bv true) := by
  rw [pu_laws_eqChange, vcase_b, if_neg (by simp), pc (p_eqRow r.b) rfl]
  simp only [gV1_s, gB_b, vcase_b]
  rw [if_neg (by simp), if_neg (by simp), pc (p_eqRow r.a) rfl]
  simp
theorem p_eqChangeS {all : List ChgD} (hl : all.length ≤ maxLen) : pureV (call Ev) Fn.laws_eqChangeS [lv (chs all), lv (chs all)] = some (bv true) := by
  unfold maxLen at hl
  have loop : ∀ (rs : List ChgD) (i : Nat), all.drop i = rs → Lp.laws_eqChangeS 0 [lv (chs all), lv (chs all), iv .i64 i] (D 0) = some (.done [] (D 0)) := by
    intro rs
    induction rs with
    | nil =>
      intro i hi
      have := drop_nil hi
      rw [eq_laws_eqChangeS_l0, vcase_b, if_neg (by simp; omega), tidy_self]
    | cons r rs ih =>
      intro i hi
      obtain ⟨g1, g2, g3⟩ := drop_cons hi
      rw [eq_laws_eqChangeS_l0, vcase_b, if_pos (by simp; omega), idxF_ch g1, rowN_ch]
      simp only [ob, gx0, gx1, gI_i, gS_s, gB_b, gVA_a, ln0, ln1, Nat.zero_add, Nat.reduceAdd, if_true]
      rw [idxF_ch g1, rowN_ch]
      simp only [ob, gx0, gx1, gI_i, gS_s, gB_b, gVA_a, ln0, ln1, Nat.zero_add, Nat.reduceAdd, if_true]
      rw [pc (p_eqChange r) rfl]
      simp only [gV1_s, gB_b, hchk_self, vcase_b]
      rw [if_neg (by simp), tidy_self, w64 (by omega) (by omega), show (i : Int) + 1 = ((i + 1 : Nat) : Int) from by omega]
      exact ih (i + 1) g2
  rw [pu_laws_eqChangeS, vcase_b, if_neg (by simp), show iv .i64 0 = iv .i64 ((0 : Nat) : Int) from rfl, loop all 0 rfl]
  simp
/-! marks -/
noncomputable def mkG (k : Nat) (_ : ChgD) : ChgD := ⟨((k : Nat) : Int).tmod 3 == 0, ⟨(k + 1 : Nat), (k + 2 : Nat), (k + 3 : Nat), mtx (k + 4)⟩, ((k + 5 : Nat) : Int).tmod 3 == 0, ⟨(k + 6 : Nat), (k + 7 : Nat), (k + 8 : Nat), mtx (k + 9)⟩⟩
def szG (_ : ChgD) : Nat := 10
noncomputable def mkGs (k : Nat) (rs : List ChgD) : List ChgD := mkAll mkG szG k rs
theorem szG_all : ∀ rs : List ChgD, szAll szG rs = 10 * rs.length
  | [] => rfl
  | r :: rs => by simp only [szAll, szG, szG_all rs, List.length_cons]; omega
theorem mkGs_len (k : Nat) (rs : List ChgD) : (mkGs k rs).length = rs.length := mkAll_len _ _ _ _
theorem b_rem3 (k : Nat) : bin Ev .rem 3 (iv .i64 (k : Int)) (iv .i64 3) = some (iv .i64 ((k : Int).tmod 3)) := by simp [bin, binI]
theorem Rep.markGs {h : H} {d : Nat} {y : S} {rs : List ChgD} {bs : List Nat} {k : Nat} (w : Rep h (d + 1) y (.fs (chs rs)) bs) (hd : bs.Nodup) (hk : k + 10 * rs.length < 2 ^ 62) :
    ∃ h', call Ev Fn.laws_markChangeS [.s y, iv .i64 k] h = some (iv .i64 ((k + 10 * rs.length : Nat) : Int), h') ∧ Rep h' (d + 1) y (.fs (chs (mkGs k rs))) bs ∧ h'.n = h.n ∧ ∀ c, c ∉ bs → h'.g c = h.g c ∧ h'.v c = h.v c := by
  have hsz := szG_all rs
  obtain ⟨h', e1, r1, n1, o1⟩ := Rep.marks (z := 10) (cs := ChgD.cs) (mk := mkG) (sz := szG) (k := k) (Lv := fun v k i h => Lp.laws_markChangeS 0 [v, iv .i64 k, iv .i64 i] h) (fin := fun k => [iv .i64 k]) (by omega) (fun _ => rfl) w hd (by omega)
    (fun b i k r h pre ys post bs hi hp hy hk hb hg wr hnd hnb => by
      obtain ⟨rfl, rfl⟩ := wr.of_sc chg_sc
      have hk' : k + 10 < 2 ^ 62 := hk
      show ∃ h' ys', Lp.laws_markChangeS 0 _ h = _ ∧ _
      rw [eq_laws_markChangeS_l0]
      simp only [lenV, Option.bind_some, gV1_s, gI_i, vcase_b]
      rw [if_pos (by simp; omega)]
      simp only [idxK_sv hi, padd, ob]
      rw [w64 (n := (i : Int) + 1) (by omega) (by omega), w64 (n := (k : Int) + 1) (by omega) (by omega), w64 (n := (k : Int) + 1 + 1) (by omega) (by omega), w64 (n := (k : Int) + 1 + 1 + 1) (by omega) (by omega), w64 (n := (k : Int) + 1 + 1 + 1 + 1) (by omega) (by omega), w64 (n := (k : Int) + 1 + 1 + 1 + 1 + 1) (by omega) (by omega), w64 (n := (k : Int) + 1 + 1 + 1 + 1 + 1 + 1) (by omega) (by omega), w64 (n := (k : Int) + 1 + 1 + 1 + 1 + 1 + 1 + 1) (by omega) (by omega), w64 (n := (k : Int) + 1 + 1 + 1 + 1 + 1 + 1 + 1 + 1) (by omega) (by omega), w64 (n := (k : Int) + 1 + 1 + 1 + 1 + 1 + 1 + 1 + 1 + 1) (by omega) (by omega), w64 (n := (k : Int) + 1 + 1 + 1 + 1 + 1 + 1 + 1 + 1 + 1 + 1) (by omega) (by omega)]
      rw [show (i : Int) + 1 = ((i + 1 : Nat) : Int) from by omega, show (k : Int) + 1 + 1 + 1 + 1 + 1 + 1 + 1 + 1 + 1 + 1 = ((k + 10 : Nat) : Int) from by omega, show (k : Int) + 1 + 1 + 1 + 1 + 1 + 1 + 1 + 1 + 1 = ((k + 9 : Nat) : Int) from by omega, show (k : Int) + 1 + 1 + 1 + 1 + 1 + 1 + 1 + 1 = ((k + 8 : Nat) : Int) from by omega, show (k : Int) + 1 + 1 + 1 + 1 + 1 + 1 + 1 = ((k + 7 : Nat) : Int) from by omega, show (k : Int) + 1 + 1 + 1 + 1 + 1 + 1 = ((k + 6 : Nat) : Int) from by omega, show (k : Int) + 1 + 1 + 1 + 1 + 1 = ((k + 5 : Nat) : Int) from by omega, show (k : Int) + 1 + 1 + 1 + 1 = ((k + 4 : Nat) : Int) from by omega, show (k : Int) + 1 + 1 + 1 = ((k + 3 : Nat) : Int) from by omega, show (k : Int) + 1 + 1 = ((k + 2 : Nat) : Int) from by omega, show (k : Int) + 1 = ((k + 1 : Nat) : Int) from by omega]
      simp only [b_rem3, ob, gV1_s, gI_i]
      simp only [Nat.add_assoc, Nat.reduceAdd]
      rw [st_cell (j := 0) hb hg hp (by simp) rfl]
      rw [st_cell (j := 1) (by simp only [put_n]; exact hb) (put_g _ _ _) hp (by simp) rfl]
      rw [st_cell (j := 2) (by simp only [put_n]; exact hb) (put_g _ _ _) hp (by simp) rfl]
      rw [st_cell (j := 3) (by simp only [put_n]; exact hb) (put_g _ _ _) hp (by simp) rfl]
      rw [pc (p_markText (k := k + 4) (by omega)) rfl]
      simp only [gV1_s, gS_s]
      rw [st_cell (j := 4) (by simp only [put_n]; exact hb) (put_g _ _ _) hp (by simp) rfl]
      rw [st_cell (j := 5) (by simp only [put_n]; exact hb) (put_g _ _ _) hp (by simp) rfl]
      rw [st_cell (j := 6) (by simp only [put_n]; exact hb) (put_g _ _ _) hp (by simp) rfl]
      rw [st_cell (j := 7) (by simp only [put_n]; exact hb) (put_g _ _ _) hp (by simp) rfl]
      rw [st_cell (j := 8) (by simp only [put_n]; exact hb) (put_g _ _ _) hp (by simp) rfl]
      rw [pc (p_markText (k := k + 9) (by omega)) rfl]
      simp only [gV1_s, gS_s]
      rw [st_cell (j := 9) (by simp only [put_n]; exact hb) (put_g _ _ _) hp (by simp) rfl]
      simp only [List.set_cons_zero, List.set_cons_succ]
      generalize hF : ((((((((((h.put b (.rw 10 (pre ++ [.bool (((k : Nat) : Int).tmod 3 == 0), .int .i64 r.b.tab, .int .i64 r.b.key, .int .i64 r.b.val, .str r.b.text, .bool r.is, .int .i64 r.a.tab, .int .i64 r.a.key, .int .i64 r.a.val, .str r.a.text] ++ post))).put b (.rw 10 (pre ++ [.bool (((k : Nat) : Int).tmod 3 == 0), .int .i64 ((k + 1 : Nat) : Int), .int .i64 r.b.key, .int .i64 r.b.val, .str r.b.text, .bool r.is, .int .i64 r.a.tab, .int .i64 r.a.key, .int .i64 r.a.val, .str r.a.text] ++ post))).put b (.rw 10 (pre ++ [.bool (((k : Nat) : Int).tmod 3 == 0), .int .i64 ((k + 1 : Nat) : Int), .int .i64 ((k + 2 : Nat) : Int), .int .i64 r.b.val, .str r.b.text, .bool r.is, .int .i64 r.a.tab, .int .i64 r.a.key, .int .i64 r.a.val, .str r.a.text] ++ post))).put b (.rw 10 (pre ++ [.bool (((k : Nat) : Int).tmod 3 == 0), .int .i64 ((k + 1 : Nat) : Int), .int .i64 ((k + 2 : Nat) : Int), .int .i64 ((k + 3 : Nat) : Int), .str r.b.text, .bool r.is, .int .i64 r.a.tab, .int .i64 r.a.key, .int .i64 r.a.val, .str r.a.text] ++ post))).put b (.rw 10 (pre ++ [.bool (((k : Nat) : Int).tmod 3 == 0), .int .i64 ((k + 1 : Nat) : Int), .int .i64 ((k + 2 : Nat) : Int), .int .i64 ((k + 3 : Nat) : Int), .str (mtx (k + 4)), .bool r.is, .int .i64 r.a.tab, .int .i64 r.a.key, .int .i64 r.a.val, .str r.a.text] ++ post))).put b (.rw 10 (pre ++ [.bool (((k : Nat) : Int).tmod 3 == 0), .int .i64 ((k + 1 : Nat) : Int), .int .i64 ((k + 2 : Nat) : Int), .int .i64 ((k + 3 : Nat) : Int), .str (mtx (k + 4)), .bool (((k + 5 : Nat) : Int).tmod 3 == 0), .int .i64 r.a.tab, .int .i64 r.a.key, .int .i64 r.a.val, .str r.a.text] ++ post))).put b (.rw 10 (pre ++ [.bool (((k : Nat) : Int).tmod 3 == 0), .int .i64 ((k + 1 : Nat) : Int), .int .i64 ((k + 2 : Nat) : Int), .int .i64 ((k + 3 : Nat) : Int), .str (mtx (k + 4)), .bool (((k + 5 : Nat) : Int).tmod 3 == 0), .int .i64 ((k + 6 : Nat) : Int), .int .i64 r.a.key, .int .i64 r.a.val, .str r.a.text] ++ post))).put b (.rw 10 (pre ++ [.bool (((k : Nat) : Int).tmod 3 == 0), .int .i64 ((k + 1 : Nat) : Int), .int .i64 ((k + 2 : Nat) : Int), .int .i64 ((k + 3 : Nat) : Int), .str (mtx (k + 4)), .bool (((k + 5 : Nat) : Int).tmod 3 == 0), .int .i64 ((k + 6 : Nat) : Int), .int .i64 ((k + 7 : Nat) : Int), .int .i64 r.a.val, .str r.a.text] ++ post))).put b (.rw 10 (pre ++ [.bool (((k : Nat) : Int).tmod 3 == 0), .int .i64 ((k + 1 : Nat) : Int), .int .i64 ((k + 2 : Nat) : Int), .int .i64 ((k + 3 : Nat) : Int), .str (mtx (k + 4)), .bool (((k + 5 : Nat) : Int).tmod 3 == 0), .int .i64 ((k + 6 : Nat) : Int), .int .i64 ((k + 7 : Nat) : Int), .int .i64 ((k + 8 : Nat) : Int), .str r.a.text] ++ post))).put b (.rw 10 (pre ++ [.bool (((k : Nat) : Int).tmod 3 == 0), .int .i64 ((k + 1 : Nat) : Int), .int .i64 ((k + 2 : Nat) : Int), .int .i64 ((k + 3 : Nat) : Int), .str (mtx (k + 4)), .bool (((k + 5 : Nat) : Int).tmod 3 == 0), .int .i64 ((k + 6 : Nat) : Int), .int .i64 ((k + 7 : Nat) : Int), .int .i64 ((k + 8 : Nat) : Int), .str (mtx (k + 9))] ++ post))) = F
      have fn : F.n = h.n := by rw [← hF]; rfl
      have fg : F.g b = .rw 10 (pre ++ [.bool (((k : Nat) : Int).tmod 3 == 0), .int .i64 ((k + 1 : Nat) : Int), .int .i64 ((k + 2 : Nat) : Int), .int .i64 ((k + 3 : Nat) : Int), .str (mtx (k + 4)), .bool (((k + 5 : Nat) : Int).tmod 3 == 0), .int .i64 ((k + 6 : Nat) : Int), .int .i64 ((k + 7 : Nat) : Int), .int .i64 ((k + 8 : Nat) : Int), .str (mtx (k + 9))] ++ post) := by rw [← hF]; exact put_g _ _ _
      have fo : ∀ c, c ≠ b → F.g c = h.g c ∧ F.v c = h.v c := fun c hc => by
        rw [← hF]; simp only [H.put, if_neg hc]; exact ⟨trivial, trivial⟩
      rw [tidy_same fn fun c hc => fo c (by omega)]
      refine ⟨F, _, rfl, fn, rfl, fg, RepL.sc (chg_sc (c := mkG k r)), fun c hc _ => fo c hc⟩)
    (fun o k h => by
      show Lp.laws_markChangeS 0 _ h = _
      rw [eq_laws_markChangeS_l0]
      simp only [lenV, Option.bind_some, gV1_s, gI_i, vcase_b]
      rw [if_neg (by simp), tidy_self])
  rw [hsz] at e1
  refine ⟨h', ?_, r1, n1, o1⟩
  rw [eq_laws_markChangeS, show iv .i64 0 = iv .i64 ((0 : Nat) : Int) from rfl, e1, ob, lcase_done]
  simp only [gx0, ob, gV1_s, gI_i]
theorem p_heldGs {k : Nat} {rs : List ChgD} (hk : k + 10 * rs.length < 2 ^ 62) : pureV (call Ev) Fn.laws_heldChangeS [lv (chs (mkGs k rs)), iv .i64 k] = some (iv .i64 ((k + 10 * rs.length : Nat) : Int)) := by
  have loop : ∀ (q : List ChgD) (i k' : Nat), (mkGs k rs).drop i = mkGs k' q → k' + 10 * q.length = k + 10 * rs.length → i + q.length = rs.length →
      Lp.laws_heldChangeS 0 [lv (chs (mkGs k rs)), iv .i64 k', iv .i64 i] (D 0) = some (.done [iv .i64 ((k + 10 * rs.length : Nat) : Int)] (D 0)) := by
    intro q
    induction q with
    | nil =>
      intro i k' hd hs hi
      simp only [List.length_nil] at hi hs
      rw [eq_laws_heldChangeS_l0, vcase_b, chs_len, mkGs_len, if_neg (by simp; omega), tidy_self, ← hs]
      rfl
    | cons r q ih =>
      intro i k' hd hs hi
      simp only [List.length_cons] at hi hs
      have hd' : (mkGs k rs).drop i = mkG k' r :: mkGs (k' + 10) q := hd
      obtain ⟨g1, g2, g3⟩ := drop_cons hd'
      rw [eq_laws_heldChangeS_l0, vcase_b, chs_len, mkGs_len, if_pos (by simp; omega)]
      rw [w64 (n := (i : Int) + 1) (by omega) (by omega), w64 (n := (k' : Int) + 1) (by omega) (by omega), w64 (n := (k' : Int) + 1 + 1) (by omega) (by omega), w64 (n := (k' : Int) + 1 + 1 + 1) (by omega) (by omega), w64 (n := (k' : Int) + 1 + 1 + 1 + 1) (by omega) (by omega), w64 (n := (k' : Int) + 1 + 1 + 1 + 1 + 1) (by omega) (by omega), w64 (n := (k' : Int) + 1 + 1 + 1 + 1 + 1 + 1) (by omega) (by omega), w64 (n := (k' : Int) + 1 + 1 + 1 + 1 + 1 + 1 + 1) (by omega) (by omega), w64 (n := (k' : Int) + 1 + 1 + 1 + 1 + 1 + 1 + 1 + 1) (by omega) (by omega), w64 (n := (k' : Int) + 1 + 1 + 1 + 1 + 1 + 1 + 1 + 1 + 1) (by omega) (by omega), w64 (n := (k' : Int) + 1 + 1 + 1 + 1 + 1 + 1 + 1 + 1 + 1 + 1) (by omega) (by omega)]
      rw [show (i : Int) + 1 = ((i + 1 : Nat) : Int) from by omega, show (k' : Int) + 1 + 1 + 1 + 1 + 1 + 1 + 1 + 1 + 1 + 1 = ((k' + 10 : Nat) : Int) from by omega, show (k' : Int) + 1 + 1 + 1 + 1 + 1 + 1 + 1 + 1 + 1 = ((k' + 9 : Nat) : Int) from by omega, show (k' : Int) + 1 + 1 + 1 + 1 + 1 + 1 + 1 + 1 = ((k' + 8 : Nat) : Int) from by omega, show (k' : Int) + 1 + 1 + 1 + 1 + 1 + 1 + 1 = ((k' + 7 : Nat) : Int) from by omega, show (k' : Int) + 1 + 1 + 1 + 1 + 1 + 1 = ((k' + 6 : Nat) : Int) from by omega, show (k' : Int) + 1 + 1 + 1 + 1 + 1 = ((k' + 5 : Nat) : Int) from by omega, show (k' : Int) + 1 + 1 + 1 + 1 = ((k' + 4 : Nat) : Int) from by omega, show (k' : Int) + 1 + 1 + 1 = ((k' + 3 : Nat) : Int) from by omega, show (k' : Int) + 1 + 1 = ((k' + 2 : Nat) : Int) from by omega, show (k' : Int) + 1 = ((k' + 1 : Nat) : Int) from by omega]
      simp only [idxF_ch g1, b_rem3, ob, gx0, gx1, gI_i, gV1_s, gS_s, gB_b, hchk_self, tidy_self, mkG]
      rw [pc (p_markText (k := k' + 4) (by omega)) rfl]
      simp only [gV1_s, gS_s]
      rw [pc (p_markText (k := k' + 9) (by omega)) rfl]
      simp only [gV1_s, gS_s, vcase_b, bne_self_eq_false, Bool.false_eq_true, if_false, beq_self_eq_true, Bool.not_true]
      exact ih (i + 1) (k' + 10) g2 (by omega) (by omega)
  rw [pu_laws_heldChangeS, show iv .i64 0 = iv .i64 ((0 : Nat) : Int) from rfl, loop rs 0 k rfl rfl (by omega), ob, lcase_done]
  simp only [gx0, ob, gV1_s, gI_i]
theorem OwnV.markG {h : H} {v : V} {rs : List ChgD} {lo hi k : Nat} (w : Sep (OwnV v (.fs (chs rs)) lo hi) lo hi h) (hl : k + 10 * rs.length < 2 ^ 62) :
    ∃ p, call Ev Fn.laws_markChangeS [v, iv .i64 k] h = some (iv .i64 ((k + 10 * rs.length : Nat) : Int), p) ∧ Sep (OwnV v (.fs (chs (mkGs k rs))) lo hi) lo hi (tidy h [iv .i64 ((k + 10 * rs.length : Nat) : Int)] p) ∧ ButR lo hi h (tidy h [iv .i64 ((k + 10 * rs.length : Nat) : Int)] p) := by
  obtain ⟨y, rfl, bs, w1, w2, w3⟩ := w.now
  obtain ⟨p, e1, r1, n1, o1⟩ := w1.markGs (k := k) w2 hl
  have ht := w.top
  have t : tidy h [iv .i64 ((k + 10 * rs.length : Nat) : Int)] p = p := tidy_same n1 fun c hc => o1 c (fun hh => by have := w3 c hh; omega)
  refine ⟨p, e1, ?_, ?_⟩
  · rw [t]; exact OwnV.sep ⟨y, rfl, bs, r1, w2, w3⟩ (by rw [n1]; exact ht)
  · rw [t]; exact ⟨n1, fun c hc => (o1 c fun hh => by have := w3 c hh; omega).1⟩
/-! results of changes -/
theorem p_eqGR {c : Int} {rs : List ChgD} (hl : rs.length ≤ maxLen) : pureV (call Ev) Fn.laws_eqChangesResult [.agg [.int .i64 c, .fs (chs rs)], .agg [.int .i64 c, .fs (chs rs)]] = some (bv true) := by
  rw [pu_laws_eqChangesResult, vcase_b, if_neg (by simp), pc (p_eqChangeS hl) rfl]
  simp
theorem p_heldGR {c : Int} {k : Nat} {rs : List ChgD} (hk : k + 10 * rs.length < 2 ^ 62) : pureV (call Ev) Fn.laws_heldChangesResult [.agg [.int .i64 c, .fs (chs (mkGs k rs))], iv .i64 k] = some (iv .i64 ((k + 10 * rs.length : Nat) : Int)) := by
  rw [pu_laws_heldChangesResult, pc (p_heldGs hk) rfl]
  simp only [gV1_s, gI_i, vcase_b]
  rw [if_neg (by simp; omega)]
theorem r_markGR {h : H} {c : Int} {y : S} {rs : List ChgD} {lo hi k : Nat} (w : Sep (OwnC 5 [.int .i64 c, y] [.int .i64 c, .fs (chs rs)] lo hi) lo hi h) (hl : k + 10 * rs.length < 2 ^ 62) :
    ∃ p, call Ev Fn.laws_markChangesResult [.agg [.int .i64 c, y], iv .i64 k] h = some (iv .i64 ((k + 10 * rs.length : Nat) : Int), p) ∧ Sep (OwnC 5 [.int .i64 c, y] [.int .i64 c, .fs (chs (mkGs k rs))] lo hi) lo hi (tidy h [iv .i64 ((k + 10 * rs.length : Nat) : Int)] p) ∧ ButR lo hi h (tidy h [iv .i64 ((k + 10 * rs.length : Nat) : Int)] p) := by
  obtain ⟨bs, w1, w2, w3⟩ := OwnC.f (pre := [.int .i64 c]) sc1 w.now
  have ht := w.top
  rw [eq_laws_markChangesResult]
  have l1 : load1 (h.new 0 [.int .i64 c, y]) (pv h.n 1) = some y := by simp [load1, H.cells, Blk.cells]
  rw [l1, Vm.ob]
  have w1' : Rep (h.new 0 [.int .i64 c, y]) 5 y (.fs (chs rs)) bs := w1.frame fun b hb => ⟨by have := w1.lt b hb; simp; omega, new_g' (by have := w1.lt b hb; omega)⟩
  obtain ⟨p, e1, r1, n1, o1⟩ := w1'.markGs (k := k) w2 hl
  rw [e1, Vm.ob]
  simp only [gV1_s, gI_i]
  have t1 : tidy (h.new 0 [.int .i64 c, y]) [iv .i64 ((k + 10 * rs.length : Nat) : Int)] p = p := tidy_same n1 fun d hd => o1 d fun hh => by have := w3 d hh; simp at hd; omega
  rw [t1]
  exact ⟨p, rfl, markC (pre := [.int .i64 c]) sc1 w3 w2 ht r1 (by rw [n1]; simp) (fun d hd hdn => by
    have := o1 d hd
    refine ⟨this.1.trans (new_g' (by omega)), this.2.trans ?_⟩
    simp [H.new, show d ≠ h.n by omega]) (fun hh => by rw [n1] at hh; simp at hh)⟩
end Vm
