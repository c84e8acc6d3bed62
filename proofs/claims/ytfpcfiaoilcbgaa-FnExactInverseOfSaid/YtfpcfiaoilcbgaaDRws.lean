/-
  Slices of rows: their size, a copy, a comparison, their fault.
-/
import Derived.Test.YtfpcfiaoilcbgaaTRw
import Derived.Test.YtfpcfiaoilcbgaaDm
set_option linter.unusedVariables false
set_option maxRecDepth 100000
set_option linter.unusedSimpArgs false
namespace Vm
open Go
def rws (rs : List RowD) : List (List S) := rs.map RowD.cs
@[simp] theorem rws_len (rs : List RowD) : (rws rs).length = rs.length := by simp [rws]
theorem rws_row {rs : List RowD} : ∀ r ∈ rws rs, r.length = 4 := by
  intro r hr
  obtain ⟨c, _, rfl⟩ := List.mem_map.1 hr
  rfl
theorem row_cl {r : RowD} : ∀ s ∈ r.cs, Cl s := by
  intro s hs
  simp only [List.mem_cons, List.not_mem_nil, or_false] at hs
  rcases hs with rfl | rfl | rfl | rfl
  · exact cl_i
  · exact cl_i
  · exact cl_i
  · exact cl_s
theorem rws_cl {rs : List RowD} : ∀ r ∈ rws rs, ∀ s ∈ r, Cl s := by
  intro r hr
  obtain ⟨c, _, rfl⟩ := List.mem_map.1 hr
  exact row_cl
theorem rws_get {rs : List RowD} {i : Nat} {r : RowD} (h : rs[i]? = some r) : (rws rs)[i]? = some r.cs := by simp [rws, h]
section
variable {R : Type}
theorem idxF_rw {rs : List RowD} {i : Nat} {r : RowD} {k : List S → Option R} (h : rs[i]? = some r) : idxF 4 (rws rs) (i : Int) k = k r.cs := idxF_at (rws_get h) rfl
end
theorem rowN_rw {r : RowD} : rowN 4 r.cs 0 = some r.cs := rowN_all rfl
theorem normV_rw {r : RowD} : normV 4 (fv r.cs 0) = fv r.cs 0 := rfl
theorem rows_Row {m : Nat} : ∀ rows : List (List S), (∀ r ∈ rows, r.length = PR.cellsOf T.laws_Row ∧ Rp PR m T.laws_Row r) → ∃ rs : List RowD, rows = rws rs ∧ ∀ r ∈ rs, r.ok
  | [], _ => ⟨[], rfl, by simp⟩
  | r :: rows, hr => by
    obtain ⟨rs, h1, h2⟩ := rows_Row rows fun r hm => hr r (by simp [hm])
    obtain ⟨a, h3, h4⟩ := rp_Row (hr r (by simp)).2
    refine ⟨a :: rs, by rw [h1, h3]; rfl, fun x hx => ?_⟩
    rcases List.mem_cons.1 hx with rfl | hx
    · exact h4
    · exact h2 x hx
theorem arg_Rows {x : V} (hr : ArgRp PR T.S_laws_Row x) : ∃ rs : List RowD, x = lv (rws rs) ∧ (∀ r ∈ rs, r.ok) ∧ rs.length ≤ maxLen := by
  obtain ⟨s, n, rfl, h1⟩ := hr.slice und_S_laws_Row
  obtain ⟨m, rows, h1, h2, h3⟩ := h1.slice und_S_laws_Row
  cases h1
  obtain ⟨rs, rfl, h4⟩ := rows_Row rows h3
  exact ⟨rs, rfl, h4, by simpa using h2⟩

/-! size -/
def szRows : List RowD → Int → Int
  | [], left => left
  | r :: rs, left => if (r.text.size : Int) ≤ left then szRows rs (left - r.text.size) else -1
theorem szRows_le : ∀ (rs : List RowD) (left : Int), 0 ≤ left → szRows rs left ≤ left ∧ -1 ≤ szRows rs left
  | [], left, h => ⟨Int.le_refl _, by simp only [szRows]; omega⟩
  | r :: rs, left, h => by
    simp only [szRows]
    split
    · have := szRows_le rs (left - r.text.size) (by omega); omega
    · omega
theorem p_szRowS {all : List RowD} {left : Int} (h1 : 0 ≤ left) (h2 : left < 9223372036854775808) (hl : all.length ≤ maxLen) (hr : ∀ r ∈ all, r.text.size ≤ maxLen) : pureV (call Ev) Fn.laws_szRowS [lv (rws all), iv .i64 left] = some (iv .i64 (if (all.length : Int) ≤ left then szRows all (left - all.length) else -1)) := by
  unfold maxLen at hl
  have loop : ∀ (rs : List RowD) (i : Nat) (q : Int), all.drop i = rs → 0 ≤ q → q < 9223372036854775808 →
      (Lp.laws_szRowS 0 [lv (rws all), iv .i64 q, iv .i64 i] (D 0)).bind (fun o102 => lcase o102 (fun l103 h104 =>
        (l103[0]?).bind fun w107 =>
        gV1 w107 fun x108 =>
        gI .i64 x108 fun i109 =>
        some (iv .i64 i109)) (fun v105 h106 =>
        frzV h106 v105)) = some (iv .i64 (szRows rs q)) := by
    intro rs
    induction rs with
    | nil =>
      intro i q hi h1 h2
      have := drop_nil hi
      rw [eq_laws_szRowS_l0, vcase_b, if_neg (by simp; omega), tidy_self, ob, lcase_done]
      simp only [gx0, ob, gV1_s, gI_i, szRows]
    | cons r rs ih =>
      intro i q hi h1 h2
      obtain ⟨g1, g2, g3⟩ := drop_cons hi
      rw [eq_laws_szRowS_l0, vcase_b, if_pos (by simp; omega), idxF_rw g1, rowN_rw]
      simp only [ob, gx0, gx1, gI_i, gS_s, ln0, ln1, Nat.zero_add, Nat.reduceAdd, if_true]
      rw [pc (p_szRow r q h1 h2 (hr r (List.mem_of_getElem? g1))) rfl]
      simp only [gV1_s, gI_i, vcase_b, decide_eq_true_eq, szRows]
      by_cases hle : (r.text.size : Int) ≤ q
      · rw [if_pos hle, if_neg (by omega), w64 (by omega) (by omega), tidy_self, show (i : Int) + 1 = ((i + 1 : Nat) : Int) from by omega, if_pos hle]
        exact ih (i + 1) _ g2 (by omega) (by omega)
      · rw [if_neg hle, if_pos (by omega), if_neg hle]; rfl
  rw [pu_laws_szRowS, vcase_b, rws_len, w64 (by omega) (by omega)]
  by_cases hq : (all.length : Int) ≤ left
  · rw [if_neg (by simp; omega), if_pos hq]
    exact loop all 0 _ rfl (by omega) (by omega)
  · rw [if_pos (by simp; omega), if_neg hq]

/-! a copy -/
structure NewRw (n : Nat) (h : H) (v : V) (rs : List RowD) : Prop where
  v : v = sv n 0 rs.length
  g : h.g n = .rw 4 (rws rs).flatten
  le : h.n = n + 1
theorem f_toRowS {all : List RowD} (hl : all.length ≤ lim) (n : Nat) : ∃ v h', call Ev Fn.laws_toRowS [lv (rws all)] (D n) = some (v, h') ∧ NewRw n h' v all := by
  have hl' := hl
  unfold lim at hl'
  rw [eq_laws_toRowS, rws_len, mkSl_of (z := 4) (zero := [.int .i64 0, .int .i64 0, .int .i64 0, .str ⟨#[]⟩]) hl (by omega) rfl, ob]
  obtain ⟨h', e1, e2, e3, _⟩ := fill_rows (z := 4) (n := all.length) (b := n) (rows := rws all) (L := fun i h => Lp.laws_toRowS 0 [lv (rws all), sv n 0 all.length, iv .i64 i] h) (fin := [sv n 0 all.length]) (by simp) rws_row
    (fun i h r hr' hi hb => by
      obtain ⟨a, ha⟩ : ∃ a, all[i]? = some a := ⟨_, List.getElem?_eq_getElem hi⟩
      rw [rws_get ha] at hr'; cases hr'
      refine ⟨.agg a.cs, [lv (rws all), sv n 0 all.length, iv .i64 ((i + 1 : Nat) : Int)], .inr rfl, ?_⟩
      show Lp.laws_toRowS 0 _ h = _
      rw [eq_laws_toRowS_l0, vcase_b, if_pos (by simp; omega), idxF_rw ha, rowN_rw]
      simp only [ob, gx0, gx1, gI_i, gS_s, ln0, ln1, Nat.zero_add, Nat.reduceAdd, if_true]
      rw [pc (p_toRow a) rfl]
      simp only [ob, gx0, gx1, gVA_a, gI_i, gS_s, ln0, ln1, Nat.zero_add, Nat.reduceAdd, if_true]
      rw [idxK_sv hi, w64 (by omega) (by omega), show (i : Int) + 1 = ((i + 1 : Nat) : Int) from by omega])
    (fun h => by
      show Lp.laws_toRowS 0 _ h = _
      rw [eq_laws_toRowS_l0, vcase_b, if_neg (by simp), tidy_self])
    ((D n).new 4 ((List.replicate all.length [.int .i64 0, .int .i64 0, .int .i64 0, .str ⟨#[]⟩]).flatten)) _ (by simp) (by exact new_g (D n) _ _) (repl_len rfl)
  rw [D_n, e1]
  simp only [ob, lcase_done, gx0]
  exact ⟨_, _, rfl, rfl, e3, by rw [e2]; simp⟩
theorem p_toRowS {all : List RowD} (hl : all.length ≤ lim) : pureV (call Ev) Fn.laws_toRowS [lv (rws all)] = some (lv (rws all)) := by
  obtain ⟨v, h', e, w⟩ := f_toRowS hl 0
  unfold pureV
  have := frzV_sv (h := h') (b := 0) (z := 4) (rows := rws all) (by rw [w.le]; omega) (by omega) w.g rws_row rws_cl
  rw [rws_len] at this
  rw [e, ob, w.v, this]

/-! a comparison -/
theorem p_eqRow (r : RowD) : pureV (call Ev) Fn.laws_eqRow [.agg r.cs, .agg r.cs] = some (bv true) := by
  rw [pu_laws_eqRow]; simp
theorem p_eqRowS {all : List RowD} (hl : all.length ≤ maxLen) : pureV (call Ev) Fn.laws_eqRowS [lv (rws all), lv (rws all)] = some (bv true) := by
  unfold maxLen at hl
  have loop : ∀ (rs : List RowD) (i : Nat), all.drop i = rs → Lp.laws_eqRowS 0 [lv (rws all), lv (rws all), iv .i64 i] (D 0) = some (.done [] (D 0)) := by
    intro rs
    induction rs with
    | nil =>
      intro i hi
      have := drop_nil hi
      rw [eq_laws_eqRowS_l0, vcase_b, if_neg (by simp; omega), tidy_self]
    | cons r rs ih =>
      intro i hi
      obtain ⟨g1, g2, g3⟩ := drop_cons hi
      rw [eq_laws_eqRowS_l0, vcase_b, if_pos (by simp; omega), idxF_rw g1, rowN_rw]
      simp only [ob, gx0, gx1, gI_i, gS_s, ln0, ln1, Nat.zero_add, Nat.reduceAdd, if_true]
      rw [idxF_rw g1, rowN_rw]
      simp only [ob, gx0, gx1, gI_i, gS_s, ln0, ln1, Nat.zero_add, Nat.reduceAdd, if_true]
      rw [pc (p_eqRow r) rfl]
      simp only [gV1_s, gB_b, hchk_self, vcase_b]
      rw [if_neg (by simp), tidy_self, w64 (by omega) (by omega), show (i : Int) + 1 = ((i + 1 : Nat) : Int) from by omega]
      exact ih (i + 1) g2
  rw [pu_laws_eqRowS, vcase_b, if_neg (by simp), show iv .i64 0 = iv .i64 ((0 : Nat) : Int) from rfl, loop all 0 rfl]
  simp

/-! the fault of rows -/
def rowsFrom : Option RowD → List RowD → Int
  | _, [] => 0
  | p, r :: rs => if rowF r = 0 then (if (match p with | none => false | some q => !befB q r) then 1 else rowsFrom (some r) rs) else rowF r
def rowsF (rs : List RowD) : Int := if 60 < rs.length then 2 else rowsFrom none rs
/-- the row before -/
def lastOf (all : List RowD) (i : Nat) : Option RowD := if i = 0 then none else all[i - 1]?
theorem p_l1Before (a b : RowD) : pureV (call Ev) Fn.spec_l1Before [fv a.cs 0, fv b.cs 0] = some (bv (befB a b)) := by
  rw [pu_spec_l1Before]; unfold befB
  simp only [vcase_b, decide_eq_true_eq, beq_iff_eq]
  split
  · rename_i h; simp [h]
  · rename_i h
    split
    · rename_i h2; simp [h2]
    · rename_i h2; simp [h, h2]
theorem p_IsBefore (a b : RowD) : pureV (call Ev) Fn.impl_IsBefore [.agg a.cs, .agg b.cs] = some (bv (befB a b)) := by
  rw [pu_impl_IsBefore]; unfold befB
  simp only [vcase_b, decide_eq_true_eq, beq_iff_eq]
  split
  · rename_i h; simp [h]
  · rename_i h
    split
    · rename_i h2; simp [h2]
    · rename_i h2; simp [h, h2]
/-- what a loop over rows ends with -/
def outI (x : Int) (h : H) : LOut := if x = 0 then .done [] h else .ret (iv .i64 x) h
theorem outI_0 (h : H) : outI 0 h = .done [] h := rfl
theorem outI_n {x : Int} (hx : x ≠ 0) (h : H) : outI x h = .ret (iv .i64 x) h := if_neg hx
theorem rowsFrom_n {p : Option RowD} {r : RowD} {rs : List RowD} (h : rowF r ≠ 0) : rowsFrom p (r :: rs) = rowF r := by simp [rowsFrom, h]
theorem rowsFrom_0 {r : RowD} {rs : List RowD} (h : rowF r = 0) : rowsFrom none (r :: rs) = rowsFrom (some r) rs := by simp [rowsFrom, h]
theorem rowsFrom_1 {q r : RowD} {rs : List RowD} (h : rowF r = 0) (hb : befB q r = false) : rowsFrom (some q) (r :: rs) = 1 := by simp [rowsFrom, h, hb]
theorem rowsFrom_2 {q r : RowD} {rs : List RowD} (h : rowF r = 0) (hb : befB q r = true) : rowsFrom (some q) (r :: rs) = rowsFrom (some r) rs := by simp [rowsFrom, h, hb]
theorem lastOf_0 {all : List RowD} : lastOf all 0 = none := rfl
theorem lastOf_s {all : List RowD} {i : Nat} {r : RowD} (h : all[i]? = some r) : lastOf all (i + 1) = some r := by simp [lastOf, h]
theorem p_l6Rows {all : List RowD} (hs : ∀ r ∈ all, r.text.size ≤ maxLen) (hl : all.length ≤ maxLen) : pureV (call Ev) Fn.spec_l6Rows [lv (rws all)] = some (iv .i64 (rowsF all)) := by
  unfold maxLen at hl
  have loop : ∀ (rs : List RowD) (i : Nat), all.drop i = rs → Lp.spec_l6Rows 0 [lv (rws all), iv .i64 i] (D 0) = some (outI (rowsFrom (lastOf all i) rs) (D 0)) := by
    intro rs
    induction rs with
    | nil =>
      intro i hi
      have := drop_nil hi
      rw [eq_spec_l6Rows_l0, vcase_b, if_neg (by simp; omega), tidy_self]; rfl
    | cons r rs ih =>
      intro i hi
      obtain ⟨g1, g2, g3⟩ := drop_cons hi
      have hz := hs r (List.mem_of_getElem? g1)
      have ih' := ih (i + 1) g2
      rw [lastOf_s g1] at ih'
      rw [eq_spec_l6Rows_l0, vcase_b, if_pos (by simp; omega), idxF_rw g1, normV_rw, pc (p_l1Fault r hz) rfl]
      simp only [gV1_s, gI_i, vcase_b, bne_iff_ne, ne_eq, decide_eq_true_eq]
      by_cases h0 : rowF r = 0
      · rw [if_neg (by simp [h0])]
        by_cases hi0 : i = 0
        · subst hi0
          rw [if_neg (by omega), hchk_self, tidy_self, w64 (by omega) (by omega), lastOf_0, rowsFrom_0 h0]
          exact ih'
        · obtain ⟨p, hp⟩ : ∃ p, all[i - 1]? = some p := ⟨_, List.getElem?_eq_getElem (by omega)⟩
          rw [if_pos (by omega), w64 (n := (i : Int) - 1) (by omega) (by omega), show (i : Int) - 1 = ((i - 1 : Nat) : Int) from by omega, idxF_rw hp, idxF_rw g1, normV_rw, normV_rw, pc (p_l1Before p r) rfl,
            show lastOf all i = some p from by rw [← lastOf_s hp, Nat.sub_add_cancel (by omega)]]
          simp only [gV1_s, gB_b, hchk_self, vcase_b]
          cases hb : befB p r
          · rw [rowsFrom_1 h0 hb]; rfl
          · rw [rowsFrom_2 h0 hb, if_neg (by simp), tidy_self, w64 (by omega) (by omega), show (i : Int) + 1 = ((i + 1 : Nat) : Int) from by omega]
            exact ih'
      · rw [if_pos h0, rowsFrom_n h0, outI_n h0]
  rw [pu_spec_l6Rows, vcase_b, rws_len]; unfold rowsF
  by_cases h60 : 60 < all.length
  · rw [if_pos (by simp; omega), if_pos h60]
  rw [if_neg (by simp; omega), if_neg h60, show iv .i64 0 = iv .i64 ((0 : Nat) : Int) from rfl, loop all 0 rfl, ob, lastOf_0]
  by_cases h0 : rowsFrom none all = 0
  · rw [h0]; rfl
  · rw [outI_n h0, lcase_ret]; simp
theorem setAt_all {cs r : List S} (h : cs.length ≤ r.length) : setAt cs 0 r = r := by simp [setAt, List.drop_of_length_le h]
/-- a row that lies in a new block -/
def putR (h : H) (r : RowD) : H := (h.new 0 [.int .i64 0, .int .i64 0, .int .i64 0, .str ⟨#[]⟩]).put h.n (.rw 0 r.cs)
theorem putR_keep (h : H) (r : RowD) : HKeep h (putR h r) := ((HKeep.refl h).new).put (Nat.le_refl _)
theorem putR_n (h : H) (r : RowD) : (putR h r).n = h.n + 1 := rfl
theorem putR_g (h : H) (r : RowD) : (putR h r).g h.n = .rw 0 r.cs := put_g _ _ _
theorem putR_cells (h : H) (r : RowD) : (putR h r).cells h.n = r.cs := by
  unfold H.cells; rw [if_pos (by rw [putR_n]; omega), putR_g]; rfl
theorem putR_tidy {h : H} {r : RowD} {l : List V} (hl : l.all (belV h.n) = true) : tidy h l (putR h r) = h := tidy_ext (putR_keep h r) hl
section
variable {R : Type}
theorem stK_row {h : H} {r : RowD} {k : H → Option R} : stK 4 (h.new 0 [.int .i64 0, .int .i64 0, .int .i64 0, .str ⟨#[]⟩]) (pv h.n 0) (.agg r.cs) k = k (putR h r) := by
  rw [stK_rw (z := 4) (o := 0) (b := h.n) (r := r.cs) (e := 0) (cs := [.int .i64 0, .int .i64 0, .int .i64 0, .str ⟨#[]⟩]) (by simp) (new_g h _ _) (.inr rfl) rfl (by simp), setAt_all (by simp)]
  rfl
end
theorem loadN_row {h : H} {r : RowD} : loadN 4 (putR h r) (pv h.n 0) = some r.cs := by
  have := putR_cells h r
  have h2 : h.n < (putR h r).n := by rw [putR_n]; omega
  simp only [loadN]
  rw [if_pos ⟨h2, by rw [this]; simp⟩, this]; rfl
theorem load_0 {h : H} {r : RowD} : load1 (putR h r) (pv h.n 0) = some (.int .i64 r.tab) := by simp only [load1]; rw [putR_cells]; rfl
theorem load_1 {h : H} {r : RowD} : load1 (putR h r) (pv h.n 1) = some (.int .i64 r.key) := by simp only [load1]; rw [putR_cells]; rfl
theorem load_2 {h : H} {r : RowD} : load1 (putR h r) (pv h.n 2) = some (.int .i64 r.val) := by simp only [load1]; rw [putR_cells]; rfl
theorem load_3 {h : H} {r : RowD} : load1 (putR h r) (pv h.n 3) = some (.str r.text) := by simp only [load1]; rw [putR_cells]; rfl
theorem p_RowsFault {all : List RowD} (hs : ∀ r ∈ all, r.text.size ≤ maxLen) (hl : all.length ≤ maxLen) : pureV (call Ev) Fn.impl_RowsFault [lv (rws all)] = some (iv .i64 (rowsF all)) := by
  unfold maxLen at hl
  have loop : ∀ (rs : List RowD) (i : Nat), all.drop i = rs → ∃ h', Lp.impl_RowsFault 0 [lv (rws all), lv (rws all), iv .i64 (all.length : Int), iv .i64 i] (D 0) = some (outI (rowsFrom (lastOf all i) rs) h') := by
    intro rs
    induction rs with
    | nil =>
      intro i hi
      have := drop_nil hi
      refine ⟨D 0, ?_⟩
      rw [eq_impl_RowsFault_l0, vcase_b, if_neg (by simp; omega), tidy_self]; rfl
    | cons r rs ih =>
      intro i hi
      obtain ⟨g1, g2, g3⟩ := drop_cons hi
      have hz := hs r (List.mem_of_getElem? g1)
      obtain ⟨h', ih'⟩ := ih (i + 1) g2
      rw [lastOf_s g1] at ih'
      rw [eq_impl_RowsFault_l0, vcase_b, if_pos (by simp; omega), idxF_rw g1, rowN_rw]
      simp only [ob, gx0, gx1, gI_i, gS_s, ln0, ln1, Nat.zero_add, Nat.reduceAdd, if_true]
      rw [stK_row, loadN_row]
      simp only [ob, gx0, gx1, gI_i, gS_s, ln0, ln1, Nat.zero_add, Nat.reduceAdd, if_true]
      rw [pc (p_RowFault r hz) rfl]
      simp only [gV1_s, gI_i, vcase_b, bne_iff_ne, ne_eq, decide_eq_true_eq]
      by_cases h0 : rowF r = 0
      · rw [if_neg (by simp [h0])]
        by_cases hi0 : i = 0
        · subst hi0
          rw [if_neg (by omega), hchk_self, putR_tidy rfl, w64 (by omega) (by omega), lastOf_0, rowsFrom_0 h0]
          exact ⟨h', ih'⟩
        · obtain ⟨p, hp⟩ : ∃ p, all[i - 1]? = some p := ⟨_, List.getElem?_eq_getElem (by omega)⟩
          rw [if_pos (by omega), w64 (n := (i : Int) - 1) (by omega) (by omega), show (i : Int) - 1 = ((i - 1 : Nat) : Int) from by omega, idxF_rw hp, rowN_rw, 
            show lastOf all i = some p from by rw [← lastOf_s hp, Nat.sub_add_cancel (by omega)]]
          simp only [ob, gx0, gx1, gI_i, gS_s, ln0, ln1, Nat.zero_add, Nat.reduceAdd, if_true]
          rw [pc (p_IsBefore p r) rfl]
          simp only [gV1_s, gB_b, hchk_self, vcase_b]
          cases hb : befB p r
          · rw [rowsFrom_1 h0 hb]; exact ⟨_, rfl⟩
          · rw [rowsFrom_2 h0 hb, if_neg (by simp), putR_tidy rfl, w64 (by omega) (by omega), show (i : Int) + 1 = ((i + 1 : Nat) : Int) from by omega]
            exact ⟨h', ih'⟩
      · rw [if_pos h0, rowsFrom_n h0]; exact ⟨putR (D 0) r, by rw [outI_n h0]⟩
  rw [pu_impl_RowsFault, vcase_b, rws_len]; unfold rowsF
  by_cases h60 : 60 < all.length
  · rw [if_pos (by simp; omega), if_pos h60]
  obtain ⟨h', e⟩ := loop all 0 rfl
  rw [if_neg (by simp; omega), if_neg h60, show iv .i64 0 = iv .i64 ((0 : Nat) : Int) from rfl, e, ob, lastOf_0]
  by_cases h0 : rowsFrom none all = 0
  · rw [h0]; rfl
  · rw [outI_n h0, lcase_ret]; simp
end Vm
