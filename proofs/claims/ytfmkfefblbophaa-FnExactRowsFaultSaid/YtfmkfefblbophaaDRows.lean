/-
  What the functions on slices of rows come to.
-/
import Derived.Test.YtfmkfefblbophaaDRow
import Derived.Test.YtfmkfefblbophaaDs
set_option linter.unusedVariables false
set_option maxRecDepth 100000
set_option linter.unusedSimpArgs false
namespace Vm
open Go
abbrev rws (rs : List RowD) : List (List S) := rs.map RowD.cs
theorem rws_all (rs : List RowD) : ∀ r ∈ rws rs, r.length = 4 := by
  intro r hr
  obtain ⟨a, _, rfl⟩ := List.mem_map.1 hr
  rfl
theorem rws_get {rs : List RowD} {i : Nat} (h : i < (rws rs).length) : (rws rs)[i] = (rs[i]'(by simpa using h)).cs := by simp
theorem c_toRowS {h : H} {v : V} {rs : List RowD} (hv : Sls h 4 v (rws rs)) (hl : rs.length ≤ lim) : ∃ h' w b, call Ev Fn.laws_toRowS [v] h = some (w, h') ∧ SlW h' 4 w (rws rs) b ∧ HExt h h' ∧ h.n ≤ b := by
  have hl' : rs.length < 2 ^ 62 := by unfold lim at hl; omega
  have loop : ∀ (k i : Nat) (hh : H) (w : V) (m : List (List S)), i + k = rs.length → m.length = rs.length → (∀ j, j < i → m[j]? = (rws rs)[j]?) → HExt h hh → SlW hh 4 w m h.n →
      ∃ h', Lp.laws_toRowS 0 [v, w, iv .i64 i] hh = some (.done [w] h') ∧ HExt h h' ∧ SlW h' 4 w (rws rs) h.n := by
    intro k
    induction k with
    | zero =>
      intro i hh w m hi hm hj hx hw
      rw [eq_laws_toRowS_l0, (hv.mono hx).len, Option.bind_some, bin_lss, Option.bind_some, vcase_neg (by simp; omega)]
      refine ⟨hh, rfl, hx, ?_⟩
      have : m = rws rs := List.ext_getElem? fun j => by
        by_cases hjl : j < i
        · exact hj j hjl
        · rw [List.getElem?_eq_none (by omega), List.getElem?_eq_none (by simp; omega)]
      rw [← this]; exact hw
    | succ k ih =>
      intro i hh w m hi hm hj hx hw
      have hlt : i < (rws rs).length := by simp; omega
      rw [eq_laws_toRowS_l0, (hv.mono hx).len, Option.bind_some, bin_lss, Option.bind_some, vcase_pos (by simp; omega), (hv.mono hx).get hlt, rws_get hlt]
      obtain ⟨h2, e2, x2⟩ := c_toRow (rs[i]'(by omega)) hh
      rw [e2, Option.bind_some]
      dsimp only
      obtain ⟨p, h1, e1, e1', w1, n1, x1, _⟩ := (hw.mono x2).set (k := .i64) (i := i) (by omega) (xs := (rs[i]'(by omega)).cs) rfl
      rw [e1, Option.bind_some, e1', Option.bind_some, w64 (by omega) (by omega), show (i : Int) + 1 = ((i + 1 : Nat) : Int) from by omega]
      refine ih (i + 1) h1 w _ (by omega) (by simpa using hm) (fun j hji => ?_) (x1 h (hx.trans x2) (Nat.le_refl _)) w1
      by_cases hjl : j = i
      · subst hjl
        rw [List.getElem?_set_self (by omega), List.getElem?_eq_getElem hlt, rws_get hlt]
      · rw [List.getElem?_set_ne (by omega)]; exact hj j (by omega)
  rw [eq_laws_toRowS, hv.len, Option.bind_some, show ((rws rs).length : Int) = (rs.length : Int) from by simp, mkSl_rows (z := 4) hl (by omega) rfl, Option.bind_some]
  obtain ⟨h', e, x, w⟩ := loop rs.length 0 _ (sv h.n 0 rs.length) (List.replicate rs.length [.int .i64 0, .int .i64 0, .int .i64 0, .str ⟨#[]⟩]) (by omega) (by simp) (fun j hj => by omega) (HExt.refl h).new (by
    have := SlW.newly h (z := 4) (rows := List.replicate rs.length [.int .i64 0, .int .i64 0, .int .i64 0, .str ⟨#[]⟩]) (fun r hr => by rw [(List.mem_replicate.1 hr).2]; rfl)
    simpa using this)
  rw [show iv .i64 0 = iv .i64 ((0 : Nat) : Int) from rfl, e, Option.bind_some]
  exact ⟨h', _, h.n, rfl, w, x, Nat.le_refl _⟩
theorem c_eqRow (a : RowD) (h : H) : ∃ h', call Ev Fn.laws_eqRow [.agg a.cs, .agg a.cs] h = some (bv true, h') ∧ HExt h h' := by
  rw [eq_laws_eqRow]
  have hs : bin Ev .neq 9 (.s (.str a.text)) (.s (.str a.text)) = some (bv false) := by simp [bin, binB]
  simp (disch := first | omega | (simp only [nw_n] <;> omega) | fail) only [nw_zero, nw_n, load1_nw, load1_nw', List.getElem?_cons_succ, List.getElem?_cons_zero, Option.bind_some, bin_neq, hs]
  rw [vcase_neg (by simp), vcase_neg (by simp), vcase_neg (by simp)]
  exact ⟨_, rfl, (HExt.refl h).up.up⟩
theorem c_eqRowS {h : H} {x y : V} {rs : List RowD} (hx : Sls h 4 x (rws rs)) (hy : Sls h 4 y (rws rs)) (hl : rs.length < 2 ^ 62) : ∃ h', call Ev Fn.laws_eqRowS [x, y] h = some (bv true, h') ∧ HExt h h' := by
  have loop : ∀ (k i : Nat) (hh : H), i + k = rs.length → HExt h hh → ∃ h', Lp.laws_eqRowS 0 [x, y, iv .i64 i] hh = some (.done [] h') ∧ HExt h h' := by
    intro k
    induction k with
    | zero =>
      intro i hh hi hx'
      rw [eq_laws_eqRowS_l0, (hx.mono hx').len, Option.bind_some, bin_lss, Option.bind_some, vcase_neg (by simp; omega)]
      exact ⟨hh, rfl, hx'⟩
    | succ k ih =>
      intro i hh hi hx'
      have hlt : i < (rws rs).length := by simp; omega
      rw [eq_laws_eqRowS_l0, (hx.mono hx').len, Option.bind_some, bin_lss, Option.bind_some, vcase_pos (by simp; omega), (hx.mono hx').get hlt, (hy.mono hx').get hlt, rws_get hlt]
      obtain ⟨h2, e2, x2⟩ := c_eqRow (rs[i]'(by omega)) hh
      rw [e2, Option.bind_some, hchk_of x2, not_bv, Option.bind_some, vcase_bv, if_neg (by simp), w64 (by omega) (by omega), show (i : Int) + 1 = ((i + 1 : Nat) : Int) from by omega]
      exact ih (i + 1) h2 (by omega) (hx'.trans x2)
  rw [eq_laws_eqRowS, hx.len, Option.bind_some, hy.len, Option.bind_some, bin_neq, Option.bind_some, vcase_neg (by simp), show iv .i64 0 = iv .i64 ((0 : Nat) : Int) from rfl]
  obtain ⟨h', e, x'⟩ := loop rs.length 0 h (by omega) (HExt.refl h)
  rw [e, Option.bind_some]
  exact ⟨h', rfl, x'⟩
theorem c_szRowS {h : H} {v : V} {rs : List RowD} (hv : Sls h 4 v (rws rs)) (hs : ∀ r ∈ rs, r.text.size ≤ maxLen) (hl : rs.length ≤ maxLen) :
    ∃ n h', call Ev Fn.laws_szRowS [v, iv .i64 1048576] h = some (iv .i64 n, h') ∧ HExt h h' ∧ (n < 0 ∨ rs.length ≤ 1048576) := by
  have hl' := hl
  unfold maxLen at hl'
  have loop : ∀ (k i : Nat) (left : Int) (hh : H), i + k = rs.length → rs.length ≤ 1048576 → 0 ≤ left → left ≤ 1048576 → HExt h hh →
      ∃ h', HExt h h' ∧ ((∃ n, Lp.laws_szRowS 0 [v, iv .i64 left, iv .i64 i] hh = some (.done [iv .i64 n] h')) ∨ Lp.laws_szRowS 0 [v, iv .i64 left, iv .i64 i] hh = some (.ret (iv .i64 (-1)) h')) := by
    intro k
    induction k with
    | zero =>
      intro i left hh hi hr h0 h1 hx
      rw [eq_laws_szRowS_l0, (hv.mono hx).len, Option.bind_some, bin_lss, Option.bind_some, vcase_neg (by simp; omega)]
      exact ⟨hh, hx, .inl ⟨left, rfl⟩⟩
    | succ k ih =>
      intro i left hh hi hr h0 h1 hx
      have hlt : i < (rws rs).length := by simp; omega
      rw [eq_laws_szRowS_l0, (hv.mono hx).len, Option.bind_some, bin_lss, Option.bind_some, vcase_pos (by simp; omega), (hv.mono hx).get hlt, rws_get hlt]
      by_cases hq : ((rs[i]'(by omega)).text.size : Int) ≤ left
      · rw [c_szRow _ _ _ (by omega) hq, Option.bind_some, bin_lss, Option.bind_some, vcase_neg (by omega), w64 (by omega) (by omega), show (i : Int) + 1 = ((i + 1 : Nat) : Int) from by omega]
        exact ih (i + 1) _ _ (by omega) hr (by omega) (by omega) hx.up
      · rw [c_szRow' _ _ _ h0 (by omega) (hs _ (List.getElem_mem _)) hq, Option.bind_some, bin_lss, Option.bind_some, vcase_pos (by omega)]
        exact ⟨_, hx.up, .inr rfl⟩
  rw [eq_laws_szRowS, hv.len, Option.bind_some, bin_sub, Option.bind_some, show ((rws rs).length : Int) = (rs.length : Int) from by simp, w64 (by omega) (by omega), bin_lss, Option.bind_some]
  by_cases hq : rs.length ≤ 1048576
  case neg => rw [vcase_pos (by omega)]; exact ⟨_, _, rfl, HExt.refl h, .inl (by omega)⟩
  rw [vcase_neg (by omega), show iv .i64 0 = iv .i64 ((0 : Nat) : Int) from rfl]
  obtain ⟨h', x, ⟨n, e⟩ | e⟩ := loop rs.length 0 (1048576 - rs.length) h (by omega) hq (by omega) (by omega) (HExt.refl h)
  · rw [e, Option.bind_some]; exact ⟨n, h', rfl, x, .inr hq⟩
  · rw [e, Option.bind_some]; exact ⟨_, h', rfl, x, .inr hq⟩
def befB (a b : RowD) : Bool := decide (a.tab < b.tab) || (decide (a.tab = b.tab) && decide (a.key < b.key))
def rowAt (rs : List RowD) (i : Nat) : RowD := rs[i]?.getD ⟨0, 0, 0, ⟨#[]⟩⟩
def rowsFrom (rs : List RowD) : Nat → Nat → Int
  | 0, _ => 0
  | k + 1, i => if rowF (rowAt rs i) = 0 then (if decide (0 < i) && !befB (rowAt rs (i - 1)) (rowAt rs i) then 1 else rowsFrom rs k (i + 1)) else rowF (rowAt rs i)
theorem rowAt_eq {rs : List RowD} {i : Nat} (h : i < rs.length) : rowAt rs i = rs[i] := by simp [rowAt, h]
theorem lp_RowsFault {h : H} {v : V} {rs : List RowD} (hv : Sls h 4 v (rws rs)) (hs : ∀ r ∈ rs, r.text.size ≤ maxLen) (hl : rs.length ≤ 60) : ∀ (k i : Nat) (hh : H), i + k = rs.length → HExt h hh →
    ∃ h', Lp.impl_RowsFault 0 [v, v, iv .i64 rs.length, iv .i64 i] hh = some (if rowsFrom rs k i = 0 then .done [] h' else .ret (iv .i64 (rowsFrom rs k i)) h') ∧ HExt h h' := by
  intro k
  induction k with
  | zero =>
    intro i hh hi hx
    rw [eq_impl_RowsFault_l0, vcase_neg (by omega)]
    exact ⟨hh, rfl, hx⟩
  | succ k ih =>
    intro i hh hi hx
    have hlt : i < (rws rs).length := by simp; omega
    have hlt' : i < rs.length := by omega
    rw [eq_impl_RowsFault_l0, vcase_pos (by omega), (hv.mono hx).get hlt, rws_get hlt, nw_zero, stN_all (n := 4) rfl rfl rfl, Option.bind_some, loadN_all (n := 4) rfl rfl, Option.bind_some]
    have hsz := hs _ (List.getElem_mem hlt')
    have x1 := hx.up (e := 0) (cs := rs[i].cs) (k := 1)
    obtain ⟨h2, e2, x2⟩ := c_impl_RowFault rs[i] hsz (hh.nw 0 rs[i].cs 1)
    rw [e2, Option.bind_some, bin_neq, Option.bind_some]
    unfold rowsFrom
    rw [rowAt_eq hlt']
    have hrr := hh.n
    by_cases h0 : rowF rs[i] = 0
    case neg =>
      rw [vcase_pos h0, if_neg h0]
      exact ⟨h2, by rw [if_neg h0], x1.trans x2⟩
    rw [vcase_neg (by simpa using h0), if_pos h0]
    dsimp only
    by_cases hi0 : i = 0
    · subst hi0
      rw [vcase_neg (by omega), hchk_of (HExt.refl _), w64 (by omega) (by omega), if_neg (by simp)]
      exact ih 1 h2 (by omega) (x1.trans x2)
    · have hlt2 : i - 1 < (rws rs).length := by simp; omega
      rw [vcase_pos (by omega), w64 (n := (i : Int) - 1) (by omega) (by omega), show (i : Int) - 1 = ((i - 1 : Nat) : Int) from by omega, ((hv.mono (x1.trans x2))).get hlt2, rws_get hlt2,
        x2.loadN (by rw [nw_n]; omega), loadN_all (n := 4) rfl rfl, Option.bind_some]
      obtain ⟨h3, e3, x3⟩ := c_impl_IsBefore (rs[i - 1]'(by omega)) rs[i] h2
      rw [e3, Option.bind_some, hchk_of x3, not_bv, Option.bind_some, vcase_bv, rowAt_eq (show i - 1 < rs.length by omega)]
      change ∃ h', (if (!befB (rs[i - 1]'(by omega)) rs[i]) = true then _ else _) = _ ∧ _
      cases hb : befB (rs[i - 1]'(by omega)) rs[i] with
      | true =>
        rw [if_neg (by simp), if_neg (by simp), w64 (by omega) (by omega), show (i : Int) + 1 = ((i + 1 : Nat) : Int) from by omega]
        exact ih (i + 1) h3 (by omega) ((x1.trans x2).trans x3)
      | false =>
        rw [show (decide (0 < i) && !false) = true from by simp; omega]
        simp only [Bool.not_false, if_true]
        exact ⟨h3, rfl, (x1.trans x2).trans x3⟩
/-- a row stands here -/
def AtR (h : H) (p o : Nat) (r : RowD) : Prop := load1 h (pv p o) = some (.int .i64 r.tab) ∧ load1 h (pv p (o + 1)) = some (.int .i64 r.key) ∧ load1 h (pv p (o + 2)) = some (.int .i64 r.val) ∧ load1 h (pv p (o + 3)) = some (.str r.text)
theorem AtR.of {h : H} {p o : Nat} {r : RowD} (hle : o + 4 ≤ (h.cells p).length) (hc : ((h.cells p).drop o).take 4 = r.cs) : AtR h p o r := by
  have key : ∀ j, j < 4 → (h.cells p)[o + j]? = r.cs[j]? := by
    intro j hj
    rw [← hc, List.getElem?_take, if_pos hj, List.getElem?_drop]
  exact ⟨key 0 (by omega), key 1 (by omega), key 2 (by omega), key 3 (by omega)⟩
theorem g_l1Fault (r : RowD) (hs : r.text.size ≤ maxLen) (h : H) (p o : Nat) (hp : AtR h p o r) : call Ev Fn.spec_l1Fault [pv p o] h = some (iv .i64 (rowF r), h) := by
  rw [eq_spec_l1Fault]
  obtain ⟨l0, l1, l2, l3⟩ := hp
  simp only [notNil_pv, padd_pv, Nat.add_zero, l0, l1, l2, l3, Option.bind_some, c_spec_l1In, not_bv, gcase_bv, vcase_bv, c_l1Text _ hs]
  unfold rowF
  cases inB r.tab 0 3 <;> cases inB r.key 1 99 <;> cases inB r.val 0 999 <;> simp
  cases allLow r.text 0 <;> by_cases h8 : r.text.size ≤ 8 <;> simp [h8]
theorem g_l1Before (a b : RowD) (h : H) (p o q u : Nat) (ha : AtR h p o a) (hb : AtR h q u b) : call Ev Fn.spec_l1Before [pv p o, pv q u] h = some (bv (befB a b), h) := by
  rw [eq_spec_l1Before]
  obtain ⟨l0, l1, l2, l3⟩ := ha
  obtain ⟨m0, m1, m2, m3⟩ := hb
  simp only [notNil_pv, padd_pv, Nat.add_zero, l0, l1, m0, m1, Option.bind_some, bin_lss, bin_eql, gcase_bv, decide_eq_true_eq]
  unfold befB
  repeat' split
  all_goals exact congrArg some (Prod.ext (by simp [*]) rfl)
theorem lp_l6Rows {h : H} {v : V} {rs : List RowD} (hv : Sls h 4 v (rws rs)) (hs : ∀ r ∈ rs, r.text.size ≤ maxLen) (hl : rs.length ≤ 60) : ∀ (k i : Nat), i + k = rs.length →
    Lp.spec_l6Rows 0 [v, iv .i64 i] h = some (if rowsFrom rs k i = 0 then .done [] h else .ret (iv .i64 (rowsFrom rs k i)) h) := by
  intro k
  induction k with
  | zero =>
    intro i hi
    rw [eq_spec_l6Rows_l0, hv.len, Option.bind_some, bin_lss, Option.bind_some, vcase_neg (by simp; omega)]
    rfl
  | succ k ih =>
    intro i hi
    have hlt : i < (rws rs).length := by simp; omega
    have hlt' : i < rs.length := by omega
    obtain ⟨b, o, e, _, q1, q2⟩ := hv.at (k := .i64) hlt
    rw [rws_get hlt] at q2
    have at1 := AtR.of q1 q2
    rw [eq_spec_l6Rows_l0, hv.len, Option.bind_some, bin_lss, Option.bind_some, vcase_pos (by simp; omega), e, Option.bind_some, g_l1Fault _ (hs _ (List.getElem_mem hlt')) _ _ _ at1, Option.bind_some, bin_neq, Option.bind_some]
    unfold rowsFrom
    rw [rowAt_eq hlt']
    by_cases h0 : rowF rs[i] = 0
    case neg =>
      rw [vcase_pos h0, if_neg h0, if_neg h0]
    rw [vcase_neg (by simpa using h0), if_pos h0]
    dsimp only
    by_cases hi0 : i = 0
    · subst hi0
      rw [vcase_neg (by omega), hchk_of (HExt.refl _), w64 (by omega) (by omega)]
      simp only [Nat.lt_irrefl, decide_false, Bool.false_and, Bool.false_eq_true, if_false]
      exact ih 1 (by omega)
    · have hlt2 : i - 1 < (rws rs).length := by simp; omega
      obtain ⟨b', o', e', _, q1', q2'⟩ := hv.at (k := .i64) hlt2
      rw [rws_get hlt2] at q2'
      have at2 := AtR.of q1' q2'
      rw [vcase_pos (by omega), w64 (n := (i : Int) - 1) (by omega) (by omega), show (i : Int) - 1 = ((i - 1 : Nat) : Int) from by omega, e', Option.bind_some, Option.bind_some, g_l1Before _ _ _ _ _ _ _ at2 at1, Option.bind_some, hchk_of (HExt.refl _), not_bv, Option.bind_some, vcase_bv, rowAt_eq (show i - 1 < rs.length by omega)]
      cases hb : befB (rs[i - 1]'(by omega)) rs[i] with
      | true =>
        rw [w64 (by omega) (by omega), show (i : Int) + 1 = ((i + 1 : Nat) : Int) from by omega]
        simp only [Bool.not_true, Bool.and_false, Bool.false_eq_true, if_false]
        exact ih (i + 1) (by omega)
      | false =>
        rw [show (decide (0 < i) && !false) = true from by simp; omega]
        rfl
def rowsF (rs : List RowD) : Int := if 60 < rs.length then 2 else rowsFrom rs rs.length 0
theorem c_impl_RowsFault {h : H} {v : V} {rs : List RowD} (hv : Sls h 4 v (rws rs)) (hs : ∀ r ∈ rs, r.text.size ≤ maxLen) (hl : rs.length < 2 ^ 62) : ∃ h', call Ev Fn.impl_RowsFault [v] h = some (iv .i64 (rowsF rs), h') ∧ HExt h h' := by
  rw [eq_impl_RowsFault, hv.len, Option.bind_some, bin_gtr, Option.bind_some, show ((rws rs).length : Int) = (rs.length : Int) from by simp]
  unfold rowsF
  by_cases hq : 60 < rs.length
  · rw [vcase_pos (by omega), if_pos hq]; exact ⟨_, rfl, HExt.refl h⟩
  rw [vcase_neg (by omega), if_neg hq, show iv .i64 0 = iv .i64 ((0 : Nat) : Int) from rfl, Option.bind_some]
  obtain ⟨h', e, x⟩ := lp_RowsFault hv hs (by omega) rs.length 0 h (by omega) (HExt.refl h)
  rw [e, Option.bind_some]
  refine ⟨h', ?_, x⟩
  by_cases h0 : rowsFrom rs rs.length 0 = 0
  · rw [if_pos h0, h0]; rfl
  · rw [if_neg h0]; rfl
theorem c_spec_RowsFault {h : H} {v : V} {rs : List RowD} (hv : Sls h 4 v (rws rs)) (hs : ∀ r ∈ rs, r.text.size ≤ maxLen) (hl : rs.length < 2 ^ 62) : call Ev Fn.spec_RowsFault [v] h = some (iv .i64 (rowsF rs), h) := by
  rw [eq_spec_RowsFault, eq_spec_l6Rows, hv.len, Option.bind_some, bin_gtr, Option.bind_some, show ((rws rs).length : Int) = (rs.length : Int) from by simp]
  unfold rowsF
  by_cases hq : 60 < rs.length
  · rw [vcase_pos (by omega), if_pos hq]; rfl
  rw [vcase_neg (by omega), if_neg hq, show iv .i64 0 = iv .i64 ((0 : Nat) : Int) from rfl, lp_l6Rows hv hs (by omega) rs.length 0 (by omega), Option.bind_some]
  by_cases h0 : rowsFrom rs rs.length 0 = 0
  · rw [if_pos h0, h0]; rfl
  · rw [if_neg h0]; rfl
end Vm
