/-
  What the functions on rows come to.
-/
import Derived.Test.YtfmkfefblbophaaEqs
import Derived.Test.YtfmkfefblbophaaTRow
set_option linter.unusedVariables false
set_option maxRecDepth 100000
set_option linter.unusedSimpArgs false
namespace Vm
open Go

theorem c_szRow (r : RowD) (left : Int) (h : H) (h2 : left < 9223372036854775808) (hs : (r.text.size : Int) ≤ left) :
    call Ev Fn.laws_szRow [.agg r.cs, iv .i64 left] h = some (iv .i64 (left - r.text.size), h.nw 0 r.cs 0) := by
  rw [eq_laws_szRow]
  simp only [nw_zero, load1_nw rfl, RowD.cs, List.getElem?_cons_succ, List.getElem?_cons_zero, Option.bind_some, lenStr, bin_sub, bin_lss, vcase_bv, w64 (n := left - r.text.size) (by omega) (by omega), decide_eq_true_eq]
  rw [if_neg (by omega)]
theorem c_szRow' (r : RowD) (left : Int) (h : H) (h1 : 0 ≤ left) (h2 : left < 9223372036854775808) (hz : r.text.size ≤ maxLen) (hs : ¬ (r.text.size : Int) ≤ left) :
    call Ev Fn.laws_szRow [.agg r.cs, iv .i64 left] h = some (iv .i64 (-1), h.nw 0 r.cs 0) := by
  unfold maxLen at hz
  rw [eq_laws_szRow]
  simp only [nw_zero, load1_nw rfl, RowD.cs, List.getElem?_cons_succ, List.getElem?_cons_zero, Option.bind_some, lenStr, bin_sub, bin_lss, vcase_bv, w64 (n := left - r.text.size) (by omega) (by omega), decide_eq_true_eq]
  rw [if_pos (by omega)]

theorem c_toRow (r : RowD) (h : H) : ∃ h', call Ev Fn.laws_toRow [.agg r.cs] h = some (.agg r.cs, h') ∧ HExt h h' := by
  rw [eq_laws_toRow]
  simp (disch := first | omega | (simp only [nw_n, no_int, no_str, List.length_cons, List.length_nil] <;> omega) | fail) only [nw_zero, nw_n, load1_nw, load1_nw', st1_nw, stN_all, st_nw', loadN_all, loadN_nw', RowD.cs, List.getElem?_cons_succ, List.getElem?_cons_zero, Option.bind_some, Option.map_some, List.length_cons, List.length_nil, List.set_cons_zero, List.set_cons_succ]
  exact ⟨_, rfl, (HExt.refl _).up.up.up⟩

theorem c_impl_IsBefore (a b : RowD) (h : H) : ∃ h', call Ev Fn.impl_IsBefore [.agg a.cs, .agg b.cs] h = some (bv (decide (a.tab < b.tab) || (decide (a.tab = b.tab) && decide (a.key < b.key))), h') ∧ HExt h h' := by
  rw [eq_impl_IsBefore]
  simp (disch := first | omega | (simp only [nw_n, no_int, no_str, List.length_cons, List.length_nil] <;> omega) | fail) only [nw_zero, nw_n, load1_nw, load1_nw', RowD.cs, List.getElem?_cons_succ, List.getElem?_cons_zero, Option.bind_some, bin_lss, bin_eql, gcase_bv, decide_eq_true_eq]
  repeat' split
  all_goals exact ⟨_, congrArg some (Prod.ext (by simp [*]) rfl), (HExt.refl _).up.up⟩
theorem c_spec_l1Before (a b : RowD) (h : H) (p q : Nat) (hp : p < h.n) (hq : q < h.n) (ha : h.cells p = a.cs) (hb : h.cells q = b.cs) : call Ev Fn.spec_l1Before [pv p 0, pv q 0] h = some (bv (decide (a.tab < b.tab) || (decide (a.tab = b.tab) && decide (a.key < b.key))), h) := by
  rw [eq_spec_l1Before]
  simp only [notNil_pv, padd_pv, load1, ha, hb, RowD.cs, Nat.zero_add, List.getElem?_cons_succ, List.getElem?_cons_zero, Option.bind_some, bin_lss, bin_eql, gcase_bv, decide_eq_true_eq]
  repeat' split
  all_goals exact congrArg some (Prod.ext (by simp [*]) rfl)
theorem c_spec_IsBefore (a b : RowD) (h : H) : ∃ h', call Ev Fn.spec_IsBefore [.agg a.cs, .agg b.cs] h = some (bv (decide (a.tab < b.tab) || (decide (a.tab = b.tab) && decide (a.key < b.key))), h') ∧ HExt h h' := by
  rw [eq_spec_IsBefore]
  simp only [nw_zero, nw_n]
  rw [c_spec_l1Before a b _ h.n (h.n + 1) (by simp only [nw_n]; omega) (by simp only [nw_n]; omega) (by rw [nw_cells' (by rw [nw_n]; omega), nw_cells]) (by rw [← nw_n h 0 a.cs 0, nw_cells])]
  exact ⟨_, rfl, (HExt.refl _).up.up⟩

/-! the faults of a row -/
def inB (n a b : Int) : Bool := decide (a ≤ n) && decide (n ≤ b)
def low (c : UInt8) : Bool := decide (97 ≤ (c.toNat : Int)) && decide ((c.toNat : Int) ≤ 122)
def allLow (s : ByteArray) (i : Nat) : Bool := (s.data.toList.drop i).all low
def rowF (r : RowD) : Int := if inB r.tab 0 3 && inB r.key 1 99 && inB r.val 0 999 then (if decide (r.text.size ≤ 8) && allLow r.text 0 then 0 else 5) else 3
theorem allLow_step {s : ByteArray} {i : Nat} (h : i < s.size) : allLow s i = (low (s.get! i) && allLow s (i + 1)) := by
  unfold allLow; rw [str_drop h]; rfl
theorem allLow_end {s : ByteArray} {i : Nat} (h : s.size ≤ i) : allLow s i = true := by
  unfold allLow; rw [str_drop_all h]; rfl
theorem c_impl_in (n a b : Int) (h : H) : call Ev Fn.impl_in [iv .i64 n, iv .i64 a, iv .i64 b] h = some (bv (inB n a b), h) := by
  rw [eq_impl_in, vcase_bv]
  unfold inB
  split <;> simp_all <;> omega
theorem c_spec_l1In (n a b : Int) (h : H) : call Ev Fn.spec_l1In [iv .i64 n, iv .i64 a, iv .i64 b] h = some (bv (inB n a b), h) := by
  rw [eq_spec_l1In, vcase_bv]
  unfold inB
  split <;> simp_all <;> omega
theorem lp_l1Text (s : ByteArray) (hs : s.size ≤ maxLen) (h : H) : ∀ k i : Nat, i + k = s.size → Lp.spec_l1Text 0 [.s (.str s), iv .i64 i] h = some (if allLow s i then .done [.s (.str s)] h else .ret (bv false) h) := by
  unfold maxLen at hs
  intro k
  induction k with
  | zero =>
    intro i hi
    rw [eq_spec_l1Text_l0, vcase_bv, if_neg (by simp; omega), allLow_end (by omega)]; rfl
  | succ k ih =>
    intro i hi
    rw [eq_spec_l1Text_l0, vcase_pos (by omega), idxStr_of (by omega) (by omega), Option.bind_some, bin_lss, Option.bind_some, allLow_step (by omega)]
    have e : sby s i = ((s.get! i).toNat : Int) := by simp [sby]
    by_cases hc : sby s i < 97
    · rw [gcase_pos hc, show low (s.get! i) = false from by unfold low; simp; omega]; rfl
    rw [gcase_neg hc, Option.bind_some, bin_gtr, Option.bind_some]
    by_cases hd : 122 < sby s i
    · rw [vcase_pos hd, show low (s.get! i) = false from by unfold low; simp; omega]; rfl
    rw [vcase_neg hd, show low (s.get! i) = true from by unfold low; simp; omega, w64 (by omega) (by omega), show (i : Int) + 1 = ((i + 1 : Nat) : Int) from by omega, ih (i + 1) (by omega)]; rfl
theorem c_l1Text (s : ByteArray) (hs : s.size ≤ maxLen) (h : H) : call Ev Fn.spec_l1Text [.s (.str s)] h = some (bv (decide (s.size ≤ 8) && allLow s 0), h) := by
  rw [eq_spec_l1Text, show iv .i64 0 = iv .i64 ((0 : Nat) : Int) from rfl, lp_l1Text s hs h s.size 0 (by omega), Option.bind_some]
  cases hl : allLow s 0 with
  | true => simp [lcase, lenStr, bin_leq]; omega
  | false => simp [lcase]
theorem lp_RowFault (r : RowD) (hs : r.text.size ≤ maxLen) (h : H) (p : Nat) (hp : h.cells p = r.cs) : ∀ k i : Nat, i + k = r.text.size → Lp.impl_RowFault 0 [pv p 0, iv .i64 r.text.size, iv .i64 i] h = some (if allLow r.text i then .done [] h else .ret (iv .i64 5) h) := by
  unfold maxLen at hs
  have hl : load1 h (pv p 3) = some (.str r.text) := by simp [load1, hp]
  intro k
  induction k with
  | zero =>
    intro i hi
    rw [eq_impl_RowFault_l0, vcase_bv, if_neg (by simp; omega), allLow_end (by omega)]; rfl
  | succ k ih =>
    intro i hi
    rw [eq_impl_RowFault_l0, vcase_pos (by omega)]
    simp only [padd_pv, Option.bind_some, Nat.zero_add, hl]
    rw [idxStr_of (by omega) (by omega), Option.bind_some, bin_lss, Option.bind_some, allLow_step (by omega)]
    have e : sby r.text i = ((r.text.get! i).toNat : Int) := by simp [sby]
    by_cases hc : sby r.text i < 97
    · rw [gcase_pos hc, show low (r.text.get! i) = false from by unfold low; simp; omega]; rfl
    rw [gcase_neg hc, Option.bind_some, bin_gtr, Option.bind_some]
    by_cases hd : 122 < sby r.text i
    · rw [vcase_pos hd, show low (r.text.get! i) = false from by unfold low; simp; omega]; rfl
    rw [vcase_neg hd, show low (r.text.get! i) = true from by unfold low; simp; omega, w64 (by omega) (by omega), show (i : Int) + 1 = ((i + 1 : Nat) : Int) from by omega, ih (i + 1) (by omega)]; rfl
theorem c_impl_RowFault (r : RowD) (hs : r.text.size ≤ maxLen) (h : H) : ∃ h', call Ev Fn.impl_RowFault [.agg r.cs] h = some (iv .i64 (rowF r), h') ∧ HExt h h' := by
  refine ⟨_, ?_, (HExt.refl h).up (e := 0) (cs := r.cs) (k := 0)⟩
  rw [eq_impl_RowFault]
  simp only [nw_zero]
  have hc : (h.nw 0 r.cs 0).cells h.n = r.cs := nw_cells _ _ _ _
  generalize hG : h.nw 0 r.cs 0 = G at hc
  have l0 : load1 G (pv h.n 0) = some (.int .i64 r.tab) := by simp [load1, hc]
  have l1 : load1 G (pv h.n 1) = some (.int .i64 r.key) := by simp [load1, hc]
  have l2 : load1 G (pv h.n 2) = some (.int .i64 r.val) := by simp [load1, hc]
  have l3 : load1 G (pv h.n 3) = some (.str r.text) := by simp [load1, hc]
  have lp := lp_RowFault r hs G h.n hc r.text.size 0 (by omega)
  simp only [l0, l1, l2, l3, Option.bind_some, c_impl_in, not_bv, gcase_bv, vcase_bv, lenStr, bin_gtr]
  rw [show iv .i64 0 = iv .i64 ((0 : Nat) : Int) from rfl, lp]
  unfold rowF
  cases inB r.tab 0 3 <;> cases inB r.key 1 99 <;> cases inB r.val 0 999 <;> simp
  by_cases h8 : r.text.size ≤ 8
  · rw [if_neg (by omega)]
    cases allLow r.text 0 <;> simp [lcase, h8]
  · rw [if_pos (by omega)]; simp [h8]
theorem c_l1Fault (r : RowD) (hs : r.text.size ≤ maxLen) (h : H) (p : Nat) (hp : h.cells p = r.cs) : call Ev Fn.spec_l1Fault [pv p 0] h = some (iv .i64 (rowF r), h) := by
  rw [eq_spec_l1Fault]
  have l0 : load1 h (pv p 0) = some (.int .i64 r.tab) := by simp [load1, hp]
  have l1 : load1 h (pv p 1) = some (.int .i64 r.key) := by simp [load1, hp]
  have l2 : load1 h (pv p 2) = some (.int .i64 r.val) := by simp [load1, hp]
  have l3 : load1 h (pv p 3) = some (.str r.text) := by simp [load1, hp]
  simp only [notNil_pv, padd_pv, Nat.zero_add, l0, l1, l2, l3, Option.bind_some, c_spec_l1In, not_bv, gcase_bv, vcase_bv, c_l1Text _ hs]
  unfold rowF
  cases inB r.tab 0 3 <;> cases inB r.key 1 99 <;> cases inB r.val 0 999 <;> simp
  cases allLow r.text 0 <;> by_cases h8 : r.text.size ≤ 8 <;> simp [h8]
theorem c_spec_RowFault (r : RowD) (hs : r.text.size ≤ maxLen) (h : H) : ∃ h', call Ev Fn.spec_RowFault [.agg r.cs] h = some (iv .i64 (rowF r), h') ∧ HExt h h' := by
  rw [eq_spec_RowFault, nw_zero, c_l1Fault r hs _ _ (nw_cells _ _ _ _)]
  exact ⟨_, rfl, (HExt.refl h).up⟩
end Vm
