/-
  A row's cell: its bytes, and what makes them.
-/
import Derived.Test.YtfmkfefblbophaaDRow
import Derived.Test.YtfmkfefblbophaaDFree
set_option linter.unusedVariables false
set_option maxRecDepth 100000
set_option linter.unusedSimpArgs false
namespace Vm
open Go

def u8 (n : Int) : UInt8 := UInt8.ofNat (n % 256).toNat
theorem u8_eq (n : Int) : IntKind.u8.wrap n = ((u8 n).toNat : Int) := by
  simp [IntKind.wrap, IntKind.signed, IntKind.bits, u8]
  omega
def cellOf (flag : Int) (r : RowD) : List UInt8 := [u8 flag, u8 r.tab, u8 r.key, u8 (r.val / 256), u8 r.val, u8 r.text.size] ++ r.text.data.toList
theorem cvI_64 {n : Int} : cvI .u8 (.s (.int .i64 n)) = some (iv .u8 (u8 n).toNat) := by simp only [cvI, u8_eq]
theorem cells_iv' {k : IntKind} {n : Int} : cellsOf (iv k n) = some [.int k n] := id rfl
theorem shr8 {E : Env} {t : Nat} {a : Int} : bin E .shr t (.s (.int .i64 a)) (iv .u64 8) = some (iv .i64 (a / 256)) := by
  simp only [bin]
  rw [if_neg (by omega), show min (8 : Int).toNat IntKind.i64.bits = 8 from by decide, Int.fdiv_eq_ediv_of_nonneg _ (by decide)]
  rfl
theorem c_impl_cell (flag : Int) (r : RowD) (h : H) (hs : r.text.size ≤ 8) (h1 : 0 ≤ r.val) (h2 : r.val < 1000) : ∃ h' w b, call Ev Fn.impl_cell [iv .i64 flag, .agg r.cs] h = some (w, h') ∧ BysW h' w (cellOf flag r) b ∧ HExt h h' ∧ h.n ≤ b := by
  rw [eq_impl_cell]
  simp only [nw_zero, nw_n]
  have l0 : load1 (h.nw 0 r.cs 0) (pv h.n 0) = some (.int .i64 r.tab) := load1_nw rfl
  have l1 : load1 (h.nw 0 r.cs 0) (pv h.n 1) = some (.int .i64 r.key) := load1_nw rfl
  have l2 : load1 (h.nw 0 r.cs 0) (pv h.n 2) = some (.int .i64 r.val) := load1_nw rfl
  have l3 : load1 (h.nw 0 r.cs 0) (pv h.n 3) = some (.str r.text) := load1_nw rfl
  simp only [l0, l1, l2, l3, Option.bind_some, cvI_64, shr8, lenStr, cells_iv', u8_eq]
  simp only [List.length_cons, List.length_nil, Nat.zero_add, Nat.reduceAdd, setAt, List.take_zero, List.nil_append, List.cons_append, List.drop_succ_cons, List.drop_zero, List.take_succ_cons, Nat.reduceLeDiff, and_self, if_true, List.drop_nil, List.append_nil]
  rw [load1_nw' (by rw [nw_n]; omega), l3, Option.bind_some]
  have w0 : BysW ((h.nw 0 r.cs 0).nw 1 ([u8 flag, u8 r.tab, u8 r.key, u8 (r.val / 256), u8 r.val, u8 r.text.size].map cell8) 0) (sv (h.n + 1) 0 6) [u8 flag, u8 r.tab, u8 r.key, u8 (r.val / 256), u8 r.val, u8 r.text.size] (h.n + 1) :=
    ⟨rfl, by simp only [nw_n]; omega, by rw [← nw_n h 0 r.cs 0, nw_g]⟩
  obtain ⟨h', v, e, w1, n1, x1⟩ := w0.app (Cel.str _ r.text) (by unfold lim; simp; omega)
  rw [show [S.int IntKind.u8 ((u8 flag).toNat : Int), S.int .u8 ((u8 r.tab).toNat : Int), S.int .u8 ((u8 r.key).toNat : Int), S.int .u8 ((u8 (r.val / 256)).toNat : Int), S.int .u8 ((u8 r.val).toNat : Int), S.int .u8 ((u8 r.text.size).toNat : Int)] = [u8 flag, u8 r.tab, u8 r.key, u8 (r.val / 256), u8 r.val, u8 r.text.size].map cell8 from rfl, e, Option.bind_some]
  exact ⟨h', v, _, rfl, w1, x1 h (HExt.refl h).up.up (by omega), by simp only [nw_n]; omega⟩
theorem c_l1Cell (flag : Int) (r : RowD) (h : H) (p : Nat) (hp : p < h.n) (hc : h.cells p = r.cs) (hs : r.text.size ≤ 8) (h1 : 0 ≤ r.val) (h2 : r.val < 1000) : ∃ h' w b, call Ev Fn.spec_l1Cell [iv .i64 flag, pv p 0] h = some (w, h') ∧ BysW h' w (cellOf flag r) b ∧ HExt h h' ∧ h.n ≤ b := by
  rw [eq_spec_l1Cell]
  have l0 : load1 h (pv p 0) = some (.int .i64 r.tab) := by simp [load1, hc]
  have l1 : load1 h (pv p 1) = some (.int .i64 r.key) := by simp [load1, hc]
  have l2 : load1 h (pv p 2) = some (.int .i64 r.val) := by simp [load1, hc]
  have l3 : load1 h (pv p 3) = some (.str r.text) := by simp [load1, hc]
  have hm : u8 (r.val.tmod 256) = u8 r.val := by
    unfold u8; congr 2; rw [Int.tmod_eq_emod_of_nonneg h1]; omega
  have hd : r.val.tdiv 256 = r.val / 256 := Int.tdiv_eq_ediv_of_nonneg h1
  have hquo : bin Ev .quo 2 (iv .i64 r.val) (iv .i64 256) = some (iv .i64 (r.val / 256)) := by
    simp only [bin, binI, if_true]; rw [if_neg (by omega), hd, w64 (by omega) (by omega)]
  have hrem : bin Ev .rem 2 (iv .i64 r.val) (iv .i64 256) = some (iv .i64 (r.val.tmod 256)) := by
    simp only [bin, binI, if_true]; rw [if_neg (by omega)]
  simp only [nw_zero, notNil_pv, padd_pv, Nat.zero_add, l0, l1, l2, l3, Option.bind_some, cvI_64, hquo, hrem, hm, lenStr, cells_iv', u8_eq]
  simp only [List.length_cons, List.length_nil, Nat.zero_add, Nat.reduceAdd, setAt, List.take_zero, List.nil_append, List.cons_append, List.drop_succ_cons, List.drop_zero, List.take_succ_cons, Nat.reduceLeDiff, and_self, if_true, List.drop_nil, List.append_nil]
  rw [hchk_of (HExt.nw _ _ _ _), load1_nw' hp, l3, Option.bind_some]
  have w0 : BysW (h.nw 1 ([u8 flag, u8 r.tab, u8 r.key, u8 (r.val / 256), u8 r.val, u8 r.text.size].map cell8) 0) (sv h.n 0 6) [u8 flag, u8 r.tab, u8 r.key, u8 (r.val / 256), u8 r.val, u8 r.text.size] h.n :=
    ⟨rfl, by simp only [nw_n]; omega, nw_g _ _ _ _⟩
  rw [show [S.int IntKind.u8 ((u8 flag).toNat : Int), S.int .u8 ((u8 r.tab).toNat : Int), S.int .u8 ((u8 r.key).toNat : Int), S.int .u8 ((u8 (r.val / 256)).toNat : Int), S.int .u8 ((u8 r.val).toNat : Int), S.int .u8 ((u8 r.text.size).toNat : Int)] = [u8 flag, u8 r.tab, u8 r.key, u8 (r.val / 256), u8 r.val, u8 r.text.size].map cell8 from rfl]
  generalize hG : h.nw 1 ([u8 flag, u8 r.tab, u8 r.key, u8 (r.val / 256), u8 r.val, u8 r.text.size].map cell8) 0 = G at w0
  have xG : HExt h G := by rw [← hG]; exact HExt.nw _ _ _ _
  have hcv : cvBytes G (.s (.str r.text)) = some (sv G.n 0 r.text.size, G.new 1 (r.text.data.toList.map cell8)) := by
    simp only [cvBytes]; rw [if_pos (by unfold lim; omega)]; rfl
  rw [hcv, Option.bind_some]
  have xs : HExt G (G.new 1 (r.text.data.toList.map cell8)) := (HExt.refl G).new
  have hb : BysW (G.new 1 (r.text.data.toList.map cell8)) (sv G.n 0 r.text.size) r.text.data.toList G.n := BysW.newly G _ (by simp)
  obtain ⟨h', v, e, w1, n1, x1⟩ := (w0.mono xs).app hb.r.c (by unfold lim; simp; omega)
  dsimp only
  rw [e, Option.bind_some]
  exact ⟨h', v, _, rfl, w1, x1 h (xG.trans xs) (Nat.le_refl _), Nat.le_trans xG.1 xs.1⟩
theorem vv {R : Type} {a : Int} {A B : Option R} (h : a = 0 ∨ a = 2) : vcase (bv (a != 0)) (vcase (bv (a != 2)) A B) B = B := by
  rcases h with rfl | rfl <;> rfl
theorem vv' {R : Type} {a : Int} {A B : Option R} (h : ¬ (a = 0 ∨ a = 2)) : vcase (bv (a != 0)) (vcase (bv (a != 2)) A B) B = A := by
  have h1 : (a != 0) = true := by simp; omega
  have h2 : (a != 2) = true := by simp; omega
  rw [h1, h2]; rfl
theorem rowF_ok {r : RowD} (h : rowF r = 0) : r.text.size ≤ 8 ∧ 0 ≤ r.val ∧ r.val < 1000 ∧ 0 ≤ r.tab ∧ r.tab ≤ 3 ∧ 1 ≤ r.key ∧ r.key ≤ 99 ∧ allLow r.text 0 = true := by
  unfold rowF at h
  split at h
  · rename_i hh
    simp only [inB, Bool.and_eq_true, decide_eq_true_eq] at hh
    split at h
    · rename_i h2
      simp only [Bool.and_eq_true, decide_eq_true_eq] at h2
      exact ⟨h2.1, by omega, by omega, by omega, by omega, by omega, by omega, h2.2⟩
    · omega
  · omega
open Classical in
noncomputable def packC (flag : Int) (r : RowD) : Int := if flag = 0 ∨ flag = 2 then rowF r else 1
open Classical in
noncomputable def packL (flag : Int) (r : RowD) : List UInt8 := if (flag = 0 ∨ flag = 2) ∧ rowF r = 0 then cellOf flag r else []
theorem packL_len (flag : Int) (r : RowD) : (packL flag r).length ≤ 14 := by
  unfold packL
  split
  · rename_i h
    have := (rowF_ok h.2).1
    simp [cellOf]; omega
  · simp
/-- a result of a code and bytes, filled in -/
theorem bytes_store {h G : H} {Z : List S} (x : HExt (h.nw 0 Z 0) G) (hz : Z.length = 2) {c : Int} {y : S} {l : List UInt8} {ob : Option Nat} (o : Own G (.s y) l ob) (hb : ∀ b, ob = some b → h.n < b) :
    ∃ G', stV 2 G (pv h.n 0) (.agg [.int .i64 c, y]) = some G' ∧ loadN 2 G' (pv h.n 0) = some [.int .i64 c, y] ∧ HExt h G' ∧ Own G' (.s y) l ob := by
  obtain ⟨G', e1, e2, x1, g1, n1⟩ := res_store (n := 2) (cs := [.int .i64 c, y]) x hz rfl
  refine ⟨G', e1, e2, x1, o.off (bs := [h.n]) ⟨by omega, fun b _ hm => g1 b (by simpa using hm)⟩ fun b hb' => ?_⟩
  have := hb b hb'
  simp; omega
theorem c_impl_PackRow (flag : Int) (r : RowD) (hr : r.text.size ≤ maxLen) (h : H) : ∃ h' y ob, call Ev Fn.impl_PackRow [iv .i64 flag, .agg r.cs] h = some (.agg [.int .i64 (packC flag r), y], h') ∧ Own h' (.s y) (packL flag r) ob ∧ HExt h h' ∧ (∀ b, ob = some b → h.n ≤ b) := by
  rw [eq_impl_PackRow]
  simp only [nw_zero, nw_n]
  have nilO : ∀ G : H, Own G (.s (.sl none 0)) [] none := fun _ => ⟨rfl, rfl⟩
  have n1 : (h.nw 0 r.cs 0).n = h.n + 1 := nw_n _ _ _ _
  generalize hK : h.nw 0 r.cs 0 = K at *
  have xK : HExt h K := by rw [← hK]; exact HExt.nw _ _ _ _
  have lK : ∀ {X : H}, HExt K X → loadN 4 X (pv h.n 0) = some r.cs := fun x => by
    rw [x.loadN (by omega), ← hK, loadN_all (n := 4) rfl rfl]
  rw [← n1]
  by_cases hf : flag = 0 ∨ flag = 2
  case neg =>
    rw [vv' hf, if_pos (by simp)]
    obtain ⟨G', e1, e2, x1, o1⟩ := bytes_store (c := 1) (HExt.refl (K.nw 0 [.int .i64 0, .sl none 0] 0)) rfl (nilO _) (by simp)
    rw [show setAt ([.int .i64 0, .sl none 0] : List S) 0 [.int .i64 1] = [.int .i64 1, .sl none 0] from rfl, e1, Option.bind_some, e2, Option.bind_some]
    refine ⟨_, _, none, by unfold packC; rw [if_neg hf], by unfold packL; rw [if_neg (fun hh => hf hh.1)]; exact o1, xK.trans x1, by simp⟩
  rw [vv hf, lK (HExt.nw _ _ _ _), Option.bind_some]
  obtain ⟨h1, e1, x1⟩ := c_impl_RowFault r hr (K.nw 0 [.int .i64 0, .sl none 0] 0)
  rw [e1, Option.bind_some, bin_neq, Option.bind_some]
  by_cases h0 : rowF r = 0
  case neg =>
    rw [vcase_pos h0, cells_iv', Option.bind_some, if_pos (by simp)]
    obtain ⟨G', e2, e3, x2, o2⟩ := bytes_store (c := rowF r) x1 rfl (nilO _) (by simp)
    dsimp only
    rw [show ∀ z : S, setAt ([.int .i64 0, .sl none 0] : List S) 0 [z] = [z, .sl none 0] from fun _ => rfl, e2, Option.bind_some, e3, Option.bind_some]
    refine ⟨_, _, none, by unfold packC; rw [if_pos hf], by unfold packL; rw [if_neg (fun hh => h0 hh.2)]; exact o2, xK.trans x2, by simp⟩
  rw [vcase_neg (by simpa using h0)]
  dsimp only
  rw [lK ((HExt.nw _ _ _ _).trans x1), Option.bind_some]
  obtain ⟨q1, q2, q3, _⟩ := rowF_ok h0
  obtain ⟨h2, w, b, e2, o2, x2, hb⟩ := c_impl_cell flag r h1 q1 q2 q3
  obtain rfl := o2.v
  have hb' : K.n < b := by have := x1.1; rw [nw_n] at this; omega
  rw [e2, Option.bind_some]
  simp only [cellsOf, Option.bind_some]
  rw [if_pos (by simp)]
  obtain ⟨G', e3, e4, x3, o3⟩ := bytes_store (c := 0) (x1.trans x2) rfl (ob := some b) (y := .sl (some (b, 0)) (cellOf flag r).length) (l := cellOf flag r) o2 (by intro b2 hb2; cases hb2; exact hb')
  rw [show ∀ z : S, setAt ([.int .i64 0, .sl none 0] : List S) 1 [z] = [.int .i64 0, z] from fun _ => rfl, e3, Option.bind_some, e4, Option.bind_some]
  refine ⟨_, _, some b, by unfold packC; rw [if_pos hf, h0], by unfold packL; rw [if_pos ⟨hf, h0⟩]; exact o3, xK.trans x3, by intro b2 hb2; cases hb2; omega⟩
theorem c_spec_PackRow (flag : Int) (r : RowD) (hr : r.text.size ≤ maxLen) (h : H) : ∃ h' y ob, call Ev Fn.spec_PackRow [iv .i64 flag, .agg r.cs] h = some (.agg [.int .i64 (packC flag r), y], h') ∧ Own h' (.s y) (packL flag r) ob ∧ HExt h h' ∧ (∀ b, ob = some b → h.n ≤ b) := by
  rw [eq_spec_PackRow]
  simp only [nw_zero, nw_n]
  have nilO : ∀ G : H, Own G (.s (.sl none 0)) [] none := fun _ => ⟨rfl, rfl⟩
  have n1 : (h.nw 0 r.cs 0).n = h.n + 1 := nw_n _ _ _ _
  generalize hK : h.nw 0 r.cs 0 = K at *
  have xK : HExt h K := by rw [← hK]; exact HExt.nw _ _ _ _
  have cK : ∀ {X : H}, HExt K X → X.cells h.n = r.cs := fun x => by rw [x.cells (by omega), ← hK, nw_cells]
  rw [← n1]
  by_cases hf : flag = 0 ∨ flag = 2
  case neg =>
    rw [vv' hf, if_pos (by simp)]
    obtain ⟨G', e1, e2, x1, o1⟩ := bytes_store (c := 1) (HExt.refl (K.nw 0 [.int .i64 0, .sl none 0] 0)) rfl (nilO _) (by simp)
    rw [show setAt ([.int .i64 0, .sl none 0] : List S) 0 [.int .i64 1] = [.int .i64 1, .sl none 0] from rfl, e1, Option.bind_some, e2, Option.bind_some]
    refine ⟨_, _, none, by unfold packC; rw [if_neg hf], by unfold packL; rw [if_neg (fun hh => hf hh.1)]; exact o1, xK.trans x1, by simp⟩
  have x1 := HExt.refl (K.nw 0 [.int .i64 0, .sl none 0] 0)
  rw [vv hf, c_l1Fault r hr _ h.n (cK (HExt.nw _ _ _ _)), Option.bind_some, bin_neq, Option.bind_some]
  by_cases h0 : rowF r = 0
  case neg =>
    rw [vcase_pos h0, cells_iv', Option.bind_some, if_pos (by simp)]
    obtain ⟨G', e2, e3, x2, o2⟩ := bytes_store (c := rowF r) x1 rfl (nilO _) (by simp)
    dsimp only
    rw [show ∀ z : S, setAt ([.int .i64 0, .sl none 0] : List S) 0 [z] = [z, .sl none 0] from fun _ => rfl, e2, Option.bind_some, e3, Option.bind_some]
    refine ⟨_, _, none, by unfold packC; rw [if_pos hf], by unfold packL; rw [if_neg (fun hh => h0 hh.2)]; exact o2, xK.trans x2, by simp⟩
  rw [vcase_neg (by simpa using h0)]
  dsimp only
  obtain ⟨q1, q2, q3, _⟩ := rowF_ok h0
  obtain ⟨h2, w, b, e2, o2, x2, hb⟩ := c_l1Cell flag r (K.nw 0 [.int .i64 0, .sl none 0] 0) h.n (by rw [nw_n]; omega) (cK (HExt.nw _ _ _ _)) q1 q2 q3
  obtain rfl := o2.v
  have hb' : K.n < b := by rw [nw_n] at hb; omega
  rw [e2, Option.bind_some]
  simp only [cellsOf, Option.bind_some]
  rw [if_pos (by simp)]
  obtain ⟨G', e3, e4, x3, o3⟩ := bytes_store (c := 0) (x1.trans x2) rfl (ob := some b) (y := .sl (some (b, 0)) (cellOf flag r).length) (l := cellOf flag r) o2 (by intro b2 hb2; cases hb2; exact hb')
  rw [show ∀ z : S, setAt ([.int .i64 0, .sl none 0] : List S) 1 [z] = [.int .i64 0, z] from fun _ => rfl, e3, Option.bind_some, e4, Option.bind_some]
  refine ⟨_, _, some b, by unfold packC; rw [if_pos hf, h0], by unfold packL; rw [if_pos ⟨hf, h0⟩]; exact o3, xK.trans x3, by intro b2 hb2; cases hb2; omega⟩
end Vm
