/-
  What is free in a page; results that are structs.
-/
import Derived.Test.YtfmkfefblbophaaDPage
set_option linter.unusedVariables false
set_option maxRecDepth 100000
set_option linter.unusedSimpArgs false
namespace Vm
open Go

/-- a result's block is filled and read -/
theorem res_store {h G : H} {Z cs : List S} {n : Nat} (x : HExt (h.nw 0 Z 0) G) (hz : Z.length = n) (hc : cs.length = n) :
    ∃ G', stV n G (pv h.n 0) (.agg cs) = some G' ∧ loadN n G' (pv h.n 0) = some cs ∧ HExt h G' ∧ (∀ b, b ≠ h.n → G'.g b = G.g b) ∧ G'.n = G.n := by
  have hn : h.n < G.n := by have := x.1; rw [nw_n] at this; omega
  have hg : G.g h.n = .rw 0 Z := by rw [(x.2 h.n (by rw [nw_n]; omega)).1, nw_g]
  have hs : setAt Z 0 cs = cs := by simp [setAt, hc, ← hz]
  refine ⟨G.put h.n (.rw 0 cs), ?_, ?_, ?_, fun b hb => by simp [H.put, hb], rfl⟩
  · simp only [stV, putN, hg]
    rw [if_pos ⟨hn, hc⟩, if_pos (by omega), hs]
  · exact loadN_of (by rw [put_n]; exact hn) (by unfold H.cells; rw [put_n, if_pos hn]; simp [H.put, Blk.cells]) hc
  · exact ((HExt.nw h 0 Z 0).trans x).put (Nat.le_refl _)

theorem PageIs.ok {l : List UInt8} (h : PageIs l 0) : l.length = 64 ∧ headB l ∧ (∀ i, i < cnt l → slotB l i) ∧ (∀ i k, i < cnt l → k < i → apartB l i k) ∧ ¬ (0 < cnt l ∧ siz l (cnt l - 1) = 0) := by
  rcases h with ⟨_, h⟩ | ⟨_, _, h⟩ | ⟨_, _, _, h⟩ | ⟨_, _, _, _, h⟩ | ⟨_, _, _, _, _, h⟩ | ⟨h1, h2, h3, h4, h5, _⟩
  · omega
  · omega
  · omega
  · omega
  · omega
  · exact ⟨h1, h2, h3, h4, h5⟩
theorem PageIs.range {l : List UInt8} {c : Int} (h : PageIs l c) : 0 ≤ c ∧ c ≤ 8 := by
  rcases h with ⟨_, h⟩ | ⟨_, _, h⟩ | ⟨_, _, _, h⟩ | ⟨_, _, _, _, h⟩ | ⟨_, _, _, _, _, h⟩ | ⟨_, _, _, _, _, h⟩ <;> omega

def freeTo (l : List UInt8) : Nat → Int
  | 0 => 62 - 2 * bt l 0
  | i + 1 => freeTo l i - siz l i
theorem freeTo_bd (l : List UInt8) : ∀ i : Nat, -1000 - 256 * (i : Int) ≤ freeTo l i ∧ freeTo l i ≤ 62
  | 0 => by have := bt_nn l 0; have := bt_lt l 0; unfold freeTo; omega
  | i + 1 => by have := freeTo_bd l i; have := pl_bd l i; unfold freeTo; omega
section
variable {h : H} {v : V} {l : List UInt8} (hv : Bys h v l) (h64 : l.length = 64) (hd : headB l)
include hv h64 hd
theorem c_l2Free : call Ev Fn.spec_l2Free [v] h = some (iv .i64 (freeTo l (cnt l)), h) := by
  have hc := cnt_eq l
  have b2 := bt_nn l 0
  obtain ⟨g1, g2, g3⟩ := hd
  have loop : ∀ (k i : Nat), i + k = cnt l → Lp.spec_l2Free 0 [v, iv .i64 (freeTo l i), iv .i64 i] h = some (.done [iv .i64 (freeTo l (cnt l))] h) := by
    intro k
    induction k with
    | zero =>
      intro i hi
      rw [eq_spec_l2Free_l0, c_l2Count hv (by omega), Option.bind_some, bin_lss, Option.bind_some, vcase_neg (by omega), show i = cnt l from by omega]
    | succ k ih =>
      intro i hi
      have := freeTo_bd l i
      have := pl_bd l i
      rw [eq_spec_l2Free_l0, c_l2Count hv (by omega), Option.bind_some, bin_lss, Option.bind_some, vcase_pos (by omega), c_l2Size hv (by omega) (by omega), Option.bind_some, bin_sub, Option.bind_some, w64 (by omega) (by omega), w64 (by omega) (by omega), show (i : Int) + 1 = ((i + 1 : Nat) : Int) from by omega]
      exact ih (i + 1) (by omega)
  rw [eq_spec_l2Free, c_l2Count hv (by omega), Option.bind_some, bin_mul, Option.bind_some, w64 (n := 2 * bt l 0) (by omega) (by omega), bin_sub, Option.bind_some, w64 (by omega) (by omega), show iv .i64 0 = iv .i64 ((0 : Nat) : Int) from rfl,
    show 62 - 2 * bt l 0 = freeTo l 0 from rfl, loop (cnt l) 0 (by omega), Option.bind_some]
  rfl
theorem c_freeIn : call Ev Fn.impl_freeIn [v] h = some (iv .i64 (freeTo l (cnt l)), h) := by
  have hc := cnt_eq l
  have b2 := bt_nn l 0
  obtain ⟨g1, g2, g3⟩ := hd
  have loop : ∀ (k i : Nat), i + k = cnt l → Lp.impl_freeIn 0 [v, iv .i64 (freeTo l i), iv .i64 (cnt l), iv .i64 i] h = some (.done [iv .i64 (freeTo l (cnt l))] h) := by
    intro k
    induction k with
    | zero =>
      intro i hi
      rw [eq_impl_freeIn_l0, vcase_neg (by omega), show i = cnt l from by omega]
    | succ k ih =>
      intro i hi
      have := freeTo_bd l i
      have := pl_bd l i
      rw [eq_impl_freeIn_l0, vcase_pos (by omega), c_spot hv (by omega) (by omega), Option.bind_some]
      simp only [extr, List.getElem?_cons_zero, List.getElem?_cons_succ, Option.map_some, A.v, Option.bind_some, bin_sub]
      rw [w64 (by omega) (by omega), w64 (by omega) (by omega), show (i : Int) + 1 = ((i + 1 : Nat) : Int) from by omega]
      exact ih (i + 1) (by omega)
  rw [eq_impl_freeIn, c_slots hv (by omega), Option.bind_some, bin_mul, Option.bind_some, w64 (n := 2 * bt l 0) (by omega) (by omega), bin_sub, Option.bind_some, w64 (by omega) (by omega), c_slots hv (by omega), Option.bind_some, show iv .i64 0 = iv .i64 ((0 : Nat) : Int) from rfl,
    show 62 - 2 * bt l 0 = freeTo l 0 from rfl, ← hc, loop (cnt l) 0 (by omega), Option.bind_some]
  rfl
end
theorem cells_iv {k : IntKind} {n : Int} : cellsOf (iv k n) = some [.int k n] := id rfl
/-- what FreeIn answers -/
def FreeIs (l : List UInt8) (c n : Int) : Prop := (PageIs l c ∧ c ≠ 0 ∧ n = 0) ∨ (PageIs l 0 ∧ c = 0 ∧ n = freeTo l (cnt l))
theorem FreeIs.uniq {l : List UInt8} {c n c' n' : Int} (a : FreeIs l c n) (b : FreeIs l c' n') : c = c' ∧ n = n' := by
  rcases a with ⟨a1, a2, a3⟩ | ⟨a1, a2, a3⟩ <;> rcases b with ⟨b1, b2, b3⟩ | ⟨b1, b2, b3⟩
  · exact ⟨a1.uniq b1, by omega⟩
  · have := a1.uniq b1; omega
  · have := a1.uniq b1; omega
  · exact ⟨by omega, by omega⟩
theorem c_spec_FreeIn {h : H} {v : V} {l : List UInt8} (hv : Bys h v l) (hl : l.length < 2 ^ 62) : ∃ c n h', call Ev Fn.spec_FreeIn [v] h = some (.agg [.int .i64 c, .int .i64 n], h') ∧ FreeIs l c n ∧ HExt h h' := by
  have x0 := HExt.nw h 0 [.int .i64 0, .int .i64 0] 0
  obtain ⟨c, e, hc⟩ := c_l2Fault (hv.mono x0) hl
  rw [eq_spec_FreeIn, nw_zero, e, Option.bind_some, bin_neq, Option.bind_some]
  by_cases h0 : c = 0
  · subst h0
    rw [vcase_neg (by simp), c_l2Free (hv.mono x0) hc.ok.1 hc.ok.2.1, Option.bind_some, cells_iv, Option.bind_some, if_pos (by simp)]
    dsimp only
    obtain ⟨G, e1, e2, x1, _⟩ := res_store (n := 2) (cs := [.int .i64 0, .int .i64 (freeTo l (cnt l))]) (HExt.refl (h.nw 0 [.int .i64 0, .int .i64 0] 0)) rfl rfl
    rw [show setAt ([.int .i64 0, .int .i64 0] : List S) 1 [.int .i64 (freeTo l (cnt l))] = [.int .i64 0, .int .i64 (freeTo l (cnt l))] from rfl, e1, Option.bind_some, e2, Option.bind_some]
    exact ⟨_, _, _, rfl, .inr ⟨hc, rfl, rfl⟩, x1⟩
  · rw [vcase_pos h0, cells_iv, Option.bind_some, if_pos (by simp)]
    dsimp only
    obtain ⟨G, e1, e2, x1, _⟩ := res_store (n := 2) (cs := [.int .i64 c, .int .i64 0]) (HExt.refl (h.nw 0 [.int .i64 0, .int .i64 0] 0)) rfl rfl
    rw [show setAt ([.int .i64 0, .int .i64 0] : List S) 0 [.int .i64 c] = [.int .i64 c, .int .i64 0] from rfl, e1, Option.bind_some, e2, Option.bind_some]
    exact ⟨_, _, _, rfl, .inl ⟨hc, h0, rfl⟩, x1⟩
theorem c_impl_FreeIn {h : H} {v : V} {l : List UInt8} (hv : Bys h v l) : ∃ c n h', call Ev Fn.impl_FreeIn [v] h = some (.agg [.int .i64 c, .int .i64 n], h') ∧ FreeIs l c n ∧ HExt h h' := by
  have x0 := HExt.nw h 0 [.int .i64 0, .int .i64 0] 0
  obtain ⟨c, h1, e, hc, x⟩ := c_impl_PageFault (hv.mono x0)
  rw [eq_impl_FreeIn, nw_zero, e, Option.bind_some, bin_neq, Option.bind_some]
  by_cases h0 : c = 0
  · subst h0
    rw [vcase_neg (by simp), c_freeIn ((hv.mono x0).mono x) hc.ok.1 hc.ok.2.1, Option.bind_some, cells_iv, Option.bind_some, if_pos (by simp)]
    dsimp only
    obtain ⟨G, e1, e2, x1, _⟩ := res_store (n := 2) (cs := [.int .i64 0, .int .i64 (freeTo l (cnt l))]) x rfl rfl
    rw [show setAt ([.int .i64 0, .int .i64 0] : List S) 1 [.int .i64 (freeTo l (cnt l))] = [.int .i64 0, .int .i64 (freeTo l (cnt l))] from rfl, e1, Option.bind_some, e2, Option.bind_some]
    exact ⟨_, _, _, rfl, .inr ⟨hc, rfl, rfl⟩, x1⟩
  · rw [vcase_pos h0, cells_iv, Option.bind_some, if_pos (by simp)]
    dsimp only
    obtain ⟨G, e1, e2, x1, _⟩ := res_store (n := 2) (cs := [.int .i64 c, .int .i64 0]) x rfl rfl
    rw [show setAt ([.int .i64 0, .int .i64 0] : List S) 0 [.int .i64 c] = [.int .i64 c, .int .i64 0] from rfl, e1, Option.bind_some, e2, Option.bind_some]
    exact ⟨_, _, _, rfl, .inl ⟨hc, h0, rfl⟩, x1⟩
end Vm
