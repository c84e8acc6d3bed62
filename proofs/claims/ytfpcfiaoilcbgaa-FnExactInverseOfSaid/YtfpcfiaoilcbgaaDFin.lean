/-
  Results of a code and one value, as they are made at the end of a function.
-/
import Derived.Test.YtfpcfiaoilcbgaaDRep2
set_option linter.unusedVariables false
set_option maxRecDepth 100000
set_option linter.unusedSimpArgs false
set_option linter.unusedSectionVars false
namespace Vm
open Go
theorem sc1 {k : IntKind} {c : Int} : ∀ s ∈ [S.int k c], Sc s := by intro s hs; rw [List.mem_singleton.1 hs]; trivial
/-- a fault -/
theorem bad2C (n : Nat) (c : Int) : ∃ h', (stK 2 ((D n).new 0 [.int .i64 0, .sl none 0]) (pv ((D n).n) 0) (.agg [.int .i64 c, .sl none 0]) fun h105 =>
      (loadN 2 h105 (pv ((D n).n) 0)).bind fun c106 => some (V.agg c106, h105)) = some (.agg [.int .i64 c, .sl none 0], h') ∧ NewC 4 [.int .i64 c, .sl none 0] [.int .i64 c, .fs []] n h' := by
  rw [st2_new, loadN_2 (by simp) (by exact g_st), Vm.ob]
  refine ⟨_, rfl, by simp, [], ?_, by simp, by simp⟩
  exact RepL.cons (bs := []) (Rep.sc trivial) (RepL.cons (bs := []) Rep.nil .nil)
/-- a value put into a result that stands in block n -/
theorem fin2S {n d : Nat} {K : H} {y f : S} (hn : n < K.n) (g : K.g n = .rw 0 [.int .i64 0, .sl none 0]) (w : OwnF d y f (n + 1) K.n K) {c : Int} :
    ∃ h', (stK 2 K (pv n 0) (.agg [.int .i64 c, y]) fun h116 => (loadN 2 h116 (pv n 0)).bind fun c117 => some (V.agg c117, h116)) = some (.agg [.int .i64 c, y], h') ∧ NewC d [.int .i64 c, y] [.int .i64 c, f] n h' := by
  rw [stK_rw (z := 2) (e := 0) (o := 0) (b := n) (cs := [.int .i64 0, .sl none 0]) (r := [.int .i64 c, y]) hn g (.inr rfl) rfl (by simp)]
  rw [show setAt [.int .i64 0, .sl none 0] 0 [.int .i64 c, y] = [.int .i64 c, y] from rfl]
  rw [loadN_2 (b := n) (e := 0) (by rw [put_n]; omega) (put_g _ _ _), ob]
  obtain ⟨bs, w1, w2, w3⟩ := w
  refine ⟨_, rfl, by rw [put_n]; omega, ?_⟩
  refine OwnF.c (pre := [.int .i64 c]) sc1 ⟨bs, w1.frame fun b hb => ?_, w2, fun b hb => ?_⟩
  · have := w3 b hb
    exact ⟨by rw [put_n]; omega, put_g' (by omega)⟩
  · have := w3 b hb
    rw [put_n]; omega
theorem cells2 {R : Type} {y : S} (hy : isNo y = false) {k : Int → S → Option R} :
    (cellsK (.s y) fun c112 =>
      if c112.length = 1 ∧ 1 + 1 ≤ ([.int .i64 0, .sl none 0] : List S).length then
      ((setAt ([.int .i64 0, .sl none 0] : List S) 1 c112)[0]?).bind fun x113 =>
      gI .i64 x113 fun i114 =>
      ((setAt ([.int .i64 0, .sl none 0] : List S) 1 c112)[1]?).bind fun x115 =>
      if (setAt ([.int .i64 0, .sl none 0] : List S) 1 c112).length = 2 then k i114 x115 else none else none) = k 0 y := by
  simp only [cellsK, hy, cond_false, ln0, ln1, Nat.zero_add, Nat.reduceAdd, Nat.le_refl, and_self, if_true]
  rw [show setAt [.int .i64 0, .sl none 0] 1 [y] = [.int .i64 0, y] from rfl]
  simp only [gx0, gx1, ob, gI_i, ln0, ln1, Nat.zero_add, Nat.reduceAdd, if_true]
theorem fin2 {g n d : Nat} {xs : List V} {y f : S} {h1 : H} {off : Bool} (hc : call Ev g xs (D (n + 1)) = some (.s y, h1)) (hle : n + 1 ≤ h1.n) (w : OwnF d y f (n + 1) h1.n h1) :
    ∃ h', (pcallF (call Ev) g off xs ((D n).new 0 [.int .i64 0, .sl none 0]) fun v110 h111 =>
      cellsK v110 fun c112 =>
      if c112.length = 1 ∧ 1 + 1 ≤ ([.int .i64 0, .sl none 0] : List S).length then
      ((setAt ([.int .i64 0, .sl none 0] : List S) 1 c112)[0]?).bind fun x113 =>
      gI .i64 x113 fun i114 =>
      ((setAt ([.int .i64 0, .sl none 0] : List S) 1 c112)[1]?).bind fun x115 =>
      if (setAt ([.int .i64 0, .sl none 0] : List S) 1 c112).length = 2 then
      stK 2 h111 (pv ((D n).n) 0) (.agg [.int .i64 i114, x115]) fun h116 =>
      (loadN 2 h116 (pv ((D n).n) 0)).bind fun c117 =>
      some (V.agg c117, h116)
      else none
      else none) = some (.agg [.int .i64 0, y], h') ∧ NewC d [.int .i64 0, y] [.int .i64 0, f] n h' := by
  obtain ⟨K, e, u, hn, w'⟩ := pV (h := (D n).new 0 [.int .i64 0, .sl none 0]) (off := off) (n := n + 1) (by simp) hc hle w
  have hy : isNo y = false := by obtain ⟨bs, w1, _⟩ := w; exact w1.isNo
  rw [e]
  rw [cells2 hy]
  exact fin2S (K := K) (by omega) (by rw [u.g n (by simp)]; exact new_g (D n) _ _) w'.now
end Vm
