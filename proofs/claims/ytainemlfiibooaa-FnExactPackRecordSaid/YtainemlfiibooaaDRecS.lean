/-
  Records as arguments.
-/
import Derived.Test.YtainemlfiibooaaDRec
import Derived.Test.YtainemlfiibooaaDRuS
set_option linter.unusedVariables false
set_option maxRecDepth 100000
set_option linter.unusedSimpArgs false
set_option linter.unusedSectionVars false
namespace Vm
open Go
theorem loadN_4 {e b : Nat} {h : H} {x y z u : S} (hb : b < h.n) (hg : h.g b = .rw e [x, y, z, u]) : loadN 4 h (pv b 0) = some [x, y, z, u] := loadN_rw hb hg (by simp)
theorem st4_new {R : Type} {h : H} {x y z u a b c d : S} {k : H → Option R} : stK 4 (h.new 0 [a, b, c, d]) (pv h.n 0) (.agg [x, y, z, u]) k = k ((h.new 0 [a, b, c, d]).put h.n (.rw 0 [x, y, z, u])) :=
  stK_rw (z := 4) (e := 0) (o := 0) (b := h.n) (cs := [a, b, c, d]) (r := [x, y, z, u]) (by simp) (new_g _ _ _) (.inr rfl) rfl (by simp)
theorem sc3 {a b c : Int} : ∀ s ∈ [S.int .i64 a, .int .i64 b, .int .i64 c], Sc s := by
  intro s hs
  simp only [List.mem_cons, List.not_mem_nil, or_false] at hs
  rcases hs with rfl | rfl | rfl <;> trivial
theorem f_toRecord (r : RecD) (hl : r.rs.length ≤ lim) (hr : ∀ x ∈ r.rs, x.l.length ≤ lim) (n : Nat) : ∃ y h', call Ev Fn.laws_toRecord [.agg r.cs] (D n) = some (.agg [.int .i64 r.kind, .int .i64 r.tx, .int .i64 r.page, y], h') ∧ NewC 4 [.int .i64 r.kind, .int .i64 r.tx, .int .i64 r.page, y] r.cs n h' ∧ belS n y = false := by
  obtain ⟨k, t, p, rs⟩ := r
  rw [eq_laws_toRecord]
  generalize hG : (((D n).new 0 [.int .i64 k, .int .i64 t, .int .i64 p, .fs (runs rs)]).new 0 [.int .i64 0, .int .i64 0, .int .i64 0, .sl none 0]).new 0 [.int .i64 0, .int .i64 0, .int .i64 0, .sl none 0] = G
  have gn : G.n = n + 3 := by rw [← hG]; simp
  have g0 : G.g n = .rw 0 [.int .i64 k, .int .i64 t, .int .i64 p, .fs (runs rs)] := by rw [← hG, new_g' (by simp; omega), new_g' (by simp)]; exact new_g (D n) _ _
  have g1 : G.g (n + 1) = .rw 0 [.int .i64 0, .int .i64 0, .int .i64 0, .sl none 0] := by rw [← hG, new_g' (by simp)]; exact new_g ((D n).new 0 [.int .i64 k, .int .i64 t, .int .i64 p, .fs (runs rs)]) _ _
  have g2 : G.g (n + 2) = .rw 0 [.int .i64 0, .int .i64 0, .int .i64 0, .sl none 0] := by rw [← hG]; exact new_g (((D n).new 0 [.int .i64 k, .int .i64 t, .int .i64 p, .fs (runs rs)]).new 0 [.int .i64 0, .int .i64 0, .int .i64 0, .sl none 0]) _ _
  clear hG
  have ld : ∀ {h : H} {b o e : Nat} {X : List S}, b < h.n → h.g b = .rw e X → load1 h (pv b o) = X[o]? := fun hb hg => by simp [load1, H.cells, hb, hg, Blk.cells]
  simp only [new_n, D_n]
  rw [ld (by omega) g0]
  simp only [gx0, ob, gI_i]
  rw [stK_rw (z := 1) (e := 0) (o := 0) (b := n + 1 + 1) (cs := [.int .i64 0, .int .i64 0, .int .i64 0, .sl none 0]) (r := [.int .i64 k]) (by omega) g2 (.inl ⟨_, rfl, rfl, rfl⟩) rfl (by simp)]
  rw [show setAt [.int .i64 0, .int .i64 0, .int .i64 0, .sl none 0] 0 [.int .i64 k] = [.int .i64 k, .int .i64 0, .int .i64 0, .sl none 0] from rfl]
  rw [ld (b := n) (by rw [put_n]; omega) (by rw [put_g' (by omega)]; exact g0)]
  simp only [gx0, gx1, ob, gI_i]
  rw [stK_rw (z := 1) (e := 0) (o := 1) (b := n + 1 + 1) (cs := [.int .i64 k, .int .i64 0, .int .i64 0, .sl none 0]) (r := [.int .i64 t]) (by rw [put_n]; omega) (put_g _ _ _) (.inl ⟨_, rfl, rfl, rfl⟩) rfl (by simp)]
  rw [show setAt [.int .i64 k, .int .i64 0, .int .i64 0, .sl none 0] 1 [.int .i64 t] = [.int .i64 k, .int .i64 t, .int .i64 0, .sl none 0] from rfl]
  rw [ld (b := n) (by rw [put_n, put_n]; omega) (by rw [put_g' (by omega), put_g' (by omega)]; exact g0)]
  simp only [gx0, gx1, ob, gI_i]
  rw [stK_rw (z := 1) (e := 0) (o := 2) (b := n + 1 + 1) (cs := [.int .i64 k, .int .i64 t, .int .i64 0, .sl none 0]) (r := [.int .i64 p]) (by rw [put_n, put_n]; omega) (put_g _ _ _) (.inl ⟨_, rfl, rfl, rfl⟩) rfl (by simp)]
  rw [show setAt [.int .i64 k, .int .i64 t, .int .i64 0, .sl none 0] 2 [.int .i64 p] = [.int .i64 k, .int .i64 t, .int .i64 p, .sl none 0] from rfl]
  generalize hK : ((G.put (n + 1 + 1) (.rw 0 [.int .i64 k, .int .i64 0, .int .i64 0, .sl none 0])).put (n + 1 + 1) (.rw 0 [.int .i64 k, .int .i64 t, .int .i64 0, .sl none 0])).put (n + 1 + 1) (.rw 0 [.int .i64 k, .int .i64 t, .int .i64 p, .sl none 0]) = K
  have kn : K.n = n + 3 := by rw [← hK, put_n, put_n, put_n, gn]
  have k0 : K.g n = .rw 0 [.int .i64 k, .int .i64 t, .int .i64 p, .fs (runs rs)] := by rw [← hK, put_g' (by omega), put_g' (by omega), put_g' (by omega)]; exact g0
  have k1 : K.g (n + 1) = .rw 0 [.int .i64 0, .int .i64 0, .int .i64 0, .sl none 0] := by rw [← hK, put_g' (by omega), put_g' (by omega), put_g' (by omega)]; exact g1
  have k2 : K.g (n + 2) = .rw 0 [.int .i64 k, .int .i64 t, .int .i64 p, .sl none 0] := by rw [← hK]; exact put_g _ _ _
  clear hK g0 g1 g2 gn
  rw [ld (by omega) k0]
  simp only [gx0, gx1, ob]
  rw [show frzVs K [.s (.fs (runs rs))] = some [lv (runs rs)] from frzVs_cons frzV_lv frzVs_nil, ob, norm_nil]
  obtain ⟨v, h1, e1, w1, b1⟩ := f_toRunS hl hr K.n
  obtain ⟨M, e2, u, mn, y, rfl, wo⟩ : ∃ h', (∀ (R : Type) (k : V → H → Option R), pcallF (call Ev) Fn.laws_toRunS ([V.s (.fs (runs rs))].all offV) [lv (runs rs)] K k = k v h') ∧ Up K h' ∧ K.n ≤ h'.n ∧ ∃ y, v = .s y ∧ OwnF 4 y (.fs (runs rs)) K.n h'.n h' := by
    obtain ⟨h', e, u, hn, w⟩ := OwnRs.pv (off := [V.s (.fs (runs rs))].all offV) rfl e1 w1
    obtain ⟨y, hy, w⟩ := w.now
    exact ⟨h', e, u, hn, y, hy, w⟩
  rw [e2]
  have u1 := (u.g (n + 1) (by omega)).trans k1
  have u2 := (u.g (n + 2) (by omega)).trans k2
  obtain ⟨bs, w2, w3, w4⟩ := wo
  rw [stK_rw (z := 1) (e := 0) (o := 3) (b := n + 1 + 1) (cs := [.int .i64 k, .int .i64 t, .int .i64 p, .sl none 0]) (r := [y]) (by omega) u2 (.inl ⟨_, rfl, rfl, w2.isNo⟩) rfl (by simp)]
  rw [show setAt [.int .i64 k, .int .i64 t, .int .i64 p, .sl none 0] 3 [y] = [.int .i64 k, .int .i64 t, .int .i64 p, y] from rfl]
  rw [loadN_4 (b := n + 1 + 1) (e := 0) (by rw [put_n]; omega) (put_g _ _ _)]
  simp only [gx0, gx1, ob, gI_i, ln0, ln1, Nat.zero_add, Nat.reduceAdd, if_true]
  rw [stK_rw (z := 4) (e := 0) (o := 0) (b := n + 1) (cs := [.int .i64 0, .int .i64 0, .int .i64 0, .sl none 0]) (r := [.int .i64 k, .int .i64 t, .int .i64 p, y]) (by rw [put_n]; omega) (by rw [put_g' (by omega)]; exact u1) (.inr rfl) rfl (by simp)]
  rw [show setAt [.int .i64 0, .int .i64 0, .int .i64 0, .sl none 0] 0 [.int .i64 k, .int .i64 t, .int .i64 p, y] = [.int .i64 k, .int .i64 t, .int .i64 p, y] from rfl]
  rw [loadN_4 (b := n + 1) (e := 0) (by rw [put_n, put_n]; omega) (put_g _ _ _), ob]
  have hb : belS n y = false := by
    rw [Bool.eq_false_iff]
    intro hh
    have : belV K.n (.s y) = true := bel_mono (by omega) hh
    rw [b1] at this; cases this
  refine ⟨y, _, rfl, ⟨by rw [put_n, put_n]; omega, ?_⟩, hb⟩
  refine OwnF.c (pre := [.int .i64 k, .int .i64 t, .int .i64 p]) sc3 ⟨bs, w2.frame fun c hc => ?_, w3, fun c hc => ?_⟩
  · have := w4 c hc
    exact ⟨by rw [put_n, put_n]; omega, by rw [put_g' (by omega), put_g' (by omega)]⟩
  · have := w4 c hc
    rw [put_n, put_n]; omega
theorem p_toRecord (r : RecD) (hl : r.rs.length ≤ lim) (hr : ∀ x ∈ r.rs, x.l.length ≤ lim) : pureV (call Ev) Fn.laws_toRecord [.agg r.cs] = some (.agg r.cs) := by
  obtain ⟨y, h', e, w, _⟩ := f_toRecord r hl hr 0
  exact NewC.p (by omega) e w
end Vm
