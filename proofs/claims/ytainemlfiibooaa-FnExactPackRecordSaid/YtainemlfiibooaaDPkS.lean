/-
  PackRecord: what both ways come to; a record that is marked.
-/
import Derived.Test.YtainemlfiibooaaDPk
set_option linter.unusedVariables false
set_option maxRecDepth 100000
set_option linter.unusedSimpArgs false
set_option linter.unusedSectionVars false
namespace Vm
open Go
theorem frzV_ag4 {h : H} {a b c : Int} {l : List (List S)} : frzV h (.agg [.int .i64 a, .int .i64 b, .int .i64 c, .fs l]) = some (.agg [.int .i64 a, .int .i64 b, .int .i64 c, .fs l]) := by simp
theorem NewC.weak {d n m : Nat} {ys fs : List S} {h : H} (w : NewC d ys fs m h) (hn : n ≤ m) : NewC d ys fs n h := by
  obtain ⟨h1, bs, h2, h3, h4⟩ := w
  exact ⟨by omega, bs, h2, h3, fun b hb => by have := h4 b hb; omega⟩
theorem NewC.lift {d k n : Nat} {ys fs : List S} {h : H} (w : NewC d ys fs n h) (hk : d ≤ k) : NewC k ys fs n h := by
  obtain ⟨h1, bs, h2, h3, h4⟩ := w
  exact ⟨h1, bs, h2.lifts hk, h3, h4⟩
/-- a fault, in a result that stands behind others -/
theorem bad2K {K : H} {n : Nat} {c : Int} (hn : n ≤ K.n) : ∃ h', (stK 2 (K.new 0 [.int .i64 0, .sl none 0]) (pv K.n 0) (.agg [.int .i64 c, .sl none 0]) fun h105 =>
      (loadN 2 h105 (pv K.n 0)).bind fun c106 => some (V.agg c106, h105)) = some (.agg [.int .i64 c, .sl none 0], h') ∧ NewC 4 [.int .i64 c, .sl none 0] [.int .i64 c, .fs []] n h' := by
  rw [st2_new, loadN_2 (by simp) (by exact g_st), Vm.ob]
  refine ⟨_, rfl, by simp; omega, [], ?_, by simp, by simp⟩
  exact RepL.cons (bs := []) (Rep.sc trivial) (RepL.cons (bs := []) Rep.nil .nil)
/-- a value of a call put into a result that stands behind others -/
theorem fin2K {g n d : Nat} {xs : List V} {y f : S} {h1 K : H} {off : Bool} (hn : n ≤ K.n) (hc : call Ev g xs (D (K.n + 1)) = some (.s y, h1)) (hle : K.n + 1 ≤ h1.n) (w : OwnF d y f (K.n + 1) h1.n h1) :
    ∃ h', (pcallF (call Ev) g off xs (K.new 0 [.int .i64 0, .sl none 0]) fun v110 h111 =>
      cellsK v110 fun c112 =>
      if c112.length = 1 ∧ 1 + 1 ≤ ([.int .i64 0, .sl none 0] : List S).length then
      ((setAt ([.int .i64 0, .sl none 0] : List S) 1 c112)[0]?).bind fun x113 =>
      gI .i64 x113 fun i114 =>
      ((setAt ([.int .i64 0, .sl none 0] : List S) 1 c112)[1]?).bind fun x115 =>
      if (setAt ([.int .i64 0, .sl none 0] : List S) 1 c112).length = 2 then
      stK 2 h111 (pv K.n 0) (.agg [.int .i64 i114, x115]) fun h116 =>
      (loadN 2 h116 (pv K.n 0)).bind fun c117 =>
      some (V.agg c117, h116)
      else none
      else none) = some (.agg [.int .i64 0, y], h') ∧ NewC d [.int .i64 0, y] [.int .i64 0, f] n h' := by
  obtain ⟨L, e, u, hL, w'⟩ := pV (h := K.new 0 [.int .i64 0, .sl none 0]) (off := off) (n := K.n + 1) (by simp) hc hle w
  have hy : isNo y = false := by obtain ⟨bs, w1, _⟩ := w; exact w1.isNo
  rw [e, cells2 hy]
  obtain ⟨h', e2, w2⟩ := fin2S (n := K.n) (K := L) (c := 0) (by omega) (by rw [u.g K.n (by simp)]; exact new_g K _ _) w'.now
  exact ⟨h', e2, w2.weak hn⟩
def pkL (r : RecD) : List UInt8 := if recF r = 0 then pk r else []
theorem pkL_len {r : RecD} (hr : r.sm) : (pkL r).length ≤ 2097159 := by
  have := hr.n
  have := hr.s
  unfold pkL
  split
  · rw [pk_len]; omega
  · simp
theorem p_spec_PackRecord {r : RecD} (hr : r.sm) (hl : r.rs.length ≤ maxLen) : pureV (call Ev) Fn.spec_PackRecord [.agg r.cs] = some (.agg [.int .i64 (recF r), .fs (bys (pkL r))]) := by
  rw [pu_spec_PackRecord, pc (p_l4Fault r hl) rfl]
  simp only [gV1_s, gI_i, vcase_b]
  unfold pkL
  by_cases hc : recF r = 0
  case neg => rw [if_pos (by simpa using hc), if_neg hc]; rfl
  rw [if_neg (by simp [hc]), if_pos hc, hc]
  obtain ⟨y, h1, e1, n1, w1⟩ := f_l4Pack hr 2
  obtain ⟨K, e, u, hK, w'⟩ := pV (h := ((D 0).new 0 r.cs).new 0 [.int .i64 0, .sl none 0]) (off := false) (n := 2) (by simp) e1 n1 w1
  have hy : isNo y = false := by obtain ⟨bs, w1, _⟩ := w1; exact w1.isNo
  rw [e, cells2 hy]
  rw [stK_rw (z := 2) (e := 0) (o := 0) (b := 1) (cs := [.int .i64 0, .sl none 0]) (r := [.int .i64 0, y]) (by omega) (by rw [u.g 1 (by simp)]; exact new_g ((D 0).new 0 r.cs) _ _) (.inr rfl) rfl (by simp)]
  rw [show setAt [.int .i64 0, .sl none 0] 0 [.int .i64 0, y] = [.int .i64 0, y] from rfl]
  rw [loadN_2 (b := 1) (e := 0) (by rw [put_n]; omega) (put_g _ _ _), ob]
  obtain ⟨bs, w2, _, w3⟩ := w'.now
  have w4 : Rep (K.put 1 (.rw 0 [.int .i64 0, y])) 4 y (.fs (bys (pk r))) bs := w2.frame fun b hb => by
    have := w3 b hb
    exact ⟨by rw [put_n]; omega, put_g' (by omega)⟩
  have := w4.frz (k := 8) (by omega)
  simp [this]
theorem f_PackRecord {r : RecD} (hr : r.sm) (hl : r.rs.length ≤ maxLen) (n : Nat) : ∃ y h', call Ev Fn.impl_PackRecord [.agg r.cs] (D n) = some (.agg [.int .i64 (recF r), y], h') ∧ NewC 4 [.int .i64 (recF r), y] [.int .i64 (recF r), .fs (bys (pkL r))] n h' := by
  rw [eq_impl_PackRecord]
  have g0 : (((D n).new 0 r.cs).new 0 [.int .i64 0, .sl none 0]).g n = .rw 0 r.cs := by rw [new_g' (by simp)]; exact new_g (D n) _ _
  have l0 := loadN_4 (h := ((D n).new 0 r.cs).new 0 [.int .i64 0, .sl none 0]) (b := n) (by simp; omega) g0
  rw [D_n, l0]
  simp only [ob, gx0, gx1, gI_i]
  rw [if_pos (show ([_, _, _, _] : List S).length = 4 from rfl), frzVs_cons frzV_ag4 frzVs_nil, ob, norm_nil, pc (p_RecordFault r hl) rfl]
  simp only [gV1_s, gI_i, vcase_b]
  unfold pkL
  have kn : ((D n).new 0 r.cs).n = n + 1 := by simp
  by_cases hc : recF r = 0
  case neg =>
    obtain ⟨h', e1, w1⟩ := bad2K (K := (D n).new 0 r.cs) (n := n) (c := recF r) (by rw [kn]; omega)
    rw [if_pos (by simpa using hc), if_neg hc, e1]
    exact ⟨_, h', rfl, w1⟩
  rw [if_neg (by simp [hc]), if_pos hc, hc]
  rw [if_pos (show ([_, _, _, _] : List S).length = 4 from rfl), ob, norm_nil]
  obtain ⟨y, h1, e1, n1, w1, _⟩ := f_packed hr (n + 2)
  obtain ⟨h', e2, w2⟩ := fin2K (K := (D n).new 0 r.cs) (n := n) (off := [V.agg r.cs].all offV) (by rw [kn]; omega) (by rw [kn]; exact e1) (by rw [kn]; exact n1) (by rw [kn]; exact w1)
  rw [e2]
  exact ⟨y, h', rfl, w2⟩
/-- a marked record -/
theorem r_markRec {h : H} {a b c : Int} {y : S} {rs : List RunD} {lo hi k : Nat} (w : Sep (OwnC 4 [.int .i64 a, .int .i64 b, .int .i64 c, y] [.int .i64 a, .int .i64 b, .int .i64 c, .fs (runs rs)] lo hi) lo hi h) (hl : k + rsz rs < 2 ^ 62) :
    ∃ p, call Ev Fn.laws_markRecord [.agg [.int .i64 a, .int .i64 b, .int .i64 c, y], iv .i64 k] h = some (iv .i64 ((k + rsz rs : Nat) : Int), p) ∧ Sep (OwnC 4 [.int .i64 a, .int .i64 b, .int .i64 c, y] [.int .i64 a, .int .i64 b, .int .i64 c, .fs (runs (mkRs k rs))] lo hi) lo hi (tidy h [iv .i64 ((k + rsz rs : Nat) : Int)] p) ∧ ButR lo hi h (tidy h [iv .i64 ((k + rsz rs : Nat) : Int)] p) := by
  obtain ⟨bs, w1, w2, w3⟩ := OwnC.f (pre := [.int .i64 a, .int .i64 b, .int .i64 c]) sc3 w.now
  have ht := w.top
  rw [eq_laws_markRecord]
  have l1 : load1 (h.new 0 [.int .i64 a, .int .i64 b, .int .i64 c, y]) (pv h.n 3) = some y := by simp [load1, H.cells, Blk.cells]
  rw [l1, Vm.ob]
  have w1' : Rep (h.new 0 [.int .i64 a, .int .i64 b, .int .i64 c, y]) 4 y (.fs (runs rs)) bs := w1.frame fun b hb => ⟨by have := w1.lt b hb; simp; omega, new_g' (by have := w1.lt b hb; omega)⟩
  obtain ⟨p, e1, r1, n1, o1⟩ := w1'.markRs (k := k) w2 hl
  rw [e1, Vm.ob]
  simp only [gV1_s, gI_i]
  have t1 : tidy (h.new 0 [.int .i64 a, .int .i64 b, .int .i64 c, y]) [iv .i64 ((k + rsz rs : Nat) : Int)] p = p := tidy_same n1 fun d hd => o1 d fun hh => by have := w3 d hh; simp at hd; omega
  rw [t1]
  exact ⟨p, rfl, markC (pre := [.int .i64 a, .int .i64 b, .int .i64 c]) sc3 w3 w2 ht r1 (by rw [n1]; simp) (fun d hd hdn => by
    have := o1 d hd
    refine ⟨this.1.trans (new_g' (by omega)), this.2.trans ?_⟩
    simp [H.new, show d ≠ h.n by omega]) (fun hh => by rw [n1] at hh; simp at hh)⟩
end Vm
