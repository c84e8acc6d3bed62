/-
  What both ways of the law come to, and that the law returns true.
-/
import Derived.Test.YtfpcfiaoilcbgaaEqs
import Derived.Test.YtfpcfiaoilcbgaaDl
import Derived.Test.YtfpcfiaoilcbgaaTyp
import Derived.Test.YtfpcfiaoilcbgaaDataFnDiffs1
set_option linter.unusedVariables false
set_option maxRecDepth 100000
set_option linter.unusedSimpArgs false
set_option linter.unusedSectionVars false
/-
  Runs: their fault, their size, a comparison.
-/
namespace Vm
open Go

structure RunD where
  at_ : Int
  l : List UInt8
abbrev RunD.cs (r : RunD) : List S := [.int .i64 r.at_, .fs (bys r.l)]
def runs (rs : List RunD) : List (List S) := rs.map RunD.cs
@[simp] theorem runs_len (rs : List RunD) : (runs rs).length = rs.length := by simp [runs]
theorem runs_row {rs : List RunD} : ∀ r ∈ runs rs, r.length = 2 := by
  intro r hr
  obtain ⟨c, _, rfl⟩ := List.mem_map.1 hr
  rfl
theorem runs_cl {rs : List RunD} : ∀ r ∈ runs rs, ∀ s ∈ r, Cl s := by
  intro r hr s hs
  obtain ⟨c, _, rfl⟩ := List.mem_map.1 hr
  rcases List.mem_cons.1 hs with rfl | hs
  · exact cl_i
  · rw [List.mem_singleton.1 hs]; exact cl_f
theorem runs_get {rs : List RunD} {i : Nat} {r : RunD} (h : rs[i]? = some r) : (runs rs)[i]? = some r.cs := by simp [runs, h]
section
variable {R : Type}
theorem idxF_run {rs : List RunD} {i : Nat} {r : RunD} {k : List S → Option R} (h : rs[i]? = some r) : idxF 2 (runs rs) (i : Int) k = k r.cs := idxF_at (runs_get h) rfl
end
theorem rowN_run {r : RunD} : rowN 2 r.cs 0 = some r.cs := rowN_all rfl
structure RunD.ok (r : RunD) : Prop where
  a1 : -9223372036854775808 ≤ r.at_
  a2 : r.at_ < 9223372036854775808
  n : r.l.length ≤ maxLen
/-! size -/
/-- what is left of a number of cells, or -1 -/
def szL (n : Int) (left : Int) : Int := if n ≤ left then left - n else -1
def szRuns : List RunD → Int → Int
  | [], left => left
  | r :: rs, left => if (r.l.length : Int) ≤ left then szRuns rs (left - r.l.length) else -1
theorem szRuns_le : ∀ (rs : List RunD) (left : Int), 0 ≤ left → szRuns rs left ≤ left ∧ -1 ≤ szRuns rs left
  | [], left, h => ⟨Int.le_refl _, by simp only [szRuns]; omega⟩
  | r :: rs, left, h => by
    simp only [szRuns]
    split
    · have := szRuns_le rs (left - r.l.length) (by omega); omega
    · omega
theorem szRuns_all : ∀ (rs : List RunD) (left : Int), 0 ≤ szRuns rs left → ∀ r ∈ rs, (r.l.length : Int) ≤ left
  | [], left, h => by simp
  | r :: rs, left, h => by
    simp only [szRuns] at h
    split at h
    · intro x hx
      rcases List.mem_cons.1 hx with rfl | hx
      · assumption
      · have := szRuns_all rs _ h x hx; omega
    · omega
theorem p_szByteS {l : List UInt8} {left : Int} (h1 : 0 ≤ left) (h2 : left < 9223372036854775808) (hl : l.length ≤ maxLen) : pureV (call Ev) Fn.laws_szByteS [lv (bys l), iv .i64 left] = some (iv .i64 (szL l.length left)) := by
  unfold maxLen at hl
  rw [pu_laws_szByteS, vcase_b, bys_len, w64 (by omega) (by omega)]
  unfold szL
  simp only [decide_eq_true_eq]
  split <;> split <;> first | rfl | omega
/-! a comparison -/
/-! the fault -/
def runsG : Int → List RunD → Int
  | _, [] => 0
  | least, r :: rs => if inB r.at_ 0 63 && inB r.l.length 1 64 && decide (r.at_ + r.l.length ≤ 64) then (if r.at_ < least then 1 else runsG (r.at_ + r.l.length + 1) rs) else 3
def runsF (rs : List RunD) : Int := if 64 < rs.length then 2 else runsG 0 rs
theorem p_RunsFault {all : List RunD} (hl : all.length ≤ maxLen) : pureV (call Ev) Fn.impl_RunsFault [lv (runs all)] = some (iv .i64 (runsF all)) := by
  unfold maxLen at hl
  have loop : ∀ (rs : List RunD) (i : Nat) (q : Int), all.drop i = rs →
      (Lp.impl_RunsFault 0 [iv .i64 q, lv (runs all), iv .i64 all.length, iv .i64 i] (D 0)).bind (fun o102 => lcase o102 (fun l103 h104 => some (iv .i64 0)) (fun v105 h106 => frzV h106 v105)) = some (iv .i64 (runsG q rs)) := by
    intro rs
    induction rs with
    | nil =>
      intro i q hi
      have := drop_nil hi
      rw [eq_impl_RunsFault_l0, vcase_b, if_neg (by simp; omega), tidy_self]
      simp [runsG]
    | cons r rs ih =>
      intro i q hi
      obtain ⟨g1, g2, g3⟩ := drop_cons hi
      rw [eq_impl_RunsFault_l0, vcase_b, if_pos (by simp; omega), idxF_run g1, rowN_run]
      simp only [ob, gx0, gx1, gI_i, gF_f, ln0, ln1, Nat.zero_add, Nat.reduceAdd, if_true]
      rw [stK_rw (z := 2) (e := 0) (o := 0) (b := (D 0).n) (cs := [.int .i64 0, .sl none 0]) (r := r.cs) (by simp) (new_g _ _ _) (.inr rfl) rfl (by simp)]
      have l0 : ∀ {X : List S}, load1 (((D 0).new 0 [.int .i64 0, .sl none 0]).put (D 0).n (.rw 0 X)) (pv (D 0).n 0) = X[0]? := fun {X} => by simp [load1, H.cells, Blk.cells]
      have l1 : ∀ {X : List S}, load1 (((D 0).new 0 [.int .i64 0, .sl none 0]).put (D 0).n (.rw 0 X)) (pv (D 0).n 1) = X[1]? := fun {X} => by simp [load1, H.cells, Blk.cells]
      have se : setAt [.int .i64 0, .sl none 0] 0 r.cs = r.cs := id rfl
      rw [se]
      simp only [l0, l1, gx0, gx1, ob, lenV, gV1_s, gI_i, bys_len]
      rw [pc (p_in _ _ _) rfl]
      simp only [gV1_s, gB_b, vcase_b]
      unfold runsG
      cases hA : inB r.at_ 0 63
      · simp
      simp only [Bool.not_true, Bool.false_eq_true, if_false, Bool.true_and]
      rw [pc (p_in _ _ _) rfl]
      simp only [gV1_s, gB_b, vcase_b]
      cases hB : inB r.l.length 1 64
      · simp
      simp only [Bool.not_true, Bool.false_eq_true, if_false, Bool.true_and]
      have hA' := inB_iff.1 hA
      have hB' := inB_iff.1 hB
      rw [w64 (n := r.at_ + (r.l.length : Int)) (by omega) (by omega)]
      by_cases h64 : r.at_ + (r.l.length : Int) ≤ 64
      case neg => rw [if_pos (by simp; omega)]; simp [h64]
      rw [if_neg (by simp; omega)]
      by_cases hq : r.at_ < q
      · rw [if_pos (by simpa using hq)]; simp [h64, hq]
      rw [if_neg (by simpa using hq), w64 (by omega) (by omega), w64 (by omega) (by omega), tidy_ext ((HKeep.refl _).new.put (by simp)) (by simp [belV, belS]), show (i : Int) + 1 = ((i + 1 : Nat) : Int) from by omega, ih (i + 1) _ g2]
      simp [h64, hq]
  rw [pu_impl_RunsFault, vcase_b, runs_len]
  unfold runsF
  by_cases h64 : 64 < all.length
  · rw [if_pos (by simp; omega), if_pos h64]
  · rw [if_neg (by simp; omega), if_neg h64]
    exact loop all 0 0 rfl
theorem p_l3Fault {all : List RunD} (hl : all.length ≤ maxLen) : pureV (call Ev) Fn.spec_l3Fault [lv (runs all)] = some (iv .i64 (runsF all)) := by
  unfold maxLen at hl
  have loop : ∀ (rs : List RunD) (i : Nat) (q : Int), all.drop i = rs → (i = 0 ∧ q = 0 ∨ 0 < i ∧ ∃ p : RunD, all[i - 1]? = some p ∧ q = p.at_ + p.l.length + 1 ∧ 0 ≤ p.at_ ∧ p.at_ + p.l.length ≤ 64) →
      (Lp.spec_l3Fault 0 [lv (runs all), iv .i64 i] (D 0)).bind (fun o102 => lcase o102 (fun l103 h104 => some (iv .i64 0)) (fun v105 h106 => frzV h106 v105)) = some (iv .i64 (runsG q rs)) := by
    intro rs
    induction rs with
    | nil =>
      intro i q hi _
      have := drop_nil hi
      rw [eq_spec_l3Fault_l0, vcase_b, if_neg (by simp; omega), tidy_self]
      simp [runsG]
    | cons r rs ih =>
      intro i q hi hprev
      obtain ⟨g1, g2, g3⟩ := drop_cons hi
      rw [eq_spec_l3Fault_l0, vcase_b, if_pos (by simp; omega), idxF_run g1]
      simp only [gx0, gx1, ob, gI_i, gF_f, bys_len]
      rw [idxF_run g1]
      simp only [gx0, gx1, ob, gI_i, gF_f, bys_len]
      rw [pc (p_l1In _ _ _) rfl]
      simp only [gV1_s, gB_b, vcase_b]
      unfold runsG
      cases hA : inB r.at_ 0 63
      · simp
      simp only [Bool.not_true, Bool.false_eq_true, if_false, Bool.true_and]
      rw [pc (p_l1In _ _ _) rfl]
      simp only [gV1_s, gB_b, vcase_b]
      cases hB : inB r.l.length 1 64
      · simp
      simp only [Bool.not_true, Bool.false_eq_true, if_false, Bool.true_and]
      have hA' := inB_iff.1 hA
      have hB' := inB_iff.1 hB
      rw [idxF_run g1]
      simp only [gx0, gx1, ob, gI_i, gF_f, bys_len]
      rw [w64 (n := r.at_ + (r.l.length : Int)) (by omega) (by omega)]
      by_cases h64 : r.at_ + (r.l.length : Int) ≤ 64
      case neg => rw [if_pos (by simp; omega)]; simp [h64]
      rw [if_neg (by simp; omega)]
      have hnext := ih (i + 1) (r.at_ + r.l.length + 1) g2 (.inr ⟨by omega, r, by simpa using g1, rfl, hA'.1, h64⟩)
      rw [w64 (n := (i : Int) + 1) (by omega) (by omega), tidy_self, show (i : Int) + 1 = ((i + 1 : Nat) : Int) from by omega]
      rcases hprev with ⟨rfl, rfl⟩ | ⟨hpos, p, g4, rfl, p1, p2⟩
      · rw [if_neg (by simp), hnext]
        simp [h64, show ¬ r.at_ < 0 by omega]
      · rw [if_pos (by simp; omega), w64 (n := (i : Int) - 1) (by omega) (by omega), idxF_run g1, show (i : Int) - 1 = ((i - 1 : Nat) : Int) from by omega]
        simp only [gx0, gx1, ob, gI_i, gF_f, bys_len]
        rw [idxF_run g4]
        simp only [gx0, gx1, ob, gI_i, gF_f, bys_len]
        rw [idxF_run g4]
        simp only [gx0, gx1, ob, gI_i, gF_f, bys_len]
        rw [w64 (by omega) (by omega)]
        by_cases hq : r.at_ ≤ p.at_ + p.l.length
        · rw [if_pos (by simpa using hq)]; simp [h64, show r.at_ < p.at_ + p.l.length + 1 by omega]
        · rw [if_neg (by simpa using hq), hnext]; simp [h64, show ¬ r.at_ < p.at_ + p.l.length + 1 by omega]
  rw [pu_spec_l3Fault, vcase_b, runs_len]
  unfold runsF
  by_cases h64 : 64 < all.length
  · rw [if_pos (by simp; omega), if_pos h64]
  · rw [if_neg (by simp; omega), if_neg h64]
    exact loop all 0 0 rfl (.inl ⟨rfl, rfl⟩)
def inR (r : RunD) : Prop := 0 ≤ r.at_ ∧ r.at_ + r.l.length ≤ 64 ∧ 1 ≤ r.l.length
theorem runsG_ok : ∀ (rs : List RunD) (q : Int), runsG q rs = 0 → ∀ r ∈ rs, inR r
  | [], q, h => by simp
  | r :: rs, q, h => by
    unfold runsG at h
    split at h
    · rename_i hc
      simp only [Bool.and_eq_true, decide_eq_true_eq] at hc
      have h1 := inB_iff.1 hc.1.1
      have h2 := inB_iff.1 hc.1.2
      split at h
      · omega
      · intro x hx
        rcases List.mem_cons.1 hx with rfl | hx
        · exact ⟨h1.1, hc.2, by omega⟩
        · exact runsG_ok rs _ h x hx
    · omega
theorem runsF_ok {rs : List RunD} (h : runsF rs = 0) : rs.length ≤ 64 ∧ ∀ r ∈ rs, inR r := by
  unfold runsF at h
  split at h
  · omega
  · exact ⟨by omega, runsG_ok rs 0 h⟩
end Vm
/-
  Runs that live: copied, compared, marked, found again.
-/
namespace Vm
open Go
theorem szRuns_ok {rs : List RunD} (h : ¬ (if (rs.length : Int) ≤ 1048576 then szRuns rs (1048576 - rs.length) else -1) < 0) : rs.length ≤ 1048576 ∧ (∀ r ∈ rs, r.l.length ≤ lim) ∧ ∀ r ∈ rs, r.l.length ≤ 1048576 := by
  split at h
  · rename_i hle
    have h2 := szRuns_all rs _ (Int.not_lt.1 h)
    refine ⟨by omega, fun r hr => ?_, fun r hr => ?_⟩
    · have := h2 r hr; unfold lim; omega
    · have := h2 r hr; omega
  · omega
def szR (r : RunD) : Nat := 1 + r.l.length
def mkR (k : Nat) (r : RunD) : RunD := ⟨k, marks (k + 1) r.l.length⟩
def rsz (rs : List RunD) : Nat := szAll szR rs
def mkRs (k : Nat) (rs : List RunD) : List RunD := mkAll mkR szR k rs
theorem rsz_cons (r : RunD) (rs : List RunD) : rsz (r :: rs) = 1 + r.l.length + rsz rs := rfl
theorem rsz_len : ∀ rs : List RunD, rs.length ≤ rsz rs
  | [] => Nat.le_refl _
  | r :: rs => by have := rsz_len rs; rw [rsz_cons, List.length_cons]; omega
theorem szRuns_sum : ∀ (rs : List RunD) (left : Int), 0 ≤ szRuns rs left → 0 ≤ left → szRuns rs left = left - rsz rs + rs.length
  | [], left, h, _ => by simp [szRuns, rsz, szAll]
  | r :: rs, left, h, h0 => by
    simp only [szRuns] at h ⊢
    by_cases hle : (r.l.length : Int) ≤ left
    · rw [if_pos hle] at h ⊢
      rw [szRuns_sum rs _ h (by omega), rsz_cons, List.length_cons]; omega
    · rw [if_neg hle] at h; omega
theorem szRuns_rsz {rs : List RunD} (h : ¬ (if (rs.length : Int) ≤ 1048576 then szRuns rs (1048576 - rs.length) else -1) < 0) : rsz rs ≤ 1048576 := by
  split at h
  · rename_i hle
    have := szRuns_sum rs _ (Int.not_lt.1 h) (by omega); omega
  · omega
theorem runs_map (rs : List RunD) : runs rs = rs.map RunD.cs := rfl
end Vm
/-
  Results of a code and one value, as they are made at the end of a function.
-/
namespace Vm
open Go
theorem sc1 {k : IntKind} {c : Int} : ∀ s ∈ [S.int k c], Sc s := by intro s hs; rw [List.mem_singleton.1 hs]; trivial
/-- a fault -/
theorem bad2C (n : Nat) (c : Int) : ∃ h', (stK 2 ((D n).new 0 [.int .i64 0, .sl none 0]) (pv ((D n).n) 0) (.agg [.int .i64 c, .sl none 0]) fun h105 =>
      (loadN 2 h105 (pv ((D n).n) 0)).bind fun c106 => some (V.agg c106, h105)) = some (.agg [.int .i64 c, .sl none 0], h') ∧ NewC 4 [.int .i64 c, .sl none 0] [.int .i64 c, .fs []] n h' := by
  rw [st2_new, loadN_2 (by simp) (by exact g_st), Vm.ob]
  refine ⟨_, rfl, by simp, [], ?_, by simp, by simp⟩
  exact RepL.cons (bs := []) (Rep.sc trivial) (RepL.cons (bs := []) Rep.nil .nil)
/-- a value put into a result that stands in block n -/
theorem fin2S {n d : Nat} {K : H} {y f : S} (hn : n < K.n) (g : K.g n = .rw 0 [.int .i64 0, .sl none 0]) (w : OwnF d y f (n + 1) K.n K) {c : Int} :
    ∃ h', (stK 2 K (pv n 0) (.agg [.int .i64 c, y]) fun h116 => (loadN 2 h116 (pv n 0)).bind fun c117 => some (V.agg c117, h116)) = some (.agg [.int .i64 c, y], h') ∧ NewC d [.int .i64 c, y] [.int .i64 c, f] n h' := by
  rw [stK_rw (z := 2) (e := 0) (o := 0) (b := n) (cs := [.int .i64 0, .sl none 0]) (r := [.int .i64 c, y]) hn g (.inr rfl) rfl (by simp)]
  rw [show setAt [.int .i64 0, .sl none 0] 0 [.int .i64 c, y] = [.int .i64 c, y] from rfl]
  rw [loadN_2 (b := n) (e := 0) (by rw [put_n]; omega) (put_g _ _ _), ob]
  obtain ⟨bs, w1, w2, w3⟩ := w
  refine ⟨_, rfl, by rw [put_n]; omega, ?_⟩
  refine OwnF.c (pre := [.int .i64 c]) sc1 ⟨bs, w1.frame fun b hb => ?_, w2, fun b hb => ?_⟩
  · have := w3 b hb
    exact ⟨by rw [put_n]; omega, put_g' (by omega)⟩
  · have := w3 b hb
    rw [put_n]; omega
theorem cells2 {R : Type} {y : S} (hy : isNo y = false) {k : Int → S → Option R} :
    (cellsK (.s y) fun c112 =>
      if c112.length = 1 ∧ 1 + 1 ≤ ([.int .i64 0, .sl none 0] : List S).length then
      ((setAt ([.int .i64 0, .sl none 0] : List S) 1 c112)[0]?).bind fun x113 =>
      gI .i64 x113 fun i114 =>
      ((setAt ([.int .i64 0, .sl none 0] : List S) 1 c112)[1]?).bind fun x115 =>
      if (setAt ([.int .i64 0, .sl none 0] : List S) 1 c112).length = 2 then k i114 x115 else none else none) = k 0 y := by
  simp only [cellsK, hy, cond_false, ln0, ln1, Nat.zero_add, Nat.reduceAdd, Nat.le_refl, and_self, if_true]
  rw [show setAt [.int .i64 0, .sl none 0] 1 [y] = [.int .i64 0, y] from rfl]
  simp only [gx0, gx1, ob, gI_i, ln0, ln1, Nat.zero_add, Nat.reduceAdd, if_true]
theorem fin2 {g n d : Nat} {xs : List V} {y f : S} {h1 : H} {off : Bool} (hc : call Ev g xs (D (n + 1)) = some (.s y, h1)) (hle : n + 1 ≤ h1.n) (w : OwnF d y f (n + 1) h1.n h1) :
    ∃ h', (pcallF (call Ev) g off xs ((D n).new 0 [.int .i64 0, .sl none 0]) fun v110 h111 =>
      cellsK v110 fun c112 =>
      if c112.length = 1 ∧ 1 + 1 ≤ ([.int .i64 0, .sl none 0] : List S).length then
      ((setAt ([.int .i64 0, .sl none 0] : List S) 1 c112)[0]?).bind fun x113 =>
      gI .i64 x113 fun i114 =>
      ((setAt ([.int .i64 0, .sl none 0] : List S) 1 c112)[1]?).bind fun x115 =>
      if (setAt ([.int .i64 0, .sl none 0] : List S) 1 c112).length = 2 then
      stK 2 h111 (pv ((D n).n) 0) (.agg [.int .i64 i114, x115]) fun h116 =>
      (loadN 2 h116 (pv ((D n).n) 0)).bind fun c117 =>
      some (V.agg c117, h116)
      else none
      else none) = some (.agg [.int .i64 0, y], h') ∧ NewC d [.int .i64 0, y] [.int .i64 0, f] n h' := by
  obtain ⟨K, e, u, hn, w'⟩ := pV (h := (D n).new 0 [.int .i64 0, .sl none 0]) (off := off) (n := n + 1) (by simp) hc hle w
  have hy : isNo y = false := by obtain ⟨bs, w1, _⟩ := w; exact w1.isNo
  rw [e]
  rw [cells2 hy]
  exact fin2S (K := K) (by omega) (by rw [u.g n (by simp)]; exact new_g (D n) _ _) w'.now
end Vm
/-
  Runs as arguments and as results of a law.
-/
namespace Vm
open Go
/-- runs in a stretch of blocks -/
def OwnRs (v : V) (rs : List RunD) (lo hi : Nat) (h : H) : Prop := ∃ y, v = .s y ∧ OwnF 4 y (.fs (runs rs)) lo hi h
theorem OwnRs.frz {v : V} {rs : List RunD} {lo hi : Nat} {h : H} (w : OwnRs v rs lo hi h) : frzV h v = some (lv (runs rs)) := by
  obtain ⟨y, rfl, w⟩ := w
  exact w.frz
theorem OwnRs.sep {v : V} {rs : List RunD} {lo hi : Nat} {h : H} (w : OwnRs v rs lo hi h) (hn : hi ≤ h.n) : Sep (OwnRs v rs lo hi) lo hi h := ⟨hn, fun h' hn' hg => by
  obtain ⟨y, rfl, w⟩ := w
  exact ⟨y, rfl, (w.sep hn).q h' hn' hg⟩⟩
theorem OwnRs.pv {cl : Nat → List V → H → Option (V × H)} {g : Nat} {off : Bool} {xs : List V} {h : H} {n : Nat} {v : V} {rs : List RunD} {h1 : H} (hn : h.n = n) (hc : cl g xs (D n) = some (v, h1)) (hw : n ≤ h1.n ∧ OwnRs v rs n h1.n h1) :
    ∃ h', (∀ (R : Type) (k : V → H → Option R), pcallF cl g off xs h k = k v h') ∧ Up h h' ∧ n ≤ h'.n ∧ Sep (OwnRs v rs n h'.n) n h'.n h' := by
  obtain ⟨hle, y, rfl, w⟩ := hw
  obtain ⟨h', e, u, hn', w'⟩ := pV (off := off) hn hc hle w
  exact ⟨h', e, u, hn', OwnRs.sep ⟨y, rfl, w'.now⟩ (Nat.le_refl _)⟩
theorem mkRs_cons (k : Nat) (r : RunD) (rs : List RunD) : mkRs k (r :: rs) = mkR k r :: mkRs (k + (1 + r.l.length)) rs := rfl
theorem mkRs_len (k : Nat) (rs : List RunD) : (mkRs k rs).length = rs.length := mkAll_len _ _ _ _
end Vm
/-
  Runs applied to a page.
-/
namespace Vm
open Go
def apy : List UInt8 → List RunD → List UInt8
  | l, [] => l
  | l, r :: rs => apy (lay l r.at_.toNat r.l) rs
theorem apy_len : ∀ (rs : List RunD) (l : List UInt8), l.length = 64 → (∀ r ∈ rs, inR r) → (apy l rs).length = 64
  | [], l, h, _ => h
  | r :: rs, l, h, hr => by
    have := hr r (by simp)
    unfold inR at this
    exact apy_len rs _ (by rw [lay_len (by omega)]; exact h) fun x hx => hr x (by simp [hx])
/-- code and bytes -/
def apC (l : List UInt8) (rs : List RunD) : Int := if l.length ≠ 64 then 1 else runsF rs
def apL (l : List UInt8) (rs : List RunD) : List UInt8 := if apC l rs = 0 then apy l rs else []
theorem apL_len {l : List UInt8} {rs : List RunD} : (apL l rs).length ≤ 64 := by
  unfold apL
  split
  · rename_i h
    unfold apC at h
    by_cases h1 : l.length = 64
    · rw [if_neg (by simp [h1])] at h
      rw [apy_len rs l h1 (runsF_ok h).2]; omega
    · rw [if_pos h1] at h; omega
  · simp
theorem p_l3Asked {l : List UInt8} {rs : List RunD} (hl : rs.length ≤ maxLen) : pureV (call Ev) Fn.spec_l3Asked [lv (bys l), lv (runs rs)] = some (iv .i64 (apC l rs)) := by
  rw [pu_spec_l3Asked, vcase_b, bys_len, pc (p_l3Fault hl) rfl]
  unfold apC
  by_cases h1 : l.length = 64
  · rw [if_neg (by simp; omega), if_neg (by simp [h1])]; simp
  · rw [if_pos (by simp; omega), if_pos h1]
/-- one run laid over -/
theorem lay_step {h : H} {b : Nat} {l : List UInt8} {r : RunD} (w : BysW h (sv b 0 64) l b) (h64 : l.length = 64) (hr : inR r) :
    ∀ (R : Type) (k : V × H → Option R), (slK 1 h (sv b 0 64) (some (iv .i64 r.at_)) none fun v206 => (copS 1 h v206 (lv (bys r.l))).bind k) = k (iv .i64 r.l.length, h.put b (.rw 1 ((lay l r.at_.toNat r.l).map cell8))) := by
  intro R k
  unfold inR at hr
  obtain ⟨a, ha⟩ : ∃ a : Nat, r.at_ = a := ⟨r.at_.toNat, by omega⟩
  rw [ha, Int.toNat_natCast, slK_w w (by omega), copS_w w (by omega) (by omega), ob]
theorem p_l3Apply {l : List UInt8} {all : List RunD} (h64 : l.length = 64) (hl : all.length ≤ 64) (hr : ∀ r ∈ all, inR r) : pureV (call Ev) Fn.spec_l3Apply [lv (bys l), lv (runs all)] = some (lv (bys (apy l all))) := by
  have loop : ∀ (rs : List RunD) (i : Nat) (m : List UInt8) (h : H) (b : Nat), all.drop i = rs → m.length = 64 → BysW h (sv b 0 64) m b →
      ∃ h', Lp.spec_l3Apply 0 [lv (runs all), sv b 0 64, iv .i64 i] h = some (.done [sv b 0 64] h') ∧ BysW h' (sv b 0 64) (apy m rs) b := by
    intro rs
    induction rs with
    | nil =>
      intro i m h b hi hm w
      have := drop_nil hi
      rw [eq_spec_l3Apply_l0, vcase_b, if_neg (by simp; omega), tidy_self]
      exact ⟨h, rfl, w⟩
    | cons r rs ih =>
      intro i m h b hi hm w
      obtain ⟨g1, g2, g3⟩ := drop_cons hi
      have hrr := hr r (List.mem_of_getElem? g1)
      have hrr' := hrr
      unfold inR at hrr'
      rw [eq_spec_l3Apply_l0, vcase_b, if_pos (by simp; omega), idxF_run g1]
      simp only [gx0, gx1, ob, gI_i, gF_f]
      have e2 : ∀ {R : Type} {k : List S → Option R}, idxF 2 (runs all) (i : Int) k = k r.cs := idxF_run g1
      simp only [e2, gx0, gx1, ob, gI_i, gF_f]
      rw [lay_step w hm hrr]
      simp only [gV1_s, gI_i]
      rw [tidy_put w.n, w64 (by omega) (by omega), show (i : Int) + 1 = ((i + 1 : Nat) : Int) from by omega]
      exact ih (i + 1) _ _ b g2 (by rw [lay_len (by omega)]; exact hm) (lay_w w (by omega))
  obtain ⟨v, h1, e1, w1, nn⟩ := f_l2Copy (m := l) (by unfold lim; omega) 0
  rw [pu_spec_l3Apply, pF (h := D 0) (h1 := h1) (v := v) e1 ⟨by rw [(show BysW h1 v l 1 from w1.own).v]; rfl, w1.z⟩]
  have hv := (show BysW h1 v l 1 from w1.own).v
  subst hv
  have hle : (D 0).n ≤ h1.n := w1.le
  have w : BysW ((D 0).over h1) (sv 1 0 64) l 1 := ⟨by rw [h64], by rw [over_n hle]; omega, by rw [over_ge (by simp)]; exact (show BysW h1 _ l 1 from w1.own).g⟩
  rw [h64]
  obtain ⟨h', e2, w2⟩ := loop all 0 l _ 1 (by simp) h64 w
  rw [show iv .i64 0 = iv .i64 ((0 : Nat) : Int) from rfl, e2, ob, lcase_done]
  simp only [gx0, ob]
  have := w2.frz (d := 7)
  have hl64 := apy_len all l h64 hr
  rw [hl64] at this
  rw [frzV_s, this.2]; rfl
theorem p_spec_ApplyRuns {l : List UInt8} {rs : List RunD} (hl : rs.length ≤ maxLen) : pureV (call Ev) Fn.spec_ApplyRuns [lv (bys l), lv (runs rs)] = some (.agg [.int .i64 (apC l rs), .fs (bys (apL l rs))]) := by
  rw [pu_spec_ApplyRuns, pc (p_l3Asked hl) rfl]
  simp only [gV1_s, gI_i, vcase_b]
  unfold apL
  by_cases hc : apC l rs = 0
  · rw [if_neg (by simp [hc]), if_pos hc]
    have h64 : l.length = 64 := by
      unfold apC at hc
      split at hc
      · omega
      · rename_i h; simpa using h
    have hf : runsF rs = 0 := by unfold apC at hc; rw [if_neg (by simp [h64])] at hc; exact hc
    rw [p_l3Apply h64 (runsF_ok hf).1 (runsF_ok hf).2]
    simp [hc]
  · rw [if_pos (by simpa using hc), if_neg hc]; rfl
theorem p_applied {l : List UInt8} {all : List RunD} (h64 : l.length = 64) (hl : all.length ≤ 64) (hr : ∀ r ∈ all, inR r)  : pureV (call Ev) Fn.impl_applied [lv (bys l), lv (runs all)] = some (lv (bys (apy l all))) := by
  have loop : ∀ (rs : List RunD) (i : Nat) (m : List UInt8) (h : H) (b : Nat), all.drop i = rs → m.length = 64 → BysW h (sv b 0 64) m b →
      ∃ h', Lp.impl_applied 0 [sv b 0 64, lv (runs all), iv .i64 all.length, iv .i64 i] h = some (.done [sv b 0 64] h') ∧ BysW h' (sv b 0 64) (apy m rs) b ∧ h'.n = h.n := by
    intro rs
    induction rs with
    | nil =>
      intro i m h b hi hm w
      have := drop_nil hi
      rw [eq_impl_applied_l0, vcase_b, if_neg (by simp; omega), tidy_self]
      exact ⟨h, rfl, w, rfl⟩
    | cons r rs ih =>
      intro i m h b hi hm w
      obtain ⟨g1, g2, g3⟩ := drop_cons hi
      have hrr := hr r (List.mem_of_getElem? g1)
      have hrr' := hrr
      unfold inR at hrr'
      rw [eq_impl_applied_l0, vcase_b, if_pos (by simp; omega), idxF_run g1, rowN_run]
      simp only [gx0, gx1, ob, gI_i, gF_f, ln0, ln1, Nat.zero_add, Nat.reduceAdd, if_true]
      rw [st2_new]
      have u : Up h ((h.new 0 [.int .i64 0, .sl none 0]).put h.n (.rw 0 [.int .i64 r.at_, .fs (bys r.l)])) := up_st
      have wg : BysW ((h.new 0 [.int .i64 0, .sl none 0]).put h.n (.rw 0 [.int .i64 r.at_, .fs (bys r.l)])) (sv b 0 64) m b := (show Own h (sv b 0 64) m (some b) from w).up u
      have gn : ((h.new 0 [.int .i64 0, .sl none 0]).put h.n (.rw 0 [.int .i64 r.at_, .fs (bys r.l)])).n = h.n + 1 := n_st
      have gg : ((h.new 0 [.int .i64 0, .sl none 0]).put h.n (.rw 0 [.int .i64 r.at_, .fs (bys r.l)])).g h.n = .rw 0 [.int .i64 r.at_, .fs (bys r.l)] := g_st
      have gv : ∀ c, c < h.n → ((h.new 0 [.int .i64 0, .sl none 0]).put h.n (.rw 0 [.int .i64 r.at_, .fs (bys r.l)])).v c = h.v c := fun c hc => by
        simp [H.put, H.new, show c ≠ h.n by omega]
      generalize (h.new 0 [.int .i64 0, .sl none 0]).put h.n (.rw 0 [.int .i64 r.at_, .fs (bys r.l)]) = G at u wg gn gg gv ⊢
      have ld : ∀ {o : Nat}, load1 G (pv h.n o) = ([.int .i64 r.at_, .fs (bys r.l)] : List S)[o]? := fun {o} => by simp [load1, H.cells, gn, gg, Blk.cells]
      simp only [ld, gx0, gx1, ob, gI_i]
      rw [lay_step wg hm hrr]
      simp only [gV1_s, gI_i]
      have hw2 := lay_w wg (m := r.l) (a := r.at_.toNat) (by omega)
      have ht : ∀ l', l'.all (belV h.n) = true → (tidy h l' (G.put b (.rw 1 ((lay m r.at_.toNat r.l).map cell8)))).n = h.n ∧ (tidy h l' (G.put b (.rw 1 ((lay m r.at_.toNat r.l).map cell8)))).g b = .rw 1 ((lay m r.at_.toNat r.l).map cell8) := fun l' hl' => by
        unfold tidy
        rw [if_pos]
        · refine ⟨rfl, ?_⟩
          simp only [if_pos w.n]; exact put_g _ _ _
        · refine ⟨by rw [put_n]; omega, hl', fun c hc => ?_⟩
          by_cases hcb : c = b
          · subst hcb; right; rw [put_g]; exact cell8_bel _
          · left
            refine ⟨by rw [put_g' hcb]; exact u.g c hc, ?_⟩
            simp only [H.put, if_neg hcb]; exact gv c hc
      have ht' := ht [sv b 0 64, lv (runs all), iv .i64 all.length, iv .i64 (IntKind.i64.wrap ((i : Int) + 1))] (by simp [belV, belS, w.n])
      generalize tidy h [sv b 0 64, lv (runs all), iv .i64 all.length, iv .i64 (IntKind.i64.wrap ((i : Int) + 1))] (G.put b (.rw 1 ((lay m r.at_.toNat r.l).map cell8))) = T at ht' ⊢
      rw [w64 (by omega) (by omega), show (i : Int) + 1 = ((i + 1 : Nat) : Int) from by omega]
      have hll : (lay m r.at_.toNat r.l).length = 64 := by rw [lay_len (by omega)]; exact hm
      obtain ⟨h', e, w3, n3⟩ := ih (i + 1) (lay m r.at_.toNat r.l) T b g2 hll ⟨by rw [hll], by rw [ht'.1]; exact w.n, ht'.2⟩
      exact ⟨h', e, w3, n3.trans ht'.1⟩
  obtain ⟨v, h1, e1, w1, nn⟩ := f_copied (m := l) (by unfold lim; omega) 0
  rw [pu_impl_applied, pF (h := D 0) (h1 := h1) (v := v) e1 ⟨by rw [(show BysW h1 v l (0 + 1) from w1.own).v]; rfl, w1.z⟩]
  have hv := (show BysW h1 v l (0 + 1) from w1.own).v
  subst hv
  have hle : (D 0).n ≤ h1.n := w1.le
  have w : BysW ((D 0).over h1) (sv (0 + 1) 0 64) l (0 + 1) := ⟨by rw [h64], by rw [over_n hle]; omega, by rw [over_ge (by simp)]; exact (show BysW h1 _ l (0 + 1) from w1.own).g⟩
  rw [h64, runs_len]
  obtain ⟨h', e2, w2, n2⟩ := loop all 0 l _ (0 + 1) (by simp) h64 w
  rw [show iv .i64 0 = iv .i64 ((0 : Nat) : Int) from rfl, e2, ob, lcase_done]
  simp only [gx0, ob]
  have := w2.frz (d := 7)
  have hl64 := apy_len all l h64 hr
  rw [hl64] at this
  rw [frzV_s, this.2]; rfl
theorem p_ApplyRuns {l : List UInt8} {rs : List RunD} (hl : rs.length ≤ maxLen) : pureV (call Ev) Fn.impl_ApplyRuns [lv (bys l), lv (runs rs)] = some (.agg [.int .i64 (apC l rs), .fs (bys (apL l rs))]) := by
  rw [pu_impl_ApplyRuns, vcase_b, bys_len]
  unfold apL apC
  by_cases h64 : l.length = 64
  case neg =>
    rw [if_pos (by simp; omega), if_pos h64]; rfl
  rw [if_neg (by simp; omega), if_neg (show ¬ l.length ≠ 64 from by simp [h64]), pc (p_RunsFault hl) rfl]
  simp only [gV1_s, gI_i, vcase_b]
  by_cases hf : runsF rs = 0
  case neg =>
    rw [if_pos (by simpa using hf), if_neg hf]; rfl
  rw [if_neg (by simp [hf]), p_applied h64 (runsF_ok hf).1 (runsF_ok hf).2, if_pos hf, hf]
  simp only [ob, gV1_s, gF_f]
end Vm
/-
  A slice of rows of one's own that grows row by row.
-/
namespace Vm
open Go
structure OutS (z d : Nat) (y : S) (rows : List (List S)) (bs : List Nat) (h : H) : Prop where
  rep : Rep h (d + 1) y (.fs rows) bs
  nd : bs.Nodup
  ty : y = .sl none 0 ∨ ∃ b cs, y = .sl (some (b, 0)) rows.length ∧ h.g b = .rw z cs
  len : ∀ r ∈ rows, r.length = z
theorem OutS.none {z d : Nat} {h : H} : OutS z d (.sl none 0) [] [] h := ⟨Rep.nil, by simp, .inl rfl, by simp⟩
theorem OutS.frame {z d : Nat} {y : S} {rows : List (List S)} {bs : List Nat} {h h' : H} (w : OutS z d y rows bs h) (hb : ∀ b ∈ bs, b < h'.n ∧ h'.g b = h.g b) : OutS z d y rows bs h' := by
  refine ⟨w.rep.frame hb, w.nd, ?_, w.len⟩
  rcases w.ty with h1 | ⟨b, cs, h1, h2⟩
  · exact .inl h1
  · refine .inr ⟨b, cs, h1, ?_⟩
    have hbb : b ∈ bs := by
      rcases w.rep with ⟨⟨h3, _⟩ | ⟨h3, _⟩, _⟩ | ⟨b', z', cs', rows', bss, h3, _, h4, _⟩
      · rw [h1] at h3; exact h3.elim
      · rw [h1] at h3; cases h3
      · rw [h1] at h3
        injection h3 with h3 _
        injection h3 with h3
        injection h3 with h3 _
        rw [h4, h3]; simp
    rw [(hb b hbb).2]; exact h2
theorem app_row {z d : Nat} {y : S} {rows : List (List S)} {bs : List Nat} {h : H} {row fr : List S} {br : List Nat} (w : OutS z d y rows bs h) (wr : RepL (Rep h d) row fr br) (hz : fr.length = z) (hz0 : 0 < z) (hd : br.Nodup) (hdis : ∀ a ∈ bs, a ∉ br) (hl : rows.length + 1 ≤ lim) :
    ∃ h' bs', appS z (h.new z row) (.s y) (sv h.n 0 1) = some (sv (h.n + 1) 0 (rows.length + 1), h') ∧ OutS z d (.sl (some (h.n + 1, 0)) (rows.length + 1)) (rows ++ [fr]) bs' h' ∧ h'.n = h.n + 2 ∧ (∀ c ∈ bs', c = h.n + 1 ∨ c ∈ bs ∨ c ∈ br) ∧ (∀ c, c < h.n → c ∉ bs → h'.g c = h.g c) ∧ (∀ c, c < h.n → h'.g c = h.g c ∨ (h'.g c = .dead ∧ c ∈ bs)) ∧ ∃ cs0, h'.g (h.n + 1) = .rw z (cs0 ++ row) := by
  have hrow : row.length = z := wr.len.trans hz
  have hlt := w.rep.lt
  have hlr := wr.lt
  have cy : cellsS z (h.new z row) (sv h.n 0 1) = some row := by
    simp only [cellsS, H.cells, new_n, new_g, Blk.cells]
    rw [if_pos ⟨by omega, by simp; omega⟩]
    simp [← hrow]
  have gn : (h.new z row).g h.n = .rw z row := new_g _ _ _
  rcases w.rep with ⟨⟨h3, h4⟩ | ⟨h3, h4⟩, h5⟩ | ⟨b, z', cs, rows', bss, h3, h4, h5, h6, h7, h8, h9, h10⟩
  · rw [← h4] at h3; exact h3.elim
  · subst h3
    injection h4 with h4
    subst h4
    subst h5
    refine ⟨(h.new z row).new z row, (h.n + 1) :: br, ?_, ⟨?_, ?_, ?_, ?_⟩, by simp, ?_, fun c hc _ => ?_, fun c hc => .inl ?_, [], new_g (h.new z row) z row⟩
    · simp only [appS, cy, Option.bind_some, lenS]
      rw [if_pos ⟨trivial, by simpa using hl, hz0⟩, if_neg (by omega)]
      rfl
    · have := Rep.sl (d := d) (h := (h.new z row).new z row) (b := h.n + 1) (z := z) (cs := row) (rows := [fr]) (bss := br) (by simp) hz0 (by exact new_g (h.new z row) z row) (by simpa using hz) (by
        simpa using wr.frame fun c hc => ⟨by have := hlr c hc; simp; omega, by rw [new_g' (by have := hlr c hc; simp; omega), new_g' (by have := hlr c hc; omega)]⟩)
      simpa using this
    · exact List.nodup_cons.2 ⟨fun hh => by have := hlr _ hh; omega, hd⟩
    · exact .inr ⟨_, row, rfl, by exact new_g (h.new z row) z row⟩
    · simpa using hz
    · intro c hc
      rcases List.mem_cons.1 hc with h1 | h1
      · exact .inl h1
      · exact .inr (.inr h1)
    · rw [new_g' (by simp; omega), new_g' (by omega)]
    · rw [new_g' (by simp; omega), new_g' (by omega)]
  · injection h4 with h4
    subst h4
    subst h3
    subst h5
    have hzz : z' = z := by
      rcases w.ty with hh | ⟨b', cs', hh, hg⟩
      · cases hh
      · injection hh with hh _
        injection hh with hh
        injection hh with hh _
        subst hh
        rw [h8] at hg
        injection hg
    subst hzz
    have hcl := h10.len
    rw [flat_len h9] at hcl
    have hbn : b ≠ h.n := by omega
    have cx : cellsS z' (h.new z' row) (sv b 0 rows.length) = some cs := by
      have hc : (h.new z' row).cells b = cs := by unfold H.cells; rw [if_pos (by simp; omega), new_g' hbn, h8]; rfl
      simp only [cellsS, hc]
      rw [if_pos ⟨by simp; omega, by omega⟩, List.drop_zero, List.take_of_length_le (by omega)]
    have hd2 := List.nodup_cons.1 w.nd
    refine ⟨((h.new z' row).put b .dead).new z' (cs ++ row), (h.n + 1) :: (bss ++ br), ?_, ⟨?_, ?_, ?_, ?_⟩, by simp, ?_, fun c hc hcb => ?_, fun c hc => ?_, cs, new_g ((h.new z' row).put b .dead) z' (cs ++ row)⟩
    · simp only [appS, cx, cy, Option.bind_some, lenS]
      rw [if_pos ⟨by rw [new_n]; omega, hl, hz0⟩, new_g' hbn, h8]
      simp only [if_true]
      rfl
    · have fr1 : ∀ c, c < h.n → c ≠ b → (((h.new z' row).put b .dead).new z' (cs ++ row)).g c = h.g c := fun c hc hcb => by
        rw [new_g' (by simp; omega), put_g' hcb, new_g' (by omega)]
      have := Rep.sl (d := d) (h := ((h.new z' row).put b .dead).new z' (cs ++ row)) (b := h.n + 1) (z := z') (cs := cs ++ row) (rows := rows ++ [fr]) (bss := bss ++ br) (by simp) hz0 (by exact new_g ((h.new z' row).put b .dead) z' (cs ++ row)) (by
          intro r hr
          rcases List.mem_append.1 hr with hr | hr
          · exact h9 r hr
          · rw [List.mem_singleton.1 hr]; exact hz) (by
        rw [List.flatten_append]
        have wr2 : RepL (Rep (((h.new z' row).put b .dead).new z' (cs ++ row)) d) row fr br := wr.frame fun c hc => by
          have := hlr c hc
          exact ⟨by simp; omega, fr1 c this (fun hh => hdis b (by simp) (hh ▸ hc))⟩
        refine RepL.append (h10.frame fun c hc => ?_) (by simpa using wr2)
        have := hlt c (by simp [hc])
        exact ⟨by simp; omega, fr1 c this (fun hh => hd2.1 (hh ▸ hc))⟩)
      simpa using this
    · refine List.nodup_cons.2 ⟨fun hh => ?_, List.nodup_append.2 ⟨hd2.2, hd, fun a ha a' ha' hh => hdis a (by simp [ha]) (hh ▸ ha')⟩⟩
      rcases List.mem_append.1 hh with hh | hh
      · have := hlt (h.n + 1) (by simp [hh]); omega
      · have := hlr _ hh; omega
    · exact .inr ⟨h.n + 1, cs ++ row, by simp, by exact new_g ((h.new z' row).put b .dead) z' (cs ++ row)⟩
    · intro r hr
      rcases List.mem_append.1 hr with hr | hr
      · exact h9 r hr
      · rw [List.mem_singleton.1 hr]; exact hz
    · intro c hc
      rcases List.mem_cons.1 hc with h1 | h1
      · exact .inl h1
      rcases List.mem_append.1 h1 with h1 | h1
      · exact .inr (.inl (by simp [h1]))
      · exact .inr (.inr h1)
    · rw [new_g' (by simp; omega), put_g' (fun hh => hcb (by simp [hh])), new_g' (by omega)]
    · by_cases hcb : c = b
      · subst hcb
        refine .inr ⟨?_, by simp⟩
        rw [new_g' (by simp; omega)]
        exact put_g _ _ _
      · refine .inl ?_
        rw [new_g' (by simp; omega), put_g' hcb, new_g' (by omega)]
end Vm
/-
  Rows of runs, new.
-/
namespace Vm
open Go
/-- a row of a run, new -/
theorem run_row {h : H} {a : Int} {l : List UInt8} {b N : Nat} {k : Nat} (w : BysW h (sv b 0 k) l b) : RepL (Rep h 1) [.int .i64 a, .sl (some (b, 0)) k] (RunD.cs ⟨a, l⟩) [b] := by
  have hk := w.len
  have h1 : Rep h 1 (.sl (some (b, 0)) k) (.fs (bys l)) [b] := Own.rep (d := 0) (ob := some b) w
  exact RepL.cons (bs := []) (Rep.sc trivial) (RepL.cons (bs := [b]) h1 .nil)
theorem runs_snoc (rs : List RunD) (r : RunD) : runs (rs ++ [r]) = runs rs ++ [r.cs] := by simp [runs]
/-- new bytes over a heap -/
theorem new_bys {g : Nat} {xs : List V} {h h1 : H} {v : V} {m : List UInt8} (e1 : call Ev g xs (D h.n) = some (v, h1)) (w1 : NewB h.n h1 v m (some (h.n + 1))) (nn : h1.n = h.n + 2) :
    (∀ (R : Type) (off : Bool) (k : V → H → Option R), pcallF (call Ev) g off xs h k = k (sv (h.n + 1) 0 m.length) (h.over h1)) ∧ BysW (h.over h1) (sv (h.n + 1) 0 m.length) m (h.n + 1) ∧ Up h (h.over h1) ∧ (h.over h1).n = h.n + 2 ∧ HExt h (h.over h1) := by
  have hv := (show BysW h1 v m (h.n + 1) from w1.own).v
  have hle := w1.le
  refine ⟨fun R off k => ?_, ⟨rfl, by rw [over_n hle]; omega, ?_⟩, up_over hle, by rw [over_n hle, nn], ⟨by rw [over_n hle]; omega, fun b hb => .inr (over_lt hb)⟩⟩
  · rw [pF (h := h) (h1 := h1) (v := v) e1 ⟨by rw [hv]; rfl, w1.z⟩, hv]
  · rw [over_ge (by omega)]; exact (show BysW h1 v m (h.n + 1) from w1.own).g
theorem cellsR {R : Type} {a : Int} {y : S} (hy : isNo y = false) {k : Int → S → Option R} :
    (cellsK (.s y) fun c217 =>
      if c217.length = 1 ∧ 1 + 1 ≤ ([.int .i64 a, .sl none 0] : List S).length then
      ((setAt ([.int .i64 a, .sl none 0] : List S) 1 c217)[0]?).bind fun x218 =>
      gI .i64 x218 fun i219 =>
      ((setAt ([.int .i64 a, .sl none 0] : List S) 1 c217)[1]?).bind fun x220 =>
      if (setAt ([.int .i64 a, .sl none 0] : List S) 1 c217).length = 2 then k i219 x220 else none else none) = k a y := by
  simp only [cellsK, hy, cond_false, ln0, ln1, Nat.zero_add, Nat.reduceAdd, Nat.le_refl, and_self, if_true]
  rw [show setAt [.int .i64 a, .sl none 0] 1 [y] = [.int .i64 a, y] from rfl]
  simp only [gx0, gx1, ob, gI_i, ln0, ln1, Nat.zero_add, Nat.reduceAdd, if_true]
end Vm
/-
  Results of a code and runs.
-/
namespace Vm
open Go
end Vm
/-
  The runs that take others back.
-/
namespace Vm
open Go
/-- the run that takes one back -/
def inv1 (l : List UInt8) (r : RunD) : RunD := ⟨r.at_, (l.take (r.at_.toNat + r.l.length)).drop r.at_.toNat⟩
def invs (l : List UInt8) (rs : List RunD) : List RunD := if apC l rs = 0 then rs.map (inv1 l) else []
theorem inv1_len {l : List UInt8} {r : RunD} (h : inR r) (hl : l.length = 64) : (inv1 l r).l.length = r.l.length := by
  unfold inR at h
  simp only [inv1, List.length_drop, List.length_take]; omega
theorem apC_ok {l : List UInt8} {rs : List RunD} (hc : apC l rs = 0) : l.length = 64 ∧ rs.length ≤ 64 ∧ ∀ r ∈ rs, inR r := by
  unfold apC at hc
  by_cases h1 : l.length = 64
  · rw [if_neg (by simp [h1])] at hc
    exact ⟨h1, runsF_ok hc⟩
  · rw [if_pos h1] at hc; omega
section
variable {l : List UInt8} {all : List RunD} (h64 : l.length = 64) (hl : all.length ≤ 64) (hr : ∀ r ∈ all, inR r)
include h64 hl hr
theorem lp_impl_Inv : ∀ (rs : List RunD) (i : Nat) (h : H) (y : S) (bs : List Nat) (p : V) (n0 : Nat), all.drop i = rs → OutS 2 1 y (runs ((all.take i).map (inv1 l))) bs h → (∀ c ∈ bs, n0 ≤ c) → n0 ≤ h.n →
    ∃ h' y' bs', Lp.impl_InverseRuns 0 [lv (bys l), p, .s y, lv (runs all), iv .i64 all.length, iv .i64 i] h = some (.done [p, .s y'] h') ∧ OutS 2 1 y' (runs (all.map (inv1 l))) bs' h' ∧ (∀ c ∈ bs', n0 ≤ c) ∧ h.n ≤ h'.n ∧ ∀ c, c < n0 → h'.g c = h.g c := by
  intro rs
  induction rs with
  | nil =>
    intro i h y bs p n0 hi w hb hn
    have := drop_nil hi
    rw [eq_impl_InverseRuns_l0, vcase_b, if_neg (by simp; omega), tidy_self]
    rw [List.take_of_length_le this] at w
    exact ⟨h, y, bs, rfl, w, hb, Nat.le_refl _, fun _ _ => rfl⟩
  | cons r rs ih =>
    intro i h y bs p n0 hi w hb hn
    obtain ⟨g1, g2, g3⟩ := drop_cons hi
    have hrr := hr r (List.mem_of_getElem? g1)
    have hrr' := hrr
    unfold inR at hrr'
    rw [eq_impl_InverseRuns_l0, vcase_b, if_pos (by simp; omega), idxF_run g1, rowN_run]
    simp only [gx0, gx1, ob, gI_i, gF_f]
    rw [if_pos (show ([_, _] : List S).length = 2 from rfl), st2_new]
    have u1 : Up h ((h.new 0 [.int .i64 0, .sl none 0]).put h.n (.rw 0 [.int .i64 r.at_, .fs (bys r.l)])) := up_st
    have gn : ((h.new 0 [.int .i64 0, .sl none 0]).put h.n (.rw 0 [.int .i64 r.at_, .fs (bys r.l)])).n = h.n + 1 := n_st
    have gg : ((h.new 0 [.int .i64 0, .sl none 0]).put h.n (.rw 0 [.int .i64 r.at_, .fs (bys r.l)])).g h.n = .rw 0 [.int .i64 r.at_, .fs (bys r.l)] := g_st
    generalize (h.new 0 [.int .i64 0, .sl none 0]).put h.n (.rw 0 [.int .i64 r.at_, .fs (bys r.l)]) = G at u1 gn gg ⊢
    have ld : ∀ {o : Nat}, load1 G (pv h.n o) = ([.int .i64 r.at_, .fs (bys r.l)] : List S)[o]? := fun {o} => by simp [load1, H.cells, gn, gg, Blk.cells]
    simp only [ld, gx0, gx1, ob, gI_i, lenV, gV1_s, bys_len]
    obtain ⟨a, ha⟩ : ∃ a : Nat, r.at_ = a := ⟨r.at_.toNat, by omega⟩
    rw [ha, w64 (by omega) (by omega), show (a : Int) + (r.l.length : Int) = ((a + r.l.length : Nat) : Int) from by omega, slF_lh (by omega) (by omega)]
    have hcut : (l.take (a + r.l.length)).drop a = (inv1 l r).l := by simp [inv1, ha]
    rw [hcut]
    obtain ⟨v, h1, e1, w1, nn⟩ := f_copied (m := (inv1 l r).l) (by rw [inv1_len hrr h64]; unfold lim; omega) G.n
    obtain ⟨e2, w2, u2, n2, x2⟩ := new_bys e1 w1 nn
    rw [e2]
    generalize G.over h1 = K at w2 u2 n2 x2 ⊢
    rw [hchk_of x2]
    simp only [sca_v, scaS, cond_true]
    rw [cellsR rfl]
    rw [hchk_of (HExt.new x2)]
    have wk : OutS 2 1 y (runs ((all.take i).map (inv1 l))) bs K := w.frame fun c hc => by
      have := w.rep.lt c hc
      exact ⟨by omega, (u2.g c (by omega)).trans (u1.g c this)⟩
    have wr := run_row (a := (a : Int)) (N := 0) w2
    obtain ⟨h2, bs2, e3, w3, n3, f3, o3, q3, _⟩ := app_row wk wr rfl (by omega) (by simp) (fun c hc hh => by have := w.rep.lt c hc; have := List.mem_singleton.1 hh; omega) (by simp; unfold lim; omega)
    rw [e3, ob]
    dsimp only
    rw [w64 (n := (i : Int) + 1) (by omega) (by omega), show (i : Int) + 1 = ((i + 1 : Nat) : Int) from by omega]
    rw [no_tidy_v (by simp [belV, belS]; omega)]
    have hrow : runs ((all.take (i + 1)).map (inv1 l)) = runs ((all.take i).map (inv1 l)) ++ [RunD.cs ⟨(a : Int), (inv1 l r).l⟩] := by
      rw [List.take_add_one, g1, Option.toList_some, List.map_append, List.map_singleton, runs_snoc]
      congr 2
      rw [show inv1 l r = ⟨r.at_, (inv1 l r).l⟩ from rfl, ha]
    rw [← hrow] at w3
    have hb3 : ∀ c ∈ bs2, n0 ≤ c := fun c hc => by
      rcases f3 c hc with h1 | h1 | h1
      · omega
      · exact hb c h1
      · have := List.mem_singleton.1 h1; omega
    obtain ⟨h', y', bs', e4, w4, b4, n4, o4⟩ := ih (i + 1) h2 _ bs2 p n0 g2 w3 hb3 (by omega)
    refine ⟨h', y', bs', e4, w4, b4, by omega, fun c hc => ?_⟩
    rw [o4 c hc, o3 c (by omega) (fun hh => by have := hb c hh; omega), u2.g c (by omega), u1.g c (by omega)]
theorem f_Inv (n : Nat) : ∃ y h', (Lp.impl_InverseRuns 0 [lv (bys l), pv n 0, .s (.sl none 0), lv (runs all), iv .i64 all.length, iv .i64 0] ((D n).new 0 [.int .i64 0, .sl none 0])) = some (.done [pv n 0, .s y] h') ∧ OwnF 2 y (.fs (runs (all.map (inv1 l)))) (n + 1) h'.n h' ∧ n < h'.n ∧ h'.g n = .rw 0 [.int .i64 0, .sl none 0] := by
  obtain ⟨h', y', bs', e4, w4, b4, n4, o4⟩ := lp_impl_Inv h64 hl hr all 0 ((D n).new 0 [.int .i64 0, .sl none 0]) (.sl none 0) [] (pv n 0) (n + 1) (by simp) (by simpa [runs] using OutS.none) (by simp) (by simp)
  refine ⟨y', h', e4, ⟨bs', w4.rep, w4.nd, fun b hb => ⟨b4 b hb, w4.rep.lt b hb⟩⟩, by simp at n4; omega, ?_⟩
  rw [o4 n (by omega)]
  exact new_g (D n) _ _
end
theorem fin2P {n d : Nat} {K : H} {y f : S} (hn : n < K.n) (g : K.g n = .rw 0 [.int .i64 0, .sl none 0]) (w : OwnF d y f (n + 1) K.n K) (hd : d ≤ 8) {c : Int} :
    (stK 2 K (pv n 0) (.agg [.int .i64 c, y]) fun h116 => (loadN 2 h116 (pv n 0)).bind fun c117 => frzV h116 (V.agg c117)) = some (.agg [.int .i64 c, f]) := by
  rw [stK_rw (z := 2) (e := 0) (o := 0) (b := n) (cs := [.int .i64 0, .sl none 0]) (r := [.int .i64 c, y]) hn g (.inr rfl) rfl (by simp)]
  rw [show setAt [.int .i64 0, .sl none 0] 0 [.int .i64 c, y] = [.int .i64 c, y] from rfl]
  rw [loadN_2 (b := n) (e := 0) (by rw [put_n]; omega) (put_g _ _ _), ob]
  obtain ⟨bs, w1, w2, w3⟩ := w
  refine OwnC.frz (d := d) (lo := n) (hi := K.n) (OwnF.c (pre := [.int .i64 c]) sc1 ⟨bs, w1.frame fun b hb => ?_, w2, fun b hb => ?_⟩) hd
  · have := w3 b hb
    exact ⟨by rw [put_n]; omega, put_g' (by omega)⟩
  · have := w3 b hb
    omega
theorem p_InverseRuns {l : List UInt8} {rs : List RunD} (hl : rs.length ≤ maxLen) : pureV (call Ev) Fn.impl_InverseRuns [lv (bys l), lv (runs rs)] = some (.agg [.int .i64 (apC l rs), .fs (runs (invs l rs))]) := by
  rw [pu_impl_InverseRuns, vcase_b, bys_len]
  unfold invs
  by_cases h64 : l.length = 64
  case neg =>
    rw [if_pos (by simp; omega)]
    unfold apC
    rw [if_pos h64]; rfl
  rw [if_neg (by simp; omega), pc (p_RunsFault hl) rfl]
  have hap : apC l rs = runsF rs := by unfold apC; rw [if_neg (by simp [h64])]
  rw [hap]
  simp only [gV1_s, gI_i, vcase_b]
  by_cases hf : runsF rs = 0
  case neg =>
    rw [if_pos (by simpa using hf), if_neg hf]; rfl
  obtain ⟨y, h1, e1, w1, n1, g1⟩ := f_Inv h64 (runsF_ok hf).1 (runsF_ok hf).2 0
  have hy : isNo y = false := by obtain ⟨bs, w, _⟩ := w1; exact w.isNo
  rw [if_neg (by simp [hf]), runs_len, e1, ob, lcase_done]
  simp only [gx0, gx1, ob]
  rw [cells2 hy]
  simp only [ldT, cond_true]
  rw [fin2P n1 g1 w1 (by omega), if_pos hf, hf]
theorem rsz_le : ∀ (rs : List RunD), (∀ r ∈ rs, r.l.length ≤ 64) → rsz rs ≤ rs.length * 65
  | [], _ => Nat.le_refl _
  | r :: rs, h => by
    have := rsz_le rs fun x hx => h x (by simp [hx])
    have := h r (by simp)
    rw [rsz_cons, List.length_cons, Nat.succ_mul]; omega
theorem invs_bd {l : List UInt8} {rs : List RunD} : (invs l rs).length ≤ 64 ∧ (∀ r ∈ invs l rs, r.l.length ≤ maxLen) ∧ rsz (invs l rs) ≤ 4160 := by
  have key : (invs l rs).length ≤ 64 ∧ ∀ r ∈ invs l rs, r.l.length ≤ 64 := by
    unfold invs
    split
    · rename_i hc
      obtain ⟨h1, h2, h3⟩ := apC_ok hc
      refine ⟨by simpa using h2, fun r hr => ?_⟩
      obtain ⟨x, hx, rfl⟩ := List.mem_map.1 hr
      have := h3 x hx
      rw [inv1_len this h1]
      unfold inR at this; omega
    · simp
  refine ⟨key.1, fun r hr => by have := key.2 r hr; unfold maxLen; omega, ?_⟩
  have := rsz_le _ key.2
  have := Nat.mul_le_mul_right 65 key.1
  omega
end Vm
/-
  The runs in which two pages differ.
-/
namespace Vm
open Go
section
variable (a b : List UInt8)
/-- the end of a run -/
def endd : Nat → Nat → Nat
  | 0, i => i
  | q + 1, i => if bt a i = bt b i then i else endd q (i + 1)
def cutB (i k : Nat) : List UInt8 := (b.take k).drop i
def dif : Nat → Nat → List RunD
  | 0, _ => []
  | q + 1, i => if 64 ≤ i then [] else if bt a i = bt b i then dif q (i + 1) else ⟨i, cutB b i (endd a b (64 - i) i)⟩ :: dif q (endd a b (64 - i) i + 1)
def difs : List RunD := dif a b 64 0
/-- .. as the model finds them -/
def spc : Nat → Nat → Bool → List RunD → List RunD
  | 0, _, _, acc => acc
  | q + 1, i, o, acc => if bt a i = bt b i then spc q (i + 1) false acc else
      spc q (i + 1) true (if o then acc.dropLast ++ (acc.getLast?.toList.map fun r => ⟨r.at_, r.l ++ [UInt8.ofNat (bt b i).toNat]⟩) else acc ++ [⟨i, [UInt8.ofNat (bt b i).toNat]⟩])
theorem endd_le : ∀ (q i : Nat), i ≤ endd a b q i ∧ endd a b q i ≤ i + q
  | 0, i => ⟨Nat.le_refl _, Nat.le_refl _⟩
  | q + 1, i => by
    have := endd_le q (i + 1)
    simp only [endd]
    split <;> omega
theorem endd_lt {q i : Nat} (h : ¬ bt a i = bt b i) : i < endd a b (q + 1) i := by
  simp only [endd, if_neg h]
  have := (endd_le a b q (i + 1)).1
  omega
theorem dif_fuel : ∀ (q q' i : Nat), 64 - i ≤ q → 64 - i ≤ q' → dif a b q i = dif a b q' i
  | 0, q', i, h1, h2 => by
    cases q' with
    | zero => rfl
    | succ q' => simp only [dif]; rw [if_pos (by omega)]
  | q + 1, 0, i, h1, h2 => by simp only [dif]; rw [if_pos (by omega)]
  | q + 1, q' + 1, i, h1, h2 => by
    simp only [dif]
    by_cases h : 64 ≤ i
    · rw [if_pos h, if_pos h]
    · rw [if_neg h, if_neg h, dif_fuel q q' (i + 1) (by omega) (by omega)]
      by_cases he : bt a i = bt b i
      · rw [if_pos he, if_pos he]
      · rw [if_neg he, if_neg he]
        have := endd_lt a b (q := 63 - i) he
        rw [show 63 - i + 1 = 64 - i from by omega] at this
        rw [dif_fuel q q' _ (by omega) (by omega)]
variable {a b}
theorem cutB_snoc {s i : Nat} (hb : i < b.length) (hs : s ≤ i) : cutB b s i ++ [UInt8.ofNat (bt b i).toNat] = cutB b s (i + 1) := by
  unfold cutB
  rw [List.take_add_one, List.getElem?_eq_getElem hb, Option.toList_some, List.drop_append_of_le_length (by rw [List.length_take]; omega)]
  congr 2
  simp only [bt, Int.toNat_natCast, List.getD, List.getElem?_eq_getElem hb, Option.getD_some]
  simp
theorem cutB_one {i : Nat} (hb : i < b.length) : cutB b i (i + 1) = [UInt8.ofNat (bt b i).toNat] := by
  rw [← cutB_snoc hb (Nat.le_refl i)]
  simp [cutB]
theorem spc_dif (hb : b.length = 64) : ∀ (q i : Nat), i + q = 64 → (∀ acc, spc a b q i false acc = acc ++ dif a b q i) ∧
    ∀ acc s, s < i → spc a b q i true (acc ++ [⟨s, cutB b s i⟩]) = acc ++ ⟨(s : Int), cutB b s (endd a b q i)⟩ :: dif a b q (endd a b q i + 1)
  | 0, i, hi => ⟨fun acc => by simp [spc, dif], fun acc s hs => by simp [spc, dif, endd]⟩
  | q + 1, i, hi => by
    obtain ⟨h1, h2⟩ := spc_dif hb q (i + 1) (by omega)
    have fu : ∀ k, i ≤ k → dif a b q (k + 1) = dif a b (q + 1) (k + 1) := fun k hk => dif_fuel a b _ _ _ (by omega) (by omega)
    refine ⟨fun acc => ?_, fun acc s hs => ?_⟩
    · simp only [spc, dif]
      rw [if_neg (show ¬ 64 ≤ i by omega)]
      by_cases he : bt a i = bt b i
      · rw [if_pos he, if_pos he, h1]
      · rw [if_neg he, if_neg he, if_neg (by simp), ← cutB_one (by omega), h2 acc i (by omega)]
        have e : endd a b (64 - i) i = endd a b q (i + 1) := by
          rw [show 64 - i = q + 1 from by omega]; simp only [endd, if_neg he]
        rw [e]
    · simp only [spc, endd]
      by_cases he : bt a i = bt b i
      · rw [if_pos he, if_pos he, h1, fu i (Nat.le_refl _)]; simp
      · rw [if_neg he, if_neg he, if_pos trivial]
        have e : ((acc ++ [(⟨(s : Int), cutB b s i⟩ : RunD)]).dropLast ++ ((acc ++ [(⟨(s : Int), cutB b s i⟩ : RunD)]).getLast?.toList.map fun r => (⟨r.at_, r.l ++ [UInt8.ofNat (bt b i).toNat]⟩ : RunD))) = acc ++ [⟨(s : Int), cutB b s (i + 1)⟩] := by
          simp [cutB_snoc (show i < b.length by omega) (show s ≤ i by omega)]
        rw [e, h2 acc s (by omega), fu _ (by have := (endd_le a b q (i + 1)).1; omega)]
end
section
variable {a b : List UInt8} (ha : a.length = 64) (hb : b.length = 64)
include ha hb
theorem lp_end {s5 : V} {s : Nat} {h : H} : ∀ (q i : Nat), i + q = 64 → Lp.impl_diff 2 [lv (bys a), lv (bys b), s5, iv .i64 s, iv .i64 i] h = some (.done [lv (bys a), lv (bys b), s5, iv .i64 s, iv .i64 (endd a b q i)] h) := by
  intro q
  induction q with
  | zero =>
    intro i hi
    rw [eq_impl_diff_l2, vcase_b, if_neg (by simp; omega), tidy_self]; rfl
  | succ q ih =>
    intro i hi
    rw [eq_impl_diff_l2, vcase_b, if_pos (by simp; omega), idxF_by (by omega) (by omega)]
    simp only [gx0, ob, gI_i]
    rw [idxF_by (by omega) (by omega)]
    simp only [gx0, ob, gI_i, vcase_b, endd]
    by_cases he : bt a i = bt b i
    · rw [if_neg (by simpa using he), if_pos he, tidy_self]
    · rw [if_pos (by simpa using he), if_neg he, w64 (by omega) (by omega), tidy_self, show (i : Int) + 1 = ((i + 1 : Nat) : Int) from by omega]
      exact ih (i + 1) (by omega)
theorem lp_diff : ∀ (q i : Nat) (h : H) (y : S) (bs : List Nat) (acc : List RunD) (n0 : Nat), 64 - i ≤ q → i ≤ 65 → OutS 2 1 y (runs acc) bs h → (∀ c ∈ bs, n0 ≤ c) → n0 ≤ h.n → acc.length ≤ i →
    ∃ h' y' bs', Lp.impl_diff 0 [lv (bys a), lv (bys b), .s y, iv .i64 i] h = some (.done [.s y'] h') ∧ OutS 2 1 y' (runs (acc ++ dif a b q i)) bs' h' ∧ (∀ c ∈ bs', n0 ≤ c) ∧ n0 ≤ h'.n := by
  intro q
  induction q with
  | zero =>
    intro i h y bs acc n0 hq hi w hbb hn hal
    rw [eq_impl_diff_l0, vcase_b, if_neg (by simp; omega), tidy_self]
    exact ⟨h, y, bs, rfl, by simpa [dif] using w, hbb, hn⟩
  | succ q ih =>
    intro i h y bs acc n0 hq hi w hbb hn hal
    rw [eq_impl_diff_l0, vcase_b]
    by_cases h64 : 64 ≤ i
    · rw [if_neg (by simp; omega), tidy_self]
      refine ⟨h, y, bs, rfl, ?_, hbb, hn⟩
      simp only [dif]
      rw [if_pos h64]; simpa using w
    rw [if_pos (by simp; omega), idxF_by (by omega) (by omega)]
    simp only [gx0, ob, gI_i]
    rw [idxF_by (by omega) (by omega)]
    simp only [gx0, ob, gI_i, vcase_b]
    by_cases he : bt a i = bt b i
    · rw [if_pos (by simpa using he), w64 (by omega) (by omega), tidy_self, show (i : Int) + 1 = ((i + 1 : Nat) : Int) from by omega]
      obtain ⟨h', y', bs', e1, w1, b1, n1⟩ := ih (i + 1) h y bs acc n0 (by omega) (by omega) w hbb hn (by omega)
      refine ⟨h', y', bs', e1, ?_, b1, n1⟩
      simp only [dif]
      rw [if_neg h64, if_pos he]; exact w1
    rw [if_neg (by simpa using he), lp_end ha hb (64 - i) i (by omega)]
    have hk := endd_le a b (64 - i) i
    have hk2 := endd_lt a b (q := 63 - i) he
    rw [show 63 - i + 1 = 64 - i from by omega] at hk2
    generalize hkk : endd a b (64 - i) i = k at hk hk2 ⊢
    simp only [ob, lcase_done, gx0, gx1, gV1_s, gF_f, gI_i]
    rw [slF_lh (by omega) (by omega)]
    obtain ⟨v, h1, e1, w1, nn⟩ := f_copied (m := cutB b i k) (by unfold cutB; rw [List.length_drop, List.length_take]; unfold lim; omega) h.n
    obtain ⟨e2, w2, u2, n2, x2⟩ := new_bys e1 w1 nn
    rw [show (b.take k).drop i = cutB b i k from rfl, e2]
    generalize h.over h1 = K at w2 u2 n2 x2 ⊢
    rw [cellsR rfl]
    have wk : OutS 2 1 y (runs acc) bs K := w.frame fun c hc => by
      have := w.rep.lt c hc
      exact ⟨by omega, u2.g c (by omega)⟩
    have wr := run_row (a := (i : Int)) (N := 0) w2
    obtain ⟨h2, bs2, e4, w3, n3, f3, o3, q3, _⟩ := app_row wk wr rfl (by omega) (by simp) (fun c hc hh => by have := w.rep.lt c hc; have := List.mem_singleton.1 hh; omega) (by simp; unfold lim; omega)
    rw [e4, ob]
    dsimp only
    rw [w64 (n := (k : Int) + 1) (by omega) (by omega), show (k : Int) + 1 = ((k + 1 : Nat) : Int) from by omega, no_tidy_v (by simp [belV, belS]; omega)]
    rw [← runs_snoc] at w3
    obtain ⟨h', y', bs', e5, w5, b5, n5⟩ := ih (k + 1) h2 _ bs2 _ n0 (by omega) (by omega) w3 (fun c hc => by
      rcases f3 c hc with h1 | h1 | h1
      · omega
      · exact hbb c h1
      · have := List.mem_singleton.1 h1; omega) (by omega) (by rw [List.length_append, List.length_singleton]; omega)
    refine ⟨h', y', bs', e5, ?_, b5, n5⟩
    simp only [dif]
    rw [if_neg h64, if_neg he, hkk]
    simpa using w5
theorem p_diff : pureV (call Ev) Fn.impl_diff [lv (bys a), lv (bys b)] = some (lv (runs (difs a b))) := by
  obtain ⟨h', y', bs', e1, w1, b1, n1⟩ := lp_diff ha hb 64 0 (D 0) (.sl none 0) [] [] 0 (by omega) (by omega) (by simpa [runs] using OutS.none) (by simp) (by simp) (by simp)
  rw [pu_impl_diff, show iv .i64 0 = iv .i64 ((0 : Nat) : Int) from rfl, e1, ob, lcase_done]
  simp only [gx0, ob]
  have := w1.rep.frz (k := 8) (by omega)
  rw [frzV_s, this]
  rfl
end
end Vm
/-
  The runs in which two pages differ, as the model finds them.
-/
namespace Vm
open Go
/-- the last row of a slice of runs -/
theorem last_run {y : S} {acc : List RunD} {r : RunD} {bs : List Nat} {h : H} (w : OutS 2 1 y (runs (acc ++ [r])) bs h) :
    ∃ bb cs yl b0 bl, y = .sl (some (bb, 0)) (acc.length + 1) ∧ h.g bb = .rw 2 (cs ++ [.int .i64 r.at_, yl]) ∧ cs.length = acc.length * 2 ∧ bs = bb :: (b0 ++ bl) ∧ bb < h.n ∧ RepL (Rep h 1) cs (runs acc).flatten b0 ∧ Rep h 1 yl (.fs (bys r.l)) bl := by
  rcases w.rep with ⟨⟨h3, h4⟩ | ⟨h3, h4⟩, h5⟩ | ⟨b, z', cs, rows', bss, h3, h4, h5, h6, h7, h8, h9, h10⟩
  · rw [← h4] at h3; exact h3.elim
  · injection h4 with h4
    rw [runs_snoc] at h4
    simp at h4
  · injection h4 with h4
    subst h4
    have hzz : z' = 2 := by
      have := h9 r.cs (by rw [runs_snoc]; simp)
      exact this.symm
    subst hzz
    rw [runs_snoc, List.flatten_append] at h10
    obtain ⟨c1, c2, b0, bl, rfl, rfl, w1, w2⟩ := h10.split
    have w2' : RepL (Rep h 1) c2 ([.int .i64 r.at_] ++ [.fs (bys r.l)]) bl := by simpa using w2
    obtain ⟨y1, y2, b1, b2, rfl, rfl, w3, w4⟩ := w2'.split
    obtain ⟨rfl, rfl⟩ := w3.of_sc sc1
    cases w4 with
    | @cons yl f bl' ys fs bss2 h11 h12 =>
      cases h12
      refine ⟨b, c1, yl, b0, bl', by rw [h3]; simp, h8, ?_, by rw [h5]; simp, h6, w1, h11⟩
      have := w1.len
      rw [flat_len runs_row, runs_len] at this
      exact this
theorem last_put {bb : Nat} {acc : List RunD} {a : Int} {l : List UInt8} {cs : List S} {yl : S} {b0 bl : List Nat} {h : H} (hb : bb < h.n) (hg : h.g bb = .rw 2 (cs ++ [.int .i64 a, yl])) (w1 : RepL (Rep h 1) cs (runs acc).flatten b0) (w2 : Rep h 1 yl (.fs (bys l)) bl) (hd : (bb :: (b0 ++ bl)).Nodup) :
    OutS 2 1 (.sl (some (bb, 0)) (acc.length + 1)) (runs (acc ++ [⟨a, l⟩])) (bb :: (b0 ++ bl)) h := by
  have wr : RepL (Rep h 1) [.int .i64 a, yl] (RunD.cs ⟨a, l⟩) bl := by
    have := RepL.cons (bs := []) (Rep.sc (h := h) (d := 1) (s := .int .i64 a) trivial) (RepL.cons w2 .nil)
    simpa using this
  refine ⟨?_, hd, .inr ⟨bb, _, by simp, hg⟩, runs_row⟩
  have := Rep.sl (d := 1) (h := h) (b := bb) (z := 2) (rows := runs (acc ++ [⟨a, l⟩])) (bss := b0 ++ bl) hb (by omega) hg runs_row (by rw [runs_snoc, List.flatten_append]; exact w1.append (by simpa using wr))
  simpa using this
theorem bys_snoc (l : List UInt8) (c : UInt8) : bys (l ++ [c]) = bys l ++ [[cell8 c]] := by simp [bys]
/-- one byte more behind bytes of one's own -/
theorem app_one {h : H} {y : S} {l : List UInt8} {bs : List Nat} {c : UInt8} (w : Rep h 1 y (.fs (bys l)) bs) (hl0 : y = .sl none 0 ∨ l ≠ []) (hd : bs.Nodup) (hl : l.length + 1 ≤ lim) :
    ∃ h' bs', appS 1 (h.new 1 [cell8 c]) (.s y) (sv h.n 0 1) = some (sv (h.n + 1) 0 (l.length + 1), h') ∧ Rep h' 1 (.sl (some (h.n + 1, 0)) (l.length + 1)) (.fs (bys (l ++ [c]))) bs' ∧ bs'.Nodup ∧ h'.n = h.n + 2 ∧ (∀ d ∈ bs', d = h.n + 1 ∨ d ∈ bs) ∧ (∀ d, d < h.n → d ∉ bs → h'.g d = h.g d) := by
  have wo : OutS 1 0 y (bys l) bs h := by
    refine ⟨w, hd, ?_, bys_row⟩
    rcases hl0 with h1 | h1
    · exact .inl h1
    · rcases w.of_bys with ⟨h2, _⟩ | ⟨b, w1, _⟩
      · exact absurd h2 h1
      · refine .inr ⟨b, _, ?_, w1.g⟩
        have := w1.v
        injection this with this
        rw [this, bys_len]
  obtain ⟨h', bs', e1, w1, n1, f1, o1, _, _⟩ := app_row (row := [cell8 c]) (fr := [cell8 c]) (br := []) wo (RepL.cons (bs := []) (Rep.sc trivial) .nil) rfl (by omega) (by simp) (by simp) (by simpa using hl)
  rw [bys_len] at e1 w1
  refine ⟨h', bs', e1, by rw [bys_snoc]; exact w1.rep, w1.nd, n1, fun d hd => ?_, o1⟩
  rcases f1 d hd with h1 | h1 | h1
  · exact .inl h1
  · exact .inr h1
  · simp at h1
theorem of8 {l : List UInt8} {i : Nat} : S.int .u8 (bt l i) = cell8 (UInt8.ofNat (bt l i).toNat) := by
  have := bt_lt l i
  have := bt_nn l i
  unfold cell8
  congr 1
  simp
  omega
section
variable {a b : List UInt8} (ha : a.length = 64) (hb : b.length = 64)
include ha hb
theorem lp_l3Diff (n0 : Nat) : ∀ (q i : Nat) (h : H) (y : S) (bs : List Nat) (acc : List RunD) (o : Bool), i + q = 64 → OutS 2 1 y (runs acc) bs h → (o = true → acc ≠ []) → acc.length ≤ i → (∀ r ∈ acc, r.l ≠ [] ∧ r.l.length ≤ i) → (∀ c ∈ bs, n0 ≤ c) → n0 ≤ h.n →
    ∃ h' y' bs', Lp.spec_l3Diff 0 [lv (bys a), lv (bys b), .s y, bv o, iv .i64 i] h = some (.done [.s y'] h') ∧ OutS 2 1 y' (runs (spc a b q i o acc)) bs' h' ∧ (∀ c ∈ bs', n0 ≤ c) ∧ n0 ≤ h'.n := by
  intro q
  induction q with
  | zero =>
    intro i h y bs acc o hi w ho hal hne hbb0 hn0
    rw [eq_spec_l3Diff_l0, vcase_b, bys_len, if_neg (by simp; omega), tidy_self]
    exact ⟨h, y, bs, rfl, by simpa [spc] using w, hbb0, hn0⟩
  | succ q ih =>
    intro i h y bs acc o hi w ho hal hne hbb0 hn0
    rw [eq_spec_l3Diff_l0, vcase_b, bys_len, if_pos (by simp; omega), idxF_by (by omega) (by omega)]
    simp only [gx0, ob, gI_i]
    have eb : ∀ {R : Type} {k : List S → Option R}, idxF 1 (bys b) (i : Int) k = k [.int .u8 (bt b i)] := idxF_by (by omega) (by omega)
    rw [eb]
    simp only [gx0, ob, gI_i, vcase_b, spc]
    by_cases he : bt a i = bt b i
    · rw [if_pos (by simpa using he), if_pos he, w64 (by omega) (by omega), tidy_self, show (i : Int) + 1 = ((i + 1 : Nat) : Int) from by omega]
      exact ih (i + 1) h y bs acc false (by omega) w (by simp) (by omega) (fun r hr => ⟨(hne r hr).1, by have := (hne r hr).2; omega⟩) hbb0 hn0
    rw [if_neg (by simpa using he), if_neg he, w64 (n := (i : Int) + 1) (by omega) (by omega), show (i : Int) + 1 = ((i + 1 : Nat) : Int) from by omega]
    generalize hc : UInt8.ofNat (bt b i).toNat = c
    have hcell : S.int .u8 (bt b i) = cell8 c := by rw [← hc]; exact of8
    cases o with
    | false =>
      rw [if_pos (by simp), if_neg (by simp)]
      have wr : RepL (Rep h 1) [.int .i64 i, .sl none 0] (RunD.cs ⟨(i : Int), []⟩) [] := RepL.cons (bs := []) (Rep.sc trivial) (RepL.cons (bs := []) Rep.nil .nil)
      obtain ⟨h2, bs2, e4, w3, n3, f3, o3, q3, cs0, gl⟩ := app_row w wr rfl (by omega) (by simp) (by simp) (by simp; unfold lim; omega)
      rw [e4, ob]
      simp only [lenV, ob, gV1_s, gI_i]
      rw [← runs_snoc] at w3
      rw [runs_len] at w3 ⊢
      rw [w64 (by omega) (by omega), show ((acc.length + 1 : Nat) : Int) - 1 = ((acc.length : Nat) : Int) from by omega, idxK_sv (by omega)]
      simp only [notNil, padd, ob]
      obtain ⟨bb, cs, yl, b0, bl, e5, g5, l5, n5, r5, w5, w6⟩ := last_run w3
      injection e5 with e5 _
      injection e5 with e5
      injection e5 with e5 _
      subst e5
      have hyl : yl = .sl none 0 := by
        rw [gl] at g5
        injection g5 with _ g5
        have := (List.append_inj' g5 rfl).2
        simp only [List.cons.injEq, and_true, true_and] at this
        exact this.symm
      subst hyl
      have hd5 := w3.nd
      rw [n5] at hd5
      have hlt := w3.rep.lt
      have ld : load1 h2 (pv (h.n + 1) (acc.length * 2 + 1)) = some (.sl none 0) := by
        simp only [load1, H.cells, show h.n + 1 < h2.n by omega, if_true, g5, Blk.cells]
        rw [List.getElem?_append_right (by omega), l5]; simp
      simp only [ldK, ldT, cond_false, ld, ob]
      rw [eb]
      simp only [gx0, ob, gI_i]
      rw [hchk_of (HExt.new (HExt.refl _)), hcell]
      obtain ⟨h3, bl', e6, w7, d7, n7, f7, o7⟩ := app_one (c := c) (h := h2) (l := []) w6 (.inl rfl) (by
        have := (List.nodup_cons.1 hd5).2
        exact (List.nodup_append.1 this).2.1) (by unfold lim; simp)
      simp only [ln0, Nat.zero_add, List.nil_append] at e6 w7
      rw [e6, ob]
      dsimp only
      have hbl2 : ∀ d ∈ bl, d < h2.n := fun d hd => hlt d (by rw [n5]; simp [hd])
      have hbb : h.n + 1 ∉ bl := fun hh => (List.nodup_cons.1 hd5).1 (by simp [hh])
      have g6 := (o7 (h.n + 1) (by omega) hbb).trans g5
      rw [stK_rw (z := 1) (e := 2) (o := acc.length * 2 + 1) (b := h.n + 1) (cs := cs ++ [.int .i64 i, .sl none 0]) (r := [.sl (some (h2.n + 1, 0)) 1]) (by omega) g6 (.inl ⟨_, rfl, rfl, rfl⟩) rfl (by simp; omega)]
      have hset : setAt (cs ++ [.int .i64 (i : Int), .sl none 0]) (acc.length * 2 + 1) [S.sl (some (h2.n + 1, 0)) 1] = cs ++ [.int .i64 i, .sl (some (h2.n + 1, 0)) 1] := by
        rw [show cs ++ [S.int .i64 (i : Int), .sl none 0] = (cs ++ [.int .i64 i]) ++ [.sl none 0] from by simp, setAt_at (z := 1) (by simp; omega) rfl]; simp
      rw [hset, no_tidy_v (by simp [belV, belS])]
      have w8 : OutS 2 1 (.sl (some (h.n + 1, 0)) (acc.length + 1)) (runs (acc ++ [⟨(i : Int), [c]⟩])) ((h.n + 1) :: (b0 ++ bl')) (h3.put (h.n + 1) (.rw 2 (cs ++ [.int .i64 i, .sl (some (h2.n + 1, 0)) 1]))) := by
        have hb0 : ∀ d ∈ b0, d < h2.n ∧ d ≠ h.n + 1 ∧ d ∉ bl := fun d hd => by
          refine ⟨hlt d (by rw [n5]; simp [hd]), fun hh => (List.nodup_cons.1 hd5).1 (by rw [← hh]; simp [hd]), fun hh => ?_⟩
          exact (List.nodup_append.1 (List.nodup_cons.1 hd5).2).2.2 d hd d hh rfl
        have hbl' : ∀ d ∈ bl', d ≠ h.n + 1 := fun d hd hh => by
          rcases f7 d hd with h1 | h1
          · omega
          · exact hbb (hh ▸ h1)
        refine last_put (by rw [put_n]; omega) (put_g _ _ _) (w5.frame fun d hd => ?_) (w7.frame fun d hd => ?_) ?_
        · obtain ⟨q1, q2, q3⟩ := hb0 d hd
          exact ⟨by rw [put_n]; omega, (put_g' q2).trans (o7 d q1 q3)⟩
        · exact ⟨by rw [put_n]; exact w7.lt d hd, put_g' (hbl' d hd)⟩
        · refine List.nodup_cons.2 ⟨fun hh => ?_, List.nodup_append.2 ⟨(List.nodup_append.1 (List.nodup_cons.1 hd5).2).1, d7, fun d hd d' hd' hh => ?_⟩⟩
          · rcases List.mem_append.1 hh with hh | hh
            · exact (hb0 _ hh).2.1 rfl
            · exact hbl' _ hh rfl
          · subst hh
            rcases f7 d hd' with h1 | h1
            · have := (hb0 d hd).1; omega
            · exact (hb0 d hd).2.2 h1
      exact ih (i + 1) _ _ _ (acc ++ [⟨(i : Int), [c]⟩]) true (by omega) w8 (by simp) (by rw [List.length_append, List.length_singleton]; omega) (fun r hr => by
        rcases List.mem_append.1 hr with hr | hr
        · exact ⟨(hne r hr).1, by have := (hne r hr).2; omega⟩
        · rw [List.mem_singleton.1 hr]; simp) (fun d hd => by
          have hlow : ∀ d ∈ bs2, n0 ≤ d := fun d hd => by
            rcases f3 d hd with h1 | h1 | h1
            · omega
            · exact hbb0 d h1
            · simp at h1
          rcases List.mem_cons.1 hd with rfl | hd
          · omega
          rcases List.mem_append.1 hd with hd | hd
          · exact hlow d (by rw [n5]; simp [hd])
          rcases f7 d hd with h1 | h1
          · omega
          · exact hlow d (by rw [n5]; simp [h1])) (by rw [put_n]; omega)
    | true =>
      rw [if_neg (by simp), if_pos (show true = true from rfl)]
      obtain ⟨acc0, r, rfl⟩ : ∃ acc0 r, acc = acc0 ++ [r] := by
        have := ho rfl
        exact ⟨acc.dropLast, acc.getLast this, (List.dropLast_concat_getLast this).symm⟩
      have hal' : acc0.length + 1 ≤ i := by simpa using hal
      obtain ⟨bb, cs, yl, b0, bl, e5, g5, l5, n5, r5, w5, w6⟩ := last_run w
      subst e5
      have hd5 := w.nd
      rw [n5] at hd5
      have hlt := w.rep.lt
      simp only [lenV, ob, gV1_s, gI_i]
      rw [w64 (by omega) (by omega), show ((acc0.length + 1 : Nat) : Int) - 1 = ((acc0.length : Nat) : Int) from by omega, idxK_sv (by omega)]
      simp only [notNil, padd, ob]
      have ld : load1 h (pv bb (acc0.length * 2 + 1)) = some yl := by
        simp only [load1, H.cells, r5, if_true, g5, Blk.cells]
        rw [List.getElem?_append_right (by omega), l5]; simp
      simp only [ldK, ldT, cond_false, ld, ob]
      rw [eb]
      simp only [gx0, ob, gI_i]
      rw [hchk_of (HExt.new (HExt.refl _)), hcell]
      have hrr := hne r (by simp)
      obtain ⟨h3, bl', e6, w7, d7, n7, f7, o7⟩ := app_one (c := c) (h := h) (l := r.l) w6 (.inr hrr.1) (by
        have := (List.nodup_cons.1 hd5).2
        exact (List.nodup_append.1 this).2.1) (by unfold lim; omega)
      rw [e6, ob]
      dsimp only
      have hbl2 : ∀ d ∈ bl, d < h.n := fun d hd => hlt d (by rw [n5]; simp [hd])
      have hbb : bb ∉ bl := fun hh => (List.nodup_cons.1 hd5).1 (by simp [hh])
      have g6 := (o7 bb r5 hbb).trans g5
      rw [stK_rw (z := 1) (e := 2) (o := acc0.length * 2 + 1) (b := bb) (cs := cs ++ [.int .i64 r.at_, yl]) (r := [.sl (some (h.n + 1, 0)) (r.l.length + 1)]) (by omega) g6 (.inl ⟨_, rfl, rfl, rfl⟩) rfl (by simp; omega)]
      have hset : setAt (cs ++ [.int .i64 r.at_, yl]) (acc0.length * 2 + 1) [S.sl (some (h.n + 1, 0)) (r.l.length + 1)] = cs ++ [.int .i64 r.at_, .sl (some (h.n + 1, 0)) (r.l.length + 1)] := by
        rw [show cs ++ [S.int .i64 r.at_, yl] = (cs ++ [.int .i64 r.at_]) ++ [yl] from by simp, setAt_at (z := 1) (by simp; omega) rfl]; simp
      rw [hset, no_tidy (b := bb) r5 (put_g _ _ _) (by simp [belS]) (by
        exact w.rep.bel hlt bb (by rw [n5]; simp))]
      have w8 : OutS 2 1 (.sl (some (bb, 0)) (acc0.length + 1)) (runs (acc0 ++ [⟨r.at_, r.l ++ [c]⟩])) (bb :: (b0 ++ bl')) (h3.put bb (.rw 2 (cs ++ [.int .i64 r.at_, .sl (some (h.n + 1, 0)) (r.l.length + 1)]))) := by
        have hb0 : ∀ d ∈ b0, d < h.n ∧ d ≠ bb ∧ d ∉ bl := fun d hd => by
          refine ⟨hlt d (by rw [n5]; simp [hd]), fun hh => (List.nodup_cons.1 hd5).1 (by rw [← hh]; simp [hd]), fun hh => ?_⟩
          exact (List.nodup_append.1 (List.nodup_cons.1 hd5).2).2.2 d hd d hh rfl
        have hbl' : ∀ d ∈ bl', d ≠ bb := fun d hd hh => by
          rcases f7 d hd with h1 | h1
          · omega
          · exact hbb (hh ▸ h1)
        refine last_put (by rw [put_n]; omega) (put_g _ _ _) (w5.frame fun d hd => ?_) (w7.frame fun d hd => ?_) ?_
        · obtain ⟨q1, q2, q3⟩ := hb0 d hd
          exact ⟨by rw [put_n]; omega, (put_g' q2).trans (o7 d q1 q3)⟩
        · exact ⟨by rw [put_n]; exact w7.lt d hd, put_g' (hbl' d hd)⟩
        · refine List.nodup_cons.2 ⟨fun hh => ?_, List.nodup_append.2 ⟨(List.nodup_append.1 (List.nodup_cons.1 hd5).2).1, d7, fun d hd d' hd' hh => ?_⟩⟩
          · rcases List.mem_append.1 hh with hh | hh
            · exact (hb0 _ hh).2.1 rfl
            · exact hbl' _ hh rfl
          · subst hh
            rcases f7 d hd' with h1 | h1
            · have := (hb0 d hd).1; omega
            · exact (hb0 d hd).2.2 h1
      have e9 : ((acc0 ++ [r]).dropLast ++ ((acc0 ++ [r]).getLast?.toList.map fun r => (⟨r.at_, r.l ++ [c]⟩ : RunD))) = acc0 ++ [⟨r.at_, r.l ++ [c]⟩] := by simp
      rw [e9]
      exact ih (i + 1) _ _ _ (acc0 ++ [⟨r.at_, r.l ++ [c]⟩]) true (by omega) w8 (by simp) (by rw [List.length_append, List.length_singleton]; omega) (fun x hx => by
        rcases List.mem_append.1 hx with hx | hx
        · have := hne x (by simp [hx])
          exact ⟨this.1, by omega⟩
        · rw [List.mem_singleton.1 hx]
          exact ⟨by simp, by simp only [List.length_append, List.length_singleton]; omega⟩) (fun d hd => by
          rcases List.mem_cons.1 hd with rfl | hd
          · exact hbb0 _ (by rw [n5]; simp)
          rcases List.mem_append.1 hd with hd | hd
          · exact hbb0 d (by rw [n5]; simp [hd])
          rcases f7 d hd with h1 | h1
          · omega
          · exact hbb0 d (by rw [n5]; simp [h1])) (by rw [put_n]; omega)
theorem f_l3Diff (n : Nat) : ∃ y h' bs, call Ev Fn.spec_l3Diff [lv (bys a), lv (bys b)] (D n) = some (.s y, h') ∧ OutS 2 1 y (runs (difs a b)) bs h' ∧ (∀ c ∈ bs, n ≤ c) ∧ n ≤ h'.n := by
  have w0 : OutS 2 1 (.sl (some (n, 0)) 0) (runs []) [n] ((D n).new 2 []) := by
    refine ⟨?_, by simp, .inr ⟨n, [], rfl, new_g (D n) _ _⟩, runs_row⟩
    exact Rep.sl (d := 1) (h := (D n).new 2 []) (b := n) (z := 2) (cs := []) (rows := []) (bss := []) (by simp) (by omega) (new_g (D n) _ _) (by simp) .nil
  obtain ⟨h', y', bs', e1, w1, b1, n1⟩ := lp_l3Diff ha hb n 64 0 _ _ _ [] false (by omega) w0 (by simp) (by simp) (by simp) (by simp) (by simp)
  rw [(spc_dif hb 64 0 (by omega)).1] at w1
  rw [eq_spec_l3Diff, show iv .i64 0 = iv .i64 ((0 : Nat) : Int) from rfl, D_n, e1, ob, lcase_done]
  simp only [gx0, ob]
  exact ⟨y', h', bs', rfl, w1, b1, n1⟩
theorem p_l3Diff : pureV (call Ev) Fn.spec_l3Diff [lv (bys a), lv (bys b)] = some (lv (runs (difs a b))) := by
  obtain ⟨y, h', bs, e, w, _, _⟩ := f_l3Diff ha hb 0
  unfold pureV
  rw [e, ob, frzV_s, w.rep.frz (k := 8) (by omega)]
  rfl
end
def dfC (a b : List UInt8) : Int := if a.length = 64 ∧ b.length = 64 then 0 else 1
def dfL (a b : List UInt8) : List RunD := if a.length = 64 ∧ b.length = 64 then difs a b else []
theorem dif_bd {a b : List UInt8} (hb : b.length = 64) : ∀ (q i : Nat), i ≤ 65 → (dif a b q i).length ≤ 65 - i ∧ ∀ r ∈ dif a b q i, r.l.length ≤ 64
  | 0, i, _ => by simp [dif]
  | q + 1, i, hi => by
    simp only [dif]
    split
    · simp
    rename_i h64
    split
    · have := dif_bd (a := a) hb q (i + 1) (by omega)
      exact ⟨by omega, this.2⟩
    rename_i he
    have h1 := endd_lt a b (q := 63 - i) he
    rw [show 63 - i + 1 = 64 - i from by omega] at h1
    have h2 := (endd_le a b (64 - i) i).2
    have := dif_bd (a := a) hb q (endd a b (64 - i) i + 1) (by omega)
    refine ⟨by rw [List.length_cons]; omega, fun r hr => ?_⟩
    rcases List.mem_cons.1 hr with rfl | hr
    · simp only [cutB, List.length_drop, List.length_take]; omega
    · exact this.2 r hr
theorem dfL_bd {a b : List UInt8} : (dfL a b).length ≤ 65 ∧ (∀ r ∈ dfL a b, r.l.length ≤ maxLen) ∧ rsz (dfL a b) ≤ 4225 := by
  have key : (dfL a b).length ≤ 65 ∧ ∀ r ∈ dfL a b, r.l.length ≤ 64 := by
    unfold dfL difs
    split
    · rename_i h; exact dif_bd h.2 64 0 (by omega)
    · simp
  refine ⟨key.1, fun r hr => by have := key.2 r hr; unfold maxLen; omega, ?_⟩
  have := rsz_le _ key.2
  have := Nat.mul_le_mul_right 65 key.1
  omega
theorem p_spec_DiffBytes {a b : List UInt8} : pureV (call Ev) Fn.spec_DiffBytes [lv (bys a), lv (bys b)] = some (.agg [.int .i64 (dfC a b), .fs (runs (dfL a b))]) := by
  rw [pu_spec_DiffBytes, vcase_b, vcase_b, bys_len, bys_len]
  unfold dfC dfL
  by_cases h1 : a.length = 64
  · rw [if_neg (by simp; omega)]
    by_cases h2 : b.length = 64
    · rw [if_neg (by simp; omega), if_pos ⟨h1, h2⟩, if_pos ⟨h1, h2⟩, p_l3Diff h1 h2]; simp
    · rw [if_pos (by simp; omega), if_neg (fun hh => h2 hh.2), if_neg (fun hh => h2 hh.2)]; rfl
  · rw [if_pos (by simp; omega), if_neg (fun hh => h1 hh.1), if_neg (fun hh => h1 hh.1)]; rfl
theorem p_DiffBytes {a b : List UInt8} : pureV (call Ev) Fn.impl_DiffBytes [lv (bys a), lv (bys b)] = some (.agg [.int .i64 (dfC a b), .fs (runs (dfL a b))]) := by
  rw [pu_impl_DiffBytes, vcase_b, bys_len, bys_len, vcase_b]
  unfold dfC dfL
  by_cases h1 : a.length = 64
  · rw [if_neg (by simp; omega)]
    by_cases h2 : b.length = 64
    · rw [if_neg (by simp; omega), if_pos ⟨h1, h2⟩, if_pos ⟨h1, h2⟩, p_diff h1 h2]
      simp only [ob, gV1_s, gF_f]
    · rw [if_pos (by simp; omega), if_neg (fun hh => h2 hh.2), if_neg (fun hh => h2 hh.2)]; rfl
  · rw [if_pos (by simp; omega), if_neg (fun hh => h1 hh.1), if_neg (fun hh => h1 hh.1)]; rfl
end Vm
/-
  What turned makes the one page the other one: the plain law of runs.
-/
namespace Vm
open Go
section
variable (a b c : List UInt8)
theorem endd_ne : ∀ (q i j : Nat), i ≤ j → j < endd a b q i → ¬ bt a j = bt b j
  | 0, i, j, h1, h2 => by simp only [endd] at h2; omega
  | q + 1, i, j, h1, h2 => by
    simp only [endd] at h2
    split at h2
    · omega
    · rename_i hn
      by_cases he : j = i
      · subst he; exact hn
      · exact endd_ne q (i + 1) j (by omega) h2
theorem endd_eq : ∀ (q i : Nat), endd a b q i < i + q → bt a (endd a b q i) = bt b (endd a b q i)
  | 0, i, h => by simp only [endd] at h; omega
  | q + 1, i, h => by
    simp only [endd] at h ⊢
    split
    · assumption
    · rename_i hn
      rw [if_neg hn] at h
      exact endd_eq q (i + 1) (by omega)
/-- the runs, with bytes of a third page -/
def dfc : Nat → Nat → List RunD
  | 0, _ => []
  | q + 1, i => if 64 ≤ i then [] else if bt a i = bt b i then dfc q (i + 1) else ⟨i, cutB c i (endd a b (64 - i) i)⟩ :: dfc q (endd a b (64 - i) i + 1)
theorem dfc_self : ∀ (q i : Nat), dfc a b b q i = dif a b q i
  | 0, i => rfl
  | q + 1, i => by
    simp only [dfc, dif, dfc_self q]
theorem cut_len {i k : Nat} (hk : k ≤ c.length) : (cutB c i k).length = k - i := by
  unfold cutB
  rw [List.length_drop, List.length_take]; omega
theorem bt_cut {i k j : Nat} (h1 : i ≤ j) (h2 : j < k) : bt (cutB c i k) ((j - i : Nat) : Int) = bt c (j : Int) := by
  unfold bt cutB
  simp only [Int.toNat_natCast, List.getD]
  rw [List.getElem?_drop, show i + (j - i) = j from by omega, List.getElem?_take_of_lt h2]
theorem dfc_inv (hb : b.length = 64) : ∀ (q i : Nat), i ≤ 65 → (dif a b q i).map (inv1 c) = dfc a b c q i
  | 0, i, _ => rfl
  | q + 1, i, hi => by
    simp only [dfc, dif]
    split
    · rfl
    rename_i h64
    split
    · exact dfc_inv hb q (i + 1) (by omega)
    have h2 := endd_le a b (64 - i) i
    rw [List.map_cons, dfc_inv hb q _ (by omega)]
    congr 1
    unfold inv1
    simp only [Int.toNat_natCast]
    rw [cut_len b (by omega), show i + (endd a b (64 - i) i - i) = endd a b (64 - i) i from by omega]
    rfl
theorem dfc_ok (hc : c.length = 64) : ∀ (q i : Nat) (m : Int), i ≤ 65 → m ≤ i → runsG m (dfc a b c q i) = 0 ∧ (dfc a b c q i).length ≤ 64 - i
  | 0, i, m, _, _ => ⟨rfl, by simp [dfc]⟩
  | q + 1, i, m, hi, hm => by
    simp only [dfc]
    split
    · exact ⟨rfl, by simp⟩
    rename_i h64
    split
    · have := dfc_ok hc q (i + 1) m (by omega) (by omega)
      exact ⟨this.1, by omega⟩
    rename_i he
    have h2 := endd_le a b (64 - i) i
    have h1 := endd_lt a b (q := 63 - i) he
    rw [show 63 - i + 1 = 64 - i from by omega] at h1
    generalize endd a b (64 - i) i = k at h1 h2 ⊢
    have hl := cut_len c (i := i) (k := k) (by omega)
    have ih := dfc_ok hc q (k + 1) ((k : Int) + 1) (by omega) (by omega)
    refine ⟨?_, by rw [List.length_cons]; omega⟩
    unfold runsG
    simp only [hl]
    rw [if_pos, if_neg (by omega), show (i : Int) + ((k - i : Nat) : Int) + 1 = (k : Int) + 1 from by omega]
    · exact ih.1
    · simp only [Bool.and_eq_true, decide_eq_true_eq]
      exact ⟨⟨inB_iff.2 ⟨by omega, by omega⟩, inB_iff.2 ⟨by omega, by omega⟩⟩, by omega⟩
theorem dfc_f (hc : c.length = 64) : runsF (dfc a b c 64 0) = 0 := by
  have := dfc_ok a b c hc 64 0 0 (by omega) (by omega)
  unfold runsF
  rw [if_neg (by omega)]
  exact this.1
theorem apy_dfc (hc : c.length = 64) : ∀ (q i : Nat) (m : List UInt8), 64 - i ≤ q → i ≤ 65 → m.length = 64 → ∀ j : Nat, j < 64 → bt (apy m (dfc a b c q i)) (j : Int) = if i ≤ j ∧ ¬ bt a j = bt b j then bt c j else bt m j
  | 0, i, m, hq, hi, hm, j, hj => by
    rw [if_neg (by omega)]; rfl
  | q + 1, i, m, hq, hi, hm, j, hj => by
    simp only [dfc]
    split
    · rw [if_neg (by omega)]; rfl
    rename_i h64
    split
    · rename_i he
      rw [apy_dfc hc q (i + 1) m (by omega) (by omega) hm j hj]
      by_cases hji : j = i
      · subst hji
        rw [if_neg (by omega), if_neg (fun hh => hh.2 he)]
      · by_cases h1 : i + 1 ≤ j ∧ ¬ bt a j = bt b j
        · rw [if_pos h1, if_pos ⟨by omega, h1.2⟩]
        · rw [if_neg h1, if_neg (fun hh => h1 ⟨by omega, hh.2⟩)]
    rename_i he
    have h2 := endd_le a b (64 - i) i
    have h1 := endd_lt a b (q := 63 - i) he
    rw [show 63 - i + 1 = 64 - i from by omega] at h1
    have n1 := endd_ne a b (64 - i) i j
    have n2 := endd_eq a b (64 - i) i
    generalize endd a b (64 - i) i = k at h1 h2 n1 n2 ⊢
    have hl := cut_len c (i := i) (k := k) (by omega)
    simp only [apy, Int.toNat_natCast]
    rw [apy_dfc hc q (k + 1) _ (by omega) (by omega) (by rw [lay_len (by omega)]; exact hm) j hj, bt_lay (by omega), hl, show i + (k - i) = k from by omega]
    by_cases c1 : k + 1 ≤ j
    · by_cases c2 : bt a j = bt b j
      · rw [if_neg (fun hh => hh.2 c2), if_neg (fun hh => by omega), if_neg (fun hh => hh.2 c2)]
      · rw [if_pos ⟨c1, c2⟩, if_pos ⟨by omega, c2⟩]
    · rw [if_neg (fun hh => c1 hh.1)]
      by_cases c3 : i ≤ j ∧ j < k
      · rw [if_pos c3, bt_cut c c3.1 c3.2, if_pos ⟨c3.1, n1 c3.1 c3.2⟩]
      · rw [if_neg c3, if_neg]
        intro hh
        have : j = k := by omega
        subst this
        exact hh.2 (n2 (by omega))
def lenRs : List RunD → Nat
  | [] => 0
  | r :: rs => r.l.length + lenRs rs
def nd : Nat → Nat → Nat
  | 0, _ => 0
  | q + 1, i => (if bt a i = bt b i then 0 else 1) + nd q (i + 1)
theorem nd_le : ∀ (q i : Nat), nd a b q i ≤ q
  | 0, _ => Nat.le_refl _
  | q + 1, i => by
    have := nd_le q (i + 1)
    simp only [nd]
    split <;> omega
theorem nd_endd : ∀ (q i : Nat), nd a b q i + i = endd a b q i + nd a b (i + q - endd a b q i) (endd a b q i)
  | 0, i => by simp [nd, endd]
  | q + 1, i => by
    simp only [endd]
    split
    · rw [show i + (q + 1) - i = q + 1 from by omega, Nat.add_comm]
    · rename_i he
      have := nd_endd q (i + 1)
      rw [show i + (q + 1) - endd a b q (i + 1) = i + 1 + q - endd a b q (i + 1) from by omega]
      simp only [nd, if_neg he]
      omega
theorem len_dfc (hc : c.length = 64) : ∀ (q i : Nat), 64 - i ≤ q → i ≤ 65 → lenRs (dfc a b c q i) = nd a b (64 - i) i
  | 0, i, hq, hi => by
    rw [show 64 - i = 0 from by omega]; rfl
  | q + 1, i, hq, hi => by
    simp only [dfc]
    split
    · rw [show 64 - i = 0 from by omega]; rfl
    rename_i h64
    split
    · rename_i he
      rw [len_dfc hc q (i + 1) (by omega) (by omega), show 64 - i = (64 - (i + 1)) + 1 from by omega]
      simp only [nd, if_pos he]; omega
    rename_i he
    have h2 := endd_le a b (64 - i) i
    have h1 := endd_lt a b (q := 63 - i) he
    rw [show 63 - i + 1 = 64 - i from by omega] at h1
    have n2 := endd_eq a b (64 - i) i
    have n3 := nd_endd a b (64 - i) i
    generalize endd a b (64 - i) i = k at h1 h2 n2 n3 ⊢
    simp only [lenRs]
    rw [cut_len c (by omega), len_dfc hc q (k + 1) (by omega) (by omega)]
    rw [show i + (64 - i) - k = 64 - k from by omega] at n3
    by_cases hk : k = 64
    · subst hk
      simp only [show 64 - 64 = 0 from rfl, show 64 - (64 + 1) = 0 from rfl, nd] at n3 ⊢
      omega
    · have hn : nd a b (64 - k) k = nd a b (64 - (k + 1)) (k + 1) := by
        rw [show 64 - k = (64 - (k + 1)) + 1 from by omega]
        simp only [nd, if_pos (n2 (by omega))]; omega
      omega
end
/-! what is asked of the runs of two pages -/
theorem diffs_ok {a b : List UInt8} (ha : a.length = 64) (hb : b.length = 64) :
    runsF (difs a b) = 0 ∧ apC a (difs a b) = 0 ∧ apL a (difs a b) = b ∧ apC b (invs a (difs a b)) = 0 ∧ apL b (invs a (difs a b)) = a ∧ lenRs (difs a b) = nd a b 64 0 ∧ (difs a b).length ≤ 64 ∧ (∀ r ∈ difs a b, r.l.length ≤ 64) := by
  have e1 : difs a b = dfc a b b 64 0 := (dfc_self a b 64 0).symm
  have f1 : runsF (difs a b) = 0 := by rw [e1]; exact dfc_f a b b hb
  have c1 : apC a (difs a b) = 0 := by unfold apC; rw [if_neg (by simp [ha])]; exact f1
  have e2 : invs a (difs a b) = dfc a b a 64 0 := by
    unfold invs
    rw [if_pos c1]
    exact dfc_inv a b a hb 64 0 (by omega)
  have f2 : runsF (invs a (difs a b)) = 0 := by rw [e2]; exact dfc_f a b a ha
  have c2 : apC b (invs a (difs a b)) = 0 := by unfold apC; rw [if_neg (by simp [hb])]; exact f2
  refine ⟨f1, c1, ?_, c2, ?_, ?_, (runsF_ok f1).1, fun r hr => ?_⟩
  · unfold apL
    rw [if_pos c1]
    have hl := apy_len (difs a b) a ha (runsF_ok f1).2
    refine bt_ext (by rw [hl, hb]) fun j hj => ?_
    rw [e1, apy_dfc a b b hb 64 0 a (by omega) (by omega) ha j (by omega)]
    by_cases h : bt a j = bt b j
    · rw [if_neg (fun hh => hh.2 h)]; exact h
    · rw [if_pos ⟨by omega, h⟩]
  · unfold apL
    rw [if_pos c2]
    have hl := apy_len (invs a (difs a b)) b hb (runsF_ok f2).2
    refine bt_ext (by rw [hl, ha]) fun j hj => ?_
    rw [e2, apy_dfc a b a ha 64 0 b (by omega) (by omega) hb j (by omega)]
    by_cases h : bt a j = bt b j
    · rw [if_neg (fun hh => hh.2 h)]; exact h.symm
    · rw [if_pos ⟨by omega, h⟩]
  · rw [e1, len_dfc a b b hb 64 0 (by omega) (by omega)]
  · have := (runsF_ok f1).2 r hr
    unfold inR at this; omega
end Vm
/-
  What is drawn out of bytes: two pages, runs that may have a fault.
-/
namespace Vm
open Go
theorem tidy_eqn {h X : H} (hn : X.n = h.n) (vs : List V) : (Vm.tidy h vs X).n = h.n ∧ ∀ c, c < h.n → (Vm.tidy h vs X).g c = X.g c := by
  unfold Vm.tidy
  split
  · exact ⟨rfl, fun c hc => by simp only [if_pos hc]⟩
  · exact ⟨hn, fun _ _ => rfl⟩
theorem lp_two {b : Nat} {l : List UInt8} (hl : l.length ≤ 1048576) {s4 : V} {q : Nat} : ∀ (k a : Nat) (p : List UInt8) (h : H), Src b l a h → a + 2 * k < 1099511627776 → q ≠ b → p.length = 64 → BysW h (sv q 0 64) p q → k < 100 →
    ∃ p' h', Lp.spec_l3Two 0 [pv b 0, s4, sv q 0 64, iv .i64 k] h = some (.done [s4, sv q 0 64] h') ∧ BysW h' (sv q 0 64) p' q ∧ p'.length = 64 ∧ (∃ a', Src b l a' h' ∧ a' ≤ a + 2 * k) ∧ h'.n = h.n ∧ ∀ c, c < h.n → c ≠ b → c ≠ q → h'.g c = h.g c := by
  intro k
  induction k with
  | zero =>
    intro a p h w ha hq hp wp hk
    rw [eq_spec_l3Two_l0, vcase_b, if_neg (by simp), tidy_self]
    exact ⟨p, h, rfl, wp, hp, ⟨a, w, by omega⟩, rfl, fun _ _ _ _ => rfl⟩
  | succ k ih =>
    intro a p h w ha hq hp wp hk
    have hqn := wp.n
    rw [eq_spec_l3Two_l0, vcase_b, if_pos (by simp)]
    obtain ⟨x1, h1, e1, r1, b1, w1, n1, o1, t1⟩ := r_next w hl (by omega) (n := 64) (by omega) (by omega)
    rw [e1]; simp only [ob, gV1_s, gI_i]; rw [t1]
    obtain ⟨x2, h2, e2, r2, b2, w2, n2, o2, t2⟩ := r_next w1 hl (by omega) (n := 256) (by omega) (by omega)
    rw [e2]; simp only [ob, gV1_s, gI_i]; rw [t2]
    obtain ⟨i, rfl⟩ : ∃ i : Nat, x1 = i := ⟨x1.toNat, by omega⟩
    have wp2 : BysW h2 (sv q 0 64) p q := wp.fr (by omega) (by rw [o2 q hq, o1 q hq])
    rw [idxK_sv (by omega), wp2.set (c := UInt8.ofNat x2.toNat) (by omega) (by rw [w8 (by omega) (by omega)]; simp; omega)]
    have wp5 := wp2.set_w (i := i) (c := UInt8.ofNat x2.toNat)
    have hg5 : ∀ c, c ≠ q → (h2.put q (.rw 1 ((p.set i (UInt8.ofNat x2.toNat)).map cell8))).g c = h2.g c := fun c hc => put_g' hc
    have hn5 : (h2.put q (.rw 1 ((p.set i (UInt8.ofNat x2.toNat)).map cell8))).n = h2.n := put_n _ _ _
    generalize h2.put q (.rw 1 ((p.set i (UInt8.ofNat x2.toNat)).map cell8)) = X at wp5 hg5 hn5 ⊢
    rw [w64 (n := ((k + 1 : Nat) : Int) - 1) (by omega) (by omega), show ((k + 1 : Nat) : Int) - 1 = (k : Int) from by omega]
    have hwn := w.n
    obtain ⟨tn, tg⟩ := tidy_eqn (h := h) (X := X) (by omega) [pv b 0, s4, sv q 0 64, iv .i64 (k : Int)]
    generalize Vm.tidy h [pv b 0, s4, sv q 0 64, iv .i64 (k : Int)] X = Y at tn tg ⊢
    have wx : Src b l (a + 1 + 1) Y := ⟨by omega, by rw [tg b hwn, hg5 b (fun e => hq e.symm)]; exact w2.g⟩
    have wy : BysW Y (sv q 0 64) (p.set i (UInt8.ofNat x2.toNat)) q := ⟨wp5.v, by omega, (tg q hqn).trans wp5.g⟩
    obtain ⟨p', h', e, z1, z2, ⟨a', z3, z4⟩, z5, z6⟩ := ih (a + 1 + 1) _ Y wx (by omega) hq (by simp [hp]) wy (by omega)
    exact ⟨p', h', e, z1, z2, ⟨a', z3, by omega⟩, by omega, fun c hc hcb hcq => by rw [z6 c (by omega) hcb hcq, tg c hc, hg5 c hcq, o2 c hcb, o1 c hcb]⟩
theorem r_two {b : Nat} {l : List UInt8} {a : Nat} {h : H} (w : Src b l a h) (hl : l.length ≤ 1048576) (ha : a + 2000 < 1099511627776) :
    ∃ q p q2 p2 h', call Ev Fn.spec_l3Two [pv b 0] h = some (.tup [.s (.sl (some (q, 0)) 64), .s (.sl (some (q2, 0)) 64)], h') ∧ BysW h' (sv q 0 64) p q ∧ BysW h' (sv q2 0 64) p2 q2 ∧ p.length = 64 ∧ p2.length = 64 ∧ h.n ≤ q ∧ h.n ≤ q2 ∧ Dr b l a 700 h h' := by
  have hb := w.n
  rw [eq_spec_l3Two]
  obtain ⟨q, p, h1, e1, wp, hp, hq, d1⟩ := r_right w hl (by omega)
  have h64 := (pagF_ok hp).1
  have hqn := wp.n
  rw [e1, ob]
  dsimp only
  rw [no_tidy_v (h := h) (h' := h1) (by simp [belV, belS]; omega), frzVs_cons (frz1 (ob := some q) wp) frzVs_nil, ob, norm_nil]
  obtain ⟨a1, s1, ha1⟩ := d1.ex
  have hd1 := d1.n
  obtain ⟨v, k1, e2, w2, nn⟩ := f_l2Copy (m := p) (by unfold lim; omega) h1.n
  obtain ⟨e3, w3, u3, n3, x3⟩ := new_bys e2 w2 nn
  rw [e3]
  generalize h1.over k1 = K at w3 u3 n3 x3 ⊢
  rw [h64] at w3 ⊢
  obtain ⟨x4, h4, e4, r4, b4, w4, n4, o4, t4⟩ := r_next (s1.up u3) hl (by omega) (n := 9) (by omega) (by omega)
  rw [e4]; simp only [ob, gV1_s, gI_i]; rw [t4]
  obtain ⟨k, rfl⟩ : ∃ k : Nat, x4 = k := ⟨x4.toNat, by omega⟩
  have wp4 : BysW h4 (sv q 0 64) p q := by
    have := (show Own h1 (sv q 0 64) p (some q) from wp).up u3
    exact (show BysW K (sv q 0 64) p q from this).fr (by omega) (o4 q (by omega))
  have wq4 : BysW h4 (sv (h1.n + 1) 0 64) p (h1.n + 1) := w3.fr (by omega) (o4 _ (by omega))
  obtain ⟨p', h', e5, z1, z2, ⟨a', z3, z4⟩, z5, z6⟩ := lp_two hl (s4 := sv q 0 64) k (a1 + 1) p h4 w4 (by omega) (by omega) h64 wq4 (by omega)
  rw [e5, ob, lcase_done]
  simp only [gx0, gx1, ob, V.toA]
  refine ⟨q, p, h1.n + 1, p', h', rfl, wp4.fr (by omega) (z6 q (by omega) (by omega) (by omega)), z1, h64, z2, hq, by omega, ⟨⟨a', z3, by omega⟩, by omega, fun c hc hcb => ?_⟩⟩
  rw [z6 c (by omega) hcb (by omega), o4 c hcb, u3.g c (by omega), d1.o c hc hcb]
end Vm
/-
  What is drawn out of bytes: runs that may have a fault, what DiffBytes and ApplyRuns are asked.
-/
namespace Vm
open Go
/-- a call whose answer is a new slice -/
theorem pO {cl : Nat → List V → H → Option (V × H)} {g : Nat} {off : Bool} {xs : List V} {h h1 : H} {y : S} {rows : List (List S)} {bs : List Nat} {z d : Nat} (hc : cl g xs (D h.n) = some (.s y, h1)) (w : OutS z d y rows bs h1) (hb : ∀ c ∈ bs, h.n ≤ c) (hn : h.n ≤ h1.n) :
    ∃ h', (∀ (R : Type) (k : V → H → Option R), pcallF cl g off xs h k = k (.s y) h') ∧ Up h h' ∧ OutS z d y rows bs h' := by
  refine ⟨h.over (bif off then h1 else scrub h.n h1), fun R k => ?_, ?_, ?_⟩
  · unfold pcallF
    rw [hc, ob]
    unfold fchk
    rw [if_pos (.inr (show scaV (.s y) = true from w.rep.sca))]
  · cases off
    · exact up_over (show h.n ≤ (scrub h.n h1).n from hn)
    · exact up_over hn
  · refine w.frame fun b hbb => ?_
    have h1b := w.rep.lt b hbb
    have h2b := hb b hbb
    cases off
    · show b < (h.over (scrub h.n h1)).n ∧ (h.over (scrub h.n h1)).g b = h1.g b
      exact ⟨by rw [over_n (show h.n ≤ (scrub h.n h1).n from hn)]; exact h1b, by rw [over_ge h2b]; exact scrub_g (w.rep.scaB b hbb)⟩
    · show b < (h.over h1).n ∧ (h.over h1).g b = h1.g b
      exact ⟨by rw [over_n hn]; exact h1b, over_ge h2b⟩
theorem rep_zero {h : H} : ∀ n : Nat, RepL (Rep h 1) ((List.replicate n [S.int .i64 0, S.sl none 0]).flatten) ((runs (List.replicate n ⟨0, []⟩)).flatten) []
  | 0 => .nil
  | n + 1 => by
    have ih := rep_zero (h := h) n
    rw [List.replicate_succ, List.replicate_succ]
    show RepL (Rep h 1) (S.int .i64 0 :: S.sl none 0 :: (List.replicate n [S.int .i64 0, S.sl none 0]).flatten) (S.int .i64 0 :: S.fs [] :: (runs (List.replicate n ⟨0, []⟩)).flatten) []
    exact RepL.cons (bs := []) (Rep.sc trivial) (RepL.cons (bs := []) Rep.nil ih)
theorem r_bent3 {b : Nat} {l : List UInt8} {a : Nat} {h : H} (w : Src b l a h) (hl : l.length ≤ 1048576) (ha : a + 3000 < 1099511627776) :
    ∃ y rs bs h', call Ev Fn.spec_l3Bent [pv b 0] h = some (.s y, h') ∧ OutS 2 1 y (runs rs) bs h' ∧ (∀ c ∈ bs, h.n ≤ c) ∧ rs.length ≤ 65 ∧ Dr b l a 1000 h h' := by
  have hb := w.n
  rw [eq_spec_l3Bent]
  obtain ⟨q, p, q2, p2, h1, e1, wp, wq, hp, hq, nq, nq2, d1⟩ := r_two w hl (by omega)
  rw [e1, ob]
  dsimp only
  simp only [gVT_t, gx0, gx1, ob, gA1_s]
  rw [if_pos (show ([_, _] : List A).length = 2 from rfl)]
  rw [no_tidy_v (h := h) (h' := h1) (by simp [belV, belA, belS]; omega)]
  have fz : frzVs h1 [V.s (.sl (some (q, 0)) 64), V.s (.sl (some (q2, 0)) 64)] = some [lv (bys p), lv (bys p2)] := frzVs_cons (frz1 (ob := some q) wp) (frzVs_cons (frz1 (ob := some q2) wq) frzVs_nil)
  rw [fz, ob, norm_nil]
  obtain ⟨a1, s1, ha1⟩ := d1.ex
  have hd1 := d1.n
  obtain ⟨y, k1, bs, e2, w2, b2, n2⟩ := f_l3Diff hp hq h1.n
  obtain ⟨K, e3, u3, w3⟩ := pO (h := h1) e2 w2 b2 n2
  rw [e3]
  have hlen := (diffs_ok hp hq).2.2.2.2.2.2.1
  generalize difs p p2 = rs at w3 hlen
  have hu3 := u3.n
  obtain ⟨x4, h4, e4, r4, b4, w4, n4, o4, t4⟩ := r_next (s1.up u3) hl (by omega) (n := 10) (by omega) (by omega)
  rw [e4]; simp only [ob, gV1_s, gI_i]; rw [t4]
  have hb4 := w4.n
  have bsb : ∀ c ∈ bs, c ≠ b := fun c hc => by have := b2 c hc; omega
  have wr4 : OutS 2 1 y (runs rs) bs h4 := w3.frame fun c hc => ⟨by have := w3.rep.lt c hc; omega, o4 c (bsb c hc)⟩
  have d4 : Dr b l a 701 h h4 := ⟨⟨_, w4, by omega⟩, by omega, fun c hc hcb => by rw [o4 c hcb, u3.g c (by omega), d1.o c hc hcb]⟩
  rw [vcase_b]
  by_cases c0 : x4 = 0
  · rw [if_pos (by simp [c0])]
    obtain ⟨x5, h5, e5, m5, w5, n5, o5, t5⟩ := r_pickN w4 hl (by omega) (xs := [-1, 0, 63, 64]) (by simp) (by simp)
    simp only [List.length_cons, List.length_nil, Nat.zero_add, Nat.reduceAdd, List.map_cons, List.map_nil] at e5 t5
    rw [e5]; simp only [ob, gV1_s, gI_i]; rw [t5]
    obtain ⟨x6, h6, e6, r6, b6, w6, n6, o6, t6⟩ := r_next w5 hl (by omega) (n := 4) (by omega) (by omega)
    rw [e6]; simp only [ob, gV1_s, gI_i]; rw [t6]
    obtain ⟨m, rfl⟩ : ∃ m : Nat, x6 = m := ⟨x6.toNat, by omega⟩
    obtain ⟨q7, ms, h7, e7, w7, hms, hq7, d7⟩ := r_some (m := m) w6 hl (by omega) (by omega)
    rw [e7, ob]
    dsimp only
    rw [no_tidy_v (h := h6) (h' := h7) (by simp [belV, belS]; omega)]
    rw [cellsR rfl]
    have hd7 := d7.n
    have lt4 := wr4.rep.lt
    have wr7 : OutS 2 1 y (runs rs) bs h7 := wr4.frame fun c hc => ⟨by have := lt4 c hc; omega, by
      have := lt4 c hc
      rw [d7.o c (by omega) (bsb c hc), o6 c (bsb c hc), o5 c this (bsb c hc)]⟩
    have wrow := run_row (a := x5) (N := 0) w7
    obtain ⟨h8, bs2, e8, w8, n8, f8, o8, q8, _⟩ := app_row wr7 wrow rfl (by omega) (by simp) (fun c hc hh => by have := lt4 c hc; have := List.mem_singleton.1 hh; omega) (by simp [runs]; unfold lim; omega)
    rw [e8, ob]
    rw [← runs_snoc] at w8
    obtain ⟨a7, s7, ha7⟩ := d7.ex
    refine ⟨_, rs ++ [⟨x5, ms⟩], bs2, h8, rfl, w8, fun c hc => ?_, by simp; omega, ⟨⟨a7, ⟨by have := s7.n; omega, ?_⟩, by omega⟩, by omega, fun c hc hcb => ?_⟩⟩
    · rcases f8 c hc with h1 | h1 | h1
      · omega
      · have := b2 c h1; omega
      · have := List.mem_singleton.1 h1; omega
    · rw [o8 b s7.n (fun hh => bsb b hh rfl)]; exact s7.g
    · rw [o8 c (by omega) (fun hh => by have := b2 c hh; omega), d7.o c (by omega) hcb, o6 c hcb, o5 c (by omega) hcb, d4.o c hc hcb]
  rw [if_neg (by simpa using c0), vcase_b]
  by_cases c1 : x4 = 1
  · rw [if_pos (by simp [c1]), show iv .i64 65 = iv .i64 ((65 : Nat) : Int) from rfl, mkSl_of (z := 2) (zero := [S.int .i64 0, S.sl none 0]) (by unfold lim; omega) (by omega) rfl, ob]
    have u5 : Up h4 (h4.new 2 ((List.replicate 65 [S.int .i64 0, S.sl none 0]).flatten)) := up_new
    have g5 : (h4.new 2 ((List.replicate 65 [S.int .i64 0, S.sl none 0]).flatten)).g h4.n = .rw 2 ((List.replicate 65 [S.int .i64 0, S.sl none 0]).flatten) := new_g _ _ _
    have n5 : (h4.new 2 ((List.replicate 65 [S.int .i64 0, S.sl none 0]).flatten)).n = h4.n + 1 := new_n _ _ _
    generalize h4.new 2 ((List.replicate 65 [S.int .i64 0, S.sl none 0]).flatten) = X at u5 g5 n5 ⊢
    have wr : Rep X 2 (.sl (some (h4.n, 0)) 65) (.fs (runs (List.replicate 65 ⟨0, []⟩))) [h4.n] := by
      have := Rep.sl (h := X) (d := 1) (b := h4.n) (z := 2) (rows := runs (List.replicate 65 ⟨0, []⟩)) (bss := []) (by omega) (by omega) g5 runs_row (rep_zero 65)
      rwa [runs_len, List.length_replicate] at this
    refine ⟨_, List.replicate 65 ⟨0, []⟩, [h4.n], X, rfl, ⟨wr, by simp, .inr ⟨h4.n, _, ?_, g5⟩, runs_row⟩, fun c hc => by have := List.mem_singleton.1 hc; omega, by simp, ⟨⟨_, w4.up u5, by omega⟩, by omega, fun c hc hcb => ?_⟩⟩
    · rw [runs_len, List.length_replicate]
    · rw [u5.g c (by omega), d4.o c hc hcb]
  rw [if_neg (by simpa using c1)]
  exact ⟨y, rs, bs, h4, rfl, wr4, fun c hc => by have := b2 c hc; omega, by omega, ⟨⟨_, w4, by omega⟩, d4.n, d4.o⟩⟩
theorem p_DrawDiffBytes {l : List UInt8} (hl : l.length ≤ 1048576) : ∃ p m, pureV (call Ev) Fn.spec_DrawDiffBytes [lv (bys l)] = some (.tup [.s (.fs (bys p)), .s (.fs (bys m))]) ∧ p.length ≤ 64 ∧ m.length ≤ 64 := by
  rw [pu_spec_DrawDiffBytes]
  obtain ⟨K, e1, s1, u1, n1⟩ := r_source (l := l) (D 0)
  rw [e1]
  obtain ⟨q, p, q2, p2, h2, e2, wp, wq, hp, hq, nq, nq2, d2⟩ := r_two s1 hl (by omega)
  have hD : (D 0).n = 0 := rfl
  have hn2 := d2.n
  have hk := s1.n
  rw [e2, ob]
  dsimp only
  simp only [gVT_t, gx0, gx1, ob, gA1_s, ln0, ln1, Nat.zero_add, Nat.reduceAdd, if_true]
  rw [no_tidy_v (h := K) (h' := h2) (by simp [belV, belA, belS]; omega)]
  obtain ⟨a2, s2, ha2⟩ := d2.ex
  obtain ⟨x3, h3, e3, w3, n3, o3, t3⟩ := r_chance s2 hl (by omega) (n := 12) (by omega) (by omega)
  rw [e3]; simp only [ob, gV1_s, gB_b]; rw [t3, vcase_b]
  have wp3 : BysW h3 (sv q 0 64) p q := wp.fr (by omega) (o3 q (by omega))
  have wq3 : BysW h3 (sv q2 0 64) p2 q2 := wq.fr (by omega) (o3 q2 (by omega))
  have f1 := (wp3.frz (d := 7)).2
  have f2 := (wq3.frz (d := 7)).2
  rw [hp] at f1
  rw [hq] at f2
  cases x3
  · rw [if_neg (by simp)]
    exact ⟨p, p2, frz_2 f1 f2, by omega, by omega⟩
  · rw [if_pos rfl, show V.s (S.sl (some (q2, 0)) 64) = sv q2 0 64 from rfl, cut1 wq3 hq]
    simp only [V.toA, ob]
    exact ⟨p, p2.drop 1, frz_2 f1 (frz_cut wq3 hq), by omega, by simp; omega⟩
theorem p_DrawApplyRuns {l : List UInt8} (hl : l.length ≤ 1048576) : ∃ p rs, pureV (call Ev) Fn.spec_DrawApplyRuns [lv (bys l)] = some (.tup [.s (.fs (bys p)), .s (.fs (runs rs))]) ∧ p.length ≤ 64 ∧ rs.length ≤ 65 := by
  rw [pu_spec_DrawApplyRuns]
  obtain ⟨K, e1, s1, u1, n1⟩ := r_source (l := l) (D 0)
  rw [e1]
  obtain ⟨y, q, p, h2, e2, hp, hy, hq, hqn, t2, d2, f2⟩ := r_bent2 s1 hl (by omega)
  rw [e2]; simp only [ob]; rw [t2 _ (by simp)]
  obtain ⟨a2, s2, ha2⟩ := d2.ex
  obtain ⟨z, rs, bs, h3, e3, w3, b3, hrs, d3⟩ := r_bent3 s2 hl (by omega)
  rw [e3]; simp only [ob, V.toA]
  have hqb : q ≠ (D 0).n := by simp at s1 ⊢; omega
  rcases w3.ty with rfl | ⟨c, cs, rfl, hc⟩
  · obtain ⟨tn, tg⟩ : h2.n ≤ (Vm.tidy h2 [V.s (S.sl none 0)] h3).n ∧ ∀ c, c < h2.n → (Vm.tidy h2 [V.s (S.sl none 0)] h3).g c = h3.g c := by
      unfold Vm.tidy
      split
      · exact ⟨Nat.le_refl _, fun c hc => by simp only [if_pos hc]⟩
      · exact ⟨d3.n, fun _ _ => rfl⟩
    have hr := w3.rep.frz (k := 8) (by omega)
    refine ⟨p, rs, frz_2 (f2 _ tn ?_) ?_, hp, hrs⟩
    · rw [tg q hqn, d3.o q hqn hqb]
    · simp only [frzS] at hr ⊢
      exact hr
  · have hcb : c ∈ bs := by
      rcases w3.rep with ⟨⟨h3, _⟩ | ⟨h3, _⟩, _⟩ | ⟨b', z', cs', rows', bss, h3, _, h4, _⟩
      · exact h3.elim
      · cases h3
      · injection h3 with h3 _
        injection h3 with h3
        injection h3 with h3 _
        rw [h4, h3]; simp
    have := b3 c hcb
    rw [no_tidy_v (h := h2) (h' := h3) (by simp [belV, belS]; omega)]
    exact ⟨p, rs, frz_2 (f2 h3 d3.n (d3.o q hqn hqb)) (w3.rep.frz (k := 8) (by omega)), hp, hrs⟩
end Vm
/-
  A text's bytes as a list.
-/
namespace Vm
open Go
theorem tl_loop (s : ByteArray) : ∀ (q i : Nat) (r : List UInt8), i + q = s.size → ByteArray.toList.loop s i r = r.reverse ++ s.data.toList.drop i := by
  intro q
  induction q with
  | zero =>
    intro i r hi
    rw [ByteArray.toList.loop, if_neg (by omega), List.drop_of_length_le (by simp; omega)]
    simp
  | succ q ih =>
    intro i r hi
    rw [ByteArray.toList.loop, if_pos (by omega), ih (i + 1) _ (by omega), str_drop (i := i) (by omega)]
    simp
theorem tl_data (s : ByteArray) : s.toList = s.data.toList := by
  unfold ByteArray.toList
  rw [tl_loop s s.size 0 [] (by omega)]
  simp
theorem tl_eq {a b : List UInt8} : ((⟨a.toArray⟩ : ByteArray).toList == (⟨b.toArray⟩ : ByteArray).toList) = decide (a = b) := by
  rw [tl_data, tl_data]
  by_cases h : a = b <;> simp [h]
end Vm
/-
  The law on what turned returns true.
-/
namespace Vm
open Go
theorem p_lwSame {a b : List UInt8} (ha : a.length ≤ lim) (hb : b.length ≤ lim) : pureV (call Ev) Fn.laws_lwSame [lv (bys a), lv (bys b)] = some (bv (decide (a = b))) := by
  rw [pu_laws_lwSame, fsStr_by ha, ob]
  simp only [gV1_s, gS_s]
  rw [fsStr_by hb, ob]
  simp only [gV1_s, gS_s]
  rw [tl_eq]
theorem p_lwBig {l : List UInt8} : pureV (call Ev) Fn.laws_lwBig [lv (bys l)] = some (bv (decide ((l.length : Int) > 1048576))) := by
  rw [pu_laws_lwBig, bys_len]
theorem lenRs_drop {all : List RunD} {r : RunD} {rs : List RunD} : lenRs (r :: rs) = r.l.length + lenRs rs := rfl
theorem lp_D0 {all : List RunD} {a0 : List (List S)} {s3 s4 s6 s7 s8 : V} {h : H} {b : Nat} {c : Int} (hb : b < h.n) (hg : h.g b = .rw 0 [.int .i64 c, .fs (runs all)]) (hl : all.length ≤ 64) (hr : ∀ r ∈ all, r.l.length ≤ 64) :
    ∀ (rs : List RunD) (i n : Nat), all.drop i = rs → n + lenRs rs ≤ 100000 → Lp.laws_FnDiffs 0 [lv a0, s3, s4, pv b 0, s6, s7, s8, iv .i64 n, iv .i64 i] h = some (.done [lv a0, s3, s4, pv b 0, s6, s7, s8, iv .i64 ((n + lenRs rs : Nat) : Int)] h) := by
  have ld : load1 h (pv b 1) = some (.fs (runs all)) := by simp [load1, H.cells, hb, hg, Blk.cells]
  intro rs
  induction rs with
  | nil =>
    intro i n hi hn
    have := drop_nil hi
    rw [eq_laws_FnDiffs_l0]
    simp only [padd, ob, ldK, ldT, cond_false, ld, lenV, gV1_s, gI_i, runs_len]
    rw [vcase_b, if_neg (by simp; omega), tidy_self]
    rfl
  | cons r rs ih =>
    intro i n hi hn
    obtain ⟨g1, g2, g3⟩ := drop_cons hi
    have hrr := hr r (List.mem_of_getElem? g1)
    rw [eq_laws_FnDiffs_l0]
    simp only [padd, ob, ldK, ldT, cond_false, ld, lenV, gV1_s, gI_i, runs_len, tyV, tyS]
    rw [vcase_b, if_pos (by simp; omega)]
    rw [idxK_fs, idxF_run g1]
    have lf : load1 h (fv r.cs 1) = some (.fs (bys r.l)) := rfl
    simp only [fv, padd, ob, Nat.zero_add, Nat.reduceAdd] at lf ⊢
    simp only [lf, ob, lenV, gV1_s, gI_i, bys_len, tyV, tyS]
    simp only [gF_f, bys_len]
    rw [tidy_self, w64 (n := (i : Int) + 1) (by omega) (by omega), lenRs_drop (all := all)] at *
    have hn' : n + (r.l.length + lenRs rs) ≤ 100000 := hn
    rw [w64 (n := (n : Int) + (r.l.length : Int)) (by omega) (by omega), show (i : Int) + 1 = ((i + 1 : Nat) : Int) from by omega, show (n : Int) + (r.l.length : Int) = ((n + r.l.length : Nat) : Int) from by omega, ih (i + 1) (n + r.l.length) g2 (by omega), Nat.add_assoc]
theorem lp_D2 {a b : List UInt8} (ha : a.length = 64) (hb : b.length = 64) {a0 : List (List S)} {s5 s6 s7 s8 : V} {x : Int} {h : H} :
    ∀ (q i n : Nat), i + q = 64 → n ≤ i → Lp.laws_FnDiffs 2 [lv a0, lv (bys a), lv (bys b), s5, s6, s7, s8, iv .i64 x, iv .i64 n, iv .i64 i] h = some (.done [lv a0, lv (bys a), lv (bys b), s5, s6, s7, s8, iv .i64 x, iv .i64 ((n + nd a b q i : Nat) : Int)] h) := by
  intro q
  induction q with
  | zero =>
    intro i n hi hn
    rw [eq_laws_FnDiffs_l2]
    simp only [lenV, ob, gV1_s, gI_i, bys_len]
    rw [vcase_b, if_neg (by simp; omega), tidy_self]
    rfl
  | succ q ih =>
    intro i n hi hn
    rw [eq_laws_FnDiffs_l2]
    simp only [lenV, ob, gV1_s, gI_i, bys_len]
    rw [vcase_b, if_pos (by simp; omega), idxK_fs, idxF_by (by omega) (by omega), ldK_by rfl]
    simp only [gV1_s, gI_i]
    rw [idxK_fs, idxF_by (by omega) (by omega), ldK_by rfl]
    simp only [gV1_s, gI_i]
    rw [vcase_b, w64 (n := (i : Int) + 1) (by omega) (by omega), w64 (n := (n : Int) + 1) (by omega) (by omega), show (i : Int) + 1 = ((i + 1 : Nat) : Int) from by omega, show (n : Int) + 1 = ((n + 1 : Nat) : Int) from by omega, tidy_self, tidy_self]
    by_cases he : bt a i = bt b i
    · rw [if_neg (by simpa using he), ih (i + 1) n (by omega) (by omega)]
      simp only [nd, if_pos he, Nat.zero_add]
    · rw [if_pos (by simpa using he), ih (i + 1) (n + 1) (by omega) (by omega)]
      simp only [nd, if_neg he, Nat.add_assoc]
theorem lenRs_le : ∀ (rs : List RunD), (∀ r ∈ rs, r.l.length ≤ 64) → lenRs rs ≤ rs.length * 64
  | [], _ => Nat.le_refl _
  | r :: rs, h => by
    have := lenRs_le rs fun x hx => h x (by simp [hx])
    have := h r (by simp)
    rw [lenRs_drop (all := rs), List.length_cons, Nat.succ_mul]; omega
theorem run_FnDiffs (xs : List V) (hx : ArgsRp PR [T.S_uint8] xs) : ∃ h', call Ev Fn.laws_FnDiffs xs (D 0) = some (bv true, h') := by
  match xs, hx with
  | [x0], ⟨h0, _⟩ =>
    obtain ⟨l, rfl, hl⟩ := arg_Bytes h0
    refine law_of ?_
    rw [pu_laws_FnDiffs, pc p_lwBig rfl]
    simp only [gV1_s, gB_b]
    rw [vcase_b]
    by_cases hq : (l.length : Int) > 1048576
    · rw [if_pos (by simpa using hq)]
    rw [if_neg (by simpa using hq)]
    have hlb : l.length ≤ 1048576 := by omega
    obtain ⟨p, m, e, hp, hm⟩ := p_DrawDiffBytes (l := l) hlb
    rw [e]
    simp only [ob, gVT_t, gx0, gx1, gA1_s, gF_f]
    rw [if_pos (show ([_, _] : List A).length = 2 from rfl), p_DiffBytes]
    simp only [ob, gVA_a, gx0, gx1, gI_i, gF_f, ln0, ln1, Nat.zero_add, Nat.reduceAdd, if_true]
    rw [vcase_b]
    unfold dfC dfL
    by_cases hc : p.length = 64 ∧ m.length = 64
    case neg =>
      rw [if_neg hc, if_pos (by simp), p_spec_DiffBytes]
      simp only [ob, gVA_a, gx0, gx1, gI_i, gF_f, ln0, ln1, Nat.zero_add, Nat.reduceAdd, if_true, hchk_self]
      unfold dfC
      rw [if_neg hc]; rfl
    obtain ⟨c1, c2, c3, c4, c5, c6, c7, c8⟩ := diffs_ok hc.1 hc.2
    have bi := invs_bd (l := p) (rs := difs p m)
    have hi := p_InverseRuns (l := p) (rs := difs p m) (by unfold maxLen; omega)
    have ha := p_ApplyRuns (l := p) (rs := difs p m) (by unfold maxLen; omega)
    have hb := p_ApplyRuns (l := m) (rs := invs p (difs p m)) (by unfold maxLen; omega)
    rw [c2] at hi ha
    rw [c3] at ha
    rw [c4, c5] at hb
    have hll := lenRs_le _ c8
    generalize invs p (difs p m) = is at hi hb bi
    rw [if_pos hc, if_pos hc, if_neg (by simp)]
    generalize difs p m = rs at hi ha hb c1 c6 c7 c8 hll
    rw [ha]
    simp only [ob, gVA_a, gx0, gx1, gI_i, gF_f, ln0, ln1, Nat.zero_add, Nat.reduceAdd, if_true]
    rw [hi]
    simp only [ob, gVA_a, gx0, gx1, gI_i, gF_f, ln0, ln1, Nat.zero_add, Nat.reduceAdd, if_true]
    rw [hb]
    simp only [ob, gVA_a, gx0, gx1, gI_i, gF_f, ln0, ln1, Nat.zero_add, Nat.reduceAdd, if_true]
    generalize hH : ((((((((D 0).new 0 [.int .i64 0, .sl none 0]).put 0 (.rw 0 [.int .i64 0, .fs (runs rs)])).new 0 [.int .i64 0, .sl none 0]).put 1 (.rw 0 [.int .i64 0, .fs (bys m)])).new 0 [.int .i64 0, .sl none 0]).put 2 (.rw 0 [.int .i64 0, .fs (runs is)])).new 0 [.int .i64 0, .sl none 0]).put 3 (.rw 0 [.int .i64 0, .fs (bys p)]) = H0
    have hn : H0.n = 4 := by rw [← hH]; simp
    have g0 : H0.g 0 = .rw 0 [.int .i64 0, .fs (runs rs)] := by rw [← hH]; simp [H.new, H.put]
    have g1 : H0.g 1 = .rw 0 [.int .i64 0, .fs (bys m)] := by rw [← hH]; simp [H.new, H.put]
    have g2 : H0.g 2 = .rw 0 [.int .i64 0, .fs (runs is)] := by rw [← hH]; simp [H.new, H.put]
    have g3 : H0.g 3 = .rw 0 [.int .i64 0, .fs (bys p)] := by rw [← hH]; simp [H.new, H.put]
    clear hH
    have l0 : Lp.laws_FnDiffs 0 [lv (bys l), lv (bys p), lv (bys m), pv 0 0, pv 1 0, pv 2 0, pv 3 0, iv .i64 0, iv .i64 0] H0 = some (.done [lv (bys l), lv (bys p), lv (bys m), pv 0 0, pv 1 0, pv 2 0, pv 3 0, iv .i64 ((0 + lenRs rs : Nat) : Int)] H0) :=
      lp_D0 (all := rs) (by omega) g0 c7 c8 rs 0 0 rfl (by omega)
    rw [l0, ob, lcase_done]
    simp only [gx0, gx1, ob, gV1_s, gF_f, gI_i]
    have l2 : Lp.laws_FnDiffs 2 [lv (bys l), lv (bys p), lv (bys m), pv 0 0, pv 1 0, pv 2 0, pv 3 0, iv .i64 ((0 + lenRs rs : Nat) : Int), iv .i64 0, iv .i64 0] H0 = some (.done [lv (bys l), lv (bys p), lv (bys m), pv 0 0, pv 1 0, pv 2 0, pv 3 0, iv .i64 ((0 + lenRs rs : Nat) : Int), iv .i64 ((0 + nd p m 64 0 : Nat) : Int)] H0) :=
      lp_D2 hc.1 hc.2 64 0 0 rfl (Nat.le_refl _)
    rw [l2, ob, lcase_done, c6]
    simp only [gx0, gx1, ob, gV1_s, gF_f, gI_i]
    generalize ((0 + nd p m 64 0 : Nat) : Int) = nn
    obtain ⟨p2, r2, e2, hp2, hr2⟩ := p_DrawApplyRuns (l := l) hlb
    rw [e2]
    simp only [ob, gVT_t, gx0, gx1, gA1_s, gF_f]
    rw [if_pos (show ([_, _] : List A).length = 2 from rfl), p_ApplyRuns (by unfold maxLen; omega)]
    simp only [ob, gVA_a, gx0, gx1, gI_i, gF_f, ln0, ln1, Nat.zero_add, Nat.reduceAdd, if_true]
    rw [st2_new]
    have hs2 := p_spec_ApplyRuns (l := p2) (rs := r2) (by unfold maxLen; omega)
    have hap := apL_len (l := p2) (rs := r2)
    generalize apC p2 r2 = k2 at hs2
    generalize apL p2 r2 = m2 at hs2 hap
    have uG : Up H0 ((H0.new 0 [.int .i64 0, .sl none 0]).put H0.n (.rw 0 [.int .i64 k2, .fs (bys m2)])) := up_st
    have gG : ((H0.new 0 [.int .i64 0, .sl none 0]).put H0.n (.rw 0 [.int .i64 k2, .fs (bys m2)])).g H0.n = .rw 0 [.int .i64 k2, .fs (bys m2)] := g_st
    have nG : ((H0.new 0 [.int .i64 0, .sl none 0]).put H0.n (.rw 0 [.int .i64 k2, .fs (bys m2)])).n = H0.n + 1 := n_st
    generalize (H0.new 0 [.int .i64 0, .sl none 0]).put H0.n (.rw 0 [.int .i64 k2, .fs (bys m2)]) = G at uG gG nG ⊢
    have d0 : load1 G (pv 0 1) = some (.fs (runs rs)) := by simp [load1, H.cells, show 0 < G.n by omega, (uG.g 0 (by omega)).trans g0, Blk.cells]
    have d10 : load1 G (pv 1 0) = some (.int .i64 0) := by simp [load1, H.cells, show 1 < G.n by omega, (uG.g 1 (by omega)).trans g1, Blk.cells]
    have d11 : load1 G (pv 1 1) = some (.fs (bys m)) := by simp [load1, H.cells, show 1 < G.n by omega, (uG.g 1 (by omega)).trans g1, Blk.cells]
    have d20 : load1 G (pv 2 0) = some (.int .i64 0) := by simp [load1, H.cells, show 2 < G.n by omega, (uG.g 2 (by omega)).trans g2, Blk.cells]
    have d31 : load1 G (pv 3 1) = some (.fs (bys p)) := by simp [load1, H.cells, show 3 < G.n by omega, (uG.g 3 (by omega)).trans g3, Blk.cells]
    have d40 : load1 G (pv H0.n 0) = some (.int .i64 k2) := by simp [load1, H.cells, show H0.n < G.n by omega, gG, Blk.cells]
    have d41 : load1 G (pv H0.n 1) = some (.fs (bys m2)) := by simp [load1, H.cells, show H0.n < G.n by omega, gG, Blk.cells]
    have fz1 : ∀ a : List (List S), frzVs G [lv a] = some [lv a] := fun a => frzVs_cons frzV_lv frzVs_nil
    have fz2 : ∀ a b : List (List S), frzVs G [lv a, lv b] = some [lv a, lv b] := fun a b => frzVs_cons frzV_lv (frzVs_cons frzV_lv frzVs_nil)
    simp only [padd, ob, ldK, ldT, cond_false, d0, tyV, tyS, gF_f, gV1_s, Nat.zero_add, Nat.reduceAdd]
    rw [fz1, ob, norm_nil, pc (p_RunsFault (by unfold maxLen; omega)) rfl, c1]
    simp only [gV1_s, gI_i, hchk_self]
    rw [vcase_b, if_pos (by simp)]
    simp only [padd, ob, ldK, ldT, cond_false, d10, tyV, tyS, gI_i, gV1_s, Nat.zero_add, Nat.reduceAdd]
    rw [vcase_b, if_pos (by simp)]
    simp only [padd, ob, ldK, ldT, cond_false, d11, tyV, tyS, gF_f, gV1_s, Nat.zero_add, Nat.reduceAdd]
    have ml : m.length ≤ lim := by unfold lim; omega
    have pl : p.length ≤ lim := by unfold lim; omega
    have m2l : m2.length ≤ lim := by unfold lim; omega
    rw [fz2, ob, norm_nil, pc (p_lwSame ml ml) rfl]
    simp only [gV1_s, gB_b, hchk_self]
    unfold Jn.laws_FnDiffs_1
    rw [vcase_b, if_pos (by simp)]
    simp only [padd, ob, ldK, ldT, cond_false, d20, tyV, tyS, gI_i, gV1_s, Nat.zero_add, Nat.reduceAdd]
    rw [vcase_b, if_pos (by simp)]
    simp only [padd, ob, ldK, ldT, cond_false, d31, tyV, tyS, gF_f, gV1_s, Nat.zero_add, Nat.reduceAdd]
    rw [fz2, ob, norm_nil, pc (p_lwSame pl pl) rfl]
    simp only [gV1_s, gB_b, hchk_self]
    rw [vcase_b, if_pos (by simp)]
    unfold Jn.laws_FnDiffs_0
    rw [vcase_b, if_pos (by simp)]
    simp only [d40, ob, gI_i]
    rw [hs2]
    simp only [ob, gVA_a, gx0, gx1, gI_i, gF_f, ln0, ln1, Nat.zero_add, Nat.reduceAdd, if_true, hchk_self]
    rw [vcase_b, if_pos (by simp)]
    simp only [d41, ob, gI_i]
    rw [fz2, ob, norm_nil, pc (p_lwSame m2l m2l) rfl]
    simp only [gV1_s, gB_b]
    simp
end Vm
