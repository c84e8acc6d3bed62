/-
  Runs applied to a page.
-/
import Derived.Test.YtnidgolbfmbocaaDRuS
import Derived.Test.YtnidgolbfmbocaaDCop
import Derived.Test.YtnidgolbfmbocaaDDrop
set_option linter.unusedVariables false
set_option maxRecDepth 100000
set_option linter.unusedSimpArgs false
set_option linter.unusedSectionVars false
namespace Vm
open Go
def apy : List UInt8 → List RunD → List UInt8
  | l, [] => l
  | l, r :: rs => apy (lay l r.at_.toNat r.l) rs
def inR (r : RunD) : Prop := 0 ≤ r.at_ ∧ r.at_ + r.l.length ≤ 64 ∧ 1 ≤ r.l.length
theorem runsG_ok : ∀ (rs : List RunD) (q : Int), runsG q rs = 0 → ∀ r ∈ rs, inR r
  | [], q, h => by simp
  | r :: rs, q, h => by
    unfold runsG at h
    split at h
    · rename_i hc
      simp only [Bool.and_eq_true, decide_eq_true_eq] at hc
      have h1 := inB_iff.1 hc.1.1
      have h2 := inB_iff.1 hc.1.2
      split at h
      · omega
      · intro x hx
        rcases List.mem_cons.1 hx with rfl | hx
        · exact ⟨h1.1, hc.2, by omega⟩
        · exact runsG_ok rs _ h x hx
    · omega
theorem runsF_ok {rs : List RunD} (h : runsF rs = 0) : rs.length ≤ 64 ∧ ∀ r ∈ rs, inR r := by
  unfold runsF at h
  split at h
  · omega
  · exact ⟨by omega, runsG_ok rs 0 h⟩
theorem apy_len : ∀ (rs : List RunD) (l : List UInt8), l.length = 64 → (∀ r ∈ rs, inR r) → (apy l rs).length = 64
  | [], l, h, _ => h
  | r :: rs, l, h, hr => by
    have := hr r (by simp)
    unfold inR at this
    exact apy_len rs _ (by rw [lay_len (by omega)]; exact h) fun x hx => hr x (by simp [hx])
/-- code and bytes -/
def apC (l : List UInt8) (rs : List RunD) : Int := if l.length ≠ 64 then 1 else runsF rs
def apL (l : List UInt8) (rs : List RunD) : List UInt8 := if apC l rs = 0 then apy l rs else []
theorem apL_len {l : List UInt8} {rs : List RunD} : (apL l rs).length ≤ 64 := by
  unfold apL
  split
  · rename_i h
    unfold apC at h
    by_cases h1 : l.length = 64
    · rw [if_neg (by simp [h1])] at h
      rw [apy_len rs l h1 (runsF_ok h).2]; omega
    · rw [if_pos h1] at h; omega
  · simp
theorem p_l3Asked {l : List UInt8} {rs : List RunD} (hl : rs.length ≤ maxLen) : pureV (call Ev) Fn.spec_l3Asked [lv (bys l), lv (runs rs)] = some (iv .i64 (apC l rs)) := by
  rw [pu_spec_l3Asked, vcase_b, bys_len, pc (p_l3Fault hl) rfl]
  unfold apC
  by_cases h1 : l.length = 64
  · rw [if_neg (by simp; omega), if_neg (by simp [h1])]; simp
  · rw [if_pos (by simp; omega), if_pos h1]
/-- one run laid over -/
theorem lay_step {h : H} {b : Nat} {l : List UInt8} {r : RunD} (w : BysW h (sv b 0 64) l b) (h64 : l.length = 64) (hr : inR r) :
    ∀ (R : Type) (k : V × H → Option R), (slK 1 h (sv b 0 64) (some (iv .i64 r.at_)) none fun v206 => (copS 1 h v206 (lv (bys r.l))).bind k) = k (iv .i64 r.l.length, h.put b (.rw 1 ((lay l r.at_.toNat r.l).map cell8))) := by
  intro R k
  unfold inR at hr
  obtain ⟨a, ha⟩ : ∃ a : Nat, r.at_ = a := ⟨r.at_.toNat, by omega⟩
  rw [ha, Int.toNat_natCast, slK_w w (by omega), copS_w w (by omega) (by omega), ob]
theorem p_l3Apply {l : List UInt8} {all : List RunD} (h64 : l.length = 64) (hl : all.length ≤ 64) (hr : ∀ r ∈ all, inR r) : pureV (call Ev) Fn.spec_l3Apply [lv (bys l), lv (runs all)] = some (lv (bys (apy l all))) := by
  have loop : ∀ (rs : List RunD) (i : Nat) (m : List UInt8) (h : H) (b : Nat), all.drop i = rs → m.length = 64 → BysW h (sv b 0 64) m b →
      ∃ h', Lp.spec_l3Apply 0 [lv (runs all), sv b 0 64, iv .i64 i] h = some (.done [sv b 0 64] h') ∧ BysW h' (sv b 0 64) (apy m rs) b := by
    intro rs
    induction rs with
    | nil =>
      intro i m h b hi hm w
      have := drop_nil hi
      rw [eq_spec_l3Apply_l0, vcase_b, if_neg (by simp; omega), tidy_self]
      exact ⟨h, rfl, w⟩
    | cons r rs ih =>
      intro i m h b hi hm w
      obtain ⟨g1, g2, g3⟩ := drop_cons hi
      have hrr := hr r (List.mem_of_getElem? g1)
      have hrr' := hrr
      unfold inR at hrr'
      rw [eq_spec_l3Apply_l0, vcase_b, if_pos (by simp; omega), idxF_run g1]
      simp only [gx0, gx1, ob, gI_i, gF_f]
      have e2 : ∀ {R : Type} {k : List S → Option R}, idxF 2 (runs all) (i : Int) k = k r.cs := idxF_run g1
      simp only [e2, gx0, gx1, ob, gI_i, gF_f]
      rw [lay_step w hm hrr]
      simp only [gV1_s, gI_i]
      rw [tidy_put w.n, w64 (by omega) (by omega), show (i : Int) + 1 = ((i + 1 : Nat) : Int) from by omega]
      exact ih (i + 1) _ _ b g2 (by rw [lay_len (by omega)]; exact hm) (lay_w w (by omega))
  obtain ⟨v, h1, e1, w1, nn⟩ := f_l2Copy (m := l) (by unfold lim; omega) 0
  rw [pu_spec_l3Apply, pF (h := D 0) (h1 := h1) (v := v) e1 ⟨by rw [(show BysW h1 v l 1 from w1.own).v]; rfl, w1.z⟩]
  have hv := (show BysW h1 v l 1 from w1.own).v
  subst hv
  have hle : (D 0).n ≤ h1.n := w1.le
  have w : BysW ((D 0).over h1) (sv 1 0 64) l 1 := ⟨by rw [h64], by rw [over_n hle]; omega, by rw [over_ge (by simp)]; exact (show BysW h1 _ l 1 from w1.own).g⟩
  rw [h64]
  obtain ⟨h', e2, w2⟩ := loop all 0 l _ 1 (by simp) h64 w
  rw [show iv .i64 0 = iv .i64 ((0 : Nat) : Int) from rfl, e2, ob, lcase_done]
  simp only [gx0, ob]
  have := w2.frz (d := 7)
  have hl64 := apy_len all l h64 hr
  rw [hl64] at this
  rw [frzV_s, this.2]; rfl
theorem p_spec_ApplyRuns {l : List UInt8} {rs : List RunD} (hl : rs.length ≤ maxLen) : pureV (call Ev) Fn.spec_ApplyRuns [lv (bys l), lv (runs rs)] = some (.agg [.int .i64 (apC l rs), .fs (bys (apL l rs))]) := by
  rw [pu_spec_ApplyRuns, pc (p_l3Asked hl) rfl]
  simp only [gV1_s, gI_i, vcase_b]
  unfold apL
  by_cases hc : apC l rs = 0
  · rw [if_neg (by simp [hc]), if_pos hc]
    have h64 : l.length = 64 := by
      unfold apC at hc
      split at hc
      · omega
      · rename_i h; simpa using h
    have hf : runsF rs = 0 := by unfold apC at hc; rw [if_neg (by simp [h64])] at hc; exact hc
    rw [p_l3Apply h64 (runsF_ok hf).1 (runsF_ok hf).2]
    simp [hc]
  · rw [if_pos (by simpa using hc), if_neg hc]; rfl
theorem f_applied {l : List UInt8} {all : List RunD} (h64 : l.length = 64) (hl : all.length ≤ 64) (hr : ∀ r ∈ all, inR r) (n : Nat) : ∃ y h', call Ev Fn.impl_applied [lv (bys l), lv (runs all)] (D n) = some (.s y, h') ∧ n ≤ h'.n ∧ OwnF 4 y (.fs (bys (apy l all))) n h'.n h' := by
  have loop : ∀ (rs : List RunD) (i : Nat) (m : List UInt8) (h : H) (b : Nat), all.drop i = rs → m.length = 64 → BysW h (sv b 0 64) m b →
      ∃ h', Lp.impl_applied 0 [sv b 0 64, lv (runs all), iv .i64 all.length, iv .i64 i] h = some (.done [sv b 0 64] h') ∧ BysW h' (sv b 0 64) (apy m rs) b ∧ h'.n = h.n := by
    intro rs
    induction rs with
    | nil =>
      intro i m h b hi hm w
      have := drop_nil hi
      rw [eq_impl_applied_l0, vcase_b, if_neg (by simp; omega), tidy_self]
      exact ⟨h, rfl, w, rfl⟩
    | cons r rs ih =>
      intro i m h b hi hm w
      obtain ⟨g1, g2, g3⟩ := drop_cons hi
      have hrr := hr r (List.mem_of_getElem? g1)
      have hrr' := hrr
      unfold inR at hrr'
      rw [eq_impl_applied_l0, vcase_b, if_pos (by simp; omega), idxF_run g1, rowN_run]
      simp only [gx0, gx1, ob, gI_i, gF_f, ln0, ln1, Nat.zero_add, Nat.reduceAdd, if_true]
      rw [st2_new]
      have u : Up h ((h.new 0 [.int .i64 0, .sl none 0]).put h.n (.rw 0 [.int .i64 r.at_, .fs (bys r.l)])) := up_st
      have wg : BysW ((h.new 0 [.int .i64 0, .sl none 0]).put h.n (.rw 0 [.int .i64 r.at_, .fs (bys r.l)])) (sv b 0 64) m b := (show Own h (sv b 0 64) m (some b) from w).up u
      have gn : ((h.new 0 [.int .i64 0, .sl none 0]).put h.n (.rw 0 [.int .i64 r.at_, .fs (bys r.l)])).n = h.n + 1 := n_st
      have gg : ((h.new 0 [.int .i64 0, .sl none 0]).put h.n (.rw 0 [.int .i64 r.at_, .fs (bys r.l)])).g h.n = .rw 0 [.int .i64 r.at_, .fs (bys r.l)] := g_st
      have gv : ∀ c, c < h.n → ((h.new 0 [.int .i64 0, .sl none 0]).put h.n (.rw 0 [.int .i64 r.at_, .fs (bys r.l)])).v c = h.v c := fun c hc => by
        simp [H.put, H.new, show c ≠ h.n by omega]
      generalize (h.new 0 [.int .i64 0, .sl none 0]).put h.n (.rw 0 [.int .i64 r.at_, .fs (bys r.l)]) = G at u wg gn gg gv ⊢
      have ld : ∀ {o : Nat}, load1 G (pv h.n o) = ([.int .i64 r.at_, .fs (bys r.l)] : List S)[o]? := fun {o} => by simp [load1, H.cells, gn, gg, Blk.cells]
      simp only [ld, gx0, gx1, ob, gI_i]
      rw [lay_step wg hm hrr]
      simp only [gV1_s, gI_i]
      have hw2 := lay_w wg (m := r.l) (a := r.at_.toNat) (by omega)
      have ht : ∀ l', l'.all (belV h.n) = true → (tidy h l' (G.put b (.rw 1 ((lay m r.at_.toNat r.l).map cell8)))).n = h.n ∧ (tidy h l' (G.put b (.rw 1 ((lay m r.at_.toNat r.l).map cell8)))).g b = .rw 1 ((lay m r.at_.toNat r.l).map cell8) := fun l' hl' => by
        unfold tidy
        rw [if_pos]
        · refine ⟨rfl, ?_⟩
          simp only [if_pos w.n]; exact put_g _ _ _
        · refine ⟨by rw [put_n]; omega, hl', fun c hc => ?_⟩
          by_cases hcb : c = b
          · subst hcb; right; rw [put_g]; exact cell8_bel _
          · left
            refine ⟨by rw [put_g' hcb]; exact u.g c hc, ?_⟩
            simp only [H.put, if_neg hcb]; exact gv c hc
      have ht' := ht [sv b 0 64, lv (runs all), iv .i64 all.length, iv .i64 (IntKind.i64.wrap ((i : Int) + 1))] (by simp [belV, belS, w.n])
      generalize tidy h [sv b 0 64, lv (runs all), iv .i64 all.length, iv .i64 (IntKind.i64.wrap ((i : Int) + 1))] (G.put b (.rw 1 ((lay m r.at_.toNat r.l).map cell8))) = T at ht' ⊢
      rw [w64 (by omega) (by omega), show (i : Int) + 1 = ((i + 1 : Nat) : Int) from by omega]
      have hll : (lay m r.at_.toNat r.l).length = 64 := by rw [lay_len (by omega)]; exact hm
      obtain ⟨h', e, w3, n3⟩ := ih (i + 1) (lay m r.at_.toNat r.l) T b g2 hll ⟨by rw [hll], by rw [ht'.1]; exact w.n, ht'.2⟩
      exact ⟨h', e, w3, n3.trans ht'.1⟩
  obtain ⟨v, h1, e1, w1, nn⟩ := f_copied (m := l) (by unfold lim; omega) n
  rw [eq_impl_applied, pF (h := D n) (h1 := h1) (v := v) e1 ⟨by rw [(show BysW h1 v l (n + 1) from w1.own).v]; rfl, w1.z⟩]
  have hv := (show BysW h1 v l (n + 1) from w1.own).v
  subst hv
  have hle : (D n).n ≤ h1.n := w1.le
  have w : BysW ((D n).over h1) (sv (n + 1) 0 64) l (n + 1) := ⟨by rw [h64], by rw [over_n hle]; omega, by rw [over_ge (by simp)]; exact (show BysW h1 _ l (n + 1) from w1.own).g⟩
  rw [h64, runs_len]
  obtain ⟨h', e2, w2, n2⟩ := loop all 0 l _ (n + 1) (by simp) h64 w
  rw [over_n hle, nn] at n2
  rw [show iv .i64 0 = iv .i64 ((0 : Nat) : Int) from rfl, e2, ob, lcase_done]
  simp only [gx0, ob]
  refine ⟨_, h', rfl, by omega, OwnB.f (d := 3) ⟨some (n + 1), w2, fun b hb => by cases hb; omega⟩⟩
theorem f_ApplyRuns {l : List UInt8} {rs : List RunD} (hl : rs.length ≤ maxLen) (n : Nat) : ∃ y h', call Ev Fn.impl_ApplyRuns [lv (bys l), lv (runs rs)] (D n) = some (.agg [.int .i64 (apC l rs), y], h') ∧ NewC 4 [.int .i64 (apC l rs), y] [.int .i64 (apC l rs), .fs (bys (apL l rs))] n h' := by
  rw [eq_impl_ApplyRuns, vcase_b, bys_len]
  unfold apL apC
  by_cases h64 : l.length = 64
  case neg =>
    obtain ⟨h', e1, w1⟩ := bad2C n 1
    rw [if_pos (by simp; omega), e1, if_pos h64]
    exact ⟨_, h', rfl, w1⟩
  rw [if_neg (by simp; omega), if_neg (show ¬ l.length ≠ 64 from by simp [h64]), pc (p_RunsFault hl) rfl]
  simp only [gV1_s, gI_i, vcase_b]
  by_cases hf : runsF rs = 0
  case neg =>
    obtain ⟨h', e1, w1⟩ := bad2C n (runsF rs)
    rw [if_pos (by simpa using hf), e1, if_neg hf]
    exact ⟨_, h', rfl, w1⟩
  obtain ⟨y, h1, e1, n1, w1⟩ := f_applied h64 (runsF_ok hf).1 (runsF_ok hf).2 (n + 1)
  obtain ⟨h', e2, w2⟩ := fin2 (off := true) e1 n1 w1
  rw [if_neg (by simp [hf]), e2, if_pos hf, hf]
  exact ⟨y, h', rfl, w2⟩
end Vm
