/-
  The runs that take others back.
-/
import Derived.Test.YtnidgolbfmbocaaDApp
import Derived.Test.YtnidgolbfmbocaaDOut
set_option linter.unusedVariables false
set_option maxRecDepth 100000
set_option linter.unusedSimpArgs false
set_option linter.unusedSectionVars false
namespace Vm
open Go
/-- the run that takes one back -/
def inv1 (l : List UInt8) (r : RunD) : RunD := ⟨r.at_, (l.take (r.at_.toNat + r.l.length)).drop r.at_.toNat⟩
def invs (l : List UInt8) (rs : List RunD) : List RunD := if apC l rs = 0 then rs.map (inv1 l) else []
theorem inv1_len {l : List UInt8} {r : RunD} (h : inR r) (hl : l.length = 64) : (inv1 l r).l.length = r.l.length := by
  unfold inR at h
  simp only [inv1, List.length_drop, List.length_take]; omega
/-- a row of a run, new -/
theorem run_row {h : H} {a : Int} {l : List UInt8} {b N : Nat} {k : Nat} (w : BysW h (sv b 0 k) l b) : RepL (Rep h 1) [.int .i64 a, .sl (some (b, 0)) k] (RunD.cs ⟨a, l⟩) [b] := by
  have hk := w.len
  have h1 : Rep h 1 (.sl (some (b, 0)) k) (.fs (bys l)) [b] := Own.rep (d := 0) (ob := some b) w
  exact RepL.cons (bs := []) (Rep.sc trivial) (RepL.cons (bs := [b]) h1 .nil)
theorem runs_snoc (rs : List RunD) (r : RunD) : runs (rs ++ [r]) = runs rs ++ [r.cs] := by simp [runs]
theorem apC_ok {l : List UInt8} {rs : List RunD} (hc : apC l rs = 0) : l.length = 64 ∧ rs.length ≤ 64 ∧ ∀ r ∈ rs, inR r := by
  unfold apC at hc
  by_cases h1 : l.length = 64
  · rw [if_neg (by simp [h1])] at hc
    exact ⟨h1, runsF_ok hc⟩
  · rw [if_pos h1] at hc; omega
/-- new bytes over a heap -/
theorem new_bys {g : Nat} {xs : List V} {h h1 : H} {v : V} {m : List UInt8} (e1 : call Ev g xs (D h.n) = some (v, h1)) (w1 : NewB h.n h1 v m (some (h.n + 1))) (nn : h1.n = h.n + 2) :
    (∀ (R : Type) (off : Bool) (k : V → H → Option R), pcallF (call Ev) g off xs h k = k (sv (h.n + 1) 0 m.length) (h.over h1)) ∧ BysW (h.over h1) (sv (h.n + 1) 0 m.length) m (h.n + 1) ∧ Up h (h.over h1) ∧ (h.over h1).n = h.n + 2 ∧ HExt h (h.over h1) := by
  have hv := (show BysW h1 v m (h.n + 1) from w1.own).v
  have hle := w1.le
  refine ⟨fun R off k => ?_, ⟨rfl, by rw [over_n hle]; omega, ?_⟩, up_over hle, by rw [over_n hle, nn], ⟨by rw [over_n hle]; omega, fun b hb => .inr (over_lt hb)⟩⟩
  · rw [pF (h := h) (h1 := h1) (v := v) e1 ⟨by rw [hv]; rfl, w1.z⟩, hv]
  · rw [over_ge (by omega)]; exact (show BysW h1 v m (h.n + 1) from w1.own).g
theorem cellsR {R : Type} {a : Int} {y : S} (hy : isNo y = false) {k : Int → S → Option R} :
    (cellsK (.s y) fun c217 =>
      if c217.length = 1 ∧ 1 + 1 ≤ ([.int .i64 a, .sl none 0] : List S).length then
      ((setAt ([.int .i64 a, .sl none 0] : List S) 1 c217)[0]?).bind fun x218 =>
      gI .i64 x218 fun i219 =>
      ((setAt ([.int .i64 a, .sl none 0] : List S) 1 c217)[1]?).bind fun x220 =>
      if (setAt ([.int .i64 a, .sl none 0] : List S) 1 c217).length = 2 then k i219 x220 else none else none) = k a y := by
  simp only [cellsK, hy, cond_false, ln0, ln1, Nat.zero_add, Nat.reduceAdd, Nat.le_refl, and_self, if_true]
  rw [show setAt [.int .i64 a, .sl none 0] 1 [y] = [.int .i64 a, y] from rfl]
  simp only [gx0, gx1, ob, gI_i, ln0, ln1, Nat.zero_add, Nat.reduceAdd, if_true]
section
variable {l : List UInt8} {all : List RunD} (h64 : l.length = 64) (hl : all.length ≤ 64) (hr : ∀ r ∈ all, inR r)
include h64 hl hr
theorem lp_impl_Inv : ∀ (rs : List RunD) (i : Nat) (h : H) (y : S) (bs : List Nat) (p : V) (n0 : Nat), all.drop i = rs → OutS 2 1 y (runs ((all.take i).map (inv1 l))) bs h → (∀ c ∈ bs, n0 ≤ c) → n0 ≤ h.n →
    ∃ h' y' bs', Lp.impl_InverseRuns 0 [lv (bys l), p, .s y, lv (runs all), iv .i64 all.length, iv .i64 i] h = some (.done [p, .s y'] h') ∧ OutS 2 1 y' (runs (all.map (inv1 l))) bs' h' ∧ (∀ c ∈ bs', n0 ≤ c) ∧ h.n ≤ h'.n ∧ ∀ c, c < n0 → h'.g c = h.g c := by
  intro rs
  induction rs with
  | nil =>
    intro i h y bs p n0 hi w hb hn
    have := drop_nil hi
    rw [eq_impl_InverseRuns_l0, vcase_b, if_neg (by simp; omega), tidy_self]
    rw [List.take_of_length_le this] at w
    exact ⟨h, y, bs, rfl, w, hb, Nat.le_refl _, fun _ _ => rfl⟩
  | cons r rs ih =>
    intro i h y bs p n0 hi w hb hn
    obtain ⟨g1, g2, g3⟩ := drop_cons hi
    have hrr := hr r (List.mem_of_getElem? g1)
    have hrr' := hrr
    unfold inR at hrr'
    rw [eq_impl_InverseRuns_l0, vcase_b, if_pos (by simp; omega), idxF_run g1, rowN_run]
    simp only [gx0, gx1, ob, gI_i, gF_f]
    rw [if_pos (show ([_, _] : List S).length = 2 from rfl), st2_new]
    have u1 : Up h ((h.new 0 [.int .i64 0, .sl none 0]).put h.n (.rw 0 [.int .i64 r.at_, .fs (bys r.l)])) := up_st
    have gn : ((h.new 0 [.int .i64 0, .sl none 0]).put h.n (.rw 0 [.int .i64 r.at_, .fs (bys r.l)])).n = h.n + 1 := n_st
    have gg : ((h.new 0 [.int .i64 0, .sl none 0]).put h.n (.rw 0 [.int .i64 r.at_, .fs (bys r.l)])).g h.n = .rw 0 [.int .i64 r.at_, .fs (bys r.l)] := g_st
    generalize (h.new 0 [.int .i64 0, .sl none 0]).put h.n (.rw 0 [.int .i64 r.at_, .fs (bys r.l)]) = G at u1 gn gg ⊢
    have ld : ∀ {o : Nat}, load1 G (pv h.n o) = ([.int .i64 r.at_, .fs (bys r.l)] : List S)[o]? := fun {o} => by simp [load1, H.cells, gn, gg, Blk.cells]
    simp only [ld, gx0, gx1, ob, gI_i, lenV, gV1_s, bys_len]
    obtain ⟨a, ha⟩ : ∃ a : Nat, r.at_ = a := ⟨r.at_.toNat, by omega⟩
    rw [ha, w64 (by omega) (by omega), show (a : Int) + (r.l.length : Int) = ((a + r.l.length : Nat) : Int) from by omega, slF_lh (by omega) (by omega)]
    have hcut : (l.take (a + r.l.length)).drop a = (inv1 l r).l := by simp [inv1, ha]
    rw [hcut]
    obtain ⟨v, h1, e1, w1, nn⟩ := f_copied (m := (inv1 l r).l) (by rw [inv1_len hrr h64]; unfold lim; omega) G.n
    obtain ⟨e2, w2, u2, n2, x2⟩ := new_bys e1 w1 nn
    rw [e2]
    generalize G.over h1 = K at w2 u2 n2 x2 ⊢
    rw [hchk_of x2]
    simp only [sca_v, scaS, cond_true]
    rw [cellsR rfl]
    rw [hchk_of (HExt.new x2)]
    have wk : OutS 2 1 y (runs ((all.take i).map (inv1 l))) bs K := w.frame fun c hc => by
      have := w.rep.lt c hc
      exact ⟨by omega, (u2.g c (by omega)).trans (u1.g c this)⟩
    have wr := run_row (a := (a : Int)) (N := 0) w2
    obtain ⟨h2, bs2, e3, w3, n3, f3, o3, q3⟩ := app_row wk wr rfl (by omega) (by simp) (fun c hc hh => by have := w.rep.lt c hc; have := List.mem_singleton.1 hh; omega) (by simp; unfold lim; omega)
    rw [e3, ob]
    dsimp only
    rw [w64 (n := (i : Int) + 1) (by omega) (by omega), show (i : Int) + 1 = ((i + 1 : Nat) : Int) from by omega]
    rw [no_tidy_v (by simp [belV, belS]; omega)]
    have hrow : runs ((all.take (i + 1)).map (inv1 l)) = runs ((all.take i).map (inv1 l)) ++ [RunD.cs ⟨(a : Int), (inv1 l r).l⟩] := by
      rw [List.take_add_one, g1, Option.toList_some, List.map_append, List.map_singleton, runs_snoc]
      congr 2
      rw [show inv1 l r = ⟨r.at_, (inv1 l r).l⟩ from rfl, ha]
    rw [← hrow] at w3
    have hb3 : ∀ c ∈ bs2, n0 ≤ c := fun c hc => by
      rcases f3 c hc with h1 | h1 | h1
      · omega
      · exact hb c h1
      · have := List.mem_singleton.1 h1; omega
    obtain ⟨h', y', bs', e4, w4, b4, n4, o4⟩ := ih (i + 1) h2 _ bs2 p n0 g2 w3 hb3 (by omega)
    refine ⟨h', y', bs', e4, w4, b4, by omega, fun c hc => ?_⟩
    rw [o4 c hc, o3 c (by omega) (fun hh => by have := hb c hh; omega), u2.g c (by omega), u1.g c (by omega)]
theorem f_Inv (n : Nat) : ∃ y h', (Lp.impl_InverseRuns 0 [lv (bys l), pv n 0, .s (.sl none 0), lv (runs all), iv .i64 all.length, iv .i64 0] ((D n).new 0 [.int .i64 0, .sl none 0])) = some (.done [pv n 0, .s y] h') ∧ OwnF 2 y (.fs (runs (all.map (inv1 l)))) (n + 1) h'.n h' ∧ n < h'.n ∧ h'.g n = .rw 0 [.int .i64 0, .sl none 0] := by
  obtain ⟨h', y', bs', e4, w4, b4, n4, o4⟩ := lp_impl_Inv h64 hl hr all 0 ((D n).new 0 [.int .i64 0, .sl none 0]) (.sl none 0) [] (pv n 0) (n + 1) (by simp) (by simpa [runs] using OutS.none) (by simp) (by simp)
  refine ⟨y', h', e4, ⟨bs', w4.rep, w4.nd, fun b hb => ⟨b4 b hb, w4.rep.lt b hb⟩⟩, by simp at n4; omega, ?_⟩
  rw [o4 n (by omega)]
  exact new_g (D n) _ _
theorem lp_spec_Inv : ∀ (rs : List RunD) (i : Nat) (h : H) (y : S) (bs : List Nat), all.drop i = rs → OutS 2 1 y (runs ((all.take i).map (inv1 l))) bs h → (∀ c ∈ bs, 2 ≤ c) → 2 ≤ h.n → h.g 1 = .rw 0 [.int .i64 0, y] →
    ∃ h' y' bs', Lp.spec_InverseRuns 0 [lv (bys l), lv (runs all), pv 0 0, pv 1 0, iv .i64 i] h = some (.done [pv 0 0, pv 1 0] h') ∧ OutS 2 1 y' (runs (all.map (inv1 l))) bs' h' ∧ (∀ c ∈ bs', 2 ≤ c) ∧ 2 ≤ h'.n ∧ h'.g 1 = .rw 0 [.int .i64 0, y'] ∧ h'.g 0 = h.g 0 := by
  intro rs
  induction rs with
  | nil =>
    intro i h y bs hi w hb hn hg
    have := drop_nil hi
    rw [eq_spec_InverseRuns_l0, vcase_b, if_neg (by simp; omega), tidy_self]
    rw [List.take_of_length_le this] at w
    exact ⟨h, y, bs, rfl, w, hb, hn, hg, rfl⟩
  | cons r rs ih =>
    intro i h y bs hi w hb hn hg
    obtain ⟨g1, g2, g3⟩ := drop_cons hi
    have hrr := hr r (List.mem_of_getElem? g1)
    have hrr' := hrr
    unfold inR at hrr'
    have e2 : ∀ {R : Type} {k : List S → Option R}, idxF 2 (runs all) (i : Int) k = k r.cs := idxF_run g1
    rw [eq_spec_InverseRuns_l0, vcase_b, if_pos (by simp; omega), e2]
    have ld : load1 h (pv 1 1) = some y := by simp [load1, H.cells, show 1 < h.n by omega, hg, Blk.cells]
    simp only [gx0, gx1, ob, gI_i, padd, Nat.zero_add, ldK, ldT, cond_false, ld]
    rw [e2]
    simp only [gx0, gx1, ob, gI_i, gF_f]
    rw [e2]
    simp only [gx0, gx1, ob, gI_i, gF_f, bys_len]
    obtain ⟨a, ha⟩ : ∃ a : Nat, r.at_ = a := ⟨r.at_.toNat, by omega⟩
    rw [ha, w64 (by omega) (by omega), show (a : Int) + (r.l.length : Int) = ((a + r.l.length : Nat) : Int) from by omega, slF_lh (by omega) (by omega)]
    have hcut : (l.take (a + r.l.length)).drop a = (inv1 l r).l := by simp [inv1, ha]
    rw [hcut]
    obtain ⟨v, h1, e1, w1, nn⟩ := f_l2Copy (m := (inv1 l r).l) (by rw [inv1_len hrr h64]; unfold lim; omega) h.n
    obtain ⟨e3, w2, u2, n2, x2⟩ := new_bys e1 w1 nn
    rw [e3]
    generalize h.over h1 = K at w2 u2 n2 x2 ⊢
    rw [hchk_of x2]
    simp only [sca_v, scaS, cond_true]
    rw [cellsR rfl]
    rw [hchk_of (HExt.new x2)]
    have wk : OutS 2 1 y (runs ((all.take i).map (inv1 l))) bs K := w.frame fun c hc => by
      have := w.rep.lt c hc
      exact ⟨by omega, u2.g c (by omega)⟩
    have wr := run_row (a := (a : Int)) (N := 0) w2
    obtain ⟨h2, bs2, e4, w3, n3, f3, o3, q3⟩ := app_row wk wr rfl (by omega) (by simp) (fun c hc hh => by have := w.rep.lt c hc; have := List.mem_singleton.1 hh; omega) (by simp; unfold lim; omega)
    rw [e4, ob]
    dsimp only
    have k1 : h2.g 1 = .rw 0 [.int .i64 0, y] := by rw [o3 1 (by omega) (fun hh => by have := hb 1 hh; omega), u2.g 1 (by omega)]; exact hg
    rw [stK_rw (z := 1) (e := 0) (o := 1) (b := 1) (cs := [.int .i64 0, y]) (r := [.sl (some (K.n + 1, 0)) ((runs ((all.take i).map (inv1 l))).length + 1)]) (by omega) k1 (.inl ⟨_, rfl, rfl, rfl⟩) rfl (by simp)]
    rw [show setAt [.int .i64 0, y] 1 [S.sl (some (K.n + 1, 0)) ((runs ((all.take i).map (inv1 l))).length + 1)] = [.int .i64 0, .sl (some (K.n + 1, 0)) ((runs ((all.take i).map (inv1 l))).length + 1)] from rfl]
    rw [w64 (n := (i : Int) + 1) (by omega) (by omega), show (i : Int) + 1 = ((i + 1 : Nat) : Int) from by omega]
    rw [no_tidy (b := 1) (by omega) (put_g _ _ _) (by simp [belS]; omega) (by
      rw [hg]
      simp only [Blk.cells, List.all_cons, List.all_nil, Bool.and_true]
      rw [w.rep.top w.rep.lt]; rfl)]
    have hrow : runs ((all.take (i + 1)).map (inv1 l)) = runs ((all.take i).map (inv1 l)) ++ [RunD.cs ⟨(a : Int), (inv1 l r).l⟩] := by
      rw [List.take_add_one, g1, Option.toList_some, List.map_append, List.map_singleton, runs_snoc]
      congr 2
      rw [show inv1 l r = ⟨r.at_, (inv1 l r).l⟩ from rfl, ha]
    rw [← hrow] at w3
    have hb3 : ∀ c ∈ bs2, 2 ≤ c := fun c hc => by
      rcases f3 c hc with h1 | h1 | h1
      · omega
      · exact hb c h1
      · have := List.mem_singleton.1 h1; omega
    generalize (runs ((all.take i).map (inv1 l))).length + 1 = N at w3 ⊢
    have w3' : OutS 2 1 (.sl (some (K.n + 1, 0)) N) (runs ((all.take (i + 1)).map (inv1 l))) bs2 (h2.put 1 (.rw 0 [.int .i64 0, .sl (some (K.n + 1, 0)) N])) := w3.frame fun c hc => by
      have := w3.rep.lt c hc
      have := hb3 c hc
      exact ⟨by rw [put_n]; omega, put_g' (by omega)⟩
    obtain ⟨h', y', bs', e5, w5, b5, n5, o5, o6⟩ := ih (i + 1) _ _ bs2 g2 w3' hb3 (by rw [put_n]; omega) (put_g _ _ _)
    refine ⟨h', y', bs', e5, w5, b5, n5, o5, ?_⟩
    rw [o6, put_g' (by omega), o3 0 (by omega) (fun hh => by have := hb 0 hh; omega), u2.g 0 (by omega)]
end
theorem p_spec_InverseRuns {l : List UInt8} {rs : List RunD} (hl : rs.length ≤ maxLen) : pureV (call Ev) Fn.spec_InverseRuns [lv (bys l), lv (runs rs)] = some (.agg [.int .i64 (apC l rs), .fs (runs (invs l rs))]) := by
  rw [pu_spec_InverseRuns, pc (p_l3Asked hl) rfl]
  simp only [gV1_s, gI_i, vcase_b]
  unfold invs
  by_cases hc : apC l rs = 0
  · rw [if_neg (by simp [hc]), if_pos hc]
    obtain ⟨h1, h2, h3⟩ := apC_ok hc
    generalize hG : (((D 0).new 0 [.int .i64 0, .sl none 0]).new 0 [.int .i64 0, .sl none 0]).put 1 (.rw 0 [.int .i64 0, .sl none 0]) = G
    have gn : G.n = 2 := by rw [← hG]; simp
    have g1 : G.g 1 = .rw 0 [.int .i64 0, .sl none 0] := by rw [← hG]; exact put_g _ _ _
    have g0 : G.g 0 = .rw 0 [.int .i64 0, .sl none 0] := by rw [← hG, put_g' (by omega), new_g' (by simp)]; exact new_g (D 0) _ _
    obtain ⟨h', y', bs', e5, w5, b5, n5, o5, o6⟩ := lp_spec_Inv h1 h2 h3 rs 0 G (.sl none 0) [] (by simp) (by simpa [runs] using OutS.none) (by simp) (by omega) g1
    rw [show iv .i64 0 = iv .i64 ((0 : Nat) : Int) from rfl, e5, ob, lcase_done]
    simp only [gx0, gx1, ob, ldK, ldT, cond_true]
    rw [loadN_2 (b := 1) (e := 0) (by omega) o5]
    simp only [gVA_a, gx0, gx1, ob, gI_i, ln0, ln1, Nat.zero_add, Nat.reduceAdd, if_true]
    rw [stK_rw (z := 2) (e := 0) (o := 0) (b := 0) (cs := [.int .i64 0, .sl none 0]) (r := [.int .i64 0, y']) (by omega) (by rw [o6]; exact g0) (.inr rfl) rfl (by simp)]
    rw [show setAt [.int .i64 0, .sl none 0] 0 [.int .i64 0, y'] = [.int .i64 0, y'] from rfl]
    rw [loadN_2 (b := 0) (e := 0) (by rw [put_n]; omega) (put_g _ _ _), ob]
    have w6 : Rep (h'.put 0 (.rw 0 [.int .i64 0, y'])) 2 y' (.fs (runs (rs.map (inv1 l)))) bs' := w5.rep.frame fun c hc => by
      have := b5 c hc
      exact ⟨by rw [put_n]; exact w5.rep.lt c hc, put_g' (by omega)⟩
    have := w6.frz (k := 8) (by omega)
    simp [this, hc]
  · rw [if_pos (by simpa using hc), if_neg hc]; rfl
theorem f_InverseRuns {l : List UInt8} {rs : List RunD} (hl : rs.length ≤ maxLen) (n : Nat) : ∃ y h', call Ev Fn.impl_InverseRuns [lv (bys l), lv (runs rs)] (D n) = some (.agg [.int .i64 (apC l rs), y], h') ∧ NewC 4 [.int .i64 (apC l rs), y] [.int .i64 (apC l rs), .fs (runs (invs l rs))] n h' := by
  rw [eq_impl_InverseRuns, vcase_b, bys_len]
  unfold invs
  by_cases h64 : l.length = 64
  case neg =>
    obtain ⟨h', e1, w1⟩ := bad2C n 1
    rw [if_pos (by simp; omega), e1]
    unfold apC
    rw [if_pos h64]
    exact ⟨_, h', rfl, w1⟩
  rw [if_neg (by simp; omega), pc (p_RunsFault hl) rfl]
  have hap : apC l rs = runsF rs := by unfold apC; rw [if_neg (by simp [h64])]
  rw [hap]
  simp only [gV1_s, gI_i, vcase_b]
  by_cases hf : runsF rs = 0
  case neg =>
    obtain ⟨h', e1, w1⟩ := bad2C n (runsF rs)
    rw [if_pos (by simpa using hf), e1, if_neg hf]
    exact ⟨_, h', rfl, w1⟩
  obtain ⟨y, h1, e1, w1, n1, g1⟩ := f_Inv h64 (runsF_ok hf).1 (runsF_ok hf).2 n
  have hy : isNo y = false := by obtain ⟨bs, w, _⟩ := w1; exact w.isNo
  rw [if_neg (by simp [hf]), runs_len, D_n, e1, ob, lcase_done]
  simp only [gx0, gx1, ob]
  rw [cells2 hy]
  simp only [ldT, cond_true]
  obtain ⟨h', e2, w2⟩ := fin2S n1 g1 w1 (c := 0)
  rw [e2, if_pos hf, hf]
  obtain ⟨bs, w3, w4, w5⟩ := w2.q
  exact ⟨y, h', rfl, w2.le, bs, w3.lifts (by omega), w4, w5⟩
theorem rsz_le : ∀ (rs : List RunD), (∀ r ∈ rs, r.l.length ≤ 64) → rsz rs ≤ rs.length * 65
  | [], _ => Nat.le_refl _
  | r :: rs, h => by
    have := rsz_le rs fun x hx => h x (by simp [hx])
    have := h r (by simp)
    rw [rsz_cons, List.length_cons, Nat.succ_mul]; omega
theorem invs_bd {l : List UInt8} {rs : List RunD} : (invs l rs).length ≤ 64 ∧ (∀ r ∈ invs l rs, r.l.length ≤ maxLen) ∧ rsz (invs l rs) ≤ 4160 := by
  have key : (invs l rs).length ≤ 64 ∧ ∀ r ∈ invs l rs, r.l.length ≤ 64 := by
    unfold invs
    split
    · rename_i hc
      obtain ⟨h1, h2, h3⟩ := apC_ok hc
      refine ⟨by simpa using h2, fun r hr => ?_⟩
      obtain ⟨x, hx, rfl⟩ := List.mem_map.1 hr
      have := h3 x hx
      rw [inv1_len this h1]
      unfold inR at this; omega
    · simp
  refine ⟨key.1, fun r hr => by have := key.2 r hr; unfold maxLen; omega, ?_⟩
  have := rsz_le _ key.2
  have := Nat.mul_le_mul_right 65 key.1
  omega
end Vm
