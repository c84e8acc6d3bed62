/-
  What both ways of the law come to, and that the law returns true.
-/
import Derived.Test.YtainemlfiibooaaEqs
import Derived.Test.YtainemlfiibooaaDl
import Derived.Test.YtainemlfiibooaaTyp
import Derived.Test.YtainemlfiibooaaDataFnExactCrashLog1
set_option linter.unusedVariables false
set_option maxRecDepth 100000
set_option linter.unusedSimpArgs false
set_option linter.unusedSectionVars false
/-
  A record read from bytes: the program's walk.
-/
namespace Vm
open Go
theorem p_Equal {l m : List UInt8} (hl : l.length < 2 ^ 62) : pureV (call Ev) Fn.slices_Equal_byte_byte [lv (bys l), lv (bys m)] = some (bv (decide (l = m))) := by
  rw [pu_slices_Equal_byte_byte, vcase_b, bys_len, bys_len]
  by_cases hlen : l.length = m.length
  case neg => rw [if_pos (by simp; omega), show decide (l = m) = false from by simp; intro e; exact hlen (by rw [e])]
  rw [if_neg (by simp; omega)]
  have loop : ∀ (q i : Nat), i + q = l.length → (∀ j : Nat, j < i → bt l j = bt m j) →
      (Lp.slices_Equal_byte_byte 0 [lv (bys l), lv (bys m), iv .i64 l.length, iv .i64 i] (D 0)).bind (fun o102 => lcase o102 (fun l103 h104 => some (bv true)) (fun v105 h106 => frzV h106 v105)) = some (bv (decide (l = m))) := by
    intro q
    induction q with
    | zero =>
      intro i hi hj
      rw [eq_slices_Equal_byte_byte_l0, vcase_b, if_neg (by simp; omega), tidy_self]
      have : l = m := bt_ext hlen fun j hjl => hj j (by omega)
      simp [this]
    | succ q ih =>
      intro i hi hj
      rw [eq_slices_Equal_byte_byte_l0, vcase_b, if_pos (by simp; omega), idxF_by (by omega) (by omega)]
      simp only [gx0, ob, gI_i]
      rw [idxF_by (by omega) (by omega)]
      simp only [gx0, ob, gI_i, vcase_b]
      by_cases hb : bt l i = bt m i
      · rw [if_neg (by simpa using hb), w64 (by omega) (by omega), show (i : Int) + 1 = ((i + 1 : Nat) : Int) from by omega, tidy_self]
        refine ih (i + 1) (by omega) fun j hji => ?_
        by_cases hje : j = i
        · subst hje; exact hb
        · exact hj j (by omega)
      · rw [if_pos (by simpa using hb)]
        have : ¬ l = m := fun e => hb (by rw [e])
        simp [this]
  rw [show iv .i64 0 = iv .i64 ((0 : Nat) : Int) from rfl, loop l.length 0 (by omega) (fun j hj => by omega)]
def zR : RecD := ⟨0, 0, 0, []⟩
theorem zR_c {h : H} {n : Nat} (hn : n ≤ h.n) : NewC 4 [.int .i64 0, .int .i64 0, .int .i64 0, .sl none 0] zR.cs n h := by
  refine ⟨hn, [], ?_, by simp, by simp⟩
  exact RepL.cons (bs := []) (Rep.sc trivial) (RepL.cons (bs := []) (Rep.sc trivial) (RepL.cons (bs := []) (Rep.sc trivial) (RepL.cons (bs := []) Rep.nil .nil)))
/-- the answer of read: a record and how many bytes it has -/
def RdA (n : Nat) (r : RecD) (u : Int) (x : Option (V × H)) : Prop := ∃ y h', x = some (.tup [.agg [.int .i64 r.kind, .int .i64 r.tx, .int .i64 r.page, y], .s (.int .i64 u)], h') ∧ NewC 4 [.int .i64 r.kind, .int .i64 r.tx, .int .i64 r.page, y] r.cs n h'
theorem rd_zero {n : Nat} {K : H} {cs : List S} (hn : n < K.n) (hg : K.g n = .rw 0 cs) (hc : cs.length = 4) : RdA n zR 0 ((stK 4 K (pv n 0) (.agg [.int .i64 0, .int .i64 0, .int .i64 0, .sl none 0]) fun h109 =>
    (loadN 4 h109 (pv n 0)).bind fun c110 => some (V.tup [.agg c110, .s (.int .i64 0)], h109))) := by
  rw [stK_rw (z := 4) (e := 0) (o := 0) (b := n) (cs := cs) (r := [.int .i64 0, .int .i64 0, .int .i64 0, .sl none 0]) hn hg (.inr rfl) rfl (by omega)]
  have e : setAt cs 0 [.int .i64 0, .int .i64 0, .int .i64 0, .sl none 0] = [.int .i64 0, .int .i64 0, .int .i64 0, .sl none 0] := by
    unfold setAt; rw [List.take_zero, List.nil_append, List.drop_of_length_le (by simp; omega), List.append_nil]
  rw [e, loadN_4 (b := n) (e := 0) (by rw [put_n]; omega) (put_g _ _ _), ob]
  exact ⟨.sl none 0, _, rfl, zR_c (by rw [put_n]; omega)⟩
theorem put4 {R : Type} {K : H} {n : Nat} {cs : List S} {a b c y : S} {F : A → H → Option R} (hn : n < K.n) (hg : K.g n = .rw 0 cs) (hc : cs.length = 4) {q : TD} :
    (stK 4 K (pv n 0) (.agg [a, b, c, y]) fun h => ldT ⟨4, 48, [.int .i64 0, .int .i64 0, .int .i64 0, .sl none 0], true, q, false⟩ h (pv n 0) fun v => (V.toA v).bind fun t => F t h) = F (.agg [a, b, c, y]) (K.put n (.rw 0 [a, b, c, y])) := by
  rw [stK_rw (z := 4) (e := 0) (o := 0) (b := n) (cs := cs) (r := [a, b, c, y]) hn hg (.inr rfl) rfl (by omega)]
  have e : setAt cs 0 [a, b, c, y] = [a, b, c, y] := by
    unfold setAt; rw [List.take_zero, List.nil_append, List.drop_of_length_le (by simp; omega), List.append_nil]
  rw [e]
  simp only [ldT, cond_true]
  rw [loadN_4 (b := n) (e := 0) (by rw [put_n]; omega) (put_g _ _ _), ob]
  rfl
section
variable {d : List UInt8} (h7 : 7 ≤ d.length) (hl : d.length ≤ 255)
include h7 hl
theorem lp_read {n : Nat} {k t p : Int} {f : List V → H → Option (V × H)} : ∀ (q i j : Nat) (h : H) (y : S) (bs : List Nat) (acc : List RunD), j + q = bn d 4 → i + 2 ≤ d.length → acc.length ≤ j → OutS 2 1 y (runs acc) bs h → (∀ c ∈ bs, n + 2 ≤ c) → n + 2 ≤ h.n →
    h.g n = .rw 0 [.int .i64 0, .int .i64 0, .int .i64 0, .sl none 0] → h.g (n + 1) = .rw 0 [.int .i64 k, .int .i64 t, .int .i64 p, y] →
    match imL d (d.length - 2) q i with
    | none => RdA n zR 0 ((Lp.impl_read 0 [pv n 0, lv (bys d), pv (n + 1) 0, iv .i64 i, iv .i64 ((d.length : Int) - 2), iv .i64 (bn d 4), iv .i64 j] h).bind fun o => lcase o f (fun v h => some (v, h)))
    | some (rs, e) => ∃ h' y' bs', Lp.impl_read 0 [pv n 0, lv (bys d), pv (n + 1) 0, iv .i64 i, iv .i64 ((d.length : Int) - 2), iv .i64 (bn d 4), iv .i64 j] h = some (.done [pv n 0, lv (bys d), pv (n + 1) 0, iv .i64 e, iv .i64 ((d.length : Int) - 2)] h') ∧ OutS 2 1 y' (runs (acc ++ rs)) bs' h' ∧ (∀ c ∈ bs', n + 2 ≤ c) ∧ n + 2 ≤ h'.n ∧ h'.g n = .rw 0 [.int .i64 0, .int .i64 0, .int .i64 0, .sl none 0] ∧ h'.g (n + 1) = .rw 0 [.int .i64 k, .int .i64 t, .int .i64 p, y'] := by
  have h4 : ((bn d 4 : Nat) : Int) = bt d 4 := bn_bt d 4
  have h4' := bn_lt d 4
  intro q
  induction q with
  | zero =>
    intro i j h y bs acc hj hi ha w hb hn hg0 hg1
    simp only [imL]
    rw [eq_impl_read_l0, vcase_b, if_neg (by simp; omega), tidy_self]
    exact ⟨h, y, bs, rfl, by simpa using w, hb, hn, hg0, hg1⟩
  | succ q ih =>
    intro i j h y bs acc hj hi ha w hb hn hg0 hg1
    have fail : ∀ s53, RdA n zR 0 ((Jn.impl_read_l0_0 true h (pv n 0) (bys d) i (pv (n + 1) 0) ((d.length : Int) - 2) (bn d 4) s53).bind fun o => lcase o f (fun v h => some (v, h))) := by
      intro s53
      unfold Jn.impl_read_l0_0
      rw [vcase_b, if_pos rfl, put4 (by omega) hg0 rfl, ob, lcase_ret]
      exact ⟨.sl none 0, _, rfl, zR_c (by rw [put_n]; omega)⟩
    rw [eq_impl_read_l0, vcase_b, if_pos (by simp; omega), w64 (n := (i : Int) + 2) (by omega) (by omega), vcase_b]
    simp only [imL]
    have hm := bn_bt d (i + 1)
    have hm' := bn_lt d (i + 1)
    by_cases hc : i + 2 ≤ d.length - 2 ∧ i + 2 + bn d (i + 1) ≤ d.length - 2
    case neg =>
      rw [if_neg hc]
      by_cases h1 : i + 2 ≤ d.length - 2
      case neg =>
        rw [if_pos (by simp; omega)]
        exact fail _
      rw [if_neg (by simp; omega), w64 (n := (i : Int) + 1) (by omega) (by omega), show (i : Int) + 1 = ((i + 1 : Nat) : Int) from by omega, idxF_by (by omega) (by omega)]
      simp only [gx0, ob, gI_i]
      rw [← hm, w64 (n := ((bn d (i + 1) : Nat) : Int)) (by omega) (by omega), w64 (n := (i : Int) + 2 + ((bn d (i + 1) : Nat) : Int)) (by omega) (by omega), show decide ((i : Int) + 2 + ((bn d (i + 1) : Nat) : Int) > (d.length : Int) - 2) = true from by simp; omega]
      exact fail _
    obtain ⟨h1, h2⟩ := hc
    rw [if_pos ⟨h1, h2⟩, if_neg (by simp; omega), w64 (n := (i : Int) + 1) (by omega) (by omega), show (i : Int) + 1 = ((i + 1 : Nat) : Int) from by omega, idxF_by (by omega) (by omega)]
    simp only [gx0, ob, gI_i]
    rw [← hm, w64 (n := ((bn d (i + 1) : Nat) : Int)) (by omega) (by omega), w64 (n := (i : Int) + 2 + ((bn d (i + 1) : Nat) : Int)) (by omega) (by omega)]
    rw [show decide ((i : Int) + 2 + ((bn d (i + 1) : Nat) : Int) > (d.length : Int) - 2) = false from by simp; omega]
    unfold Jn.impl_read_l0_0
    rw [vcase_b, if_neg (by simp), w64 (n := (i : Int) + 1) (by omega) (by omega), show (i : Int) + 1 = ((i + 1 : Nat) : Int) from by omega, idxF_by (by omega) (by omega)]
    simp only [gx0, ob, gI_i]
    rw [← hm]
    generalize hmm : bn d (i + 1) = m at *
    have ld : load1 h (pv (n + 1) 3) = some y := by simp [load1, H.cells, show n + 1 < h.n by omega, hg1, Blk.cells]
    simp only [padd, Nat.zero_add, ob, ldK, ldT, cond_false, ld]
    rw [idxF_by (by omega) (by omega)]
    simp only [gx0, ob, gI_i]
    rw [w64 (n := bt d i) (by have := bt_nn d i; omega) (by have := bt_lt d i; omega), w64 (n := (i : Int) + 2) (by omega) (by omega), w64 (n := (m : Int)) (by omega) (by omega), w64 (n := (i : Int) + 2 + (m : Int)) (by omega) (by omega), w64 (n := 2 + (m : Int)) (by omega) (by omega), w64 (n := (i : Int) + (2 + (m : Int))) (by omega) (by omega), show (i : Int) + (2 + (m : Int)) = ((i + 2 + m : Nat) : Int) from by omega, show (i : Int) + 2 = ((i + 2 : Nat) : Int) from by omega, show ((i + 2 : Nat) : Int) + (m : Int) = ((i + 2 + m : Nat) : Int) from by omega, slF_lh (by omega) (by omega)]
    rw [show (d.take (i + 2 + m)).drop (i + 2) = cutL d (i + 2) (i + 2 + m) from rfl]
    obtain ⟨v, h1', e1, w1, nn⟩ := f_copied (m := cutL d (i + 2) (i + 2 + m)) (by unfold cutL; rw [List.length_drop, List.length_take]; unfold lim; omega) h.n
    obtain ⟨e3, w2, u2, n2, x2⟩ := new_bys e1 w1 nn
    rw [e3]
    generalize h.over h1' = K at w2 u2 n2 x2 ⊢
    rw [hchk_of x2]
    simp only [sca_v, scaS, cond_true]
    rw [cellsR rfl, hchk_of (HExt.new x2)]
    have wk : OutS 2 1 y (runs acc) bs K := w.frame fun c hc => by
      have := w.rep.lt c hc
      exact ⟨by omega, u2.g c (by omega)⟩
    have wr := run_row (a := bt d i) (N := 0) w2
    obtain ⟨h2', bs2, e4, w3, n3, f3, o3, q3, _⟩ := app_row wk wr rfl (by omega) (by simp) (fun c hc hh => by have := w.rep.lt c hc; have := List.mem_singleton.1 hh; omega) (by simp; unfold lim; omega)
    rw [e4, ob]
    dsimp only
    have k0 : h2'.g n = .rw 0 [.int .i64 0, .int .i64 0, .int .i64 0, .sl none 0] := by rw [o3 n (by omega) (fun hh => by have := hb n hh; omega), u2.g n (by omega)]; exact hg0
    have k1 : h2'.g (n + 1) = .rw 0 [.int .i64 k, .int .i64 t, .int .i64 p, y] := by rw [o3 (n + 1) (by omega) (fun hh => by have := hb (n + 1) hh; omega), u2.g (n + 1) (by omega)]; exact hg1
    rw [← runs_snoc] at w3
    generalize (runs acc).length + 1 = N at w3 ⊢
    rw [stK_rw (z := 1) (e := 0) (o := 3) (b := n + 1) (cs := [.int .i64 k, .int .i64 t, .int .i64 p, y]) (r := [.sl (some (K.n + 1, 0)) N]) (by omega) k1 (.inl ⟨_, rfl, rfl, rfl⟩) rfl (by simp)]
    rw [show setAt [.int .i64 k, .int .i64 t, .int .i64 p, y] 3 [S.sl (some (K.n + 1, 0)) N] = [.int .i64 k, .int .i64 t, .int .i64 p, .sl (some (K.n + 1, 0)) N] from rfl]
    rw [w64 (n := (j : Int) + 1) (by omega) (by omega), show (j : Int) + 1 = ((j + 1 : Nat) : Int) from by omega]
    rw [no_tidy (b := n + 1) (by omega) (put_g _ _ _) (by simp [belS]; omega) (by
      rw [hg1]
      simp only [Blk.cells, List.all_cons, List.all_nil, Bool.and_true]
      rw [w.rep.top w.rep.lt]; rfl)]
    have hb3 : ∀ c ∈ bs2, n + 2 ≤ c := fun c hc => by
      rcases f3 c hc with h1 | h1 | h1
      · omega
      · exact hb c h1
      · have := List.mem_singleton.1 h1; omega
    have w3' : OutS 2 1 (.sl (some (K.n + 1, 0)) N) (runs (acc ++ [⟨bt d i, cutL d (i + 2) (i + 2 + m)⟩])) bs2 (h2'.put (n + 1) (.rw 0 [.int .i64 k, .int .i64 t, .int .i64 p, .sl (some (K.n + 1, 0)) N])) := w3.frame fun c hc => by
      have := w3.rep.lt c hc
      have := hb3 c hc
      exact ⟨by rw [put_n]; omega, put_g' (by omega)⟩
    have IH := ih (i + 2 + m) (j + 1) _ _ bs2 (acc ++ [⟨bt d i, cutL d (i + 2) (i + 2 + m)⟩]) (by omega) (by omega) (by rw [List.length_append, List.length_singleton]; omega) w3' hb3 (by rw [put_n]; omega) (by rw [put_g' (by omega)]; exact k0) (put_g _ _ _)
    cases hi : imL d (d.length - 2) q (i + 2 + m) with
    | none =>
      rw [hi] at IH
      exact IH
    | some z =>
      obtain ⟨rs, e⟩ := z
      rw [hi] at IH
      obtain ⟨h', y', bs', e5, w5, b5, n5, o5, o6⟩ := IH
      exact ⟨h', y', bs', e5, by simpa using w5, b5, n5, o5, o6⟩
end
theorem J_read0 {n : Nat} {K : H} {k t p : Int} {y : S} {bs : List Nat} {rs : List RunD} {z : List (List S)} {q : Bool} (hn : n + 2 ≤ K.n) (g0 : K.g n = .rw 0 [.int .i64 0, .int .i64 0, .int .i64 0, .sl none 0]) (g1 : K.g (n + 1) = .rw 0 [.int .i64 k, .int .i64 t, .int .i64 p, y]) (w : OutS 2 1 y (runs rs) bs K) (hb : ∀ c ∈ bs, n + 2 ≤ c) :
    RdA n (if q = true then zR else ⟨k, t, p, rs⟩) (if q = true then 0 else z.length) (Jn.impl_read_0 q K (pv n 0) (pv (n + 1) 0) z) := by
  unfold Jn.impl_read_0
  rw [vcase_b]
  cases q
  · rw [if_neg (by simp), if_neg (by simp), if_neg (by simp)]
    simp only [ldK, ldT, cond_true]
    rw [loadN_4 (b := n + 1) (e := 0) (by omega) g1]
    simp only [gVA_a, gx0, gx1, ob, gI_i]
    rw [if_pos (show ([_, _, _, _] : List S).length = 4 from rfl)]
    have := put4 (R := V × H) (K := K) (n := n) (a := .int .i64 k) (b := .int .i64 t) (c := .int .i64 p) (y := y) (F := fun t359 h357 => some (V.tup [t359, .s (.int .i64 (z.length : Int))], h357)) (by omega) g0 rfl (q := .st [(0, 2), (1, 2), (2, 2), (3, 27)])
    simp only [ldT, cond_true] at this
    rw [this]
    refine ⟨y, _, rfl, by rw [put_n]; omega, ?_⟩
    refine OwnF.c (pre := [.int .i64 k, .int .i64 t, .int .i64 p]) sc3 ⟨bs, (w.rep.frame fun c hc => ?_).lifts (by omega), w.nd, fun c hc => ?_⟩
    · have := hb c hc
      exact ⟨by rw [put_n]; exact w.rep.lt c hc, put_g' (by omega)⟩
    · have := hb c hc
      have := w.rep.lt c hc
      rw [put_n]; omega
  · rw [if_pos rfl, if_pos rfl, if_pos rfl, put4 (by omega) g0 rfl]
    exact ⟨.sl none 0, _, rfl, zR_c (by rw [put_n]; omega)⟩
theorem frzV_rec {h : H} {k t p : Int} {y : S} {rs : List RunD} {bs : List Nat} (w : OutS 2 1 y (runs rs) bs h) : frzV h (.agg [.int .i64 k, .int .i64 t, .int .i64 p, y]) = some (.agg (RecD.cs ⟨k, t, p, rs⟩)) := by
  have := w.rep.frz (k := 8) (by omega)
  rw [frzV_a]
  simp only [mapO, frz_i, this, ob]
theorem J_read1 {n : Nat} {K : H} {k t p : Int} {y : S} {bs : List Nat} {rs : List RunD} {z : List UInt8} {q : Bool} (hn : n + 2 ≤ K.n) (g0 : K.g n = .rw 0 [.int .i64 0, .int .i64 0, .int .i64 0, .sl none 0]) (g1 : K.g (n + 1) = .rw 0 [.int .i64 k, .int .i64 t, .int .i64 p, y]) (w : OutS 2 1 y (runs rs) bs K) (hb : ∀ c ∈ bs, n + 2 ≤ c) (hsm : q = false → (⟨k, t, p, rs⟩ : RecD).sm) :
    RdA n (if q = true ∨ pk ⟨k, t, p, rs⟩ ≠ z then zR else ⟨k, t, p, rs⟩) (if q = true ∨ pk ⟨k, t, p, rs⟩ ≠ z then 0 else z.length) (Jn.impl_read_1 q K (pv (n + 1) 0) (bys z) (pv n 0)) := by
  unfold Jn.impl_read_1
  rw [vcase_b]
  cases q
  case true =>
    have := J_read0 (z := bys z) (q := true) hn g0 g1 w hb
    simp only [if_true, true_or] at this ⊢
    exact this
  have hs := hsm rfl
  have hpl := pk_len ⟨k, t, p, rs⟩
  have hs1 := hs.n
  have hs2 := hs.s
  dsimp only at hpl hs1 hs2
  rw [if_neg (show ¬ false = true by simp)]
  simp only [ldK, ldT, cond_true]
  rw [loadN_4 (b := n + 1) (e := 0) (by omega) g1]
  simp only [gVA_a, gx0, gx1, ob, gI_i]
  rw [if_pos (show ([_, _, _, _] : List S).length = 4 from rfl), frzVs_cons (frzV_rec w) frzVs_nil, ob, norm_nil]
  obtain ⟨y2, h1, e1, n1, w1, _⟩ := f_packed hs K.n
  obtain ⟨L, e2, u, hL, w2⟩ := pV (off := [V.agg [.int .i64 k, .int .i64 t, .int .i64 p, y]].all offV) rfl e1 n1 w1
  rw [e2, frzVs_cons (w2.now.frz) (frzVs_cons frzV_lv frzVs_nil), ob, norm_nil, pc (p_Equal (by omega)) rfl]
  simp only [gV1_s, gB_b]
  have wL : OutS 2 1 y (runs rs) bs L := w.frame fun c hc => by
    have := w.rep.lt c hc
    exact ⟨by omega, u.g c (by omega)⟩
  have := J_read0 (z := bys z) (q := !decide (pk ⟨k, t, p, rs⟩ = z)) (by omega) ((u.g n (by omega)).trans g0) ((u.g (n + 1) (by omega)).trans g1) wL hb
  rw [bys_len] at this
  by_cases hp : pk ⟨k, t, p, rs⟩ = z
  · simp only [hp, decide_true, Bool.not_true, Bool.false_eq_true, if_false, ne_eq, not_true_eq_false, or_self] at this ⊢
    exact this
  · simp only [hp, decide_false, Bool.not_false, if_true, ne_eq, not_false_eq_true, or_true] at this ⊢
    exact this
theorem rd_no {d : List UInt8} (h : ¬ rdOk d) : rdRec d = zR ∧ (rdN d : Int) = 0 := by
  unfold rdRec rdN
  rw [if_neg h, if_neg h]
  exact ⟨rfl, rfl⟩
theorem rd_yes {d : List UInt8} (h : rdOk d) : rdRec d = spR (d.take (bn d 0)) ∧ rdN d = bn d 0 := by
  unfold rdRec rdN
  rw [if_pos h, if_pos h]
  exact ⟨rfl, rfl⟩
theorem imL_bd (d : List UInt8) (e : Nat) (he : e ≤ d.length) : ∀ (q i : Nat) (rs : List RunD) (j : Nat), i ≤ e → imL d e q i = some (rs, j) → rs.length ≤ q ∧ rsz rs ≤ q + (e - i) ∧ j ≤ e
  | 0, i, rs, j, hi, h => by
    simp only [imL, Option.some.injEq, Prod.mk.injEq] at h
    obtain ⟨rfl, rfl⟩ := h
    simp [rsz, szAll]; omega
  | q + 1, i, rs, j, hi, h => by
    simp only [imL] at h
    split at h
    · rename_i hc
      cases hz : imL d e q (i + 2 + bn d (i + 1)) with
      | none => rw [hz] at h; cases h
      | some z =>
        obtain ⟨rs', j'⟩ := z
        rw [hz] at h
        simp only [Option.map_some, Option.some.injEq, Prod.mk.injEq] at h
        obtain ⟨rfl, rfl⟩ := h
        have := imL_bd d e he q _ _ _ hc.2 hz
        have hcl : (cutL d (i + 2) (i + 2 + bn d (i + 1))).length = bn d (i + 1) := by unfold cutL; rw [List.length_drop, List.length_take]; omega
        rw [List.length_cons, rsz_cons]
        dsimp only
        rw [hcl]
        omega
    · cases h
theorem f_read {d : List UInt8} (hl : d.length ≤ maxLen) (n : Nat) : RdA n (rdRec d) (rdN d) (call Ev Fn.impl_read [lv (bys d)] (D n)) := by
  unfold maxLen at hl
  have zero : ¬ rdOk d → RdA n (rdRec d) (rdN d) ((stK 4 ((D n).new 0 [.int .i64 0, .int .i64 0, .int .i64 0, .sl none 0]) (pv ((D n).n) 0) (.agg [.int .i64 0, .int .i64 0, .int .i64 0, .sl none 0]) fun h109 =>
    (loadN 4 h109 (pv ((D n).n) 0)).bind fun c110 => some (V.tup [.agg c110, .s (.int .i64 0)], h109))) := fun h => by
    rw [(rd_no h).1, (rd_no h).2]
    exact rd_zero (cs := [.int .i64 0, .int .i64 0, .int .i64 0, .sl none 0]) (by simp) (new_g (D n) _ _) rfl
  rw [eq_impl_read, vcase_b, bys_len]
  by_cases h7 : 7 ≤ d.length
  case neg =>
    rw [if_pos (by simp; omega)]
    exact zero (fun hh => h7 hh.1)
  rw [if_neg (by simp; omega)]
  have i0 : ∀ {R : Type} {k : List S → Option R}, idxF 1 (bys d) 0 k = k [.int .u8 (bt d 0)] := fun {R} {k} => idxF_by (i := 0) (by omega) (by omega)
  have hb : ((bn d 0 : Nat) : Int) = bt d 0 := bn_bt d 0
  have hb2 := bn_lt d 0
  rw [i0]
  simp only [gx0, ob, gI_i]
  rw [i0]
  simp only [gx0, ob, gI_i, vcase_b]
  rw [← hb, w64 (n := ((bn d 0 : Nat) : Int)) (by omega) (by omega)]
  by_cases h9 : bn d 0 ≤ d.length
  case neg =>
    rw [if_pos (by simp; omega)]
    unfold Jn.impl_read_2
    rw [vcase_b, if_pos rfl]
    exact zero (fun hh => h9 hh.2.2.1)
  rw [if_neg (by simp; omega)]
  unfold Jn.impl_read_2
  rw [vcase_b]
  by_cases h8 : 7 ≤ bn d 0
  case neg =>
    rw [if_pos (by simp; omega)]
    exact zero (fun hh => h8 hh.2.1)
  rw [if_neg (by simp; omega), i0]
  simp only [gx0, ob, gI_i]
  have ec : ∀ {R : Type} {k : List (List S) → Option R}, slF 1 (bys d) none (some (iv .u8 ((bn d 0 : Nat) : Int))) k = k (bys (d.take (bn d 0))) := slF_hi h9
  rw [← hb, ec]
  have htl : (d.take (bn d 0)).length = bn d 0 := by rw [List.length_take]; omega
  have hiff : rdOk d ↔ recF (spR (d.take (bn d 0))) = 0 ∧ pk (spR (d.take (bn d 0))) = d.take (bn d 0) := ⟨fun h => ⟨h.2.2.2.1, h.2.2.2.2⟩, fun h => ⟨h7, h8, h9, h.1, h.2⟩⟩
  have hyes := fun h : rdOk d => rd_yes h
  have hno := fun h : ¬ rdOk d => rd_no h
  generalize hD : d.take (bn d 0) = D1 at *
  have i1 : ∀ {R : Type} {k : List S → Option R}, idxF 1 (bys D1) 1 k = k [.int .u8 (bt D1 1)] := fun {R} {k} => idxF_by (i := 1) (by omega) (by omega)
  have i2 : ∀ {R : Type} {k : List S → Option R}, idxF 1 (bys D1) 2 k = k [.int .u8 (bt D1 2)] := fun {R} {k} => idxF_by (i := 2) (by omega) (by omega)
  have i3 : ∀ {R : Type} {k : List S → Option R}, idxF 1 (bys D1) 3 k = k [.int .u8 (bt D1 3)] := fun {R} {k} => idxF_by (i := 3) (by omega) (by omega)
  have i4 : ∀ {R : Type} {k : List S → Option R}, idxF 1 (bys D1) 4 k = k [.int .u8 (bt D1 4)] := fun {R} {k} => idxF_by (i := 4) (by omega) (by omega)
  rw [i1]
  simp only [gx0, ob, gI_i]
  rw [i2]
  simp only [gx0, ob, gI_i]
  rw [i3]
  simp only [gx0, ob, gI_i]
  have b1 := bt_nn D1 1
  have b2 := bt_nn D1 2
  have b3 := bt_nn D1 3
  have c1 := bt_lt D1 1
  have c2 := bt_lt D1 2
  have c3 := bt_lt D1 3
  rw [hchk_of (HExt.new (HExt.refl _)), w64 (n := bt D1 1) (by omega) (by omega), w64 (n := bt D1 2) (by omega) (by omega), w64 (n := bt D1 3) (by omega) (by omega), st4_new]
  have g0 : ((((D n).new 0 [.int .i64 0, .int .i64 0, .int .i64 0, .sl none 0]).new 0 [.int .i64 0, .int .i64 0, .int .i64 0, .sl none 0]).put ((D n).new 0 [.int .i64 0, .int .i64 0, .int .i64 0, .sl none 0]).n (.rw 0 [.int .i64 (bt D1 1), .int .i64 (bt D1 2), .int .i64 (bt D1 3), .sl none 0])).g n = .rw 0 [.int .i64 0, .int .i64 0, .int .i64 0, .sl none 0] := by
    rw [put_g' (by simp), new_g' (by simp)]; exact new_g (D n) _ _
  have g1 : ((((D n).new 0 [.int .i64 0, .int .i64 0, .int .i64 0, .sl none 0]).new 0 [.int .i64 0, .int .i64 0, .int .i64 0, .sl none 0]).put ((D n).new 0 [.int .i64 0, .int .i64 0, .int .i64 0, .sl none 0]).n (.rw 0 [.int .i64 (bt D1 1), .int .i64 (bt D1 2), .int .i64 (bt D1 3), .sl none 0])).g (n + 1) = .rw 0 [.int .i64 (bt D1 1), .int .i64 (bt D1 2), .int .i64 (bt D1 3), .sl none 0] := put_g _ _ _
  have gn : ((((D n).new 0 [.int .i64 0, .int .i64 0, .int .i64 0, .sl none 0]).new 0 [.int .i64 0, .int .i64 0, .int .i64 0, .sl none 0]).put ((D n).new 0 [.int .i64 0, .int .i64 0, .int .i64 0, .sl none 0]).n (.rw 0 [.int .i64 (bt D1 1), .int .i64 (bt D1 2), .int .i64 (bt D1 3), .sl none 0])).n = n + 2 := by simp
  generalize (((D n).new 0 [.int .i64 0, .int .i64 0, .int .i64 0, .sl none 0]).new 0 [.int .i64 0, .int .i64 0, .int .i64 0, .sl none 0]).put ((D n).new 0 [.int .i64 0, .int .i64 0, .int .i64 0, .sl none 0]).n (.rw 0 [.int .i64 (bt D1 1), .int .i64 (bt D1 2), .int .i64 (bt D1 3), .sl none 0]) = G at g0 g1 gn ⊢
  have h4 : ((bn D1 4 : Nat) : Int) = bt D1 4 := bn_bt D1 4
  have h4' := bn_lt D1 4
  rw [i4]
  simp only [gx0, ob, gI_i]
  rw [← h4, w64 (n := ((bn D1 4 : Nat) : Int)) (by omega) (by omega), bys_len, w64 (n := ((D1.length : Nat) : Int) - 2) (by omega) (by omega)]
  have IH := fun f => lp_read (d := D1) (f := f) (by omega) (by omega) (bn D1 4) 5 0 G (.sl none 0) [] [] (by omega) (by omega) (by simp) (by simpa [runs] using OutS.none) (by simp) (by omega) g0 g1
  cases hi : imL D1 (D1.length - 2) (bn D1 4) 5 with
  | none =>
    have hbad : ¬ rdOk d := fun hh => by
      have := im_of (hiff.1 hh).1 (hiff.1 hh).2
      rw [hi] at this; cases this
    rw [(hno hbad).1, (hno hbad).2]
    rw [hi] at IH
    exact IH _
  | some z =>
    obtain ⟨rs, e⟩ := z
    rw [hi] at IH
    obtain ⟨h', y', bs', e5, w5, b5, n5, o5, o6⟩ := IH (fun _ _ => none)
    have hbd := imL_bd D1 (D1.length - 2) (by omega) _ _ _ _ (by omega) hi
    rw [List.nil_append] at w5
    rw [show (pv ((D n).new 0 [.int .i64 0, .int .i64 0, .int .i64 0, .sl none 0]).n 0) = pv (n + 1) 0 from rfl, D_n, show iv .i64 5 = iv .i64 ((5 : Nat) : Int) from rfl, show iv .i64 0 = iv .i64 ((0 : Nat) : Int) from rfl, e5, ob, lcase_done]
    simp only [gx0, gx1, ob, gV1_s, gF_f, gI_i, vcase_b]
    have hsm : (⟨bt D1 1, bt D1 2, bt D1 3, rs⟩ : RecD).sm := ⟨by dsimp only; omega, by dsimp only; omega⟩
    have fin : ∀ q : Bool, (q = true → ¬ (e = D1.length - 2 ∧ recF ⟨bt D1 1, bt D1 2, bt D1 3, rs⟩ = 0)) → (q = false → e = D1.length - 2 ∧ recF ⟨bt D1 1, bt D1 2, bt D1 3, rs⟩ = 0) → RdA n (rdRec d) (rdN d) (Jn.impl_read_1 q h' (pv (n + 1) 0) (bys D1) (pv n 0)) := by
      intro q hq1 hq2
      have J := J_read1 (z := D1) (q := q) n5 o5 o6 w5 b5 (fun _ => hsm)
      by_cases hok : rdOk d
      · have him := im_of (hiff.1 hok).1 (hiff.1 hok).2
        rw [hi] at him
        simp only [Option.some.injEq, Prod.mk.injEq] at him
        obtain ⟨rfl, rfl⟩ := him
        have hsp : spR D1 = ⟨bt D1 1, bt D1 2, bt D1 3, (spR D1).rs⟩ := rfl
        have hqf : q = false := by
          cases q
          · rfl
          · exact absurd ⟨rfl, by rw [← hsp]; exact (hiff.1 hok).1⟩ (hq1 rfl)
        subst hqf
        rw [← hsp, if_neg (by simp [(hiff.1 hok).2]), if_neg (by simp [(hiff.1 hok).2])] at J
        rw [(hyes hok).1, (hyes hok).2, ← htl]
        exact J
      · rw [(hno hok).1, (hno hok).2]
        have hc : q = true ∨ pk ⟨bt D1 1, bt D1 2, bt D1 3, rs⟩ ≠ D1 := by
          cases q
          case true => exact .inl rfl
          right
          intro hp
          obtain ⟨he, hf⟩ := hq2 rfl
          subst he
          have hs := im_ok hi hf hp
          exact hok (hiff.2 ⟨by rw [hs]; exact hf, by rw [hs]; exact hp⟩)
        rw [if_pos hc, if_pos hc] at J
        exact J
    by_cases he : e = D1.length - 2
    · rw [if_neg (by simp; omega)]
      simp only [ldK, ldT, cond_true]
      rw [loadN_4 (b := n + 1) (e := 0) (by omega) o6]
      simp only [gVA_a, gx0, gx1, ob, gI_i]
      rw [if_pos (show ([_, _, _, _] : List S).length = 4 from rfl), frzVs_cons (frzV_rec w5) frzVs_nil, ob, norm_nil, pc (p_RecordFault _ (by dsimp only; unfold maxLen; omega)) rfl]
      simp only [gV1_s, gI_i]
      refine fin _ (fun h hh => ?_) (fun h => ?_)
      · rw [hh.2] at h; simp at h
      · exact ⟨he, by simpa using h⟩
    · rw [if_pos (by simp; omega)]
      exact fin true (fun _ hh => he hh.1) (by simp)
end Vm
/-
  ReadRecord: what the program's way comes to; its result compared, marked, found again.
-/
namespace Vm
open Go
/-- a call with a new answer that holds cells -/
theorem pG {cl : Nat → List V → H → Option (V × H)} {g : Nat} {off : Bool} {xs : List V} {h : H} {n d : Nat} {v : V} {ys fs : List S} {h1 : H} (hn : h.n = n) (hc : cl g xs (D n) = some (v, h1)) (hv : scaV v = true) (w : NewC d ys fs n h1) :
    ∃ h', (∀ (R : Type) (k : V → H → Option R), pcallF cl g off xs h k = k v h') ∧ Up h h' ∧ n ≤ h'.n ∧ Sep (OwnC d ys fs n h'.n) n h'.n h' ∧ HExt h h' := by
  subst hn
  have hle : h.n ≤ h1.n := w.le
  have ov : ∀ h2 : H, h2.n = h1.n → (∀ b, (h1.g b).cells.all scaS = true → h2.g b = h1.g b) → Up h (h.over h2) ∧ h.n ≤ (h.over h2).n ∧ Sep (OwnC d ys fs h.n (h.over h2).n) h.n (h.over h2).n (h.over h2) ∧ HExt h (h.over h2) := fun h2 hn2 hg2 => by
    have hle2 : h.n ≤ h2.n := by omega
    refine ⟨up_over hle2, by rw [over_n hle2]; omega, OwnC.sep ?_ (Nat.le_refl _), ⟨by rw [over_n hle2]; omega, fun b hb => .inr (over_lt hb)⟩⟩
    obtain ⟨bs, w1, w2, w3⟩ := w.q
    rw [over_n hle2, hn2]
    refine ⟨bs, w1.frame fun b hb => ?_, w2, w3⟩
    have := w3 b hb
    exact ⟨by rw [over_n hle2]; omega, by rw [over_ge this.1]; exact hg2 b (w1.scaB b hb)⟩
  cases off with
  | true =>
    obtain ⟨a1, a2, a3, a4⟩ := ov h1 rfl (fun _ _ => rfl)
    refine ⟨h.over h1, fun R k => ?_, a1, a2, a3, a4⟩
    unfold pcallF
    rw [hc, Vm.ob]
    unfold fchk
    rw [if_pos (.inl rfl)]; rfl
  | false =>
    obtain ⟨a1, a2, a3, a4⟩ := ov (scrub h.n h1) rfl (fun b hb => scrub_g hb)
    refine ⟨h.over (scrub h.n h1), fun R k => ?_, a1, a2, a3, a4⟩
    unfold pcallF
    rw [hc, Vm.ob]
    unfold fchk
    rw [if_pos (.inr hv)]; rfl
theorem st6_new {R : Type} {h : H} {a b c d e f x y z u v w : S} {k : H → Option R} : stK 6 (h.new 0 [a, b, c, d, e, f]) (pv h.n 0) (.agg [x, y, z, u, v, w]) k = k ((h.new 0 [a, b, c, d, e, f]).put h.n (.rw 0 [x, y, z, u, v, w])) :=
  stK_rw (z := 6) (e := 0) (o := 0) (b := h.n) (cs := [a, b, c, d, e, f]) (r := [x, y, z, u, v, w]) (by simp) (new_g _ _ _) (.inr rfl) rfl (by simp)
theorem sc5 {a b c d e : Int} : ∀ s ∈ [S.int .i64 a, .int .i64 b, .int .i64 c, .int .i64 d, .int .i64 e], Sc s := by
  intro s hs
  simp only [List.mem_cons, List.not_mem_nil, or_false] at hs
  rcases hs with rfl | rfl | rfl | rfl | rfl <;> trivial
theorem OwnC.y4 {d : Nat} {a b c : Int} {y f : S} {lo hi : Nat} {h : H} (w : OwnC d [.int .i64 a, .int .i64 b, .int .i64 c, y] [.int .i64 a, .int .i64 b, .int .i64 c, f] lo hi h) : OwnF d y f lo hi h := OwnC.f (pre := [.int .i64 a, .int .i64 b, .int .i64 c]) sc3 w
theorem f_ReadRecord {d : List UInt8} (hl : d.length ≤ maxLen) (n : Nat) : ∃ y h', call Ev Fn.impl_ReadRecord [lv (bys d)] (D n) = some (.agg [.int .i64 (rdC d), .int .i64 (rdN d), .int .i64 (rdRec d).kind, .int .i64 (rdRec d).tx, .int .i64 (rdRec d).page, y], h') ∧ NewC 4 [.int .i64 (rdC d), .int .i64 (rdN d), .int .i64 (rdRec d).kind, .int .i64 (rdRec d).tx, .int .i64 (rdRec d).page, y] (six (rdC d) (rdN d) (rdRec d)) n h' := by
  rw [eq_impl_ReadRecord]
  obtain ⟨y, h1, e1, w1⟩ := f_read hl (n + 1)
  have hy : scaS y = true := by obtain ⟨bs, w, _⟩ := w1.q.y4; exact w.sca
  obtain ⟨K, e2, u, hK, w2, _⟩ := pG (h := (D n).new 0 [.int .i64 0, .int .i64 0, .int .i64 0, .int .i64 0, .int .i64 0, .sl none 0]) (off := true) (by simp) e1 (by simp [hy]) w1
  rw [e2]
  simp only [gVT_t, gx0, gx1, ob, gAA_a, gI_i, gA1_s, ln0, ln1, Nat.zero_add, Nat.reduceAdd, if_true]
  have kg : K.g n = .rw 0 [.int .i64 0, .int .i64 0, .int .i64 0, .int .i64 0, .int .i64 0, .sl none 0] := by rw [u.g n (by simp)]; exact new_g (D n) _ _
  rw [st4_new]
  have uS : Up K ((K.new 0 [.int .i64 0, .int .i64 0, .int .i64 0, .sl none 0]).put K.n (.rw 0 [.int .i64 (rdRec d).kind, .int .i64 (rdRec d).tx, .int .i64 (rdRec d).page, y])) := up_st
  have nS : ((K.new 0 [.int .i64 0, .int .i64 0, .int .i64 0, .sl none 0]).put K.n (.rw 0 [.int .i64 (rdRec d).kind, .int .i64 (rdRec d).tx, .int .i64 (rdRec d).page, y])).n = K.n + 1 := n_st
  have gS : ((K.new 0 [.int .i64 0, .int .i64 0, .int .i64 0, .sl none 0]).put K.n (.rw 0 [.int .i64 (rdRec d).kind, .int .i64 (rdRec d).tx, .int .i64 (rdRec d).page, y])).g K.n = .rw 0 [.int .i64 (rdRec d).kind, .int .i64 (rdRec d).tx, .int .i64 (rdRec d).page, y] := g_st
  replace w2 := w2.up uS
  replace kg := (uS.g n (by omega)).trans kg
  generalize (K.new 0 [.int .i64 0, .int .i64 0, .int .i64 0, .sl none 0]).put K.n (.rw 0 [.int .i64 (rdRec d).kind, .int .i64 (rdRec d).tx, .int .i64 (rdRec d).page, y]) = L at w2 kg uS nS gS ⊢
  rw [vcase_b]
  by_cases hok : rdOk d
  case neg =>
    have hr := rd_no hok
    have hc : rdC d = 5 := by unfold rdC; rw [if_neg hok]
    rw [if_pos (by simp [hr.2]), D_n]
    rw [stK_rw (z := 6) (e := 0) (o := 0) (b := n) (cs := [.int .i64 0, .int .i64 0, .int .i64 0, .int .i64 0, .int .i64 0, .sl none 0]) (r := [.int .i64 5, .int .i64 0, .int .i64 0, .int .i64 0, .int .i64 0, .sl none 0]) (by omega) kg (.inr rfl) rfl (by simp)]
    rw [show setAt [.int .i64 0, .int .i64 0, .int .i64 0, .int .i64 0, .int .i64 0, .sl none 0] 0 [.int .i64 5, .int .i64 0, .int .i64 0, .int .i64 0, .int .i64 0, .sl none 0] = [.int .i64 5, .int .i64 0, .int .i64 0, .int .i64 0, .int .i64 0, .sl none 0] from rfl]
    rw [loadN_6 (b := n) (e := 0) (by rw [put_n]; omega) (put_g _ _ _), ob, hr.1, hc, hr.2]
    refine ⟨.sl none 0, _, rfl, by rw [put_n]; omega, ?_⟩
    exact OwnF.c (pre := [.int .i64 5, .int .i64 0, .int .i64 0, .int .i64 0, .int .i64 0]) sc5 ⟨[], Rep.nil, by simp, by simp⟩
  have hN := (rd_yes hok).2
  have h7 : 7 ≤ bn d 0 := hok.2.1
  have hc : rdC d = 0 := by unfold rdC; rw [if_pos hok]
  rw [if_neg (by simp; omega), loadN_4 (by omega) gS]
  simp only [gx0, gx1, ob, gI_i, ln0, ln1, Nat.zero_add, Nat.reduceAdd, if_true]
  rw [D_n, stK_rw (z := 6) (e := 0) (o := 0) (b := n) (cs := [.int .i64 0, .int .i64 0, .int .i64 0, .int .i64 0, .int .i64 0, .sl none 0]) (r := [.int .i64 0, .int .i64 (rdN d), .int .i64 (rdRec d).kind, .int .i64 (rdRec d).tx, .int .i64 (rdRec d).page, y]) (by omega) kg (.inr rfl) rfl (by simp)]
  rw [show setAt [.int .i64 0, .int .i64 0, .int .i64 0, .int .i64 0, .int .i64 0, .sl none 0] 0 [.int .i64 0, .int .i64 (rdN d : Int), .int .i64 (rdRec d).kind, .int .i64 (rdRec d).tx, .int .i64 (rdRec d).page, y] = [.int .i64 0, .int .i64 (rdN d), .int .i64 (rdRec d).kind, .int .i64 (rdRec d).tx, .int .i64 (rdRec d).page, y] from rfl]
  rw [loadN_6 (b := n) (e := 0) (by rw [put_n]; omega) (put_g _ _ _), ob, hc]
  obtain ⟨bs, w3, w4, w5⟩ := w2.now.y4
  refine ⟨y, _, rfl, by rw [put_n]; omega, ?_⟩
  refine OwnF.c (pre := [.int .i64 0, .int .i64 (rdN d), .int .i64 (rdRec d).kind, .int .i64 (rdRec d).tx, .int .i64 (rdRec d).page]) sc5 ⟨bs, w3.frame fun c hc => ?_, w4, fun c hc => ?_⟩
  · have := w5 c hc
    exact ⟨by rw [put_n]; omega, put_g' (by omega)⟩
  · have := w5 c hc
    rw [put_n]; omega
theorem p_eqRdR {c u : Int} {r : RecD} (hl : r.rs.length ≤ maxLen) (hr : ∀ x ∈ r.rs, x.l.length ≤ maxLen) : pureV (call Ev) Fn.laws_eqRecordResult [.agg (six c u r), .agg (six c u r)] = some (bv true) := by
  rw [pu_laws_eqRecordResult, vcase_b, if_neg (by simp), vcase_b, if_neg (by simp), pc (p_eqRecord r hl hr) rfl]
  simp
theorem p_heldRdR {c u : Int} {r : RecD} {k : Nat} (hk : k + rsz r.rs < 2 ^ 62) : pureV (call Ev) Fn.laws_heldRecordResult [.agg (six c u ⟨r.kind, r.tx, r.page, mkRs k r.rs⟩), iv .i64 k] = some (iv .i64 ((k + rsz r.rs : Nat) : Int)) := by
  have e : pureV (call Ev) Fn.laws_heldRecord [.agg (RecD.cs ⟨r.kind, r.tx, r.page, mkRs k r.rs⟩), iv .i64 k] = some (iv .i64 ((k + rsz r.rs : Nat) : Int)) := by
    rw [pu_laws_heldRecord, pc (p_heldRs hk) rfl]
    simp only [gV1_s, gI_i, vcase_b]
    rw [if_neg (by simp; omega)]
  rw [pu_laws_heldRecordResult, pc e rfl]
  simp only [gV1_s, gI_i, vcase_b]
  rw [if_neg (by simp; omega)]
/-- what is known of a heap behind a mark -/
structure Mk (h : H) (d : Nat) (y f : S) (bs : List Nat) (p : H) : Prop where
  r : Rep p d y f bs
  n : h.n ≤ p.n
  o : ∀ c, c ∉ bs → c < h.n → p.g c = h.g c ∧ p.v c = h.v c
  e : p.n = h.n → ∀ c, h.n ≤ c → p.g c = h.g c
theorem Mk.tidy {h p : H} {d : Nat} {y f : S} {bs : List Nat} {n : Int} (m : Mk h d y f bs p) (hb : ∀ b ∈ bs, b < h.n) : Mk h d y f bs (tidy h [iv .i64 n] p) ∧ (Vm.tidy h [iv .i64 n] p).n = h.n := by
  have hT : Tidy h [iv .i64 n] p := ⟨m.n, by simp [belV, belS], fun b hb' => by
    by_cases hbb : b ∈ bs
    · exact .inr (m.r.bel hb b hbb)
    · exact .inl (m.o b hbb hb')⟩
  unfold Vm.tidy
  rw [if_pos hT]
  refine ⟨⟨m.r.frame fun b hbb => ⟨hb b hbb, by simp [hb b hbb]⟩, Nat.le_refl _, fun c hc hcn => ?_, fun _ c hc => ?_⟩, rfl⟩
  · simp only [if_pos hcn]; exact m.o c hc hcn
  · simp only [if_neg (show ¬ c < h.n by omega)]
theorem Mk.down {h p : H} {d e : Nat} {y f : S} {bs : List Nat} {cs : List S} (m : Mk (h.new e cs) d y f bs p) : Mk h d y f bs p := by
  have hn := m.n
  simp only [new_n] at hn
  refine ⟨m.r, by omega, fun c hc hcn => ?_, fun hh => by omega⟩
  have := m.o c hc (by simp; omega)
  refine ⟨this.1.trans (new_g' (by omega)), this.2.trans ?_⟩
  simp [H.new, show c ≠ h.n by omega]
theorem Rep.markRec {h : H} {a b c : Int} {y : S} {rs : List RunD} {bs : List Nat} {k : Nat} (w : Rep h 4 y (.fs (runs rs)) bs) (hd : bs.Nodup) (hl : k + rsz rs < 2 ^ 62) :
    ∃ p, call Ev Fn.laws_markRecord [.agg [.int .i64 a, .int .i64 b, .int .i64 c, y], iv .i64 k] h = some (iv .i64 ((k + rsz rs : Nat) : Int), p) ∧ Mk h 4 y (.fs (runs (mkRs k rs))) bs p := by
  rw [eq_laws_markRecord]
  have l1 : load1 (h.new 0 [.int .i64 a, .int .i64 b, .int .i64 c, y]) (pv h.n 3) = some y := by simp [load1, H.cells, Blk.cells]
  rw [l1, Vm.ob]
  have w1' : Rep (h.new 0 [.int .i64 a, .int .i64 b, .int .i64 c, y]) 4 y (.fs (runs rs)) bs := w.frame fun b hb => ⟨by have := w.lt b hb; simp; omega, new_g' (by have := w.lt b hb; omega)⟩
  obtain ⟨p, e1, r1, n1, o1⟩ := w1'.markRs (k := k) hd hl
  rw [e1, Vm.ob]
  simp only [gV1_s, gI_i]
  have m : Mk (h.new 0 [.int .i64 a, .int .i64 b, .int .i64 c, y]) 4 y (.fs (runs (mkRs k rs))) bs p := ⟨r1, by rw [n1]; exact Nat.le_refl _, fun d hd _ => o1 d hd, fun _ d hd => (o1 d fun hh => by have := w1'.lt d hh; omega).1⟩
  exact ⟨_, rfl, (m.tidy (n := ((k + rsz rs : Nat) : Int)) w1'.lt).1.down⟩
theorem Mk.sep {h p : H} {pre : List S} {y f : S} {lo hi d : Nat} {n : Int} {bs : List Nat} (hp : ∀ s ∈ pre, Sc s) (hb : ∀ b ∈ bs, lo ≤ b ∧ b < hi) (hd : bs.Nodup) (ht : hi ≤ h.n) (m : Mk h d y f bs p) :
    Sep (OwnC d (pre ++ [y]) (pre ++ [f]) lo hi) lo hi (Vm.tidy h [iv .i64 n] p) ∧ ButR lo hi h (Vm.tidy h [iv .i64 n] p) := markC hp hb hd ht m.r m.n m.o m.e
theorem r_markRdR {h : H} {c u a b e : Int} {y : S} {rs : List RunD} {lo hi k : Nat} (w : Sep (OwnC 4 [.int .i64 c, .int .i64 u, .int .i64 a, .int .i64 b, .int .i64 e, y] [.int .i64 c, .int .i64 u, .int .i64 a, .int .i64 b, .int .i64 e, .fs (runs rs)] lo hi) lo hi h) (hl : k + rsz rs < 2 ^ 62) :
    ∃ p, call Ev Fn.laws_markRecordResult [.agg [.int .i64 c, .int .i64 u, .int .i64 a, .int .i64 b, .int .i64 e, y], iv .i64 k] h = some (iv .i64 ((k + rsz rs : Nat) : Int), p) ∧ Sep (OwnC 4 [.int .i64 c, .int .i64 u, .int .i64 a, .int .i64 b, .int .i64 e, y] [.int .i64 c, .int .i64 u, .int .i64 a, .int .i64 b, .int .i64 e, .fs (runs (mkRs k rs))] lo hi) lo hi (Vm.tidy h [iv .i64 ((k + rsz rs : Nat) : Int)] p) ∧ ButR lo hi h (Vm.tidy h [iv .i64 ((k + rsz rs : Nat) : Int)] p) := by
  obtain ⟨bs, w1, w2, w3⟩ := OwnC.f (pre := [.int .i64 c, .int .i64 u, .int .i64 a, .int .i64 b, .int .i64 e]) sc5 w.now
  have ht := w.top
  rw [eq_laws_markRecordResult]
  have l1 : loadN 4 (h.new 0 [.int .i64 c, .int .i64 u, .int .i64 a, .int .i64 b, .int .i64 e, y]) (pv h.n 2) = some [.int .i64 a, .int .i64 b, .int .i64 e, y] := loadN_rw (by simp) (new_g _ _ _) (by simp)
  rw [l1]
  simp only [gx0, gx1, Vm.ob, gI_i, ln0, ln1, Nat.zero_add, Nat.reduceAdd, if_true]
  have w1' : Rep (h.new 0 [.int .i64 c, .int .i64 u, .int .i64 a, .int .i64 b, .int .i64 e, y]) 4 y (.fs (runs rs)) bs := w1.frame fun b hb => ⟨by have := w1.lt b hb; simp; omega, new_g' (by have := w1.lt b hb; omega)⟩
  obtain ⟨p, e1, m⟩ := w1'.markRec (a := a) (b := b) (c := e) (k := k) w2 hl
  rw [e1, Vm.ob]
  simp only [gV1_s, gI_i]
  exact ⟨_, rfl, Mk.sep (pre := [.int .i64 c, .int .i64 u, .int .i64 a, .int .i64 b, .int .i64 e]) sc5 w3 w2 ht (m.tidy (n := ((k + rsz rs : Nat) : Int)) w1'.lt).1.down⟩
theorem frzV_six {h : H} {a b c d e : Int} {l : List (List S)} : frzV h (.agg [.int .i64 a, .int .i64 b, .int .i64 c, .int .i64 d, .int .i64 e, .fs l]) = some (.agg [.int .i64 a, .int .i64 b, .int .i64 c, .int .i64 d, .int .i64 e, .fs l]) := by simp
theorem rd_bd (d : List UInt8) : (rdRec d).rs.length ≤ 256 ∧ (∀ x ∈ (rdRec d).rs, x.l.length ≤ maxLen) ∧ rsz (rdRec d).rs ≤ 2000 := by
  unfold rdRec
  split
  · rename_i h
    obtain ⟨h7, h8, h9, hf, hp⟩ := h
    have hb := bn_lt d 0
    have htl : (d.take (bn d 0)).length = bn d 0 := by rw [List.length_take]; omega
    have := spL_bd (d.take (bn d 0)) (bn (d.take (bn d 0)) 4) 5 (by omega)
    have h4 := bn_lt (d.take (bn d 0)) 4
    refine ⟨by unfold spR; dsimp only; omega, fun x hx => ?_, by unfold spR; dsimp only; omega⟩
    have := (recF_ok hf).2.2.2.2.2.2.2 x hx
    unfold inR at this
    unfold maxLen; omega
  · simp [rsz, szAll]
end Vm
/-
  All records at the beginning of bytes; the fault of a log.
-/
namespace Vm
open Go
def recs (rs : List RecD) : List (List S) := rs.map RecD.cs
@[simp] theorem recs_len (rs : List RecD) : (recs rs).length = rs.length := by simp [recs]
theorem recs_row {rs : List RecD} : ∀ r ∈ recs rs, r.length = 4 := by
  intro r hr
  obtain ⟨c, _, rfl⟩ := List.mem_map.1 hr
  rfl
theorem recs_cl {rs : List RecD} : ∀ r ∈ recs rs, ∀ s ∈ r, Cl s := by
  intro r hr s hs
  obtain ⟨c, _, rfl⟩ := List.mem_map.1 hr
  simp only [List.mem_cons, List.not_mem_nil, or_false] at hs
  rcases hs with rfl | rfl | rfl | rfl <;> first | exact cl_i | exact cl_f
theorem recs_snoc (rs : List RecD) (r : RecD) : recs (rs ++ [r]) = recs rs ++ [r.cs] := by simp [recs]
def rdAll : Nat → List UInt8 → List RecD × Nat
  | 0, _ => ([], 0)
  | q + 1, d => if rdOk d then (rdRec d :: (rdAll q (d.drop (rdN d))).1, rdN d + (rdAll q (d.drop (rdN d))).2) else ([], 0)
def rdS (d : List UInt8) : List RecD := (rdAll (d.length + 1) d).1
def rdU (d : List UInt8) : Nat := (rdAll (d.length + 1) d).2
theorem rdN_bd {d : List UInt8} (h : rdOk d) : 7 ≤ rdN d ∧ rdN d ≤ d.length := by
  rw [(rd_yes h).2]
  exact ⟨h.2.1, h.2.2.1⟩
theorem rdAll_bd : ∀ (q : Nat) (d : List UInt8), (rdAll q d).2 ≤ d.length ∧ 7 * (rdAll q d).1.length ≤ (rdAll q d).2
  | 0, d => by simp [rdAll]
  | q + 1, d => by
    simp only [rdAll]
    split
    · rename_i h
      have h1 := rdN_bd h
      have := rdAll_bd q (d.drop (rdN d))
      simp only [List.length_drop, List.length_cons] at *
      omega
    · simp
theorem app_fz {h : H} {z b : Nat} {rows : List (List S)} {row : List S} (hb : b < h.n) (hg : h.g b = .rw z rows.flatten) (hr : ∀ r ∈ rows, r.length = z) (hz0 : 0 < z) (hz : row.length = z) (hl : rows.length + 1 ≤ lim) :
    appS z (h.new z row) (sv b 0 rows.length) (sv h.n 0 1) = some (sv (h.n + 1) 0 (rows.length + 1), ((h.new z row).put b .dead).new z (rows.flatten ++ row)) := by
  have hf := flat_len hr
  have hbn : b ≠ h.n := by omega
  have c1 : (h.new z row).cells b = rows.flatten := by unfold H.cells; rw [if_pos (by simp; omega), new_g' hbn, hg]; rfl
  have c2 : (h.new z row).cells h.n = row := by unfold H.cells; rw [if_pos (by simp), new_g]; rfl
  have cx : cellsS z (h.new z row) (sv b 0 rows.length) = some rows.flatten := by
    simp only [cellsS, c1]
    rw [if_pos ⟨by simp; omega, by omega⟩, List.drop_zero, List.take_of_length_le (by omega)]
  have cy : cellsS z (h.new z row) (sv h.n 0 1) = some row := by
    simp only [cellsS, c2]
    rw [if_pos ⟨by simp, by omega⟩, List.drop_zero, List.take_of_length_le (by omega)]
  simp only [appS, cx, cy, Option.bind_some, lenS]
  rw [if_pos ⟨by rw [new_n]; omega, hl, hz0⟩, new_g' hbn, hg]
  simp only [if_true]
  rfl
section
variable {d : List UInt8} (hl : d.length ≤ 2147483648)
include hl
theorem lp_l5Read : ∀ (q i : Nat) (h : H) (b : Nat) (acc : List RecD), (d.drop i).length < q → i ≤ d.length → 7 * acc.length ≤ i → b < h.n → h.g b = .rw 4 (recs acc).flatten →
    ∃ h' b', Lp.spec_l5Read 0 [lv (bys d), sv b 0 acc.length, iv .i64 i] h = some (.done [sv b' 0 (acc ++ (rdAll q (d.drop i)).1).length, iv .i64 ((i + (rdAll q (d.drop i)).2 : Nat) : Int)] h') ∧ h.n ≤ h'.n ∧ b' < h'.n ∧ h'.g b' = .rw 4 (recs (acc ++ (rdAll q (d.drop i)).1)).flatten := by
  intro q
  induction q with
  | zero => intro i h b acc hq; omega
  | succ q ih =>
    intro i h b acc hq hi ha hb hg
    rw [eq_spec_l5Read_l0, vcase_b, bys_len]
    by_cases h1 : i < d.length
    case neg =>
      have e : d.drop i = [] := List.drop_of_length_le (by omega)
      have hno : ¬ rdOk [] := fun hh => by have := hh.1; simp at this
      have e2 : rdAll (q + 1) (d.drop i) = ([], 0) := by rw [e]; simp only [rdAll]; rw [if_neg hno]
      rw [if_neg (by simp; omega), tidy_self, e2]
      exact ⟨h, b, by simp, Nat.le_refl _, hb, by simpa using hg⟩
    rw [if_pos (by simp; omega), slF_lo (by omega), p_spec_ReadRecord (by rw [List.length_drop]; unfold maxLen; omega)]
    simp only [ob, gVA_a, gx0, gx1, gI_i, gF_f]
    rw [if_pos (show ([_, _, _, _, _, _] : List S).length = 6 from rfl), st6_new]
    generalize hZ : d.drop i = z at *
    have u1 : Up h ((h.new 0 [.int .i64 0, .int .i64 0, .int .i64 0, .int .i64 0, .int .i64 0, .sl none 0]).put h.n (.rw 0 (six (rdC z) (rdN z) (rdRec z)))) := up_st
    have gn : ((h.new 0 [.int .i64 0, .int .i64 0, .int .i64 0, .int .i64 0, .int .i64 0, .sl none 0]).put h.n (.rw 0 (six (rdC z) (rdN z) (rdRec z)))).n = h.n + 1 := n_st
    have gg : ((h.new 0 [.int .i64 0, .int .i64 0, .int .i64 0, .int .i64 0, .int .i64 0, .sl none 0]).put h.n (.rw 0 (six (rdC z) (rdN z) (rdRec z)))).g h.n = .rw 0 (six (rdC z) (rdN z) (rdRec z)) := g_st
    generalize (h.new 0 [.int .i64 0, .int .i64 0, .int .i64 0, .int .i64 0, .int .i64 0, .sl none 0]).put h.n (.rw 0 (six (rdC z) (rdN z) (rdRec z))) = G at u1 gn gg ⊢
    have ld : ∀ {K : H} {o : Nat}, h.n < K.n → K.g h.n = .rw 0 (six (rdC z) (rdN z) (rdRec z)) → load1 K (pv h.n o) = (six (rdC z) (rdN z) (rdRec z))[o]? := fun {K} {o} h1 h2 => by simp [load1, H.cells, h1, h2, Blk.cells]
    rw [ld (by omega) gg]
    simp only [gx0, gx1, ob, gI_i, vcase_b]
    by_cases hok : rdOk z
    case neg =>
      have e2 : rdAll (q + 1) z = ([], 0) := by simp only [rdAll]; rw [if_neg hok]
      have hc : rdC z = 5 := by unfold rdC; rw [if_neg hok]
      rw [if_pos (by simp [hc]), e2]
      have ht : (tidy h [sv b 0 acc.length, iv .i64 i] G).n = h.n ∧ (tidy h [sv b 0 acc.length, iv .i64 i] G).g b = h.g b ∨ tidy h [sv b 0 acc.length, iv .i64 i] G = G := by
        by_cases hT : Tidy h [sv b 0 acc.length, iv .i64 i] G
        · left
          unfold tidy
          rw [if_pos hT]
          exact ⟨rfl, by simp only [if_pos hb]; exact u1.g b hb⟩
        · right
          unfold tidy
          rw [if_neg hT]
      generalize tidy h [sv b 0 acc.length, iv .i64 i] G = T at ht ⊢
      refine ⟨T, b, by simp, ?_, ?_, ?_⟩
      · rcases ht with h1 | h1
        · omega
        · rw [h1]; omega
      · rcases ht with h1 | h1
        · omega
        · rw [h1]; omega
      · rcases ht with h1 | h1
        · rw [h1.2]; simpa using hg
        · rw [h1, u1.g b hb]; simpa using hg
    have hc : rdC z = 0 := by unfold rdC; rw [if_pos hok]
    have hbd := rdN_bd hok
    have hzl : z.length = d.length - i := by rw [← hZ, List.length_drop]
    have e2 : rdAll (q + 1) z = (rdRec z :: (rdAll q (z.drop (rdN z))).1, rdN z + (rdAll q (z.drop (rdN z))).2) := by
      show (if rdOk z then _ else _) = _
      rw [if_pos hok]
    have l4 : loadN 4 G (pv h.n 2) = some (rdRec z).cs := loadN_rw (by omega) gg (by simp)
    rw [if_neg (by simp [hc]), l4]
    simp only [gx0, gx1, ob, gI_i]
    rw [if_pos (show ([_, _, _, _] : List S).length = 4 from rfl)]
    have hgG := (u1.g b hb).trans hg
    have ha2 := app_fz (h := G) (z := 4) (b := b) (rows := recs acc) (row := (rdRec z).cs) (by omega) hgG recs_row (by omega) rfl (by simp; unfold lim; omega)
    rw [recs_len] at ha2
    rw [ha2, ob]
    have kg : (((G.new 4 (rdRec z).cs).put b .dead).new 4 ((recs acc).flatten ++ (rdRec z).cs)).g h.n = .rw 0 (six (rdC z) (rdN z) (rdRec z)) := by
      rw [new_g' (by simp; omega), put_g' (by omega), new_g' (by omega)]; exact gg
    dsimp only
    rw [ld (by simp; omega) kg]
    simp only [gx0, gx1, ob, gI_i]
    rw [no_tidy_v (by simp [belV, belS]; omega), w64 (by omega) (by omega), show (i : Int) + (rdN z : Int) = ((i + rdN z : Nat) : Int) from by omega]
    have hz2 : d.drop (i + rdN z) = z.drop (rdN z) := by rw [← hZ, List.drop_drop]
    obtain ⟨h', b', e5, n5, b5, g5⟩ := ih (i + rdN z) (((G.new 4 (rdRec z).cs).put b .dead).new 4 ((recs acc).flatten ++ (rdRec z).cs)) (G.n + 1) (acc ++ [rdRec z]) (by rw [hz2, List.length_drop]; omega) (by omega) (by rw [List.length_append, List.length_singleton]; omega) (by simp) (by rw [recs_snoc, List.flatten_append]; simpa using new_g ((G.new 4 (rdRec z).cs).put b .dead) 4 ((recs acc).flatten ++ (rdRec z).cs))
    rw [hz2] at e5 g5
    rw [List.length_append, List.length_singleton] at e5
    refine ⟨h', b', ?_, by simp at n5; omega, b5, ?_⟩
    · rw [e5, e2]
      simp only [List.append_assoc, List.singleton_append, Nat.add_assoc]
    · rw [g5, e2]; simp
theorem f_l5Read (n : Nat) : ∃ y h', call Ev Fn.spec_l5Read [lv (bys d)] (D n) = some (.tup [.s y, .s (.int .i64 (rdU d))], h') ∧ n ≤ h'.n ∧ scaS y = true ∧ frzS h' 8 y = some (.fs (recs (rdS d))) := by
  obtain ⟨h', b', e5, n5, b5, g5⟩ := lp_l5Read hl (d.length + 1) 0 ((D n).new 4 []) n [] (by simp) (by omega) (by simp) (by simp) (by exact new_g (D n) _ _)
  rw [eq_spec_l5Read, D_n, show iv .i64 0 = iv .i64 ((0 : Nat) : Int) from rfl]
  simp only [List.length_nil, List.drop_zero, List.nil_append, Nat.zero_add] at e5 g5
  rw [e5, ob, lcase_done]
  simp only [gx0, gx1, ob, gV1_s, gI_i]
  refine ⟨_, h', rfl, by simp at n5; omega, rfl, ?_⟩
  have := frzS_sl (h := h') (b := b') (z := 4) (d := 7) (rows := recs (rdS d)) b5 (by omega) g5 recs_row recs_cl
  rw [recs_len] at this
  exact this
theorem p_l5Read : pureV (call Ev) Fn.spec_l5Read [lv (bys d)] = some (.tup [.s (.fs (recs (rdS d))), .s (.int .i64 (rdU d))]) := by
  obtain ⟨y, h', e, _, _, hf⟩ := f_l5Read hl 0
  unfold pureV
  rw [e, ob]
  simp [frzAs, frzA, hf]
theorem lp_readAll : ∀ (q i : Nat) (h : H) (y : S) (bs : List Nat) (acc : List RecD) (n0 : Nat), (d.drop i).length < q → i ≤ d.length → 7 * acc.length ≤ i → OutS 4 4 y (recs acc) bs h → (∀ c ∈ bs, n0 ≤ c) → n0 ≤ h.n →
    ∃ h' y' bs', (Lp.impl_readAll 0 [lv (bys d), .s y, iv .i64 i] h).bind (fun o101 => lcase o101 (fun l102 h103 =>
      (l102[0]?).bind fun w106 =>
      (l102[1]?).bind fun w107 =>
      gV1 w107 fun x108 =>
      gI .i64 x108 fun i109 =>
      (V.toA w106).bind fun t110 =>
      some (V.tup [t110, .s (.int .i64 i109)], h103)) (fun v104 h105 =>
      some (v104, h105))) = some (.tup [.s y', .s (.int .i64 ((i + (rdAll q (d.drop i)).2 : Nat) : Int))], h') ∧ OutS 4 4 y' (recs (acc ++ (rdAll q (d.drop i)).1)) bs' h' ∧ (∀ c ∈ bs', n0 ≤ c) ∧ n0 ≤ h'.n := by
  intro q
  induction q with
  | zero => intro i h y bs acc n0 hq; omega
  | succ q ih =>
    intro i h y bs acc n0 hq hi ha w hb hn
    rw [eq_impl_readAll_l0, slF_lo (by omega)]
    generalize hZ : d.drop i = z at *
    have hzl : z.length = d.length - i := by rw [← hZ, List.length_drop]
    obtain ⟨yr, h1, e1, w1⟩ := f_read (d := z) (by rw [hzl]; unfold maxLen; omega) h.n
    have hy : scaS yr = true := by obtain ⟨bs, w, _⟩ := w1.q.y4; exact w.sca
    obtain ⟨K, e2, u, hK, w2, _⟩ := pG (h := h) (off := true) rfl e1 (by simp [hy]) w1
    rw [e2]
    simp only [gVT_t, gx0, gx1, ob, gAA_a, gI_i, gA1_s]
    rw [if_pos (show ([_, _, _, _] : List S).length = 4 from rfl), if_pos (show ([_, _] : List A).length = 2 from rfl), st4_new]
    have uS : Up K ((K.new 0 [.int .i64 0, .int .i64 0, .int .i64 0, .sl none 0]).put K.n (.rw 0 [.int .i64 (rdRec z).kind, .int .i64 (rdRec z).tx, .int .i64 (rdRec z).page, yr])) := up_st
    have nS : ((K.new 0 [.int .i64 0, .int .i64 0, .int .i64 0, .sl none 0]).put K.n (.rw 0 [.int .i64 (rdRec z).kind, .int .i64 (rdRec z).tx, .int .i64 (rdRec z).page, yr])).n = K.n + 1 := n_st
    have gS : ((K.new 0 [.int .i64 0, .int .i64 0, .int .i64 0, .sl none 0]).put K.n (.rw 0 [.int .i64 (rdRec z).kind, .int .i64 (rdRec z).tx, .int .i64 (rdRec z).page, yr])).g K.n = .rw 0 [.int .i64 (rdRec z).kind, .int .i64 (rdRec z).tx, .int .i64 (rdRec z).page, yr] := g_st
    replace w2 := w2.up uS
    generalize (K.new 0 [.int .i64 0, .int .i64 0, .int .i64 0, .sl none 0]).put K.n (.rw 0 [.int .i64 (rdRec z).kind, .int .i64 (rdRec z).tx, .int .i64 (rdRec z).page, yr]) = L at w2 uS nS gS ⊢
    have wL : OutS 4 4 y (recs acc) bs L := w.frame fun c hc => by
      have := w.rep.lt c hc
      exact ⟨by omega, (uS.g c (by omega)).trans (u.g c (by omega))⟩
    rw [vcase_b]
    by_cases hok : rdOk z
    case neg =>
      have e3 : rdAll (q + 1) z = ([], 0) := by simp only [rdAll]; rw [if_neg hok]
      rw [if_pos (by simp [(rd_no hok).2]), e3]
      simp only [V.toA, ob, lcase_ret]
      exact ⟨L, y, bs, rfl, by simpa using wL, hb, by omega⟩
    have hbd := rdN_bd hok
    have e3 : rdAll (q + 1) z = (rdRec z :: (rdAll q (z.drop (rdN z))).1, rdN z + (rdAll q (z.drop (rdN z))).2) := by
      show (if rdOk z then _ else _) = _
      rw [if_pos hok]
    rw [if_neg (by simp; omega), loadN_4 (by omega) gS]
    simp only [gx0, gx1, ob, gI_i]
    rw [if_pos (show ([_, _, _, _] : List S).length = 4 from rfl)]
    obtain ⟨br, wr1, wr2, wr3⟩ := w2.now
    obtain ⟨h2, bs2, e4, w3, n3, f3, o3, _, _⟩ := app_row wL wr1 rfl (by omega) wr2 (fun c hc hh => by have := w.rep.lt c hc; have := wr3 c hh; omega) (by simp; unfold lim; omega)
    rw [e4, ob]
    dsimp only
    rw [no_tidy_v (by simp [belV, belS]; omega), w64 (by omega) (by omega), show (i : Int) + (rdN z : Int) = ((i + rdN z : Nat) : Int) from by omega]
    rw [← recs_snoc] at w3
    have hz2 : d.drop (i + rdN z) = z.drop (rdN z) := by rw [← hZ, List.drop_drop]
    obtain ⟨h', y', bs', e5, w5, b5, n5⟩ := ih (i + rdN z) h2 _ bs2 (acc ++ [rdRec z]) n0 (by rw [hz2, List.length_drop]; omega) (by omega) (by rw [List.length_append, List.length_singleton]; omega) w3 (fun c hc => by
      rcases f3 c hc with h1 | h1 | h1
      · omega
      · exact hb c h1
      · have := wr3 c h1; omega) (by omega)
    rw [hz2] at e5 w5
    refine ⟨h', y', bs', ?_, ?_, b5, n5⟩
    · rw [e5, e3]
      simp only [Nat.add_assoc]
    · rw [e3]; simpa using w5
theorem f_readAll (n : Nat) : ∃ y h', call Ev Fn.impl_readAll [lv (bys d)] (D n) = some (.tup [.s y, .s (.int .i64 (rdU d))], h') ∧ n ≤ h'.n ∧ OwnF 5 y (.fs (recs (rdS d))) n h'.n h' := by
  obtain ⟨h', y', bs', e5, w5, b5, n5⟩ := lp_readAll hl (d.length + 1) 0 (D n) (.sl none 0) [] [] n (by simp) (by omega) (by simp) (by simpa [recs] using OutS.none) (by simp) (by simp)
  simp only [List.drop_zero, List.nil_append, Nat.zero_add] at e5 w5
  rw [eq_impl_readAll, show iv .i64 0 = iv .i64 ((0 : Nat) : Int) from rfl, e5]
  exact ⟨y', h', rfl, n5, bs', w5.rep, w5.nd, fun c hc => ⟨b5 c hc, w5.rep.lt c hc⟩⟩
theorem p_readAll : pureV (call Ev) Fn.impl_readAll [lv (bys d)] = some (.tup [.s (.fs (recs (rdS d))), .s (.int .i64 (rdU d))]) := by
  obtain ⟨y, h', e, _, bs, w, _⟩ := f_readAll hl 0
  have hf := w.frz (k := 8) (by omega)
  unfold pureV
  rw [e, ob]
  simp [frzAs, frzA, hf]
end
end Vm
/-
  The fault of a log; logs as arguments.
-/
namespace Vm
open Go
structure LogD where
  s : List UInt8
  l : List UInt8
abbrev LogD.cs (g : LogD) : List S := [.fs (bys g.s), .fs (bys g.l)]
theorem arg_Log {x : V} (hr : ArgRp PR T.laws_Log x) : ∃ g : LogD, x = .agg g.cs ∧ g.s.length ≤ maxLen ∧ g.l.length ≤ maxLen := by
  obtain ⟨cs, n, rfl, hs⟩ := hr.st und_laws_Log
  obtain ⟨m, hf⟩ := hs.st und_laws_Log
  obtain ⟨a0, b0, rfl, h0, a1, b1, rfl, h1, rfl⟩ := hf
  obtain ⟨m', rows, rfl, w3, w4⟩ := h0.slice und_S_uint8
  obtain ⟨l0, rfl⟩ := rows8 und_uint8 rows w4
  obtain ⟨m', rows, rfl, w5, w6⟩ := h1.slice und_S_uint8
  obtain ⟨l1, rfl⟩ := rows8 und_uint8 rows w6
  exact ⟨⟨l0, l1⟩, rfl, by simpa using w3, by simpa using w5⟩
/-- a log with a size that is known -/
structure LogD.sm (g : LogD) : Prop where
  n : g.s.length + g.l.length ≤ 1048576
def logF (g : LogD) : Int := if g.s.length + g.l.length > 16000 then 2 else if rdU g.s ≠ g.s.length then 5 else if rdU g.l ≠ g.l.length then 5 else 0
theorem p_l5Fault {g : LogD} (hg : g.sm) : pureV (call Ev) Fn.spec_l5Fault [fv g.cs 0] = some (iv .i64 (logF g)) := by
  have h := hg.n
  rw [pu_spec_l5Fault, bys_len, bys_len, w64 (by omega) (by omega), vcase_b]
  unfold logF
  by_cases h1 : g.s.length + g.l.length > 16000
  · rw [if_pos (by simp; omega), if_pos h1]
  rw [if_neg (by simp; omega), if_neg h1, p_l5Read (by omega)]
  simp only [ob, gVT_t, gx0, gx1, gA1_s, gF_f, gI_i, ln0, ln1, Nat.zero_add, Nat.reduceAdd, if_true, vcase_b]
  by_cases h2 : rdU g.s = g.s.length
  case neg => rw [if_pos (by simp; omega), if_pos h2]
  rw [if_neg (by simp; omega), if_neg (by simp [h2]), p_l5Read (by omega)]
  simp only [ob, gVT_t, gx0, gx1, gA1_s, gF_f, gI_i, ln0, ln1, Nat.zero_add, Nat.reduceAdd, if_true, vcase_b]
  by_cases h3 : rdU g.l = g.l.length
  · rw [if_neg (by simp; omega), if_neg (by simp [h3])]
  · rw [if_pos (by simp; omega), if_pos h3]
theorem p_spec_LogFault {g : LogD} (hg : g.sm) : pureV (call Ev) Fn.spec_LogFault [.agg g.cs] = some (iv .i64 (logF g)) := by
  rw [pu_spec_LogFault, pc (p_l5Fault hg) rfl]; simp
theorem p_LogFault {g : LogD} (hg : g.sm) : pureV (call Ev) Fn.impl_LogFault [.agg g.cs] = some (iv .i64 (logF g)) := by
  have h := hg.n
  have es : pureV (call Ev) Fn.impl_Log_size [.agg g.cs] = some (iv .i64 ((g.s.length : Int) + (g.l.length : Int))) := by
    rw [pu_impl_Log_size, bys_len, bys_len, w64 (by omega) (by omega)]
  rw [pu_impl_LogFault, pc es rfl]
  simp only [gV1_s, gI_i, vcase_b]
  unfold logF
  by_cases h1 : g.s.length + g.l.length > 16000
  · rw [if_pos (by simp; omega), if_pos h1]
  rw [if_neg (by simp; omega), if_neg h1]
  generalize hG : ((D 0).new 0 [.fs (bys g.s), .fs (bys g.l)]).new 1 [.fs (bys g.s), .fs (bys g.l)] = G
  have gn : G.n = 2 := by rw [← hG]; simp
  have g1 : G.g 1 = .rw 1 [.fs (bys g.s), .fs (bys g.l)] := by rw [← hG]; exact new_g ((D 0).new 0 [.fs (bys g.s), .fs (bys g.l)]) _ _
  have step : ∀ (i : Nat) (l : List UInt8), i < 2 → ([S.fs (bys g.s), .fs (bys g.l)] : List S)[i]? = some (.fs (bys l)) → l.length ≤ 2147483648 →
      Lp.impl_LogFault 0 [sv 1 0 2, iv .i64 ((2 : Nat) : Int), iv .i64 i] G = if rdU l ≠ l.length then some (.ret (iv .i64 5) G) else Lp.impl_LogFault 0 [sv 1 0 2, iv .i64 ((2 : Nat) : Int), iv .i64 ((i + 1 : Nat) : Int)] G := by
    intro i l hi hl2 hl3
    rw [eq_impl_LogFault_l0, vcase_b, if_pos (by simp; omega), idxK_sv hi]
    have ld : load1 G (pv 1 (i * 1)) = some (.fs (bys l)) := by
      simp only [load1, H.cells, gn, g1, Blk.cells, Nat.mul_one]
      simpa using hl2
    simp only [ldK, ldT, cond_false, ld, ob]
    rw [show ([V.s (S.fs (bys l))].all offV) = true from rfl, cond_true, frzVs_cons frzV_lv frzVs_nil, ob, norm_nil, p_readAll hl3]
    simp only [ob, gVT_t, gx0, gx1, gA1_s, gF_f, gI_i]
    rw [if_pos (show ([_, _] : List A).length = 2 from rfl)]
    simp only [lenV, ob, gV1_s, gI_i, vcase_b, bys_len]
    by_cases h2 : rdU l = l.length
    · rw [if_neg (by simp; omega), if_neg (by simp [h2]), w64 (by omega) (by omega), tidy_self, show (i : Int) + 1 = ((i + 1 : Nat) : Int) from by omega]
    · rw [if_pos (by simp; omega), if_pos h2]
  rw [show iv .i64 0 = iv .i64 ((0 : Nat) : Int) from rfl, step 0 g.s (by omega) rfl (by omega)]
  by_cases h2 : rdU g.s = g.s.length
  case neg => rw [if_pos h2, if_pos h2]; simp
  rw [if_neg (by simp [h2]), if_neg (by simp [h2]), step 1 g.l (by omega) rfl (by omega)]
  by_cases h3 : rdU g.l = g.l.length
  case neg => rw [if_pos h3, if_pos h3]; simp
  rw [if_neg (by simp [h3]), if_neg (by simp [h3]), eq_impl_LogFault_l0, vcase_b, if_neg (by simp), tidy_self]
  simp
/-- the size guard -/
def szLg (g : LogD) : Int := if (g.s.length : Int) + g.l.length ≤ 1048576 then 1048576 - g.s.length - g.l.length else -1
theorem p_szLog {g : LogD} (h1 : g.s.length ≤ maxLen) (h2 : g.l.length ≤ maxLen) : pureV (call Ev) Fn.laws_szLog [.agg g.cs, iv .i64 1048576] = some (iv .i64 (szLg g)) := by
  rw [pu_laws_szLog, pc (p_szByteS (by omega) (by omega) h1) rfl]
  simp only [gV1_s, gI_i, vcase_b, decide_eq_true_eq]
  unfold szLg szL
  by_cases a : (g.s.length : Int) ≤ 1048576
  · rw [if_pos a, if_neg (by omega), pc (p_szByteS (by omega) (by omega) h2) rfl]
    simp only [gV1_s, gI_i, vcase_b, decide_eq_true_eq]
    unfold szL
    by_cases b : (g.l.length : Int) ≤ 1048576 - g.s.length
    · rw [if_pos b, if_neg (by omega), if_pos (by omega)]
    · rw [if_neg b, if_pos (by omega), if_neg (by omega)]
  · rw [if_neg a, if_pos (by omega), if_neg (by omega)]
theorem szLg_ok {g : LogD} (h : ¬ szLg g < 0) : g.sm ∧ g.s.length ≤ lim ∧ g.l.length ≤ lim := by
  unfold szLg at h
  split at h
  · refine ⟨⟨by omega⟩, ?_, ?_⟩ <;> (unfold lim; omega)
  · omega
theorem p_eqLog {g : LogD} (h1 : g.s.length ≤ maxLen) (h2 : g.l.length ≤ maxLen) : pureV (call Ev) Fn.laws_eqLog [.agg g.cs, .agg g.cs] = some (bv true) := by
  rw [pu_laws_eqLog, pc (p_eqByteS h1) rfl]
  simp only [gV1_s, gB_b, vcase_b, decide_true, Bool.not_true, Bool.false_eq_true, if_false]
  rw [pc (p_eqByteS h2) rfl]
  simp
theorem f_toLog (g : LogD) (h1 : g.s.length ≤ lim) (h2 : g.l.length ≤ lim) (n : Nat) : ∃ y z h', call Ev Fn.laws_toLog [.agg g.cs] (D n) = some (.agg [y, z], h') ∧ NewC 4 [y, z] g.cs n h' := by
  obtain ⟨s, l⟩ := g
  rw [eq_laws_toLog]
  generalize hG : (((D n).new 0 [.fs (bys s), .fs (bys l)]).new 0 [.sl none 0, .sl none 0]).new 0 [.sl none 0, .sl none 0] = G
  have gn : G.n = n + 3 := by rw [← hG]; simp
  have g0 : G.g n = .rw 0 [.fs (bys s), .fs (bys l)] := by rw [← hG, new_g' (by simp; omega), new_g' (by simp)]; exact new_g (D n) _ _
  have g1 : G.g (n + 1) = .rw 0 [.sl none 0, .sl none 0] := by rw [← hG, new_g' (by simp)]; exact new_g ((D n).new 0 [.fs (bys s), .fs (bys l)]) _ _
  have g2 : G.g (n + 2) = .rw 0 [.sl none 0, .sl none 0] := by rw [← hG]; exact new_g (((D n).new 0 [.fs (bys s), .fs (bys l)]).new 0 [.sl none 0, .sl none 0]) _ _
  clear hG
  have ld : ∀ {h : H} {b o e : Nat} {X : List S}, b < h.n → h.g b = .rw e X → load1 h (pv b o) = X[o]? := fun hb hg => by simp [load1, H.cells, hb, hg, Blk.cells]
  simp only [new_n, D_n]
  rw [ld (by omega) g0]
  simp only [gx0, ob]
  rw [show frzVs G [.s (.fs (bys s))] = some [lv (bys s)] from frzVs_cons frzV_lv frzVs_nil, ob, norm_nil]
  obtain ⟨v1, k1, e1, q1⟩ := f_toByteS h1 G.n
  obtain ⟨K, eK, uK, nK, w1⟩ := pN (h := G) (off := [V.s (S.fs (bys s))].all offV) rfl e1 q1.s
  rw [eK]
  obtain ⟨o1, w1o, w1b⟩ := w1.now
  obtain ⟨y1, hy1, hf1⟩ := w1o.frz (d := 7)
  subst hy1
  have k2 := (uK.g (n + 2) (by omega)).trans g2
  have k1' := (uK.g (n + 1) (by omega)).trans g1
  have k0 := (uK.g n (by omega)).trans g0
  rw [stK_rw (z := 1) (e := 0) (o := 0) (b := n + 1 + 1) (cs := [.sl none 0, .sl none 0]) (r := [y1]) (by omega) k2 (.inl ⟨_, rfl, rfl, (w1o.rep (d := 0)).isNo⟩) rfl (by simp)]
  rw [show setAt [.sl none 0, .sl none 0] 0 [y1] = [y1, .sl none 0] from rfl]
  rw [ld (b := n) (by rw [put_n]; omega) (by rw [put_g' (by omega)]; exact k0)]
  simp only [gx0, gx1, ob]
  rw [frzVs_cons frzV_lv frzVs_nil, ob, norm_nil]
  have w1' : Rep (K.put (n + 1 + 1) (.rw 0 [y1, .sl none 0])) 1 y1 (.fs (bys s)) o1.toList := (w1o.rep (d := 0)).frame fun c hc => by
    have := w1b c (by simpa using hc)
    exact ⟨by rw [put_n]; omega, put_g' (by omega)⟩
  generalize hK2 : K.put (n + 1 + 1) (.rw 0 [y1, .sl none 0]) = K2 at w1' ⊢
  have nK2 : K2.n = K.n := by rw [← hK2, put_n]
  have a2 : K2.g (n + 2) = .rw 0 [y1, .sl none 0] := by rw [← hK2]; exact put_g _ _ _
  have a1 : K2.g (n + 1) = .rw 0 [.sl none 0, .sl none 0] := by rw [← hK2, put_g' (by omega)]; exact k1'
  obtain ⟨v2, k2', e2, q2⟩ := f_toByteS h2 K2.n
  obtain ⟨M, eM, uM, nM, w2⟩ := pN (h := K2) (off := [V.s (S.fs (bys l))].all offV) rfl e2 q2.s
  rw [eM]
  obtain ⟨o2, w2o, w2b⟩ := w2.now
  obtain ⟨y2, hy2, hf2⟩ := w2o.frz (d := 7)
  subst hy2
  have b2 := (uM.g (n + 2) (by omega)).trans a2
  have b1 := (uM.g (n + 1) (by omega)).trans a1
  rw [stK_rw (z := 1) (e := 0) (o := 1) (b := n + 1 + 1) (cs := [y1, .sl none 0]) (r := [y2]) (by omega) b2 (.inl ⟨_, rfl, rfl, (w2o.rep (d := 0)).isNo⟩) rfl (by simp)]
  rw [show setAt [y1, .sl none 0] 1 [y2] = [y1, y2] from rfl]
  rw [loadN_2 (b := n + 1 + 1) (e := 0) (by rw [put_n]; omega) (put_g _ _ _)]
  simp only [gx0, gx1, ob, ln0, ln1, Nat.zero_add, Nat.reduceAdd, if_true]
  rw [stK_rw (z := 2) (e := 0) (o := 0) (b := n + 1) (cs := [.sl none 0, .sl none 0]) (r := [y1, y2]) (by rw [put_n]; omega) (by rw [put_g' (by omega)]; exact b1) (.inr rfl) rfl (by simp)]
  rw [show setAt [.sl none 0, .sl none 0] 0 [y1, y2] = [y1, y2] from rfl]
  rw [loadN_2 (b := n + 1) (e := 0) (by rw [put_n, put_n]; omega) (put_g _ _ _), ob]
  refine ⟨y1, y2, _, rfl, by rw [put_n, put_n]; omega, o1.toList ++ (o2.toList ++ []), ?_, ?_, ?_⟩
  · refine RepL.cons ((w1'.frame fun c hc => ?_).lifts (by omega)) (RepL.cons (((w2o.rep (d := 0)).frame fun c hc => ?_).lifts (by omega)) .nil)
    · have := w1b c (by simpa using hc)
      exact ⟨by rw [put_n, put_n]; omega, by rw [put_g' (by omega), put_g' (by omega)]; exact uM.g c (by omega)⟩
    · have := w2b c (by simpa using hc)
      exact ⟨by rw [put_n, put_n]; omega, by rw [put_g' (by omega), put_g' (by omega)]⟩
  · rw [List.append_nil]
    refine List.nodup_append.2 ⟨by cases o1 <;> simp, by cases o2 <;> simp, fun a ha b hb hh => ?_⟩
    have := w1b a (by simpa using ha)
    have := w2b b (by simpa using hb)
    omega
  · intro c hc
    rw [put_n, put_n]
    simp only [List.append_nil, List.mem_append] at hc
    rcases hc with hc | hc
    · have := w1b c (by simpa using hc); omega
    · have := w2b c (by simpa using hc); omega
theorem p_toLog (g : LogD) (h1 : g.s.length ≤ lim) (h2 : g.l.length ≤ lim) : pureV (call Ev) Fn.laws_toLog [.agg g.cs] = some (.agg g.cs) := by
  obtain ⟨y, z, h', e, w⟩ := f_toLog g h1 h2 0
  exact NewC.p (by omega) e w
end Vm
/-
  Logs as results: marked, found again; SyncLog and CrashLog.
-/
namespace Vm
open Go
/-- what is known of a heap behind a mark of cells -/
structure MkL (h : H) (d : Nat) (ys fs : List S) (bs : List Nat) (p : H) : Prop where
  r : RepL (Rep p d) ys fs bs
  n : h.n ≤ p.n
  o : ∀ c, c ∉ bs → c < h.n → p.g c = h.g c ∧ p.v c = h.v c
  e : p.n = h.n → ∀ c, h.n ≤ c → p.g c = h.g c
theorem MkL.tidy {h p : H} {d : Nat} {ys fs : List S} {bs : List Nat} {n : Int} (m : MkL h d ys fs bs p) (hb : ∀ b ∈ bs, b < h.n) : MkL h d ys fs bs (tidy h [iv .i64 n] p) ∧ (Vm.tidy h [iv .i64 n] p).n = h.n := by
  have hT : Tidy h [iv .i64 n] p := ⟨m.n, by simp [belV, belS], fun b hb' => by
    by_cases hbb : b ∈ bs
    · exact .inr (m.r.bel hb b hbb)
    · exact .inl (m.o b hbb hb')⟩
  unfold Vm.tidy
  rw [if_pos hT]
  refine ⟨⟨m.r.frame fun b hbb => ⟨hb b hbb, by simp [hb b hbb]⟩, Nat.le_refl _, fun c hc hcn => ?_, fun _ c hc => ?_⟩, rfl⟩
  · simp only [if_pos hcn]; exact m.o c hc hcn
  · simp only [if_neg (show ¬ c < h.n by omega)]
theorem MkL.down {h p : H} {d e : Nat} {ys fs : List S} {bs : List Nat} {cs : List S} (m : MkL (h.new e cs) d ys fs bs p) : MkL h d ys fs bs p := by
  have hn := m.n
  simp only [new_n] at hn
  refine ⟨m.r, by omega, fun c hc hcn => ?_, fun hh => by omega⟩
  have := m.o c hc (by simp; omega)
  refine ⟨this.1.trans (new_g' (by omega)), this.2.trans ?_⟩
  simp [H.new, show c ≠ h.n by omega]
theorem MkL.sep {h p : H} {ys fs : List S} {lo hi d : Nat} {n : Int} {bs : List Nat} (hb : ∀ b ∈ bs, lo ≤ b ∧ b < hi) (hd : bs.Nodup) (ht : hi ≤ h.n) (m : MkL h d ys fs bs p) :
    Sep (OwnC d ys fs lo hi) lo hi (Vm.tidy h [iv .i64 n] p) ∧ ButR lo hi h (Vm.tidy h [iv .i64 n] p) := by
  obtain ⟨t1, t2, t3⟩ := mark_tidy (n := n) m.r (fun b hbb => by have := hb b hbb; omega) m.n m.o m.e
  refine ⟨OwnC.sep ⟨bs, t2, hd, hb⟩ (by rw [t1]; exact ht), t1, fun c hc => t3 c fun hh => ?_⟩
  have := hb c hh
  omega
theorem RepL.mark2 {h : H} {d : Nat} {y z : S} {s l : List UInt8} {bs : List Nat} {k : Nat} (w : RepL (Rep h (d + 1)) [y, z] [.fs (bys s), .fs (bys l)] bs) (hd : bs.Nodup) (hl : k + s.length + l.length < 2 ^ 62) :
    ∃ p, call Ev Fn.laws_markLog [.agg [y, z], iv .i64 k] h = some (iv .i64 ((k + s.length + l.length : Nat) : Int), p) ∧ MkL h (d + 1) [y, z] [.fs (bys (marks k s.length)), .fs (bys (marks (k + s.length) l.length))] bs p := by
  cases w with
  | @cons _ _ b1 _ _ bss w1 w2 =>
    cases w2 with
    | @cons _ _ b2 _ _ bss2 w2 w3 =>
      cases w3
      rw [List.append_nil] at hd ⊢
      have hd' := List.nodup_append.1 hd
      rw [eq_laws_markLog]
      have g0 : (h.new 0 [y, z]).g h.n = .rw 0 [y, z] := new_g _ _ _
      have l1 : load1 (h.new 0 [y, z]) (pv h.n 0) = some y := by simp [load1, H.cells, Blk.cells]
      rw [l1, Vm.ob]
      have a1 : Rep (h.new 0 [y, z]) (d + 1) y (.fs (bys s)) b1 := w1.frame fun b hb => ⟨by have := w1.lt b hb; simp; omega, new_g' (by have := w1.lt b hb; omega)⟩
      have a2 : Rep (h.new 0 [y, z]) (d + 1) z (.fs (bys l)) b2 := w2.frame fun b hb => ⟨by have := w2.lt b hb; simp; omega, new_g' (by have := w2.lt b hb; omega)⟩
      obtain ⟨p1, e1, r1, n1, o1⟩ := a1.mark (k := k) (by omega)
      rw [e1, Vm.ob]
      simp only [gV1_s, gI_i]
      have t1 : Vm.tidy (h.new 0 [y, z]) [iv .i64 ((k + s.length : Nat) : Int)] p1 = p1 := tidy_same n1 fun c hc => o1 c fun hh => by have := a1.lt c hh; omega
      rw [t1]
      have hn1 : h.n ∉ b1 := fun hh => by have := w1.lt _ hh; omega
      have l2 : load1 p1 (pv h.n 1) = some z := by
        simp only [load1, H.cells, n1, new_n, show h.n < h.n + 1 by omega, if_true, (o1 h.n hn1).1, g0, Blk.cells]
        rfl
      rw [l2, Vm.ob]
      have dis : ∀ c ∈ b2, c ∉ b1 := fun c hc hh => hd'.2.2 c hh c hc rfl
      have a3 : Rep p1 (d + 1) z (.fs (bys l)) b2 := a2.frame fun b hb => ⟨by rw [n1]; exact a2.lt b hb, (o1 b (dis b hb)).1⟩
      obtain ⟨p2, e2, r2, n2, o2⟩ := a3.mark (k := k + s.length) (by omega)
      rw [e2, Vm.ob]
      simp only [gV1_s, gI_i]
      have m : MkL (h.new 0 [y, z]) (d + 1) [y, z] [.fs (bys (marks k s.length)), .fs (bys (marks (k + s.length) l.length))] (b1 ++ b2) p2 := by
        refine ⟨?_, by rw [n2, n1]; exact Nat.le_refl _, fun c hc hcn => ?_, fun _ c hc => ?_⟩
        · have := RepL.cons (r1.frame (h' := p2) fun b hb => ⟨by rw [n2]; exact r1.lt b hb, (o2 b (fun hh => dis b hh hb)).1⟩) (RepL.cons r2 .nil)
          simpa using this
        · have x1 := o1 c (fun hh => hc (by simp [hh]))
          have x2 := o2 c (fun hh => hc (by simp [hh]))
          exact ⟨x2.1.trans x1.1, x2.2.trans x1.2⟩
        · exact ((o2 c fun hh => by have := a2.lt c hh; omega).1).trans (o1 c fun hh => by have := a1.lt c hh; omega).1
      have lt2 : ∀ b ∈ b1 ++ b2, b < (h.new 0 [y, z]).n := fun b hb => by
        rcases List.mem_append.1 hb with hb | hb
        · exact a1.lt b hb
        · exact a2.lt b hb
      have m1 : MkL p1 (d + 1) [y, z] [.fs (bys (marks k s.length)), .fs (bys (marks (k + s.length) l.length))] (b1 ++ b2) p2 := by
        refine ⟨m.r, by rw [n2]; exact Nat.le_refl _, fun c hc hcn => o2 c (fun hh => hc (by simp [hh])), fun _ c hc => (o2 c fun hh => by have := a3.lt c hh; omega).1⟩
      have t2 : Vm.tidy p1 [iv .i64 ((k + s.length + l.length : Nat) : Int)] p2 = p2 := tidy_same n2 fun c hc => o2 c fun hh => by have := a3.lt c hh; omega
      rw [t2]
      exact ⟨_, rfl, m.down⟩
theorem r_markLog {h : H} {y z : S} {s l : List UInt8} {lo hi k : Nat} (w : Sep (OwnC 4 [y, z] [.fs (bys s), .fs (bys l)] lo hi) lo hi h) (hl : k + (s.length + l.length) < 2 ^ 62) :
    ∃ p, call Ev Fn.laws_markLog [.agg [y, z], iv .i64 k] h = some (iv .i64 ((k + (s.length + l.length) : Nat) : Int), p) ∧ Sep (OwnC 4 [y, z] [.fs (bys (marks k s.length)), .fs (bys (marks (k + s.length) l.length))] lo hi) lo hi (Vm.tidy h [iv .i64 ((k + (s.length + l.length) : Nat) : Int)] p) ∧ ButR lo hi h (Vm.tidy h [iv .i64 ((k + (s.length + l.length) : Nat) : Int)] p) := by
  obtain ⟨bs, w1, w2, w3⟩ := w.now
  obtain ⟨p, e1, m⟩ := w1.mark2 (d := 3) (k := k) w2 (by omega)
  rw [← Nat.add_assoc]
  exact ⟨p, e1, MkL.sep w3 w2 w.top m⟩
theorem r_markLR {h : H} {c : Int} {y z : S} {s l : List UInt8} {lo hi k : Nat} (w : Sep (OwnC 4 [.int .i64 c, y, z] [.int .i64 c, .fs (bys s), .fs (bys l)] lo hi) lo hi h) (hl : k + (s.length + l.length) < 2 ^ 62) :
    ∃ p, call Ev Fn.laws_markLogResult [.agg [.int .i64 c, y, z], iv .i64 k] h = some (iv .i64 ((k + (s.length + l.length) : Nat) : Int), p) ∧ Sep (OwnC 4 [.int .i64 c, y, z] [.int .i64 c, .fs (bys (marks k s.length)), .fs (bys (marks (k + s.length) l.length))] lo hi) lo hi (Vm.tidy h [iv .i64 ((k + (s.length + l.length) : Nat) : Int)] p) ∧ ButR lo hi h (Vm.tidy h [iv .i64 ((k + (s.length + l.length) : Nat) : Int)] p) := by
  obtain ⟨bs, w1, w2, w3⟩ := w.now
  have w1a : RepL (Rep h 4) ([.int .i64 c] ++ [y, z]) ([.int .i64 c] ++ [.fs (bys s), .fs (bys l)]) bs := w1
  obtain ⟨a, a', b, b', e1, rfl, x1, x2⟩ := w1a.split
  obtain ⟨rfl, rfl⟩ := x1.of_sc sc1
  obtain rfl : [y, z] = a' := List.append_cancel_left e1
  rw [List.nil_append] at w2 w3
  have x3 : RepL (Rep (h.new 0 [.int .i64 c, y, z]) 4) [y, z] [.fs (bys s), .fs (bys l)] b' := x2.frame fun q hq => ⟨by have := x2.lt q hq; simp; omega, new_g' (by have := x2.lt q hq; omega)⟩
  obtain ⟨p, e2, m⟩ := x3.mark2 (d := 3) (k := k) w2 (by omega)
  rw [eq_laws_markLogResult]
  have l1 : loadN 2 (h.new 0 [.int .i64 c, y, z]) (pv h.n 1) = some [y, z] := loadN_rw (by simp) (new_g _ _ _) (by simp)
  rw [l1]
  simp only [gx0, gx1, Vm.ob, ln0, ln1, Nat.zero_add, Nat.reduceAdd, if_true]
  rw [e2, Vm.ob]
  simp only [gV1_s, gI_i]
  rw [← Nat.add_assoc]
  have m2 := (m.tidy (n := ((k + s.length + l.length : Nat) : Int)) x3.lt).1.down
  have m3 : MkL h 4 [.int .i64 c, y, z] [.int .i64 c, .fs (bys (marks k s.length)), .fs (bys (marks (k + s.length) l.length))] b' (Vm.tidy (h.new 0 [.int .i64 c, y, z]) [iv .i64 ((k + s.length + l.length : Nat) : Int)] p) := by
    refine ⟨?_, m2.n, m2.o, m2.e⟩
    have := RepL.cons (bs := []) (Rep.sc (h := Vm.tidy (h.new 0 [.int .i64 c, y, z]) [iv .i64 ((k + s.length + l.length : Nat) : Int)] p) (d := 4) (s := .int .i64 c) trivial) m2.r
    simpa using this
  exact ⟨_, rfl, MkL.sep w3 w2 w.top m3⟩
theorem p_heldLR {c : Int} {k : Nat} {s l : List UInt8} (hk : k + (s.length + l.length) < 2 ^ 62) : pureV (call Ev) Fn.laws_heldLogResult [.agg [.int .i64 c, .fs (bys (marks k s.length)), .fs (bys (marks (k + s.length) l.length))], iv .i64 k] = some (iv .i64 ((k + (s.length + l.length) : Nat) : Int)) := by
  have e : pureV (call Ev) Fn.laws_heldLog [.agg [.fs (bys (marks k s.length)), .fs (bys (marks (k + s.length) l.length))], iv .i64 k] = some (iv .i64 ((k + (s.length + l.length) : Nat) : Int)) := by
    rw [pu_laws_heldLog, pc (p_held (by omega)) rfl]
    simp only [gV1_s, gI_i, vcase_b]
    rw [if_neg (by simp; omega), pc (p_held (by omega)) rfl]
    simp only [gV1_s, gI_i, vcase_b]
    rw [if_neg (by simp; omega), Nat.add_assoc]
  rw [pu_laws_heldLogResult, pc e rfl]
  simp only [gV1_s, gI_i, vcase_b]
  rw [if_neg (by simp; omega)]
theorem p_eqLR {c : Int} {s l : List UInt8} (h1 : s.length ≤ maxLen) (h2 : l.length ≤ maxLen) : pureV (call Ev) Fn.laws_eqLogResult [.agg [.int .i64 c, .fs (bys s), .fs (bys l)], .agg [.int .i64 c, .fs (bys s), .fs (bys l)]] = some (bv true) := by
  rw [pu_laws_eqLogResult, vcase_b, if_neg (by simp), pc (p_eqLog (g := ⟨s, l⟩) h1 h2) rfl]
  simp
theorem frzV_lg {h : H} {a b : List (List S)} : frzV h (.agg [.fs a, .fs b]) = some (.agg [.fs a, .fs b]) := by simp
theorem frzV_lr {h : H} {c : Int} {a b : List (List S)} : frzV h (.agg [.int .i64 c, .fs a, .fs b]) = some (.agg [.int .i64 c, .fs a, .fs b]) := by simp
theorem loadN_3 {e b : Nat} {h : H} {x y z : S} (hb : b < h.n) (hg : h.g b = .rw e [x, y, z]) : loadN 3 h (pv b 0) = some [x, y, z] := loadN_rw hb hg (by simp)
theorem st3_new {R : Type} {h : H} {x y z a b c : S} {k : H → Option R} : stK 3 (h.new 0 [a, b, c]) (pv h.n 0) (.agg [x, y, z]) k = k ((h.new 0 [a, b, c]).put h.n (.rw 0 [x, y, z])) :=
  stK_rw (z := 3) (e := 0) (o := 0) (b := h.n) (cs := [a, b, c]) (r := [x, y, z]) (by simp) (new_g _ _ _) (.inr rfl) rfl (by simp)
/-- a fault, as a new result of a log -/
theorem badL {K : H} {n : Nat} {c : Int} (hn : n ≤ K.n) : ∃ h', (stK 3 (K.new 0 [.int .i64 0, .sl none 0, .sl none 0]) (pv K.n 0) (.agg [.int .i64 c, .sl none 0, .sl none 0]) fun h105 =>
      (loadN 3 h105 (pv K.n 0)).bind fun c106 => some (V.agg c106, h105)) = some (.agg [.int .i64 c, .sl none 0, .sl none 0], h') ∧ NewC 4 [.int .i64 c, .sl none 0, .sl none 0] [.int .i64 c, .fs [], .fs []] n h' := by
  rw [st3_new, loadN_3 (by simp) (by exact g_st), Vm.ob]
  refine ⟨_, rfl, by simp; omega, [], ?_, by simp, by simp⟩
  exact RepL.cons (bs := []) (Rep.sc trivial) (RepL.cons (bs := []) Rep.nil (RepL.cons (bs := []) Rep.nil .nil))
/-! SyncLog -/
def syG (g : LogD) : LogD := if logF g = 0 then ⟨g.s ++ g.l, []⟩ else ⟨[], []⟩
theorem p_spec_SyncLog {g : LogD} (hg : g.sm) : pureV (call Ev) Fn.spec_SyncLog [.agg g.cs] = some (.agg [.int .i64 (logF g), .fs (bys (syG g).s), .fs (bys (syG g).l)]) := by
  have h := hg.n
  rw [pu_spec_SyncLog, pc (p_l5Fault hg) rfl]
  simp only [gV1_s, gI_i, vcase_b]
  unfold syG
  by_cases hc : logF g = 0
  case neg => rw [if_pos (by simpa using hc), if_neg hc]; rfl
  rw [if_neg (by simp [hc]), if_pos hc, hc]
  have e : pureV (call Ev) Fn.spec_l5Sync [.agg g.cs] = some (.agg [.fs (bys (g.s ++ g.l)), .fs (bys [])]) := by
    rw [pu_spec_l5Sync]
    generalize hG : ((D 0).new 0 [.fs (bys g.s), .fs (bys g.l)]).new 0 [.sl none 0, .sl none 0] = G
    have gn : G.n = 2 := by rw [← hG]; simp
    have g1 : G.g 1 = .rw 0 [.sl none 0, .sl none 0] := by rw [← hG]; exact new_g ((D 0).new 0 [.fs (bys g.s), .fs (bys g.l)]) _ _
    obtain ⟨v, h1, e1, w1, nn⟩ := f_l2Copy (m := g.s) (by unfold lim; omega) G.n
    obtain ⟨e2, w2, u2, n2, x2⟩ := new_bys e1 w1 nn
    rw [e2, hchk_of x2]
    have k1 := (u2.g 1 (by omega)).trans g1
    generalize G.over h1 = K at w2 u2 n2 x2 k1 ⊢
    rw [app_by w2 (by unfold lim; omega), ob]
    have w3 := app_own (h := K) (l := g.s) (m := g.l) (b := G.n + 1)
    have k2 : ((K.put (G.n + 1) .dead).new 1 ((g.s ++ g.l).map cell8)).g 1 = .rw 0 [.sl none 0, .sl none 0] := by rw [new_g' (by simp; omega), put_g' (by omega)]; exact k1
    have k3 : ((K.put (G.n + 1) .dead).new 1 ((g.s ++ g.l).map cell8)).n = K.n + 1 := by simp
    generalize (K.put (G.n + 1) .dead).new 1 ((g.s ++ g.l).map cell8) = L at w3 k2 k3 ⊢
    simp only [cellsK, isNo, cond_false, ln0, ln1, Nat.zero_add, Nat.reduceAdd, Nat.reduceLeDiff, and_self, if_true]
    rw [show setAt [.sl none 0, .sl none 0] 0 [S.sl (some (K.n, 0)) (g.s ++ g.l).length] = [.sl (some (K.n, 0)) (g.s ++ g.l).length, .sl none 0] from rfl]
    simp only [gx0, gx1, ob, ln0, ln1, Nat.zero_add, Nat.reduceAdd, if_true]
    rw [stK_rw (z := 2) (e := 0) (o := 0) (b := 1) (cs := [.sl none 0, .sl none 0]) (r := [.sl (some (K.n, 0)) (g.s ++ g.l).length, .sl none 0]) (by omega) k2 (.inr rfl) rfl (by simp)]
    rw [show setAt [.sl none 0, .sl none 0] 0 [S.sl (some (K.n, 0)) (g.s ++ g.l).length, .sl none 0] = [.sl (some (K.n, 0)) (g.s ++ g.l).length, .sl none 0] from rfl]
    rw [loadN_2 (b := 1) (e := 0) (by rw [put_n]; omega) (put_g _ _ _), ob]
    have w4 : BysW (L.put 1 (.rw 0 [.sl (some (K.n, 0)) (g.s ++ g.l).length, .sl none 0])) (sv K.n 0 (g.s ++ g.l).length) (g.s ++ g.l) K.n := ⟨rfl, by rw [put_n]; exact w3.n, by rw [put_g' (by omega)]; exact w3.g⟩
    have := (w4.frz (d := 7)).2
    rw [frzV_a]
    simp only [mapO, this, frz_n, ob]
    rfl
  rw [e]
  simp only [ob, gVA_a, gx0, gx1, gF_f, ln0, ln1, Nat.zero_add, Nat.reduceAdd, if_true]
theorem f_Log_all {g : LogD} (hg : g.sm) (n : Nat) : ∃ y h', call Ev Fn.impl_Log_all [.agg g.cs] (D n) = some (.s y, h') ∧ n ≤ h'.n ∧ OwnF 4 y (.fs (bys (g.s ++ g.l))) n h'.n h' := by
  have h := hg.n
  rw [eq_impl_Log_all]
  have g0 : ((D n).new 0 g.cs).g n = .rw 0 g.cs := new_g (D n) _ _
  have ld : ∀ {o : Nat}, load1 ((D n).new 0 g.cs) (pv n o) = (g.cs)[o]? := fun {o} => by simp [load1, H.cells, g0, Blk.cells]
  simp only [D_n, ld, gx0, gx1, ob]
  rw [frzVs_cons frzV_lv frzVs_nil, ob, norm_nil]
  have kn : ((D n).new 0 g.cs).n = n + 1 := by simp
  obtain ⟨v, h1, e1, w1, nn⟩ := f_copied (m := g.s) (by unfold lim; omega) ((D n).new 0 g.cs).n
  obtain ⟨e2, w2, u2, n2, x2⟩ := new_bys e1 w1 nn
  rw [e2, hchk_of x2]
  generalize ((D n).new 0 g.cs).over h1 = K at w2 u2 n2 x2 ⊢
  rw [app_by w2 (by unfold lim; omega), ob]
  have w3 := app_own (h := K) (l := g.s) (m := g.l) (b := ((D n).new 0 g.cs).n + 1)
  exact ⟨_, _, rfl, by simp; omega, OwnB.f (d := 3) ⟨some K.n, w3, fun c hc => by cases hc; simp; omega⟩⟩
theorem f_Log_synced {g : LogD} (hg : g.sm) (n : Nat) : ∃ y h', call Ev Fn.impl_Log_synced [.agg g.cs] (D n) = some (.agg [y, .sl none 0], h') ∧ NewC 4 [y, .sl none 0] [.fs (bys (g.s ++ g.l)), .fs []] n h' := by
  rw [eq_impl_Log_synced]
  generalize hG : (D n).new 0 [.fs (bys g.s), .fs (bys g.l)] = G0
  have gn0 : G0.n = n + 1 := by rw [← hG]; simp
  have gg0 : G0.g n = .rw 0 g.cs := by rw [← hG]; exact new_g (D n) _ _
  have g0 : (G0.new 0 [.sl none 0, .sl none 0]).g n = .rw 0 g.cs := by rw [new_g' (by omega)]; exact gg0
  have g1 : (G0.new 0 [.sl none 0, .sl none 0]).g (n + 1) = .rw 0 [.sl none 0, .sl none 0] := by rw [← gn0]; exact new_g G0 _ _
  rw [D_n, loadN_2 (b := n) (by simp; omega) g0]
  simp only [gx0, gx1, ob]
  rw [if_pos (show ([_, _] : List S).length = 2 from rfl), frzVs_cons frzV_lg frzVs_nil, ob, norm_nil]
  obtain ⟨y, h1, e1, n1, w1⟩ := f_Log_all hg (n + 2)
  obtain ⟨K, e, u, hK, w'⟩ := pV (h := G0.new 0 [.sl none 0, .sl none 0]) (off := [V.agg [.fs (bys g.s), .fs (bys g.l)]].all offV) (n := n + 2) (by simp; omega) e1 n1 w1
  have hy : isNo y = false := by obtain ⟨bs, w, _⟩ := w1; exact w.isNo
  rw [e]
  simp only [cellsK, hy, cond_false, ln0, ln1, Nat.zero_add, Nat.reduceAdd, Nat.reduceLeDiff, and_self, if_true]
  rw [show setAt [.sl none 0, .sl none 0] 0 [y] = [y, .sl none 0] from rfl]
  simp only [gx0, gx1, ob, ln0, ln1, Nat.zero_add, Nat.reduceAdd, if_true]
  rw [gn0, stK_rw (z := 2) (e := 0) (o := 0) (b := n + 1) (cs := [.sl none 0, .sl none 0]) (r := [y, .sl none 0]) (by omega) ((u.g (n + 1) (by simp; omega)).trans g1) (.inr rfl) rfl (by simp)]
  rw [show setAt [.sl none 0, .sl none 0] 0 [y, .sl none 0] = [y, .sl none 0] from rfl]
  rw [loadN_2 (b := n + 1) (e := 0) (by rw [put_n]; omega) (put_g _ _ _), ob]
  obtain ⟨bs, w2, w3, w4⟩ := w'.now
  refine ⟨y, _, rfl, by rw [put_n]; omega, bs, ?_, w3, fun c hc => ?_⟩
  · have := RepL.cons (w2.frame (h' := K.put (n + 1) (.rw 0 [y, .sl none 0])) fun c hc => ⟨by have := w4 c hc; rw [put_n]; omega, put_g' (by have := w4 c hc; omega)⟩) (RepL.cons (bs := []) Rep.nil .nil)
    simpa using this
  · have := w4 c hc
    rw [put_n]; omega
theorem f_SyncLog {g : LogD} (hg : g.sm) (n : Nat) : ∃ y z h', call Ev Fn.impl_SyncLog [.agg g.cs] (D n) = some (.agg [.int .i64 (logF g), y, z], h') ∧ NewC 4 [.int .i64 (logF g), y, z] [.int .i64 (logF g), .fs (bys (syG g).s), .fs (bys (syG g).l)] n h' := by
  rw [eq_impl_SyncLog]
  generalize hG : (D n).new 0 [.fs (bys g.s), .fs (bys g.l)] = G0
  have gn0 : G0.n = n + 1 := by rw [← hG]; simp
  have gg0 : G0.g n = .rw 0 g.cs := by rw [← hG]; exact new_g (D n) _ _
  have g0 : (G0.new 0 [.int .i64 0, .sl none 0, .sl none 0]).g n = .rw 0 g.cs := by rw [new_g' (by omega)]; exact gg0
  have g1 : (G0.new 0 [.int .i64 0, .sl none 0, .sl none 0]).g (n + 1) = .rw 0 [.int .i64 0, .sl none 0, .sl none 0] := by rw [← gn0]; exact new_g G0 _ _
  have l0 := loadN_2 (h := G0.new 0 [.int .i64 0, .sl none 0, .sl none 0]) (b := n) (by simp; omega) g0
  rw [D_n, l0]
  simp only [gx0, gx1, ob]
  rw [if_pos (show ([_, _] : List S).length = 2 from rfl), frzVs_cons frzV_lg frzVs_nil, ob, norm_nil, pc (p_LogFault hg) rfl]
  simp only [gV1_s, gI_i, vcase_b]
  unfold syG
  by_cases hc : logF g = 0
  case neg =>
    obtain ⟨h', e1, w1⟩ := badL (K := G0) (n := n) (c := logF g) (by omega)
    rw [if_pos (by simpa using hc), if_neg hc, e1]
    exact ⟨_, _, h', rfl, w1⟩
  rw [if_neg (by simp [hc]), if_pos hc, hc]
  rw [if_pos (show ([_, _] : List S).length = 2 from rfl), ob, norm_nil]
  obtain ⟨y, h1, e1, w1⟩ := f_Log_synced hg (n + 2)
  obtain ⟨K, e, u, hK, w'⟩ := pC (h := G0.new 0 [.int .i64 0, .sl none 0, .sl none 0]) (off := [V.agg [.fs (bys g.s), .fs (bys g.l)]].all offV) (n := n + 2) (by simp; omega) e1 w1
  rw [e]
  simp only [gVA_a, gx0, gx1, ob]
  rw [if_pos (show ([_, _] : List S).length = 2 from rfl), gn0, stK_rw (z := 3) (e := 0) (o := 0) (b := n + 1) (cs := [.int .i64 0, .sl none 0, .sl none 0]) (r := [.int .i64 0, y, .sl none 0]) (by omega) ((u.g (n + 1) (by simp; omega)).trans g1) (.inr rfl) rfl (by simp)]
  rw [show setAt [.int .i64 0, .sl none 0, .sl none 0] 0 [.int .i64 0, y, .sl none 0] = [.int .i64 0, y, .sl none 0] from rfl]
  rw [loadN_3 (b := n + 1) (e := 0) (by rw [put_n]; omega) (put_g _ _ _), ob]
  obtain ⟨bs, w2, w3, w4⟩ := w'.now
  refine ⟨y, _, _, rfl, by rw [put_n]; omega, bs, ?_, w3, fun c hc => ?_⟩
  · have := RepL.cons (bs := []) (Rep.sc (d := 4) (s := .int .i64 0) trivial) (w2.frame (h' := K.put (n + 1) (.rw 0 [.int .i64 0, y, .sl none 0])) fun c hc => ⟨by have := w4 c hc; rw [put_n]; omega, put_g' (by have := w4 c hc; omega)⟩)
    rw [show (bys [] : List (List S)) = [] from rfl]
    simpa using this
  · have := w4 c hc
    rw [put_n]; omega
end Vm
/-
  CrashLog: what both ways come to.
-/
namespace Vm
open Go
theorem frz_take {h : H} {b N k d : Nat} {l : List UInt8} (w : BysW h (sv b 0 N) l b) (hk : k ≤ l.length) : frzS h (d + 1) (.sl (some (b, 0)) k) = some (.fs (bys (l.take k))) := by
  simp only [frzS]
  split
  · rename_i h0; subst h0; simp [bys]
  · rw [if_pos w.n, w.g]
    simp only
    rw [if_pos ⟨by omega, by simp; omega⟩, List.drop_zero, Nat.mul_one]
    have e : (l.map cell8).take k = (bys (l.take k)).flatten := by rw [bys_flat, List.map_take]
    rw [e, mapO_cl (fun s hs => (bys_sc s hs).cl), ob]
    have hl : (bys (l.take k)).length = k := by rw [bys_len, List.length_take]; omega
    have := chunk_rows (z := 1) (rows := bys (l.take k)) bys_row
    rw [hl] at this
    rw [this]
theorem slK_hi {R : Type} {h : H} {N b k : Nat} {l : List UInt8} {kd : IntKind} {f : V → Option R} (w : BysW h (sv b 0 N) l b) (hk : k ≤ l.length) : slK 1 h (sv b 0 N) none (some (iv kd (k : Int))) f = f (sv b 0 k) := by
  have hN := w.len
  subst hN
  have hok : okE h 1 b = true := by simp [okE, w.n, w.g]
  simp only [slK, slS, Option.bind_some, bnd_of hk, hok, if_true, Nat.zero_mul, Nat.zero_add, Nat.sub_zero]
theorem slK_fs {R : Type} {h : H} {l : List UInt8} {k : Nat} {kd : IntKind} {f : V → Option R} (hk : k ≤ l.length) : slK 1 h (lv (bys l)) none (some (iv kd (k : Int))) f = f (lv (bys (l.take k))) := by
  show slF 1 (bys l) none (some (iv kd (k : Int))) (fun l => f (.s (.fs l))) = _
  rw [slF_hi hk]
def crC (g : LogD) (k : Int) : Int := if logF g ≠ 0 then logF g else if inB k 0 g.l.length = false then 3 else 0
def crD (g : LogD) (k : Int) : List UInt8 := g.s ++ g.l.take k.toNat
def crG (g : LogD) (k : Int) : LogD := if crC g k = 0 then ⟨(crD g k).take (rdU (crD g k)), []⟩ else ⟨[], []⟩
theorem crD_len (g : LogD) (k : Int) : (crD g k).length ≤ g.s.length + g.l.length := by
  unfold crD
  rw [List.length_append, List.length_take]; omega
theorem rdU_le (d : List UInt8) : rdU d ≤ d.length := (rdAll_bd (d.length + 1) d).1
theorem crG_bd {g : LogD} (hg : g.sm) (k : Int) : (crG g k).s.length ≤ 1048576 ∧ (crG g k).l.length ≤ 1048576 := by
  have := hg.n
  have := crD_len g k
  unfold crG
  split
  · simp only [List.length_take, List.length_nil]; omega
  · simp
theorem p_l5Crash {g : LogD} (hg : g.sm) {k : Nat} (hk : k ≤ g.l.length) : pureV (call Ev) Fn.spec_l5Crash [.agg g.cs, iv .i64 k] = some (.agg [.fs (bys ((crD g k).take (rdU (crD g k)))), .fs (bys [])]) := by
  have h := hg.n
  have hD := crD_len g k
  have hU := rdU_le (crD g k)
  rw [pu_spec_l5Crash, slF_hi hk]
  generalize hG : ((D 0).new 0 [.fs (bys g.s), .fs (bys g.l)]).new 0 [.sl none 0, .sl none 0] = G
  have gn : G.n = 2 := by rw [← hG]; simp
  have g1 : G.g 1 = .rw 0 [.sl none 0, .sl none 0] := by rw [← hG]; exact new_g ((D 0).new 0 [.fs (bys g.s), .fs (bys g.l)]) _ _
  obtain ⟨v, h1, e1, w1, nn⟩ := f_l2Copy (m := g.s) (by unfold lim; omega) G.n
  obtain ⟨e2, w2, u2, n2, x2⟩ := new_bys e1 w1 nn
  rw [e2, hchk_of x2]
  have k1 := (u2.g 1 (by omega)).trans g1
  generalize G.over h1 = K at w2 u2 n2 x2 k1 ⊢
  rw [app_by w2 (by rw [List.length_take]; unfold lim; omega), ob]
  have w3 := app_own (h := K) (l := g.s) (m := g.l.take k) (b := G.n + 1)
  have k2 : ((K.put (G.n + 1) .dead).new 1 ((g.s ++ g.l.take k).map cell8)).g 1 = .rw 0 [.sl none 0, .sl none 0] := by rw [new_g' (by simp; omega), put_g' (by omega)]; exact k1
  have k3 : ((K.put (G.n + 1) .dead).new 1 ((g.s ++ g.l.take k).map cell8)).n = K.n + 1 := by simp
  rw [show g.s ++ g.l.take k = crD g k from by unfold crD; rw [Int.toNat_natCast]] at w3 k2 k3 ⊢
  generalize (K.put (G.n + 1) .dead).new 1 ((crD g k).map cell8) = L at w3 k2 k3 ⊢
  dsimp only
  rw [frzVs_cons (frz1 (ob := some K.n) w3) frzVs_nil, ob, norm_nil]
  obtain ⟨y, h3, e3, n3, s3, _⟩ := f_l5Read (d := crD g k) (by omega) L.n
  obtain ⟨M, e4, u4, n4, _, _⟩ := pG (h := L) (off := [sv K.n 0 (crD g k).length].all offV) (d := 0) (ys := []) (fs := []) rfl e3 (by simp [s3]) ⟨n3, [], .nil, by simp, by simp⟩
  rw [e4]
  have w4 : BysW M (sv K.n 0 (crD g k).length) (crD g k) K.n := (show Own L (sv K.n 0 (crD g k).length) (crD g k) (some K.n) from w3).up u4
  simp only [gVT_t, gx0, gx1, ob, gA1_s, gI_i]
  rw [if_pos (show ([_, _] : List A).length = 2 from rfl), slK_hi w4 hU]
  simp only [cellsK, isNo, cond_false, ln0, ln1, Nat.zero_add, Nat.reduceAdd, Nat.reduceLeDiff, and_self, if_true]
  rw [show setAt [.sl none 0, .sl none 0] 0 [S.sl (some (K.n, 0)) (rdU (crD g k))] = [.sl (some (K.n, 0)) (rdU (crD g k)), .sl none 0] from rfl]
  simp only [gx0, gx1, ob, ln0, ln1, Nat.zero_add, Nat.reduceAdd, if_true]
  rw [stK_rw (z := 2) (e := 0) (o := 0) (b := 1) (cs := [.sl none 0, .sl none 0]) (r := [.sl (some (K.n, 0)) (rdU (crD g k)), .sl none 0]) (by omega) ((u4.g 1 (by omega)).trans k2) (.inr rfl) rfl (by simp)]
  rw [show setAt [.sl none 0, .sl none 0] 0 [S.sl (some (K.n, 0)) (rdU (crD g k)), .sl none 0] = [.sl (some (K.n, 0)) (rdU (crD g k)), .sl none 0] from rfl]
  rw [loadN_2 (b := 1) (e := 0) (by rw [put_n]; omega) (put_g _ _ _), ob]
  have w5 : BysW (M.put 1 (.rw 0 [.sl (some (K.n, 0)) (rdU (crD g k)), .sl none 0])) (sv K.n 0 (crD g k).length) (crD g k) K.n := ⟨rfl, by rw [put_n]; exact w4.n, by rw [put_g' (by omega)]; exact w4.g⟩
  have := frz_take (d := 7) w5 hU
  rw [frzV_a]
  simp only [mapO, this, frz_n, ob]
  rfl
theorem p_spec_CrashLog {g : LogD} (hg : g.sm) {k : Int} : pureV (call Ev) Fn.spec_CrashLog [.agg g.cs, iv .i64 k] = some (.agg [.int .i64 (crC g k), .fs (bys (crG g k).s), .fs (bys (crG g k).l)]) := by
  rw [pu_spec_CrashLog, pc (p_l5Fault hg) rfl]
  simp only [gV1_s, gI_i, vcase_b]
  by_cases hc : logF g = 0
  case neg =>
    have e : crC g k = logF g := by unfold crC; rw [if_pos hc]
    rw [if_pos (by simpa using hc)]
    unfold crG
    rw [e, if_neg hc]; rfl
  rw [if_neg (by simp [hc]), bys_len, pc (p_l1In _ _ _) rfl]
  simp only [gV1_s, gB_b, vcase_b]
  cases hb : inB k 0 g.l.length
  · have e : crC g k = 3 := by unfold crC; rw [if_neg (by simp [hc]), if_pos hb]
    rw [if_pos (by simp)]
    unfold crG
    rw [e, if_neg (by omega)]; rfl
  have hb' := inB_iff.1 hb
  obtain ⟨q, rfl⟩ : ∃ q : Nat, k = q := ⟨k.toNat, by omega⟩
  have e : crC g q = 0 := by unfold crC; rw [if_neg (by simp [hc]), if_neg (by simp [hb])]
  rw [if_neg (by simp), p_l5Crash hg (by omega)]
  unfold crG
  rw [e, if_pos rfl]
  simp only [ob, gVA_a, gx0, gx1, gF_f, ln0, ln1, Nat.zero_add, Nat.reduceAdd, if_true]
theorem f_CrashLog {g : LogD} (hg : g.sm) {k : Int} (n : Nat) : ∃ y z h', call Ev Fn.impl_CrashLog [.agg g.cs, iv .i64 k] (D n) = some (.agg [.int .i64 (crC g k), y, z], h') ∧ NewC 4 [.int .i64 (crC g k), y, z] [.int .i64 (crC g k), .fs (bys (crG g k).s), .fs (bys (crG g k).l)] n h' := by
  have h := hg.n
  rw [eq_impl_CrashLog]
  generalize hG : (D n).new 0 [.fs (bys g.s), .fs (bys g.l)] = G0
  have gn0 : G0.n = n + 1 := by rw [← hG]; simp
  have gg0 : G0.g n = .rw 0 g.cs := by rw [← hG]; exact new_g (D n) _ _
  have g0 : (G0.new 0 [.int .i64 0, .sl none 0, .sl none 0]).g n = .rw 0 g.cs := by rw [new_g' (by omega)]; exact gg0
  have g1 : (G0.new 0 [.int .i64 0, .sl none 0, .sl none 0]).g (n + 1) = .rw 0 [.int .i64 0, .sl none 0, .sl none 0] := by rw [← gn0]; exact new_g G0 _ _
  have l0 := loadN_2 (h := G0.new 0 [.int .i64 0, .sl none 0, .sl none 0]) (b := n) (by simp; omega) g0
  have ld : ∀ {o : Nat}, load1 (G0.new 0 [.int .i64 0, .sl none 0, .sl none 0]) (pv n o) = (g.cs)[o]? := fun {o} => by
    have : n < G0.n + 1 := by omega
    simp [load1, H.cells, g0, Blk.cells, this]
  rw [D_n, l0]
  simp only [gx0, gx1, ob]
  rw [if_pos (show ([_, _] : List S).length = 2 from rfl), frzVs_cons frzV_lg frzVs_nil, ob, norm_nil, pc (p_LogFault hg) rfl]
  simp only [gV1_s, gI_i, vcase_b]
  by_cases hc : logF g = 0
  case neg =>
    have e : crC g k = logF g := by unfold crC; rw [if_pos hc]
    obtain ⟨h', e1, w1⟩ := badL (K := G0) (n := n) (c := logF g) (by omega)
    rw [if_pos (by simpa using hc), e1]
    unfold crG
    rw [e, if_neg hc]
    exact ⟨_, _, h', rfl, w1⟩
  rw [if_neg (by simp [hc])]
  simp only [ld, gx0, gx1, ob, lenF, gV1_s, gI_i, bys_len]
  rw [pc (p_in _ _ _) rfl]
  simp only [gV1_s, gB_b, vcase_b]
  cases hb : inB k 0 g.l.length
  · have e : crC g k = 3 := by unfold crC; rw [if_neg (by simp [hc]), if_pos hb]
    obtain ⟨h', e1, w1⟩ := badL (K := G0) (n := n) (c := 3) (by omega)
    rw [if_pos (by simp), e1]
    unfold crG
    rw [e, if_neg (by omega)]
    exact ⟨_, _, h', rfl, w1⟩
  have hb' := inB_iff.1 hb
  obtain ⟨q, rfl⟩ : ∃ q : Nat, k = q := ⟨k.toNat, by omega⟩
  have e : crC g q = 0 := by unfold crC; rw [if_neg (by simp [hc]), if_neg (by simp [hb])]
  have hD := crD_len g q
  have hU := rdU_le (crD g q)
  rw [if_neg (by simp), slK_fs (by omega), frzVs_cons frzV_lv frzVs_nil, ob, norm_nil]
  unfold crG
  rw [e, if_pos rfl]
  generalize hG1 : G0.new 0 [.int .i64 0, .sl none 0, .sl none 0] = G at g1 g0
  have gn : G.n = n + 2 := by rw [← hG1]; simp; omega
  obtain ⟨v, h1, e1, w1, nn⟩ := f_copied (m := g.s) (by unfold lim; omega) G.n
  obtain ⟨e2, w2, u2, n2, x2⟩ := new_bys e1 w1 nn
  rw [e2, hchk_of x2]
  have k1 := (u2.g (n + 1) (by omega)).trans g1
  generalize G.over h1 = K at w2 u2 n2 x2 k1 ⊢
  rw [app_by w2 (by rw [List.length_take]; unfold lim; omega), ob]
  have w3 := app_own (h := K) (l := g.s) (m := g.l.take q) (b := G.n + 1)
  have k2 : ((K.put (G.n + 1) .dead).new 1 ((g.s ++ g.l.take q).map cell8)).g (n + 1) = .rw 0 [.int .i64 0, .sl none 0, .sl none 0] := by rw [new_g' (by simp; omega), put_g' (by omega)]; exact k1
  have k3 : ((K.put (G.n + 1) .dead).new 1 ((g.s ++ g.l.take q).map cell8)).n = K.n + 1 := by simp
  rw [show g.s ++ g.l.take q = crD g q from by unfold crD; rw [Int.toNat_natCast]] at w3 k2 k3 ⊢
  generalize (K.put (G.n + 1) .dead).new 1 ((crD g q).map cell8) = L at w3 k2 k3 ⊢
  dsimp only
  rw [frzVs_cons (frz1 (ob := some K.n) w3) frzVs_nil, ob, norm_nil]
  obtain ⟨y, h3, e3, n3, w5⟩ := f_readAll (d := crD g q) (by omega) L.n
  have hy : scaS y = true := by obtain ⟨bs, w, _⟩ := w5; exact w.sca
  obtain ⟨M, e4, u4, n4, _, _⟩ := pG (h := L) (off := [sv K.n 0 (crD g q).length].all offV) (d := 0) (ys := []) (fs := []) rfl e3 (by simp [hy]) ⟨n3, [], .nil, by simp, by simp⟩
  rw [e4]
  have w4 : BysW M (sv K.n 0 (crD g q).length) (crD g q) K.n := (show Own L (sv K.n 0 (crD g q).length) (crD g q) (some K.n) from w3).up u4
  simp only [gVT_t, gx0, gx1, ob, gA1_s, gI_i]
  have hfz : frzV M (sv K.n 0 (rdU (crD g q))) = some (lv (bys ((crD g q).take (rdU (crD g q))))) := by rw [frzV_s, frz_take w4 hU]; rfl
  rw [if_pos (show ([_, _] : List A).length = 2 from rfl), slK_hi w4 hU, frzVs_cons hfz frzVs_nil, ob, norm_nil]
  have k4 := (u4.g (n + 1) (by omega)).trans k2
  obtain ⟨v6, h6, e6, w6, nn6⟩ := f_copied (m := (crD g q).take (rdU (crD g q))) (by rw [List.length_take]; unfold lim; omega) M.n
  obtain ⟨e7, w7, u7, n7, _⟩ := new_bys e6 w6 nn6
  rw [e7]
  have k5 := (u7.g (n + 1) (by omega)).trans k4
  generalize M.over h6 = P at w7 u7 n7 k5 ⊢
  simp only [cellsK, isNo, cond_false, ln0, ln1, Nat.zero_add, Nat.reduceAdd, Nat.reduceLeDiff, and_self, if_true]
  rw [show setAt [.sl none 0, .sl none 0] 0 [S.sl (some (M.n + 1, 0)) ((crD g q).take (rdU (crD g q))).length] = [.sl (some (M.n + 1, 0)) ((crD g q).take (rdU (crD g q))).length, .sl none 0] from rfl]
  simp only [gx0, gx1, ob, ln0, ln1, Nat.zero_add, Nat.reduceAdd, if_true]
  rw [gn0, stK_rw (z := 3) (e := 0) (o := 0) (b := n + 1) (cs := [.int .i64 0, .sl none 0, .sl none 0]) (r := [.int .i64 0, .sl (some (M.n + 1, 0)) ((crD g q).take (rdU (crD g q))).length, .sl none 0]) (by omega) k5 (.inr rfl) rfl (by simp)]
  rw [show setAt [.int .i64 0, .sl none 0, .sl none 0] 0 [.int .i64 0, S.sl (some (M.n + 1, 0)) ((crD g q).take (rdU (crD g q))).length, .sl none 0] = [.int .i64 0, .sl (some (M.n + 1, 0)) ((crD g q).take (rdU (crD g q))).length, .sl none 0] from rfl]
  rw [loadN_3 (b := n + 1) (e := 0) (by rw [put_n]; omega) (put_g _ _ _), ob]
  have w8 : Own (P.put (n + 1) (.rw 0 [.int .i64 0, .sl (some (M.n + 1, 0)) ((crD g q).take (rdU (crD g q))).length, .sl none 0])) (sv (M.n + 1) 0 ((crD g q).take (rdU (crD g q))).length) ((crD g q).take (rdU (crD g q))) (some (M.n + 1)) := ⟨rfl, by rw [put_n]; exact w7.n, by rw [put_g' (by omega)]; exact w7.g⟩
  refine ⟨_, _, _, rfl, by rw [put_n]; omega, [M.n + 1], ?_, by simp, fun c hc => ?_⟩
  · have := RepL.cons (bs := []) (Rep.sc (d := 4) (s := .int .i64 0) trivial) (RepL.cons (w8.rep (d := 3)) (RepL.cons (bs := []) Rep.nil .nil))
    rw [show (bys [] : List (List S)) = [] from rfl]
    simpa using this
  · rw [List.mem_singleton.1 hc, put_n]; omega
end Vm
/-
  The law of CrashLog returns true.
-/
namespace Vm
open Go
theorem run_FnExactCrashLog (xs : List V) (hx : ArgsRp PR [T.laws_Log, T.int64] xs) : ∃ h', call Ev Fn.laws_FnExactCrashLog xs (D 0) = some (bv true, h') := by
  match xs, hx with
  | [x0, x1], ⟨h0, h1, _⟩ =>
    obtain ⟨l0, rfl, hr0, hs0⟩ := arg_Log h0
    obtain ⟨l1, rfl, hl1⟩ := h1.int und_int64
    replace hl1 := wf64 hl1
    refine law_of ?_
    rw [pu_laws_FnExactCrashLog]
    rw [pc (p_szLog hr0 hs0) rfl]
    simp only [gV1_s, gI_i, vcase_b]
    by_cases hq0 : szLg l0 < 0
    · rw [if_pos (by simpa using hq0)]
    obtain ⟨hsm0, hlim0, hlin0⟩ := szLg_ok hq0
    have hz0 := hsm0.n
    rw [if_neg (by simpa using hq0)]
    rw [p_toLog l0 hlim0 hlin0]
    simp only [ob, gVA_a, gx0, gx1, gI_i, gF_f, ln0, ln1, Nat.zero_add, Nat.reduceAdd, if_true]
    have hps := p_spec_CrashLog hsm0 (k := l1)
    have hfs := fun n => f_CrashLog hsm0 (k := l1) n
    have hsl := crG_bd hsm0 l1
    have hmm : (crG l0 l1).s.length ≤ maxLen := by unfold maxLen; omega
    have hmr : (crG l0 l1).l.length ≤ maxLen := by unfold maxLen; omega
    generalize crC l0 l1 = c at hps hfs
    generalize crG l0 l1 = m at hsl hmm hmr hps hfs
    rw [hps]
    simp only [ob, gVA_a, gx0, gx1, gI_i, gF_f, ln0, ln1, Nat.zero_add, Nat.reduceAdd, if_true]
    generalize hA : (((D 0).new 0 [.fs (bys l0.s), .fs (bys l0.l)]).new 0 [.int .i64 0, .sl none 0, .sl none 0]).put 1 (.rw 0 [.int .i64 c, .fs (bys m.s), .fs (bys m.l)]) = A
    have an : A.n = 2 := by rw [← hA]; simp
    have wA : Sep (At 1 (.rw 0 [.int .i64 c, .fs (bys m.s), .fs (bys m.l)])) 1 2 A := Sep.at (by omega) (by rw [← hA]; exact put_g _ _ _)
    have wP0 : Sep (At 0 (.rw 0 [.fs (bys l0.s), .fs (bys l0.l)])) 0 1 A := Sep.at (by omega) (by rw [← hA, put_g' (by omega), new_g' (by simp)]; exact new_g (D 0) 0 [.fs (bys l0.s), .fs (bys l0.l)])
    obtain ⟨y0, z0, k0, e0, q0⟩ := f_toLog l0 hlim0 hlin0 A.n
    obtain ⟨B0, eB0, uB0, nB0, w0⟩ := pC (h := A) rfl e0 q0
    rw [eB0]
    clear eB0 e0 q0
    rw [an] at nB0 w0
    replace wA := wA.up uB0
    replace wP0 := wP0.up uB0
    clear uB0
    simp only [ob, gVA_a, gx0, gx1, gI_i, gF_f, ln0, ln1, Nat.zero_add, Nat.reduceAdd, if_true]
    rw [st2_new]
    have uS0 : Up B0 ((B0.new 0 [.sl none 0, .sl none 0]).put B0.n (.rw 0 [y0, z0])) := up_st
    have wS0 : Sep (At B0.n (.rw 0 [y0, z0])) B0.n (B0.n + 1) ((B0.new 0 [.sl none 0, .sl none 0]).put B0.n (.rw 0 [y0, z0])) := Sep.at (by rw [n_st]; omega) g_st
    have nS0 : ((B0.new 0 [.sl none 0, .sl none 0]).put B0.n (.rw 0 [y0, z0])).n = B0.n + 1 := n_st
    replace wA := wA.up uS0
    replace wP0 := wP0.up uS0
    replace w0 := w0.up uS0
    generalize (B0.new 0 [.sl none 0, .sl none 0]).put B0.n (.rw 0 [y0, z0]) = HS0 at wA wP0 w0 wS0 nS0 ⊢
    clear uS0
    rw [loadN_2 wS0.now.1 wS0.now.2]
    simp only [gx0, gx1, ob, gI_i, ln0, ln1, Nat.zero_add, Nat.reduceAdd, if_true]
    rw [frzVs_cons w0.now.frz (frzVs_cons frzV_iv frzVs_nil), ob, norm_nil]
    obtain ⟨y, z, k2, e2, q2⟩ := hfs HS0.n
    obtain ⟨C, eC, uC, nC, wg⟩ := pC (h := HS0) rfl e2 q2
    rw [eC]
    clear eC e2 q2
    replace wA := wA.up uC
    replace wP0 := wP0.up uC
    replace w0 := w0.up uC
    replace wS0 := wS0.up uC
    clear uC
    simp only [gVA_a, gx0, gx1, ob, gI_i, ln0, ln1, Nat.zero_add, Nat.reduceAdd, if_true]
    rw [st3_new]
    have uG : Up C ((C.new 0 [.int .i64 0, .sl none 0, .sl none 0]).put C.n (.rw 0 [.int .i64 c, y, z])) := up_st
    have wG : Sep (At C.n (.rw 0 [.int .i64 c, y, z])) C.n (C.n + 1) ((C.new 0 [.int .i64 0, .sl none 0, .sl none 0]).put C.n (.rw 0 [.int .i64 c, y, z])) := Sep.at (by rw [n_st]; omega) g_st
    have nG : ((C.new 0 [.int .i64 0, .sl none 0, .sl none 0]).put C.n (.rw 0 [.int .i64 c, y, z])).n = C.n + 1 := n_st
    replace wA := wA.up uG
    replace wP0 := wP0.up uG
    replace w0 := w0.up uG
    replace wS0 := wS0.up uG
    replace wg := wg.up uG
    generalize (C.new 0 [.int .i64 0, .sl none 0, .sl none 0]).put C.n (.rw 0 [.int .i64 c, y, z]) = HG at wA wP0 w0 wS0 wg wG nG ⊢
    clear uG
    rw [loadN_3 wG.now.1 wG.now.2]
    simp only [gx0, gx1, ob, gI_i, ln0, ln1, Nat.zero_add, Nat.reduceAdd, if_true]
    rw [loadN_3 wA.now.1 wA.now.2]
    simp only [gx0, gx1, ob, gI_i, ln0, ln1, Nat.zero_add, Nat.reduceAdd, if_true]
    rw [frzVs_cons wg.now.frz (frzVs_cons frzV_lr frzVs_nil), ob, norm_nil, pc (p_eqLR hmm hmr) rfl]
    simp only [gV1_s, gB_b, vcase_b, decide_true, Bool.and_self, Bool.not_true, Bool.false_eq_true, if_false]
    rw [loadN_2 wS0.now.1 wS0.now.2]
    simp only [gx0, gx1, ob, gI_i, ln0, ln1, Nat.zero_add, Nat.reduceAdd, if_true]
    rw [loadN_2 wP0.now.1 wP0.now.2]
    simp only [gx0, gx1, ob, gI_i, ln0, ln1, Nat.zero_add, Nat.reduceAdd, if_true]
    rw [show ([V.agg [.fs (bys l0.s), .fs (bys l0.l)]].all offV) = true from rfl, cond_true, frzVs_cons frzV_lg frzVs_nil, ob, norm_nil, p_toLog l0 hlim0 hlin0]
    simp only [ob, gVA_a, gx0, gx1, gI_i, gF_f, ln0, ln1, Nat.zero_add, Nat.reduceAdd, if_true]
    rw [hchk_self]
    rw [frzVs_cons w0.now.frz (frzVs_cons frzV_lg frzVs_nil), ob, norm_nil, pc (p_eqLog hr0 hs0) rfl]
    simp only [gV1_s, gB_b, hchk_self]
    simp only [gV1_s, gB_b, vcase_b, decide_true, Bool.and_self, Bool.not_true, Bool.false_eq_true, if_false]
    rw [show (1 : Int) = ((1 : Nat) : Int) from rfl]
    obtain ⟨p0, e0, m0, b0⟩ := r_markLog (k := 1) w0 (by omega)
    rw [e0, ob]
    simp only [gV1_s, gI_i]
    replace wA := wA.but b0 (by omega)
    replace wP0 := wP0.but b0 (by omega)
    replace wS0 := wS0.but b0 (by omega)
    replace wg := wg.but b0 (by omega)
    replace wG := wG.but b0 (by omega)
    replace w0 := m0
    clear m0 e0
    rw [if_neg (by simp; omega)]
    unfold Jn.laws_FnExactCrashLog_0
    dsimp only
    generalize tidy HG [iv .i64 ((1 + (l0.s.length + l0.l.length) : Nat) : Int)] p0 = F0 at wA wP0 w0 wS0 wg wG b0 ⊢
    clear b0
    rw [loadN_3 wG.now.1 wG.now.2]
    simp only [gx0, gx1, ob, gI_i, ln0, ln1, Nat.zero_add, Nat.reduceAdd, if_true]
    rw [loadN_3 wA.now.1 wA.now.2]
    simp only [gx0, gx1, ob, gI_i, ln0, ln1, Nat.zero_add, Nat.reduceAdd, if_true]
    rw [frzVs_cons wg.now.frz (frzVs_cons frzV_lr frzVs_nil), ob, norm_nil, pc (p_eqLR hmm hmr) rfl]
    simp only [gV1_s, gB_b, vcase_b, decide_true, Bool.and_self, Bool.not_true, Bool.false_eq_true, if_false]
    obtain ⟨pg, eg, mg, bg⟩ := r_markLR (k := 1) wg (by omega)
    rw [show (1 : Int) = ((1 : Nat) : Int) from rfl, eg, ob]
    simp only [gV1_s, gI_i]
    replace wA := wA.but bg (by omega)
    replace wP0 := wP0.but bg (by omega)
    replace w0 := w0.but bg (by omega)
    replace wS0 := wS0.but bg (by omega)
    replace wG := wG.but bg (by omega)
    replace wg := mg
    clear mg eg
    generalize tidy F0 [iv .i64 ((1 + (m.s.length + m.l.length) : Nat) : Int)] pg = G at wA wP0 wg wG bg ⊢
    rw [loadN_3 wG.now.1 wG.now.2]
    simp only [gx0, gx1, ob, gI_i, ln0, ln1, Nat.zero_add, Nat.reduceAdd, if_true]
    rw [frzVs_cons wg.now.frz (frzVs_cons frzV_iv frzVs_nil), ob, norm_nil, pc (p_heldLR (by omega)) rfl]
    simp only [gV1_s, gI_i, vcase_b]
    rw [if_neg (by simp; omega), if_neg (by simp)]
    rw [loadN_2 wP0.now.1 wP0.now.2]
    simp only [gx0, gx1, ob, gI_i, ln0, ln1, Nat.zero_add, Nat.reduceAdd, if_true]
    rw [show ([V.agg [.fs (bys l0.s), .fs (bys l0.l)]].all offV) = true from rfl, cond_true, frzVs_cons frzV_lg frzVs_nil, ob, norm_nil, p_toLog l0 hlim0 hlin0]
    simp only [ob, gVA_a, gx0, gx1, gI_i, gF_f, ln0, ln1, Nat.zero_add, Nat.reduceAdd, if_true]
    obtain ⟨y', z', k5, e5, w5⟩ := hfs 0
    rw [NewC.p (by omega) e5 w5]
    simp only [ob, gVA_a, gx0, gx1, gI_i, gF_f, ln0, ln1, Nat.zero_add, Nat.reduceAdd, if_true]
    rw [st3_new]
    have uK : Up G ((G.new 0 [.int .i64 0, .sl none 0, .sl none 0]).put G.n (.rw 0 [.int .i64 c, .fs (bys m.s), .fs (bys m.l)])) := up_st
    have wK : Sep (At G.n (.rw 0 [.int .i64 c, .fs (bys m.s), .fs (bys m.l)])) G.n (G.n + 1) ((G.new 0 [.int .i64 0, .sl none 0, .sl none 0]).put G.n (.rw 0 [.int .i64 c, .fs (bys m.s), .fs (bys m.l)])) := Sep.at (by rw [n_st]; omega) g_st
    replace wA := wA.up uK
    replace wP0 := wP0.up uK
    replace wg := wg.up uK
    replace wG := wG.up uK
    generalize (G.new 0 [.int .i64 0, .sl none 0, .sl none 0]).put G.n (.rw 0 [.int .i64 c, .fs (bys m.s), .fs (bys m.l)]) = K at wA wP0 wg wG wK ⊢
    rw [loadN_3 wK.now.1 wK.now.2]
    simp only [gx0, gx1, ob, gI_i, ln0, ln1, Nat.zero_add, Nat.reduceAdd, if_true]
    rw [loadN_3 wA.now.1 wA.now.2]
    simp only [gx0, gx1, ob, gI_i, ln0, ln1, Nat.zero_add, Nat.reduceAdd, if_true]
    rw [frzVs_cons frzV_lr (frzVs_cons frzV_lr frzVs_nil), ob, norm_nil, pc (p_eqLR hmm hmr) rfl]
    simp only [gV1_s, gB_b, vcase_b, decide_true, Bool.and_self, Bool.not_true, Bool.false_eq_true, if_false]
    rw [loadN_3 wG.now.1 wG.now.2]
    simp only [gx0, gx1, ob, gI_i, ln0, ln1, Nat.zero_add, Nat.reduceAdd, if_true]
    rw [frzVs_cons wg.now.frz (frzVs_cons frzV_iv frzVs_nil), ob, norm_nil, pc (p_heldLR (by omega)) rfl]
    simp only [gV1_s, gI_i, vcase_b]
    rw [if_neg (by simp; omega), if_neg (by simp)]
end Vm
