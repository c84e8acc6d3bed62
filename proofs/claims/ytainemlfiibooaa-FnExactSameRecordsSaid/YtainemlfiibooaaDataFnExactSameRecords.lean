/-
  What both ways of the law come to, and that the law returns true.
-/
import Derived.Test.YtainemlfiibooaaEqs
import Derived.Test.YtainemlfiibooaaDl
import Derived.Test.YtainemlfiibooaaTyp
import Derived.Test.YtainemlfiibooaaDataFnExactSameRecords1
set_option linter.unusedVariables false
set_option maxRecDepth 100000
set_option linter.unusedSimpArgs false
set_option linter.unusedSectionVars false
/-
  A record read from bytes: the program's walk.
-/
namespace Vm
open Go
theorem p_Equal {l m : List UInt8} (hl : l.length < 2 ^ 62) : pureV (call Ev) Fn.slices_Equal_byte_byte [lv (bys l), lv (bys m)] = some (bv (decide (l = m))) := by
  rw [pu_slices_Equal_byte_byte, vcase_b, bys_len, bys_len]
  by_cases hlen : l.length = m.length
  case neg => rw [if_pos (by simp; omega), show decide (l = m) = false from by simp; intro e; exact hlen (by rw [e])]
  rw [if_neg (by simp; omega)]
  have loop : ∀ (q i : Nat), i + q = l.length → (∀ j : Nat, j < i → bt l j = bt m j) →
      (Lp.slices_Equal_byte_byte 0 [lv (bys l), lv (bys m), iv .i64 l.length, iv .i64 i] (D 0)).bind (fun o102 => lcase o102 (fun l103 h104 => some (bv true)) (fun v105 h106 => frzV h106 v105)) = some (bv (decide (l = m))) := by
    intro q
    induction q with
    | zero =>
      intro i hi hj
      rw [eq_slices_Equal_byte_byte_l0, vcase_b, if_neg (by simp; omega), tidy_self]
      have : l = m := bt_ext hlen fun j hjl => hj j (by omega)
      simp [this]
    | succ q ih =>
      intro i hi hj
      rw [eq_slices_Equal_byte_byte_l0, vcase_b, if_pos (by simp; omega), idxF_by (by omega) (by omega)]
      simp only [gx0, ob, gI_i]
      rw [idxF_by (by omega) (by omega)]
      simp only [gx0, ob, gI_i, vcase_b]
      by_cases hb : bt l i = bt m i
      · rw [if_neg (by simpa using hb), w64 (by omega) (by omega), show (i : Int) + 1 = ((i + 1 : Nat) : Int) from by omega, tidy_self]
        refine ih (i + 1) (by omega) fun j hji => ?_
        by_cases hje : j = i
        · subst hje; exact hb
        · exact hj j (by omega)
      · rw [if_pos (by simpa using hb)]
        have : ¬ l = m := fun e => hb (by rw [e])
        simp [this]
  rw [show iv .i64 0 = iv .i64 ((0 : Nat) : Int) from rfl, loop l.length 0 (by omega) (fun j hj => by omega)]
def zR : RecD := ⟨0, 0, 0, []⟩
theorem zR_c {h : H} {n : Nat} (hn : n ≤ h.n) : NewC 4 [.int .i64 0, .int .i64 0, .int .i64 0, .sl none 0] zR.cs n h := by
  refine ⟨hn, [], ?_, by simp, by simp⟩
  exact RepL.cons (bs := []) (Rep.sc trivial) (RepL.cons (bs := []) (Rep.sc trivial) (RepL.cons (bs := []) (Rep.sc trivial) (RepL.cons (bs := []) Rep.nil .nil)))
/-- the answer of read: a record and how many bytes it has -/
def RdA (n : Nat) (r : RecD) (u : Int) (x : Option (V × H)) : Prop := ∃ y h', x = some (.tup [.agg [.int .i64 r.kind, .int .i64 r.tx, .int .i64 r.page, y], .s (.int .i64 u)], h') ∧ NewC 4 [.int .i64 r.kind, .int .i64 r.tx, .int .i64 r.page, y] r.cs n h'
theorem rd_zero {n : Nat} {K : H} {cs : List S} (hn : n < K.n) (hg : K.g n = .rw 0 cs) (hc : cs.length = 4) : RdA n zR 0 ((stK 4 K (pv n 0) (.agg [.int .i64 0, .int .i64 0, .int .i64 0, .sl none 0]) fun h109 =>
    (loadN 4 h109 (pv n 0)).bind fun c110 => some (V.tup [.agg c110, .s (.int .i64 0)], h109))) := by
  rw [stK_rw (z := 4) (e := 0) (o := 0) (b := n) (cs := cs) (r := [.int .i64 0, .int .i64 0, .int .i64 0, .sl none 0]) hn hg (.inr rfl) rfl (by omega)]
  have e : setAt cs 0 [.int .i64 0, .int .i64 0, .int .i64 0, .sl none 0] = [.int .i64 0, .int .i64 0, .int .i64 0, .sl none 0] := by
    unfold setAt; rw [List.take_zero, List.nil_append, List.drop_of_length_le (by simp; omega), List.append_nil]
  rw [e, loadN_4 (b := n) (e := 0) (by rw [put_n]; omega) (put_g _ _ _), ob]
  exact ⟨.sl none 0, _, rfl, zR_c (by rw [put_n]; omega)⟩
theorem put4 {R : Type} {K : H} {n : Nat} {cs : List S} {a b c y : S} {F : A → H → Option R} (hn : n < K.n) (hg : K.g n = .rw 0 cs) (hc : cs.length = 4) {q : TD} :
    (stK 4 K (pv n 0) (.agg [a, b, c, y]) fun h => ldT ⟨4, 48, [.int .i64 0, .int .i64 0, .int .i64 0, .sl none 0], true, q, false⟩ h (pv n 0) fun v => (V.toA v).bind fun t => F t h) = F (.agg [a, b, c, y]) (K.put n (.rw 0 [a, b, c, y])) := by
  rw [stK_rw (z := 4) (e := 0) (o := 0) (b := n) (cs := cs) (r := [a, b, c, y]) hn hg (.inr rfl) rfl (by omega)]
  have e : setAt cs 0 [a, b, c, y] = [a, b, c, y] := by
    unfold setAt; rw [List.take_zero, List.nil_append, List.drop_of_length_le (by simp; omega), List.append_nil]
  rw [e]
  simp only [ldT, cond_true]
  rw [loadN_4 (b := n) (e := 0) (by rw [put_n]; omega) (put_g _ _ _), ob]
  rfl
section
variable {d : List UInt8} (h7 : 7 ≤ d.length) (hl : d.length ≤ 255)
include h7 hl
theorem lp_read {n : Nat} {k t p : Int} {f : List V → H → Option (V × H)} : ∀ (q i j : Nat) (h : H) (y : S) (bs : List Nat) (acc : List RunD), j + q = bn d 4 → i + 2 ≤ d.length → acc.length ≤ j → OutS 2 1 y (runs acc) bs h → (∀ c ∈ bs, n + 2 ≤ c) → n + 2 ≤ h.n →
    h.g n = .rw 0 [.int .i64 0, .int .i64 0, .int .i64 0, .sl none 0] → h.g (n + 1) = .rw 0 [.int .i64 k, .int .i64 t, .int .i64 p, y] →
    match imL d (d.length - 2) q i with
    | none => RdA n zR 0 ((Lp.impl_read 0 [pv n 0, lv (bys d), pv (n + 1) 0, iv .i64 i, iv .i64 ((d.length : Int) - 2), iv .i64 (bn d 4), iv .i64 j] h).bind fun o => lcase o f (fun v h => some (v, h)))
    | some (rs, e) => ∃ h' y' bs', Lp.impl_read 0 [pv n 0, lv (bys d), pv (n + 1) 0, iv .i64 i, iv .i64 ((d.length : Int) - 2), iv .i64 (bn d 4), iv .i64 j] h = some (.done [pv n 0, lv (bys d), pv (n + 1) 0, iv .i64 e, iv .i64 ((d.length : Int) - 2)] h') ∧ OutS 2 1 y' (runs (acc ++ rs)) bs' h' ∧ (∀ c ∈ bs', n + 2 ≤ c) ∧ n + 2 ≤ h'.n ∧ h'.g n = .rw 0 [.int .i64 0, .int .i64 0, .int .i64 0, .sl none 0] ∧ h'.g (n + 1) = .rw 0 [.int .i64 k, .int .i64 t, .int .i64 p, y'] := by
  have h4 : ((bn d 4 : Nat) : Int) = bt d 4 := bn_bt d 4
  have h4' := bn_lt d 4
  intro q
  induction q with
  | zero =>
    intro i j h y bs acc hj hi ha w hb hn hg0 hg1
    simp only [imL]
    rw [eq_impl_read_l0, vcase_b, if_neg (by simp; omega), tidy_self]
    exact ⟨h, y, bs, rfl, by simpa using w, hb, hn, hg0, hg1⟩
  | succ q ih =>
    intro i j h y bs acc hj hi ha w hb hn hg0 hg1
    have fail : ∀ s53, RdA n zR 0 ((Jn.impl_read_l0_0 true h (pv n 0) (bys d) i (pv (n + 1) 0) ((d.length : Int) - 2) (bn d 4) s53).bind fun o => lcase o f (fun v h => some (v, h))) := by
      intro s53
      unfold Jn.impl_read_l0_0
      rw [vcase_b, if_pos rfl, put4 (by omega) hg0 rfl, ob, lcase_ret]
      exact ⟨.sl none 0, _, rfl, zR_c (by rw [put_n]; omega)⟩
    rw [eq_impl_read_l0, vcase_b, if_pos (by simp; omega), w64 (n := (i : Int) + 2) (by omega) (by omega), vcase_b]
    simp only [imL]
    have hm := bn_bt d (i + 1)
    have hm' := bn_lt d (i + 1)
    by_cases hc : i + 2 ≤ d.length - 2 ∧ i + 2 + bn d (i + 1) ≤ d.length - 2
    case neg =>
      rw [if_neg hc]
      by_cases h1 : i + 2 ≤ d.length - 2
      case neg =>
        rw [if_pos (by simp; omega)]
        exact fail _
      rw [if_neg (by simp; omega), w64 (n := (i : Int) + 1) (by omega) (by omega), show (i : Int) + 1 = ((i + 1 : Nat) : Int) from by omega, idxF_by (by omega) (by omega)]
      simp only [gx0, ob, gI_i]
      rw [← hm, w64 (n := ((bn d (i + 1) : Nat) : Int)) (by omega) (by omega), w64 (n := (i : Int) + 2 + ((bn d (i + 1) : Nat) : Int)) (by omega) (by omega), show decide ((i : Int) + 2 + ((bn d (i + 1) : Nat) : Int) > (d.length : Int) - 2) = true from by simp; omega]
      exact fail _
    obtain ⟨h1, h2⟩ := hc
    rw [if_pos ⟨h1, h2⟩, if_neg (by simp; omega), w64 (n := (i : Int) + 1) (by omega) (by omega), show (i : Int) + 1 = ((i + 1 : Nat) : Int) from by omega, idxF_by (by omega) (by omega)]
    simp only [gx0, ob, gI_i]
    rw [← hm, w64 (n := ((bn d (i + 1) : Nat) : Int)) (by omega) (by omega), w64 (n := (i : Int) + 2 + ((bn d (i + 1) : Nat) : Int)) (by omega) (by omega)]
    rw [show decide ((i : Int) + 2 + ((bn d (i + 1) : Nat) : Int) > (d.length : Int) - 2) = false from by simp; omega]
    unfold Jn.impl_read_l0_0
    rw [vcase_b, if_neg (by simp), w64 (n := (i : Int) + 1) (by omega) (by omega), show (i : Int) + 1 = ((i + 1 : Nat) : Int) from by omega, idxF_by (by omega) (by omega)]
    simp only [gx0, ob, gI_i]
    rw [← hm]
    generalize hmm : bn d (i + 1) = m at *
    have ld : load1 h (pv (n + 1) 3) = some y := by simp [load1, H.cells, show n + 1 < h.n by omega, hg1, Blk.cells]
    simp only [padd, Nat.zero_add, ob, ldK, ldT, cond_false, ld]
    rw [idxF_by (by omega) (by omega)]
    simp only [gx0, ob, gI_i]
    rw [w64 (n := bt d i) (by have := bt_nn d i; omega) (by have := bt_lt d i; omega), w64 (n := (i : Int) + 2) (by omega) (by omega), w64 (n := (m : Int)) (by omega) (by omega), w64 (n := (i : Int) + 2 + (m : Int)) (by omega) (by omega), w64 (n := 2 + (m : Int)) (by omega) (by omega), w64 (n := (i : Int) + (2 + (m : Int))) (by omega) (by omega), show (i : Int) + (2 + (m : Int)) = ((i + 2 + m : Nat) : Int) from by omega, show (i : Int) + 2 = ((i + 2 : Nat) : Int) from by omega, show ((i + 2 : Nat) : Int) + (m : Int) = ((i + 2 + m : Nat) : Int) from by omega, slF_lh (by omega) (by omega)]
    rw [show (d.take (i + 2 + m)).drop (i + 2) = cutL d (i + 2) (i + 2 + m) from rfl]
    obtain ⟨v, h1', e1, w1, nn⟩ := f_copied (m := cutL d (i + 2) (i + 2 + m)) (by unfold cutL; rw [List.length_drop, List.length_take]; unfold lim; omega) h.n
    obtain ⟨e3, w2, u2, n2, x2⟩ := new_bys e1 w1 nn
    rw [e3]
    generalize h.over h1' = K at w2 u2 n2 x2 ⊢
    rw [hchk_of x2]
    simp only [sca_v, scaS, cond_true]
    rw [cellsR rfl, hchk_of (HExt.new x2)]
    have wk : OutS 2 1 y (runs acc) bs K := w.frame fun c hc => by
      have := w.rep.lt c hc
      exact ⟨by omega, u2.g c (by omega)⟩
    have wr := run_row (a := bt d i) (N := 0) w2
    obtain ⟨h2', bs2, e4, w3, n3, f3, o3, q3, _⟩ := app_row wk wr rfl (by omega) (by simp) (fun c hc hh => by have := w.rep.lt c hc; have := List.mem_singleton.1 hh; omega) (by simp; unfold lim; omega)
    rw [e4, ob]
    dsimp only
    have k0 : h2'.g n = .rw 0 [.int .i64 0, .int .i64 0, .int .i64 0, .sl none 0] := by rw [o3 n (by omega) (fun hh => by have := hb n hh; omega), u2.g n (by omega)]; exact hg0
    have k1 : h2'.g (n + 1) = .rw 0 [.int .i64 k, .int .i64 t, .int .i64 p, y] := by rw [o3 (n + 1) (by omega) (fun hh => by have := hb (n + 1) hh; omega), u2.g (n + 1) (by omega)]; exact hg1
    rw [← runs_snoc] at w3
    generalize (runs acc).length + 1 = N at w3 ⊢
    rw [stK_rw (z := 1) (e := 0) (o := 3) (b := n + 1) (cs := [.int .i64 k, .int .i64 t, .int .i64 p, y]) (r := [.sl (some (K.n + 1, 0)) N]) (by omega) k1 (.inl ⟨_, rfl, rfl, rfl⟩) rfl (by simp)]
    rw [show setAt [.int .i64 k, .int .i64 t, .int .i64 p, y] 3 [S.sl (some (K.n + 1, 0)) N] = [.int .i64 k, .int .i64 t, .int .i64 p, .sl (some (K.n + 1, 0)) N] from rfl]
    rw [w64 (n := (j : Int) + 1) (by omega) (by omega), show (j : Int) + 1 = ((j + 1 : Nat) : Int) from by omega]
    rw [no_tidy (b := n + 1) (by omega) (put_g _ _ _) (by simp [belS]; omega) (by
      rw [hg1]
      simp only [Blk.cells, List.all_cons, List.all_nil, Bool.and_true]
      rw [w.rep.top w.rep.lt]; rfl)]
    have hb3 : ∀ c ∈ bs2, n + 2 ≤ c := fun c hc => by
      rcases f3 c hc with h1 | h1 | h1
      · omega
      · exact hb c h1
      · have := List.mem_singleton.1 h1; omega
    have w3' : OutS 2 1 (.sl (some (K.n + 1, 0)) N) (runs (acc ++ [⟨bt d i, cutL d (i + 2) (i + 2 + m)⟩])) bs2 (h2'.put (n + 1) (.rw 0 [.int .i64 k, .int .i64 t, .int .i64 p, .sl (some (K.n + 1, 0)) N])) := w3.frame fun c hc => by
      have := w3.rep.lt c hc
      have := hb3 c hc
      exact ⟨by rw [put_n]; omega, put_g' (by omega)⟩
    have IH := ih (i + 2 + m) (j + 1) _ _ bs2 (acc ++ [⟨bt d i, cutL d (i + 2) (i + 2 + m)⟩]) (by omega) (by omega) (by rw [List.length_append, List.length_singleton]; omega) w3' hb3 (by rw [put_n]; omega) (by rw [put_g' (by omega)]; exact k0) (put_g _ _ _)
    cases hi : imL d (d.length - 2) q (i + 2 + m) with
    | none =>
      rw [hi] at IH
      exact IH
    | some z =>
      obtain ⟨rs, e⟩ := z
      rw [hi] at IH
      obtain ⟨h', y', bs', e5, w5, b5, n5, o5, o6⟩ := IH
      exact ⟨h', y', bs', e5, by simpa using w5, b5, n5, o5, o6⟩
end
theorem J_read0 {n : Nat} {K : H} {k t p : Int} {y : S} {bs : List Nat} {rs : List RunD} {z : List (List S)} {q : Bool} (hn : n + 2 ≤ K.n) (g0 : K.g n = .rw 0 [.int .i64 0, .int .i64 0, .int .i64 0, .sl none 0]) (g1 : K.g (n + 1) = .rw 0 [.int .i64 k, .int .i64 t, .int .i64 p, y]) (w : OutS 2 1 y (runs rs) bs K) (hb : ∀ c ∈ bs, n + 2 ≤ c) :
    RdA n (if q = true then zR else ⟨k, t, p, rs⟩) (if q = true then 0 else z.length) (Jn.impl_read_0 q K (pv n 0) (pv (n + 1) 0) z) := by
  unfold Jn.impl_read_0
  rw [vcase_b]
  cases q
  · rw [if_neg (by simp), if_neg (by simp), if_neg (by simp)]
    simp only [ldK, ldT, cond_true]
    rw [loadN_4 (b := n + 1) (e := 0) (by omega) g1]
    simp only [gVA_a, gx0, gx1, ob, gI_i]
    rw [if_pos (show ([_, _, _, _] : List S).length = 4 from rfl)]
    have := put4 (R := V × H) (K := K) (n := n) (a := .int .i64 k) (b := .int .i64 t) (c := .int .i64 p) (y := y) (F := fun t359 h357 => some (V.tup [t359, .s (.int .i64 (z.length : Int))], h357)) (by omega) g0 rfl (q := .st [(0, 2), (1, 2), (2, 2), (3, 27)])
    simp only [ldT, cond_true] at this
    rw [this]
    refine ⟨y, _, rfl, by rw [put_n]; omega, ?_⟩
    refine OwnF.c (pre := [.int .i64 k, .int .i64 t, .int .i64 p]) sc3 ⟨bs, (w.rep.frame fun c hc => ?_).lifts (by omega), w.nd, fun c hc => ?_⟩
    · have := hb c hc
      exact ⟨by rw [put_n]; exact w.rep.lt c hc, put_g' (by omega)⟩
    · have := hb c hc
      have := w.rep.lt c hc
      rw [put_n]; omega
  · rw [if_pos rfl, if_pos rfl, if_pos rfl, put4 (by omega) g0 rfl]
    exact ⟨.sl none 0, _, rfl, zR_c (by rw [put_n]; omega)⟩
theorem frzV_rec {h : H} {k t p : Int} {y : S} {rs : List RunD} {bs : List Nat} (w : OutS 2 1 y (runs rs) bs h) : frzV h (.agg [.int .i64 k, .int .i64 t, .int .i64 p, y]) = some (.agg (RecD.cs ⟨k, t, p, rs⟩)) := by
  have := w.rep.frz (k := 8) (by omega)
  rw [frzV_a]
  simp only [mapO, frz_i, this, ob]
theorem J_read1 {n : Nat} {K : H} {k t p : Int} {y : S} {bs : List Nat} {rs : List RunD} {z : List UInt8} {q : Bool} (hn : n + 2 ≤ K.n) (g0 : K.g n = .rw 0 [.int .i64 0, .int .i64 0, .int .i64 0, .sl none 0]) (g1 : K.g (n + 1) = .rw 0 [.int .i64 k, .int .i64 t, .int .i64 p, y]) (w : OutS 2 1 y (runs rs) bs K) (hb : ∀ c ∈ bs, n + 2 ≤ c) (hsm : q = false → (⟨k, t, p, rs⟩ : RecD).sm) :
    RdA n (if q = true ∨ pk ⟨k, t, p, rs⟩ ≠ z then zR else ⟨k, t, p, rs⟩) (if q = true ∨ pk ⟨k, t, p, rs⟩ ≠ z then 0 else z.length) (Jn.impl_read_1 q K (pv (n + 1) 0) (bys z) (pv n 0)) := by
  unfold Jn.impl_read_1
  rw [vcase_b]
  cases q
  case true =>
    have := J_read0 (z := bys z) (q := true) hn g0 g1 w hb
    simp only [if_true, true_or] at this ⊢
    exact this
  have hs := hsm rfl
  have hpl := pk_len ⟨k, t, p, rs⟩
  have hs1 := hs.n
  have hs2 := hs.s
  dsimp only at hpl hs1 hs2
  rw [if_neg (show ¬ false = true by simp)]
  simp only [ldK, ldT, cond_true]
  rw [loadN_4 (b := n + 1) (e := 0) (by omega) g1]
  simp only [gVA_a, gx0, gx1, ob, gI_i]
  rw [if_pos (show ([_, _, _, _] : List S).length = 4 from rfl), frzVs_cons (frzV_rec w) frzVs_nil, ob, norm_nil]
  obtain ⟨y2, h1, e1, n1, w1, _⟩ := f_packed hs K.n
  obtain ⟨L, e2, u, hL, w2⟩ := pV (off := [V.agg [.int .i64 k, .int .i64 t, .int .i64 p, y]].all offV) rfl e1 n1 w1
  rw [e2, frzVs_cons (w2.now.frz) (frzVs_cons frzV_lv frzVs_nil), ob, norm_nil, pc (p_Equal (by omega)) rfl]
  simp only [gV1_s, gB_b]
  have wL : OutS 2 1 y (runs rs) bs L := w.frame fun c hc => by
    have := w.rep.lt c hc
    exact ⟨by omega, u.g c (by omega)⟩
  have := J_read0 (z := bys z) (q := !decide (pk ⟨k, t, p, rs⟩ = z)) (by omega) ((u.g n (by omega)).trans g0) ((u.g (n + 1) (by omega)).trans g1) wL hb
  rw [bys_len] at this
  by_cases hp : pk ⟨k, t, p, rs⟩ = z
  · simp only [hp, decide_true, Bool.not_true, Bool.false_eq_true, if_false, ne_eq, not_true_eq_false, or_self] at this ⊢
    exact this
  · simp only [hp, decide_false, Bool.not_false, if_true, ne_eq, not_false_eq_true, or_true] at this ⊢
    exact this
theorem rd_no {d : List UInt8} (h : ¬ rdOk d) : rdRec d = zR ∧ (rdN d : Int) = 0 := by
  unfold rdRec rdN
  rw [if_neg h, if_neg h]
  exact ⟨rfl, rfl⟩
theorem rd_yes {d : List UInt8} (h : rdOk d) : rdRec d = spR (d.take (bn d 0)) ∧ rdN d = bn d 0 := by
  unfold rdRec rdN
  rw [if_pos h, if_pos h]
  exact ⟨rfl, rfl⟩
theorem imL_bd (d : List UInt8) (e : Nat) (he : e ≤ d.length) : ∀ (q i : Nat) (rs : List RunD) (j : Nat), i ≤ e → imL d e q i = some (rs, j) → rs.length ≤ q ∧ rsz rs ≤ q + (e - i) ∧ j ≤ e
  | 0, i, rs, j, hi, h => by
    simp only [imL, Option.some.injEq, Prod.mk.injEq] at h
    obtain ⟨rfl, rfl⟩ := h
    simp [rsz, szAll]; omega
  | q + 1, i, rs, j, hi, h => by
    simp only [imL] at h
    split at h
    · rename_i hc
      cases hz : imL d e q (i + 2 + bn d (i + 1)) with
      | none => rw [hz] at h; cases h
      | some z =>
        obtain ⟨rs', j'⟩ := z
        rw [hz] at h
        simp only [Option.map_some, Option.some.injEq, Prod.mk.injEq] at h
        obtain ⟨rfl, rfl⟩ := h
        have := imL_bd d e he q _ _ _ hc.2 hz
        have hcl : (cutL d (i + 2) (i + 2 + bn d (i + 1))).length = bn d (i + 1) := by unfold cutL; rw [List.length_drop, List.length_take]; omega
        rw [List.length_cons, rsz_cons]
        dsimp only
        rw [hcl]
        omega
    · cases h
theorem f_read {d : List UInt8} (hl : d.length ≤ maxLen) (n : Nat) : RdA n (rdRec d) (rdN d) (call Ev Fn.impl_read [lv (bys d)] (D n)) := by
  unfold maxLen at hl
  have zero : ¬ rdOk d → RdA n (rdRec d) (rdN d) ((stK 4 ((D n).new 0 [.int .i64 0, .int .i64 0, .int .i64 0, .sl none 0]) (pv ((D n).n) 0) (.agg [.int .i64 0, .int .i64 0, .int .i64 0, .sl none 0]) fun h109 =>
    (loadN 4 h109 (pv ((D n).n) 0)).bind fun c110 => some (V.tup [.agg c110, .s (.int .i64 0)], h109))) := fun h => by
    rw [(rd_no h).1, (rd_no h).2]
    exact rd_zero (cs := [.int .i64 0, .int .i64 0, .int .i64 0, .sl none 0]) (by simp) (new_g (D n) _ _) rfl
  rw [eq_impl_read, vcase_b, bys_len]
  by_cases h7 : 7 ≤ d.length
  case neg =>
    rw [if_pos (by simp; omega)]
    exact zero (fun hh => h7 hh.1)
  rw [if_neg (by simp; omega)]
  have i0 : ∀ {R : Type} {k : List S → Option R}, idxF 1 (bys d) 0 k = k [.int .u8 (bt d 0)] := fun {R} {k} => idxF_by (i := 0) (by omega) (by omega)
  have hb : ((bn d 0 : Nat) : Int) = bt d 0 := bn_bt d 0
  have hb2 := bn_lt d 0
  rw [i0]
  simp only [gx0, ob, gI_i]
  rw [i0]
  simp only [gx0, ob, gI_i, vcase_b]
  rw [← hb, w64 (n := ((bn d 0 : Nat) : Int)) (by omega) (by omega)]
  by_cases h9 : bn d 0 ≤ d.length
  case neg =>
    rw [if_pos (by simp; omega)]
    unfold Jn.impl_read_2
    rw [vcase_b, if_pos rfl]
    exact zero (fun hh => h9 hh.2.2.1)
  rw [if_neg (by simp; omega)]
  unfold Jn.impl_read_2
  rw [vcase_b]
  by_cases h8 : 7 ≤ bn d 0
  case neg =>
    rw [if_pos (by simp; omega)]
    exact zero (fun hh => h8 hh.2.1)
  rw [if_neg (by simp; omega), i0]
  simp only [gx0, ob, gI_i]
  have ec : ∀ {R : Type} {k : List (List S) → Option R}, slF 1 (bys d) none (some (iv .u8 ((bn d 0 : Nat) : Int))) k = k (bys (d.take (bn d 0))) := slF_hi h9
  rw [← hb, ec]
  have htl : (d.take (bn d 0)).length = bn d 0 := by rw [List.length_take]; omega
  have hiff : rdOk d ↔ recF (spR (d.take (bn d 0))) = 0 ∧ pk (spR (d.take (bn d 0))) = d.take (bn d 0) := ⟨fun h => ⟨h.2.2.2.1, h.2.2.2.2⟩, fun h => ⟨h7, h8, h9, h.1, h.2⟩⟩
  have hyes := fun h : rdOk d => rd_yes h
  have hno := fun h : ¬ rdOk d => rd_no h
  generalize hD : d.take (bn d 0) = D1 at *
  have i1 : ∀ {R : Type} {k : List S → Option R}, idxF 1 (bys D1) 1 k = k [.int .u8 (bt D1 1)] := fun {R} {k} => idxF_by (i := 1) (by omega) (by omega)
  have i2 : ∀ {R : Type} {k : List S → Option R}, idxF 1 (bys D1) 2 k = k [.int .u8 (bt D1 2)] := fun {R} {k} => idxF_by (i := 2) (by omega) (by omega)
  have i3 : ∀ {R : Type} {k : List S → Option R}, idxF 1 (bys D1) 3 k = k [.int .u8 (bt D1 3)] := fun {R} {k} => idxF_by (i := 3) (by omega) (by omega)
  have i4 : ∀ {R : Type} {k : List S → Option R}, idxF 1 (bys D1) 4 k = k [.int .u8 (bt D1 4)] := fun {R} {k} => idxF_by (i := 4) (by omega) (by omega)
  rw [i1]
  simp only [gx0, ob, gI_i]
  rw [i2]
  simp only [gx0, ob, gI_i]
  rw [i3]
  simp only [gx0, ob, gI_i]
  have b1 := bt_nn D1 1
  have b2 := bt_nn D1 2
  have b3 := bt_nn D1 3
  have c1 := bt_lt D1 1
  have c2 := bt_lt D1 2
  have c3 := bt_lt D1 3
  rw [hchk_of (HExt.new (HExt.refl _)), w64 (n := bt D1 1) (by omega) (by omega), w64 (n := bt D1 2) (by omega) (by omega), w64 (n := bt D1 3) (by omega) (by omega), st4_new]
  have g0 : ((((D n).new 0 [.int .i64 0, .int .i64 0, .int .i64 0, .sl none 0]).new 0 [.int .i64 0, .int .i64 0, .int .i64 0, .sl none 0]).put ((D n).new 0 [.int .i64 0, .int .i64 0, .int .i64 0, .sl none 0]).n (.rw 0 [.int .i64 (bt D1 1), .int .i64 (bt D1 2), .int .i64 (bt D1 3), .sl none 0])).g n = .rw 0 [.int .i64 0, .int .i64 0, .int .i64 0, .sl none 0] := by
    rw [put_g' (by simp), new_g' (by simp)]; exact new_g (D n) _ _
  have g1 : ((((D n).new 0 [.int .i64 0, .int .i64 0, .int .i64 0, .sl none 0]).new 0 [.int .i64 0, .int .i64 0, .int .i64 0, .sl none 0]).put ((D n).new 0 [.int .i64 0, .int .i64 0, .int .i64 0, .sl none 0]).n (.rw 0 [.int .i64 (bt D1 1), .int .i64 (bt D1 2), .int .i64 (bt D1 3), .sl none 0])).g (n + 1) = .rw 0 [.int .i64 (bt D1 1), .int .i64 (bt D1 2), .int .i64 (bt D1 3), .sl none 0] := put_g _ _ _
  have gn : ((((D n).new 0 [.int .i64 0, .int .i64 0, .int .i64 0, .sl none 0]).new 0 [.int .i64 0, .int .i64 0, .int .i64 0, .sl none 0]).put ((D n).new 0 [.int .i64 0, .int .i64 0, .int .i64 0, .sl none 0]).n (.rw 0 [.int .i64 (bt D1 1), .int .i64 (bt D1 2), .int .i64 (bt D1 3), .sl none 0])).n = n + 2 := by simp
  generalize (((D n).new 0 [.int .i64 0, .int .i64 0, .int .i64 0, .sl none 0]).new 0 [.int .i64 0, .int .i64 0, .int .i64 0, .sl none 0]).put ((D n).new 0 [.int .i64 0, .int .i64 0, .int .i64 0, .sl none 0]).n (.rw 0 [.int .i64 (bt D1 1), .int .i64 (bt D1 2), .int .i64 (bt D1 3), .sl none 0]) = G at g0 g1 gn ⊢
  have h4 : ((bn D1 4 : Nat) : Int) = bt D1 4 := bn_bt D1 4
  have h4' := bn_lt D1 4
  rw [i4]
  simp only [gx0, ob, gI_i]
  rw [← h4, w64 (n := ((bn D1 4 : Nat) : Int)) (by omega) (by omega), bys_len, w64 (n := ((D1.length : Nat) : Int) - 2) (by omega) (by omega)]
  have IH := fun f => lp_read (d := D1) (f := f) (by omega) (by omega) (bn D1 4) 5 0 G (.sl none 0) [] [] (by omega) (by omega) (by simp) (by simpa [runs] using OutS.none) (by simp) (by omega) g0 g1
  cases hi : imL D1 (D1.length - 2) (bn D1 4) 5 with
  | none =>
    have hbad : ¬ rdOk d := fun hh => by
      have := im_of (hiff.1 hh).1 (hiff.1 hh).2
      rw [hi] at this; cases this
    rw [(hno hbad).1, (hno hbad).2]
    rw [hi] at IH
    exact IH _
  | some z =>
    obtain ⟨rs, e⟩ := z
    rw [hi] at IH
    obtain ⟨h', y', bs', e5, w5, b5, n5, o5, o6⟩ := IH (fun _ _ => none)
    have hbd := imL_bd D1 (D1.length - 2) (by omega) _ _ _ _ (by omega) hi
    rw [List.nil_append] at w5
    rw [show (pv ((D n).new 0 [.int .i64 0, .int .i64 0, .int .i64 0, .sl none 0]).n 0) = pv (n + 1) 0 from rfl, D_n, show iv .i64 5 = iv .i64 ((5 : Nat) : Int) from rfl, show iv .i64 0 = iv .i64 ((0 : Nat) : Int) from rfl, e5, ob, lcase_done]
    simp only [gx0, gx1, ob, gV1_s, gF_f, gI_i, vcase_b]
    have hsm : (⟨bt D1 1, bt D1 2, bt D1 3, rs⟩ : RecD).sm := ⟨by dsimp only; omega, by dsimp only; omega⟩
    have fin : ∀ q : Bool, (q = true → ¬ (e = D1.length - 2 ∧ recF ⟨bt D1 1, bt D1 2, bt D1 3, rs⟩ = 0)) → (q = false → e = D1.length - 2 ∧ recF ⟨bt D1 1, bt D1 2, bt D1 3, rs⟩ = 0) → RdA n (rdRec d) (rdN d) (Jn.impl_read_1 q h' (pv (n + 1) 0) (bys D1) (pv n 0)) := by
      intro q hq1 hq2
      have J := J_read1 (z := D1) (q := q) n5 o5 o6 w5 b5 (fun _ => hsm)
      by_cases hok : rdOk d
      · have him := im_of (hiff.1 hok).1 (hiff.1 hok).2
        rw [hi] at him
        simp only [Option.some.injEq, Prod.mk.injEq] at him
        obtain ⟨rfl, rfl⟩ := him
        have hsp : spR D1 = ⟨bt D1 1, bt D1 2, bt D1 3, (spR D1).rs⟩ := rfl
        have hqf : q = false := by
          cases q
          · rfl
          · exact absurd ⟨rfl, by rw [← hsp]; exact (hiff.1 hok).1⟩ (hq1 rfl)
        subst hqf
        rw [← hsp, if_neg (by simp [(hiff.1 hok).2]), if_neg (by simp [(hiff.1 hok).2])] at J
        rw [(hyes hok).1, (hyes hok).2, ← htl]
        exact J
      · rw [(hno hok).1, (hno hok).2]
        have hc : q = true ∨ pk ⟨bt D1 1, bt D1 2, bt D1 3, rs⟩ ≠ D1 := by
          cases q
          case true => exact .inl rfl
          right
          intro hp
          obtain ⟨he, hf⟩ := hq2 rfl
          subst he
          have hs := im_ok hi hf hp
          exact hok (hiff.2 ⟨by rw [hs]; exact hf, by rw [hs]; exact hp⟩)
        rw [if_pos hc, if_pos hc] at J
        exact J
    by_cases he : e = D1.length - 2
    · rw [if_neg (by simp; omega)]
      simp only [ldK, ldT, cond_true]
      rw [loadN_4 (b := n + 1) (e := 0) (by omega) o6]
      simp only [gVA_a, gx0, gx1, ob, gI_i]
      rw [if_pos (show ([_, _, _, _] : List S).length = 4 from rfl), frzVs_cons (frzV_rec w5) frzVs_nil, ob, norm_nil, pc (p_RecordFault _ (by dsimp only; unfold maxLen; omega)) rfl]
      simp only [gV1_s, gI_i]
      refine fin _ (fun h hh => ?_) (fun h => ?_)
      · rw [hh.2] at h; simp at h
      · exact ⟨he, by simpa using h⟩
    · rw [if_pos (by simp; omega)]
      exact fin true (fun _ hh => he hh.1) (by simp)
end Vm
/-
  ReadRecord: what the program's way comes to; its result compared, marked, found again.
-/
namespace Vm
open Go
/-- a call with a new answer that holds cells -/
theorem pG {cl : Nat → List V → H → Option (V × H)} {g : Nat} {off : Bool} {xs : List V} {h : H} {n d : Nat} {v : V} {ys fs : List S} {h1 : H} (hn : h.n = n) (hc : cl g xs (D n) = some (v, h1)) (hv : scaV v = true) (w : NewC d ys fs n h1) :
    ∃ h', (∀ (R : Type) (k : V → H → Option R), pcallF cl g off xs h k = k v h') ∧ Up h h' ∧ n ≤ h'.n ∧ Sep (OwnC d ys fs n h'.n) n h'.n h' ∧ HExt h h' := by
  subst hn
  have hle : h.n ≤ h1.n := w.le
  have ov : ∀ h2 : H, h2.n = h1.n → (∀ b, (h1.g b).cells.all scaS = true → h2.g b = h1.g b) → Up h (h.over h2) ∧ h.n ≤ (h.over h2).n ∧ Sep (OwnC d ys fs h.n (h.over h2).n) h.n (h.over h2).n (h.over h2) ∧ HExt h (h.over h2) := fun h2 hn2 hg2 => by
    have hle2 : h.n ≤ h2.n := by omega
    refine ⟨up_over hle2, by rw [over_n hle2]; omega, OwnC.sep ?_ (Nat.le_refl _), ⟨by rw [over_n hle2]; omega, fun b hb => .inr (over_lt hb)⟩⟩
    obtain ⟨bs, w1, w2, w3⟩ := w.q
    rw [over_n hle2, hn2]
    refine ⟨bs, w1.frame fun b hb => ?_, w2, w3⟩
    have := w3 b hb
    exact ⟨by rw [over_n hle2]; omega, by rw [over_ge this.1]; exact hg2 b (w1.scaB b hb)⟩
  cases off with
  | true =>
    obtain ⟨a1, a2, a3, a4⟩ := ov h1 rfl (fun _ _ => rfl)
    refine ⟨h.over h1, fun R k => ?_, a1, a2, a3, a4⟩
    unfold pcallF
    rw [hc, Vm.ob]
    unfold fchk
    rw [if_pos (.inl rfl)]; rfl
  | false =>
    obtain ⟨a1, a2, a3, a4⟩ := ov (scrub h.n h1) rfl (fun b hb => scrub_g hb)
    refine ⟨h.over (scrub h.n h1), fun R k => ?_, a1, a2, a3, a4⟩
    unfold pcallF
    rw [hc, Vm.ob]
    unfold fchk
    rw [if_pos (.inr hv)]; rfl
theorem st6_new {R : Type} {h : H} {a b c d e f x y z u v w : S} {k : H → Option R} : stK 6 (h.new 0 [a, b, c, d, e, f]) (pv h.n 0) (.agg [x, y, z, u, v, w]) k = k ((h.new 0 [a, b, c, d, e, f]).put h.n (.rw 0 [x, y, z, u, v, w])) :=
  stK_rw (z := 6) (e := 0) (o := 0) (b := h.n) (cs := [a, b, c, d, e, f]) (r := [x, y, z, u, v, w]) (by simp) (new_g _ _ _) (.inr rfl) rfl (by simp)
theorem sc5 {a b c d e : Int} : ∀ s ∈ [S.int .i64 a, .int .i64 b, .int .i64 c, .int .i64 d, .int .i64 e], Sc s := by
  intro s hs
  simp only [List.mem_cons, List.not_mem_nil, or_false] at hs
  rcases hs with rfl | rfl | rfl | rfl | rfl <;> trivial
theorem OwnC.y4 {d : Nat} {a b c : Int} {y f : S} {lo hi : Nat} {h : H} (w : OwnC d [.int .i64 a, .int .i64 b, .int .i64 c, y] [.int .i64 a, .int .i64 b, .int .i64 c, f] lo hi h) : OwnF d y f lo hi h := OwnC.f (pre := [.int .i64 a, .int .i64 b, .int .i64 c]) sc3 w
theorem f_ReadRecord {d : List UInt8} (hl : d.length ≤ maxLen) (n : Nat) : ∃ y h', call Ev Fn.impl_ReadRecord [lv (bys d)] (D n) = some (.agg [.int .i64 (rdC d), .int .i64 (rdN d), .int .i64 (rdRec d).kind, .int .i64 (rdRec d).tx, .int .i64 (rdRec d).page, y], h') ∧ NewC 4 [.int .i64 (rdC d), .int .i64 (rdN d), .int .i64 (rdRec d).kind, .int .i64 (rdRec d).tx, .int .i64 (rdRec d).page, y] (six (rdC d) (rdN d) (rdRec d)) n h' := by
  rw [eq_impl_ReadRecord]
  obtain ⟨y, h1, e1, w1⟩ := f_read hl (n + 1)
  have hy : scaS y = true := by obtain ⟨bs, w, _⟩ := w1.q.y4; exact w.sca
  obtain ⟨K, e2, u, hK, w2, _⟩ := pG (h := (D n).new 0 [.int .i64 0, .int .i64 0, .int .i64 0, .int .i64 0, .int .i64 0, .sl none 0]) (off := true) (by simp) e1 (by simp [hy]) w1
  rw [e2]
  simp only [gVT_t, gx0, gx1, ob, gAA_a, gI_i, gA1_s, ln0, ln1, Nat.zero_add, Nat.reduceAdd, if_true]
  have kg : K.g n = .rw 0 [.int .i64 0, .int .i64 0, .int .i64 0, .int .i64 0, .int .i64 0, .sl none 0] := by rw [u.g n (by simp)]; exact new_g (D n) _ _
  rw [st4_new]
  have uS : Up K ((K.new 0 [.int .i64 0, .int .i64 0, .int .i64 0, .sl none 0]).put K.n (.rw 0 [.int .i64 (rdRec d).kind, .int .i64 (rdRec d).tx, .int .i64 (rdRec d).page, y])) := up_st
  have nS : ((K.new 0 [.int .i64 0, .int .i64 0, .int .i64 0, .sl none 0]).put K.n (.rw 0 [.int .i64 (rdRec d).kind, .int .i64 (rdRec d).tx, .int .i64 (rdRec d).page, y])).n = K.n + 1 := n_st
  have gS : ((K.new 0 [.int .i64 0, .int .i64 0, .int .i64 0, .sl none 0]).put K.n (.rw 0 [.int .i64 (rdRec d).kind, .int .i64 (rdRec d).tx, .int .i64 (rdRec d).page, y])).g K.n = .rw 0 [.int .i64 (rdRec d).kind, .int .i64 (rdRec d).tx, .int .i64 (rdRec d).page, y] := g_st
  replace w2 := w2.up uS
  replace kg := (uS.g n (by omega)).trans kg
  generalize (K.new 0 [.int .i64 0, .int .i64 0, .int .i64 0, .sl none 0]).put K.n (.rw 0 [.int .i64 (rdRec d).kind, .int .i64 (rdRec d).tx, .int .i64 (rdRec d).page, y]) = L at w2 kg uS nS gS ⊢
  rw [vcase_b]
  by_cases hok : rdOk d
  case neg =>
    have hr := rd_no hok
    have hc : rdC d = 5 := by unfold rdC; rw [if_neg hok]
    rw [if_pos (by simp [hr.2]), D_n]
    rw [stK_rw (z := 6) (e := 0) (o := 0) (b := n) (cs := [.int .i64 0, .int .i64 0, .int .i64 0, .int .i64 0, .int .i64 0, .sl none 0]) (r := [.int .i64 5, .int .i64 0, .int .i64 0, .int .i64 0, .int .i64 0, .sl none 0]) (by omega) kg (.inr rfl) rfl (by simp)]
    rw [show setAt [.int .i64 0, .int .i64 0, .int .i64 0, .int .i64 0, .int .i64 0, .sl none 0] 0 [.int .i64 5, .int .i64 0, .int .i64 0, .int .i64 0, .int .i64 0, .sl none 0] = [.int .i64 5, .int .i64 0, .int .i64 0, .int .i64 0, .int .i64 0, .sl none 0] from rfl]
    rw [loadN_6 (b := n) (e := 0) (by rw [put_n]; omega) (put_g _ _ _), ob, hr.1, hc, hr.2]
    refine ⟨.sl none 0, _, rfl, by rw [put_n]; omega, ?_⟩
    exact OwnF.c (pre := [.int .i64 5, .int .i64 0, .int .i64 0, .int .i64 0, .int .i64 0]) sc5 ⟨[], Rep.nil, by simp, by simp⟩
  have hN := (rd_yes hok).2
  have h7 : 7 ≤ bn d 0 := hok.2.1
  have hc : rdC d = 0 := by unfold rdC; rw [if_pos hok]
  rw [if_neg (by simp; omega), loadN_4 (by omega) gS]
  simp only [gx0, gx1, ob, gI_i, ln0, ln1, Nat.zero_add, Nat.reduceAdd, if_true]
  rw [D_n, stK_rw (z := 6) (e := 0) (o := 0) (b := n) (cs := [.int .i64 0, .int .i64 0, .int .i64 0, .int .i64 0, .int .i64 0, .sl none 0]) (r := [.int .i64 0, .int .i64 (rdN d), .int .i64 (rdRec d).kind, .int .i64 (rdRec d).tx, .int .i64 (rdRec d).page, y]) (by omega) kg (.inr rfl) rfl (by simp)]
  rw [show setAt [.int .i64 0, .int .i64 0, .int .i64 0, .int .i64 0, .int .i64 0, .sl none 0] 0 [.int .i64 0, .int .i64 (rdN d : Int), .int .i64 (rdRec d).kind, .int .i64 (rdRec d).tx, .int .i64 (rdRec d).page, y] = [.int .i64 0, .int .i64 (rdN d), .int .i64 (rdRec d).kind, .int .i64 (rdRec d).tx, .int .i64 (rdRec d).page, y] from rfl]
  rw [loadN_6 (b := n) (e := 0) (by rw [put_n]; omega) (put_g _ _ _), ob, hc]
  obtain ⟨bs, w3, w4, w5⟩ := w2.now.y4
  refine ⟨y, _, rfl, by rw [put_n]; omega, ?_⟩
  refine OwnF.c (pre := [.int .i64 0, .int .i64 (rdN d), .int .i64 (rdRec d).kind, .int .i64 (rdRec d).tx, .int .i64 (rdRec d).page]) sc5 ⟨bs, w3.frame fun c hc => ?_, w4, fun c hc => ?_⟩
  · have := w5 c hc
    exact ⟨by rw [put_n]; omega, put_g' (by omega)⟩
  · have := w5 c hc
    rw [put_n]; omega
theorem p_eqRdR {c u : Int} {r : RecD} (hl : r.rs.length ≤ maxLen) (hr : ∀ x ∈ r.rs, x.l.length ≤ maxLen) : pureV (call Ev) Fn.laws_eqRecordResult [.agg (six c u r), .agg (six c u r)] = some (bv true) := by
  rw [pu_laws_eqRecordResult, vcase_b, if_neg (by simp), vcase_b, if_neg (by simp), pc (p_eqRecord r hl hr) rfl]
  simp
theorem p_heldRdR {c u : Int} {r : RecD} {k : Nat} (hk : k + rsz r.rs < 2 ^ 62) : pureV (call Ev) Fn.laws_heldRecordResult [.agg (six c u ⟨r.kind, r.tx, r.page, mkRs k r.rs⟩), iv .i64 k] = some (iv .i64 ((k + rsz r.rs : Nat) : Int)) := by
  have e : pureV (call Ev) Fn.laws_heldRecord [.agg (RecD.cs ⟨r.kind, r.tx, r.page, mkRs k r.rs⟩), iv .i64 k] = some (iv .i64 ((k + rsz r.rs : Nat) : Int)) := by
    rw [pu_laws_heldRecord, pc (p_heldRs hk) rfl]
    simp only [gV1_s, gI_i, vcase_b]
    rw [if_neg (by simp; omega)]
  rw [pu_laws_heldRecordResult, pc e rfl]
  simp only [gV1_s, gI_i, vcase_b]
  rw [if_neg (by simp; omega)]
/-- what is known of a heap behind a mark -/
structure Mk (h : H) (d : Nat) (y f : S) (bs : List Nat) (p : H) : Prop where
  r : Rep p d y f bs
  n : h.n ≤ p.n
  o : ∀ c, c ∉ bs → c < h.n → p.g c = h.g c ∧ p.v c = h.v c
  e : p.n = h.n → ∀ c, h.n ≤ c → p.g c = h.g c
theorem Mk.tidy {h p : H} {d : Nat} {y f : S} {bs : List Nat} {n : Int} (m : Mk h d y f bs p) (hb : ∀ b ∈ bs, b < h.n) : Mk h d y f bs (tidy h [iv .i64 n] p) ∧ (Vm.tidy h [iv .i64 n] p).n = h.n := by
  have hT : Tidy h [iv .i64 n] p := ⟨m.n, by simp [belV, belS], fun b hb' => by
    by_cases hbb : b ∈ bs
    · exact .inr (m.r.bel hb b hbb)
    · exact .inl (m.o b hbb hb')⟩
  unfold Vm.tidy
  rw [if_pos hT]
  refine ⟨⟨m.r.frame fun b hbb => ⟨hb b hbb, by simp [hb b hbb]⟩, Nat.le_refl _, fun c hc hcn => ?_, fun _ c hc => ?_⟩, rfl⟩
  · simp only [if_pos hcn]; exact m.o c hc hcn
  · simp only [if_neg (show ¬ c < h.n by omega)]
theorem Mk.down {h p : H} {d e : Nat} {y f : S} {bs : List Nat} {cs : List S} (m : Mk (h.new e cs) d y f bs p) : Mk h d y f bs p := by
  have hn := m.n
  simp only [new_n] at hn
  refine ⟨m.r, by omega, fun c hc hcn => ?_, fun hh => by omega⟩
  have := m.o c hc (by simp; omega)
  refine ⟨this.1.trans (new_g' (by omega)), this.2.trans ?_⟩
  simp [H.new, show c ≠ h.n by omega]
theorem Rep.markRec {h : H} {a b c : Int} {y : S} {rs : List RunD} {bs : List Nat} {k : Nat} (w : Rep h 4 y (.fs (runs rs)) bs) (hd : bs.Nodup) (hl : k + rsz rs < 2 ^ 62) :
    ∃ p, call Ev Fn.laws_markRecord [.agg [.int .i64 a, .int .i64 b, .int .i64 c, y], iv .i64 k] h = some (iv .i64 ((k + rsz rs : Nat) : Int), p) ∧ Mk h 4 y (.fs (runs (mkRs k rs))) bs p := by
  rw [eq_laws_markRecord]
  have l1 : load1 (h.new 0 [.int .i64 a, .int .i64 b, .int .i64 c, y]) (pv h.n 3) = some y := by simp [load1, H.cells, Blk.cells]
  rw [l1, Vm.ob]
  have w1' : Rep (h.new 0 [.int .i64 a, .int .i64 b, .int .i64 c, y]) 4 y (.fs (runs rs)) bs := w.frame fun b hb => ⟨by have := w.lt b hb; simp; omega, new_g' (by have := w.lt b hb; omega)⟩
  obtain ⟨p, e1, r1, n1, o1⟩ := w1'.markRs (k := k) hd hl
  rw [e1, Vm.ob]
  simp only [gV1_s, gI_i]
  have m : Mk (h.new 0 [.int .i64 a, .int .i64 b, .int .i64 c, y]) 4 y (.fs (runs (mkRs k rs))) bs p := ⟨r1, by rw [n1]; exact Nat.le_refl _, fun d hd _ => o1 d hd, fun _ d hd => (o1 d fun hh => by have := w1'.lt d hh; omega).1⟩
  exact ⟨_, rfl, (m.tidy (n := ((k + rsz rs : Nat) : Int)) w1'.lt).1.down⟩
theorem Mk.sep {h p : H} {pre : List S} {y f : S} {lo hi d : Nat} {n : Int} {bs : List Nat} (hp : ∀ s ∈ pre, Sc s) (hb : ∀ b ∈ bs, lo ≤ b ∧ b < hi) (hd : bs.Nodup) (ht : hi ≤ h.n) (m : Mk h d y f bs p) :
    Sep (OwnC d (pre ++ [y]) (pre ++ [f]) lo hi) lo hi (Vm.tidy h [iv .i64 n] p) ∧ ButR lo hi h (Vm.tidy h [iv .i64 n] p) := markC hp hb hd ht m.r m.n m.o m.e
theorem r_markRdR {h : H} {c u a b e : Int} {y : S} {rs : List RunD} {lo hi k : Nat} (w : Sep (OwnC 4 [.int .i64 c, .int .i64 u, .int .i64 a, .int .i64 b, .int .i64 e, y] [.int .i64 c, .int .i64 u, .int .i64 a, .int .i64 b, .int .i64 e, .fs (runs rs)] lo hi) lo hi h) (hl : k + rsz rs < 2 ^ 62) :
    ∃ p, call Ev Fn.laws_markRecordResult [.agg [.int .i64 c, .int .i64 u, .int .i64 a, .int .i64 b, .int .i64 e, y], iv .i64 k] h = some (iv .i64 ((k + rsz rs : Nat) : Int), p) ∧ Sep (OwnC 4 [.int .i64 c, .int .i64 u, .int .i64 a, .int .i64 b, .int .i64 e, y] [.int .i64 c, .int .i64 u, .int .i64 a, .int .i64 b, .int .i64 e, .fs (runs (mkRs k rs))] lo hi) lo hi (Vm.tidy h [iv .i64 ((k + rsz rs : Nat) : Int)] p) ∧ ButR lo hi h (Vm.tidy h [iv .i64 ((k + rsz rs : Nat) : Int)] p) := by
  obtain ⟨bs, w1, w2, w3⟩ := OwnC.f (pre := [.int .i64 c, .int .i64 u, .int .i64 a, .int .i64 b, .int .i64 e]) sc5 w.now
  have ht := w.top
  rw [eq_laws_markRecordResult]
  have l1 : loadN 4 (h.new 0 [.int .i64 c, .int .i64 u, .int .i64 a, .int .i64 b, .int .i64 e, y]) (pv h.n 2) = some [.int .i64 a, .int .i64 b, .int .i64 e, y] := loadN_rw (by simp) (new_g _ _ _) (by simp)
  rw [l1]
  simp only [gx0, gx1, Vm.ob, gI_i, ln0, ln1, Nat.zero_add, Nat.reduceAdd, if_true]
  have w1' : Rep (h.new 0 [.int .i64 c, .int .i64 u, .int .i64 a, .int .i64 b, .int .i64 e, y]) 4 y (.fs (runs rs)) bs := w1.frame fun b hb => ⟨by have := w1.lt b hb; simp; omega, new_g' (by have := w1.lt b hb; omega)⟩
  obtain ⟨p, e1, m⟩ := w1'.markRec (a := a) (b := b) (c := e) (k := k) w2 hl
  rw [e1, Vm.ob]
  simp only [gV1_s, gI_i]
  exact ⟨_, rfl, Mk.sep (pre := [.int .i64 c, .int .i64 u, .int .i64 a, .int .i64 b, .int .i64 e]) sc5 w3 w2 ht (m.tidy (n := ((k + rsz rs : Nat) : Int)) w1'.lt).1.down⟩
theorem frzV_six {h : H} {a b c d e : Int} {l : List (List S)} : frzV h (.agg [.int .i64 a, .int .i64 b, .int .i64 c, .int .i64 d, .int .i64 e, .fs l]) = some (.agg [.int .i64 a, .int .i64 b, .int .i64 c, .int .i64 d, .int .i64 e, .fs l]) := by simp
theorem rd_bd (d : List UInt8) : (rdRec d).rs.length ≤ 256 ∧ (∀ x ∈ (rdRec d).rs, x.l.length ≤ maxLen) ∧ rsz (rdRec d).rs ≤ 2000 := by
  unfold rdRec
  split
  · rename_i h
    obtain ⟨h7, h8, h9, hf, hp⟩ := h
    have hb := bn_lt d 0
    have htl : (d.take (bn d 0)).length = bn d 0 := by rw [List.length_take]; omega
    have := spL_bd (d.take (bn d 0)) (bn (d.take (bn d 0)) 4) 5 (by omega)
    have h4 := bn_lt (d.take (bn d 0)) 4
    refine ⟨by unfold spR; dsimp only; omega, fun x hx => ?_, by unfold spR; dsimp only; omega⟩
    have := (recF_ok hf).2.2.2.2.2.2.2 x hx
    unfold inR at this
    unfold maxLen; omega
  · simp [rsz, szAll]
end Vm
/-
  All records at the beginning of bytes; the fault of a log.
-/
namespace Vm
open Go
def recs (rs : List RecD) : List (List S) := rs.map RecD.cs
@[simp] theorem recs_len (rs : List RecD) : (recs rs).length = rs.length := by simp [recs]
theorem recs_row {rs : List RecD} : ∀ r ∈ recs rs, r.length = 4 := by
  intro r hr
  obtain ⟨c, _, rfl⟩ := List.mem_map.1 hr
  rfl
theorem recs_cl {rs : List RecD} : ∀ r ∈ recs rs, ∀ s ∈ r, Cl s := by
  intro r hr s hs
  obtain ⟨c, _, rfl⟩ := List.mem_map.1 hr
  simp only [List.mem_cons, List.not_mem_nil, or_false] at hs
  rcases hs with rfl | rfl | rfl | rfl <;> first | exact cl_i | exact cl_f
theorem recs_snoc (rs : List RecD) (r : RecD) : recs (rs ++ [r]) = recs rs ++ [r.cs] := by simp [recs]
def rdAll : Nat → List UInt8 → List RecD × Nat
  | 0, _ => ([], 0)
  | q + 1, d => if rdOk d then (rdRec d :: (rdAll q (d.drop (rdN d))).1, rdN d + (rdAll q (d.drop (rdN d))).2) else ([], 0)
def rdS (d : List UInt8) : List RecD := (rdAll (d.length + 1) d).1
def rdU (d : List UInt8) : Nat := (rdAll (d.length + 1) d).2
theorem rdN_bd {d : List UInt8} (h : rdOk d) : 7 ≤ rdN d ∧ rdN d ≤ d.length := by
  rw [(rd_yes h).2]
  exact ⟨h.2.1, h.2.2.1⟩
theorem rdAll_bd : ∀ (q : Nat) (d : List UInt8), (rdAll q d).2 ≤ d.length ∧ 7 * (rdAll q d).1.length ≤ (rdAll q d).2
  | 0, d => by simp [rdAll]
  | q + 1, d => by
    simp only [rdAll]
    split
    · rename_i h
      have h1 := rdN_bd h
      have := rdAll_bd q (d.drop (rdN d))
      simp only [List.length_drop, List.length_cons] at *
      omega
    · simp
theorem app_fz {h : H} {z b : Nat} {rows : List (List S)} {row : List S} (hb : b < h.n) (hg : h.g b = .rw z rows.flatten) (hr : ∀ r ∈ rows, r.length = z) (hz0 : 0 < z) (hz : row.length = z) (hl : rows.length + 1 ≤ lim) :
    appS z (h.new z row) (sv b 0 rows.length) (sv h.n 0 1) = some (sv (h.n + 1) 0 (rows.length + 1), ((h.new z row).put b .dead).new z (rows.flatten ++ row)) := by
  have hf := flat_len hr
  have hbn : b ≠ h.n := by omega
  have c1 : (h.new z row).cells b = rows.flatten := by unfold H.cells; rw [if_pos (by simp; omega), new_g' hbn, hg]; rfl
  have c2 : (h.new z row).cells h.n = row := by unfold H.cells; rw [if_pos (by simp), new_g]; rfl
  have cx : cellsS z (h.new z row) (sv b 0 rows.length) = some rows.flatten := by
    simp only [cellsS, c1]
    rw [if_pos ⟨by simp; omega, by omega⟩, List.drop_zero, List.take_of_length_le (by omega)]
  have cy : cellsS z (h.new z row) (sv h.n 0 1) = some row := by
    simp only [cellsS, c2]
    rw [if_pos ⟨by simp, by omega⟩, List.drop_zero, List.take_of_length_le (by omega)]
  simp only [appS, cx, cy, Option.bind_some, lenS]
  rw [if_pos ⟨by rw [new_n]; omega, hl, hz0⟩, new_g' hbn, hg]
  simp only [if_true]
  rfl
section
variable {d : List UInt8} (hl : d.length ≤ 2147483648)
include hl
theorem lp_l5Read : ∀ (q i : Nat) (h : H) (b : Nat) (acc : List RecD), (d.drop i).length < q → i ≤ d.length → 7 * acc.length ≤ i → b < h.n → h.g b = .rw 4 (recs acc).flatten →
    ∃ h' b', Lp.spec_l5Read 0 [lv (bys d), sv b 0 acc.length, iv .i64 i] h = some (.done [sv b' 0 (acc ++ (rdAll q (d.drop i)).1).length, iv .i64 ((i + (rdAll q (d.drop i)).2 : Nat) : Int)] h') ∧ h.n ≤ h'.n ∧ b' < h'.n ∧ h'.g b' = .rw 4 (recs (acc ++ (rdAll q (d.drop i)).1)).flatten := by
  intro q
  induction q with
  | zero => intro i h b acc hq; omega
  | succ q ih =>
    intro i h b acc hq hi ha hb hg
    rw [eq_spec_l5Read_l0, vcase_b, bys_len]
    by_cases h1 : i < d.length
    case neg =>
      have e : d.drop i = [] := List.drop_of_length_le (by omega)
      have hno : ¬ rdOk [] := fun hh => by have := hh.1; simp at this
      have e2 : rdAll (q + 1) (d.drop i) = ([], 0) := by rw [e]; simp only [rdAll]; rw [if_neg hno]
      rw [if_neg (by simp; omega), tidy_self, e2]
      exact ⟨h, b, by simp, Nat.le_refl _, hb, by simpa using hg⟩
    rw [if_pos (by simp; omega), slF_lo (by omega), p_spec_ReadRecord (by rw [List.length_drop]; unfold maxLen; omega)]
    simp only [ob, gVA_a, gx0, gx1, gI_i, gF_f]
    rw [if_pos (show ([_, _, _, _, _, _] : List S).length = 6 from rfl), st6_new]
    generalize hZ : d.drop i = z at *
    have u1 : Up h ((h.new 0 [.int .i64 0, .int .i64 0, .int .i64 0, .int .i64 0, .int .i64 0, .sl none 0]).put h.n (.rw 0 (six (rdC z) (rdN z) (rdRec z)))) := up_st
    have gn : ((h.new 0 [.int .i64 0, .int .i64 0, .int .i64 0, .int .i64 0, .int .i64 0, .sl none 0]).put h.n (.rw 0 (six (rdC z) (rdN z) (rdRec z)))).n = h.n + 1 := n_st
    have gg : ((h.new 0 [.int .i64 0, .int .i64 0, .int .i64 0, .int .i64 0, .int .i64 0, .sl none 0]).put h.n (.rw 0 (six (rdC z) (rdN z) (rdRec z)))).g h.n = .rw 0 (six (rdC z) (rdN z) (rdRec z)) := g_st
    generalize (h.new 0 [.int .i64 0, .int .i64 0, .int .i64 0, .int .i64 0, .int .i64 0, .sl none 0]).put h.n (.rw 0 (six (rdC z) (rdN z) (rdRec z))) = G at u1 gn gg ⊢
    have ld : ∀ {K : H} {o : Nat}, h.n < K.n → K.g h.n = .rw 0 (six (rdC z) (rdN z) (rdRec z)) → load1 K (pv h.n o) = (six (rdC z) (rdN z) (rdRec z))[o]? := fun {K} {o} h1 h2 => by simp [load1, H.cells, h1, h2, Blk.cells]
    rw [ld (by omega) gg]
    simp only [gx0, gx1, ob, gI_i, vcase_b]
    by_cases hok : rdOk z
    case neg =>
      have e2 : rdAll (q + 1) z = ([], 0) := by simp only [rdAll]; rw [if_neg hok]
      have hc : rdC z = 5 := by unfold rdC; rw [if_neg hok]
      rw [if_pos (by simp [hc]), e2]
      have ht : (tidy h [sv b 0 acc.length, iv .i64 i] G).n = h.n ∧ (tidy h [sv b 0 acc.length, iv .i64 i] G).g b = h.g b ∨ tidy h [sv b 0 acc.length, iv .i64 i] G = G := by
        by_cases hT : Tidy h [sv b 0 acc.length, iv .i64 i] G
        · left
          unfold tidy
          rw [if_pos hT]
          exact ⟨rfl, by simp only [if_pos hb]; exact u1.g b hb⟩
        · right
          unfold tidy
          rw [if_neg hT]
      generalize tidy h [sv b 0 acc.length, iv .i64 i] G = T at ht ⊢
      refine ⟨T, b, by simp, ?_, ?_, ?_⟩
      · rcases ht with h1 | h1
        · omega
        · rw [h1]; omega
      · rcases ht with h1 | h1
        · omega
        · rw [h1]; omega
      · rcases ht with h1 | h1
        · rw [h1.2]; simpa using hg
        · rw [h1, u1.g b hb]; simpa using hg
    have hc : rdC z = 0 := by unfold rdC; rw [if_pos hok]
    have hbd := rdN_bd hok
    have hzl : z.length = d.length - i := by rw [← hZ, List.length_drop]
    have e2 : rdAll (q + 1) z = (rdRec z :: (rdAll q (z.drop (rdN z))).1, rdN z + (rdAll q (z.drop (rdN z))).2) := by
      show (if rdOk z then _ else _) = _
      rw [if_pos hok]
    have l4 : loadN 4 G (pv h.n 2) = some (rdRec z).cs := loadN_rw (by omega) gg (by simp)
    rw [if_neg (by simp [hc]), l4]
    simp only [gx0, gx1, ob, gI_i]
    rw [if_pos (show ([_, _, _, _] : List S).length = 4 from rfl)]
    have hgG := (u1.g b hb).trans hg
    have ha2 := app_fz (h := G) (z := 4) (b := b) (rows := recs acc) (row := (rdRec z).cs) (by omega) hgG recs_row (by omega) rfl (by simp; unfold lim; omega)
    rw [recs_len] at ha2
    rw [ha2, ob]
    have kg : (((G.new 4 (rdRec z).cs).put b .dead).new 4 ((recs acc).flatten ++ (rdRec z).cs)).g h.n = .rw 0 (six (rdC z) (rdN z) (rdRec z)) := by
      rw [new_g' (by simp; omega), put_g' (by omega), new_g' (by omega)]; exact gg
    dsimp only
    rw [ld (by simp; omega) kg]
    simp only [gx0, gx1, ob, gI_i]
    rw [no_tidy_v (by simp [belV, belS]; omega), w64 (by omega) (by omega), show (i : Int) + (rdN z : Int) = ((i + rdN z : Nat) : Int) from by omega]
    have hz2 : d.drop (i + rdN z) = z.drop (rdN z) := by rw [← hZ, List.drop_drop]
    obtain ⟨h', b', e5, n5, b5, g5⟩ := ih (i + rdN z) (((G.new 4 (rdRec z).cs).put b .dead).new 4 ((recs acc).flatten ++ (rdRec z).cs)) (G.n + 1) (acc ++ [rdRec z]) (by rw [hz2, List.length_drop]; omega) (by omega) (by rw [List.length_append, List.length_singleton]; omega) (by simp) (by rw [recs_snoc, List.flatten_append]; simpa using new_g ((G.new 4 (rdRec z).cs).put b .dead) 4 ((recs acc).flatten ++ (rdRec z).cs))
    rw [hz2] at e5 g5
    rw [List.length_append, List.length_singleton] at e5
    refine ⟨h', b', ?_, by simp at n5; omega, b5, ?_⟩
    · rw [e5, e2]
      simp only [List.append_assoc, List.singleton_append, Nat.add_assoc]
    · rw [g5, e2]; simp
theorem f_l5Read (n : Nat) : ∃ y h', call Ev Fn.spec_l5Read [lv (bys d)] (D n) = some (.tup [.s y, .s (.int .i64 (rdU d))], h') ∧ n ≤ h'.n ∧ scaS y = true ∧ frzS h' 8 y = some (.fs (recs (rdS d))) := by
  obtain ⟨h', b', e5, n5, b5, g5⟩ := lp_l5Read hl (d.length + 1) 0 ((D n).new 4 []) n [] (by simp) (by omega) (by simp) (by simp) (by exact new_g (D n) _ _)
  rw [eq_spec_l5Read, D_n, show iv .i64 0 = iv .i64 ((0 : Nat) : Int) from rfl]
  simp only [List.length_nil, List.drop_zero, List.nil_append, Nat.zero_add] at e5 g5
  rw [e5, ob, lcase_done]
  simp only [gx0, gx1, ob, gV1_s, gI_i]
  refine ⟨_, h', rfl, by simp at n5; omega, rfl, ?_⟩
  have := frzS_sl (h := h') (b := b') (z := 4) (d := 7) (rows := recs (rdS d)) b5 (by omega) g5 recs_row recs_cl
  rw [recs_len] at this
  exact this
theorem p_l5Read : pureV (call Ev) Fn.spec_l5Read [lv (bys d)] = some (.tup [.s (.fs (recs (rdS d))), .s (.int .i64 (rdU d))]) := by
  obtain ⟨y, h', e, _, _, hf⟩ := f_l5Read hl 0
  unfold pureV
  rw [e, ob]
  simp [frzAs, frzA, hf]
theorem lp_readAll : ∀ (q i : Nat) (h : H) (y : S) (bs : List Nat) (acc : List RecD) (n0 : Nat), (d.drop i).length < q → i ≤ d.length → 7 * acc.length ≤ i → OutS 4 4 y (recs acc) bs h → (∀ c ∈ bs, n0 ≤ c) → n0 ≤ h.n →
    ∃ h' y' bs', (Lp.impl_readAll 0 [lv (bys d), .s y, iv .i64 i] h).bind (fun o101 => lcase o101 (fun l102 h103 =>
      (l102[0]?).bind fun w106 =>
      (l102[1]?).bind fun w107 =>
      gV1 w107 fun x108 =>
      gI .i64 x108 fun i109 =>
      (V.toA w106).bind fun t110 =>
      some (V.tup [t110, .s (.int .i64 i109)], h103)) (fun v104 h105 =>
      some (v104, h105))) = some (.tup [.s y', .s (.int .i64 ((i + (rdAll q (d.drop i)).2 : Nat) : Int))], h') ∧ OutS 4 4 y' (recs (acc ++ (rdAll q (d.drop i)).1)) bs' h' ∧ (∀ c ∈ bs', n0 ≤ c) ∧ n0 ≤ h'.n := by
  intro q
  induction q with
  | zero => intro i h y bs acc n0 hq; omega
  | succ q ih =>
    intro i h y bs acc n0 hq hi ha w hb hn
    rw [eq_impl_readAll_l0, slF_lo (by omega)]
    generalize hZ : d.drop i = z at *
    have hzl : z.length = d.length - i := by rw [← hZ, List.length_drop]
    obtain ⟨yr, h1, e1, w1⟩ := f_read (d := z) (by rw [hzl]; unfold maxLen; omega) h.n
    have hy : scaS yr = true := by obtain ⟨bs, w, _⟩ := w1.q.y4; exact w.sca
    obtain ⟨K, e2, u, hK, w2, _⟩ := pG (h := h) (off := true) rfl e1 (by simp [hy]) w1
    rw [e2]
    simp only [gVT_t, gx0, gx1, ob, gAA_a, gI_i, gA1_s]
    rw [if_pos (show ([_, _, _, _] : List S).length = 4 from rfl), if_pos (show ([_, _] : List A).length = 2 from rfl), st4_new]
    have uS : Up K ((K.new 0 [.int .i64 0, .int .i64 0, .int .i64 0, .sl none 0]).put K.n (.rw 0 [.int .i64 (rdRec z).kind, .int .i64 (rdRec z).tx, .int .i64 (rdRec z).page, yr])) := up_st
    have nS : ((K.new 0 [.int .i64 0, .int .i64 0, .int .i64 0, .sl none 0]).put K.n (.rw 0 [.int .i64 (rdRec z).kind, .int .i64 (rdRec z).tx, .int .i64 (rdRec z).page, yr])).n = K.n + 1 := n_st
    have gS : ((K.new 0 [.int .i64 0, .int .i64 0, .int .i64 0, .sl none 0]).put K.n (.rw 0 [.int .i64 (rdRec z).kind, .int .i64 (rdRec z).tx, .int .i64 (rdRec z).page, yr])).g K.n = .rw 0 [.int .i64 (rdRec z).kind, .int .i64 (rdRec z).tx, .int .i64 (rdRec z).page, yr] := g_st
    replace w2 := w2.up uS
    generalize (K.new 0 [.int .i64 0, .int .i64 0, .int .i64 0, .sl none 0]).put K.n (.rw 0 [.int .i64 (rdRec z).kind, .int .i64 (rdRec z).tx, .int .i64 (rdRec z).page, yr]) = L at w2 uS nS gS ⊢
    have wL : OutS 4 4 y (recs acc) bs L := w.frame fun c hc => by
      have := w.rep.lt c hc
      exact ⟨by omega, (uS.g c (by omega)).trans (u.g c (by omega))⟩
    rw [vcase_b]
    by_cases hok : rdOk z
    case neg =>
      have e3 : rdAll (q + 1) z = ([], 0) := by simp only [rdAll]; rw [if_neg hok]
      rw [if_pos (by simp [(rd_no hok).2]), e3]
      simp only [V.toA, ob, lcase_ret]
      exact ⟨L, y, bs, rfl, by simpa using wL, hb, by omega⟩
    have hbd := rdN_bd hok
    have e3 : rdAll (q + 1) z = (rdRec z :: (rdAll q (z.drop (rdN z))).1, rdN z + (rdAll q (z.drop (rdN z))).2) := by
      show (if rdOk z then _ else _) = _
      rw [if_pos hok]
    rw [if_neg (by simp; omega), loadN_4 (by omega) gS]
    simp only [gx0, gx1, ob, gI_i]
    rw [if_pos (show ([_, _, _, _] : List S).length = 4 from rfl)]
    obtain ⟨br, wr1, wr2, wr3⟩ := w2.now
    obtain ⟨h2, bs2, e4, w3, n3, f3, o3, _, _⟩ := app_row wL wr1 rfl (by omega) wr2 (fun c hc hh => by have := w.rep.lt c hc; have := wr3 c hh; omega) (by simp; unfold lim; omega)
    rw [e4, ob]
    dsimp only
    rw [no_tidy_v (by simp [belV, belS]; omega), w64 (by omega) (by omega), show (i : Int) + (rdN z : Int) = ((i + rdN z : Nat) : Int) from by omega]
    rw [← recs_snoc] at w3
    have hz2 : d.drop (i + rdN z) = z.drop (rdN z) := by rw [← hZ, List.drop_drop]
    obtain ⟨h', y', bs', e5, w5, b5, n5⟩ := ih (i + rdN z) h2 _ bs2 (acc ++ [rdRec z]) n0 (by rw [hz2, List.length_drop]; omega) (by omega) (by rw [List.length_append, List.length_singleton]; omega) w3 (fun c hc => by
      rcases f3 c hc with h1 | h1 | h1
      · omega
      · exact hb c h1
      · have := wr3 c h1; omega) (by omega)
    rw [hz2] at e5 w5
    refine ⟨h', y', bs', ?_, ?_, b5, n5⟩
    · rw [e5, e3]
      simp only [Nat.add_assoc]
    · rw [e3]; simpa using w5
theorem f_readAll (n : Nat) : ∃ y h', call Ev Fn.impl_readAll [lv (bys d)] (D n) = some (.tup [.s y, .s (.int .i64 (rdU d))], h') ∧ n ≤ h'.n ∧ OwnF 5 y (.fs (recs (rdS d))) n h'.n h' := by
  obtain ⟨h', y', bs', e5, w5, b5, n5⟩ := lp_readAll hl (d.length + 1) 0 (D n) (.sl none 0) [] [] n (by simp) (by omega) (by simp) (by simpa [recs] using OutS.none) (by simp) (by simp)
  simp only [List.drop_zero, List.nil_append, Nat.zero_add] at e5 w5
  rw [eq_impl_readAll, show iv .i64 0 = iv .i64 ((0 : Nat) : Int) from rfl, e5]
  exact ⟨y', h', rfl, n5, bs', w5.rep, w5.nd, fun c hc => ⟨b5 c hc, w5.rep.lt c hc⟩⟩
theorem p_readAll : pureV (call Ev) Fn.impl_readAll [lv (bys d)] = some (.tup [.s (.fs (recs (rdS d))), .s (.int .i64 (rdU d))]) := by
  obtain ⟨y, h', e, _, bs, w, _⟩ := f_readAll hl 0
  have hf := w.frz (k := 8) (by omega)
  unfold pureV
  rw [e, ob]
  simp [frzAs, frzA, hf]
end
end Vm
/-
  Slices of records: compared, marked, found again, copied; ReadLog.
-/
namespace Vm
open Go
section
variable {R : Type}
theorem idxF_rec {rs : List RecD} {i : Nat} {r : RecD} {k : List S → Option R} (h : rs[i]? = some r) : idxF 4 (recs rs) (i : Int) k = k r.cs := idxF_at (by simp [recs, h]) rfl
end
theorem rowN_rec {r : RecD} : rowN 4 r.cs 0 = some r.cs := rowN_all rfl
def szRc (r : RecD) : Nat := 3 + rsz r.rs
def mkRc (k : Nat) (r : RecD) : RecD := ⟨k, ((k + 1 : Nat) : Int), ((k + 2 : Nat) : Int), mkRs (k + 3) r.rs⟩
def csz (rs : List RecD) : Nat := szAll szRc rs
def mkRcs (k : Nat) (rs : List RecD) : List RecD := mkAll mkRc szRc k rs
theorem csz_cons (r : RecD) (rs : List RecD) : csz (r :: rs) = 3 + rsz r.rs + csz rs := rfl
theorem mkRcs_cons (k : Nat) (r : RecD) (rs : List RecD) : mkRcs k (r :: rs) = mkRc k r :: mkRcs (k + (3 + rsz r.rs)) rs := rfl
theorem mkRcs_len (k : Nat) (rs : List RecD) : (mkRcs k rs).length = rs.length := mkAll_len _ _ _ _
theorem csz_len : ∀ rs : List RecD, rs.length ≤ csz rs
  | [] => Nat.le_refl _
  | r :: rs => by have := csz_len rs; rw [csz_cons, List.length_cons]; omega
theorem p_eqRcs {all : List RecD} (hl : all.length ≤ maxLen) (hr : ∀ r ∈ all, r.rs.length ≤ maxLen ∧ ∀ x ∈ r.rs, x.l.length ≤ maxLen) : pureV (call Ev) Fn.laws_eqRecordS [lv (recs all), lv (recs all)] = some (bv true) := by
  unfold maxLen at hl
  have loop : ∀ (rs : List RecD) (i : Nat), all.drop i = rs → Lp.laws_eqRecordS 0 [lv (recs all), lv (recs all), iv .i64 i] (D 0) = some (.done [] (D 0)) := by
    intro rs
    induction rs with
    | nil =>
      intro i hi
      have := drop_nil hi
      rw [eq_laws_eqRecordS_l0, vcase_b, if_neg (by simp; omega), tidy_self]
    | cons r rs ih =>
      intro i hi
      obtain ⟨g1, g2, g3⟩ := drop_cons hi
      rw [eq_laws_eqRecordS_l0, vcase_b, if_pos (by simp; omega), idxF_rec g1, rowN_rec]
      simp only [ob, gx0, gx1, gI_i, gF_f, ln0, ln1, Nat.zero_add, Nat.reduceAdd, if_true]
      rw [idxF_rec g1, rowN_rec]
      simp only [ob, gx0, gx1, gI_i, gF_f, ln0, ln1, Nat.zero_add, Nat.reduceAdd, if_true]
      have := hr r (List.mem_of_getElem? g1)
      rw [pc (p_eqRecord r this.1 this.2) rfl]
      simp only [gV1_s, gB_b, hchk_self, vcase_b, Bool.not_true, Bool.false_eq_true, if_false]
      rw [w64 (by omega) (by omega), tidy_self, show (i : Int) + 1 = ((i + 1 : Nat) : Int) from by omega]
      exact ih (i + 1) g2
  rw [pu_laws_eqRecordS, vcase_b, if_neg (by simp), show iv .i64 0 = iv .i64 ((0 : Nat) : Int) from rfl, loop all 0 rfl]
  simp
theorem Rep.markRcs {h : H} {d : Nat} {y : S} {rs : List RecD} {bs : List Nat} {k : Nat} (w : Rep h (d + 3) y (.fs (recs rs)) bs) (hd : bs.Nodup) (hk : k + csz rs < 2 ^ 62) :
    ∃ h', call Ev Fn.laws_markRecordS [.s y, iv .i64 k] h = some (iv .i64 ((k + csz rs : Nat) : Int), h') ∧ Rep h' (d + 3) y (.fs (recs (mkRcs k rs))) bs ∧ h'.n = h.n ∧ ∀ c, c ∉ bs → h'.g c = h.g c ∧ h'.v c = h.v c := by
  have hrl := csz_len rs
  obtain ⟨h', e1, r1, n1, o1⟩ := Rep.marks (z := 4) (cs := RecD.cs) (mk := mkRc) (sz := szRc) (k := k) (Lv := fun v k i h => Lp.laws_markRecordS 0 [v, iv .i64 k, iv .i64 i] h) (fin := fun k => [iv .i64 k]) (by omega) (fun _ => rfl) w hd hk
    (fun b i k r h pre ys post bs hi hp hy hk hb hg wr hnd hnb => by
      show ∃ h' ys', Lp.laws_markRecordS 0 _ h = _ ∧ _
      rw [eq_laws_markRecordS_l0]
      simp only [lenV, Option.bind_some, gV1_s, gI_i, vcase_b]
      rw [if_pos (by simp; omega), idxK_sv hi]
      simp only [padd, ob, Nat.add_zero]
      have wr' : RepL (Rep h (d + 2)) ys ([.int .i64 r.kind, .int .i64 r.tx, .int .i64 r.page] ++ [.fs (runs r.rs)]) bs := wr
      obtain ⟨y1, y2, b1, b2, rfl, rfl, w1, w2⟩ := wr'.split
      obtain ⟨rfl, rfl⟩ := w1.of_sc sc3
      cases w2 with
      | @cons y f bs' ys fs bss h1 h2 =>
        cases h2
        rw [List.append_nil, List.nil_append] at hnd hnb
        have hszr : szRc r = 3 + rsz r.rs := rfl
        rw [w64 (n := (k : Int) + 1) (by omega) (by omega), w64 (n := (k : Int) + 1 + 1) (by omega) (by omega), w64 (n := (k : Int) + 1 + 1 + 1) (by omega) (by omega)]
        have set1 : ∀ (A B : List S) (x q : S) (o : Nat), A.length = o → setAt (A ++ x :: B) o [q] = A ++ q :: B := fun A B x q o ho => by
          rw [show A ++ x :: B = A ++ (x :: B) from rfl, setAt_at ho (z := 1) rfl]; simp
        rw [stK_rw (z := 1) (e := 4) (o := i * 4) (b := b) (cs := pre ++ ([.int .i64 r.kind, .int .i64 r.tx, .int .i64 r.page] ++ [y]) ++ post) (r := [.int .i64 k]) hb hg (.inl ⟨_, rfl, rfl, rfl⟩) rfl (by simp; omega)]
        rw [show setAt (pre ++ ([.int .i64 r.kind, .int .i64 r.tx, .int .i64 r.page] ++ [y]) ++ post) (i * 4) [.int .i64 (k : Int)] = pre ++ [.int .i64 k, .int .i64 r.tx, .int .i64 r.page, y] ++ post from by
          have := set1 pre ([.int .i64 r.tx, .int .i64 r.page, y] ++ post) (.int .i64 r.kind) (.int .i64 k) (i * 4) hp
          simpa using this]
        rw [idxK_sv hi]
        simp only [padd, ob]
        rw [stK_rw (z := 1) (e := 4) (o := i * 4 + 1) (b := b) (cs := pre ++ [.int .i64 k, .int .i64 r.tx, .int .i64 r.page, y] ++ post) (r := [.int .i64 ((k : Int) + 1)]) (by rw [put_n]; exact hb) (put_g _ _ _) (.inl ⟨_, rfl, rfl, rfl⟩) rfl (by simp; omega)]
        rw [show setAt (pre ++ [.int .i64 (k : Int), .int .i64 r.tx, .int .i64 r.page, y] ++ post) (i * 4 + 1) [.int .i64 ((k : Int) + 1)] = pre ++ [.int .i64 k, .int .i64 ((k : Int) + 1), .int .i64 r.page, y] ++ post from by
          have := set1 (pre ++ [.int .i64 (k : Int)]) ([.int .i64 r.page, y] ++ post) (.int .i64 r.tx) (.int .i64 ((k : Int) + 1)) (i * 4 + 1) (by simp [hp])
          simpa using this]
        rw [idxK_sv hi]
        simp only [padd, ob]
        rw [stK_rw (z := 1) (e := 4) (o := i * 4 + 2) (b := b) (cs := pre ++ [.int .i64 k, .int .i64 ((k : Int) + 1), .int .i64 r.page, y] ++ post) (r := [.int .i64 ((k : Int) + 1 + 1)]) (by rw [put_n, put_n]; exact hb) (put_g _ _ _) (.inl ⟨_, rfl, rfl, rfl⟩) rfl (by simp; omega)]
        rw [show setAt (pre ++ [.int .i64 (k : Int), .int .i64 ((k : Int) + 1), .int .i64 r.page, y] ++ post) (i * 4 + 2) [.int .i64 ((k : Int) + 1 + 1)] = pre ++ [.int .i64 k, .int .i64 ((k : Int) + 1), .int .i64 ((k : Int) + 1 + 1), y] ++ post from by
          have := set1 (pre ++ [.int .i64 (k : Int), .int .i64 ((k : Int) + 1)]) ([y] ++ post) (.int .i64 r.page) (.int .i64 ((k : Int) + 1 + 1)) (i * 4 + 2) (by simp [hp])
          simpa using this]
        rw [idxK_sv hi]
        simp only [padd, ob]
        generalize hQ : ((h.put b (.rw 4 (pre ++ [.int .i64 (k : Int), .int .i64 r.tx, .int .i64 r.page, y] ++ post))).put b (.rw 4 (pre ++ [.int .i64 (k : Int), .int .i64 ((k : Int) + 1), .int .i64 r.page, y] ++ post))).put b (.rw 4 (pre ++ [.int .i64 (k : Int), .int .i64 ((k : Int) + 1), .int .i64 ((k : Int) + 1 + 1), y] ++ post)) = Q
        have qn : Q.n = h.n := by rw [← hQ, put_n, put_n, put_n]
        have qg : Q.g b = .rw 4 (pre ++ [.int .i64 (k : Int), .int .i64 ((k : Int) + 1), .int .i64 ((k : Int) + 1 + 1), y] ++ post) := by rw [← hQ]; exact put_g _ _ _
        have qo : ∀ c, c ≠ b → Q.g c = h.g c ∧ Q.v c = h.v c := fun c hc => by
          rw [← hQ]
          exact ⟨by rw [put_g' hc, put_g' hc, put_g' hc], by simp [H.put, hc]⟩
        have ld : load1 Q (pv b (i * 4 + 3)) = some y := by
          simp only [load1, H.cells, qn, hb, if_true, qg, Blk.cells]
          rw [List.getElem?_append_left (by simp; omega), List.getElem?_append_right (by omega), hp]
          simp
        simp only [ldK, ldT, cond_false, ld, ob]
        have h1' : Rep Q (d + 2) y (.fs (runs r.rs)) bs' := h1.frame fun c hc => ⟨by rw [qn]; exact h1.lt c hc, (qo c (fun hh => hnb (hh ▸ hc))).1⟩
        obtain ⟨h2, e2, r2, n2, o2⟩ := h1'.markRs (k := k + 3) hnd (by omega)
        rw [show (k : Int) + 1 + 1 + 1 = ((k + 3 : Nat) : Int) from by omega, e2, ob]
        simp only [gV1_s, gI_i]
        have t1 : tidy Q [iv .i64 ((k + 3 + rsz r.rs : Nat) : Int)] h2 = h2 := tidy_same n2 fun c hc => o2 c fun hh => by have := h1'.lt c hh; omega
        rw [t1]
        have t2 : ∀ l, tidy h l h2 = h2 := fun l => tidy_same (n2.trans qn) fun c hc => by
          have hc1 : c ∉ bs' := fun hh => by have := h1.lt c hh; omega
          have := o2 c hc1
          have q := qo c (by omega)
          exact ⟨this.1.trans q.1, this.2.trans q.2⟩
        rw [t2, w64 (n := (i : Int) + 1) (by omega) (by omega), show (i : Int) + 1 = ((i + 1 : Nat) : Int) from by omega]
        refine ⟨h2, [.int .i64 k, .int .i64 ((k : Int) + 1), .int .i64 ((k : Int) + 1 + 1), y], ?_, n2.trans qn, rfl, ?_, ?_, fun c hc hcb => ?_⟩
        · rw [show k + szRc r = k + 3 + rsz r.rs from by omega]
        · have := (o2 b hnb).1
          rw [this, qg]
        · have e : (mkRc k r).cs = [.int .i64 (k : Int), .int .i64 ((k : Int) + 1), .int .i64 ((k : Int) + 1 + 1)] ++ [.fs (runs (mkRs (k + 3) r.rs))] := by
            show [S.int .i64 (k : Int), .int .i64 ((k + 1 : Nat) : Int), .int .i64 ((k + 2 : Nat) : Int), .fs (runs (mkRs (k + 3) r.rs))] = _
            rw [show ((k + 1 : Nat) : Int) = (k : Int) + 1 from by omega, show ((k + 2 : Nat) : Int) = (k : Int) + 1 + 1 from by omega]
            rfl
          rw [e]
          have : RepL (Rep h2 (d + 2)) ([.int .i64 (k : Int), .int .i64 ((k : Int) + 1), .int .i64 ((k : Int) + 1 + 1)] ++ [y]) ([.int .i64 (k : Int), .int .i64 ((k : Int) + 1), .int .i64 ((k : Int) + 1 + 1)] ++ [.fs (runs (mkRs (k + 3) r.rs))]) ([] ++ (bs' ++ [])) := RepL.append (RepL.sc sc3) (.cons r2 .nil)
          exact this
        · have hcb' : c ∉ bs' := fun hh => hcb (by simp [hh])
          have := o2 c hcb'
          have q := qo c hc
          exact ⟨this.1.trans q.1, this.2.trans q.2⟩)
    (fun o k h => by
      show Lp.laws_markRecordS 0 _ h = _
      rw [eq_laws_markRecordS_l0]
      simp only [lenV, Option.bind_some, gV1_s, gI_i, vcase_b]
      rw [if_neg (by simp), tidy_self])
  refine ⟨h', ?_, r1, n1, o1⟩
  rw [eq_laws_markRecordS, show iv .i64 0 = iv .i64 ((0 : Nat) : Int) from rfl, e1, ob, lcase_done]
  simp only [gx0, ob, gV1_s, gI_i]
  rfl
theorem p_heldRcs {k : Nat} {rs : List RecD} (hk : k + csz rs < 2 ^ 62) : pureV (call Ev) Fn.laws_heldRecordS [lv (recs (mkRcs k rs)), iv .i64 k] = some (iv .i64 ((k + csz rs : Nat) : Int)) := by
  have hrl := csz_len rs
  have loop : ∀ (q : List RecD) (i k' : Nat), (mkRcs k rs).drop i = mkRcs k' q → k' + csz q = k + csz rs → i + q.length = rs.length →
      Lp.laws_heldRecordS 0 [lv (recs (mkRcs k rs)), iv .i64 k', iv .i64 i] (D 0) = some (.done [iv .i64 ((k + csz rs : Nat) : Int)] (D 0)) := by
    intro q
    induction q with
    | nil =>
      intro i k' hd hs hi
      simp only [List.length_nil] at hi
      rw [eq_laws_heldRecordS_l0, vcase_b, recs_len, mkRcs_len, if_neg (by simp; omega), tidy_self, ← hs]
      rfl
    | cons r q ih =>
      intro i k' hd hs hi
      rw [mkRcs_cons] at hd
      rw [csz_cons] at hs
      simp only [List.length_cons] at hi
      obtain ⟨g1, g2, _⟩ := drop_cons hd
      have e : ∀ {R : Type} {f : List S → Option R}, idxF 4 (recs (mkRcs k rs)) (i : Int) f = f (mkRc k' r).cs := idxF_rec g1
      rw [eq_laws_heldRecordS_l0, vcase_b, recs_len, mkRcs_len, if_pos (by simp; omega), e]
      simp only [gx0, gx1, ob, gI_i, vcase_b]
      rw [if_neg (by simp [mkRc]), e]
      simp only [gx0, gx1, ob, gI_i, vcase_b]
      rw [w64 (n := (k' : Int) + 1) (by omega) (by omega), if_neg (by simp [mkRc]), e]
      simp only [gx0, gx1, ob, gI_i, vcase_b]
      rw [w64 (n := (k' : Int) + 1 + 1) (by omega) (by omega), if_neg (by simp [mkRc]; omega), e]
      simp only [gx0, gx1, ob, gF_f]
      rw [w64 (n := (k' : Int) + 1 + 1 + 1) (by omega) (by omega), show (k' : Int) + 1 + 1 + 1 = ((k' + 3 : Nat) : Int) from by omega, show (mkRc k' r).rs = mkRs (k' + 3) r.rs from rfl, pc (p_heldRs (by omega)) rfl]
      simp only [gV1_s, gI_i, vcase_b]
      rw [if_neg (by simp; omega), w64 (n := (i : Int) + 1) (by omega) (by omega), tidy_self, show (i : Int) + 1 = ((i + 1 : Nat) : Int) from by omega]
      exact ih (i + 1) (k' + 3 + rsz r.rs) (by rw [g2, Nat.add_assoc]) (by omega) (by omega)
  rw [pu_laws_heldRecordS, show iv .i64 0 = iv .i64 ((0 : Nat) : Int) from rfl, loop rs 0 k (by simp) rfl (by simp), ob, lcase_done]
  simp only [gx0, ob, gV1_s, gI_i]
/-! results of a code, a number and records -/
abbrev kr (c u : Int) (rs : List RecD) : List S := [.int .i64 c, .int .i64 u, .fs (recs rs)]
theorem sc2 {a b : Int} : ∀ s ∈ [S.int .i64 a, .int .i64 b], Sc s := by
  intro s hs
  simp only [List.mem_cons, List.not_mem_nil, or_false] at hs
  rcases hs with rfl | rfl <;> trivial
theorem p_eqKR {c u : Int} {rs : List RecD} (hl : rs.length ≤ maxLen) (hr : ∀ r ∈ rs, r.rs.length ≤ maxLen ∧ ∀ x ∈ r.rs, x.l.length ≤ maxLen) : pureV (call Ev) Fn.laws_eqRecordsResult [.agg (kr c u rs), .agg (kr c u rs)] = some (bv true) := by
  rw [pu_laws_eqRecordsResult, vcase_b, if_neg (by simp), vcase_b, if_neg (by simp), pc (p_eqRcs hl hr) rfl]
  simp
theorem p_heldKR {c u : Int} {k : Nat} {rs : List RecD} (hk : k + csz rs < 2 ^ 62) : pureV (call Ev) Fn.laws_heldRecordsResult [.agg (kr c u (mkRcs k rs)), iv .i64 k] = some (iv .i64 ((k + csz rs : Nat) : Int)) := by
  rw [pu_laws_heldRecordsResult, pc (p_heldRcs hk) rfl]
  simp only [gV1_s, gI_i, vcase_b]
  rw [if_neg (by simp; omega)]
theorem r_markKR {h : H} {c u : Int} {y : S} {rs : List RecD} {lo hi k : Nat} (w : Sep (OwnC 5 [.int .i64 c, .int .i64 u, y] (kr c u rs) lo hi) lo hi h) (hl : k + csz rs < 2 ^ 62) :
    ∃ p, call Ev Fn.laws_markRecordsResult [.agg [.int .i64 c, .int .i64 u, y], iv .i64 k] h = some (iv .i64 ((k + csz rs : Nat) : Int), p) ∧ Sep (OwnC 5 [.int .i64 c, .int .i64 u, y] (kr c u (mkRcs k rs)) lo hi) lo hi (Vm.tidy h [iv .i64 ((k + csz rs : Nat) : Int)] p) ∧ ButR lo hi h (Vm.tidy h [iv .i64 ((k + csz rs : Nat) : Int)] p) := by
  obtain ⟨bs, w1, w2, w3⟩ := OwnC.f (pre := [.int .i64 c, .int .i64 u]) sc2 w.now
  have ht := w.top
  rw [eq_laws_markRecordsResult]
  have l1 : load1 (h.new 0 [.int .i64 c, .int .i64 u, y]) (pv h.n 2) = some y := by simp [load1, H.cells, Blk.cells]
  rw [l1, Vm.ob]
  have w1' : Rep (h.new 0 [.int .i64 c, .int .i64 u, y]) 5 y (.fs (recs rs)) bs := w1.frame fun b hb => ⟨by have := w1.lt b hb; simp; omega, new_g' (by have := w1.lt b hb; omega)⟩
  obtain ⟨p, e1, r1, n1, o1⟩ := w1'.markRcs (k := k) w2 hl
  rw [e1, Vm.ob]
  simp only [gV1_s, gI_i]
  have m : Mk (h.new 0 [.int .i64 c, .int .i64 u, y]) 5 y (.fs (recs (mkRcs k rs))) bs p := ⟨r1, by rw [n1]; exact Nat.le_refl _, fun d hd _ => o1 d hd, fun _ d hd => (o1 d fun hh => by have := w1'.lt d hh; omega).1⟩
  exact ⟨_, rfl, Mk.sep (pre := [.int .i64 c, .int .i64 u]) sc2 w3 w2 ht (m.tidy (n := ((k + csz rs : Nat) : Int)) w1'.lt).1.down⟩
/-! ReadLog -/
def klC (d : List UInt8) : Int := if d.length > 16000 then 2 else 0
def klU (d : List UInt8) : Int := if d.length > 16000 then 0 else rdU d
def klR (d : List UInt8) : List RecD := if d.length > 16000 then [] else rdS d
theorem p_spec_ReadLog {d : List UInt8} (hl : d.length ≤ 2147483648) : pureV (call Ev) Fn.spec_ReadLog [lv (bys d)] = some (.agg (kr (klC d) (klU d) (klR d))) := by
  rw [pu_spec_ReadLog, vcase_b, bys_len]
  unfold klC klU klR
  by_cases h : d.length > 16000
  · rw [if_pos (by simp; omega), if_pos h, if_pos h, if_pos h]; rfl
  rw [if_neg (by simp; omega), if_neg h, if_neg h, if_neg h, p_l5Read hl]
  simp only [ob, gVT_t, gx0, gx1, gA1_s, gF_f, gI_i, ln0, ln1, Nat.zero_add, Nat.reduceAdd, if_true]
theorem f_ReadLog {d : List UInt8} (hl : d.length ≤ 2147483648) (n : Nat) : ∃ y h', call Ev Fn.impl_ReadLog [lv (bys d)] (D n) = some (.agg [.int .i64 (klC d), .int .i64 (klU d), y], h') ∧ NewC 5 [.int .i64 (klC d), .int .i64 (klU d), y] (kr (klC d) (klU d) (klR d)) n h' := by
  rw [eq_impl_ReadLog, vcase_b, bys_len]
  unfold klC klU klR
  have ln3 : ∀ {K : H} {a b c : S}, n < K.n → loadN 3 (K.put n (.rw 0 [a, b, c])) (pv n 0) = some [a, b, c] := fun {K a b c} hn => loadN_rw (e := 0) (by rw [put_n]; exact hn) (put_g _ _ _) (by simp)
  by_cases h : d.length > 16000
  · rw [if_pos (by simp; omega), if_pos h, if_pos h, if_pos h, D_n, stK_rw (z := 3) (e := 0) (o := 0) (b := n) (cs := [.int .i64 0, .int .i64 0, .sl none 0]) (r := [.int .i64 2, .int .i64 0, .sl none 0]) (by simp) (new_g (D n) _ _) (.inr rfl) rfl (by simp)]
    rw [show setAt [.int .i64 0, .int .i64 0, .sl none 0] 0 [.int .i64 2, .int .i64 0, S.sl none 0] = [.int .i64 2, .int .i64 0, .sl none 0] from rfl, ln3 (by simp), ob]
    exact ⟨_, _, rfl, by simp, OwnF.c (pre := [.int .i64 2, .int .i64 0]) sc2 ⟨[], Rep.nil, by simp, by simp⟩⟩
  rw [if_neg (by simp; omega), if_neg h, if_neg h, if_neg h]
  obtain ⟨y, h1, e1, n1, w1⟩ := f_readAll hl (n + 1)
  obtain ⟨bs, w2, w3, w4⟩ := w1
  have hc : NewC 5 [y] [.fs (recs (rdS d))] (n + 1) h1 := ⟨n1, OwnF.c (pre := []) (by simp) ⟨bs, w2, w3, w4⟩⟩
  obtain ⟨K, e2, u, hK, w5, _⟩ := pG (h := (D n).new 0 [.int .i64 0, .int .i64 0, .sl none 0]) (off := true) (by simp) e1 (by simp [w2.sca]) hc
  rw [e2]
  simp only [gVT_t, gx0, gx1, ob, gA1_s, gI_i]
  rw [if_pos (show ([_, _] : List A).length = 2 from rfl), w2.isNo, cond_false]
  have kg : K.g n = .rw 0 [.int .i64 0, .int .i64 0, .sl none 0] := by rw [u.g n (by simp)]; exact new_g (D n) _ _
  rw [D_n, stK_rw (z := 3) (e := 0) (o := 0) (b := n) (cs := [.int .i64 0, .int .i64 0, .sl none 0]) (r := [.int .i64 0, .int .i64 (rdU d), y]) (by omega) kg (.inr rfl) rfl (by simp)]
  rw [show setAt [.int .i64 0, .int .i64 0, .sl none 0] 0 [.int .i64 0, .int .i64 (rdU d : Int), y] = [.int .i64 0, .int .i64 (rdU d), y] from rfl, ln3 (by omega), ob]
  obtain ⟨bs5, w6, w7, w8⟩ := OwnC.f (pre := []) (by simp) w5.now
  refine ⟨y, _, rfl, by rw [put_n]; omega, ?_⟩
  refine OwnF.c (pre := [.int .i64 0, .int .i64 (rdU d)]) sc2 ⟨bs5, w6.frame fun c hc => ?_, w7, fun c hc => ?_⟩
  · have := w8 c hc
    exact ⟨by rw [put_n]; omega, put_g' (by omega)⟩
  · have := w8 c hc
    rw [put_n]; omega
theorem rdAll_all : ∀ (q : Nat) (d : List UInt8), (∀ r ∈ (rdAll q d).1, r.rs.length ≤ 256 ∧ (∀ x ∈ r.rs, x.l.length ≤ maxLen) ∧ rsz r.rs ≤ 2000)
  | 0, d => by simp [rdAll]
  | q + 1, d => by
    simp only [rdAll]
    split
    · intro r hr
      rcases List.mem_cons.1 hr with rfl | hr
      · exact rd_bd d
      · exact rdAll_all q _ r hr
    · simp
theorem csz_le : ∀ (rs : List RecD), (∀ r ∈ rs, rsz r.rs ≤ 2000) → csz rs ≤ rs.length * 2003
  | [], _ => Nat.le_refl _
  | r :: rs, h => by
    have := csz_le rs fun x hx => h x (by simp [hx])
    have := h r (by simp)
    rw [csz_cons, List.length_cons, Nat.succ_mul]; omega
theorem klR_bd {d : List UInt8} : (klR d).length ≤ 2300 ∧ (∀ r ∈ klR d, r.rs.length ≤ maxLen ∧ ∀ x ∈ r.rs, x.l.length ≤ maxLen) ∧ csz (klR d) ≤ 4606900 := by
  unfold klR
  split
  · simp [csz, szAll]
  rename_i h
  have h1 := rdAll_bd (d.length + 1) d
  have h2 := rdAll_all (d.length + 1) d
  have hl : (rdS d).length ≤ 2300 := by unfold rdS; omega
  refine ⟨hl, fun r hr => ?_, ?_⟩
  · have := h2 r hr
    exact ⟨by have := this.1; unfold maxLen; omega, this.2.1⟩
  · have := csz_le (rdS d) fun r hr => (h2 r hr).2.2
    have := Nat.mul_le_mul_right 2003 hl
    omega
theorem frzV_kr {h : H} {a b : Int} {l : List (List S)} : frzV h (.agg [.int .i64 a, .int .i64 b, .fs l]) = some (.agg [.int .i64 a, .int .i64 b, .fs l]) := by simp
theorem st3_n {R : Type} {h : H} {x y z a b c : S} {k : H → Option R} : stK 3 (h.new 0 [a, b, c]) (pv h.n 0) (.agg [x, y, z]) k = k ((h.new 0 [a, b, c]).put h.n (.rw 0 [x, y, z])) :=
  stK_rw (z := 3) (e := 0) (o := 0) (b := h.n) (cs := [a, b, c]) (r := [x, y, z]) (by simp) (new_g _ _ _) (.inr rfl) rfl (by simp)
theorem loadN_3 {e b : Nat} {h : H} {x y z : S} (hb : b < h.n) (hg : h.g b = .rw e [x, y, z]) : loadN 3 h (pv b 0) = some [x, y, z] := loadN_rw hb hg (by simp)
theorem st3_new {R : Type} {h : H} {x y z a b c : S} {k : H → Option R} : stK 3 (h.new 0 [a, b, c]) (pv h.n 0) (.agg [x, y, z]) k = k ((h.new 0 [a, b, c]).put h.n (.rw 0 [x, y, z])) := st3_n
end Vm
/-
  Records as arguments in a slice; PackAll.
-/
namespace Vm
open Go
theorem rows_Rec {m : Nat} : ∀ rows : List (List S), (∀ r ∈ rows, r.length = PR.cellsOf T.laws_Record ∧ Rp PR m T.laws_Record r) → ∃ rs : List RecD, rows = recs rs ∧ ∀ r ∈ rs, r.ok
  | [], _ => ⟨[], rfl, by simp⟩
  | r :: rows, hr => by
    obtain ⟨rs, h1, h2⟩ := rows_Rec rows fun r hm => hr r (by simp [hm])
    obtain ⟨a, h3, h4⟩ := rp_Rec (hr r (by simp)).2
    refine ⟨a :: rs, by rw [h1, h3]; rfl, fun x hx => ?_⟩
    rcases List.mem_cons.1 hx with rfl | hx
    · exact h4
    · exact h2 x hx
theorem arg_Recs {x : V} (hr : ArgRp PR T.S_laws_Record x) : ∃ rs : List RecD, x = lv (recs rs) ∧ (∀ r ∈ rs, r.ok) ∧ rs.length ≤ maxLen := by
  obtain ⟨s, n, rfl, h1⟩ := hr.slice und_S_laws_Record
  obtain ⟨m, rows, h1, h2, h3⟩ := h1.slice und_S_laws_Record
  cases h1
  obtain ⟨rs, rfl, h4⟩ := rows_Rec rows h3
  exact ⟨rs, rfl, h4, by simpa using h2⟩
/-! the size guard -/
def sz1 (r : RecD) (left : Int) : Int := if (r.rs.length : Int) ≤ left then szRuns r.rs (left - r.rs.length) else -1
def szG : List RecD → Int → Int
  | [], left => left
  | r :: rs, left => if sz1 r left < 0 then -1 else szG rs (sz1 r left)
theorem sz1_le {r : RecD} {left : Int} (h : 0 ≤ left) : sz1 r left ≤ left ∧ -1 ≤ sz1 r left := by
  unfold sz1
  split
  · have := szRuns_le r.rs (left - r.rs.length) (by omega); omega
  · omega
theorem sz1_eq {r : RecD} {left : Int} (h : 0 ≤ sz1 r left) : sz1 r left = left - rsz r.rs ∧ (∀ x ∈ r.rs, (x.l.length : Int) ≤ left) := by
  unfold sz1 at h ⊢
  by_cases hle : (r.rs.length : Int) ≤ left
  · rw [if_pos hle] at h ⊢
    refine ⟨by rw [szRuns_sum _ _ h (by omega)]; omega, fun x hx => ?_⟩
    have := szRuns_all r.rs _ h x hx
    omega
  · rw [if_neg hle] at h; omega
def rzs : List RecD → Nat
  | [] => 0
  | r :: rs => rsz r.rs + rzs rs
theorem szG_ok : ∀ (rs : List RecD) (left : Int), 0 ≤ left → 0 ≤ szG rs left → (rzs rs : Int) ≤ left ∧ ∀ r ∈ rs, r.rs.length ≤ left.toNat ∧ ∀ x ∈ r.rs, (x.l.length : Int) ≤ left
  | [], left, h0, h => by simp [rzs]; exact h0
  | r :: rs, left, h0, h => by
    simp only [szG] at h
    by_cases h1 : sz1 r left < 0
    · rw [if_pos h1] at h; omega
    rw [if_neg h1] at h
    have e := sz1_eq (r := r) (left := left) (by omega)
    have ih := szG_ok rs (sz1 r left) (by omega) h
    have hl := rsz_len r.rs
    refine ⟨by simp only [rzs]; omega, fun x hx => ?_⟩
    rcases List.mem_cons.1 hx with rfl | hx
    · exact ⟨by omega, e.2⟩
    · have := ih.2 x hx
      refine ⟨by omega, fun y hy => ?_⟩
      have := this.2 y hy
      omega
theorem csz_rzs : ∀ rs : List RecD, csz rs = 3 * rs.length + rzs rs
  | [] => rfl
  | r :: rs => by have := csz_rzs rs; rw [csz_cons, List.length_cons]; simp only [rzs]; omega
def szA (rs : List RecD) : Int := if (rs.length : Int) ≤ 1048576 then szG rs (1048576 - rs.length) else -1
theorem p_szRecordS {all : List RecD} (hl : all.length ≤ maxLen) (hr : ∀ r ∈ all, r.ok) : pureV (call Ev) Fn.laws_szRecordS [lv (recs all), iv .i64 1048576] = some (iv .i64 (szA all)) := by
  unfold maxLen at hl
  have loop : ∀ (rs : List RecD) (i : Nat) (q : Int), all.drop i = rs → 0 ≤ q → q < 9223372036854775808 →
      (Lp.laws_szRecordS 0 [lv (recs all), iv .i64 q, iv .i64 i] (D 0)).bind (fun o102 => lcase o102 (fun l103 h104 =>
        (l103[0]?).bind fun w107 =>
        gV1 w107 fun x108 =>
        gI .i64 x108 fun i109 =>
        some (iv .i64 i109)) (fun v105 h106 =>
        frzV h106 v105)) = some (iv .i64 (szG rs q)) := by
    intro rs
    induction rs with
    | nil =>
      intro i q hi h1 h2
      have := drop_nil hi
      rw [eq_laws_szRecordS_l0, vcase_b, if_neg (by simp; omega), tidy_self, ob, lcase_done]
      simp only [gx0, ob, gV1_s, gI_i, szG]
    | cons r rs ih =>
      intro i q hi h1 h2
      obtain ⟨g1, g2, g3⟩ := drop_cons hi
      rw [eq_laws_szRecordS_l0, vcase_b, if_pos (by simp; omega), idxF_rec g1, rowN_rec]
      simp only [ob, gx0, gx1, gI_i, gF_f, ln0, ln1, Nat.zero_add, Nat.reduceAdd, if_true]
      rw [pc (p_szRecord r (hr r (List.mem_of_getElem? g1)) h1 h2) rfl]
      simp only [gV1_s, gI_i, vcase_b, decide_eq_true_eq, szG]
      rw [show (if (r.rs.length : Int) ≤ q then szRuns r.rs (q - r.rs.length) else -1) = sz1 r q from rfl]
      have hb := sz1_le (r := r) h1
      by_cases hle : sz1 r q < 0
      · rw [if_pos hle, if_pos hle]; rfl
      · rw [if_neg hle, if_neg hle, w64 (by omega) (by omega), tidy_self, show (i : Int) + 1 = ((i + 1 : Nat) : Int) from by omega]
        exact ih (i + 1) _ g2 (by omega) (by omega)
  rw [pu_laws_szRecordS, vcase_b, recs_len, w64 (by omega) (by omega)]
  unfold szA
  by_cases hq : (all.length : Int) ≤ 1048576
  · rw [if_neg (by simp; omega), if_pos hq]
    exact loop all 0 _ rfl (by omega) (by omega)
  · rw [if_pos (by simp; omega), if_neg hq]
theorem szA_ok {rs : List RecD} (h : ¬ szA rs < 0) : rs.length ≤ 1048576 ∧ rzs rs ≤ 1048576 ∧ ∀ r ∈ rs, r.rs.length ≤ lim ∧ ∀ x ∈ r.rs, x.l.length ≤ lim := by
  unfold szA at h
  split at h
  · rename_i hl
    have := szG_ok rs (1048576 - rs.length) (by omega) (by omega)
    refine ⟨by omega, by omega, fun r hr => ?_⟩
    have := this.2 r hr
    refine ⟨by unfold lim; omega, fun x hx => ?_⟩
    have := this.2 x hx
    unfold lim; omega
  · omega
/-! copied -/
def OwnCs (v : V) (rs : List RecD) (lo hi : Nat) (h : H) : Prop := ∃ y, v = .s y ∧ OwnF 5 y (.fs (recs rs)) lo hi h
theorem OwnCs.frz {v : V} {rs : List RecD} {lo hi : Nat} {h : H} (w : OwnCs v rs lo hi h) : frzV h v = some (lv (recs rs)) := by
  obtain ⟨y, rfl, w⟩ := w
  exact w.frz
theorem OwnCs.sep {v : V} {rs : List RecD} {lo hi : Nat} {h : H} (w : OwnCs v rs lo hi h) (hn : hi ≤ h.n) : Sep (OwnCs v rs lo hi) lo hi h := ⟨hn, fun h' hn' hg => by
  obtain ⟨y, rfl, w⟩ := w
  exact ⟨y, rfl, (w.sep hn).q h' hn' hg⟩⟩
theorem OwnCs.pv {cl : Nat → List V → H → Option (V × H)} {g : Nat} {off : Bool} {xs : List V} {h : H} {n : Nat} {v : V} {rs : List RecD} {h1 : H} (hn : h.n = n) (hc : cl g xs (D n) = some (v, h1)) (hw : n ≤ h1.n ∧ OwnCs v rs n h1.n h1) :
    ∃ h', (∀ (R : Type) (k : V → H → Option R), pcallF cl g off xs h k = k v h') ∧ Up h h' ∧ n ≤ h'.n ∧ Sep (OwnCs v rs n h'.n) n h'.n h' := by
  obtain ⟨hle, y, rfl, w⟩ := hw
  obtain ⟨h', e, u, hn', w'⟩ := pV (off := off) hn hc hle w
  exact ⟨h', e, u, hn', OwnCs.sep ⟨y, rfl, w'.now⟩ (Nat.le_refl _)⟩
theorem OwnCs.mark {h : H} {v : V} {rs : List RecD} {lo hi k : Nat} (w : Sep (OwnCs v rs lo hi) lo hi h) (hl : k + csz rs < 2 ^ 62) :
    ∃ p, call Ev Fn.laws_markRecordS [v, iv .i64 k] h = some (iv .i64 ((k + csz rs : Nat) : Int), p) ∧ Sep (OwnCs v (mkRcs k rs) lo hi) lo hi (tidy h [iv .i64 ((k + csz rs : Nat) : Int)] p) ∧ ButR lo hi h (tidy h [iv .i64 ((k + csz rs : Nat) : Int)] p) := by
  obtain ⟨y, rfl, bs, w1, w2, w3⟩ := w.now
  obtain ⟨p, e1, r1, n1, o1⟩ := w1.markRcs (d := 2) (k := k) w2 hl
  have ht := w.top
  have t : tidy h [iv .i64 ((k + csz rs : Nat) : Int)] p = p := tidy_same n1 fun c hc => o1 c (fun hh => by have := w3 c hh; omega)
  refine ⟨p, e1, ?_, ?_⟩
  · rw [t]; exact OwnCs.sep ⟨y, rfl, bs, r1, w2, w3⟩ (by rw [n1]; exact ht)
  · rw [t]; exact ⟨n1, fun c hc => (o1 c fun hh => by have := w3 c hh; omega).1⟩
theorem f_toRecordS {all : List RecD} (hl : all.length ≤ lim) (hr : ∀ r ∈ all, r.rs.length ≤ lim ∧ ∀ x ∈ r.rs, x.l.length ≤ lim) (n : Nat) : ∃ v h', call Ev Fn.laws_toRecordS [lv (recs all)] (D n) = some (v, h') ∧ n ≤ h'.n ∧ OwnCs v all n h'.n h' := by
  have hl' := hl
  unfold lim at hl'
  rw [eq_laws_toRecordS, recs_len, mkSl_of (z := 4) (zero := [.int .i64 0, .int .i64 0, .int .i64 0, .sl none 0]) hl (by omega) rfl, ob]
  generalize hG : (D n).new 4 ((List.replicate all.length [.int .i64 0, .int .i64 0, .int .i64 0, .sl none 0]).flatten) = G
  have gn : G.n = n + 1 := by rw [← hG]; simp
  have gg : G.g n = .rw 4 ((List.replicate all.length [.int .i64 0, .int .i64 0, .int .i64 0, .sl none 0]).flatten) := by rw [← hG]; exact new_g (D n) _ _
  obtain ⟨h', ys, bs, e1, n1, g1, r1, d1, f1, _⟩ := fill_rep (z := 4) (b := n) (d := 4) (n0 := n + 1) (cs := RecD.cs) (all := all) (L := fun i h => Lp.laws_toRecordS 0 [lv (recs all), sv n 0 all.length, iv .i64 i] h) (fin := [sv n 0 all.length]) (by omega) (fun _ => rfl)
    (fun i a h X ha hb hn hg hX hXb => by
      have hi : i < all.length := (List.getElem?_eq_some_iff.1 ha).1
      show ∃ h' row bs, Lp.laws_toRecordS 0 _ h = _ ∧ _
      rw [eq_laws_toRecordS_l0, vcase_b, if_pos (by simp; omega), idxF_rec ha, rowN_rec]
      simp only [ob, gx0, gx1, gI_i, gF_f, ln0, ln1, Nat.zero_add, Nat.reduceAdd, if_true]
      have hra := hr a (List.mem_of_getElem? ha)
      obtain ⟨y, h1, e1, w1, t1⟩ := f_toRecord a hra.1 hra.2 h.n
      obtain ⟨h2, e2, u2, n2, w2⟩ := pC (h := h) (off := true) rfl e1 w1
      rw [e2]
      simp only [ob, gVA_a, gx0, gx1, gI_i, ln0, ln1, Nat.zero_add, Nat.reduceAdd, if_true]
      obtain ⟨bs2, r2, d2, f2⟩ := w2.now
      have hg2 := (u2.g n hb).trans hg
      rw [idxK_sv hi, stK_rw (z := 4) (e := 4) (o := i * 4) (b := n) (cs := X) (r := [.int .i64 a.kind, .int .i64 a.tx, .int .i64 a.page, y]) (by omega) hg2 (.inr rfl) rfl (by omega), w64 (by omega) (by omega), show (i : Int) + 1 = ((i + 1 : Nat) : Int) from by omega]
      have ht : ∀ l, tidy h l (h2.put n (.rw 4 (setAt X (i * 4) [.int .i64 a.kind, .int .i64 a.tx, .int .i64 a.page, y]))) = h2.put n (.rw 4 (setAt X (i * 4) [.int .i64 a.kind, .int .i64 a.tx, .int .i64 a.page, y])) := fun l => no_tidy (b := n) hb (put_g _ _ _) (by
        rw [Bool.eq_false_iff]
        intro hh
        have := List.all_eq_true.1 hh y (by unfold setAt; simp)
        rw [t1] at this; cases this) (by rw [hg]; exact hXb)
      rw [ht]
      refine ⟨_, [.int .i64 a.kind, .int .i64 a.tx, .int .i64 a.page, y], bs2, rfl, by rw [put_n]; omega, put_g _ _ _, r2.frame fun c hc => ?_, d2, fun c hc => (f2 c hc).1, fun c hc hcb => ?_⟩
      · have := f2 c hc
        exact ⟨by rw [put_n]; exact r2.lt c hc, put_g' (by omega)⟩
      · rw [put_g' hcb]; exact u2.g c hc)
    (fun h => by
      show Lp.laws_toRecordS 0 _ h = _
      rw [eq_laws_toRecordS_l0, vcase_b, if_neg (by simp), tidy_self])
    all.length 0 G [] ((List.replicate all.length [.int .i64 0, .int .i64 0, .int .i64 0, .sl none 0]).flatten) [] (by omega) (by omega) (by omega) (by omega) (by simpa using gg) (repl_len rfl) (by
      rw [List.all_eq_true]
      intro s hs
      obtain ⟨r, hr, hs⟩ := List.mem_flatten.1 hs
      rw [List.eq_of_mem_replicate hr] at hs
      simp only [List.mem_cons, List.not_mem_nil, or_false] at hs
      rcases hs with rfl | rfl | rfl | rfl <;> rfl) (by simpa using RepL.nil) (by simp) (by simp)
  rw [D_n, show iv .i64 0 = iv .i64 ((0 : Nat) : Int) from rfl, e1]
  simp only [ob, lcase_done, gx0]
  refine ⟨_, _, rfl, by omega, _, rfl, n :: bs, ?_, ?_, ?_⟩
  · have := Rep.sl (d := 4) (h := h') (b := n) (z := 4) (rows := recs all) (by omega) (by omega) g1 recs_row r1
    rw [recs_len] at this
    exact this
  · exact List.nodup_cons.2 ⟨fun hh => by have := f1 n hh; omega, d1⟩
  · intro c hc
    rcases List.mem_cons.1 hc with rfl | hc
    · omega
    · have := f1 c hc
      have := r1.lt c hc
      omega
theorem p_toRecordS {all : List RecD} (hl : all.length ≤ lim) (hr : ∀ r ∈ all, r.rs.length ≤ lim ∧ ∀ x ∈ r.rs, x.l.length ≤ lim) : pureV (call Ev) Fn.laws_toRecordS [lv (recs all)] = some (lv (recs all)) := by
  obtain ⟨v, h', e, _, w⟩ := f_toRecordS hl hr 0
  unfold pureV
  rw [e, ob, w.frz]
/-! PackAll -/
def fltA : List RecD → Int
  | [] => 0
  | r :: rs => if recF r ≠ 0 then recF r else fltA rs
def pkA : List RecD → List UInt8
  | [] => []
  | r :: rs => pk r ++ pkA rs
def paC (rs : List RecD) : Int := if fltA rs ≠ 0 then fltA rs else if (pkA rs).length > 16000 then 2 else 0
def paL (rs : List RecD) : List UInt8 := if paC rs = 0 then pkA rs else []
theorem rsz_le : ∀ (rs : List RunD), (∀ r ∈ rs, r.l.length ≤ 64) → rsz rs ≤ rs.length * 65
  | [], _ => Nat.le_refl _
  | r :: rs, h => by
    have := rsz_le rs fun x hx => h x (by simp [hx])
    have := h r (by simp)
    rw [rsz_cons, List.length_cons, Nat.succ_mul]; omega
theorem rec_sm {r : RecD} (h : recF r = 0) : r.sm := by
  obtain ⟨_, _, _, _, _, _, n, hr⟩ := recF_ok h
  have := rsz_le r.rs (fun x hx => by have := hr x hx; unfold inR at this; omega)
  have := Nat.mul_le_mul_right 65 n
  exact ⟨by omega, by omega⟩
theorem fltA_all : ∀ {rs : List RecD}, fltA rs = 0 → ∀ r ∈ rs, recF r = 0
  | [], _ => by simp
  | r :: rs, h => by
    simp only [fltA] at h
    by_cases h1 : recF r = 0
    · rw [if_neg (by simp [h1])] at h
      intro x hx
      rcases List.mem_cons.1 hx with rfl | hx
      · exact h1
      · exact fltA_all h x hx
    · rw [if_pos h1] at h; exact absurd h h1
theorem pkA_len : ∀ {rs : List RecD}, (∀ r ∈ rs, recF r = 0) → (pkA rs).length ≤ rs.length * 5000
  | [], _ => by simp [pkA]
  | r :: rs, h => by
    have ih := pkA_len (rs := rs) fun x hx => h x (by simp [hx])
    obtain ⟨_, _, _, _, _, _, n, hr⟩ := recF_ok (h r (by simp))
    have a := rsz_le r.rs (fun x hx => by have := hr x hx; unfold inR at this; omega)
    have b := Nat.mul_le_mul_right 65 n
    simp only [pkA, List.length_append, List.length_cons, pk_len, Nat.succ_mul]
    omega
theorem paL_len {rs : List RecD} : (paL rs).length ≤ 16000 := by
  unfold paL
  split
  · rename_i h
    unfold paC at h
    split at h
    · rename_i h1; exact absurd h h1
    · split at h
      · omega
      · omega
  · simp
theorem lp_fault {v w : V} {all : List RecD} {h : H} (hl : all.length ≤ 2147483648) (hr : ∀ r ∈ all, r.rs.length ≤ maxLen) (hw : w = pv 0 0) (hn : 0 < h.n) (hg : h.g 0 = .rw 0 [.int .i64 0, .sl none 0]) : ∀ (rs : List RecD) (i : Nat), all.drop i = rs →
    if fltA rs = 0 then Lp.spec_PackAll 0 [lv (recs all), w, v, iv .i64 i] h = some (.done [lv (recs all), w, v] h) else ∃ h', Lp.spec_PackAll 0 [lv (recs all), w, v, iv .i64 i] h = some (.ret (.agg [.int .i64 (fltA rs), .sl none 0]) h') := by
  intro rs
  induction rs with
  | nil =>
    intro i hi
    have := drop_nil hi
    rw [if_pos (by rfl), eq_spec_PackAll_l0, vcase_b, if_neg (by simp; omega), tidy_self]
  | cons r rs ih =>
    intro i hi
    obtain ⟨g1, g2, g3⟩ := drop_cons hi
    have hrr := hr r (List.mem_of_getElem? g1)
    have en : normV 4 (fv r.cs 0) = fv r.cs 0 := rfl
    rw [eq_spec_PackAll_l0, vcase_b, if_pos (show decide ((i : Int) < ((recs all).length : Int)) = true by simp; omega), idxF_rec g1, en, pc (p_l4Fault r hrr) rfl]
    simp only [gV1_s, gI_i, vcase_b, fltA]
    by_cases hf : recF r = 0
    · rw [if_neg (show ¬ recF r ≠ 0 by simp [hf]), if_neg (show ¬ ((recF r != 0) = true) by simp [hf]), w64 (by omega) (by omega), tidy_self, show (i : Int) + 1 = ((i + 1 : Nat) : Int) from by omega]
      exact ih (i + 1) g2
    · rw [if_pos (show recF r ≠ 0 from hf), if_neg hf, if_pos (show (recF r != 0) = true by simpa using hf), hw]
      rw [stK_rw (z := 2) (e := 0) (o := 0) (b := 0) (cs := [.int .i64 0, .sl none 0]) (r := [.int .i64 (recF r), .sl none 0]) hn hg (.inr rfl) rfl (by simp)]
      rw [show setAt [.int .i64 0, .sl none 0] 0 [.int .i64 (recF r), S.sl none 0] = [.int .i64 (recF r), .sl none 0] from rfl]
      simp only [ldT, cond_true]
      rw [loadN_2 (b := 0) (e := 0) (by rw [put_n]; exact hn) (put_g _ _ _), ob]
      exact ⟨_, rfl⟩
theorem lp_packS {w : V} {all : List RecD} (hl : all.length ≤ 2147483648) : ∀ (rs : List RecD) (i : Nat) (h : H) (l : List UInt8) (b N : Nat), all.drop i = rs → (∀ r ∈ rs, recF r = 0) → BysW h (sv b 0 N) l b → 1 ≤ b → l.length + rs.length * 5000 ≤ lim → h.g 0 = .rw 0 [.int .i64 0, .sl none 0] →
    ∃ h' b' N', Lp.spec_PackAll 2 [lv (recs all), w, sv b 0 N, iv .i64 i] h = some (.done [w, sv b' 0 N'] h') ∧ BysW h' (sv b' 0 N') (l ++ pkA rs) b' ∧ 1 ≤ b' ∧ h'.g 0 = .rw 0 [.int .i64 0, .sl none 0] := by
  intro rs
  induction rs with
  | nil =>
    intro i h l b N hi hf hw hb hs hg
    have := drop_nil hi
    rw [eq_spec_PackAll_l2, vcase_b, if_neg (by simp; omega), tidy_self]
    exact ⟨h, b, N, rfl, by simpa [pkA] using hw, hb, hg⟩
  | cons r rs ih =>
    intro i h l b N hi hf hw hb hs hg
    obtain ⟨g1, g2, g3⟩ := drop_cons hi
    have en : normV 4 (fv r.cs 0) = fv r.cs 0 := rfl
    have hf0 := hf r (by simp)
    have hsm := rec_sm hf0
    have hpl : (pk r).length ≤ 5000 := by
      have := pkA_len (rs := [r]) (by simpa using hf0)
      simpa [pkA] using this
    have hp : pureV (call Ev) Fn.spec_l4Pack [fv r.cs 0] = some (lv (bys (pk r))) := by
      obtain ⟨y, h1, e1, _, w1⟩ := f_l4Pack hsm 0
      unfold pureV
      rw [e1, ob, w1.frz]
    rw [List.length_cons, Nat.succ_mul] at hs
    rw [eq_spec_PackAll_l2, vcase_b, if_pos (by simp; omega), idxF_rec g1, en, hp]
    simp only [ob, gV1_s, gF_f]
    rw [app_by hw (by omega), ob]
    have hbn := hw.n
    have w3 := app_own (h := h) (l := l) (m := pk r) (b := b)
    have k2 : ((h.put b .dead).new 1 ((l ++ pk r).map cell8)).g 0 = .rw 0 [.int .i64 0, .sl none 0] := by rw [new_g' (by simp; omega), put_g' (by omega)]; exact hg
    dsimp only
    rw [no_tidy_v (by simp [belV, belS]), w64 (by omega) (by omega), show (i : Int) + 1 = ((i + 1 : Nat) : Int) from by omega]
    obtain ⟨h', b', N', e5, w5, b5, g5⟩ := ih (i + 1) _ (l ++ pk r) h.n (l ++ pk r).length g2 (fun x hx => hf x (by simp [hx])) w3 (by omega) (by rw [List.length_append]; omega) k2
    exact ⟨h', b', N', e5, by simpa [pkA] using w5, b5, g5⟩
theorem p_spec_PackAll {all : List RecD} (hl : all.length ≤ 1048576) (hr : ∀ r ∈ all, r.rs.length ≤ maxLen) : pureV (call Ev) Fn.spec_PackAll [lv (recs all)] = some (.agg [.int .i64 (paC all), .fs (bys (paL all))]) := by
  rw [pu_spec_PackAll]
  generalize hG : ((D 0).new 0 [.int .i64 0, .sl none 0]).new 1 [] = G
  have gn : G.n = 2 := by rw [← hG]; simp
  have g0 : G.g 0 = .rw 0 [.int .i64 0, .sl none 0] := by rw [← hG, new_g' (by simp)]; exact new_g (D 0) _ _
  have w0 : BysW G (sv 1 0 0) [] 1 := ⟨rfl, by omega, by rw [← hG]; exact new_g ((D 0).new 0 [.int .i64 0, .sl none 0]) _ _⟩
  have F := lp_fault (v := sv 1 0 0) (w := pv 0 0) (all := all) (h := G) (by omega) hr rfl (by omega) g0 all 0 (by simp)
  by_cases hf : fltA all = 0
  case neg =>
    rw [if_neg hf] at F
    obtain ⟨h', e⟩ := F
    have hc : paC all = fltA all := by unfold paC; rw [if_pos hf]
    rw [show iv .i64 0 = iv .i64 ((0 : Nat) : Int) from rfl, e, ob, lcase_ret, hc]
    unfold paL
    rw [hc, if_neg hf]
    simp [bys]
  rw [if_pos hf] at F
  have hall := fltA_all hf
  rw [show iv .i64 0 = iv .i64 ((0 : Nat) : Int) from rfl, F, ob, lcase_done]
  simp only [gx0, gx1, ob, gV1_s, gF_f]
  obtain ⟨h', b', N', e5, w5, b5, g5⟩ := lp_packS (w := pv 0 0) (all := all) (by omega) all 0 G [] 1 0 (by simp) hall w0 (by omega) (by simp only [List.length_nil]; unfold lim; omega) g0
  rw [e5, ob, lcase_done]
  rw [List.nil_append] at w5
  have hN := w5.len
  subst hN
  have hbn := w5.n
  simp only [gx0, gx1, ob, lenV, gV1_s, gI_i, vcase_b]
  unfold paL
  by_cases h16 : (pkA all).length > 16000
  · have hc : paC all = 2 := by unfold paC; rw [if_neg (by simp [hf]), if_pos h16]
    rw [if_pos (by simp; omega), stK_rw (z := 2) (e := 0) (o := 0) (b := 0) (cs := [.int .i64 0, .sl none 0]) (r := [.int .i64 2, .sl none 0]) (by omega) g5 (.inr rfl) rfl (by simp)]
    rw [show setAt [.int .i64 0, .sl none 0] 0 [.int .i64 2, S.sl none 0] = [.int .i64 2, .sl none 0] from rfl]
    simp only [ldT, cond_true]
    rw [loadN_2 (b := 0) (e := 0) (by rw [put_n]; omega) (put_g _ _ _), ob, hc]
    simp [bys]
  · have hc : paC all = 0 := by unfold paC; rw [if_neg (by simp [hf]), if_neg h16]
    rw [if_neg (by simp; omega), cells2 rfl, stK_rw (z := 2) (e := 0) (o := 0) (b := 0) (cs := [.int .i64 0, .sl none 0]) (r := [.int .i64 0, .sl (some (b', 0)) (pkA all).length]) (by omega) g5 (.inr rfl) rfl (by simp)]
    rw [show setAt [.int .i64 0, .sl none 0] 0 [.int .i64 0, S.sl (some (b', 0)) (pkA all).length] = [.int .i64 0, .sl (some (b', 0)) (pkA all).length] from rfl]
    simp only [ldT, cond_true]
    rw [loadN_2 (b := 0) (e := 0) (by rw [put_n]; omega) (put_g _ _ _), ob, hc, if_pos rfl]
    have w6 : BysW (h'.put 0 (.rw 0 [.int .i64 0, .sl (some (b', 0)) (pkA all).length])) (sv b' 0 (pkA all).length) (pkA all) b' := ⟨rfl, by rw [put_n]; omega, by rw [put_g' (by omega)]; exact w5.g⟩
    have := (w6.frz (d := 7)).2
    simp [this]
/-- what the program appends: no more once there is too much -/
def capA : List RecD → List UInt8 → List UInt8
  | [], l => l
  | r :: rs, l => capA rs (if l.length ≤ 16000 then l ++ pk r else l)
theorem capA_all : ∀ (rs : List RecD) (l : List UInt8), ((l ++ pkA rs).length ≤ 16000 → capA rs l = l ++ pkA rs) ∧ (16000 < (l ++ pkA rs).length → 16000 < (capA rs l).length)
  | [], l => by simp [capA, pkA]
  | r :: rs, l => by
    simp only [capA, pkA]
    by_cases h : l.length ≤ 16000
    · rw [if_pos h]
      have := capA_all rs (l ++ pk r)
      rw [List.append_assoc] at this
      exact this
    · rw [if_neg h]
      have := capA_all rs l
      refine ⟨fun hh => ?_, fun _ => ?_⟩
      · simp only [List.length_append] at hh; omega
      · refine this.2 ?_
        rw [List.length_append]; omega
theorem up_tidy {h h' : H} {l : List V} (u : Up h h') : Up h (tidy h l h') := by
  unfold tidy
  split
  · exact ⟨Nat.le_refl _, fun b hb => by simp only [if_pos hb]; exact u.g b hb⟩
  · exact u
theorem Own.lenV {h : H} {y : S} {l : List UInt8} {ob : Option Nat} (w : Own h (.s y) l ob) : Vm.lenV (.sl 5) (.s y) = some (iv .i64 (l.length : Int)) := by
  cases ob with
  | none => obtain ⟨h1, rfl⟩ := w; cases h1; rfl
  | some b => have := w.v; rw [this]; rfl
theorem lp_PackAll {n : Nat} {all : List RecD} (hl : all.length ≤ 2147483648) (hr : ∀ r ∈ all, r.rs.length ≤ maxLen) : ∀ (rs : List RecD) (i : Nat) (h : H) (y : S) (l : List UInt8) (o : Option Nat), all.drop i = rs → Own h (.s y) l o → (∀ b, o = some b → n + 1 ≤ b) → l.length ≤ 21000 → n < h.n → h.g n = .rw 0 [.int .i64 0, .sl none 0] →
    if fltA rs = 0 then ∃ h' y' o', Lp.impl_PackAll 0 [pv n 0, .s y, lv (recs all), iv .i64 all.length, iv .i64 i] h = some (.done [pv n 0, .s y'] h') ∧ Own h' (.s y') (capA rs l) o' ∧ (∀ b, o' = some b → n + 1 ≤ b) ∧ n < h'.n ∧ h'.g n = .rw 0 [.int .i64 0, .sl none 0]
    else ∃ h', Lp.impl_PackAll 0 [pv n 0, .s y, lv (recs all), iv .i64 all.length, iv .i64 i] h = some (.ret (.agg [.int .i64 (fltA rs), .sl none 0]) h') ∧ n ≤ h'.n := by
  intro rs
  induction rs with
  | nil =>
    intro i h y l o hi w hb hs hn hg
    have := drop_nil hi
    rw [if_pos (by rfl), eq_impl_PackAll_l0, vcase_b, if_neg (by simp; omega), tidy_self]
    exact ⟨h, y, o, rfl, w, hb, hn, hg⟩
  | cons r rs ih =>
    intro i h y l o hi w hb hs hn hg
    obtain ⟨g1, g2, g3⟩ := drop_cons hi
    have hrr := hr r (List.mem_of_getElem? g1)
    rw [eq_impl_PackAll_l0, vcase_b, if_pos (show decide ((i : Int) < (all.length : Int)) = true by simp; omega), idxF_rec g1, rowN_rec]
    simp only [ob, gx0, gx1, gI_i, gF_f]
    rw [if_pos (show ([_, _, _, _] : List S).length = 4 from rfl), st4_new]
    have u1 : Up h ((h.new 0 [.int .i64 0, .int .i64 0, .int .i64 0, .sl none 0]).put h.n (.rw 0 r.cs)) := up_st
    have gn : ((h.new 0 [.int .i64 0, .int .i64 0, .int .i64 0, .sl none 0]).put h.n (.rw 0 r.cs)).n = h.n + 1 := n_st
    have gg : ((h.new 0 [.int .i64 0, .int .i64 0, .int .i64 0, .sl none 0]).put h.n (.rw 0 r.cs)).g h.n = .rw 0 r.cs := g_st
    generalize (h.new 0 [.int .i64 0, .int .i64 0, .int .i64 0, .sl none 0]).put h.n (.rw 0 r.cs) = G at u1 gn gg ⊢
    have l4 := loadN_4 (by omega) gg
    rw [l4]
    simp only [gx0, gx1, ob, gI_i]
    rw [if_pos (show ([_, _, _, _] : List S).length = 4 from rfl), frzVs_cons frzV_ag4 frzVs_nil, ob, norm_nil, pc (p_RecordFault r hrr) rfl]
    simp only [gV1_s, gI_i, vcase_b, fltA]
    have gG := (u1.g n hn).trans hg
    by_cases hf : recF r = 0
    case neg =>
      rw [if_pos (show recF r ≠ 0 from hf), if_neg hf, if_pos (show (recF r != 0) = true by simpa using hf)]
      rw [stK_rw (z := 2) (e := 0) (o := 0) (b := n) (cs := [.int .i64 0, .sl none 0]) (r := [.int .i64 (recF r), .sl none 0]) (by omega) gG (.inr rfl) rfl (by simp)]
      rw [show setAt [.int .i64 0, .sl none 0] 0 [.int .i64 (recF r), S.sl none 0] = [.int .i64 (recF r), .sl none 0] from rfl]
      simp only [ldT, cond_true]
      rw [loadN_2 (b := n) (e := 0) (by rw [put_n]; omega) (put_g _ _ _), ob]
      exact ⟨_, rfl, by rw [put_n]; omega⟩
    rw [if_neg (show ¬ recF r ≠ 0 by simp [hf]), if_neg (show ¬ ((recF r != 0) = true) by simp [hf]), w.lenV]
    simp only [ob, gV1_s, gI_i, vcase_b, capA]
    by_cases h16 : l.length ≤ 16000
    case neg =>
      rw [if_neg h16, if_neg (show ¬ (decide ((l.length : Int) ≤ 16000) = true) by simp; omega), w64 (by omega) (by omega), show (i : Int) + 1 = ((i + 1 : Nat) : Int) from by omega]
      have ut := up_tidy (l := [pv n 0, .s y, lv (recs all), iv .i64 all.length, iv .i64 ((i + 1 : Nat) : Int)]) u1
      exact ih (i + 1) _ y l o g2 (w.up ut) hb hs (by have := ut.n; omega) ((ut.g n hn).trans hg)
    have hsm := rec_sm hf
    have hpl : (pk r).length ≤ 5000 := by
      have := pkA_len (rs := [r]) (by simpa using hf)
      simpa [pkA] using this
    have hpl2 := pk_len r
    rw [if_pos h16, if_pos (show decide ((l.length : Int) ≤ 16000) = true by simp; omega), if_pos (show ([_, _, _, _] : List S).length = 4 from rfl), norm_nil]
    obtain ⟨y2, k1, e1, n1, w1, _⟩ := f_packed hsm G.n
    obtain ⟨K, e2, u2, hK, w2⟩ := pV (off := [V.agg [.int .i64 r.kind, .int .i64 r.tx, .int .i64 r.page, .fs (runs r.rs)]].all offV) rfl e1 n1 w1
    rw [e2]
    obtain ⟨bs, w3, _, w4⟩ := w2.now
    obtain ⟨b2, w5⟩ : ∃ b, BysW K (.s y2) (pk r) b := by
      rcases Rep.of_bys (d := 3) w3 with ⟨h0, _⟩ | ⟨b, h0, _⟩
      · rw [h0] at hpl2; simp at hpl2; omega
      · exact ⟨b, h0⟩
    have wK := (w.up u1).up u2
    have hcy := cellsS_w w5
    have hly : lenS (.s y2) = some (pk r).length := by rw [w5.v]; rfl
    have hKn := u2.n
    have kg := (u2.g n (by omega)).trans gG
    obtain ⟨L, e6, w6, n6, g6⟩ : ∃ L, appS 1 K (.s y) (.s y2) = some (sv K.n 0 (l ++ pk r).length, L) ∧ BysW L (sv K.n 0 (l ++ pk r).length) (l ++ pk r) K.n ∧ L.n = K.n + 1 ∧ L.g n = .rw 0 [.int .i64 0, .sl none 0] := by
      cases o with
      | none =>
        obtain ⟨hy, rfl⟩ := wK
        cases hy
        refine ⟨K.new 1 ((pk r).map cell8), ?_, ?_, by simp, by rw [new_g' (by omega)]; exact kg⟩
        · simp only [appS, hcy, hly, Option.bind_some]
          rw [if_pos ⟨trivial, by unfold lim; omega, by omega⟩, if_neg (by omega), List.nil_append]
        · rw [List.nil_append]; exact BysW.newly K (pk r)
      | some b =>
        have hbb := hb b rfl
        refine ⟨(K.put b .dead).new 1 ((l ++ pk r).map cell8), app_w wK hcy hly (by unfold lim; omega), app_own, by simp, by rw [new_g' (by simp; omega), put_g' (by omega)]; exact kg⟩
    rw [e6, ob]
    dsimp only
    rw [no_tidy_v (by simp [belV, belS]; omega), w64 (by omega) (by omega), show (i : Int) + 1 = ((i + 1 : Nat) : Int) from by omega]
    exact ih (i + 1) L _ (l ++ pk r) (some K.n) g2 w6 (fun b hb => by cases hb; omega) (by rw [List.length_append]; omega) (by omega) g6
theorem f_PackAll {all : List RecD} (hl : all.length ≤ 1048576) (hr : ∀ r ∈ all, r.rs.length ≤ maxLen) (n : Nat) : ∃ y h', call Ev Fn.impl_PackAll [lv (recs all)] (D n) = some (.agg [.int .i64 (paC all), y], h') ∧ NewC 4 [.int .i64 (paC all), y] [.int .i64 (paC all), .fs (bys (paL all))] n h' := by
  rw [eq_impl_PackAll, recs_len, D_n]
  have F := lp_PackAll (n := n) (all := all) (by omega) hr all 0 ((D n).new 0 [.int .i64 0, .sl none 0]) (.sl none 0) [] none (by simp) ⟨rfl, rfl⟩ (by simp) (by simp) (by simp) (new_g (D n) _ _)
  by_cases hf : fltA all = 0
  case neg =>
    rw [if_neg hf] at F
    obtain ⟨h', e, hn⟩ := F
    have hc : paC all = fltA all := by unfold paC; rw [if_pos hf]
    rw [show iv .i64 0 = iv .i64 ((0 : Nat) : Int) from rfl, e, ob, lcase_ret, hc]
    unfold paL
    rw [hc, if_neg hf]
    exact ⟨_, h', rfl, hn, OwnF.c (pre := [.int .i64 (fltA all)]) sc1 ⟨[], Rep.nil, by simp, by simp⟩⟩
  rw [if_pos hf] at F
  obtain ⟨h', y', o', e, w, hb, hn, hg⟩ := F
  have hcap := capA_all all []
  rw [List.nil_append] at hcap
  rw [show iv .i64 0 = iv .i64 ((0 : Nat) : Int) from rfl, e, ob, lcase_done]
  simp only [gx0, gx1, ob]
  rw [w.lenV]
  simp only [ob, gV1_s, gI_i, vcase_b]
  unfold paL
  by_cases h16 : (pkA all).length > 16000
  · have hc : paC all = 2 := by unfold paC; rw [if_neg (by simp [hf]), if_pos h16]
    have := hcap.2 h16
    rw [if_pos (by simp; omega), stK_rw (z := 2) (e := 0) (o := 0) (b := n) (cs := [.int .i64 0, .sl none 0]) (r := [.int .i64 2, .sl none 0]) hn hg (.inr rfl) rfl (by simp)]
    rw [show setAt [.int .i64 0, .sl none 0] 0 [.int .i64 2, S.sl none 0] = [.int .i64 2, .sl none 0] from rfl]
    simp only [ldT, cond_true]
    rw [loadN_2 (b := n) (e := 0) (by rw [put_n]; omega) (put_g _ _ _), ob, hc, if_neg (by omega)]
    exact ⟨_, _, rfl, by rw [put_n]; omega, OwnF.c (pre := [.int .i64 2]) sc1 ⟨[], Rep.nil, by simp, by simp⟩⟩
  · have hc : paC all = 0 := by unfold paC; rw [if_neg (by simp [hf]), if_neg h16]
    have hcp := hcap.1 (by omega)
    rw [hcp] at w
    have hy : isNo y' = false := (w.rep (d := 0)).isNo
    rw [hcp, if_neg (by simp; omega), cells2 hy]
    simp only [ldT, cond_true]
    obtain ⟨h2, e2, w2⟩ := fin2S (n := n) (K := h') (c := 0) hn hg (y := y') (f := .fs (bys (pkA all))) (d := 1) ⟨o'.toList, w.rep, by cases o' <;> simp, fun b hbb => ⟨hb b (by simpa using hbb), (w.rep (d := 0)).lt b hbb⟩⟩
    rw [e2, hc, if_pos rfl]
    exact ⟨y', h2, rfl, w2.lift (by omega)⟩
end Vm
/-
  Cells that lie in a new block.
-/
namespace Vm
open Go
theorem setAt_full {cs r : List S} (h : cs.length ≤ r.length) : setAt cs 0 r = r := by simp [setAt, List.drop_of_length_le h]
/-! cells that lie in a new block -/
def putX (h : H) (zs cs : List S) : H := (h.new 0 zs).put h.n (.rw 0 cs)
theorem putX_keep (h : H) (zs cs : List S) : HKeep h (putX h zs cs) := ((HKeep.refl h).new).put (Nat.le_refl _)
theorem putX_n (h : H) (zs cs : List S) : (putX h zs cs).n = h.n + 1 := rfl
theorem putX_g (h : H) (zs cs : List S) : (putX h zs cs).g h.n = .rw 0 cs := put_g _ _ _
theorem putX_cells (h : H) (zs cs : List S) : (putX h zs cs).cells h.n = cs := by
  unfold H.cells; rw [if_pos (by rw [putX_n]; omega), putX_g]; rfl
theorem putX_tidy {h : H} {zs cs : List S} {l : List V} (hl : l.all (belV h.n) = true) : tidy h l (putX h zs cs) = h := tidy_ext (putX_keep h zs cs) hl
section
variable {R : Type}
theorem stK_X {z : Nat} {h : H} {zs cs : List S} {k : H → Option R} (hz : zs.length = z) (hc : cs.length = z) : stK z (h.new 0 zs) (pv h.n 0) (.agg cs) k = k (putX h zs cs) := by
  rw [stK_rw (z := z) (o := 0) (b := h.n) (r := cs) (e := 0) (cs := zs) (by simp) (new_g h _ _) (.inr rfl) hc (by omega), setAt_full (by omega)]
  rfl
end
theorem loadN_X {h : H} {zs cs : List S} {n o : Nat} {r : List S} (hn : o + n ≤ cs.length) (hr : (cs.drop o).take n = r) : loadN n (putX h zs cs) (pv h.n o) = some r := by
  have := putX_cells h zs cs
  have h2 : h.n < (putX h zs cs).n := by rw [putX_n]; omega
  simp only [loadN]
  rw [if_pos ⟨h2, by rw [this]; exact hn⟩, this, hr]
theorem load1_X {h : H} {zs cs : List S} {o : Nat} {x : S} (hx : cs[o]? = some x) : load1 (putX h zs cs) (pv h.n o) = some x := by
  simp only [load1]; rw [putX_cells, hx]
theorem loadN_XX {h : H} {zs zs' cs cs' r : List S} {n : Nat} (hn : n ≤ cs.length) (hr : cs.take n = r) : loadN n (putX (putX h zs cs) zs' cs') (pv h.n 0) = some r := by
  have h1 : h.n < (putX h zs cs).n := by rw [putX_n]; omega
  have h2 : h.n < (putX (putX h zs cs) zs' cs').n := by rw [putX_n]; omega
  have hc : (putX (putX h zs cs) zs' cs').cells h.n = cs := by
    unfold H.cells; rw [if_pos h2, ((putX_keep _ _ _).2 h.n h1).1, putX_g]; rfl
  simp only [loadN]
  rw [if_pos ⟨h2, by rw [hc]; omega⟩, hc, List.drop_zero, hr]
end Vm
/-
  Are records the same?
-/
namespace Vm
open Go
def all2 {α : Type} (p : α → α → Bool) : List α → List α → Bool
  | [], [] => true
  | a :: l, b :: m => p a b && all2 p l m
  | _, _ => false
theorem all2_len {α : Type} {p : α → α → Bool} : ∀ {l m : List α}, l.length ≠ m.length → all2 p l m = false
  | [], [], h => absurd rfl h
  | [], _ :: _, _ => rfl
  | _ :: _, [], _ => rfl
  | a :: l, b :: m, h => by rw [all2, all2_len (fun hh => h (by simp [hh]))]; simp
def outB (b : Bool) (h : H) : LOut := if b = true then .done [] h else .ret (bv false) h
def sameRn (a b : RunD) : Bool := decide (a.at_ = b.at_) && decide (a.l = b.l)
def sameC (a b : RecD) : Bool := decide (a.kind = b.kind) && (decide (a.tx = b.tx) && (decide (a.page = b.page) && all2 sameRn a.rs b.rs))
abbrev fsz (r : RecD) : Prop := r.rs.length ≤ lim ∧ ∀ x ∈ r.rs, x.l.length ≤ lim
theorem p_sameRuns_1 {a b : RunD} (hl : a.l.length ≤ lim) : pureV (call Ev) Fn.impl_sameRuns_1 [.agg a.cs, .agg b.cs] = some (bv (sameRn a b)) := by
  unfold lim at hl
  rw [pu_impl_sameRuns_1, vcase_b, pc (p_Equal (by omega)) rfl]
  simp only [gV1_s, gB_b]
  unfold sameRn
  by_cases h : a.at_ = b.at_ <;> simp [h]
theorem p_EqRuns {all more : List RunD} (hl : all.length ≤ lim) (hr : ∀ x ∈ all, x.l.length ≤ lim) : pureV (call Ev) Fn.slices_EqualFunc_impl_Run_impl_Run_impl_Run_impl_Run [lv (runs all), lv (runs more), .s (.fn Fn.impl_sameRuns_1 [])] = some (bv (all2 sameRn all more)) := by
  unfold lim at hl
  rw [pu_slices_EqualFunc_impl_Run_impl_Run_impl_Run_impl_Run, vcase_b, runs_len, runs_len]
  by_cases hq : all.length = more.length
  case neg => rw [if_pos (by simp; omega), all2_len hq]
  rw [if_neg (by simp [hq])]
  have loop : ∀ (l m : List RunD) (i : Nat), all.drop i = l → more.drop i = m → ∃ h', Lp.slices_EqualFunc_impl_Run_impl_Run_impl_Run_impl_Run 0 [lv (runs more), .s (.fn Fn.impl_sameRuns_1 []), lv (runs all), iv .i64 (all.length : Int), iv .i64 i] (D 0) = some (outB (all2 sameRn l m) h') := by
    intro l
    induction l with
    | nil =>
      intro m i hi hm
      have h1 := drop_nil hi
      have : m = [] := by rw [← hm]; exact List.drop_of_length_le (by omega)
      subst this
      rw [eq_slices_EqualFunc_impl_Run_impl_Run_impl_Run_impl_Run_l0, vcase_b, if_neg (by simp; omega)]
      exact ⟨_, rfl⟩
    | cons a l ih =>
      intro m i hi hm
      obtain ⟨g1, g2, g3⟩ := drop_cons hi
      obtain ⟨b, m', rfl⟩ : ∃ b m', m = b :: m' := by
        cases m with
        | nil => have := drop_nil hm; omega
        | cons b m' => exact ⟨b, m', rfl⟩
      obtain ⟨k1, k2, k3⟩ := drop_cons hm
      obtain ⟨h', ih'⟩ := ih m' (i + 1) g2 k2
      rw [eq_slices_EqualFunc_impl_Run_impl_Run_impl_Run_impl_Run_l0, vcase_b, if_pos (by simp; omega), idxF_run g1, rowN_run]
      simp only [ob, gx0, gx1, gI_i, gF_f, ln0, ln1, Nat.zero_add, Nat.reduceAdd, if_true]
      rw [stK_X (z := 2) (cs := a.cs) rfl rfl, idxF_run k1, rowN_run]
      simp only [ob, gx0, gx1, gI_i, gF_f, ln0, ln1, Nat.zero_add, Nat.reduceAdd, if_true]
      rw [stK_X (z := 2) (cs := b.cs) rfl rfl]
      generalize hA : putX (D 0) [.int .i64 0, .sl none 0] a.cs = A
      have la : loadN 2 (putX A [.int .i64 0, .sl none 0] b.cs) (pv (D 0).n 0) = some a.cs := by rw [← hA]; exact loadN_XX (by simp) rfl
      rw [la, loadN_X (o := 0) (r := b.cs) (by simp) rfl]
      simp only [ob, gx0, gx1, gI_i, ln0, ln1, Nat.zero_add, Nat.reduceAdd, if_true]
      rw [frzVs_cons frzV_agf (frzVs_cons frzV_agf frzVs_nil), ob, norm_nil, pc (p_sameRuns_1 (hr a (List.mem_of_getElem? g1))) rfl]
      simp only [gV1_s, gB_b, vcase_b, all2]
      cases hs : sameRn a b
      · rw [if_pos (by simp)]; exact ⟨_, rfl⟩
      · have tt : ∀ l, l.all (belV (D 0).n) = true → tidy (D 0) l (putX A [.int .i64 0, .sl none 0] b.cs) = D 0 := fun l hl => tidy_ext (by rw [← hA]; exact (putX_keep _ _ _).trans (putX_keep _ _ _)) hl
        rw [if_neg (by simp), tt _ rfl, w64 (by omega) (by omega), show (i : Int) + 1 = ((i + 1 : Nat) : Int) from by omega, ih']
        exact ⟨h', by simp⟩
  obtain ⟨h', e⟩ := loop all more 0 rfl rfl
  rw [show iv .i64 0 = iv .i64 ((0 : Nat) : Int) from rfl, e, ob]
  cases all2 sameRn all more
  · rfl
  · rfl
theorem p_sameRuns {all more : List RunD} (hl : all.length ≤ lim) (hr : ∀ x ∈ all, x.l.length ≤ lim) : pureV (call Ev) Fn.impl_sameRuns [lv (runs all), lv (runs more)] = some (bv (all2 sameRn all more)) := by
  rw [pu_impl_sameRuns, pc (p_EqRuns hl hr) rfl]; rfl
theorem p_SameRecords_1 {a b : RecD} (ha : fsz a) : pureV (call Ev) Fn.impl_SameRecords_1 [.agg a.cs, .agg b.cs] = some (bv (sameC a b)) := by
  rw [pu_impl_SameRecords_1, pc (p_sameRuns ha.1 ha.2) rfl]
  simp only [gV1_s, gB_b, vcase_b, beq_iff_eq]
  unfold sameC
  by_cases h1 : a.kind = b.kind <;> by_cases h2 : a.tx = b.tx <;> by_cases h3 : a.page = b.page <;> simp [h1, h2, h3]
theorem p_SameRecords {all more : List RecD} (hl : all.length ≤ lim) (hr : ∀ r ∈ all, fsz r) : pureV (call Ev) Fn.impl_SameRecords [lv (recs all), lv (recs more)] = some (bv (all2 sameC all more)) := by
  unfold lim at hl
  have e : pureV (call Ev) Fn.slices_EqualFunc_impl_Record_impl_Record_impl_Record_impl_Record [lv (recs all), lv (recs more), .s (.fn Fn.impl_SameRecords_1 [])] = some (bv (all2 sameC all more)) := by
    rw [pu_slices_EqualFunc_impl_Record_impl_Record_impl_Record_impl_Record, vcase_b, recs_len, recs_len]
    by_cases hq : all.length = more.length
    case neg => rw [if_pos (by simp; omega), all2_len hq]
    rw [if_neg (by simp [hq])]
    have loop : ∀ (l m : List RecD) (i : Nat), all.drop i = l → more.drop i = m → ∃ h', Lp.slices_EqualFunc_impl_Record_impl_Record_impl_Record_impl_Record 0 [lv (recs more), .s (.fn Fn.impl_SameRecords_1 []), lv (recs all), iv .i64 (all.length : Int), iv .i64 i] (D 0) = some (outB (all2 sameC l m) h') := by
      intro l
      induction l with
      | nil =>
        intro m i hi hm
        have h1 := drop_nil hi
        have : m = [] := by rw [← hm]; exact List.drop_of_length_le (by omega)
        subst this
        rw [eq_slices_EqualFunc_impl_Record_impl_Record_impl_Record_impl_Record_l0, vcase_b, if_neg (by simp; omega)]
        exact ⟨_, rfl⟩
      | cons a l ih =>
        intro m i hi hm
        obtain ⟨g1, g2, g3⟩ := drop_cons hi
        obtain ⟨b, m', rfl⟩ : ∃ b m', m = b :: m' := by
          cases m with
          | nil => have := drop_nil hm; omega
          | cons b m' => exact ⟨b, m', rfl⟩
        obtain ⟨k1, k2, k3⟩ := drop_cons hm
        obtain ⟨h', ih'⟩ := ih m' (i + 1) g2 k2
        rw [eq_slices_EqualFunc_impl_Record_impl_Record_impl_Record_impl_Record_l0, vcase_b, if_pos (by simp; omega), idxF_rec g1, rowN_rec]
        simp only [ob, gx0, gx1, gI_i, gF_f, ln0, ln1, Nat.zero_add, Nat.reduceAdd, if_true]
        rw [stK_X (z := 4) (cs := a.cs) rfl rfl, idxF_rec k1, rowN_rec]
        simp only [ob, gx0, gx1, gI_i, gF_f, ln0, ln1, Nat.zero_add, Nat.reduceAdd, if_true]
        rw [stK_X (z := 4) (cs := b.cs) rfl rfl]
        generalize hA : putX (D 0) [.int .i64 0, .int .i64 0, .int .i64 0, .sl none 0] a.cs = A
        have la : loadN 4 (putX A [.int .i64 0, .int .i64 0, .int .i64 0, .sl none 0] b.cs) (pv (D 0).n 0) = some a.cs := by rw [← hA]; exact loadN_XX (by simp) rfl
        rw [la, loadN_X (o := 0) (r := b.cs) (by simp) rfl]
        simp only [ob, gx0, gx1, gI_i, ln0, ln1, Nat.zero_add, Nat.reduceAdd, if_true]
        rw [frzVs_cons frzV_ag4 (frzVs_cons frzV_ag4 frzVs_nil), ob, norm_nil, pc (p_SameRecords_1 (hr a (List.mem_of_getElem? g1))) rfl]
        simp only [gV1_s, gB_b, vcase_b, all2]
        cases hs : sameC a b
        · rw [if_pos (by simp)]; exact ⟨_, rfl⟩
        · have tt : ∀ l, l.all (belV (D 0).n) = true → tidy (D 0) l (putX A [.int .i64 0, .int .i64 0, .int .i64 0, .sl none 0] b.cs) = D 0 := fun l hl => tidy_ext (by rw [← hA]; exact (putX_keep _ _ _).trans (putX_keep _ _ _)) hl
          rw [if_neg (by simp), tt _ rfl, w64 (by omega) (by omega), show (i : Int) + 1 = ((i + 1 : Nat) : Int) from by omega, ih']
          exact ⟨h', by simp⟩
    obtain ⟨h', e⟩ := loop all more 0 rfl rfl
    rw [show iv .i64 0 = iv .i64 ((0 : Nat) : Int) from rfl, e, ob]
    cases all2 sameC all more
    · rfl
    · rfl
  rw [pu_impl_SameRecords, pc e rfl]; rfl
/-! the specification's way -/
theorem p_l4Same {a b : RecD} (ha : fsz a) (hb : fsz b) : pureV (call Ev) Fn.spec_l4Same [fv a.cs 0, fv b.cs 0] = some (bv (sameC a b)) := by
  have hla := ha.1
  unfold lim at hla
  rw [pu_spec_l4Same]
  simp only [vcase_b, bne_iff_ne, ne_eq, runs_len]
  unfold sameC
  by_cases h1 : a.kind = b.kind
  case neg => rw [if_pos h1]; simp [h1]
  by_cases h2 : a.tx = b.tx
  case neg => rw [if_neg (by simpa using h1), if_pos h2]; simp [h2]
  by_cases h3 : a.page = b.page
  case neg => rw [if_neg (by simpa using h1), if_neg (by simpa using h2), if_pos h3]; simp [h3]
  rw [if_neg (by simpa using h1), if_neg (by simpa using h2), if_neg (by simpa using h3)]
  simp only [h1, h2, h3, decide_true, Bool.true_and]
  by_cases hq : a.rs.length = b.rs.length
  case neg => rw [if_pos (by omega), all2_len hq]
  rw [if_neg (by simp [hq])]
  have loop : ∀ (l m : List RunD) (i : Nat), a.rs.drop i = l → b.rs.drop i = m → ∃ h', Lp.spec_l4Same 0 [fv a.cs 0, fv b.cs 0, iv .i64 i] (D 0) = some (outB (all2 sameRn l m) h') := by
    intro l
    induction l with
    | nil =>
      intro m i hi hm
      have h1 := drop_nil hi
      have : m = [] := by rw [← hm]; exact List.drop_of_length_le (by omega)
      subst this
      rw [eq_spec_l4Same_l0]
      simp only [Nat.zero_add, gx0, gx1, ob, gF_f, vcase_b]
      rw [if_neg (by simp; omega)]
      exact ⟨_, rfl⟩
    | cons x l ih =>
      intro m i hi hm
      obtain ⟨g1, g2, g3⟩ := drop_cons hi
      obtain ⟨y, m', rfl⟩ : ∃ b m', m = b :: m' := by
        cases m with
        | nil => have := drop_nil hm; omega
        | cons b m' => exact ⟨b, m', rfl⟩
      obtain ⟨k1, k2, k3⟩ := drop_cons hm
      obtain ⟨h', ih'⟩ := ih m' (i + 1) g2 k2
      have hx := ha.2 x (List.mem_of_getElem? g1)
      have hy := hb.2 y (List.mem_of_getElem? k1)
      rw [eq_spec_l4Same_l0]
      simp only [Nat.zero_add, gx0, gx1, ob, gF_f, vcase_b]
      rw [if_pos (by simp; omega)]
      simp only [idxF_run g1, idxF_run k1, gx0, gx1, ob, gI_i, gF_f, bne_iff_ne, ne_eq]
      rw [fsStr_by hx, fsStr_by hy]
      simp only [ob, gV1_s, gS_s, vcase_b, tidy_self, str_eq]
      rw [w64 (by omega) (by omega), show (i : Int) + 1 = ((i + 1 : Nat) : Int) from by omega, ih']
      have hs : sameRn x y = (decide (x.at_ = y.at_) && decide (x.l = y.l)) := rfl
      rw [all2, hs]
      by_cases e1 : x.at_ = y.at_
      · rw [if_neg (by simpa using e1)]
        by_cases e2 : x.l = y.l
        · rw [if_neg (by simp [e2])]; exact ⟨h', by simp [e1, e2]⟩
        · rw [if_pos (by simp [e2])]; exact ⟨D 0, by simp [e2, outB]⟩
      · rw [if_pos e1]; exact ⟨D 0, by simp [e1, outB]⟩
  obtain ⟨h', e⟩ := loop a.rs b.rs 0 rfl rfl
  have e' : Lp.spec_l4Same 0 [fv [.int .i64 b.kind, .int .i64 b.tx, .int .i64 b.page, .fs (runs a.rs)] 0, fv [.int .i64 b.kind, .int .i64 b.tx, .int .i64 b.page, .fs (runs b.rs)] 0, iv .i64 0] (D 0) = some (outB (all2 sameRn a.rs b.rs) h') := by
    rw [← e]; simp only [RecD.cs, h1, h2, h3]; rfl
  rw [e', ob]
  cases all2 sameRn a.rs b.rs
  · rfl
  · rfl
theorem p_spec_SameRecords {all more : List RecD} (hl : all.length ≤ lim) (hr : ∀ r ∈ all, fsz r) (hr' : ∀ r ∈ more, fsz r) : pureV (call Ev) Fn.spec_SameRecords [lv (recs all), lv (recs more)] = some (bv (all2 sameC all more)) := by
  unfold lim at hl
  rw [pu_spec_SameRecords, vcase_b, recs_len, recs_len]
  by_cases hq : all.length = more.length
  case neg => rw [if_pos (by simp; omega), all2_len hq]
  rw [if_neg (by simp [hq])]
  have loop : ∀ (l m : List RecD) (i : Nat), all.drop i = l → more.drop i = m → Lp.spec_SameRecords 0 [lv (recs all), lv (recs more), iv .i64 i] (D 0) = some (outB (all2 sameC l m) (D 0)) := by
    intro l
    induction l with
    | nil =>
      intro m i hi hm
      have h1 := drop_nil hi
      have : m = [] := by rw [← hm]; exact List.drop_of_length_le (by omega)
      subst this
      rw [eq_spec_SameRecords_l0, vcase_b, if_neg (by simp; omega), tidy_self]; rfl
    | cons a l ih =>
      intro m i hi hm
      obtain ⟨g1, g2, g3⟩ := drop_cons hi
      obtain ⟨b, m', rfl⟩ : ∃ b m', m = b :: m' := by
        cases m with
        | nil => have := drop_nil hm; omega
        | cons b m' => exact ⟨b, m', rfl⟩
      obtain ⟨k1, k2, k3⟩ := drop_cons hm
      rw [eq_spec_SameRecords_l0, vcase_b, if_pos (by simp; omega), idxF_rec g1, idxF_rec k1, show normV 4 (fv a.cs 0) = fv a.cs 0 from rfl, show normV 4 (fv b.cs 0) = fv b.cs 0 from rfl, pc (p_l4Same (hr a (List.mem_of_getElem? g1)) (hr' b (List.mem_of_getElem? k1))) rfl]
      simp only [gV1_s, gB_b, hchk_self, vcase_b, all2]
      cases hs : sameC a b
      · rfl
      · rw [if_neg (by simp), tidy_self, w64 (by omega) (by omega), show (i : Int) + 1 = ((i + 1 : Nat) : Int) from by omega, ih m' (i + 1) g2 k2]; simp
  rw [show iv .i64 0 = iv .i64 ((0 : Nat) : Int) from rfl, loop all more 0 rfl rfl, ob]
  cases all2 sameC all more
  · rfl
  · rfl
/-! the second guard -/
def szB (rs : List RecD) (left : Int) : Int := if (rs.length : Int) ≤ left then szG rs (left - rs.length) else -1
theorem p_szRecordSg {all : List RecD} {left : Int} (h1 : 0 ≤ left) (h2 : left < 9223372036854775808) (hl : all.length ≤ maxLen) (hr : ∀ r ∈ all, r.ok) : pureV (call Ev) Fn.laws_szRecordS [lv (recs all), iv .i64 left] = some (iv .i64 (szB all left)) := by
  unfold maxLen at hl
  have loop : ∀ (rs : List RecD) (i : Nat) (q : Int), all.drop i = rs → 0 ≤ q → q < 9223372036854775808 →
      (Lp.laws_szRecordS 0 [lv (recs all), iv .i64 q, iv .i64 i] (D 0)).bind (fun o102 => lcase o102 (fun l103 h104 =>
        (l103[0]?).bind fun w107 =>
        gV1 w107 fun x108 =>
        gI .i64 x108 fun i109 =>
        some (iv .i64 i109)) (fun v105 h106 =>
        frzV h106 v105)) = some (iv .i64 (szG rs q)) := by
    intro rs
    induction rs with
    | nil =>
      intro i q hi h1 h2
      have := drop_nil hi
      rw [eq_laws_szRecordS_l0, vcase_b, if_neg (by simp; omega), tidy_self, ob, lcase_done]
      simp only [gx0, ob, gV1_s, gI_i, szG]
    | cons r rs ih =>
      intro i q hi h1 h2
      obtain ⟨g1, g2, g3⟩ := drop_cons hi
      rw [eq_laws_szRecordS_l0, vcase_b, if_pos (by simp; omega), idxF_rec g1, rowN_rec]
      simp only [ob, gx0, gx1, gI_i, gF_f, ln0, ln1, Nat.zero_add, Nat.reduceAdd, if_true]
      rw [pc (p_szRecord r (hr r (List.mem_of_getElem? g1)) h1 h2) rfl]
      simp only [gV1_s, gI_i, vcase_b, decide_eq_true_eq, szG]
      rw [show (if (r.rs.length : Int) ≤ q then szRuns r.rs (q - r.rs.length) else -1) = sz1 r q from rfl]
      have hb := sz1_le (r := r) h1
      by_cases hle : sz1 r q < 0
      · rw [if_pos hle, if_pos hle]; rfl
      · rw [if_neg hle, if_neg hle, w64 (by omega) (by omega), tidy_self, show (i : Int) + 1 = ((i + 1 : Nat) : Int) from by omega]
        exact ih (i + 1) _ g2 (by omega) (by omega)
  rw [pu_laws_szRecordS, vcase_b, recs_len, w64 (by omega) (by omega)]
  unfold szB
  by_cases hq : (all.length : Int) ≤ left
  · rw [if_neg (by simp; omega), if_pos hq]
    exact loop all 0 _ rfl (by omega) (by omega)
  · rw [if_pos (by simp; omega), if_neg hq]
theorem szG_le : ∀ (rs : List RecD) (left : Int), 0 ≤ left → szG rs left ≤ left
  | [], left, h => Int.le_refl _
  | r :: rs, left, h => by
    have h1 := sz1_le (r := r) h
    simp only [szG]
    split
    · omega
    · have := szG_le rs (sz1 r left) (by omega); omega
theorem szB_ok {rs : List RecD} {left : Int} (h0 : 0 ≤ left) (hb : left ≤ 1048576) (h : ¬ szB rs left < 0) : rs.length ≤ 1048576 ∧ szB rs left ≤ left ∧ ∀ r ∈ rs, fsz r := by
  unfold szB at h ⊢
  split at h
  · rename_i hl
    rw [if_pos hl]
    have := szG_ok rs (left - rs.length) (by omega) (by omega)
    have h3 := szG_le rs (left - rs.length) (by omega)
    refine ⟨by omega, by omega, fun r hr => ?_⟩
    have := this.2 r hr
    refine ⟨by unfold lim; omega, fun x hx => ?_⟩
    have := this.2 x hx
    unfold lim; omega
  · omega
end Vm
/-
  The law of SameRecords returns true.
-/
namespace Vm
open Go
theorem run_FnExactSameRecords (xs : List V) (hx : ArgsRp PR [T.S_laws_Record, T.S_laws_Record] xs) : ∃ h', call Ev Fn.laws_FnExactSameRecords xs (D 0) = some (bv true, h') := by
  match xs, hx with
  | [x0, x1], ⟨h0, h1, _⟩ =>
    obtain ⟨a, rfl, hr0, hl0⟩ := arg_Recs h0
    obtain ⟨b, rfl, hr1, hl1⟩ := arg_Recs h1
    refine law_of ?_
    rw [pu_laws_FnExactSameRecords, pc (p_szRecordSg (by omega) (by omega) hl0 hr0) rfl]
    simp only [gV1_s, gI_i, vcase_b, decide_eq_true_eq]
    by_cases hq : szB a 1048576 < 0
    · rw [if_pos hq]
    obtain ⟨m0, le0, z0⟩ := szB_ok (by omega) (by omega) hq
    rw [if_neg hq, pc (p_szRecordSg (by omega) (by omega) hl1 hr1) rfl]
    simp only [gV1_s, gI_i, vcase_b, decide_eq_true_eq]
    by_cases hq2 : szB b (szB a 1048576) < 0
    · rw [if_pos hq2]
    obtain ⟨m1, le1, z1⟩ := szB_ok (by omega) (by omega) hq2
    have hlim0 : a.length ≤ lim := by unfold lim; omega
    have hlim1 : b.length ≤ lim := by unfold lim; omega
    rw [if_neg hq2, p_toRecordS hlim0 z0]
    simp only [ob, gV1_s, gF_f]
    rw [p_toRecordS hlim1 z1]
    simp only [ob, gV1_s, gF_f]
    rw [pc (p_spec_SameRecords hlim0 z0 z1) rfl]
    simp only [gV1_s, gB_b]
    rw [pc (p_SameRecords hlim0 z0) rfl]
    simp only [gV1_s, gB_b, vcase_b]
    rw [if_neg (by simp), pc (p_eqRcs hl0 fun r hr => ⟨(hr0 r hr).r2, fun x hx => ((hr0 r hr).r1 x hx).n⟩) rfl]
    simp only [gV1_s, gB_b, vcase_b]
    rw [if_neg (by simp), pc (p_eqRcs hl1 fun r hr => ⟨(hr1 r hr).r2, fun x hx => ((hr1 r hr).r1 x hx).n⟩) rfl]
    rfl
end Vm
