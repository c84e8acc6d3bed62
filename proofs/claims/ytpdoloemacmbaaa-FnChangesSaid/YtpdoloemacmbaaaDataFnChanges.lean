/-
  What both ways of the law come to, and that the law returns true.
-/
import Derived.Test.YtpdoloemacmbaaaTyp
import Derived.Test.YtpdoloemacmbaaaEqs
import Derived.Test.YtpdoloemacmbaaaDl
import Derived.Test.YtpdoloemacmbaaaDataFnChanges1
set_option linter.unusedVariables false
set_option maxRecDepth 100000
set_option linter.unusedSimpArgs false
set_option linter.unusedSectionVars false
set_option maxHeartbeats 1000000
/-
  ApplyChanges: the loops, and what both ways come to.
-/
namespace Vm
open Go
def apS : List RowD → List ChgD → Int × List RowD
  | rs, [] => (0, rs)
  | rs, c :: cs => if chgF c = 0 then (if fitR rs c then apS (doR rs c) cs else (8, [])) else (chgF c, [])
theorem apL_S : ∀ (cs : List ChgD) (rs : List RowD), apL rs cs = if (apS rs cs).1 = 0 then (if 60 < (apS rs cs).2.length then (2, []) else (0, (apS rs cs).2)) else ((apS rs cs).1, [])
  | [], rs => by simp [apL, apS]; rfl
  | c :: cs, rs => by
    unfold apL apS
    by_cases h : chgF c = 0
    · rw [if_pos h, if_pos h]
      by_cases h2 : fitR rs c = true
      · rw [if_pos h2, if_pos h2]; exact apL_S cs _
      · rw [if_neg h2, if_neg h2]; simp
    · rw [if_neg h, if_neg h]; simp [h]
theorem apS_nil (rs : List RowD) : apS rs [] = (0, rs) := rfl
theorem apS_ok {rs : List RowD} {c : ChgD} {cs : List ChgD} (h : chgF c = 0) (h2 : fitR rs c = true) : apS rs (c :: cs) = apS (doR rs c) cs := by rw [apS, if_pos h, if_pos h2]
theorem apS_8 {rs : List RowD} {c : ChgD} {cs : List ChgD} (h : chgF c = 0) (h2 : fitR rs c ≠ true) : apS rs (c :: cs) = (8, []) := by rw [apS, if_pos h, if_neg h2]
theorem apS_f {rs : List RowD} {c : ChgD} {cs : List ChgD} (h : chgF c ≠ 0) : apS rs (c :: cs) = (chgF c, []) := by rw [apS, if_neg h]
/-- rows of one's own over a result that stands in block m -/
structure ApI (h0 : H) (m : Nat) (y : S) (rs : List RowD) (h : H) : Prop where
  n : m < h.n
  g : h.g m = .rw 0 [.int .i64 0, .sl none 0]
  k : ∀ b, b < m → h.g b = h0.g b
  o : OwnF 1 y (.fs (rws rs)) (m + 1) h.n h
theorem ApI.next {h0 h h' : H} {m lo : Nat} {y y' : S} {rs rs' : List RowD} (w : ApI h0 m y rs h) (u : Up h h') (o : OwnF 1 y' (.fs (rws rs')) lo h'.n h') (hlo : m + 1 ≤ lo) : ApI h0 m y' rs' h' :=
  ⟨by have := w.n; have := u.n; omega, by rw [u.g m w.n]; exact w.g, fun b hb => by rw [u.g b (by have := w.n; omega)]; exact w.k b hb, o.weak hlo (Nat.le_refl _)⟩
theorem put_res {R : Type} {K : H} {m : Nat} {c : Int} {y : S} {k : V → H → Option R} {dd : TD} {bb : Bool} {z : List S} {w : Nat} (hn : m < K.n) (g : K.g m = .rw 0 [.int .i64 0, .sl none 0]) :
    (stK 2 K (pv m 0) (.agg [.int .i64 c, y]) fun h => ldT ⟨2, w, z, true, dd, bb⟩ h (pv m 0) fun v => k v h) = k (.agg [.int .i64 c, y]) (K.put m (.rw 0 [.int .i64 c, y])) := by
  rw [stK_rw (z := 2) (e := 0) (o := 0) (b := m) (cs := [.int .i64 0, .sl none 0]) (r := [.int .i64 c, y]) hn g (.inr rfl) rfl (by simp)]
  rw [show setAt [.int .i64 0, .sl none 0] 0 [.int .i64 c, y] = [.int .i64 c, y] from rfl]
  simp only [ldT, cond_true]
  rw [loadN_2 (b := m) (e := 0) (by rw [put_n]; exact hn) (put_g _ _ _), ob]
theorem put_own {K : H} {m d : Nat} {c : Int} {y f : S} {B : Blk} (o : OwnF d y f (m + 1) K.n K) : OwnC d [.int .i64 c, y] [.int .i64 c, f] m (K.put m B).n (K.put m B) := by
  obtain ⟨bs, w1, w2, w3⟩ := o
  refine OwnF.c (pre := [.int .i64 c]) sc1 ⟨bs, w1.frame fun b hb => ?_, w2, fun b hb => ?_⟩
  · have := w3 b hb
    exact ⟨by rw [put_n]; omega, put_g' (by omega)⟩
  · have := w3 b hb
    rw [put_n]; omega
theorem bad_own {K : H} {d m hi : Nat} {c : Int} : OwnC d [.int .i64 c, .sl none 0] [.int .i64 c, .fs []] m hi K :=
  ⟨[], RepL.cons (bs := []) (Rep.sc trivial) (RepL.cons (bs := []) Rep.nil .nil), by simp, by simp⟩
abbrev kC : VT := .agg [.b, .i .i64, .i .i64, .i .i64, .s, .b, .i .i64, .i .i64, .i .i64, .s]
abbrev tC : TI := ⟨10, 96, [.bool false, .int .i64 0, .int .i64 0, .int .i64 0, .str ⟨#[]⟩, .bool false, .int .i64 0, .int .i64 0, .int .i64 0, .str ⟨#[]⟩], true, .st [(0, 4), (1, 39), (5, 4), (6, 39)], true⟩
/-! the program's loop -/
theorem lp_apply {all : List ChgD} {v1 : V} {h0 : H} {m : Nat} (hok : ∀ c ∈ all, c.ok) (hlen : all.length ≤ 4000000)
    (rd : ∀ (i : Nat) (c : ChgD) (hh : H), all[i]? = some c → m ≤ hh.n → (∀ b, b < m → hh.g b = h0.g b) → ∀ k : V → Option LOut, (idxK 10 v1 (iv .i64 (i : Int)) fun v => ldK kC tC hh v k) = k (.agg c.cs)) :
    ∀ (q : List ChgD) (i : Nat) (rs : List RowD) (y : S) (h : H), all.drop i = q → Ris rs → rs.length + q.length ≤ 10000000 → ApI h0 m y rs h →
      ((apS rs q).1 = 0 → ∃ y' h', Lp.impl_ApplyChanges 0 [pv m 0, .s y, v1, iv .i64 (all.length : Int), iv .i64 i] h = some (.done [pv m 0, .s y'] h') ∧ ApI h0 m y' (apS rs q).2 h') ∧
      ((apS rs q).1 ≠ 0 → ∃ h', Lp.impl_ApplyChanges 0 [pv m 0, .s y, v1, iv .i64 (all.length : Int), iv .i64 i] h = some (.ret (.agg [.int .i64 (apS rs q).1, .sl none 0]) h') ∧ m < h'.n ∧ ∀ b, b < m → h'.g b = h0.g b) := by
  intro q
  induction q with
  | nil =>
    intro i rs y h hi hr hl w
    have := drop_nil hi
    rw [apS_nil]
    refine ⟨fun _ => ⟨y, h, ?_, w⟩, fun hh => absurd rfl hh⟩
    rw [eq_impl_ApplyChanges_l0, vcase_b, if_neg (by simp; omega), tidy_self]
  | cons c q ih =>
    intro i rs y h hi hr hl w
    obtain ⟨g1, g2, g3⟩ := drop_cons hi
    simp only [List.length_cons] at hl
    have hc := hok c (List.mem_of_getElem? g1)
    have wn := w.n
    have hP := putX_keep h zC c.cs
    have gP : (putX h zC c.cs).g m = .rw 0 [.int .i64 0, .sl none 0] := by rw [(hP.2 m wn).1]; exact w.g
    have nP : m < (putX h zC c.cs).n := by rw [putX_n]; omega
    have kP : ∀ b, b < m → (putX h zC c.cs).g b = h0.g b := fun b hb => by rw [(hP.2 b (by omega)).1]; exact w.k b hb
    have badr : ∀ e : Int, ∃ h', (stK 2 (putX h zC c.cs) (pv m 0) (.agg [.int .i64 e, .sl none 0]) fun h251 =>
        ldT ⟨2, 32, [.int .i64 0, .sl none 0], true, .st [(0, 2), (1, 24)], false⟩ h251 (pv m 0) fun v252 => some (LOut.ret v252 h251)) = some (.ret (.agg [.int .i64 e, .sl none 0]) h') ∧ m < h'.n ∧ ∀ b, b < m → h'.g b = h0.g b := fun e => by
      rw [put_res nP gP]
      exact ⟨_, rfl, by rw [put_n]; exact nP, fun b hb => by rw [put_g' (by omega)]; exact kP b hb⟩
    have ea : frzV (putX h zC c.cs) (.agg c.cs) = some (.agg c.cs) := by simp
    have ey := (w.o.up hP.up).frz (by omega)
    have step : ∀ r : Option LOut, (r = (vcase (bv (chgF c != 0))
        (stK 2 (putX h zC c.cs) (pv m 0) (.agg [.int .i64 (chgF c), .sl none 0]) fun h252 => ldT ⟨2, 32, [.int .i64 0, .sl none 0], true, .st [(0, 2), (1, 24)], false⟩ h252 (pv m 0) fun v253 => some (LOut.ret v253 h252))
        (vcase (bv (!fitR rs c))
          (stK 2 (putX h zC c.cs) (pv m 0) (.agg [.int .i64 8, .sl none 0]) fun h280 => ldT ⟨2, 32, [.int .i64 0, .sl none 0], true, .st [(0, 2), (1, 24)], false⟩ h280 (pv m 0) fun v281 => some (LOut.ret v281 h280))
          (pcallF (call Ev) Fn.impl_changed ([.s y, V.agg c.cs].all offV) [lv (rws rs), .agg c.cs] (putX h zC c.cs) fun v304 h305 =>
            Lp.impl_ApplyChanges 0 [pv m 0, v304, v1, iv .i64 (all.length : Int), iv .i64 ((i + 1 : Nat) : Int)] (tidy h [pv m 0, v304, v1, iv .i64 (all.length : Int), iv .i64 ((i + 1 : Nat) : Int)] h305))))) →
        Lp.impl_ApplyChanges 0 [pv m 0, .s y, v1, iv .i64 (all.length : Int), iv .i64 i] h = r := by
      rintro r rfl
      rw [eq_impl_ApplyChanges_l0, vcase_b, if_pos (by simp; omega), rd i c h g1 (by omega) w.k]
      simp only [gVA_a, ob, gx0, gx1, gI_i, gS_s, gB_b, ln0, ln1, Nat.zero_add, Nat.reduceAdd, if_true]
      rw [stK_X (z := 10) (cs := c.cs) rfl rfl, loadN_X (o := 0) (r := c.cs) (by simp) rfl]
      simp only [ob, gx0, gx1, gI_i, gS_s, gB_b, ln0, ln1, Nat.zero_add, Nat.reduceAdd, if_true]
      rw [pc (p_changeFault c hc) rfl]
      simp only [gV1_s, gI_i]
      rw [frzVs_cons ea (frzVs_cons ey frzVs_nil), ob, norm_nil, pc (p_fitsTo hr (by omega)) rfl]
      simp only [gV1_s, gB_b]
      rw [frzVs_cons ey (frzVs_cons ea frzVs_nil), ob, norm_nil, w64 (by omega) (by omega), show (i : Int) + 1 = ((i + 1 : Nat) : Int) from by omega]
    rw [step _ rfl]
    simp only [vcase_b, bne_iff_ne, ne_eq]
    by_cases hf : chgF c = 0
    case neg =>
      rw [apS_f hf, if_pos hf]
      exact ⟨fun hh => absurd hh hf, fun _ => badr _⟩
    rw [if_neg (by simpa using hf)]
    by_cases ht : fitR rs c = true
    case neg =>
      rw [apS_8 hf ht, if_pos (by simpa using ht)]
      exact ⟨fun hh => absurd hh (by simp), fun _ => badr _⟩
    rw [apS_ok hf ht, if_neg (by simp [ht])]
    obtain ⟨y2, h1, e1, n1, w1⟩ := f_changed (c := c) hr (by omega) (putX h zC c.cs).n
    obtain ⟨K, e2, u2, n2, w2⟩ := pX (h := putX h zC c.cs) (off := [.s y, V.agg c.cs].all offV) rfl e1 (by obtain ⟨bs, a, _⟩ := w1; exact a.sca) n1 w1
    rw [e2]
    obtain ⟨u3, w3⟩ := own_tidy (l := [pv m 0, .s y2, v1, iv .i64 (all.length : Int), iv .i64 ((i + 1 : Nat) : Int)]) (hP.up.trans u2) w2 (by rw [putX_n]; omega) (by simp)
    exact ih (i + 1) (doR rs c) y2 _ g2 (ris_do hr) (by have := do_len rs c; omega) (w.next u3 w3 (by rw [putX_n]; omega))
theorem clone_raw {h : H} {y : S} {rs : List RowD} {lo hi : Nat} (w : OwnF 5 y (.fs (rws rs)) lo hi h) (hl : rs.length ≤ lim) :
    ∃ y' h', call Ev Fn.slices_Clone_impl_Row_impl_Row [.s y] h = some (.s y', h') ∧ Up h h' ∧ OwnF 1 y' (.fs (rws rs)) h.n h'.n h' := by
  have e27 : ∀ (p : Nat × Nat) (n : Nat), bin Ev .eql 24 (.s (.sl (some p) n)) (.s (.sl none 0)) = some (bv false) := fun p n => by kernel_rfl
  have e28 : bin Ev .eql 24 (.s (.sl none 0)) (.s (.sl none 0)) = some (bv true) := by kernel_rfl
  rw [eq_slices_Clone_impl_Row_impl_Row]
  obtain ⟨bs, w1, w2, w3⟩ := w
  have fin : ∀ (hc : cellsS 4 (h.new 4 []) (.s y) = some (rws rs).flatten) (hy : lenS (.s y) = some (rws rs).length), ∃ y' h', ((appS 4 (h.new 4 []) (sv h.n 0 0) (.s y)).bind fun p105 => some (p105.1, p105.2)) = some (V.s y', h') ∧ Up h h' ∧ OwnF 1 y' (.fs (rws rs)) h.n h'.n h' := by
    intro hc hy
    obtain ⟨v1, h1, e1, k1, n1, g1⟩ := app_fl (z := 4) (h := h.new 4 []) (y := .s y) (more := rws rs) FlS.nil rws_row hc hy (by omega) (by simpa using hl)
    rw [List.nil_append] at k1
    have hv := k1.v
    subst hv
    rw [e1, ob]
    exact ⟨_, h1, rfl, ⟨by rw [n1]; simp; omega, fun b hb => by rw [g1 b (by simp; omega) (by omega)]; exact new_g' (by omega)⟩, k1.own (by omega) (by simp) rws_sc⟩
  rcases w1 with ⟨⟨h1, h2⟩ | ⟨h1, h2⟩, h3⟩ | ⟨b, z, cs, rows, bss, h1, h2, h3, h4, h5, h6, h7, h8⟩
  · rw [← h2] at h1; exact h1.elim
  · injection h2 with h2
    subst h1
    rw [e28]
    simp only [ob, gV1_s, gB_b, vcase_b]
    rw [if_pos trivial]
    refine ⟨_, h, rfl, Up.refl h, [], ?_, by simp, by simp⟩
    rw [h2]; exact Rep.nil
  · injection h2 with h2
    subst h1
    rw [e27]
    simp only [ob, gV1_s, gB_b, vcase_b]
    rw [if_neg (by simp)]
    refine fin ?_ (by rw [h2]; rfl)
    have hbn : b ≠ h.n := by omega
    by_cases hne : rows = []
    · subst hne
      rw [h2]
      simp only [cellsS, List.length_nil, Nat.zero_mul]
      rw [if_pos ⟨by simp; omega, by simp⟩]
      simp
    · subst h2
      obtain ⟨rfl, _⟩ := h8.of_sc fun s hs' => by
        obtain ⟨r, h8, h9⟩ := List.mem_flatten.1 hs'
        exact rws_sc r h8 s h9
      have hz : z = 4 := by
        obtain ⟨r, rows', hh⟩ := List.exists_cons_of_ne_nil hne
        have a1 := h7 r (by rw [hh]; simp)
        have a2 := rws_row r (by rw [hh]; simp)
        rw [← a1, a2]
      subst hz
      exact FlS.cells (b := b) ⟨rfl, by simp; omega, by rw [new_g' hbn]; exact h6, rws_row⟩
theorem own_read {h0 : H} {v1 : V} {all : List ChgD} {lo hi m : Nat} (w : OwnV v1 (.fs (chs all)) lo hi h0) (hm : hi ≤ m) : ∀ (i : Nat) (c : ChgD) (hh : H), all[i]? = some c → m ≤ hh.n → (∀ b, b < m → hh.g b = h0.g b) → ∀ k : V → Option LOut, (idxK 10 v1 (iv .i64 (i : Int)) fun v => ldK kC tC hh v k) = k (.agg c.cs) := by
  intro i c hh hc hn hk k
  obtain ⟨y, rfl, bs, w1, w2, w3⟩ := w
  have hil : i < all.length := (List.getElem?_eq_some_iff.1 hc).1
  rcases w1 with ⟨⟨h1, h2⟩ | ⟨h1, h2⟩, h3⟩ | ⟨b, z, cs, rows, bss, h1, h2, h3, h4, h5, h6, h7, h8⟩
  · rw [← h2] at h1; exact h1.elim
  · injection h2 with h2
    have := congrArg List.length h2
    simp at this; subst this; simp at hil
  · injection h2 with h2
    subst h2
    obtain ⟨rfl, _⟩ := h8.of_sc fun s hs' => by
      obtain ⟨r, h8, h9⟩ := List.mem_flatten.1 hs'
      exact chs_sc r h8 s h9
    have hz : z = 10 := by
      have a1 := h7 c.cs (List.mem_of_getElem? (chs_get hc))
      rw [← a1]; rfl
    subst hz
    have hb := w3 b (by rw [h3]; simp)
    subst h1
    rw [chs_len, show V.s (.sl (some (b, 0)) all.length) = sv b 0 all.length from rfl, idxK_sv hil]
    have hg : hh.g b = .rw 10 (chs all).flatten := by rw [hk b (by omega)]; exact h6
    have hcl : hh.cells b = (chs all).flatten := by unfold H.cells; rw [if_pos (by omega), hg]; rfl
    have hfl := flat_len (rows := chs all) h7
    rw [chs_len] at hfl
    refine ldK_agg rfl ?_
    simp only [loadN]
    rw [if_pos ⟨by omega, by rw [hcl, hfl]; have := Nat.mul_le_mul_right 10 (show i + 1 ≤ all.length from hil); rw [Nat.succ_mul] at this; exact this⟩, hcl]
    congr 1
    refine List.ext_getElem? fun j => ?_
    by_cases hj : j < 10
    · rw [List.getElem?_take_of_lt hj, List.getElem?_drop, flat_get h7 (chs_get hc) hj]
    · rw [List.getElem?_eq_none (by simp; omega), List.getElem?_eq_none (by simp; omega)]
theorem OwnV.len {v : V} {rows : List (List S)} {lo hi t : Nat} {h : H} (w : OwnV v (.fs rows) lo hi h) : lenV (.sl t) v = some (iv .i64 (rows.length : Int)) := by
  obtain ⟨y, rfl, w⟩ := w; exact w.len
/-- changes that can be read, over memory that is there -/
structure RdC (v1 : V) (all : List ChgD) (h0 : H) : Prop where
  len : ∀ {t : Nat}, lenV (.sl t) v1 = some (iv .i64 (all.length : Int))
  rd : ∀ (i : Nat) (c : ChgD) (hh : H), all[i]? = some c → h0.n ≤ hh.n → (∀ b, b < h0.n → hh.g b = h0.g b) → ∀ k : V → Option LOut, (idxK 10 v1 (iv .i64 (i : Int)) fun v => ldK kC tC hh v k) = k (.agg c.cs)
theorem RdC.own {h : H} {v1 : V} {all : List ChgD} {lo1 hi1 : Nat} (w1 : Sep (OwnV v1 (.fs (chs all)) lo1 hi1) lo1 hi1 h) : RdC v1 all h :=
  ⟨fun {t} => by rw [(w1.now).len (t := t), chs_len], own_read w1.now w1.top⟩
theorem r_ApplyChanges {h : H} {v0 v1 : V} {rs : List RowD} {all : List ChgD} {lo0 hi0 : Nat} (w0 : Sep (OwnV v0 (.fs (rws rs)) lo0 hi0) lo0 hi0 h) (w1 : RdC v1 all h)
    (hs : ∀ r ∈ rs, r.text.size ≤ maxLen) (hok : ∀ c ∈ all, c.ok) (hl : rs.length ≤ 2000000) (hl2 : all.length ≤ 2000000) :
    ∃ y h', call Ev Fn.impl_ApplyChanges [v0, v1] h = some (.agg [.int .i64 (apF rs all).1, y], h') ∧ Up h h' ∧ OwnC 5 [.int .i64 (apF rs all).1, y] [.int .i64 (apF rs all).1, .fs (rws (apF rs all).2)] h.n h'.n h' := by
  have u0 : Up h (h.new 0 [.int .i64 0, .sl none 0]) := up_new
  have w0' := (w0.up u0).now
  rw [eq_impl_ApplyChanges, frzVs_cons w0'.frz frzVs_nil, ob, norm_nil, pc (p_RowsFault hs (by unfold maxLen; omega)) rfl]
  simp only [gV1_s, gI_i, vcase_b, bne_iff_ne, ne_eq]
  unfold apF
  by_cases h0 : rowsF rs = 0
  case neg =>
    rw [if_pos h0, if_neg h0, st2_new, loadN_2 (by simp) (by exact g_st), Vm.ob]
    exact ⟨_, _, rfl, up_st, bad_own⟩
  rw [if_neg (by simp [h0]), if_pos h0]
  obtain ⟨y0, rfl, wv0⟩ := w0'
  obtain ⟨y, h1, e1, u1, o1⟩ := clone_raw wv0 (by unfold lim; omega)
  rw [e1, ob]
  rw [w1.len]
  simp only [ob, gV1_s, gI_i, chs_len]
  obtain ⟨u2, o2⟩ := own_tidy (l := [.s y]) u1 o1 (Nat.le_refl _) (by simp)
  have ai : ApI h h.n y rs (tidy (h.new 0 [.int .i64 0, .sl none 0]) [.s y] h1) := by
    refine ⟨by have := u2.n; simp at this; omega, by rw [u2.g h.n (by simp)]; exact new_g _ _ _, fun b hb => by rw [u2.g b (by simp; omega)]; exact new_g' (by omega), ?_⟩
    exact o2.weak (by simp) (Nat.le_refl _)
  obtain ⟨a, b⟩ := lp_apply (all := all) (v1 := v1) (h0 := h) (m := h.n) hok (by omega) w1.rd all 0 rs y _ rfl (ris_rows h0) (by omega) ai
  rw [show iv .i64 0 = iv .i64 ((0 : Nat) : Int) from rfl, apL_S]
  by_cases hz : (apS rs all).1 = 0
  case neg =>
    obtain ⟨h2, e2, n2, k2⟩ := b hz
    rw [e2, ob, lcase_ret, if_neg hz]
    exact ⟨_, h2, rfl, ⟨by omega, k2⟩, bad_own⟩
  obtain ⟨y2, h2, e2, a2⟩ := a hz
  rw [e2, ob, lcase_done, if_pos hz]
  simp only [gx0, gx1, ob]
  rw [a2.o.len]
  simp only [ob, gV1_s, gI_i, vcase_b, decide_eq_true_eq, rws_len]
  have kk : ∀ B : Blk, Up h (h2.put h.n B) := fun B => ⟨by rw [put_n]; have := a2.n; omega, fun b hb => by rw [put_g' (by omega)]; exact a2.k b hb⟩
  by_cases h60 : 60 < (apS rs all).2.length
  · rw [if_pos (by omega), if_pos h60, put_res a2.n a2.g]
    exact ⟨_, _, rfl, kk _, bad_own⟩
  · rw [if_neg (by omega), if_neg h60, cells2 a2.o.no, put_res a2.n a2.g]
    exact ⟨_, _, rfl, kk _, put_own (a2.o.lift (by omega))⟩
/-! the specification's way -/
theorem f_l6Do {rs : List RowD} {c : ChgD} (h : Ris rs) (hl : rs.length < 20000000) (n : Nat) :
    (fitR rs c = true → ∃ y h', call Ev Fn.spec_l6Do [lv (rws rs), fv c.cs 0] (D n) = some (.tup [.s y, .s (.bool true)], h') ∧ n ≤ h'.n ∧ OwnF 1 y (.fs (rws (doR rs c))) n h'.n h') ∧
    (fitR rs c = false → call Ev Fn.spec_l6Do [lv (rws rs), fv c.cs 0] (D n) = some (.tup [.s (.sl none 0), .s (.bool false)], D n)) := by
  have hat := fnd_at' (k := c.k) (rs := rs) 0 h
  have loop : ∀ (a : Int) (q : List RowD) (i : Nat) (y : S) (out : List RowD) (hh : H), rs.drop i = q → out.length ≤ i → Gr 4 n (D n) y (rws out) hh →
      ∃ y' h', Lp.spec_l6Do 0 [lv (rws rs), fv c.cs 0, iv .i64 a, .s y, iv .i64 i] hh = some (.done [fv c.cs 0, .s y'] h') ∧ Gr 4 n (D n) y' (rws (out ++ erI a i q)) h' := by
    intro a q
    induction q with
    | nil =>
      intro i y out hh hi ho w
      have := drop_nil hi
      refine ⟨y, hh, ?_, by simpa [erI] using w⟩
      rw [eq_spec_l6Do_l0, vcase_b, if_neg (by simp; omega), tidy_self]
    | cons r q ih =>
      intro i y out hh hi ho w
      obtain ⟨g1, g2, g3⟩ := drop_cons hi
      rw [eq_spec_l6Do_l0, vcase_b, if_pos (by simp; omega), vcase_b, w64 (by omega) (by omega), show (i : Int) + 1 = ((i + 1 : Nat) : Int) from by omega]
      simp only [bne_iff_ne, ne_eq]
      by_cases hia : (i : Int) = a
      · rw [if_neg (by simpa using hia), tidy_self]
        obtain ⟨y', h2, e2, w2⟩ := ih (i + 1) y out hh g2 (by omega) w
        exact ⟨y', h2, e2, by rw [erI, if_neg (by simpa using hia)]; exact w2⟩
      · rw [if_pos hia, idxF_rw g1, rowN_rw]
        simp only [ob, gx0, gx1, gI_i, gS_s, ln0, ln1, Nat.zero_add, Nat.reduceAdd, if_true]
        obtain ⟨h', e, w', hn⟩ := w.app (row := r.cs) row_sc rfl (by omega) (by rw [rws_len]; unfold lim; omega)
        rw [e, ob, grow_tidy (m := hh.n + 1) (k := (rws out).length + 1) (by omega) (by simp)]
        rw [← rws_snoc] at w'
        obtain ⟨y', h2, e2, w2⟩ := ih (i + 1) _ (out ++ [r]) h' g2 (by simp; omega) w'
        exact ⟨y', h2, e2, by rw [erI, if_pos hia]; simpa using w2⟩
  have good : ∀ w1 w2 w3 w4 w5 w6 w7 w8 w9 w10 w11 w12 w13 q0, ∃ y h', Jn.spec_l6Do_0 q0 w1 w2 w3 w4 w5 w6 w7 w8 w9 w10 w11 w12 w13 false n (rws rs) c.was c.b.tab c.b.key c.b.val c.b.text c.is c.a.tab c.a.key c.a.val c.a.text (atF c.k.tab c.k.key rs 0) = some (.tup [.s y, .s (.bool true)], h') ∧ n ≤ h'.n ∧ OwnF 1 y (.fs (rws (doR rs c))) n h'.n h' := by
    intro w1 w2 w3 w4 w5 w6 w7 w8 w9 w10 w11 w12 w13 q0
    unfold Jn.spec_l6Do_0
    rw [vcase_b, if_neg (by simp), D_n]
    obtain ⟨y1, h1, e1, g1⟩ := loop (atF c.k.tab c.k.key rs 0) rs 0 _ [] _ rfl (by simp) (Gr.new (z := 4) (h := D n) (by omega))
    rw [D_n] at e1
    rw [show iv .i64 0 = iv .i64 ((0 : Nat) : Int) from rfl, e1, ob, lcase_done]
    rw [List.nil_append, erI_fnd h] at g1
    have n1 : notNil (fv c.cs 0) = some (fv c.cs 0) := rfl
    have l5 : ∀ {R : Type} (k : V → Option R), ldK (.one (.b)) ⟨1, 1, [.bool false], false, .bool, false⟩ h1 (fv c.cs 5) k = k (.s (.bool c.is)) := fun k => by simp [ldK, ldT, load1, tyV, tyS]
    have l6 : ∀ {R : Type} (k : V → Option R), ldK (.agg [.i .i64, .i .i64, .i .i64, .s]) ⟨4, 40, [.int .i64 0, .int .i64 0, .int .i64 0, .str ⟨#[]⟩], true, .st [(0, 2), (1, 2), (2, 2), (3, 9)], true⟩ h1 (fv c.cs 6) k = k (.agg c.a.cs) := fun k => by
      have : loadN 4 h1 (fv c.cs 6) = some c.a.cs := rfl
      simp only [ldK, ldT, cond_true, this, Vm.ob]
      simp [tyV, tyL, tyS]
    simp only [gx0, gx1, ob, n1, padd, Nat.zero_add]
    rw [l5]
    simp only [gV1_s, gB_b, vcase_b]
    have hlen : (twR c.k rs ++ hiR c.k rs).length ≤ rs.length := by have := hi_len c.k rs; rw [List.length_append]; exact this
    cases hi : c.is with
    | true =>
      rw [if_pos rfl, l6]
      simp only [gVA_a, ob, gx0, gx1, gI_i, gS_s, ln0, ln1, Nat.zero_add, Nat.reduceAdd, if_true]
      have ea : frzV h1 (.agg c.a.cs) = some (.agg c.a.cs) := by simp
      rw [frzVs_cons g1.frz (frzVs_cons ea frzVs_nil), ob, norm_nil]
      obtain ⟨y2, h2, e2, n2, w2⟩ := f_l6Put (ks := twR c.k rs ++ hiR c.k rs) (r := c.a) (by unfold lim; omega) h1.n
      obtain ⟨K, e3, u3, n3, w3⟩ := pX (h := h1) (off := [.s y1, V.agg c.a.cs].all offV) rfl e2 (by obtain ⟨bs, a, _⟩ := w2; exact a.sca) n2 w2
      rw [e3]
      rw [ins_do h hi] at w3
      have h1n := g1.1
      exact ⟨y2, K, rfl, by have := u3.n; omega, w3.weak (by omega) (Nat.le_refl _)⟩
    | false =>
      rw [if_neg (by simp)]
      have o := g1.own
      rw [no_do hi] at o
      exact ⟨y1, h1, rfl, g1.1, o⟩
  have bad : ∀ w1 w2 w3 w4 w5 w6 w7 w8 w9 w10 w11 w12 w13 q0 q ww, Jn.spec_l6Do_0 q0 w1 w2 w3 w4 w5 w6 w7 w8 w9 w10 w11 w12 w13 true n (rws rs) ww c.b.tab c.b.key c.b.val c.b.text c.is c.a.tab c.a.key c.a.val c.a.text q = some (.tup [.s (.sl none 0), .s (.bool false)], D n) := by
    intro w1 w2 w3 w4 w5 w6 w7 w8 w9 w10 w11 w12 w13 q0 q ww
    unfold Jn.spec_l6Do_0
    rfl
  have key : ∀ Q : Option (V × H) → Prop, (fitR rs c = true → ∀ w1 w2 w3 w4 w5 w6 w7 w8 w9 w10 w11 w12 w13 q0, Q (Jn.spec_l6Do_0 q0 w1 w2 w3 w4 w5 w6 w7 w8 w9 w10 w11 w12 w13 false n (rws rs) c.was c.b.tab c.b.key c.b.val c.b.text c.is c.a.tab c.a.key c.a.val c.a.text (atF c.k.tab c.k.key rs 0))) →
      (fitR rs c = false → Q (some (.tup [.s (.sl none 0), .s (.bool false)], D n))) → Q (call Ev Fn.spec_l6Do [lv (rws rs), fv c.cs 0] (D n)) := by
    intro Q q1 q2
    rw [eq_spec_l6Do, pc (p_l6Key c) rfl]
    simp only [gVT_t, gA1_s, ob, gx0, gx1, gI_i, ln0, ln1, Nat.zero_add, Nat.reduceAdd, if_true]
    rw [pc (p_l6At (by unfold maxLen; omega)) rfl]
    simp only [gV1_s, gI_i, vcase_b]
    have hd : decide (atF c.k.tab c.k.key rs 0 ≥ 0) = fnd c.k rs := by
      rw [hat]
      cases fnd c.k rs
      · simp
      · simp
    rw [hd]
    have hfit : fitR rs c = ((fnd c.k rs == c.was) && (!fnd c.k rs || (match dwR c.k rs with | [] => true | r :: _ => eqRowB r c.b))) := rfl
    cases hf : fnd c.k rs with
    | false =>
      rw [hf] at hfit
      cases hw : c.was with
      | true =>
        rw [hw] at hfit
        rw [if_pos (by simp), bad]
        exact q2 (by rw [hfit]; rfl)
      | false =>
        rw [hw] at hfit
        rw [if_neg (by simp), if_neg (by simp)]
        have := q1 (by rw [hfit]; rfl)
        rw [hw] at this
        exact this _ _ _ _ _ _ _ _ _ _ _ _ _ _
    | true =>
      obtain ⟨r, t, d1, d2, d3, d4⟩ := fnd_row hf
      rw [hf, d1] at hfit
      cases hw : c.was with
      | false =>
        rw [hw] at hfit
        rw [if_pos (by simp), bad]
        exact q2 (by rw [hfit]; rfl)
      | true =>
        rw [hw] at hfit
        rw [if_neg (by simp), if_pos rfl]
        have ha : atF c.k.tab c.k.key rs 0 = (((twR c.k rs).length : Nat) : Int) := by rw [hat, hf, if_pos rfl, Nat.zero_add]
        rw [ha] at q1 ⊢
        rw [idxF_rw d4, rowN_rw]
        simp only [ob, gx0, gx1, gI_i, gS_s, ln0, ln1, Nat.zero_add, Nat.reduceAdd, if_true]
        have he : (!((r.tab == c.b.tab) && ((r.key == c.b.key) && ((r.val == c.b.val) && ((r.text.toList == c.b.text.toList) && true))))) = !eqRowB r c.b := rfl
        simp only [he]
        cases hq : eqRowB r c.b with
        | true =>
          have := q1 (by rw [hfit]; simp [hq])
          rw [hw] at this
          exact this _ _ _ _ _ _ _ _ _ _ _ _ _ _
        | false =>
          rw [Bool.not_false, bad]
          exact q2 (by rw [hfit]; simp [hq])
  refine ⟨fun hf => ?_, fun hf => ?_⟩
  · refine key (fun o => ∃ y h', o = some (.tup [.s y, .s (.bool true)], h') ∧ n ≤ h'.n ∧ OwnF 1 y (.fs (rws (doR rs c))) n h'.n h') (fun _ w1 w2 w3 w4 w5 w6 w7 w8 w9 w10 w11 w12 w13 q0 => good _ _ _ _ _ _ _ _ _ _ _ _ _ _) (fun hh => by rw [hf] at hh; cases hh)
  · refine key (fun o => o = some (.tup [.s (.sl none 0), .s (.bool false)], D n)) (fun hh => by rw [hf] at hh; cases hh) (fun _ => rfl)

theorem lp_spec {all : List ChgD} {m : Nat} (hok : ∀ c ∈ all, c.ok) (hlen : all.length ≤ 4000000) :
    ∀ (q : List ChgD) (i : Nat) (rs : List RowD) (y : S) (h : H), all.drop i = q → Ris rs → rs.length + q.length ≤ 10000000 → ApI (D m) m y rs h →
      ((apS rs q).1 = 0 → ∃ y' h', Lp.spec_ApplyChanges 0 [lv (chs all), pv m 0, .s y, iv .i64 i] h = some (.done [pv m 0, .s y'] h') ∧ ApI (D m) m y' (apS rs q).2 h') ∧
      ((apS rs q).1 ≠ 0 → ∃ h', Lp.spec_ApplyChanges 0 [lv (chs all), pv m 0, .s y, iv .i64 i] h = some (.ret (.agg [.int .i64 (apS rs q).1, .sl none 0]) h') ∧ m < h'.n) := by
  intro q
  induction q with
  | nil =>
    intro i rs y h hi hr hl w
    have := drop_nil hi
    rw [apS_nil]
    refine ⟨fun _ => ⟨y, h, ?_, w⟩, fun hh => absurd rfl hh⟩
    rw [eq_spec_ApplyChanges_l0, vcase_b, if_neg (by simp; omega), tidy_self]
  | cons c q ih =>
    intro i rs y h hi hr hl w
    obtain ⟨g1, g2, g3⟩ := drop_cons hi
    simp only [List.length_cons] at hl
    have hc := hok c (List.mem_of_getElem? g1)
    have ey := w.o.frz (by omega)
    have ef : frzV h (fv c.cs 0) = some (fv c.cs 0) := by simp
    rw [eq_spec_ApplyChanges_l0, vcase_b, if_pos (by simp; omega), idxF_ch g1, normV_ch, pc (p_l6Change c hc) rfl]
    simp only [gV1_s, gI_i, vcase_b, bne_iff_ne, ne_eq]
    by_cases hf : chgF c = 0
    case neg =>
      rw [apS_f hf, if_pos hf, put_res w.n w.g]
      exact ⟨fun hh => absurd hh hf, fun _ => ⟨_, rfl, by rw [put_n]; exact w.n⟩⟩
    rw [if_neg (by simpa using hf), idxF_ch g1, frzVs_cons ey (frzVs_cons ef frzVs_nil), ob, show normVs [0, 10] [lv (rws rs), fv c.cs 0] = [lv (rws rs), fv c.cs 0] from rfl, w64 (by omega) (by omega), show (i : Int) + 1 = ((i + 1 : Nat) : Int) from by omega]
    obtain ⟨d1, d2⟩ := f_l6Do (c := c) hr (by omega) h.n
    cases ht : fitR rs c with
    | false =>
      obtain ⟨K, e2, u2, n2, w2⟩ := pX (h := h) (off := [.s y, fv c.cs 0].all offV) (d := 1) (y := .sl none 0) (f := .fs []) rfl (d2 ht) rfl (by simp) ⟨[], Rep.nil, by simp, by simp⟩
      rw [e2, apS_8 hf (by rw [ht]; simp)]
      simp only [gVT_t, gA1_s, ob, gx0, gx1, gB_b, ln0, ln1, Nat.zero_add, Nat.reduceAdd, if_true, vcase_b]
      have wn := w.n
      have un := u2.n
      rw [if_pos (by simp), put_res (by omega) (by rw [u2.g m w.n]; exact w.g)]
      exact ⟨fun hh => absurd hh (by simp), fun _ => ⟨_, rfl, by rw [put_n]; omega⟩⟩
    | true =>
      obtain ⟨y1, h1, e1, n1, o1⟩ := d1 ht
      obtain ⟨K, e2, u2, n2, w2⟩ := pX (h := h) (off := [.s y, fv c.cs 0].all offV) rfl e1 (by obtain ⟨bs, a, _⟩ := o1; have := a.sca; simp [this]) n1 o1
      rw [e2, apS_ok hf ht]
      simp only [gVT_t, gA1_s, ob, gx0, gx1, gB_b, ln0, ln1, Nat.zero_add, Nat.reduceAdd, if_true, vcase_b]
      rw [if_neg (by simp)]
      obtain ⟨u3, w3⟩ := own_tidy (l := [lv (chs all), pv m 0, .s y1, iv .i64 ((i + 1 : Nat) : Int)]) u2 w2 (Nat.le_refl _) (by simp)
      have wn := w.n
      exact ih (i + 1) (doR rs c) y1 _ g2 (ris_do hr) (by have := do_len rs c; omega) (w.next u3 w3 (by omega))
theorem f_spec_ApplyChanges {rs : List RowD} {all : List ChgD} (hs : ∀ r ∈ rs, r.text.size ≤ maxLen) (hok : ∀ c ∈ all, c.ok) (hl : rs.length ≤ 2000000) (hl2 : all.length ≤ 2000000) (n : Nat) :
    ∃ y h', call Ev Fn.spec_ApplyChanges [lv (rws rs), lv (chs all)] (D n) = some (.agg [.int .i64 (apF rs all).1, y], h') ∧ NewC 5 [.int .i64 (apF rs all).1, y] [.int .i64 (apF rs all).1, .fs (rws (apF rs all).2)] n h' := by
  rw [eq_spec_ApplyChanges, pc (p_l6Rows hs (by unfold maxLen; omega)) rfl]
  simp only [gV1_s, gI_i, vcase_b, bne_iff_ne, ne_eq]
  unfold apF
  by_cases h0 : rowsF rs = 0
  case neg =>
    obtain ⟨h', e, w⟩ := bad2D n 5 (rowsF rs)
    rw [if_pos h0, if_neg h0]
    exact ⟨_, h', e, w⟩
  rw [if_neg (by simp [h0]), if_pos h0]
  obtain ⟨v1, h1, e1, k1, n1, g1⟩ := app_fl (z := 4) (h := ((D n).new 0 [.int .i64 0, .sl none 0]).new 4 []) (y := lv (rws rs)) (more := rws rs) FlS.nil rws_row (cellsS_lv rws_row) rfl (by omega) (by simp; unfold lim; omega)
  rw [List.nil_append] at k1
  have hv := k1.v
  subst hv
  rw [e1, ob]
  have ai : ApI (D n) n (.sl (some ((((D n).new 0 [.int .i64 0, .sl none 0]).new 4 []).n, 0)) (rws rs).length) rs h1 := by
    refine ⟨by rw [n1]; simp; omega, by rw [g1 n (by simp; omega) (by simp), new_g' (by simp)]; exact new_g (D n) _ _, fun b hb => ?_, ?_⟩
    · rw [g1 b (by simp; omega) (by simp; omega), new_g' (by simp; omega), new_g' (by simp; omega)]
    · exact k1.own (by omega) (by simp) rws_sc
  obtain ⟨a, b⟩ := lp_spec (all := all) (m := n) hok (by omega) all 0 rs _ h1 rfl (ris_rows h0) (by omega) ai
  rw [show iv .i64 0 = iv .i64 ((0 : Nat) : Int) from rfl, apL_S, D_n]
  by_cases hz : (apS rs all).1 = 0
  case neg =>
    obtain ⟨h2, e2, n2⟩ := b hz
    rw [e2, ob, lcase_ret, if_neg hz]
    exact ⟨_, h2, rfl, by omega, bad_own⟩
  obtain ⟨y2, h2, e2, a2⟩ := a hz
  rw [e2, ob, lcase_done, if_pos hz]
  simp only [gx0, gx1, ob]
  rw [a2.o.len]
  simp only [ob, gV1_s, gI_i, vcase_b, decide_eq_true_eq, rws_len]
  have an := a2.n
  by_cases h60 : 60 < (apS rs all).2.length
  · rw [if_pos (by omega), if_pos h60, put_res a2.n a2.g]
    exact ⟨_, _, rfl, by rw [put_n]; omega, bad_own⟩
  · rw [if_neg (by omega), if_neg h60, cells2 a2.o.no, put_res a2.n a2.g]
    obtain ⟨bs, o1, o2, o3⟩ : OwnC 5 [.int .i64 0, y2] [.int .i64 0, .fs (rws (apS rs all).2)] n (h2.put n (.rw 0 [.int .i64 0, y2])).n (h2.put n (.rw 0 [.int .i64 0, y2])) := put_own (a2.o.lift (by omega))
    exact ⟨_, _, rfl, by rw [put_n]; omega, bs, o1, o2, o3⟩
end Vm
/-
  What changed makes the ones the others, and back again. (No program in sight.)
-/
namespace Vm
open Go
theorem eqRowB_iff {a b : RowD} : eqRowB a b = true ↔ a = b := by
  obtain ⟨a1, a2, a3, a4⟩ := a
  obtain ⟨b1, b2, b3, b4⟩ := b
  unfold eqRowB
  simp only [Bool.and_eq_true, beq_iff_eq, and_true, RowD.mk.injEq]
  constructor
  · rintro ⟨h1, h2, h3, h4⟩
    refine ⟨h1, h2, h3, ?_⟩
    rw [ByteArray.toList_eq, ByteArray.toList_eq] at h4
    cases a4; cases b4
    simp only [ByteArray.mk.injEq]
    exact Array.toList_inj.1 h4
  · rintro ⟨rfl, rfl, rfl, rfl⟩; exact ⟨rfl, rfl, rfl, rfl⟩
theorem same_symm {a b : RowD} (h : sameK a b = true) : sameK b a = true := by rw [same_iff] at *; omega
theorem same_trans {a b c : RowD} (h : sameK a b = true) (h2 : sameK b c = true) : sameK a c = true := by rw [same_iff] at *; omega
theorem getF_key {x y : RowD} (h : sameK x y = true) : ∀ l : List RowD, getF x l = getF y l
  | [] => rfl
  | r :: l => by
    have : sameK r x = sameK r y := by
      rw [same_iff] at h
      unfold sameK; rw [h.1, h.2]
    rw [getF, getF, this, getF_key h l]
theorem getF_mem {x r : RowD} : ∀ {l : List RowD}, getF x l = some r → r ∈ l ∧ sameK r x = true
  | q :: l, h => by
    rw [getF] at h
    split at h
    · rename_i hs
      injection h with h
      subst h
      exact ⟨by simp, hs⟩
    · exact ⟨by simp [(getF_mem h).1], (getF_mem h).2⟩
theorem get_mem {x : RowD} : ∀ {l : List RowD}, Ris l → x ∈ l → getF x l = some x
  | r :: l, h, hx => by
    obtain ⟨h1, h2⟩ := List.pairwise_cons.1 h
    rcases List.mem_cons.1 hx with rfl | hx
    · exact getF_hit same_refl
    · rw [getF_skip (bef_ns (h1 x hx))]; exact get_mem h2 hx
theorem ris_get {l m : List RowD} (h1 : Ris l) (h2 : Ris m) (h : ∀ x, getF x l = getF x m) : l = m :=
  ris_ext h1 h2 fun x => ⟨fun hx => (getF_mem ((h x).symm.trans (get_mem h1 hx))).1, fun hx => (getF_mem ((h x).trans (get_mem h2 hx))).1⟩
theorem getF_app {x : RowD} : ∀ {l m : List RowD}, (∀ r ∈ l, sameK r x = false) → getF x (l ++ m) = getF x m
  | [], m, _ => rfl
  | r :: l, m, h => by rw [List.cons_append, getF_skip (h r (by simp)), getF_app fun q hq => h q (by simp [hq])]
theorem getF_app2 {x : RowD} : ∀ {l m k : List RowD}, getF x m = getF x k → getF x (l ++ m) = getF x (l ++ k)
  | [], m, k, h => h
  | r :: l, m, k, h => by rw [List.cons_append, List.cons_append, getF, getF, getF_app2 h]
/-- what a change was, and what it is -/
def ChgD.bO (c : ChgD) : Option RowD := if c.was then some c.b else none
def ChgD.aO (c : ChgD) : Option RowD := if c.is then some c.a else none
theorem get_do {rs : List RowD} {c : ChgD} (h : Ris rs) (x : RowD) : getF x (doR rs c) = if sameK c.k x = true then c.aO else getF x rs := by
  have ht := tw_lt (k := c.k) (rs := rs)
  have hh := hi_gt (k := c.k) h
  by_cases hs : sameK c.k x = true
  · rw [if_pos hs]
    have e1 : ∀ r ∈ twR c.k rs, sameK r x = false := fun r hr => by
      have := ht r hr
      cases hq : sameK r x with
      | false => rfl
      | true => rw [same_iff] at hq hs; rw [bef_iff] at this; omega
    have e2 : getF x (hiR c.k rs) = none := getF_none fun r hr => by
      have := hh r hr
      cases hq : sameK r x with
      | false => rfl
      | true => rw [same_iff] at hq hs; rw [bef_iff] at this; omega
    unfold doR ChgD.aO
    rw [getF_app e1]
    cases hi : c.is with
    | false => simpa using e2
    | true =>
      have hk : c.k = c.a := by unfold ChgD.k; rw [if_pos hi]
      rw [if_pos rfl, if_pos rfl, List.singleton_append]
      exact getF_hit (by rw [← hk]; exact hs)
  · rw [if_neg hs]
    have hs' : sameK c.k x = false := by simpa using hs
    unfold doR
    conv => rhs; rw [← td_app c.k rs]
    refine getF_app2 ?_
    have e1 : getF x ((if c.is = true then [c.a] else []) ++ hiR c.k rs) = getF x (hiR c.k rs) := getF_app fun r hr => by
      split at hr
      · rename_i hi
        have hk : c.k = c.a := by unfold ChgD.k; rw [if_pos hi]
        rw [show r = c.a from by simpa using hr, ← hk]; exact hs'
      · simp at hr
    rw [e1]
    cases hf : fnd c.k rs with
    | false => unfold hiR; rw [hf]; rfl
    | true =>
      obtain ⟨r, t, d1, d2, d3, d4⟩ := fnd_row hf
      rw [d2, d1]
      refine (getF_skip ?_).symm
      cases hq : sameK r x with
      | false => rfl
      | true => rw [same_trans (same_symm d3) hq] at hs'; cases hs'
theorem fit_get {rs : List RowD} {c : ChgD} (h : Ris rs) (hg : getF c.k rs = c.bO) : fitR rs c = true := by
  have ht := tw_lt (k := c.k) (rs := rs)
  have e1 : ∀ r ∈ twR c.k rs, sameK r c.k = false := fun r hr => bef_ns (ht r hr)
  have ha := td_app c.k rs
  unfold ChgD.bO at hg
  unfold fitR
  cases hf : fnd c.k rs with
  | false =>
    have : getF c.k rs = none := by
      rw [← ha, getF_app e1]
      have h2 := hi_gt (k := c.k) h
      unfold hiR at h2
      rw [hf, if_neg (by simp)] at h2
      exact getF_none fun r hr => bef_sn (h2 r hr)
    rw [this] at hg
    cases hw : c.was with
    | false => rfl
    | true => rw [hw] at hg; cases hg
  | true =>
    obtain ⟨r, t, d1, d2, d3, d4⟩ := fnd_row hf
    have : getF c.k rs = some r := by
      rw [← ha, getF_app e1, d1]; exact getF_hit d3
    rw [this] at hg
    cases hw : c.was with
    | false => rw [hw] at hg; cases hg
    | true =>
      rw [hw, if_pos rfl] at hg
      injection hg with hg
      rw [d1]
      simp only [beq_self_eq_true, Bool.not_true, Bool.false_or, Bool.true_and]
      exact eqRowB_iff.2 hg
theorem do_fit {cs : List ChgD} : ∀ {rs : List RowD}, Ris rs → (∀ c ∈ cs, chgF c = 0 ∧ getF c.k rs = c.bO) → cs.Pairwise (fun c d => sameK c.k d.k = false) →
    (apS rs cs).1 = 0 ∧ Ris (apS rs cs).2 ∧ ∀ x, (∃ c ∈ cs, sameK c.k x = true ∧ getF x (apS rs cs).2 = c.aO) ∨ ((∀ c ∈ cs, sameK c.k x = false) ∧ getF x (apS rs cs).2 = getF x rs) := by
  induction cs with
  | nil => intro rs h _ _; exact ⟨rfl, h, fun x => .inr ⟨by simp, rfl⟩⟩
  | cons c cs ih =>
    intro rs h h1 h2
    obtain ⟨p1, p2⟩ := List.pairwise_cons.1 h2
    obtain ⟨c1, c2⟩ := h1 c (by simp)
    rw [apS_ok c1 (fit_get h c2)]
    obtain ⟨i1, i2, i3⟩ := ih (ris_do (c := c) h) (fun d hd => ⟨(h1 d (by simp [hd])).1, by
      rw [get_do h, if_neg (by rw [p1 d hd]; simp)]; exact (h1 d (by simp [hd])).2⟩) p2
    refine ⟨i1, i2, fun x => ?_⟩
    rcases i3 x with ⟨d, hd, q1, q2⟩ | ⟨q1, q2⟩
    · exact .inl ⟨d, by simp [hd], q1, q2⟩
    · rw [get_do h] at q2
      by_cases hs : sameK c.k x = true
      · rw [if_pos hs] at q2
        exact .inl ⟨c, by simp, hs, q2⟩
      · rw [if_neg hs] at q2
        refine .inr ⟨fun d hd => ?_, q2⟩
        rcases List.mem_cons.1 hd with rfl | hd
        · simpa using hs
        · exact q1 d hd
/-- changes that lead from rows to others -/
structure Turns (a b : List RowD) (cs : List ChgD) : Prop where
  f : ∀ c ∈ cs, singF c = 0
  c : ∀ c ∈ cs, ∀ x, sameK c.k x = true → getF x a = c.bO ∧ getF x b = c.aO
  p : cs.Pairwise (fun c d => sameK c.k d.k = false)
  e : ∀ x, (∀ c ∈ cs, sameK c.k x = false) → getF x a = getF x b
theorem sing_chg {c : ChgD} (h : singF c = 0) : chgF c = 0 := by
  unfold singF at h
  by_cases h0 : chgF c = 0
  · exact h0
  · rw [if_neg h0] at h; exact absurd h h0
theorem Turns.apS {a b : List RowD} {cs : List ChgD} (w : Turns a b cs) (ha : Ris a) (hb : Ris b) : apS a cs = (0, b) := by
  obtain ⟨i1, i2, i3⟩ := do_fit (cs := cs) ha (fun c hc => ⟨sing_chg (w.f c hc), (w.c c hc c.k same_refl).1⟩) w.p
  have : (Vm.apS a cs).2 = b := ris_get i2 hb fun x => by
    rcases i3 x with ⟨c, hc, q1, q2⟩ | ⟨q1, q2⟩
    · rw [q2, (w.c c hc x q1).2]
    · rw [q2, w.e x q1]
  rw [← i1, ← this]
theorem Turns.nil {a b : List RowD} (w : Turns a b []) (ha : Ris a) (hb : Ris b) : a = b := ris_get ha hb fun x => w.e x (by simp)
theorem Turns.self {a : List RowD} {cs : List ChgD} (w : Turns a a cs) : cs = [] := by
  cases cs with
  | nil => rfl
  | cons c cs =>
    exfalso
    obtain ⟨h1, h2⟩ := w.c c (by simp) c.k same_refl
    rw [h1] at h2
    have hf := w.f c (by simp)
    have h0 := sing_chg hf
    unfold singF at hf
    rw [if_pos h0] at hf
    unfold ChgD.bO ChgD.aO at h2
    cases hw : c.was <;> cases hi : c.is <;> rw [hw, hi] at h2 hf
    · unfold chgF at h0; rw [hw, hi] at h0; simp at h0
    · cases h2
    · cases h2
    · rw [if_pos rfl, if_pos rfl] at h2
      injection h2 with h2
      rw [h2, show eqRowB c.a c.a = true from eqRowB_iff.2 rfl] at hf
      simp at hf
theorem inv_k {c : ChgD} (h : chgF c = 0) : sameK (invC c).k c.k = true := by
  unfold chgF at h
  unfold invC ChgD.k
  cases hw : c.was <;> cases hi : c.is <;> rw [hw, hi] at h
  · simp at h
  · simp [same_refl]
  · simp [same_refl]
  · simp only [Bool.not_true, Bool.false_and, Bool.true_and, Bool.false_or] at h
    cases hs : sameK c.b c.a with
    | true => simp [hs]
    | false => rw [hs] at h; simp at h
theorem inv_sing {c : ChgD} (h : singF c = 0) : singF (invC c) = 0 := by
  have h0 := sing_chg h
  have hk : ∀ a b : RowD, eqRowB a b = eqRowB b a := fun a b => by
    cases h1 : eqRowB b a with
    | true => rw [eqRowB_iff] at *; exact h1.symm
    | false =>
      cases h2 : eqRowB a b with
      | false => rfl
      | true => rw [eqRowB_iff] at h2; rw [eqRowB_iff.2 h2.symm] at h1; cases h1
  have h1 : chgF (invC c) = 0 := by
    have hs : sameK c.a c.b = sameK c.b c.a := by
      cases h1 : sameK c.b c.a with
      | true => exact same_symm h1
      | false =>
        cases h2 : sameK c.a c.b with
        | false => rfl
        | true => rw [same_symm h2] at h1; cases h1
    unfold chgF at h0 ⊢
    show (if (!c.is && !c.was) || (c.is && c.was && !sameK c.a c.b) then (1 : Int) else if c.is = true ∧ rowF c.a ≠ 0 then rowF c.a else if c.was then rowF c.b else 0) = 0
    rw [hs]
    cases hw : c.was <;> cases hi : c.is <;> rw [hw, hi] at h0
    · simp at h0
    · simp at h0 ⊢; exact fun _ => h0
    · simp at h0 ⊢
      by_cases hr : rowF c.b = 0
      · exact hr
      · exact h0 hr
    · simp only [Bool.not_true, Bool.false_and, Bool.true_and, Bool.false_or] at h0 ⊢
      split at h0
      · cases h0
      · rename_i hx
        rw [if_neg hx]
        by_cases hr : rowF c.b = 0
        · simp [hr] at h0
          simp [hr, h0]
        · simp [hr] at h0
  unfold singF at h ⊢
  rw [if_pos h0] at h
  rw [if_pos h1]
  show (if c.is && c.was && eqRowB c.a c.b then (1 : Int) else 0) = 0
  rw [hk c.a c.b, Bool.and_comm c.is]
  exact h
theorem Turns.inv {a b : List RowD} {cs : List ChgD} (w : Turns a b cs) : Turns b a (invs cs) := by
  have hm : ∀ d ∈ invs cs, ∃ c ∈ cs, d = invC c := fun d hd => by
    unfold invs at hd
    obtain ⟨c, hc, rfl⟩ := List.mem_map.1 hd
    exact ⟨c, List.mem_reverse.1 hc, rfl⟩
  refine ⟨fun d hd => ?_, fun d hd x hx => ?_, ?_, fun x hx => ?_⟩
  · obtain ⟨c, hc, rfl⟩ := hm d hd
    exact inv_sing (w.f c hc)
  · obtain ⟨c, hc, rfl⟩ := hm d hd
    have := w.c c hc x (same_trans (same_symm (inv_k (sing_chg (w.f c hc)))) hx)
    exact ⟨this.2, this.1⟩
  · unfold invs
    rw [List.pairwise_map, List.pairwise_reverse]
    refine List.Pairwise.imp_of_mem (fun {c d} hc hd h => ?_) w.p
    have k1 := inv_k (sing_chg (w.f c hc))
    have k2 := inv_k (sing_chg (w.f d hd))
    cases hq : sameK (invC d).k (invC c).k with
    | false => rfl
    | true => rw [same_trans (same_symm k1) (same_trans (same_symm hq) k2)] at h; cases h
  · refine (w.e x fun c hc => ?_).symm
    have k1 := inv_k (sing_chg (w.f c hc))
    have := hx (invC c) (by unfold invs; exact List.mem_map.2 ⟨c, List.mem_reverse.2 hc, rfl⟩)
    cases hq : sameK c.k x with
    | false => rfl
    | true => rw [same_trans k1 hq] at this; cases this
/-! the changes between rising rows -/
theorem btw_map {a b : List RowD} (ha : Ris a) (hb : Ris b) : btw a b = ((mrgK a b).filter fun x => keepB (ckF a b x)).map (ckF a b) := by
  rw [← mrg_btw ha hb]
  generalize mrgK a b = l
  induction l with
  | nil => rfl
  | cons x l ih =>
    rw [List.flatMap_cons, ih, List.filter_cons]
    unfold one
    split <;> rfl
theorem btw_turns {a b : List RowD} (ha : Ris a) (hb : Ris b) (fa : ∀ r ∈ a, rowF r = 0) (fb : ∀ r ∈ b, rowF r = 0) : Turns a b (btw a b) := by
  obtain ⟨m1, m2⟩ := mrg_ok ha hb
  have some_of : ∀ x ∈ mrgK a b, (getF x a).isSome = true ∨ (getF x b).isSome = true := fun x hx => by
    rcases (m2 x).1 hx with h | ⟨h, _⟩
    · left; rw [get_mem ha h]; rfl
    · right; rw [get_mem hb h]; rfl
  have key : ∀ x ∈ mrgK a b, sameK (ckF a b x).k x = true := fun x hx => by
    unfold ckF ChgD.k
    cases hg : getF x b with
    | some r => exact (getF_mem hg).2
    | none =>
      rcases some_of x hx with h | h
      · cases hg2 : getF x a with
        | none => rw [hg2] at h; cases h
        | some r => exact (getF_mem hg2).2
      · rw [hg] at h; cases h
  have hm : ∀ c ∈ btw a b, ∃ x ∈ mrgK a b, keepB (ckF a b x) = true ∧ c = ckF a b x := fun c hc => by
    rw [btw_map ha hb] at hc
    obtain ⟨x, hx, rfl⟩ := List.mem_map.1 hc
    obtain ⟨h1, h2⟩ := List.mem_filter.1 hx
    exact ⟨x, h1, h2, rfl⟩
  have bo : ∀ x, (ckF a b x).bO = getF x a := fun x => by
    unfold ckF ChgD.bO
    cases getF x a <;> rfl
  have ao : ∀ x, (ckF a b x).aO = getF x b := fun x => by
    unfold ckF ChgD.aO
    cases getF x b <;> rfl
  refine ⟨fun c hc => ?_, fun c hc x hx => ?_, ?_, fun x hx => ?_⟩
  · obtain ⟨x, hx, hk, rfl⟩ := hm c hc
    have hso := some_of x hx
    have h0 : chgF (ckF a b x) = 0 := by
      unfold chgF ckF
      cases h1 : getF x a with
      | none =>
        cases h2 : getF x b with
        | none => rw [h1, h2] at hso; simp at hso
        | some r => simpa using fb r (getF_mem h2).1
      | some q =>
        have f1 := fa q (getF_mem h1).1
        cases h2 : getF x b with
        | none => simp; exact fun _ => f1
        | some r =>
          have f2 := fb r (getF_mem h2).1
          have hs := same_trans (getF_mem h1).2 (same_symm (getF_mem h2).2)
          simp [hs, f1, f2]
    unfold singF
    rw [if_pos h0]
    unfold keepB at hk
    generalize ckF a b x = c at hk
    cases hw : c.was <;> cases hi : c.is <;> rw [hw, hi] at hk <;> simp_all
  · obtain ⟨y, hy, hk, rfl⟩ := hm c hc
    have hs := same_trans (same_symm (key y hy)) hx
    rw [bo, ao, getF_key (same_symm hs) a, getF_key (same_symm hs) b]
    exact ⟨rfl, rfl⟩
  · rw [btw_map ha hb, List.pairwise_map]
    refine List.Pairwise.imp_of_mem (fun {x y} hx hy h => ?_) (List.Pairwise.filter _ m1)
    have k1 := key x (List.mem_filter.1 hx).1
    have k2 := key y (List.mem_filter.1 hy).1
    cases hq : sameK (ckF a b x).k (ckF a b y).k with
    | false => rfl
    | true =>
      have := same_trans (same_symm k1) (same_trans hq k2)
      rw [bef_ns h] at this; cases this
  · by_cases hk : ∃ y ∈ mrgK a b, sameK y x = true
    · obtain ⟨y, hy, hs⟩ := hk
      rw [getF_key (same_symm hs) a, getF_key (same_symm hs) b]
      cases hkb : keepB (ckF a b y) with
      | true =>
        have := hx (ckF a b y) (by rw [btw_map ha hb]; exact List.mem_map.2 ⟨y, List.mem_filter.2 ⟨hy, hkb⟩, rfl⟩)
        rw [same_trans (key y hy) hs] at this; cases this
      | false =>
        unfold keepB ckF at hkb
        cases h1 : getF y a with
        | none => rw [h1] at hkb; simp at hkb
        | some q =>
          cases h2 : getF y b with
          | none => rw [h1, h2] at hkb; simp at hkb
          | some r =>
            rw [h1, h2] at hkb
            have : eqRowB q r = true := by simpa using hkb
            rw [eqRowB_iff.1 this]
    · cases h1 : getF x a with
      | some q => exact absurd ⟨q, (m2 q).2 (.inl (getF_mem h1).1), (getF_mem h1).2⟩ hk
      | none =>
        cases h2 : getF x b with
        | none => rfl
        | some r =>
          refine absurd ⟨r, (m2 r).2 (.inr ⟨(getF_mem h2).1, ?_⟩), (getF_mem h2).2⟩ hk
          rw [getF_key (getF_mem h2).2 a, h1]
theorem fir_0 : ∀ {cs : List ChgD}, (∀ c ∈ cs, singF c = 0) → firF cs = 0
  | [], _ => rfl
  | c :: cs, h => by rw [firF, if_pos (h c (by simp))]; exact fir_0 fun d hd => h d (by simp [hd])
theorem apF_turns {a b : List RowD} {cs : List ChgD} (w : Turns a b cs) (ha : rowsF a = 0) (hb : rowsF b = 0) : apF a cs = (0, b) := by
  have hl : b.length ≤ 60 := by
    unfold rowsF at hb
    split at hb
    · omega
    · omega
  unfold apF
  rw [if_pos ha, apL_S, w.apS (ris_rows ha) (ris_rows hb), if_pos rfl, if_neg (by simp; omega)]
theorem chg_all {a b : List RowD} (ha : rowsF a = 0) (hb : rowsF b = 0) (hl : a.length + b.length ≤ 60) :
    apF a (btw a b) = (0, b) ∧ ivF (btw a b) = 0 ∧ ivL (btw a b) = invs (btw a b) ∧ apF b (invs (btw a b)) = (0, a) ∧ ((btw a b).length = 0 ↔ a = b) := by
  have fr : ∀ {l : List RowD}, rowsF l = 0 → ∀ r ∈ l, rowF r = 0 := fun {l} h => by
    unfold rowsF at h
    split at h
    · omega
    · exact rowsFrom_all h
  have w := btw_turns (ris_rows ha) (ris_rows hb) (fr ha) (fr hb)
  have hi : ivF (btw a b) = 0 := by
    unfold ivF
    rw [if_neg (by have := btw_len a b; omega)]
    exact fir_0 w.f
  refine ⟨apF_turns w ha hb, hi, by unfold ivL; rw [if_pos hi], apF_turns w.inv hb ha, fun h => ?_, fun h => ?_⟩
  · rw [List.length_eq_zero_iff.1 h] at w
    exact w.nil (ris_rows ha) (ris_rows hb)
  · subst h
    rw [w.self]; rfl
end Vm
/-
  The changes between rows, told by the specification; what is drawn for the law on changes.
-/
namespace Vm
open Go
def chgs (bs ns : List RowD) : List ChgD := (keysF bs ns).flatMap fun x => one (ckF bs ns x)
theorem chgs_ris {bs ns : List RowD} (hb : Ris bs) (hn : Ris ns) : chgs bs ns = btw bs ns := keys_btw hb hn
theorem chgs_len (bs ns : List RowD) : (chgs bs ns).length ≤ bs.length + ns.length := by
  have h1 := keys_len bs ns bs
  have : ∀ l : List RowD, (l.flatMap fun x => one (ckF bs ns x)).length ≤ l.length := fun l => by
    induction l with
    | nil => simp
    | cons x l ih => rw [List.flatMap_cons, List.length_append, List.length_cons]; have := one_len (ckF bs ns x); omega
  exact Nat.le_trans (this _) h1
theorem get_txt {x : RowD} {l : List RowD} {k : Nat} (h : ∀ r ∈ l, r.text.size ≤ k) : ((getF x l).getD zR).text.size ≤ k := by
  cases hg : getF x l with
  | none => exact Nat.zero_le _
  | some r => exact h r (getF_mem hg).1
theorem chgs_ok {bs ns : List RowD} {k : Nat} (h1 : ∀ r ∈ bs, r.text.size ≤ k) (h2 : ∀ r ∈ ns, r.text.size ≤ k) : ∀ c ∈ chgs bs ns, c.b.text.size ≤ k ∧ c.a.text.size ≤ k := by
  intro c hc
  unfold chgs at hc
  obtain ⟨x, hx, hc⟩ := List.mem_flatMap.1 hc
  unfold one at hc
  split at hc
  · rw [List.mem_singleton.1 hc]
    exact ⟨get_txt h1, get_txt h2⟩
  · simp at hc
/-- a call with an answer of its own, a slice of flat rows -/
theorem pG {cl : Nat → List V → H → Option (V × H)} {g : Nat} {off : Bool} {xs : List V} {h : H} {z : Nat} {y : S} {rows : List (List S)} {bs : List Nat} {h1 : H} (hc : cl g xs (D h.n) = some (.s y, h1)) (w : OutS z 0 y rows bs h1) (hle : h.n ≤ h1.n) (hb : ∀ b ∈ bs, h.n ≤ b) :
    ∃ K, (∀ (R : Type) (k : V → H → Option R), pcallF cl g off xs h k = k (.s y) K) ∧ Up h K ∧ OutS z 0 y rows bs K := by
  have ov : ∀ h2 : H, h2.n = h1.n → (∀ b, (h1.g b).cells.all scaS = true → h2.g b = h1.g b) → Up h (h.over h2) ∧ OutS z 0 y rows bs (h.over h2) := fun h2 hn2 hg2 => by
    have hle2 : h.n ≤ h2.n := by omega
    refine ⟨up_over hle2, w.frame fun b hbb => ?_⟩
    have := w.rep.lt b hbb
    exact ⟨by rw [over_n hle2]; omega, by rw [over_ge (hb b hbb)]; exact hg2 b (w.rep.scaB b hbb)⟩
  cases off with
  | true =>
    obtain ⟨a1, a2⟩ := ov h1 rfl (fun _ _ => rfl)
    refine ⟨h.over h1, fun R k => ?_, a1, a2⟩
    unfold pcallF
    rw [hc, Vm.ob]
    unfold fchk
    rw [if_pos (.inl rfl)]; rfl
  | false =>
    obtain ⟨a1, a2⟩ := ov (scrub h.n h1) rfl (fun b hb => scrub_g hb)
    refine ⟨h.over (scrub h.n h1), fun R k => ?_, a1, a2⟩
    unfold pcallF
    rw [hc, Vm.ob]
    unfold fchk
    rw [if_pos (.inr w.rep.sca)]; rfl
theorem f_l6Changes {bs ns : List RowD} (hl : bs.length ≤ 1000) (hl2 : ns.length ≤ 1000) (n : Nat) : ∃ y h' q, call Ev Fn.spec_l6Changes [lv (rws bs), lv (rws ns)] (D n) = some (.s y, h') ∧ n ≤ h'.n ∧ OutS 10 0 y (chs (chgs bs ns)) q h' ∧ ∀ b ∈ q, n ≤ b := by
  rw [eq_spec_l6Changes]
  obtain ⟨v1, h1, e1, w1, n1, k1⟩ := app_fl (z := 4) (h := (D n).new 4 []) (y := lv (rws bs)) (more := rws bs) FlS.nil rws_row (cellsS_lv rws_row) rfl (by omega) (by simp; unfold lim; omega)
  rw [e1, ob]
  obtain ⟨v2, b2, h2, e2, w2, n2⟩ := lp_keys (bs := bs) (ns := ns) (by unfold maxLen; omega) (by omega) ns 0 bs v1 _ h1 rfl (by simpa using w1) (by omega)
  rw [show iv .i64 0 = iv .i64 ((0 : Nat) : Int) from rfl, e2, ob, lcase_done]
  simp only [gx0, gx1, ob, gV1_s, gF_f]
  have hkl := keys_len bs ns bs
  obtain ⟨y3, h3, e3, w3⟩ := lp_chgs (bs := bs) (ns := ns) (ks := ns.foldl (keyStep bs) bs) (by unfold maxLen; omega) (by unfold maxLen; omega) (by omega) w2 rfl _ 0 _ [] _ rfl (by simp) (Gr.new (z := 10) (h := h2) (by omega))
  rw [e3, ob, lcase_done]
  simp only [gx0, ob]
  rw [List.nil_append, List.drop_zero] at w3
  obtain ⟨g1, g2, q, g3, g4⟩ := w3
  rw [new_n, D_n] at n1
  exact ⟨y3, h3, q, rfl, by omega, g3, fun b hb => by have := g4 b hb; omega⟩
theorem f_spec_ChangesOf {bs ns : List RowD} (hs : ∀ r ∈ bs, r.text.size ≤ maxLen) (hs' : ∀ r ∈ ns, r.text.size ≤ maxLen) (hl : bs.length ≤ maxLen) (hl' : ns.length ≤ maxLen) (n : Nat) : ∃ y h', call Ev Fn.spec_ChangesOf [lv (rws bs), lv (rws ns)] (D n) = some (.agg [.int .i64 (chC bs ns), y], h') ∧ NewC 5 [.int .i64 (chC bs ns), y] [.int .i64 (chC bs ns), .fs (chs (chL bs ns))] n h' := by
  rw [eq_spec_ChangesOf, pc (p_l6Rows hs hl) rfl]
  simp only [gV1_s, gI_i, vcase_b, bne_iff_ne, ne_eq]
  rw [pc (p_l6Rows hs' hl') rfl]
  simp only [gV1_s, gI_i, vcase_b, bne_iff_ne, ne_eq]
  unfold chL chC
  by_cases h0 : rowsF bs = 0
  case neg =>
    obtain ⟨h', e, w⟩ := bad2D n 5 (rowsF bs)
    rw [if_pos h0, if_neg h0, if_neg h0]
    exact ⟨_, h', e, w⟩
  rw [if_neg (by simp [h0]), if_pos h0]
  by_cases h1 : rowsF ns = 0
  case neg =>
    obtain ⟨h', e, w⟩ := bad2D n 5 (rowsF ns)
    rw [if_pos h1, if_neg h1]
    exact ⟨_, h', e, w⟩
  have b60 : ∀ {l : List RowD}, rowsF l = 0 → l.length ≤ 60 := fun {l} h => by
    unfold rowsF at h
    split at h
    · omega
    · omega
  have k1 := b60 h0
  have k2 := b60 h1
  rw [if_neg (by simp [h1]), if_pos h1, h1]
  obtain ⟨y, h2, q, e2, n2, o2, q2⟩ := f_l6Changes (bs := bs) (ns := ns) (by omega) (by omega) (n + 1)
  rw [chgs_ris (ris_rows h0) (ris_rows h1)] at o2
  obtain ⟨h', e, w⟩ := fin2 (off := true) e2 n2 (OwnF.lift (k := 5) (show OwnF 1 y (.fs (chs (btw bs ns))) (n + 1) h2.n h2 from ⟨q, o2.rep, o2.nd, fun b hb => ⟨q2 b hb, o2.rep.lt b hb⟩⟩) (by omega))
  exact ⟨y, h', e, w⟩
end Vm
/-
  What is drawn for the law on changes: rows, and other rows.
-/
namespace Vm
open Go
theorem r_source' {l : List UInt8} (h : H) : ∃ K : H, (∀ (R : Type) (k : V → H → Option R), pcallF (call Ev) Fn.spec_l1Source true [lv (bys l)] h k = k (pv h.n 0) K) ∧ Src h.n l 0 K ∧ Up h K ∧ K.n = h.n + 1 := by
  have hle : h.n ≤ ((D h.n).new 0 [.fs (bys l), .int .i64 0]).n := by simp
  refine ⟨h.over ((D h.n).new 0 [.fs (bys l), .int .i64 0]), fun R k => ?_, ⟨by rw [over_n hle]; simp, by rw [over_ge (Nat.le_refl _)]; exact new_g (D h.n) _ _⟩, up_over hle, by rw [over_n hle]; simp⟩
  unfold pcallF
  rw [eq_spec_l1Source, Vm.ob]
  unfold fchk
  rw [if_pos (.inl rfl)]; rfl
theorem RwS.own {b lo n : Nat} {v : V} {ks : List RowD} {h : H} (w : RwS b lo v ks h) (hn : n ≤ lo) : OwnV v (.fs (rws ks)) n h.n h := by
  obtain ⟨q, f1, f2, f3⟩ := w.ex
  have hv := f1.v
  subst hv
  exact ⟨_, rfl, (FlS.own (n := n) f1 (by omega) (by omega) rws_sc).lift (by omega)⟩
theorem OwnV.top {v : V} {f : S} {lo hi hi' : Nat} {h : H} (w : OwnV v f lo hi h) (hh : hi ≤ hi') : OwnV v f lo hi' h := by
  obtain ⟨y, rfl, bs, w1, w2, w3⟩ := w
  exact ⟨y, rfl, bs, w1, w2, fun b hb => by have := w3 b hb; omega⟩
theorem RwS.toA {b lo : Nat} {v : V} {ks : List RowD} {h : H} (w : RwS b lo v ks h) : ∃ x, v = .s x := by
  obtain ⟨q, f1, _⟩ := w.ex
  exact ⟨_, f1.v⟩
/-- a part of a slice of flat rows -/
theorem slK_fl {R : Type} {z b k : Nat} {h : H} {v : V} {rows : List (List S)} {kd : IntKind} {f : V → Option R} (w : FlS z h v rows b) (hk : k ≤ rows.length) : slK z h v (some (iv kd (k : Int))) none f = f (sv b (k * z) (rows.length - k)) := by
  have hv := w.v
  have hok : okE h z b = true := by
    unfold okE
    rw [w.g]
    simp [w.n]
  subst hv
  have hb : bnd rows.length (iv kd (k : Int)) = some k := by simp [bnd]; omega
  simp only [slK, slS, Option.bind_some, hb, hok, if_true, Nat.zero_add]
theorem cells_fl {z b k : Nat} {h : H} {v : V} {rows : List (List S)} (w : FlS z h v rows b) (hk : k ≤ rows.length) : cellsS z h (sv b (k * z) (rows.length - k)) = some (rows.drop k).flatten := by
  have hc : h.cells b = rows.flatten := by unfold H.cells; rw [if_pos w.n, w.g]; rfl
  have hl := flat_len w.z
  have e : rows.flatten = (rows.take k).flatten ++ (rows.drop k).flatten := by rw [← List.flatten_append, List.take_append_drop]
  have hz1 := flat_len (rows := rows.take k) (z := z) fun r hr => w.z r (List.mem_of_mem_take hr)
  have hz2 := flat_len (rows := rows.drop k) (z := z) fun r hr => w.z r (List.mem_of_mem_drop hr)
  rw [List.length_take, Nat.min_eq_left hk] at hz1
  rw [List.length_drop] at hz2
  simp only [cellsS, hc]
  have hkz : k * z + (rows.length - k) * z = rows.length * z := by rw [← Nat.add_mul]; congr 1; omega
  rw [if_pos ⟨w.n, by omega⟩, e, ← hz1, List.drop_left, ← hz2, List.take_length]
structure DrA (n : Nat) (a b : List RowD) (x y : S) (h : H) : Prop where
  nn : n ≤ h.n
  ox : OwnV (.s x) (.fs (rws a)) n h.n h
  oy : OwnV (.s y) (.fs (rws b)) n h.n h
  la : a.length ≤ 61
  lb : b.length ≤ 61
  s : a.length ≤ 60 → b.length ≤ 60 → a.length + b.length ≤ 60
  ta : ∀ r ∈ a, r.text.size ≤ 9
  tb : ∀ r ∈ b, r.text.size ≤ 9
theorem f_DrawChangesOf {l : List UInt8} (hl : l.length ≤ 1048576) (n : Nat) : ∃ (a b : List RowD) (x y : S) (h' : H), call Ev Fn.spec_DrawChangesOf [lv (bys l)] (D n) = some (.tup [.s x, .s y], h') ∧ DrA n a b x y h' := by
  rw [eq_spec_DrawChangesOf]
  obtain ⟨K, e1, s1, u1, n1⟩ := r_source' (l := l) (D n)
  simp only [D_n] at e1 s1 n1
  rw [e1]
  obtain ⟨v, ks, h2, e2, w2, l2, r2, d2⟩ := r_BentRows s1 hl (by omega)
  rw [e2, ob]
  dsimp only
  have d2' := d2.tidy s1.n [v]
  have w2' : RwS n K.n v ks (tidy K [v] h2) := w2.tidy (by simp)
  have hX : ∃ X, tidy K [v] h2 = X := ⟨_, rfl⟩
  obtain ⟨X, hX⟩ := hX
  rw [hX] at d2' w2' ⊢
  obtain ⟨a2, s2, la2⟩ := d2'.ex
  obtain ⟨q, h3, e3, w3, n3, o3, t3⟩ := r_chance s2 hl (by omega) (n := 2) (by omega) (by omega)
  rw [e3]; simp only [ob, gV1_s, gB_b]
  obtain ⟨xv, rfl⟩ := w2'.toA
  have hXn := d2'.n
  have w3' : RwS n K.n (.s xv) ks h3 := by
    obtain ⟨q0, f1, f2, f3⟩ := w2'.ex
    exact ⟨q0, f1.keep (by omega) (o3 q0 f3), f2, f3⟩
  obtain ⟨q0, f1, f2, f3⟩ := w3'.ex
  have fv := f1.v
  have len0 : lenV (.sl 39) (.s xv) = some (iv .i64 (ks.length : Int)) := by rw [fv]; simp [lenV]
  -- the other way
  have other : ∃ (a b : List RowD) (x y : S) (h' : H), Jn.spec_DrawChangesOf_0 false K (.s xv, h2) (bv q, h3) (pv n 0) = some (.tup [.s x, .s y], h') ∧ DrA n a b x y h' := by
    unfold Jn.spec_DrawChangesOf_0
    rw [vcase_b, if_neg (by simp)]
    dsimp only
    rw [hX, t3]
    obtain ⟨v4, ks4, h4, e4, w4, l4, r4, d4⟩ := r_BentRows w3 hl (by omega)
    rw [e4, ob]
    dsimp only
    have d4' := d4.tidy w3.n [v4]
    have w4' : RwS n h3.n v4 ks4 (tidy h3 [v4] h4) := w4.tidy (by simp)
    generalize tidy h3 [v4] h4 = Y at d4' w4' ⊢
    have w5 : RwS n K.n (.s xv) ks Y := w3'.dr d4'
    obtain ⟨x4, rfl⟩ := w4'.toA
    refine ⟨ks, ks4, xv, x4, Y, rfl, by have := d4'.n; omega, w5.own (by omega), w4'.own (by omega), by omega, by omega, fun _ _ => by omega, r2, r4⟩
  cases q with
  | false =>
    rw [vcase_b, if_neg (by simp)]
    exact other
  | true =>
    rw [vcase_b, if_pos rfl, len0, ob]
    simp only [gV1_s, gI_i]
    by_cases hk : (ks.length : Int) > 0
    case neg => rw [decide_eq_false hk]; exact other
    rw [decide_eq_true hk]
    unfold Jn.spec_DrawChangesOf_0
    rw [vcase_b, if_pos rfl]
    dsimp only
    rw [hX, t3]
    have f1n := f1.n
    have hb3 := w3.n
    have f4 : FlS 4 (h3.new 4 []) (.s xv) (rws ks) q0 := f1.keep (by simp) (new_g' (by omega))
    have hkl : 1 ≤ (rws ks).length := by rw [rws_len]; omega
    rw [show iv .i64 1 = iv .i64 ((1 : Nat) : Int) from rfl, slK_fl f4 hkl]
    obtain ⟨v5, h5, e5, w5, n5, k5⟩ := app_fl (z := 4) (h := h3.new 4 []) (y := sv q0 (1 * 4) ((rws ks).length - 1)) (more := (rws ks).drop 1) FlS.nil (fun r hr => rws_row r (List.mem_of_mem_drop hr)) (cells_fl f4 hkl) (by simp [lenS]) (by omega) (by simp; unfold lim; omega)
    rw [e5, ob]
    rw [List.nil_append] at w5
    have hdr : (rws ks).drop 1 = rws (ks.drop 1) := by simp [rws]
    rw [hdr] at w5
    have v5e := w5.v
    rw [new_n] at n5 k5
    have sr5 : Src n l (a2 + 1) h5 := ⟨by omega, by rw [k5 n (by omega) (by omega), new_g' (by omega)]; exact w3.g⟩
    have fa5 : FlS 4 h5 (.s xv) (rws ks) q0 := f1.keep (by rw [n5]; omega) (by rw [k5 q0 (by omega) (by omega), new_g' (by omega)])
    have rd : ∀ r ∈ ks.drop 1, r.text.size ≤ 9 := fun r hr => r2 r (List.mem_of_mem_drop hr)
    rw [v5e]
    rw [show lenV (.sl 39) (sv (h3.new 4 []).n 0 (rws (ks.drop 1)).length) = some (iv .i64 ((ks.drop 1).length : Int)) from by simp [lenV], ob]
    simp only [gV1_s, gI_i]
    have hsum : ks.length ≤ 60 → (ks.drop 1).length ≤ 60 → ks.length + (ks.drop 1).length ≤ 60 := fun _ _ => by rw [List.length_drop]; omega
    rw [vcase_b]
    by_cases hb : (((ks.drop 1).length : Nat) : Int) > 0
    case neg =>
      rw [if_neg (by simpa using hb)]
      exact ⟨ks, ks.drop 1, xv, _, h5, rfl, by omega, ⟨_, rfl, (FlS.own (n := n) (by rw [fv] at fa5; exact fa5) (by omega) (by omega) rws_sc).lift (by omega)⟩ |> fun (o : OwnV (sv q0 0 (rws ks).length) (.fs (rws ks)) n h5.n h5) => by rw [fv]; exact o, ⟨_, rfl, (FlS.own (n := n) (by rw [v5e] at w5; exact w5) (by omega) (by rw [new_n]; omega) rws_sc).lift (by omega)⟩, by omega, by rw [List.length_drop]; omega, hsum, r2, rd⟩
    rw [if_pos (by simpa using hb)]
    obtain ⟨x6, h6, e6, m6, b6, w6, n6, o6, t6⟩ := r_next sr5 hl (by omega) (n := 9) (by omega) (by omega)
    rw [e6, ob]
    simp only [gV1_s, gI_i]
    rw [t6]
    obtain ⟨r, t, hd⟩ : ∃ r t, ks.drop 1 = r :: t := by
      cases hq : ks.drop 1 with
      | nil => rw [hq] at hb; simp at hb
      | cons r t => exact ⟨r, t, rfl⟩
    rw [hd] at w5 v5e hsum rd ⊢
    rw [show iv .i64 0 = iv .i64 ((0 : Nat) : Int) from rfl, idxK_sv (by simp), show padd 2 (pv (h3.new 4 []).n (0 * 4)) = some (pv (h3.new 4 []).n 2) from rfl, ob]
    have w7 : FlS 4 h6 v5 (rws (r :: t)) (h3.new 4 []).n := w5.keep (by omega) (o6 _ (by rw [new_n]; omega))
    rw [stK_rw (z := 1) (e := 4) (o := 2) (b := (h3.new 4 []).n) (cs := (rws (r :: t)).flatten) (r := [.int .i64 x6]) w7.n w7.g (.inl ⟨_, rfl, rfl, rfl⟩) rfl (by simp [rws])]
    rw [show setAt (rws (r :: t)).flatten 2 [S.int .i64 x6] = (rws ({ r with val := x6 } :: t)).flatten from by simp [rws, setAt]]
    have w8 : FlS 4 (h6.put (h3.new 4 []).n (.rw 4 (rws ({ r with val := x6 } :: t)).flatten)) (sv (h3.new 4 []).n 0 (rws ({ r with val := x6 } :: t)).length) (rws ({ r with val := x6 } :: t)) (h3.new 4 []).n := ⟨rfl, by rw [put_n]; exact w7.n, put_g _ _ _, rws_row⟩
    have fa6 : FlS 4 (h6.put (h3.new 4 []).n (.rw 4 (rws ({ r with val := x6 } :: t)).flatten)) (.s xv) (rws ks) q0 := fa5.keep (by rw [put_n]; omega) (by rw [put_g' (by rw [new_n]; omega), o6 q0 f3])
    have hl2 : (rws (r :: t)).length = (rws ({ r with val := x6 } :: t)).length := by simp [rws]
    rw [hl2]
    generalize h6.put (h3.new 4 []).n (.rw 4 (rws ({ r with val := x6 } :: t)).flatten) = Z at w8 fa6 ⊢
    have hZ := w8.n
    have hl3 := congrArg List.length hd
    rw [List.length_drop, List.length_cons] at hl3
    rw [new_n] at hZ
    refine ⟨ks, { r with val := x6 } :: t, xv, _, Z, rfl, by omega, ?_, ⟨_, rfl, (FlS.own (n := n) w8 (by omega) (by rw [new_n]; omega) rws_sc).lift (by omega)⟩, by omega, by rw [List.length_cons]; omega, fun a b => by rw [List.length_cons] at b ⊢; omega, r2, fun q hq => ?_⟩
    · rw [fv] at fa6 ⊢
      exact ⟨_, rfl, (FlS.own (n := n) fa6 (by omega) (by omega) rws_sc).lift (by omega)⟩
    · rcases List.mem_cons.1 hq with rfl | hq
      · exact rd r (by simp)
      · exact rd q (by simp [hq])
end Vm
/-
  What is drawn for the law on changes: rows, and changes of them.
-/
namespace Vm
open Go
theorem OutS.dr {b : Nat} {l : List UInt8} {a N z : Nat} {y : S} {rows : List (List S)} {bs : List Nat} {h h' : H} (w : OutS z 0 y rows bs h) (d : Dr b l a N h h') (hb : b ∉ bs) : OutS z 0 y rows bs h' :=
  w.frame fun c hc => by
    have := w.rep.lt c hc
    have hn := d.n
    exact ⟨by omega, d.o c this (fun e => hb (e ▸ hc))⟩
theorem OutS.ownV {z n : Nat} {y : S} {rows : List (List S)} {bs : List Nat} {h : H} (w : OutS z 0 y rows bs h) (hb : ∀ b ∈ bs, n ≤ b) : OwnV (.s y) (.fs rows) n h.n h :=
  ⟨y, rfl, (show OwnF 1 y (.fs rows) n h.n h from ⟨bs, w.rep, w.nd, fun b h1 => ⟨hb b h1, w.rep.lt b h1⟩⟩).lift (by omega)⟩
structure DrB (n : Nat) (a : List RowD) (cs : List ChgD) (x y : S) (h : H) : Prop where
  nn : n ≤ h.n
  ox : OwnV (.s x) (.fs (rws a)) n h.n h
  oy : OwnV (.s y) (.fs (chs cs)) n h.n h
  la : a.length ≤ 61
  lb : cs.length ≤ 20
  ta : ∀ r ∈ a, r.text.size ≤ 9
  tb : ∀ c ∈ cs, c.b.text.size ≤ 9 ∧ c.a.text.size ≤ 9
theorem f_DrawApplyChanges {l : List UInt8} (hl : l.length ≤ 1048576) (n : Nat) : ∃ (a : List RowD) (cs : List ChgD) (x y : S) (h' : H), call Ev Fn.spec_DrawApplyChanges [lv (bys l)] (D n) = some (.tup [.s x, .s y], h') ∧ DrB n a cs x y h' := by
  rw [eq_spec_DrawApplyChanges]
  obtain ⟨K, e1, s1, u1, n1⟩ := r_source' (l := l) (D n)
  simp only [D_n] at e1 s1 n1
  rw [e1]
  obtain ⟨v, ks, h2, e2, w2, l2, r2, d2⟩ := r_DrawRows s1 hl (by omega)
  rw [e2, ob]
  dsimp only
  have d2' := d2.tidy s1.n [v]
  have w2' : RwS n K.n v ks (tidy K [v] h2) := w2.tidy (by simp)
  generalize tidy K [v] h2 = X at d2' w2' ⊢
  obtain ⟨a2, s2, la2⟩ := d2'.ex
  have hXn := d2'.n
  obtain ⟨v3, ks3, h3, e3, w3, l3, r3, d3⟩ := r_DrawRows s2 hl (by omega)
  rw [e3, ob]
  dsimp only
  have d3' := d3.tidy s2.n [v3]
  have w3' : RwS n X.n v3 ks3 (tidy X [v3] h3) := w3.tidy (by simp)
  have w2'' := w2'.dr d3'
  generalize tidy X [v3] h3 = Y at d3' w3' w2'' ⊢
  obtain ⟨a3, s3, la3⟩ := d3'.ex
  have hYn := d3'.n
  rw [frzVs_cons w2''.frz (frzVs_cons w3'.frz frzVs_nil), ob, norm_nil]
  obtain ⟨yc, h4, bq, e4, n4, o4, b4⟩ := f_l6Changes (bs := ks) (ns := ks3) (by omega) (by omega) Y.n
  obtain ⟨Z, e5, u5, o5⟩ := pG (h := Y) (off := [v, v3].all offV) e4 o4 n4 b4
  rw [e5]
  have hZn := u5.n
  have s5 : Src n l a3 Z := s3.up u5
  have w5 := w2''.up u5
  have hYb := s3.n
  have hnb : n ∉ bq := fun hh => by have := b4 n hh; omega
  have hcl := chgs_len ks ks3
  have hct := chgs_ok r2 r3
  obtain ⟨x6, h6, e6, m6, b6, w6, n6, o6, t6⟩ := r_next s5 hl (by omega) (n := 8) (by omega) (by omega)
  rw [e6, ob]
  simp only [gV1_s, gI_i]
  rw [t6]
  have d6 : Dr n l a3 1 Z h6 := ⟨⟨_, w6, by omega⟩, by omega, fun c hc hcb => o6 c hcb⟩
  have c6 := o5.dr d6 hnb
  have v6 := w5.dr d6
  have hb0 : ∀ b ∈ bq, n ≤ b := fun b hb => by have := b4 b hb; omega
  obtain ⟨xv, rfl⟩ := v6.toA
  rw [vcase_b]
  by_cases c0 : x6 = 0
  · rw [if_pos (by simp [c0])]
    obtain ⟨q7, h7, e7, w7, n7, o7, t7⟩ := r_chance w6 hl (by omega) (n := 2) (by omega) (by omega)
    rw [e7, ob]; simp only [gV1_s, gB_b]; rw [t7]
    have d7 : Dr n l a3 2 Z h7 := ⟨⟨_, w7, by omega⟩, by omega, fun c hc hcb => by rw [o7 c hcb, o6 c hcb]⟩
    obtain ⟨r8, h8, e8, hr8, d8⟩ := r_lbent w7 hl (by omega)
    rw [e8, ob]
    simp only [gVA_a, gx0, gx1, ob, gI_i, gS_s, ln0, ln1, Nat.zero_add, Nat.reduceAdd, if_true]
    have d8' := d8.tidy w7.n [V.agg r8.cs]
    have d8'' : Dr n l a3 22 Z (tidy h7 [V.agg r8.cs] h8) := d7.trans fun a' s' ha' => by
      obtain ⟨a8, s8, la8⟩ := d8'.ex
      have e : a' = a3 + 1 + 1 := by
        have g1 := s'.g
        have g2 := w7.g
        rw [g1] at g2
        injection g2 with g2 g3
        injection g3 with g3 g4
        injection g4 with g4 g5
        injection g4 with g4 g6
        omega
      subst e
      exact d8'
    have hP : ∃ P, tidy h7 [V.agg r8.cs] h8 = P := ⟨_, rfl⟩
    obtain ⟨P, hP⟩ := hP
    rw [hP] at d8' d8'' ⊢
    obtain ⟨a8, s8, la8⟩ := d8''.ex
    obtain ⟨q9, h9, e9, w9, n9, o9, t9⟩ := r_chance s8 hl (by omega) (n := 2) (by omega) (by omega)
    rw [e9, ob]; simp only [gV1_s, gB_b]; rw [t9]
    obtain ⟨r10, h10, e10, hr10, d10⟩ := r_lbent w9 hl (by omega)
    rw [e10, ob]
    simp only [gVA_a, gx0, gx1, ob, gI_i, gS_s, ln0, ln1, Nat.zero_add, Nat.reduceAdd, if_true]
    have d10' := d10.tidy w9.n [V.agg r10.cs]
    have c9 := (o5.dr d8'' hnb)
    have c9' : OutS 10 0 yc (chs (chgs ks ks3)) bq h9 := c9.frame fun c hc => ⟨by have := c9.rep.lt c hc; omega, o9 c (fun e => hnb (e ▸ hc))⟩
    have c10 := c9'.dr d10' hnb
    have v9 := w5.dr d8''
    have v9' : RwS n K.n (.s xv) ks h9 := by
      obtain ⟨q0, f1, f2, f3⟩ := v9.ex
      exact ⟨q0, f1.keep (by omega) (o9 q0 f3), f2, f3⟩
    have v10 := v9'.dr d10'
    have hm9 := d8''.n
    have hm10 := d10'.n
    have hQ : ∃ Q, tidy h9 [V.agg r10.cs] h10 = Q := ⟨_, rfl⟩
    obtain ⟨Q, hQ⟩ := hQ
    rw [hQ] at c10 v10 hm10 d10' ⊢
    obtain ⟨h11, bq', e11, o11, n11, m11, k11⟩ := app_flat (row := ChgD.cs ⟨q7, r8, q9, r10⟩) c10 chg_sc rfl (by omega) (by rw [chs_len]; unfold lim; omega)
    rw [e11, ob]
    rw [← chs_snoc] at o11
    refine ⟨ks, chgs ks ks3 ++ [⟨q7, r8, q9, r10⟩], xv, _, h11, rfl, by omega, ?_, o11.ownV (n := n) (fun b hb => ?_), by omega, by rw [List.length_append]; simp; omega, r2, fun c hc => ?_⟩
    · obtain ⟨q0, f1, f2, f3⟩ := v10.ex
      have hq0 : q0 ∉ bq := fun hh => by
        have := b4 q0 hh
        obtain ⟨q1, g1, g2, g3⟩ := w2''.ex
        have e1 := f1.v
        have e2 := g1.v
        rw [e1] at e2
        injection e2 with e2
        injection e2 with e2
        injection e2 with e2
        injection e2 with e2
        have := g1.n
        omega
      have f1n := f1.n
      exact RwS.own (b := n) (lo := K.n) ⟨q0, f1.keep (by omega) (k11 q0 f1n hq0), f2, f3⟩ (by omega)
    · rcases m11 b hb with rfl | hb
      · omega
      · exact hb0 b hb
    · rcases List.mem_append.1 hc with hc | hc
      · exact hct c hc
      · rw [List.mem_singleton] at hc; subst hc; exact ⟨hr8, hr10⟩
  rw [if_neg (by simpa using c0), vcase_b]
  by_cases c1 : x6 = 1
  · rw [if_pos (by simp [c1])]
    obtain ⟨v7, ks7, h7, e7, w7, l7, r7, d7⟩ := r_BentRows w6 hl (by omega)
    rw [e7, ob]
    dsimp only
    have d7' := d7.tidy w6.n [v7]
    have w7' : RwS n h6.n v7 ks7 (tidy h6 [v7] h7) := w7.tidy (by simp)
    have c7 := c6.dr d7' hnb
    have hm7 := d7'.n
    generalize tidy h6 [v7] h7 = Q at w7' c7 hm7 ⊢
    obtain ⟨x7, rfl⟩ := w7'.toA
    exact ⟨ks7, chgs ks ks3, x7, yc, Q, rfl, by omega, w7'.own (by omega), c7.ownV hb0, by omega, by omega, r7, hct⟩
  · rw [if_neg (by simpa using c1)]
    exact ⟨ks, chgs ks ks3, xv, yc, h6, rfl, by omega, v6.own (by omega), c6.ownV hb0, by omega, by omega, r2, hct⟩
end Vm
/-
  Bytes that came in.
-/
namespace Vm
open Go

theorem rows8 {P : Program} {m : Nat} {e : TypeId} (he : P.underlying e = some (.int .u8)) : ∀ rows : List (List S), (∀ r ∈ rows, r.length = P.cellsOf e ∧ Rp P m e r) → ∃ l : List UInt8, rows = bys l
  | [], _ => ⟨[], rfl⟩
  | r :: rows, hr => by
    obtain ⟨l, h1⟩ := rows8 he rows fun r hm => hr r (by simp [hm])
    obtain ⟨n, h3, h4⟩ := (hr r (by simp)).2.int he
    have hb := wf8 h4
    refine ⟨UInt8.ofNat n.toNat :: l, ?_⟩
    have : cell8 (UInt8.ofNat n.toNat) = .int .u8 n := by
      unfold cell8
      congr 1
      simp
      omega
    rw [h1, h3]
    simp only [bys, List.map_cons, this]
theorem bys_of {P : Program} {n : Nat} {t e : TypeId} {s : S} (ht : P.underlying t = some (.slice e)) (he : P.underlying e = some (.int .u8)) (hr : Rp P n t [s]) : ∃ l, s = .fs (bys l) ∧ l.length ≤ maxLen := by
  obtain ⟨m, rows, h1, h2, h3⟩ := hr.slice ht
  obtain ⟨l, rfl⟩ := rows8 he rows h3
  cases h1
  exact ⟨l, rfl, by simpa using h2⟩
theorem rp_Bytes {n : Nat} {s : S} (hr : Rp PR n T.S_uint8 [s]) : ∃ l, s = .fs (bys l) ∧ l.length ≤ maxLen := bys_of und_S_uint8 und_uint8 hr
theorem arg_Bytes {x : V} (hr : ArgRp PR T.S_uint8 x) : ∃ l, x = lv (bys l) ∧ l.length ≤ maxLen := by
  obtain ⟨s, n, rfl, h1⟩ := hr.slice und_S_uint8
  obtain ⟨l, rfl, h2⟩ := rp_Bytes h1
  exact ⟨l, rfl, h2⟩
end Vm
/-
  The law on changes returns true.
-/
namespace Vm
open Go
theorem p_lwBig {l : List UInt8} : pureV (call Ev) Fn.laws_lwBig [lv (bys l)] = some (bv (decide ((l.length : Int) > 1048576))) := by
  rw [pu_laws_lwBig, bys_len]
theorem pFt {R : Type} {cl : Nat → List V → H → Option (V × H)} {g : Nat} {xs : List V} {h h1 : H} {v : V} {k : V → H → Option R} (hc : cl g xs (D h.n) = some (v, h1)) : pcallF cl g true xs h k = k v (h.over h1) := by
  unfold pcallF
  rw [hc, ob]
  unfold fchk
  rw [if_pos (.inl rfl)]
  rfl
theorem pCx {cl : Nat → List V → H → Option (V × H)} {g : Nat} {off : Bool} {xs : List V} {h : H} {d : Nat} {ys fs : List S} {h1 : H} (hc : cl g xs (D h.n) = some (.agg ys, h1)) (w : NewC d ys fs h.n h1) :
    ∃ h', (∀ (R : Type) (k : V → H → Option R), pcallF cl g off xs h k = k (.agg ys) h') ∧ Up h h' ∧ Sep (OwnC d ys fs h.n h'.n) h.n h'.n h' ∧ HExt h h' := by
  have hle : h.n ≤ h1.n := w.le
  have ov : ∀ h2 : H, h2.n = h1.n → (∀ b, (h1.g b).cells.all scaS = true → h2.g b = h1.g b) → Up h (h.over h2) ∧ Sep (OwnC d ys fs h.n (h.over h2).n) h.n (h.over h2).n (h.over h2) ∧ HExt h (h.over h2) := fun h2 hn2 hg2 => by
    have hle2 : h.n ≤ h2.n := by omega
    refine ⟨up_over hle2, OwnC.sep ?_ (Nat.le_refl _), ⟨by rw [over_n hle2]; omega, fun b hb => .inr (over_lt hb)⟩⟩
    obtain ⟨bs, w1, w2, w3⟩ := w.q
    rw [over_n hle2, hn2]
    refine ⟨bs, w1.frame fun b hb => ?_, w2, w3⟩
    have := w3 b hb
    exact ⟨by rw [over_n hle2]; omega, by rw [over_ge this.1]; exact hg2 b (w1.scaB b hb)⟩
  cases off with
  | true =>
    obtain ⟨a1, a2, a3⟩ := ov h1 rfl (fun _ _ => rfl)
    refine ⟨h.over h1, fun R k => ?_, a1, a2, a3⟩
    unfold pcallF
    rw [hc, Vm.ob]
    unfold fchk
    rw [if_pos (.inl rfl)]; rfl
  | false =>
    obtain ⟨a1, a2, a3⟩ := ov (scrub h.n h1) rfl (fun b hb => scrub_g hb)
    refine ⟨h.over (scrub h.n h1), fun R k => ?_, a1, a2, a3⟩
    unfold pcallF
    rw [hc, Vm.ob]
    unfold fchk
    rw [if_pos (.inr w.q.scaV)]; rfl
theorem OwnV.over {v : V} {f : S} {h h1 : H} (w : OwnV v f h.n h1.n h1) (hle : h.n ≤ h1.n) : OwnV v f h.n (h.over h1).n (h.over h1) := by
  obtain ⟨y, rfl, bs, w1, w2, w3⟩ := w
  refine ⟨y, rfl, bs, w1.frame fun b hb => ?_, w2, fun b hb => ?_⟩
  · have := w3 b hb
    exact ⟨by rw [over_n hle]; omega, over_ge this.1⟩
  · have := w3 b hb
    rw [over_n hle]; omega
/-! rows compared -/
def eqRows : List RowD → List RowD → Bool
  | [], [] => true
  | a :: l, b :: m => eqRowB a b && eqRows l m
  | _, _ => false
theorem eqRows_iff : ∀ {l m : List RowD}, eqRows l m = true ↔ l = m
  | [], [] => by simp [eqRows]
  | [], b :: m => by simp [eqRows]
  | a :: l, [] => by simp [eqRows]
  | a :: l, b :: m => by
    rw [eqRows, Bool.and_eq_true, eqRowB_iff, eqRows_iff]
    simp
theorem eqRows_len : ∀ {l m : List RowD}, eqRows l m = true → l.length = m.length := fun h => by rw [eqRows_iff.1 h]
theorem p_lwRows {ks js : List RowD} (hl : ks.length ≤ 1000) : pureV (call Ev) Fn.laws_lwRows [lv (rws ks), lv (rws js)] = some (bv (eqRows ks js)) := by
  rw [pu_laws_lwRows, vcase_b, rws_len, rws_len]
  by_cases hn : ks.length = js.length
  case neg =>
    rw [if_pos (by simp; omega)]
    cases he : eqRows ks js with
    | false => rfl
    | true => exact absurd (eqRows_len he) hn
  rw [if_neg (by simp; omega)]
  have loop : ∀ (rs ss : List RowD) (i : Nat), ks.drop i = rs → js.drop i = ss → Lp.laws_lwRows 0 [lv (rws ks), lv (rws js), iv .i64 i] (D 0) = some (if eqRows rs ss = true then .done [] (D 0) else .ret (bv false) (D 0)) := by
    intro rs
    induction rs with
    | nil =>
      intro ss i hi hj
      have h1 := drop_nil hi
      have : ss = [] := by
        rw [← hj]; exact List.drop_eq_nil_of_le (by omega)
      subst this
      rw [eq_laws_lwRows_l0, vcase_b, if_neg (by simp; omega), tidy_self]; rfl
    | cons r rs ih =>
      intro ss i hi hj
      obtain ⟨g1, g2, g3⟩ := drop_cons hi
      obtain ⟨s, ss', hss⟩ : ∃ s ss', ss = s :: ss' := by
        cases hq : ss with
        | nil => rw [hq] at hj; have := drop_nil hj; omega
        | cons s ss' => exact ⟨s, ss', rfl⟩
      subst hss
      obtain ⟨k1, k2, k3⟩ := drop_cons hj
      rw [eq_laws_lwRows_l0, vcase_b, if_pos (by simp; omega), idxF_rw g1, rowN_rw]
      simp only [ob, gx0, gx1, gI_i, gS_s, ln0, ln1, Nat.zero_add, Nat.reduceAdd, if_true]
      rw [idxF_rw k1, rowN_rw]
      simp only [ob, gx0, gx1, gI_i, gS_s, ln0, ln1, Nat.zero_add, Nat.reduceAdd, if_true]
      rw [vcase_b, show (!((r.tab == s.tab) && ((r.key == s.key) && ((r.val == s.val) && ((r.text.toList == s.text.toList) && true))))) = !eqRowB r s from rfl]
      cases hb : eqRowB r s with
      | false =>
        rw [if_pos (show (!false) = true from rfl)]
        rw [if_neg (by simp [eqRows, hb])]
      | true =>
        rw [if_neg (by simp), tidy_self, w64 (by omega) (by omega), show (i : Int) + 1 = ((i + 1 : Nat) : Int) from by omega, ih ss' (i + 1) g2 k2]
        simp [eqRows, hb]
  rw [show iv .i64 0 = iv .i64 ((0 : Nat) : Int) from rfl, loop ks js 0 rfl rfl, ob]
  cases he : eqRows ks js with
  | true => rw [if_pos rfl, lcase_done]
  | false => rw [if_neg (by simp), lcase_ret]; simp
theorem run_FnChanges (xs : List V) (hx : ArgsRp PR [T.S_uint8] xs) : ∃ h', call Ev Fn.laws_FnChanges xs (D 0) = some (bv true, h') := by
  match xs, hx with
  | [x0], ⟨h0, _⟩ =>
    obtain ⟨l, rfl, hl⟩ := arg_Bytes h0
    refine law_of ?_
    rw [pu_laws_FnChanges, pc p_lwBig rfl]
    simp only [gV1_s, gB_b]
    rw [vcase_b]
    by_cases hq : (l.length : Int) > 1048576
    · rw [if_pos (by simpa using hq)]
    rw [if_neg (by simpa using hq)]
    have hl' : l.length ≤ 1048576 := by omega
    have m9 : 9 ≤ maxLen := by unfold maxLen; omega
    obtain ⟨a, b, x, y, hA, eA, dA⟩ := f_DrawChangesOf hl' 0
    rw [pFt (h := D 0) eA]
    have xA : Sep (OwnV (.s x) (.fs (rws a)) 0 ((D 0).over hA).n) 0 ((D 0).over hA).n ((D 0).over hA) := OwnV.sep (OwnV.over (h := D 0) dA.ox (Nat.zero_le _)) (Nat.le_refl _)
    have yA : Sep (OwnV (.s y) (.fs (rws b)) 0 ((D 0).over hA).n) 0 ((D 0).over hA).n ((D 0).over hA) := OwnV.sep (OwnV.over (h := D 0) dA.oy (Nat.zero_le _)) (Nat.le_refl _)
    obtain ⟨_, _, _, la, lb, ls, ta, tb⟩ := dA
    clear eA
    generalize (D 0).over hA = A at xA yA ⊢
    have sa : ∀ r ∈ a, r.text.size ≤ maxLen := fun r hr => Nat.le_trans (ta r hr) m9
    have sb : ∀ r ∈ b, r.text.size ≤ maxLen := fun r hr => Nat.le_trans (tb r hr) m9
    simp only [gVT_t, gA1_s, ob, gx0, gx1, ln0, ln1, Nat.zero_add, Nat.reduceAdd, if_true]
    rw [frzVs_cons xA.now.frz (frzVs_cons yA.now.frz frzVs_nil), ob, norm_nil]
    obtain ⟨yc, h1, e1, q1⟩ := f_ChangesOf (bs := a) (ns := b) sa sb (by unfold lim; omega) A.n
    obtain ⟨B, eB, uB, sB, xB⟩ := pCx (h := A) e1 q1
    rw [eB]
    clear eB e1 q1
    simp only [gVA_a, gx0, gx1, ob, gI_i, ln0, ln1, Nat.zero_add, Nat.reduceAdd, if_true]
    have hca := chL_len a b
    rw [st2_new]
    have uC : Up B ((B.new 0 [.int .i64 0, .sl none 0]).put B.n (.rw 0 [.int .i64 (chC a b), yc])) := up_st
    have wC : Sep (At B.n (.rw 0 [.int .i64 (chC a b), yc])) B.n (B.n + 1) ((B.new 0 [.int .i64 0, .sl none 0]).put B.n (.rw 0 [.int .i64 (chC a b), yc])) := Sep.at (by rw [n_st]; omega) g_st
    have sC := sB.up uC
    have xC := (xA.up uB).up uC
    have yC := (yA.up uB).up uC
    generalize (B.new 0 [.int .i64 0, .sl none 0]).put B.n (.rw 0 [.int .i64 (chC a b), yc]) = C at uC wC sC xC yC ⊢
    rw [load1_at (x := .int .i64 (chC a b)) wC.now.1 wC.now.2 rfl]
    simp only [ob, gI_i]
    rw [vcase_b]
    by_cases hc : chC a b = 0
    case neg =>
      rw [if_pos (by simpa using hc), frzVs_cons xC.now.frz (frzVs_cons yC.now.frz frzVs_nil), ob, norm_nil]
      obtain ⟨y2, h2, e2, q2⟩ := f_spec_ChangesOf (bs := a) (ns := b) sa sb (by unfold maxLen; omega) (by unfold maxLen; omega) C.n
      obtain ⟨E, eE, uE, sE, xE⟩ := pCx (h := C) e2 q2
      rw [eE]
      simp only [gVA_a, gx0, gx1, ob, gI_i, ln0, ln1, Nat.zero_add, Nat.reduceAdd, if_true]
      rw [hchk_of xE, sE.now.scaV]
      simp
    rw [if_neg (by simp [hc])]
    have h0 : rowsF a = 0 ∧ rowsF b = 0 := by
      unfold chC at hc
      split at hc
      · rename_i h; exact ⟨h, hc⟩
      · rename_i h; exact absurd hc h
    have r60 : ∀ {l : List RowD}, rowsF l = 0 → l.length ≤ 60 := fun {l} h => by
      unfold rowsF at h
      split at h
      · omega
      · omega
    obtain ⟨k1, k2, k3, k4, k5⟩ := chg_all h0.1 h0.2 (ls (r60 h0.1) (r60 h0.2))
    have hL : chL a b = btw a b := by unfold chL; rw [if_pos hc]
    have hbl := btw_len a b
    have ls' := ls (r60 h0.1) (r60 h0.2)
    rw [hL, hc] at sC
    rw [hc] at wC
    have okc : ∀ c ∈ btw a b, c.ok := fun c hcc => by
      rw [← chgs_ris (ris_rows h0.1) (ris_rows h0.2)] at hcc
      have := chgs_ok ta tb c hcc
      exact ⟨Nat.le_trans this.1 m9, Nat.le_trans this.2 m9⟩
    have oki : ∀ c ∈ invs (btw a b), c.ok := fun c hcc => by
      unfold invs at hcc
      obtain ⟨d, hd, rfl⟩ := List.mem_map.1 hcc
      have := okc d (List.mem_reverse.1 hd)
      exact ⟨this.2, this.1⟩
    have ilen : (invs (btw a b)).length = (btw a b).length := by simp [invs]
    have vC : Sep (OwnV (.s yc) (.fs (chs (btw a b))) A.n B.n) A.n B.n C := ⟨sC.top, fun h' hn hg => ⟨yc, rfl, OwnC.f (pre := [.int .i64 0]) sc1 (sC.q h' hn hg)⟩⟩
    rw [load1_at (x := yc) wC.now.1 wC.now.2 rfl]
    simp only [ob]
    -- the changes done
    obtain ⟨y3, h3, e3, u3, q3⟩ := r_ApplyChanges xC (RdC.own vC) sa okc (by omega) (by omega)
    rw [k1] at e3 q3
    rw [e3, ob]
    dsimp only
    obtain ⟨uE, q4⟩ := own_tidyC (l := [.agg [.int .i64 0, y3]]) u3 q3 (Nat.le_refl _) (by simp)
    have sE := OwnC.sep q4 (Nat.le_refl _)
    have hE : ∃ E, tidy C [.agg [.int .i64 0, y3]] h3 = E := ⟨_, rfl⟩
    obtain ⟨E, hE⟩ := hE
    simp only [hE] at uE sE ⊢
    clear q3 q4 u3 e3
    simp only [gVA_a, gx0, gx1, ob, gI_i, ln0, ln1, Nat.zero_add, Nat.reduceAdd, if_true]
    rw [st2_new]
    have uF : Up E ((E.new 0 [.int .i64 0, .sl none 0]).put E.n (.rw 0 [.int .i64 0, y3])) := up_st
    have wF : Sep (At E.n (.rw 0 [.int .i64 0, y3])) E.n (E.n + 1) ((E.new 0 [.int .i64 0, .sl none 0]).put E.n (.rw 0 [.int .i64 0, y3])) := Sep.at (by rw [n_st]; omega) g_st
    have xF := (xC.up uE).up uF
    have yF := (yC.up uE).up uF
    have wCF := (wC.up uE).up uF
    have vF := (vC.up uE).up uF
    have sF := sE.up uF
    generalize (E.new 0 [.int .i64 0, .sl none 0]).put E.n (.rw 0 [.int .i64 0, y3]) = F at uF wF xF yF wCF vF sF ⊢
    rw [load1_at (x := yc) wCF.now.1 wCF.now.2 rfl]
    simp only [ob]
    -- the inverse
    rw [frzVs_cons vF.now.frz frzVs_nil, ob, norm_nil]
    obtain ⟨yi, h5, e5, q5⟩ := f_InverseOf (all := btw a b) okc (by unfold lim; omega) F.n
    rw [k2] at e5 q5
    rw [k3] at q5
    obtain ⟨G, eG, uG, sG, xG⟩ := pCx (h := F) e5 q5
    rw [eG]
    clear eG e5 q5
    simp only [gVA_a, gx0, gx1, ob, gI_i, ln0, ln1, Nat.zero_add, Nat.reduceAdd, if_true]
    rw [st2_new]
    have uI : Up G ((G.new 0 [.int .i64 0, .sl none 0]).put G.n (.rw 0 [.int .i64 0, yi])) := up_st
    have wI : Sep (At G.n (.rw 0 [.int .i64 0, yi])) G.n (G.n + 1) ((G.new 0 [.int .i64 0, .sl none 0]).put G.n (.rw 0 [.int .i64 0, yi])) := Sep.at (by rw [n_st]; omega) g_st
    have xI := (xF.up uG).up uI
    have yI := (yF.up uG).up uI
    have wCI := (wCF.up uG).up uI
    have wFI := (wF.up uG).up uI
    have vCI := (vF.up uG).up uI
    have sFI := (sF.up uG).up uI
    have sI := sG.up uI
    generalize (G.new 0 [.int .i64 0, .sl none 0]).put G.n (.rw 0 [.int .i64 0, yi]) = I at uI wI xI yI wCI wFI vCI sFI sI ⊢
    have vI : Sep (OwnV (.s yi) (.fs (chs (invs (btw a b)))) F.n G.n) F.n G.n I := ⟨sI.top, fun h' hn hg => ⟨yi, rfl, OwnC.f (pre := [.int .i64 0]) sc1 (sI.q h' hn hg)⟩⟩
    rw [load1_at (x := yi) wI.now.1 wI.now.2 rfl]
    simp only [ob]
    obtain ⟨y6, h6, e6, u6, q6⟩ := r_ApplyChanges yI (RdC.own vI) sb oki (by omega) (by omega)
    rw [k4] at e6 q6
    rw [e6, ob]
    dsimp only
    obtain ⟨uJ, q7⟩ := own_tidyC (l := [.agg [.int .i64 0, y6]]) u6 q6 (Nat.le_refl _) (by simp)
    have sJ := OwnC.sep q7 (Nat.le_refl _)
    have hJ : ∃ J, tidy I [.agg [.int .i64 0, y6]] h6 = J := ⟨_, rfl⟩
    obtain ⟨J, hJ⟩ := hJ
    simp only [hJ] at uJ sJ ⊢
    clear q6 q7 u6 e6
    simp only [gVA_a, gx0, gx1, ob, gI_i, ln0, ln1, Nat.zero_add, Nat.reduceAdd, if_true]
    rw [st2_new]
    have uK : Up J ((J.new 0 [.int .i64 0, .sl none 0]).put J.n (.rw 0 [.int .i64 0, y6])) := up_st
    have wK : Sep (At J.n (.rw 0 [.int .i64 0, y6])) J.n (J.n + 1) ((J.new 0 [.int .i64 0, .sl none 0]).put J.n (.rw 0 [.int .i64 0, y6])) := Sep.at (by rw [n_st]; omega) g_st
    have xK := (xI.up uJ).up uK
    have yK := (yI.up uJ).up uK
    have wCK := (wCI.up uJ).up uK
    have wFK := (wFI.up uJ).up uK
    have wIK := (wI.up uJ).up uK
    have vCK := (vCI.up uJ).up uK
    have sFK := (sFI.up uJ).up uK
    have sK := sJ.up uK
    generalize (J.new 0 [.int .i64 0, .sl none 0]).put J.n (.rw 0 [.int .i64 0, y6]) = K at uK wK xK yK wCK wFK wIK vCK sFK sK ⊢
    -- changes that are drawn
    obtain ⟨ra, rc, x8, y8, hL8, e8, d8⟩ := f_DrawApplyChanges hl' K.n
    rw [pFt (h := K) e8]
    have uL : Up K (K.over hL8) := up_over d8.nn
    have xL : Sep (OwnV (.s x8) (.fs (rws ra)) K.n (K.over hL8).n) K.n (K.over hL8).n (K.over hL8) := OwnV.sep (OwnV.over (h := K) d8.ox d8.nn) (Nat.le_refl _)
    have yL : Sep (OwnV (.s y8) (.fs (chs rc)) K.n (K.over hL8).n) K.n (K.over hL8).n (K.over hL8) := OwnV.sep (OwnV.over (h := K) d8.oy d8.nn) (Nat.le_refl _)
    obtain ⟨_, _, _, lra, lrc, tra, trc⟩ := d8
    clear e8
    have xLL := xK.up uL
    have yLL := yK.up uL
    have wCL := wCK.up uL
    have wFL := wFK.up uL
    have wIL := wIK.up uL
    have wKL := wK.up uL
    have vCL := vCK.up uL
    have sFL := sFK.up uL
    have sKL := sK.up uL
    generalize K.over hL8 = L at uL xL yL xLL yLL wCL wFL wIL wKL vCL sFL sKL ⊢
    simp only [gVT_t, gA1_s, ob, gx0, gx1, ln0, ln1, Nat.zero_add, Nat.reduceAdd, if_true]
    have sra : ∀ r ∈ ra, r.text.size ≤ maxLen := fun r hr => Nat.le_trans (tra r hr) m9
    have okr : ∀ c ∈ rc, c.ok := fun c hcc => ⟨Nat.le_trans (trc c hcc).1 m9, Nat.le_trans (trc c hcc).2 m9⟩
    obtain ⟨y9, h9, e9, u9, q9⟩ := r_ApplyChanges xL (RdC.own yL) sra okr (by omega) (by omega)
    rw [e9, ob]
    dsimp only
    have fsp := fun n => f_spec_ApplyChanges (rs := ra) (all := rc) sra okr (by omega) (by omega) n
    have fsl := apF_len ra rc
    generalize (apF ra rc).1 = zc at e9 q9 fsp ⊢
    generalize (apF ra rc).2 = zm at q9 fsp fsl
    obtain ⟨uM, q10⟩ := own_tidyC (l := [.agg [.int .i64 zc, y9]]) u9 q9 (Nat.le_refl _) (by simp)
    have sM := OwnC.sep q10 (Nat.le_refl _)
    have hM : ∃ M, tidy L [.agg [.int .i64 zc, y9]] h9 = M := ⟨_, rfl⟩
    obtain ⟨M, hM⟩ := hM
    simp only [hM] at uM sM ⊢
    clear q9 q10 u9 e9
    simp only [gVA_a, gx0, gx1, ob, gI_i, ln0, ln1, Nat.zero_add, Nat.reduceAdd, if_true]
    rw [st2_new]
    have uN : Up M ((M.new 0 [.int .i64 0, .sl none 0]).put M.n (.rw 0 [.int .i64 zc, y9])) := up_st
    have wN : Sep (At M.n (.rw 0 [.int .i64 zc, y9])) M.n (M.n + 1) ((M.new 0 [.int .i64 0, .sl none 0]).put M.n (.rw 0 [.int .i64 zc, y9])) := Sep.at (by rw [n_st]; omega) g_st
    have xN := (xLL.up uM).up uN
    have yN := (yLL.up uM).up uN
    have wCN := (wCL.up uM).up uN
    have wFN := (wFL.up uM).up uN
    have wIN := (wIL.up uM).up uN
    have wKN := (wKL.up uM).up uN
    have vCN := (vCL.up uM).up uN
    have sFN := (sFL.up uM).up uN
    have sKN := (sKL.up uM).up uN
    have x8N := (xL.up uM).up uN
    have y8N := (yL.up uM).up uN
    have sMN := sM.up uN
    generalize (M.new 0 [.int .i64 0, .sl none 0]).put M.n (.rw 0 [.int .i64 zc, y9]) = N at uN wN xN yN wCN wFN wIN wKN vCN sFN sKN x8N y8N sMN ⊢
    have vx : ∀ {s : S} {rs : List RowD} {e : Int} {lo hi : Nat} {T : H}, Sep (OwnC 5 [.int .i64 e, s] [.int .i64 e, .fs (rws rs)] lo hi) lo hi T → frzV T (.s s) = some (lv (rws rs)) := fun {s rs e lo hi T} w => (OwnC.f (pre := [.int .i64 e]) sc1 w.now).frz
    rw [load1_at (x := .int .i64 0) wFN.now.1 wFN.now.2 rfl]
    simp only [ob, gI_i]
    rw [vcase_b, if_pos (by rfl), load1_at (x := y3) wFN.now.1 wFN.now.2 rfl, ob]
    rw [frzVs_cons (vx sFN) (frzVs_cons yN.now.frz frzVs_nil), ob, norm_nil, pc (p_lwRows (by omega)) rfl]
    simp only [gV1_s, gB_b, hchk_self]
    rw [vcase_b, if_pos (eqRows_iff.2 rfl), load1_at (x := .int .i64 0) wIN.now.1 wIN.now.2 rfl]
    simp only [ob, gI_i]
    rw [vcase_b, if_pos (by rfl), load1_at (x := .int .i64 0) wKN.now.1 wKN.now.2 rfl]
    simp only [ob, gI_i]
    unfold Jn.laws_FnChanges_1
    dsimp only
    simp only [hJ, hM]
    rw [vcase_b, if_pos (by rfl), load1_at (x := y6) wKN.now.1 wKN.now.2 rfl, ob]
    rw [frzVs_cons (vx sKN) (frzVs_cons xN.now.frz frzVs_nil), ob, norm_nil, pc (p_lwRows (by omega)) rfl]
    simp only [gV1_s, gB_b, hchk_self]
    rw [vcase_b, if_pos (eqRows_iff.2 rfl), load1_at (x := yc) wCN.now.1 wCN.now.2 rfl, ob, (vCN.now).len]
    simp only [ob, gV1_s, gI_i, chs_len]
    rw [frzVs_cons xN.now.frz (frzVs_cons yN.now.frz frzVs_nil), ob, norm_nil, pc (p_lwRows (by omega)) rfl]
    simp only [gV1_s, gB_b, hchk_self]
    have hfin : ((((btw a b).length : Nat) : Int) == 0) = eqRows a b := by
      cases he : eqRows a b with
      | true =>
        have := k5.2 (eqRows_iff.1 he)
        rw [this]; rfl
      | false =>
        rw [beq_eq_false_iff_ne]
        intro hh
        have := eqRows_iff.2 (k5.1 (by omega))
        rw [this] at he; cases he
    unfold Jn.laws_FnChanges_0
    dsimp only
    simp only [hM]
    rw [hfin, vcase_b, if_pos (by simp), load1_at (x := .int .i64 zc) wN.now.1 wN.now.2 rfl]
    simp only [ob, gI_i]
    rw [frzVs_cons x8N.now.frz (frzVs_cons y8N.now.frz frzVs_nil), ob, norm_nil]
    obtain ⟨y11, h11, e11, q11⟩ := fsp N.n
    obtain ⟨P, eP, uP, sP, xP⟩ := pCx (h := N) e11 q11
    rw [eP]
    clear eP e11 q11
    simp only [gVA_a, gx0, gx1, ob, gI_i, ln0, ln1, Nat.zero_add, Nat.reduceAdd, if_true]
    rw [hchk_of xP, sP.now.scaV, cond_true, vcase_b, if_pos (by simp), load1_at (x := y9) wN.now.1 wN.now.2 rfl, ob]
    rw [frzVs_cons (x8N.up uP).now.frz (frzVs_cons (y8N.up uP).now.frz frzVs_nil), ob, norm_nil]
    obtain ⟨y12, h12, e12, q12⟩ := fsp P.n
    obtain ⟨Q, eQ, uQ, sQ, xQ⟩ := pCx (h := P) e12 q12
    rw [eQ]
    clear eQ e12 q12
    simp only [gVA_a, gx0, gx1, ob, gI_i, ln0, ln1, Nat.zero_add, Nat.reduceAdd, if_true]
    rw [hchk_of (xP.trans xQ), sQ.now.scaV, cond_true, frzVs_cons (vx ((sMN.up uP).up uQ)) (frzVs_cons (vx sQ) frzVs_nil), ob, norm_nil, pc (p_lwRows (by omega)) rfl]
    simp only [gV1_s, gB_b]
    rw [hchk_of (xP.trans xQ), eqRows_iff.2 rfl]
end Vm
