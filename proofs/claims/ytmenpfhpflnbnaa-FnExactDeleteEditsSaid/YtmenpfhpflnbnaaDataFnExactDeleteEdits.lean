/-
  What both ways of the law come to, and that the law returns true.
-/
import Derived.Sort.LotD6
import Derived.Sort.LotD7
import Derived.Sort.LotB
import Derived.Sort.LotD3
import Derived.Sort.LotD5
import Derived.Sort.LotD4
import Derived.Sort.LotA
import Derived.Sort.LotC
import Derived.Test.YtmenpfhpflnbnaaTyp
import Derived.Test.YtmenpfhpflnbnaaEqs
import Derived.Test.YtmenpfhpflnbnaaDl
import Derived.Test.YtmenpfhpflnbnaaDataFnExactDeleteEdits2
set_option linter.unusedVariables false
set_option maxRecDepth 100000
set_option linter.unusedSimpArgs false
set_option linter.unusedSectionVars false
set_option maxHeartbeats 1000000
/-
  Pages that are being edited: one edit.
-/
namespace Vm
open Go
theorem cvStr_w {h : H} {v : V} {l : List UInt8} {b : Nat} (w : BysW h v l b) (hl : l.length ≤ lim) : cvStr h v = some (.s (.str ⟨l.toArray⟩)) := by
  obtain ⟨rfl, w2, w3⟩ := w
  have h1 : cellsS 1 h (sv b 0 l.length) = some (l.map cell8) := by
    have hc : h.cells b = l.map cell8 := by unfold H.cells; rw [if_pos w2, w3]; rfl
    simp only [cellsS, hc]
    rw [if_pos ⟨w2, by simp⟩, List.drop_zero, List.take_of_length_le (by simp)]
  simp only [cvStr, h1, Option.bind_some, bytesS_map]
  rw [if_pos hl]
theorem RepL.get {R : S → S → List Nat → Prop} {ys fs : List S} {bs : List Nat} (w : RepL R ys fs bs) : ∀ {i : Nat} {f : S}, fs[i]? = some f → ∃ y b, ys[i]? = some y ∧ R y f b ∧ ∀ a ∈ b, a ∈ bs := by
  induction w with
  | nil => intro i f h; simp at h
  | @cons y f0 b0 ys fs bss h1 h2 ih =>
    intro i f h
    cases i with
    | zero =>
      simp at h; subst h
      exact ⟨y, b0, rfl, h1, fun a ha => by simp [ha]⟩
    | succ i =>
      rw [List.getElem?_cons_succ] at h
      obtain ⟨y', b', e1, e2, e3⟩ := ih h
      exact ⟨y', b', by rw [List.getElem?_cons_succ]; exact e1, e2, fun a ha => by simp [e3 a ha]⟩
theorem bss_flat (ps : List (List UInt8)) : (bss ps).flatten = ps.map fun l => S.fs (bys l) := by
  induction ps with
  | nil => rfl
  | cons l ps ih =>
    show pgr l ++ (bss ps).flatten = _
    rw [ih]; rfl
theorem get_pg {R : Type} {y : S} {ps : List (List UInt8)} {bs : List Nat} {h : H} {i : Nat} {l : List UInt8} (w : OutS 1 1 y (bss ps) bs h) (hi : ps[i]? = some l) (hne : l ≠ []) :
    ∃ c, c ∈ bs ∧ BysW h (sv c 0 l.length) l c ∧ ∀ {w0 : Nat} {zz : List S} {dd : TD} {bb : Bool} {kd : IntKind} {f : V → Option R}, (idxK 1 (.s y) (iv kd (i : Int)) fun v => ldK (.one .f) ⟨1, w0, zz, false, dd, bb⟩ h v f) = f (sv c 0 l.length) := by
  have hil : i < ps.length := (List.getElem?_eq_some_iff.1 hi).1
  rcases w.rep with ⟨⟨h3, h4⟩ | ⟨h3, h4⟩, h5⟩ | ⟨b, z', cs, rows', bss', h3, h4, h5, h6, h7, h8, h9, h10⟩
  · rw [← h4] at h3; exact h3.elim
  · injection h4 with h4
    have := congrArg List.length h4
    simp at this
    subst this
    simp at hil
  · injection h4 with h4
    subst h4
    subst h3
    rw [bss_flat] at h10
    obtain ⟨yp, bp, g1, g2, g3⟩ := h10.get (i := i) (f := .fs (bys l)) (by simp [hi])
    rcases g2.of_bys with ⟨h1, _⟩ | ⟨c, h1, h2⟩
    · exact absurd h1 hne
    · have hv := h1.v
      injection hv with hv
      subst hv
      refine ⟨c, by rw [h5]; simp [g3 c (by rw [h2]; simp)], h1, ?_⟩
      intro w0 zz dd bb kd f
      rw [bss_len, idxK_sv hil]
      show ldT _ h (pv b (i * 1)) f = _
      unfold ldT
      have : load1 h (pv b (i * 1)) = some (.sl (some (c, 0)) l.length) := by
        simp [load1, H.cells, h6, h8, Blk.cells, g1]
      simp only [cond_false]
      rw [this, ob]
/-- pages that are being edited, in block q -/
structure Dk (n0 q : Nat) (y1 y2 : S) (ps : List (List UInt8)) (es : List RunD) (b1 b2 : List Nat) (h : H) : Prop where
  p : OutS 1 1 y1 (bss ps) b1 h
  e : OutS 2 1 y2 (runs es) b2 h
  d : ∀ a ∈ b1, a ∉ b2
  l1 : ∀ a ∈ b1, a ≠ q ∧ n0 ≤ a
  l2 : ∀ a ∈ b2, a ≠ q ∧ n0 ≤ a
  qn : n0 ≤ q ∧ q < h.n
  g : h.g q = .rw 0 [y1, y2]
theorem Dk.ld {n0 q : Nat} {y1 y2 : S} {ps : List (List UInt8)} {es : List RunD} {b1 b2 : List Nat} {h : H} (w : Dk n0 q y1 y2 ps es b1 b2 h) {o : Nat} : load1 h (pv q o) = ([y1, y2] : List S)[o]? := by
  simp [load1, H.cells, w.qn.2, w.g, Blk.cells]
theorem Dk.bel {n0 q : Nat} {y1 y2 : S} {ps : List (List UInt8)} {es : List RunD} {b1 b2 : List Nat} {h : H} (w : Dk n0 q y1 y2 ps es b1 b2 h) : (h.g q).cells.all (belS h.n) = true := by
  rw [w.g]
  simp only [Blk.cells, List.all_cons, List.all_nil, Bool.and_true]
  rw [w.e.rep.top w.e.rep.lt, w.p.rep.top w.p.rep.lt]; rfl
theorem Dk.frame {n0 q : Nat} {y1 y2 : S} {ps : List (List UInt8)} {es : List RunD} {b1 b2 : List Nat} {h h' : H} (w : Dk n0 q y1 y2 ps es b1 b2 h) (hn : h.n ≤ h'.n) (hg : ∀ a, a < h.n → (a ∈ b1 ∨ a ∈ b2 ∨ a = q) → h'.g a = h.g a) : Dk n0 q y1 y2 ps es b1 b2 h' :=
  ⟨w.p.frame fun a ha => by have := w.p.rep.lt a ha; exact ⟨by omega, hg a this (.inl ha)⟩, w.e.frame fun a ha => by have := w.e.rep.lt a ha; exact ⟨by omega, hg a this (.inr (.inl ha))⟩, w.d, w.l1, w.l2, ⟨w.qn.1, Nat.lt_of_lt_of_le w.qn.2 hn⟩, (hg q w.qn.2 (.inr (.inr rfl))).trans w.g⟩
theorem r_edit {n0 q : Nat} {h : H} {y1 y2 : S} {ps : List (List UInt8)} {es : List RunD} {b1 b2 : List Nat} (w : Dk n0 q y1 y2 ps es b1 b2 h) {p c : Nat} {l m : List UInt8} (hp : ps[p]? = some l) (hl : l ≠ []) (hll : l.length ≤ lim) (wm : BysW h (sv c 0 m.length) m c) (hm : m.length ≤ lim) (hcq : c ≠ q) (hc1 : c ∉ b1) (hc2 : c ∉ b2) (hes : es.length ≤ 1000) (hpl : ps.length ≤ 1000) (hne : l ≠ m) :
    ∃ h' y2' b1' b2', call Ev Fn.impl_desk_edit [pv q 0, iv .i64 p, sv c 0 m.length] h = some (.tup [], h') ∧ Dk n0 q y1 y2' (ps.set p m) (es ++ [⟨p, m⟩]) b1' b2' h' ∧ h.n ≤ h'.n ∧ (∀ a, a < h.n → a ∉ b1 → a ∉ b2 → a ≠ q → h'.g a = h.g a) ∧ h'.g q = .rw 0 [y1, y2'] ∧ (∀ N, N ≤ h.n → belS N y2' = false) ∧ (∀ a, a ∈ b1' ∨ a ∈ b2' → a ∈ b1 ∨ a ∈ b2 ∨ h.n ≤ a) := by
  have hpn : p < ps.length := (List.getElem?_eq_some_iff.1 hp).1
  rw [eq_impl_desk_edit]
  simp only [Nat.zero_add, w.ld, gx0, ob]
  rw [len_out w.p, ob, bss_len]
  simp only [gV1_s, gI_i]
  rw [vcase_b, if_neg (by simp; omega)]
  obtain ⟨cp, hcp, wp, gp⟩ := get_pg w.p hp hl
  rw [gp, cvStr_w wp hll, ob]
  simp only [gV1_s, gS_s]
  rw [cvStr_w wm hm, ob]
  simp only [gV1_s, gS_s]
  rw [vcase_b, tl_eq, if_neg (by simpa using hne)]
  rw [frzVs_cons (frz1 (ob := some c) wm) frzVs_nil, ob, norm_nil]
  obtain ⟨v, k1, e1, w1, nn⟩ := f_copied (m := m) hm h.n
  obtain ⟨e3, wb, u2, n2, x2⟩ := new_bys e1 w1 nn
  rw [e3]
  generalize h.over k1 = K at wb u2 n2 x2 ⊢
  rw [hchk_of x2]
  simp only [sca_v, scaS, cond_true]
  have hqn := w.qn
  have wk : OutS 1 1 y1 (bss ps) b1 K := w.p.frame fun a ha => by
    have := w.p.rep.lt a ha
    exact ⟨by omega, u2.g a this⟩
  obtain ⟨h3, bs3, e4, w4, n4, m4, o4, _⟩ := set_pg (R := V × H) (i := p) (f := fun h128 => Jn.impl_desk_edit_0 h128 q 0 (sv c 0 m.length) (p : Int)) wk hpn wb (fun hh => by have := w.p.rep.lt _ hh; omega)
  rw [e4]
  unfold Jn.impl_desk_edit_0
  have g3 : ∀ a, a < h.n → a ∉ b1 → h3.g a = h.g a := fun a ha hb => (o4 a hb).trans (u2.g a ha)
  have hq3 : h3.g q = .rw 0 [y1, y2] := (g3 q hqn.2 (fun hh => (w.l1 q hh).1 rfl)).trans w.g
  have ld3 : ∀ {o : Nat}, load1 h3 (pv q o) = ([y1, y2] : List S)[o]? := fun {o} => by
    have : q < h3.n := by omega
    simp [load1, H.cells, this, hq3, Blk.cells]
  simp only [Nat.zero_add, ld3, gx0, gx1, ob]
  have wm3 : BysW h3 (sv c 0 m.length) m c := ⟨rfl, by have := wm.n; omega, (g3 c wm.n hc1).trans wm.g⟩
  rw [frzVs_cons (frz1 (ob := some c) wm3) frzVs_nil, ob, norm_nil]
  obtain ⟨v, k5, e5, w5, nn5⟩ := f_copied (m := m) hm h3.n
  obtain ⟨e6, wb6, u6, n6, x6⟩ := new_bys e5 w5 nn5
  rw [e6]
  generalize h3.over k5 = K2 at wb6 u6 n6 x6 ⊢
  rw [hchk_of x6, cellsR rfl, hchk_of (HExt.new x6)]
  have wk6 : OutS 2 1 y2 (runs es) b2 K2 := w.e.frame fun a ha => by
    have := w.e.rep.lt a ha
    exact ⟨by omega, (u6.g a (by omega)).trans (g3 a this (fun hh => w.d a hh ha))⟩
  have wr := run_row (a := (p : Int)) (N := 0) wb6
  obtain ⟨h7, bs7, e7, w7, n7, f7, o7, q7, _⟩ := app_row wk6 wr rfl (by omega) (by simp) (fun a ha hh => by have := w.e.rep.lt a ha; have := List.mem_singleton.1 hh; omega) (by simp; unfold lim; omega)
  rw [e7, ob]
  dsimp only
  have kq : h7.g q = .rw 0 [y1, y2] := by rw [o7 q (by omega) (fun hh => (w.l2 q hh).1 rfl), u6.g q (by omega)]; exact hq3
  rw [stK_rw (z := 1) (e := 0) (o := 1) (b := q) (cs := [y1, y2]) (r := [.sl (some (K2.n + 1, 0)) ((runs es).length + 1)]) (by omega) kq (.inl ⟨_, rfl, rfl, rfl⟩) rfl (by simp)]
  rw [show setAt [y1, y2] 1 [S.sl (some (K2.n + 1, 0)) ((runs es).length + 1)] = [y1, .sl (some (K2.n + 1, 0)) ((runs es).length + 1)] from rfl]
  rw [← runs_snoc] at w7
  have f7' : ∀ a ∈ bs7, a ∈ b2 ∨ h3.n ≤ a := fun a ha => by
    rcases f7 a ha with h1 | h1 | h1
    · right; omega
    · exact .inl h1
    · have := List.mem_singleton.1 h1; right; omega
  have m4' : ∀ a ∈ bs3, a ∈ b1 ∨ (h.n ≤ a ∧ a < h3.n) := fun a ha => by
    rcases m4 a ha with h1 | h1
    · exact .inl h1
    · right; omega
  refine ⟨_, _, bs3, bs7, rfl, ⟨w4.frame fun a ha => ?_, w7.frame fun a ha => ⟨by rw [put_n]; exact w7.rep.lt a ha, put_g' ?_⟩, fun a ha hh => ?_, fun a ha => ?_, fun a ha => ?_, ⟨hqn.1, by rw [put_n]; omega⟩, put_g _ _ _⟩, by rw [put_n]; omega, fun a ha h1 h2 h3' => ?_, put_g _ _ _, fun N hN => by simp [belS]; omega, fun a ha => ?_⟩
  · have hlt := w4.rep.lt a ha
    have haq : a ≠ q := by
      rcases m4' a ha with h1 | h1
      · exact (w.l1 a h1).1
      · omega
    have hab : a ∉ b2 := by
      rcases m4' a ha with h1 | h1
      · exact w.d a h1
      · intro hh; have := w.e.rep.lt a hh; omega
    exact ⟨by rw [put_n]; omega, by rw [put_g' haq, o7 a (by omega) hab, u6.g a (by omega)]⟩
  · rcases f7' a ha with h1 | h1
    · exact (w.l2 a h1).1
    · omega
  · rcases m4' a ha with h1 | h1
    · rcases f7' a hh with h2 | h2
      · exact w.d a h1 h2
      · have := w.p.rep.lt a h1; omega
    · rcases f7' a hh with h2 | h2
      · have := w.e.rep.lt a h2; omega
      · omega
  · rcases m4' a ha with h1 | h1
    · exact w.l1 a h1
    · have := w.qn; omega
  · rcases f7' a ha with h1 | h1
    · exact w.l2 a h1
    · have := w.qn; omega
  · rw [put_g' h3', o7 a (by omega) h2, u6.g a (by omega)]
    exact g3 a ha h1
  · rcases ha with ha | ha
    · rcases m4' a ha with h1 | h1
      · exact .inl h1
      · exact .inr (.inr h1.1)
    · rcases f7' a ha with h1 | h1
      · exact .inr (.inl h1)
      · right; right; omega
theorem r_turn {n0 q : Nat} {h : H} {y1 y2 : S} {ps : List (List UInt8)} {es : List RunD} {b1 b2 : List Nat} (w : Dk n0 q y1 y2 ps es b1 b2 h) {p c : Nat} {l m : List UInt8} (hp : ps[p]? = some l) (hl : l ≠ []) (hll : l.length ≤ lim) (wm : BysW h (sv c 0 m.length) m c) (hm : m.length ≤ lim) (hcq : c ≠ q) (hc1 : c ∉ b1) (hc2 : c ∉ b2) (hes : es.length ≤ 1000) (hpl : ps.length ≤ 1000) (hne : l ≠ m) :
    ∃ h' y2' b1' b2', call Ev Fn.spec_l7Turn [pv q 0, iv .i64 p, sv c 0 m.length] h = some (.tup [], h') ∧ Dk n0 q y1 y2' (ps.set p m) (es ++ [⟨p, m⟩]) b1' b2' h' ∧ h.n ≤ h'.n ∧ (∀ a, a < h.n → a ∉ b1 → a ∉ b2 → a ≠ q → h'.g a = h.g a) ∧ h'.g q = .rw 0 [y1, y2'] ∧ (∀ N, N ≤ h.n → belS N y2' = false) ∧ (∀ a, a ∈ b1' ∨ a ∈ b2' → a ∈ b1 ∨ a ∈ b2 ∨ h.n ≤ a) := by
  have hpn : p < ps.length := (List.getElem?_eq_some_iff.1 hp).1
  rw [eq_spec_l7Turn]
  simp only [Nat.zero_add, w.ld, gx0, ob]
  rw [len_out w.p, ob, bss_len]
  simp only [gV1_s, gI_i]
  rw [vcase_b, if_neg (by simp; omega)]
  obtain ⟨cp, hcp, wp, gp⟩ := get_pg w.p hp hl
  rw [gp, cvStr_w wp hll, ob]
  simp only [gV1_s, gS_s]
  rw [cvStr_w wm hm, ob]
  simp only [gV1_s, gS_s]
  rw [vcase_b, tl_eq, if_neg (by simpa using hne)]
  rw [frzVs_cons (frz1 (ob := some c) wm) frzVs_nil, ob, norm_nil]
  obtain ⟨v, k1, e1, w1, nn⟩ := f_l2Copy (m := m) hm h.n
  obtain ⟨e3, wb, u2, n2, x2⟩ := new_bys e1 w1 nn
  rw [e3]
  generalize h.over k1 = K at wb u2 n2 x2 ⊢
  rw [hchk_of x2]
  simp only [sca_v, scaS, cond_true]
  have hqn := w.qn
  have wk : OutS 1 1 y1 (bss ps) b1 K := w.p.frame fun a ha => by
    have := w.p.rep.lt a ha
    exact ⟨by omega, u2.g a this⟩
  obtain ⟨h3, bs3, e4, w4, n4, m4, o4, _⟩ := set_pg (R := V × H) (i := p) (f := fun h128 => Jn.spec_l7Turn_0 h128 q 0 (sv c 0 m.length) (p : Int)) wk hpn wb (fun hh => by have := w.p.rep.lt _ hh; omega)
  rw [e4]
  unfold Jn.spec_l7Turn_0
  have g3 : ∀ a, a < h.n → a ∉ b1 → h3.g a = h.g a := fun a ha hb => (o4 a hb).trans (u2.g a ha)
  have hq3 : h3.g q = .rw 0 [y1, y2] := (g3 q hqn.2 (fun hh => (w.l1 q hh).1 rfl)).trans w.g
  have ld3 : ∀ {o : Nat}, load1 h3 (pv q o) = ([y1, y2] : List S)[o]? := fun {o} => by
    have : q < h3.n := by omega
    simp [load1, H.cells, this, hq3, Blk.cells]
  simp only [Nat.zero_add, ld3, gx0, gx1, ob]
  have wm3 : BysW h3 (sv c 0 m.length) m c := ⟨rfl, by have := wm.n; omega, (g3 c wm.n hc1).trans wm.g⟩
  rw [frzVs_cons (frz1 (ob := some c) wm3) frzVs_nil, ob, norm_nil]
  obtain ⟨v, k5, e5, w5, nn5⟩ := f_l2Copy (m := m) hm h3.n
  obtain ⟨e6, wb6, u6, n6, x6⟩ := new_bys e5 w5 nn5
  rw [e6]
  generalize h3.over k5 = K2 at wb6 u6 n6 x6 ⊢
  rw [hchk_of x6, cellsR rfl, hchk_of (HExt.new x6)]
  have wk6 : OutS 2 1 y2 (runs es) b2 K2 := w.e.frame fun a ha => by
    have := w.e.rep.lt a ha
    exact ⟨by omega, (u6.g a (by omega)).trans (g3 a this (fun hh => w.d a hh ha))⟩
  have wr := run_row (a := (p : Int)) (N := 0) wb6
  obtain ⟨h7, bs7, e7, w7, n7, f7, o7, q7, _⟩ := app_row wk6 wr rfl (by omega) (by simp) (fun a ha hh => by have := w.e.rep.lt a ha; have := List.mem_singleton.1 hh; omega) (by simp; unfold lim; omega)
  rw [e7, ob]
  dsimp only
  have kq : h7.g q = .rw 0 [y1, y2] := by rw [o7 q (by omega) (fun hh => (w.l2 q hh).1 rfl), u6.g q (by omega)]; exact hq3
  rw [stK_rw (z := 1) (e := 0) (o := 1) (b := q) (cs := [y1, y2]) (r := [.sl (some (K2.n + 1, 0)) ((runs es).length + 1)]) (by omega) kq (.inl ⟨_, rfl, rfl, rfl⟩) rfl (by simp)]
  rw [show setAt [y1, y2] 1 [S.sl (some (K2.n + 1, 0)) ((runs es).length + 1)] = [y1, .sl (some (K2.n + 1, 0)) ((runs es).length + 1)] from rfl]
  rw [← runs_snoc] at w7
  have f7' : ∀ a ∈ bs7, a ∈ b2 ∨ h3.n ≤ a := fun a ha => by
    rcases f7 a ha with h1 | h1 | h1
    · right; omega
    · exact .inl h1
    · have := List.mem_singleton.1 h1; right; omega
  have m4' : ∀ a ∈ bs3, a ∈ b1 ∨ (h.n ≤ a ∧ a < h3.n) := fun a ha => by
    rcases m4 a ha with h1 | h1
    · exact .inl h1
    · right; omega
  refine ⟨_, _, bs3, bs7, rfl, ⟨w4.frame fun a ha => ?_, w7.frame fun a ha => ⟨by rw [put_n]; exact w7.rep.lt a ha, put_g' ?_⟩, fun a ha hh => ?_, fun a ha => ?_, fun a ha => ?_, ⟨hqn.1, by rw [put_n]; omega⟩, put_g _ _ _⟩, by rw [put_n]; omega, fun a ha h1 h2 h3' => ?_, put_g _ _ _, fun N hN => by simp [belS]; omega, fun a ha => ?_⟩
  · have hlt := w4.rep.lt a ha
    have haq : a ≠ q := by
      rcases m4' a ha with h1 | h1
      · exact (w.l1 a h1).1
      · omega
    have hab : a ∉ b2 := by
      rcases m4' a ha with h1 | h1
      · exact w.d a h1
      · intro hh; have := w.e.rep.lt a hh; omega
    exact ⟨by rw [put_n]; omega, by rw [put_g' haq, o7 a (by omega) hab, u6.g a (by omega)]⟩
  · rcases f7' a ha with h1 | h1
    · exact (w.l2 a h1).1
    · omega
  · rcases m4' a ha with h1 | h1
    · rcases f7' a hh with h2 | h2
      · exact w.d a h1 h2
      · have := w.p.rep.lt a h1; omega
    · rcases f7' a hh with h2 | h2
      · have := w.e.rep.lt a h2; omega
      · omega
  · rcases m4' a ha with h1 | h1
    · exact w.l1 a h1
    · have := w.qn; omega
  · rcases f7' a ha with h1 | h1
    · exact w.l2 a h1
    · have := w.qn; omega
  · rw [put_g' h3', o7 a (by omega) h2, u6.g a (by omega)]
    exact g3 a ha h1
  · rcases ha with ha | ha
    · rcases m4' a ha with h1 | h1
      · exact .inl h1
      · exact .inr (.inr h1.1)
    · rcases f7' a ha with h1 | h1
      · exact .inr (.inl h1)
      · right; right; omega
end Vm
/-
  Bytes copied on no heap, and what is made of the copy.
-/
namespace Vm
open Go
theorem cp_l2Copy {l : List UInt8} (hl : l.length ≤ lim) (n : Nat) : ∃ G : H, (∀ (R : Type) (off : Bool) (k : V → H → Option R), pcallF (call Ev) Fn.spec_l2Copy off [lv (bys l)] (D n) k = k (sv (n + 1) 0 l.length) G) ∧ G.n = n + 2 ∧ (∀ s ∈ (G.g n).cells, scaS s = true) ∧ BysW G (sv (n + 1) 0 l.length) l (n + 1) := by
  obtain ⟨v, h1, e1, w1, n1⟩ := f_l2Copy (m := l) hl n
  have hv := (show BysW h1 v l (n + 1) from w1.own).v
  subst hv
  have hle : (D n).n ≤ h1.n := w1.le
  have z1 := w1.z
  refine ⟨(D n).over h1, fun R off k => ?_, by rw [over_n hle, n1], fun s hs => ?_, ⟨rfl, by rw [over_n hle]; omega, by rw [over_ge (by simp)]; exact (show BysW h1 _ l (n + 1) from w1.own).g⟩⟩
  · rw [pF (h := D n) (h1 := h1) (v := sv (n + 1) 0 l.length) e1 ⟨rfl, w1.z⟩]
  · rw [over_ge (by simp)] at hs
    exact z1 n (Nat.le_refl _) (by omega) s hs
theorem NewB.of {G h' : H} {n : Nat} {v : V} {m : List UInt8} (gn : G.n = n + 2) (gz : ∀ s ∈ (G.g n).cells, scaS s = true) (o : Oth (n + 1) G h') (w : BysW h' v m (n + 1)) : NewB n h' v m (some (n + 1)) :=
  ⟨w, by rw [o.1]; omega, fun b hb => by cases hb; omega, fun b h2 h3 s hs => by
    rw [o.1, gn] at h3
    by_cases hb : b = n
    · subst hb
      rw [(o.2 b (by omega)).1] at hs
      exact gz s hs
    · have hb2 : b = n + 1 := by omega
      subst hb2
      rw [w.g] at hs
      obtain ⟨c, _, rfl⟩ := List.mem_map.1 hs
      rfl⟩
theorem NewB.nil {G : H} {n : Nat} (gn : n ≤ G.n) (gz : ∀ b, n ≤ b → b < G.n → ∀ s ∈ (G.g b).cells, scaS s = true) : NewB n G (.s (.sl none 0)) [] none :=
  ⟨⟨rfl, rfl⟩, gn, fun b hb => (by cases hb), gz⟩
/-- the same answer, frozen -/
theorem NewB.pv {f : Nat} {xs : List V} {h : H} {v : V} {l : List UInt8} {o : Option Nat} (hc : call Ev f xs (D 0) = some (v, h)) (w : NewB 0 h v l o) : pureV (call Ev) f xs = some (lv (bys l)) := by
  unfold pureV
  rw [hc, Vm.ob]
  exact frz1 w.own
end Vm
/-
  A slot let go.
-/
namespace Vm
open Go

/-- the count of slots without the empty ones at the end -/
def trimN (l : List UInt8) : Nat → Nat
  | 0 => 0
  | n + 1 => if siz l n = 0 then trimN l n else n + 1
theorem trimN_le (l : List UInt8) : ∀ n, trimN l n ≤ n
  | 0 => Nat.le_refl _
  | n + 1 => by unfold trimN; split <;> first | exact Nat.le_refl _ | exact Nat.le_trans (trimN_le l n) (Nat.le_succ _)
def cntB (l : List UInt8) (n : Nat) : List UInt8 := l.set 0 (UInt8.ofNat n)
theorem bt_set_ne {l : List UInt8} {i j : Nat} {c : UInt8} (h : i ≠ j) : bt (l.set i c) (j : Int) = bt l (j : Int) := by
  unfold bt
  rw [List.getD, List.getElem?_set_ne (by simpa using h)]; rfl
theorem bt_set_eq {l : List UInt8} {i : Nat} {c : UInt8} (h : i < l.length) : bt (l.set i c) (i : Int) = (c.toNat : Int) := by
  unfold bt
  rw [List.getD, Int.toNat_natCast, List.getElem?_set_self h]; rfl
theorem cntB_0 {l : List UInt8} {n : Nat} (hl : 0 < l.length) (hn : n < 256) : bt (cntB l n) 0 = n := by
  have := bt_set_eq (l := l) (i := 0) (c := UInt8.ofNat n) hl
  unfold cntB
  rw [show (0 : Int) = ((0 : Nat) : Int) from rfl, this]
  simp; omega
theorem cntB_siz {l : List UInt8} {n k : Nat} : siz (cntB l n) k = siz l k := by
  unfold siz cntB; exact bt_set_ne (by omega)
theorem cntB_len {l : List UInt8} {n : Nat} : (cntB l n).length = l.length := by simp [cntB]
theorem cntB_cntB {l : List UInt8} {n m : Nat} : (cntB l n).set 0 (UInt8.ofNat m) = cntB l m := by simp [cntB]
theorem lp_l2Drop {l : List UInt8} {b N : Nat} : ∀ (n : Nat) (h : H), n ≤ 16 → 64 ≤ l.length → BysW h (sv b 0 N) (cntB l n) b →
    ∃ h', Lp.spec_l2Drop 0 [sv b 0 N] h = some (.done [sv b 0 N] h') ∧ BysW h' (sv b 0 N) (cntB l (trimN l n)) b ∧ Oth b h h' := by
  intro n
  induction n with
  | zero =>
    intro h hn hl w
    have hN := w.len
    have c0 := cntB_0 (l := l) (n := 0) (by omega) (by omega)
    rw [cntB_len] at hN
    rw [eq_spec_l2Drop_l0, show iv .i64 0 = iv .i64 ((0 : Nat) : Int) from rfl, idxK_sv (by omega), w.get (by rw [cntB_len]; omega) rfl]
    simp only [gV1_s, gI_i, vcase_b]
    rw [show ((0 : Nat) : Int) = 0 from rfl, c0, if_neg (by simp), tidy_self]
    exact ⟨h, rfl, w, Oth.refl _ _⟩
  | succ n ih =>
    intro h hn hl w
    have hN := w.len
    have c0 := cntB_0 (l := l) (n := n + 1) (by omega) (by omega)
    have w' := w
    rw [cntB_len] at hN
    have g0 : ∀ {R : Type} {k : V → Option R}, ldK (.one (.i .u8)) ⟨1, 1, [.int .u8 0], false, .int .u8, false⟩ h (pv b (0 * 1)) k = k (iv .u8 ((n + 1 : Nat) : Int)) := fun {R k} => by
      rw [w.get (by rw [cntB_len]; omega) rfl, show ((0 : Nat) : Int) = 0 from rfl, c0]
    rw [eq_spec_l2Drop_l0, show iv .i64 0 = iv .i64 ((0 : Nat) : Int) from rfl, idxK_sv (by omega), g0]
    simp only [gV1_s, gI_i, vcase_b]
    rw [if_pos (by simp), idxK_sv (by omega), g0]
    simp only [gV1_s, gI_i]
    rw [w64 (n := ((n + 1 : Nat) : Int)) (by omega) (by omega), w64 (by omega) (by omega), show ((n + 1 : Nat) : Int) - 1 = (n : Int) from by omega, frzVs_cons (frz1 (ob := some b) w) (frzVs_cons frzV_iv frzVs_nil), Vm.ob]
    rw [norm_nil, pc (p_l2Size (by rw [cntB_len]; omega) (by omega)) rfl, cntB_siz]
    simp only [gV1_s, gI_i, vcase_b]
    unfold trimN
    by_cases hs : siz l n = 0
    · rw [if_pos (by simpa using hs), if_pos hs, idxK_sv (by omega), g0]
      simp only [gV1_s, gI_i]
      rw [idxK_sv (by omega), show ((n + 1 : Nat) : Int) - 1 = (n : Int) from by omega, w.set (c := UInt8.ofNat n) (by rw [cntB_len]; omega) (by rw [w8 (by omega) (by omega)]; simp; omega), tidy_put w.n]
      have w2 := w.set_w (i := 0) (c := UInt8.ofNat n)
      rw [cntB_cntB] at w2 ⊢
      obtain ⟨h', e1, e2, e3⟩ := ih _ (by omega) hl w2
      exact ⟨h', e1, e2, Oth.put.trans e3⟩
    · rw [if_neg (by simpa using hs), if_neg hs, tidy_self]
      exact ⟨h, rfl, w, Oth.refl _ _⟩
theorem lp_Drop {l : List UInt8} {b N : Nat} {q : Int} {p : V} : ∀ (n : Nat) (h : H), n ≤ 16 → 64 ≤ l.length → BysW h (sv b 0 N) (cntB l n) b →
    ∃ h', Lp.impl_DropSlot 0 [iv .i64 q, p, sv b 0 N] h = some (.done [iv .i64 q, p, sv b 0 N] h') ∧ BysW h' (sv b 0 N) (cntB l (trimN l n)) b ∧ Oth b h h' := by
  intro n
  induction n with
  | zero =>
    intro h hn hl w
    have hN := w.len
    have c0 := cntB_0 (l := l) (n := 0) (by omega) (by omega)
    rw [cntB_len] at hN
    rw [eq_impl_DropSlot_l0, show iv .i64 0 = iv .i64 ((0 : Nat) : Int) from rfl, idxK_sv (by omega), w.get (by rw [cntB_len]; omega) rfl]
    simp only [gV1_s, gI_i, vcase_b]
    rw [show ((0 : Nat) : Int) = 0 from rfl, c0, if_neg (by simp), tidy_self]
    exact ⟨h, rfl, w, Oth.refl _ _⟩
  | succ n ih =>
    intro h hn hl w
    have hN := w.len
    have c0 := cntB_0 (l := l) (n := n + 1) (by omega) (by omega)
    rw [cntB_len] at hN
    have g0 : ∀ {R : Type} {k : V → Option R}, ldK (.one (.i .u8)) ⟨1, 1, [.int .u8 0], false, .int .u8, false⟩ h (pv b (0 * 1)) k = k (iv .u8 ((n + 1 : Nat) : Int)) := fun {R k} => by
      rw [w.get (by rw [cntB_len]; omega) rfl, show ((0 : Nat) : Int) = 0 from rfl, c0]
    rw [eq_impl_DropSlot_l0, show iv .i64 0 = iv .i64 ((0 : Nat) : Int) from rfl, idxK_sv (by omega), g0]
    simp only [gV1_s, gI_i, vcase_b]
    rw [if_pos (by simp), idxK_sv (by omega), g0]
    simp only [gV1_s, gI_i]
    rw [w64 (n := ((n + 1 : Nat) : Int)) (by omega) (by omega), w64 (n := 2 * ((n + 1 : Nat) : Int)) (by omega) (by omega), w64 (by omega) (by omega), show 2 * ((n + 1 : Nat) : Int) + 1 = ((3 + 2 * n : Nat) : Int) from by omega, idxK_sv (by omega), w.get (by rw [cntB_len]; omega) rfl]
    have hz : bt (cntB l (n + 1)) ((3 + 2 * n : Nat) : Int) = siz l n := cntB_siz
    simp only [gV1_s, gI_i, vcase_b, hz]
    unfold trimN
    by_cases hs : siz l n = 0
    · rw [if_pos (by simpa using hs), if_pos hs, idxK_sv (by omega), g0]
      simp only [gV1_s, gI_i]
      rw [idxK_sv (by omega), show ((n + 1 : Nat) : Int) - 1 = (n : Int) from by omega, w.set (c := UInt8.ofNat n) (by rw [cntB_len]; omega) (by rw [w8 (by omega) (by omega)]; simp; omega), tidy_put w.n]
      have w2 := w.set_w (i := 0) (c := UInt8.ofNat n)
      rw [cntB_cntB] at w2 ⊢
      obtain ⟨h', e1, e2, e3⟩ := ih _ (by omega) hl w2
      exact ⟨h', e1, e2, Oth.put.trans e3⟩
    · rw [if_neg (by simpa using hs), if_neg hs, tidy_self]
      exact ⟨h, rfl, w, Oth.refl _ _⟩
/-- a page without a slot -/
def dropL (l : List UInt8) (k : Nat) : List UInt8 := ((l.set (2 + 2 * k) 0).set (3 + 2 * k) 0)
def dropB (l : List UInt8) (k : Nat) : List UInt8 := cntB (dropL l k) (trimN (dropL l k) (cnt l))
theorem dropL_len {l : List UInt8} {k : Nat} : (dropL l k).length = l.length := by simp [dropL]
theorem dropB_len {l : List UInt8} {k : Nat} : (dropB l k).length = l.length := by simp [dropB, cntB_len, dropL_len]
theorem dropL_cnt {l : List UInt8} {k : Nat} (hl : 0 < l.length) : cntB (dropL l k) (cnt l) = dropL l k := by
  unfold cntB
  have h0 : (dropL l k)[0]? = some (UInt8.ofNat (cnt l)) := by
    unfold dropL
    rw [List.getElem?_set_ne (by omega), List.getElem?_set_ne (by omega), List.getElem?_eq_getElem hl]
    congr 1
    have := cnt_eq l
    unfold bt at this
    rw [List.getD, List.getElem?_eq_getElem (by simpa using hl), Option.getD_some] at this
    have h2 : (l[0]).toNat = cnt l := by simp at this; omega
    rw [← h2]; simp
  obtain ⟨h1, h2⟩ := List.getElem?_eq_some_iff.1 h0
  rw [← h2]
  exact List.set_getElem_self h1
theorem f_l2Drop {l : List UInt8} {k : Nat} (h64 : l.length = 64) (hc : cnt l ≤ 16) (hk : k < cnt l) (n : Nat) : ∃ h', call Ev Fn.spec_l2Drop [lv (bys l), iv .i64 k] (D n) = some (sv (n + 1) 0 64, h') ∧ NewB n h' (sv (n + 1) 0 64) (dropB l k) (some (n + 1)) ∧ h'.n = n + 2 := by
  obtain ⟨G, e1, gn, gz, w⟩ := cp_l2Copy (l := l) (by unfold lim; omega) n
  rw [eq_spec_l2Drop, e1]
  rw [w64 (n := 2 * (k : Int)) (by omega) (by omega), w64 (by omega) (by omega), w64 (by omega) (by omega), show 2 + 2 * (k : Int) = ((2 + 2 * k : Nat) : Int) from by omega, show 3 + 2 * (k : Int) = ((3 + 2 * k : Nat) : Int) from by omega, idxK_sv (by omega), w.set (c := 0) (x := 0) (by omega) rfl, idxK_sv (by omega), (w.set_w).set (c := 0) (x := 0) (by simp; omega) rfl]
  have w3 := (w.set_w (i := 2 + 2 * k) (c := 0)).set_w (i := 3 + 2 * k) (c := 0)
  have o3 : Oth (n + 1) G ((G.put (n + 1) (Blk.rw 1 (List.map cell8 (l.set (2 + 2 * k) 0)))).put (n + 1) (Blk.rw 1 (List.map cell8 ((l.set (2 + 2 * k) 0).set (3 + 2 * k) 0)))) := Oth.put.trans Oth.put
  generalize (G.put (n + 1) (Blk.rw 1 (List.map cell8 (l.set (2 + 2 * k) 0)))).put (n + 1) (Blk.rw 1 (List.map cell8 ((l.set (2 + 2 * k) 0).set (3 + 2 * k) 0))) = K at w3 o3 ⊢
  have w4 : BysW K (sv (n + 1) 0 l.length) (cntB (dropL l k) (cnt l)) (n + 1) := by rw [dropL_cnt (by omega)]; exact w3
  obtain ⟨h', e2, e3, e4⟩ := lp_l2Drop (cnt l) _ hc (by rw [dropL_len]; omega) w4
  rw [e2, Vm.ob, lcase_done]
  simp only [gx0, Vm.ob]
  rw [h64] at e3 ⊢
  exact ⟨h', rfl, NewB.of gn gz (o3.trans e4) e3, by rw [(o3.trans e4).1, gn]⟩
end Vm
/-
  Laws taken out of longer texts.
-/
namespace Vm
open Go
/-- a page without a fault, by its parts -/
structure Pg (l : List UInt8) : Prop where
  len : l.length = 64
  head : headB l
  slots : ∀ i, i < cnt l → slotB l i
  apart : ∀ i k, i < cnt l → k < i → apartB l i k
  last : ¬ (0 < cnt l ∧ siz l (cnt l - 1) = 0)
theorem Pg.of {l : List UInt8} (h : pagF l = 0) : Pg l := by
  obtain ⟨a, b, c, d, e⟩ := pagF_ok h
  exact ⟨a, b, c, d, e⟩
theorem Pg.ok {l : List UInt8} (p : Pg l) : pagF l = 0 :=
  (PageIs.f (.inr (.inr (.inr (.inr (.inr ⟨p.len, p.head, p.slots, p.apart, p.last, rfl⟩)))))).symm
/-- one byte turned -/
theorem bt_set {l : List UInt8} {i j : Nat} {c : UInt8} (hi : i < l.length) : bt (l.set i c) (j : Int) = if j = i then (c.toNat : Int) else bt l (j : Int) := by
  split
  · rename_i h; subst h; exact bt_set_eq hi
  · rename_i h; exact bt_set_ne (fun e => h e.symm)
theorem u8n {n : Nat} (h : n < 256) : ((UInt8.ofNat n).toNat : Int) = n := by
  simp; omega
theorem cnt_of {l : List UInt8} {n : Nat} (h : bt l 0 = n) : cnt l = n := by unfold cnt; omega
/-- cells by their bytes -/
theorem cell_bt {l : List UInt8} {k j : Nat} (hl : plc l k + siz l k ≤ l.length) (hj : (j : Int) < siz l k) : bt (cellB l k) (j : Int) = bt l ((plc l k).toNat + j : Nat) := by
  obtain ⟨q1, q2, q3, q4⟩ := pl_bd l k
  unfold bt cellB
  simp only [Int.toNat_natCast, List.getD, List.getElem?_drop]
  rw [List.getElem?_take_of_lt (by omega)]
theorem cell_len {l : List UInt8} {k : Nat} (hl : plc l k + siz l k ≤ l.length) : (cellB l k).length = (siz l k).toNat := by
  obtain ⟨q1, q2, q3, q4⟩ := pl_bd l k
  unfold cellB
  rw [List.length_drop, List.length_take]; omega
theorem cell_same {l p : List UInt8} {i k : Nat} (hs : siz p k = siz l i) (hl : plc l i + siz l i ≤ l.length) (hp : plc p k + siz p k ≤ p.length)
    (hb : ∀ j : Nat, (j : Int) < siz l i → bt p ((plc p k).toNat + j : Nat) = bt l ((plc l i).toNat + j : Nat)) : cellB p k = cellB l i := by
  refine bt_ext (by rw [cell_len hl, cell_len hp, hs]) fun j hj => ?_
  rw [cell_len hp, hs] at hj
  rw [cell_bt hp (by omega), cell_bt hl (by omega)]
  exact hb j (by omega)
/-- all cells but one are the same -/
def Keep (l p : List UInt8) (s : Int) : Prop := ∀ i : Nat, i < 16 → (i : Int) ≠ s → hasB p i = hasB l i ∧ (hasB l i = true → cellB p i = cellB l i)
theorem has_iff {l : List UInt8} {i : Nat} : hasB l (i : Int) = true ↔ i < cnt l ∧ siz l i ≠ 0 := by
  have := cnt_eq l
  unfold hasB
  simp only [Bool.and_eq_true, decide_eq_true_eq, bne_iff_ne, Int.toNat_natCast]
  constructor
  · rintro ⟨a, b, c⟩; exact ⟨by omega, c⟩
  · rintro ⟨a, b⟩; exact ⟨by omega, by omega, b⟩
theorem has_eq {l p : List UInt8} {i : Nat} (h : (i < cnt p ∧ siz p i ≠ 0) ↔ (i < cnt l ∧ siz l i ≠ 0)) : hasB p (i : Int) = hasB l (i : Int) := by
  rw [Bool.eq_iff_iff, has_iff, has_iff]; exact h
theorem Pg.bd {l : List UInt8} (p : Pg l) {k : Nat} (hk : k < cnt l) (hs : siz l k ≠ 0) : bt l 1 ≤ plc l k ∧ plc l k + siz l k ≤ 64 := by
  have h := p.slots k hk
  have q := pl_bd l k
  unfold slotB at h
  split at h
  · rename_i hh
    rcases hh with hh | hh <;> omega
  · exact h
theorem Pg.nums {l : List UInt8} (p : Pg l) : bt l 0 = cnt l ∧ cnt l ≤ 16 ∧ 2 + 2 * (cnt l : Int) ≤ bt l 1 ∧ bt l 1 ≤ 64 := by
  have := cnt_eq l
  obtain ⟨h1, h2, h3⟩ := p.head
  omega
/-- the count without empty slots at the end -/
theorem trim_is (l : List UInt8) : ∀ n, (∀ j, trimN l n ≤ j → j < n → siz l j = 0) ∧ ¬ (0 < trimN l n ∧ siz l (trimN l n - 1) = 0)
  | 0 => ⟨fun j _ h => by omega, fun h => by simp [trimN] at h⟩
  | n + 1 => by
    unfold trimN
    split
    · rename_i hz
      obtain ⟨a, b⟩ := trim_is l n
      refine ⟨fun j h1 h2 => ?_, b⟩
      by_cases hj : j = n
      · subst hj; exact hz
      · exact a j h1 (by omega)
    · rename_i hz
      exact ⟨fun j h1 h2 => by omega, fun hh => hz hh.2⟩
/-- a slot that was let go -/
theorem drop_ok {l : List UInt8} {k : Nat} (hp : pagF l = 0) (hk : k < cnt l) : pagF (dropB l k) = 0 ∧ Keep l (dropB l k) k ∧ hasB (dropB l k) (k : Int) = false := by
  have w := Pg.of hp
  obtain ⟨w1, w2, w3, w4⟩ := w.nums
  have hn := trimN_le (dropL l k) (cnt l)
  obtain ⟨t1, t2⟩ := trim_is (dropL l k) (cnt l)
  have db : ∀ j : Nat, bt (dropL l k) (j : Int) = if j = 3 + 2 * k then 0 else if j = 2 + 2 * k then 0 else bt l (j : Int) := fun j => by
    unfold dropL
    rw [bt_set (by rw [List.length_set, w.len]; omega), bt_set (by rw [w.len]; omega)]; rfl
  have hlen : (dropB l k).length = 64 := by rw [dropB_len, w.len]
  unfold dropB at hlen ⊢
  generalize hN : trimN (dropL l k) (cnt l) = n at hn t1 t2 hlen ⊢
  have pb : ∀ j : Nat, bt (cntB (dropL l k) n) (j : Int) = if j = 0 then (n : Int) else bt (dropL l k) (j : Int) := fun j => by
    unfold cntB
    rw [bt_set (by rw [dropL_len, w.len]; omega), u8n (by omega)]
  have ps : ∀ i, siz (cntB (dropL l k) n) i = siz (dropL l k) i := fun i => cntB_siz
  generalize cntB (dropL l k) n = p at pb ps hlen ⊢
  have h0 : bt p 0 = n := by have := pb 0; simpa using this
  have h1 : bt p 1 = bt l 1 := by
    have := pb 1
    rw [if_neg (by omega), db, if_neg (by omega), if_neg (by omega)] at this
    exact this
  have hk0 : plc p k = 0 ∧ siz p k = 0 := by
    unfold plc siz
    refine ⟨?_, ?_⟩
    · rw [pb, if_neg (by omega), db, if_neg (by omega), if_pos rfl]
    · rw [pb, if_neg (by omega), db, if_pos rfl]
  have ht : ∀ i, i ≠ k → plc p i = plc l i ∧ siz p i = siz l i := fun i hne => by
    unfold plc siz
    refine ⟨?_, ?_⟩
    · rw [pb, if_neg (by omega), db, if_neg (by omega), if_neg (by omega)]
    · rw [pb, if_neg (by omega), db, if_neg (by omega), if_neg (by omega)]
  have hcp := cnt_of h0
  have hg : Pg p := ⟨hlen, ⟨by omega, by omega, by omega⟩, fun i hi => by
      by_cases hik : i = k
      · subst hik; unfold slotB; rw [if_pos (.inl hk0.1)]; omega
      · have := w.slots i (by omega)
        unfold slotB at this ⊢
        rw [(ht i hik).1, (ht i hik).2, h1]; exact this,
    fun i j hi hj => by
      by_cases hik : i = k
      · subst hik; exact .inl hk0.2
      · by_cases hjk : j = k
        · subst hjk; exact .inr (.inl hk0.2)
        · have := w.apart i j (by omega) hj
          unfold apartB at this ⊢
          rw [(ht i hik).1, (ht i hik).2, (ht j hjk).1, (ht j hjk).2]; exact this,
    by rw [hcp, ps]; exact t2⟩
  refine ⟨hg.ok, fun i hi hne => ?_, ?_⟩
  · have hik : i ≠ k := by omega
    have e : (i < cnt p ∧ siz p i ≠ 0) ↔ (i < cnt l ∧ siz l i ≠ 0) := by
      rw [hcp, (ht i hik).2]
      constructor
      · rintro ⟨g1, g2⟩; exact ⟨by omega, g2⟩
      · rintro ⟨g1, g2⟩
        refine ⟨?_, g2⟩
        apply Classical.byContradiction
        intro hh
        have := t1 i (by omega) g1
        rw [← ps, (ht i hik).2] at this
        exact g2 this
    refine ⟨has_eq e, fun hh => ?_⟩
    obtain ⟨g1, g2⟩ := has_iff.1 hh
    obtain ⟨b1, b2⟩ := w.bd g1 g2
    have q := pl_bd l i
    refine cell_same (ht i hik).2 (by rw [w.len]; omega) (by rw [(ht i hik).1, (ht i hik).2, hlen]; omega) fun j hj => ?_
    rw [(ht i hik).1, pb, if_neg (by omega), db, if_neg (by omega), if_neg (by omega)]
  · rw [Bool.eq_false_iff]
    intro hh
    exact (has_iff.1 hh).2 hk0.2
end Vm
/-
  Results of a code, a number and a page: compared, marked, found again.
-/
namespace Vm
open Go

theorem loadN_3 {e b : Nat} {h : H} {x y z : S} (hb : b < h.n) (hg : h.g b = .rw e [x, y, z]) : loadN 3 h (pv b 0) = some [x, y, z] := loadN_rw hb hg (by simp)
theorem st3_new {R : Type} {h : H} {x y z a b c : S} {k : H → Option R} : stK 3 (h.new 0 [a, b, c]) (pv h.n 0) (.agg [x, y, z]) k = k ((h.new 0 [a, b, c]).put h.n (.rw 0 [x, y, z])) :=
  stK_rw (z := 3) (e := 0) (o := 0) (b := h.n) (cs := [a, b, c]) (r := [x, y, z]) (by simp) (new_g _ _ _) (.inr rfl) rfl (by simp)
theorem frz3 {h : H} {c d : Int} {y : S} {l : List UInt8} {ob : Option Nat} (w : Own h (.s y) l ob) : frzV h (.agg [.int .i64 c, .int .i64 d, y]) = some (.agg [.int .i64 c, .int .i64 d, .fs (bys l)]) := by
  obtain ⟨s, h1, h2⟩ := w.frz (d := 7)
  cases h1
  simp [h2]
theorem NewB.p3 {f : Nat} {xs : List V} {h : H} {c d : Int} {y : S} {l : List UInt8} {o : Option Nat} (hc : call Ev f xs (D 0) = some (.agg [.int .i64 c, .int .i64 d, y], h)) (w : NewB 0 h (.s y) l o) : pureV (call Ev) f xs = some (.agg [.int .i64 c, .int .i64 d, .fs (bys l)]) := by
  unfold pureV
  rw [hc, Vm.ob, frz3 w.own]
/-- a fault, as a new result -/
theorem badP (n : Nat) (c : Int) : ∃ h', (stK 3 ((D n).new 0 [.int .i64 0, .int .i64 0, .sl none 0]) (pv ((D n).n) 0) (.agg [.int .i64 c, .int .i64 0, .sl none 0]) fun h105 =>
      (loadN 3 h105 (pv ((D n).n) 0)).bind fun c106 => some (V.agg c106, h105)) = some (.agg [.int .i64 c, .int .i64 0, .sl none 0], h') ∧ NewB n h' (.s (.sl none 0)) [] none := by
  rw [st3_new, loadN_3 (by simp) (by exact g_st), Vm.ob]
  refine ⟨_, rfl, ⟨rfl, rfl⟩, by simp, by simp, fun b h1 h2 s hs => ?_⟩
  have h3 : b = n := by simp at h2; omega
  subst h3
  have e : (((D b).new 0 [.int .i64 0, .int .i64 0, .sl none 0]).put (D b).n (.rw 0 [.int .i64 c, .int .i64 0, .sl none 0])).g b = .rw 0 [.int .i64 c, .int .i64 0, .sl none 0] := g_st
  rw [e] at hs
  simp only [Blk.cells, List.mem_cons, List.not_mem_nil, or_false] at hs
  rcases hs with rfl | rfl | rfl <;> rfl
end Vm
/-
  A slot let go: what both ways come to.
-/
namespace Vm
open Go
noncomputable def drC (l : List UInt8) (i : Int) : Int := slC l i
noncomputable def drS (l : List UInt8) (i : Int) : Int := if pagF l = 0 ∧ hasB l i = true then i else 0
noncomputable def drL (l : List UInt8) (i : Int) : List UInt8 := if pagF l = 0 ∧ hasB l i = true then dropB l i.toNat else []
theorem f_DropSlot {l : List UInt8} {i : Int} (hl : l.length ≤ lim) (n : Nat) : ∃ y h' ob, call Ev Fn.impl_DropSlot [lv (bys l), iv .i64 i] (D n) = some (.agg [.int .i64 (drC l i), .int .i64 (drS l i), y], h') ∧ NewB n h' (.s y) (drL l i) ob := by
  rw [eq_impl_DropSlot, pc p_PageFault rfl]
  simp only [gV1_s, gI_i, vcase_b]
  unfold drC slC drS drL
  by_cases hp : pagF l = 0
  case neg =>
    obtain ⟨h', e1, e2⟩ := badP n (pagF l)
    rw [if_pos (by simpa using hp), if_neg hp, if_neg (fun hh => hp hh.1), if_neg (fun hh => hp hh.1), e1]
    exact ⟨_, h', none, rfl, e2⟩
  rw [if_neg (by simp [hp]), pc (p_hasSlot hp) rfl]
  simp only [gV1_s, gB_b, vcase_b]
  cases hb : hasB l i
  · obtain ⟨h', e1, e2⟩ := badP n 4
    rw [if_pos (by simp), e1]
    exact ⟨.sl none 0, h', none, by simp [hp], by simpa [hp] using e2⟩
  obtain ⟨k, rfl, hk, _⟩ := hasB_nat hb
  obtain ⟨h64, ⟨g1, _, _⟩, _⟩ := pagF_ok hp
  have hc := cnt_eq l
  rw [if_neg (by simp)]
  obtain ⟨v, h1, e1, w1, n1⟩ := f_copied hl (n + 1)
  have hn : ((D n).new 0 [.int .i64 0, .int .i64 0, .sl none 0]).n = n + 1 := by simp
  rw [pF (h := (D n).new 0 [.int .i64 0, .int .i64 0, .sl none 0]) (h1 := h1) (v := v) (by rw [hn]; exact e1) (by rw [hn]; exact ⟨by rw [(show BysW h1 v l (n + 2) from w1.own).v]; rfl, w1.z⟩)]
  have hv := (show BysW h1 v l (n + 2) from w1.own).v
  subst hv
  have hle : ((D n).new 0 [.int .i64 0, .int .i64 0, .sl none 0]).n ≤ h1.n := by rw [hn]; omega
  generalize hG : ((D n).new 0 [.int .i64 0, .int .i64 0, .sl none 0]).over h1 = G
  have gn : G.n = n + 3 := by rw [← hG, over_n hle]; omega
  have g0 : G.g n = .rw 0 [.int .i64 0, .int .i64 0, .sl none 0] := by rw [← hG, (over_lt (by simp)).1]; exact new_g (D n) _ _
  have gz : ∀ b, n + 1 ≤ b → b < n + 3 → b ≠ n + 2 → ∀ s ∈ (G.g b).cells, scaS s = true := fun b h2 h3 _ s hs => by
    rw [← hG, over_ge (by rw [hn]; omega)] at hs
    exact w1.z b h2 (by omega) s hs
  have w : BysW G (sv (n + 2) 0 l.length) l (n + 2) := ⟨rfl, by omega, by rw [← hG, over_ge (by rw [hn]; omega)]; exact w1.own.g⟩
  rw [w64 (n := 2 * (k : Int)) (by omega) (by omega), w64 (by omega) (by omega), w64 (by omega) (by omega), show 2 + 2 * (k : Int) = ((2 + 2 * k : Nat) : Int) from by omega, show 3 + 2 * (k : Int) = ((3 + 2 * k : Nat) : Int) from by omega, idxK_sv (by omega), w.set (c := 0) (x := 0) (by omega) rfl, idxK_sv (by omega), (w.set_w).set (c := 0) (x := 0) (by simp; omega) rfl]
  have w3 := (w.set_w (i := 2 + 2 * k) (c := 0)).set_w (i := 3 + 2 * k) (c := 0)
  have o3 : Oth (n + 2) G ((G.put (n + 2) (Blk.rw 1 (List.map cell8 (l.set (2 + 2 * k) 0)))).put (n + 2) (Blk.rw 1 (List.map cell8 ((l.set (2 + 2 * k) 0).set (3 + 2 * k) 0)))) := Oth.put.trans Oth.put
  generalize (G.put (n + 2) (Blk.rw 1 (List.map cell8 (l.set (2 + 2 * k) 0)))).put (n + 2) (Blk.rw 1 (List.map cell8 ((l.set (2 + 2 * k) 0).set (3 + 2 * k) 0))) = K at w3 o3 ⊢
  have w4 : BysW K (sv (n + 2) 0 l.length) (cntB (dropL l k) (cnt l)) (n + 2) := by rw [dropL_cnt (by omega)]; exact w3
  obtain ⟨h', e2, e3, e4⟩ := lp_Drop (q := (k : Int)) (p := pv n 0) (cnt l) _ (by omega) (by rw [dropL_len]; omega) w4
  rw [D_n, e2, Vm.ob, lcase_done]
  simp only [gx0, gx1, Vm.ob, gV1_s, gI_i, cellsK, isNo, cond_false, ln0, ln1, Nat.zero_add, Nat.reduceAdd, Nat.le_refl, and_self, if_true]
  have o4 := o3.trans e4
  have gh : h'.g n = .rw 0 [.int .i64 0, .int .i64 0, .sl none 0] := (o4.2 n (by omega)).1.trans g0
  have hN : h'.n = n + 3 := by rw [o4.1, gn]
  rw [show setAt [.int .i64 0, .int .i64 0, .sl none 0] 2 [S.sl (some (n + 2, 0)) l.length] = [.int .i64 0, .int .i64 0, .sl (some (n + 2, 0)) l.length] from rfl]
  simp only [ln0, ln1, Nat.zero_add, Nat.reduceAdd, Nat.reduceLeDiff, and_self, if_true]
  rw [show setAt [.int .i64 0, .int .i64 0, S.sl (some (n + 2, 0)) l.length] 1 [.int .i64 (k : Int)] = [.int .i64 0, .int .i64 k, .sl (some (n + 2, 0)) l.length] from rfl]
  simp only [gx0, gx1, Vm.ob, gI_i, ln0, ln1, Nat.zero_add, Nat.reduceAdd, if_true]
  rw [stK_rw (z := 3) (e := 0) (o := 0) (b := n) (cs := [.int .i64 0, .int .i64 0, .sl none 0]) (r := [.int .i64 0, .int .i64 k, .sl (some (n + 2, 0)) l.length]) (by omega) gh (.inr rfl) rfl (by simp)]
  rw [show setAt [.int .i64 0, .int .i64 0, .sl none 0] 0 [.int .i64 0, .int .i64 (k : Int), S.sl (some (n + 2, 0)) l.length] = [.int .i64 0, .int .i64 k, .sl (some (n + 2, 0)) l.length] from rfl]
  simp only [ldT, cond_true]
  rw [loadN_3 (b := n) (e := 0) (by rw [put_n]; omega) (put_g _ _ _), Vm.ob]
  refine ⟨.sl (some (n + 2, 0)) l.length, h'.put n (.rw 0 [.int .i64 0, .int .i64 k, .sl (some (n + 2, 0)) l.length]), some (n + 2), by simp [hp], ?_⟩
  rw [if_pos ⟨hp, by simp⟩, Int.toNat_natCast]
  have e3' : BysW h' (sv (n + 2) 0 l.length) (dropB l k) (n + 2) := e3
  refine ⟨⟨e3'.v, by rw [put_n]; omega, by rw [put_g' (by omega)]; exact e3'.g⟩, by rw [put_n]; omega, fun b hb => by cases hb; omega, fun b h2 h3 s hs => ?_⟩
  by_cases hbn : b = n
  · subst hbn
    rw [put_g] at hs
    simp only [Blk.cells, List.mem_cons, List.not_mem_nil, or_false] at hs
    rcases hs with rfl | rfl | rfl <;> rfl
  · rw [put_g' hbn] at hs
    rw [put_n] at h3
    by_cases hb2 : b = n + 2
    · subst hb2
      rw [e3'.g] at hs
      obtain ⟨c, _, rfl⟩ := List.mem_map.1 hs
      rfl
    · rw [(o4.2 b hb2).1] at hs
      exact gz b (by omega) (by omega) hb2 s hs
end Vm
/-
  What stands where a row is seen.
-/
namespace Vm
open Go
/-- a cell of a page -/
structure CellAt (ps : List (List UInt8)) (pp kk : Nat) (ll : List UInt8) : Prop where
  p : ps[pp]? = some ll
  l : pagF ll = 0
  h : hasB ll (kk : Int) = true
theorem CellAt.len {ps : List (List UInt8)} {p k : Nat} {l : List UInt8} (w : CellAt ps p k l) : l.length = 64 ∧ l ≠ [] ∧ k < cnt l ∧ k < 16 := by
  obtain ⟨h64, ⟨q1, _⟩, _⟩ := pagF_ok w.l
  have := (has_iff.1 w.h).1
  have := cnt_eq l
  exact ⟨h64, fun e => (by rw [e] at h64; cases h64), by omega, by omega⟩
theorem drop_ne {ps : List (List UInt8)} {p k : Nat} {l : List UInt8} (w : CellAt ps p k l) : l ≠ dropB l k := by
  intro e
  have := (drop_ok w.l w.len.2.2.1).2.2
  rw [← e, w.h] at this
  cases this
/-- behind a drop the others are still there -/
theorem CellAt.drop {ps : List (List UInt8)} {p k a b : Nat} {l l2 : List UInt8} (w : CellAt ps p k l) (w2 : CellAt ps a b l2) (hne : ¬ (a = p ∧ b = k)) : ∃ l3, CellAt (ps.set p (dropB l k)) a b l3 := by
  by_cases hap : a = p
  · subst hap
    have : l2 = l := by have h1 := w.p; rw [w2.p] at h1; injection h1
    subst this
    obtain ⟨d1, d2, d3⟩ := drop_ok w.l w.len.2.2.1
    have hlt : a < ps.length := (List.getElem?_eq_some_iff.1 w.p).1
    refine ⟨dropB l2 k, by rw [List.getElem?_set]; simp [hlt], d1, ?_⟩
    rw [(d2 b w2.len.2.2.2 (by omega)).1]; exact w2.h
  · exact ⟨l2, by rw [List.getElem?_set]; rw [if_neg (fun e => hap e.symm)]; exact w2.p, w2.l, w2.h⟩
theorem seenX_eq (ms : List SpotD) (x : SpotD) : (seenX ms x).p = x.p ∧ (seenX ms x).s = x.s ∧ (seenX ms x).c.flag = x.c.flag ∧ (seenX ms x).c.page = x.c.page ∧ (seenX ms x).c.slot = x.c.slot := by
  unfold seenX; split <;> exact ⟨rfl, rfl, rfl, rfl, rfl⟩
theorem miss_all {ms : List SpotD} : ∀ {sp : List SpotD}, missF ms (stubsO sp) = false → ∀ x ∈ sp, x.c.flag = 1 → (mvF ms x.c.page x.c.slot).isSome = true
  | [], _, x, hx, _ => by simp at hx
  | y :: sp, h, x, hx, hf => by
    by_cases hy : y.c.flag = 1
    · rw [stubsO_y hy, miss_cons, Bool.or_eq_false_iff] at h
      rcases List.mem_cons.1 hx with rfl | hx
      · have := h.1
        change (mvF ms x.c.page x.c.slot).isNone = false at this
        cases hm : mvF ms x.c.page x.c.slot with
        | none => rw [hm] at this; cases this
        | some r => rfl
      · exact miss_all h.2 x hx hf
    · rw [stubsO_n hy] at h
      rcases List.mem_cons.1 hx with rfl | hx
      · exact absurd hf hy
      · exact miss_all h x hx hf
/-- what stands where a row is seen -/
theorem seenA_ok {ps : List (List UInt8)} (h : viewC ps = 0) {z : SpotD} (hz : z ∈ seenA ps) :
    (∃ l, CellAt ps z.p z.s l) ∧ (z.c.flag = 1 → ∃ (a b : Nat) (l2 : List UInt8), z.c.page = a ∧ z.c.slot = b ∧ CellAt ps a b l2 ∧ ¬ (a = z.p ∧ b = z.s)) ∧ (z.c.flag = 0 ∨ z.c.flag = 1) := by
  obtain ⟨h1, h2, h3, h4⟩ := viewC_ok h
  unfold seenA seenP at hz
  obtain ⟨x, hx, rfl⟩ := List.mem_map.1 hz
  obtain ⟨hxs, hxf⟩ := List.mem_filter.1 hx
  obtain ⟨e1, e2, e3, e4, e5⟩ := seenX_eq (movsO (spotsF 0 ps)) x
  have hq := spotsF_ok (Q := fun x => ∃ l, CellAt ps x.p x.s l ∧ x.c = unpC (cellB l x.s)) ps 0 (fun i l hi s hs => ⟨l, ⟨by simpa using hi, (h2 l (List.mem_of_getElem? hi)).1, hs⟩, rfl⟩) x hxs
  obtain ⟨l, w, hc⟩ := hq
  have hsp := spots_sp h2 x hxs
  have hfl : x.c.flag = 0 ∨ x.c.flag = 1 := by
    have := hsp.f
    simp at hxf
    omega
  refine ⟨⟨l, by rw [e1, e2]; exact w⟩, fun hf => ?_, by rw [e3]; exact hfl⟩
  rw [e3] at hf
  have hm := miss_all h3 x hxs hf
  rw [mv_cell] at hm
  cases hca : cellAtF ps x.c.page x.c.slot with
  | none => rw [hca] at hm; cases hm
  | some c =>
    rw [hca, Option.bind_some] at hm
    have h2c : c.flag = 2 := by
      by_cases h2c : c.flag = 2
      · exact h2c
      · rw [if_neg h2c] at hm; cases hm
    obtain ⟨a, b, l2, q1, q2, q3, q4, q5⟩ := cell_some hca
    refine ⟨a, b, l2, by rw [e4]; exact q1, by rw [e5]; exact q2, ⟨q3, (h2 l2 (List.mem_of_getElem? q3)).1, q4⟩, ?_⟩
    rintro ⟨ha, hb⟩
    rw [e1] at ha
    rw [e2] at hb
    subst ha; subst hb
    have : l2 = l := by have h1 := w.p; rw [q3] at h1; injection h1
    subst this
    rw [← hc] at q5
    rw [q5] at h2c
    omega
end Vm
/-
  Laws taken out of longer texts.
-/
namespace Vm
open Go
theorem frzV_er {h : H} {c : Int} {a b : List (List S)} : frzV h (.agg [.int .i64 c, .fs a, .fs b]) = some (.agg [.int .i64 c, .fs a, .fs b]) := by simp
theorem loadE_3 {e b : Nat} {h : H} {x y z : S} (hb : b < h.n) (hg : h.g b = .rw e [x, y, z]) : loadN 3 h (pv b 0) = some [x, y, z] := loadN_rw hb hg (by simp)
theorem stE_3 {R : Type} {h : H} {x y z a b c : S} {k : H → Option R} : stK 3 (h.new 0 [a, b, c]) (pv h.n 0) (.agg [x, y, z]) k = k ((h.new 0 [a, b, c]).put h.n (.rw 0 [x, y, z])) :=
  stK_rw (z := 3) (e := 0) (o := 0) (b := h.n) (cs := [a, b, c]) (r := [x, y, z]) (by simp) (new_g _ _ _) (.inr rfl) rfl (by simp)
theorem p_eqER {c : Int} {m : List RunD × List (List UInt8)} (h1 : m.1.length ≤ maxLen ∧ m.2.length ≤ maxLen) (h2 : (∀ r ∈ m.1, r.l.length ≤ maxLen) ∧ ∀ l ∈ m.2, l.length ≤ maxLen) : pureV (call Ev) Fn.laws_eqEditsResult [.agg [.int .i64 c, .fs (runs m.1), .fs (bss m.2)], .agg [.int .i64 c, .fs (runs m.1), .fs (bss m.2)]] = some (bv true) := by
  rw [pu_laws_eqEditsResult, vcase_b, if_neg (by simp), pc (p_eqRunS h1.1 h2.1) rfl]
  simp only [gV1_s, gB_b, vcase_b, Bool.not_true, Bool.false_eq_true, if_false]
  rw [pc (p_eqPgs h1.2 h2.2 rfl) rfl]
  simp only [gV1_s, gB_b, vcase_b, Bool.not_true, Bool.false_eq_true, if_false]
theorem r_markER {h : H} {c : Int} {y z : S} {m : List RunD × List (List UInt8)} {lo hi k : Nat} (w : Sep (OwnC 4 [.int .i64 c, y, z] [.int .i64 c, .fs (runs m.1), .fs (bss m.2)] lo hi) lo hi h) (hl : k + (rsz m.1 + psz m.2) < 2 ^ 62) (hn : m.2.length < 2 ^ 62 := by omega) :
    ∃ p, call Ev Fn.laws_markEditsResult [.agg [.int .i64 c, y, z], iv .i64 k] h = some (iv .i64 ((k + (rsz m.1 + psz m.2) : Nat) : Int), p) ∧ Sep (OwnC 4 [.int .i64 c, y, z] [.int .i64 c, .fs (runs (mkRs k m.1)), .fs (bss (mkPs (k + rsz m.1) m.2))] lo hi) lo hi (tidy h [iv .i64 ((k + (rsz m.1 + psz m.2) : Nat) : Int)] p) ∧ ButR lo hi h (tidy h [iv .i64 ((k + (rsz m.1 + psz m.2) : Nat) : Int)] p) := by
  obtain ⟨bs, w1, w2, w3⟩ := w.now
  cases w1 with
  | @cons _ _ b0 _ _ bs' x0 w1 =>
    obtain ⟨_, rfl⟩ := x0.of_sc trivial
    cases w1 with
    | @cons _ _ b1 _ _ bs'' x1 w1 =>
      cases w1 with
      | @cons _ _ b2 _ _ bs3 x2 w1 =>
        cases w1
        simp only [List.nil_append, List.append_nil] at w2 w3
        have hnd := List.nodup_append.1 w2
        rw [eq_laws_markEditsResult]
        generalize hG : h.new 0 [.int .i64 c, y, z] = G
        have gn : G.n = h.n + 1 := by rw [← hG]; simp
        have gg : G.g h.n = .rw 0 [.int .i64 c, y, z] := by rw [← hG]; exact new_g _ _ _
        have go : ∀ q, q < h.n → G.g q = h.g q ∧ G.v q = h.v q := fun q hq => by
          rw [← hG]; exact ⟨new_g' (by omega), rfl⟩
        have ld : ∀ {K : H} {o : Nat}, h.n < K.n → K.g h.n = .rw 0 [.int .i64 c, y, z] → load1 K (pv h.n o) = ([.int .i64 c, y, z] : List S)[o]? := fun {K o} hk hkg => by simp [load1, H.cells, hk, hkg, Blk.cells]
        rw [ld (by omega) gg]
        simp only [gx0, gx1, ob]
        have l1 := x1.lt
        have l2 := x2.lt
        have x1G : Rep G 4 y (.fs (runs m.1)) b1 := x1.frame fun q hq => ⟨by have := l1 q hq; omega, (go q (l1 q hq)).1⟩
        obtain ⟨p1, e1, r1, n1, o1⟩ := Rep.markRs (d := 2) (k := k) x1G hnd.1 (by omega)
        rw [e1, ob]
        simp only [gV1_s, gI_i]
        have t1 : tidy G [iv .i64 ((k + rsz m.1 : Nat) : Int)] p1 = p1 := tidy_same n1 fun q hq => o1 q fun hh => by have := l1 q hh; omega
        have gp : p1.g h.n = .rw 0 [.int .i64 c, y, z] := (o1 h.n (fun hh => by have := l1 _ hh; omega)).1.trans gg
        rw [t1, ld (by omega) gp]
        simp only [gx0, gx1, ob]
        have x2P : Rep p1 4 z (.fs (bss m.2)) b2 := x2.frame fun q hq => ⟨by have := l2 q hq; omega, (o1 q (fun hh => hnd.2.2 q hh q hq rfl)).1.trans (go q (l2 q hq)).1⟩
        obtain ⟨p2, e2, r2, n2, o2⟩ := Rep.markPs (d := 2) (k := k + rsz m.1) x2P hnd.2.1 (by omega) hn
        rw [e2, ob]
        simp only [gV1_s, gI_i]
        have t2 : tidy p1 [iv .i64 ((k + rsz m.1 + psz m.2 : Nat) : Int)] p2 = p2 := tidy_same n2 fun q hq => o2 q fun hh => by have := l2 q hh; omega
        rw [t2, Nat.add_assoc]
        have r1' : Rep p2 4 y (.fs (runs (mkRs k m.1))) b1 := r1.frame fun q hq => ⟨by have := l1 q hq; omega, (o2 q (fun hh => hnd.2.2 q hq q hh rfl)).1⟩
        have wr : RepL (Rep p2 4) [.int .i64 c, y, z] [.int .i64 c, .fs (runs (mkRs k m.1)), .fs (bss (mkPs (k + rsz m.1) m.2))] (b1 ++ b2) := by
          have := RepL.cons (bs := []) (Rep.sc (h := p2) (d := 4) (s := .int .i64 c) trivial) (RepL.cons r1' (RepL.cons r2 .nil))
          simpa using this
        obtain ⟨a1, a2, a3⟩ := mark_tidy (n := ((k + (rsz m.1 + psz m.2) : Nat) : Int)) (h := h) wr (fun b hb => by
            rcases List.mem_append.1 hb with hb | hb
            · exact l1 b hb
            · exact l2 b hb) (by omega) (fun q hq hqn => by
            have h1 : q ∉ b1 := fun hh => hq (by simp [hh])
            have h2 : q ∉ b2 := fun hh => hq (by simp [hh])
            exact ⟨(o2 q h2).1.trans ((o1 q h1).1.trans (go q hqn).1), (o2 q h2).2.trans ((o1 q h1).2.trans (go q hqn).2)⟩) (fun hh => by omega)
        refine ⟨p2, rfl, OwnC.sep ⟨_, a2, w2, w3⟩ (by rw [a1]; exact w.top), a1, fun q hq => a3 q fun hh => ?_⟩
        have := w3 q hh
        omega
theorem p_heldER {c : Int} {k : Nat} {m : List RunD × List (List UInt8)} (hk : k + (rsz m.1 + psz m.2) < 2 ^ 62) (hn : m.2.length < 2 ^ 62 := by omega) : pureV (call Ev) Fn.laws_heldEditsResult [.agg [.int .i64 c, .fs (runs (mkRs k m.1)), .fs (bss (mkPs (k + rsz m.1) m.2))], iv .i64 k] = some (iv .i64 ((k + (rsz m.1 + psz m.2) : Nat) : Int)) := by
  rw [pu_laws_heldEditsResult, pc (p_heldRs (by omega)) rfl]
  simp only [gV1_s, gI_i, vcase_b]
  rw [if_neg (by simp; omega), pc (p_heldPgs (by omega) hn) rfl]
  simp only [gV1_s, gI_i, vcase_b]
  rw [if_neg (by simp; omega), Nat.add_assoc]
theorem psz_le {B : Nat} : ∀ ps : List (List UInt8), (∀ l ∈ ps, l.length ≤ B) → psz ps ≤ ps.length * B
  | [], _ => Nat.zero_le _
  | l :: ps, h => by
    have := psz_le ps fun x hx => h x (by simp [hx])
    have := h l (by simp)
    rw [psz_cons, List.length_cons, Nat.succ_mul]; omega
end Vm
/-
  Rows let go: what both ways come to.
-/
namespace Vm
open Go
theorem NewB.some_of {n : Nat} {h : H} {v : V} {l : List UInt8} {o : Option Nat} (w : NewB n h v l o) (hl : l ≠ []) : ∃ c, NewB n h v l (some c) := by
  cases o with
  | some c => exact ⟨c, w⟩
  | none => exact absurd w.own.2 hl
/-- behind an edit -/
structure Edd (n0 q : Nat) (y1 : S) (ps' : List (List UInt8)) (es' : List RunD) (b1 b2 : List Nat) (h h' : H) (y2' : S) (b1' b2' : List Nat) : Prop where
  w : Dk n0 q y1 y2' ps' es' b1' b2' h'
  n : h.n ≤ h'.n
  f : ∀ a, a < h.n → a ∉ b1 → a ∉ b2 → a ≠ q → h'.g a = h.g a
  b : ∀ N, N ≤ h.n → belS N y2' = false
  m : ∀ a, a ∈ b1' ∨ a ∈ b2' → a ∈ b1 ∨ a ∈ b2 ∨ h.n ≤ a
theorem Edd.tidy {n0 q : Nat} {y1 : S} {ps' : List (List UInt8)} {es' : List RunD} {b1 b2 : List Nat} {h h' h0 : H} {y2' : S} {b1' b2' : List Nat} {l : List V} (e : Edd n0 q y1 ps' es' b1 b2 h h' y2' b1' b2') (hn : h0.n ≤ h.n) (hq : q < h0.n) (hX : (h0.g q).cells.all (belS h0.n) = true) : Vm.tidy h0 l h' = h' :=
  no_tidy (b := q) hq e.w.g (by rw [List.all_cons, List.all_cons, e.b _ hn]; simp) hX
theorem r_drop {n0 q : Nat} {h : H} {y1 y2 : S} {ps : List (List UInt8)} {es : List RunD} {b1 b2 : List Nat} (w : Dk n0 q y1 y2 ps es b1 b2 h) {p k : Nat} {l : List UInt8} (ca : CellAt ps p k l) (hes : es.length ≤ 1000) (hpl : ps.length ≤ 1000) :
    ∃ h' y2' b1' b2', call Ev Fn.impl_desk_drop [pv q 0, iv .i64 p, iv .i64 k] h = some (.tup [], h') ∧ Edd n0 q y1 (ps.set p (dropB l k)) (es ++ [⟨p, dropB l k⟩]) b1 b2 h h' y2' b1' b2' := by
  obtain ⟨h64, hne, hk, hk16⟩ := ca.len
  have hm64 : (dropB l k).length = 64 := by rw [dropB_len, h64]
  rw [eq_impl_desk_drop]
  simp only [Nat.zero_add, w.ld, gx0, ob]
  obtain ⟨cp, hcp, wp, gp⟩ := get_pg (R := V × H) w.p ca.p hne
  rw [gp, frzVs_cons (frz1 (ob := some cp) wp) (frzVs_cons frzV_iv frzVs_nil), ob, norm_nil]
  obtain ⟨y, h1, oc, e1, w1⟩ := f_DropSlot (l := l) (i := (k : Int)) (by unfold lim; omega) h.n
  have hc0 : drC l (k : Int) = 0 := by unfold drC slC; rw [if_pos ca.l, ca.h]; rfl
  have hdl : drL l (k : Int) = dropB l k := by unfold drL; rw [if_pos ⟨ca.l, ca.h⟩, Int.toNat_natCast]
  rw [hdl] at w1
  obtain ⟨c, w1⟩ := w1.some_of (fun e => by rw [e] at hm64; cases hm64)
  have hcn := w1.new c rfl
  have wc1 : BysW h1 (.s y) (dropB l k) c := w1.own
  have hy := wc1.v
  injection hy with hy
  subst hy
  rw [pF (h := h) (h1 := h1) e1 ⟨by rfl, w1.z⟩]
  have uK := up_over (h := h) (h1 := h1) w1.le
  have wc : BysW (h.over h1) (sv c 0 (dropB l k).length) (dropB l k) c := ⟨rfl, by have := wc1.n; have := w1.le; rw [over_n w1.le]; exact wc1.n, by rw [over_ge hcn]; exact wc1.g⟩
  generalize h.over h1 = K at uK wc ⊢
  simp only [gVA_a, gx0, gx1, ob, gI_i, ln0, ln1, Nat.zero_add, Nat.reduceAdd, if_true]
  rw [hm64]
  have hqn := w.qn
  have wK := w.frame (h' := K) uK.n (fun a ha _ => uK.g a ha)
  obtain ⟨h2, y2', b1', b2', e2, w2, n2, f2, g2, be2, m2⟩ := r_edit wK ca.p hne (by unfold lim; omega) (m := dropB l k) (c := c) (by rw [hm64]; rw [hm64] at wc; exact wc) (by unfold lim; omega) (by omega) (fun hh => by have := w.p.rep.lt _ hh; omega) (fun hh => by have := w.e.rep.lt _ hh; omega) hes hpl (drop_ne ca)
  rw [hm64] at e2
  have un := uK.n
  have ed : Edd n0 q y1 (ps.set p (dropB l k)) (es ++ [⟨p, dropB l k⟩]) b1 b2 h h2 y2' b1' b2' := ⟨w2, by omega, fun a ha h1 h2 h3 => (f2 a (by omega) h1 h2 h3).trans (uK.g a ha), fun N hN => be2 N (by omega), fun a ha => by rcases m2 a ha with h1 | h1 | h1; exact .inl h1; exact .inr (.inl h1); exact .inr (.inr (by omega))⟩
  rw [e2, ob]
  dsimp only
  rw [no_tidy (b := q) (by omega) g2 (by rw [List.all_cons, List.all_cons, be2 _ (Nat.le_refl _)]; simp) wK.bel]
  exact ⟨h2, y2', b1', b2', rfl, ed⟩
theorem r_drop7 {n0 q : Nat} {h : H} {y1 y2 : S} {ps : List (List UInt8)} {es : List RunD} {b1 b2 : List Nat} (w : Dk n0 q y1 y2 ps es b1 b2 h) {p k : Nat} {l : List UInt8} (ca : CellAt ps p k l) (hes : es.length ≤ 1000) (hpl : ps.length ≤ 1000) :
    ∃ h' y2' b1' b2', call Ev Fn.spec_l7Drop [pv q 0, iv .i64 p, iv .i64 k] h = some (.tup [], h') ∧ Edd n0 q y1 (ps.set p (dropB l k)) (es ++ [⟨p, dropB l k⟩]) b1 b2 h h' y2' b1' b2' := by
  obtain ⟨h64, hne, hk, hk16⟩ := ca.len
  have hm64 : (dropB l k).length = 64 := by rw [dropB_len, h64]
  rw [eq_spec_l7Drop]
  simp only [Nat.zero_add, w.ld, gx0, ob]
  obtain ⟨cp, hcp, wp, gp⟩ := get_pg (R := V × H) w.p ca.p hne
  rw [gp, frzVs_cons (frz1 (ob := some cp) wp) (frzVs_cons frzV_iv frzVs_nil), ob, norm_nil]
  obtain ⟨h1, e1, w1, nn⟩ := f_l2Drop (l := l) (k := k) h64 (by have := cnt_eq l; have := (pagF_ok ca.l).2.1.1; omega) hk h.n
  obtain ⟨e3, wc, uK, nK, xK⟩ := new_bys e1 w1 nn
  rw [e3]
  generalize hc : h.n + 1 = c at wc ⊢
  generalize h.over h1 = K at uK wc nK ⊢
  rw [hm64]
  have hqn := w.qn
  have wK := w.frame (h' := K) uK.n (fun a ha _ => uK.g a ha)
  obtain ⟨h2, y2', b1', b2', e2, w2, n2, f2, g2, be2, m2⟩ := r_turn wK ca.p hne (by unfold lim; omega) (m := dropB l k) (c := c) (by rw [hm64]; rw [hm64] at wc; exact wc) (by unfold lim; omega) (by omega) (fun hh => by have := w.p.rep.lt _ hh; omega) (fun hh => by have := w.e.rep.lt _ hh; omega) hes hpl (drop_ne ca)
  rw [hm64] at e2
  have un := uK.n
  have ed : Edd n0 q y1 (ps.set p (dropB l k)) (es ++ [⟨p, dropB l k⟩]) b1 b2 h h2 y2' b1' b2' := ⟨w2, by omega, fun a ha h1 h2 h3 => (f2 a (by omega) h1 h2 h3).trans (uK.g a ha), fun N hN => be2 N (by omega), fun a ha => by rcases m2 a ha with h1 | h1 | h1; exact .inl h1; exact .inr (.inl h1); exact .inr (.inr (by omega))⟩
  rw [e2, ob]
  dsimp only
  rw [no_tidy (b := q) (by omega) g2 (by rw [List.all_cons, List.all_cons, be2 _ (Nat.le_refl _)]; simp) wK.bel]
  exact ⟨h2, y2', b1', b2', rfl, ed⟩
/-- what is left behind a delete, and the edits for it -/
def delP (ps : List (List UInt8)) (p k : Nat) (l : List UInt8) (mv : Bool) (a b : Nat) (l2 : List UInt8) : List (List UInt8) := if mv = true then (ps.set p (dropB l k)).set a (dropB l2 b) else ps.set p (dropB l k)
def delE (p k : Nat) (l : List UInt8) (mv : Bool) (a b : Nat) (l2 : List UInt8) : List RunD := if mv = true then [⟨p, dropB l k⟩, ⟨a, dropB l2 b⟩] else [⟨p, dropB l k⟩]
theorem r_delete {n0 q : Nat} {h : H} {y1 y2 : S} {ps : List (List UInt8)} {b1 b2 : List Nat} (w : Dk n0 q y1 y2 ps [] b1 b2 h) {p k a b : Nat} {l l2 : List UInt8} {x : SeenD} (hp : x.page = p) (hk : x.slot = k) (ca : CellAt ps p k l) (h2 : x.moved = true → x.at_ = a ∧ x.place = b ∧ CellAt (ps.set p (dropB l k)) a b l2) (hpl : ps.length ≤ 1000) :
    ∃ h' y2' b1' b2', call Ev Fn.impl_desk_delete [pv q 0, .agg x.cs] h = some (.tup [], h') ∧ Edd n0 q y1 (delP ps p k l x.moved a b l2) (delE p k l x.moved a b l2) b1 b2 h h' y2' b1' b2' := by
  refine (fun (e : call Ev Fn.impl_desk_delete [pv q 0, .agg x.cs] h = _) => ?_) (eq_impl_desk_delete q 0 x.r.tab x.r.key x.r.val x.r.text x.page x.slot x.moved x.at_ x.place h)
  rw [e]
  clear e
  generalize hG : h.new 0 [S.int .i64 x.r.tab, .int .i64 x.r.key, .int .i64 x.r.val, .str x.r.text, .int .i64 x.page, .int .i64 x.slot, .bool x.moved, .int .i64 x.at_, .int .i64 x.place] = G
  have gn : G.n = h.n + 1 := by rw [← hG]; simp
  have gg : G.g h.n = .rw 0 x.cs := by rw [← hG]; exact new_g _ _ _
  have go : ∀ c, c < h.n → G.g c = h.g c := fun c hc => by rw [← hG]; exact new_g' (by omega)
  have hqn := w.qn
  have wG := w.frame (h' := G) (by omega) (fun c hc _ => go c hc)
  have ldG : ∀ {K : H} {o : Nat}, h.n < K.n → K.g h.n = .rw 0 x.cs → load1 K (pv h.n o) = x.cs[o]? := fun {K o} h1 h2 => by simp [load1, H.cells, h1, h2, Blk.cells]
  rw [ldG (by omega) gg]
  simp only [gx0, gx1, ob, gI_i]
  rw [ldG (by omega) gg]
  simp only [gx0, gx1, ob, gI_i]
  rw [hp, hk]
  obtain ⟨h1, z2, c1, c2, e1, d1⟩ := r_drop wG ca (by simp) hpl
  rw [e1, ob]
  dsimp only
  rw [d1.tidy (Nat.le_refl _) (by omega) wG.bel]
  have g1 : h1.g h.n = .rw 0 x.cs := (d1.f h.n (by omega) (fun hh => by have := w.p.rep.lt _ hh; omega) (fun hh => by have := w.e.rep.lt _ hh; omega) (by omega)).trans gg
  have n1 := d1.n
  rw [ldG (by omega) g1]
  simp only [gx0, gx1, ob, gB_b]
  rw [vcase_b]
  unfold delP delE
  have base : ∀ {ps' es' h' y' a1 a2}, Edd n0 q y1 ps' es' b1 b2 G h' y' a1 a2 → Edd n0 q y1 ps' es' b1 b2 h h' y' a1 a2 := fun d => ⟨d.w, by have := d.n; omega, fun c hc q1 q2 q3 => (d.f c (by omega) q1 q2 q3).trans (go c hc), fun N hN => d.b N (by omega), fun c hc => by
    rcases d.m c hc with h1 | h1 | h1
    · exact .inl h1
    · exact .inr (.inl h1)
    · exact .inr (.inr (by omega))⟩
  cases hm : x.moved with
  | false =>
    rw [if_neg (by simp), if_neg (by simp), if_neg (by simp)]
    exact ⟨h1, z2, c1, c2, rfl, base d1⟩
  | true =>
    rw [if_pos rfl, if_pos rfl, if_pos rfl]
    obtain ⟨ha, hb, ca2⟩ := h2 hm
    rw [ldG (by omega) g1]
    simp only [gx0, gx1, ob, gI_i]
    rw [ldG (by omega) g1]
    simp only [gx0, gx1, ob, gI_i]
    rw [ha, hb]
    obtain ⟨h3, z3, c3, c4, e3, d3⟩ := r_drop d1.w ca2 (by simp) (by rw [List.length_set]; exact hpl)
    rw [e3, ob]
    dsimp only
    rw [d3.tidy (Nat.le_refl _) (by omega) d1.w.bel]
    have n3 := d3.n
    refine ⟨h3, z3, c3, c4, rfl, base ⟨by simpa using d3.w, by omega, fun c hc q1 q2 q3 => (d3.f c (by omega) (fun hh => ?_) (fun hh => ?_) q3).trans (d1.f c hc q1 q2 q3), fun N hN => d3.b N (by omega), fun c hc => ?_⟩⟩
    · rcases d1.m c (.inl hh) with h | h | h
      · exact q1 h
      · exact q2 h
      · omega
    · rcases d1.m c (.inr hh) with h | h | h
      · exact q1 h
      · exact q2 h
      · omega
    · rcases d3.m c hc with h | h | h
      · exact d1.m c (.inl h)
      · exact d1.m c (.inr h)
      · exact .inr (.inr (by omega))
theorem f_deskOf {ps : List (List UInt8)} (hl : ps.length ≤ lim) (hr : ∀ l ∈ ps, l.length ≤ lim) (n : Nat) : ∃ q y bs h', call Ev Fn.impl_deskOf [lv (bss ps)] (D n) = some (pv q 0, h') ∧ Dk n q y (.sl none 0) ps [] bs [] h' ∧ n ≤ h'.n := by
  rw [eq_impl_deskOf]
  obtain ⟨y, h1, bs, e1, w1, b1, n1⟩ := f_copies hl hr n
  obtain ⟨K, e2, u2, n2, w2, x2⟩ := pO (h := D n) (off := true) (n := n) (by simp) e1 w1 b1 n1
  rw [e2, cellsK_s w2.rep.isNo]
  rw [show setAt [S.sl none 0, .sl none 0] 0 [y] = [y, .sl none 0] from rfl, if_pos (by simp)]
  simp only [gx0, gx1, ob, ln0, ln1, Nat.zero_add, Nat.reduceAdd, if_true]
  refine ⟨K.n, y, bs, _, rfl, ⟨w2.frame fun c hc => ?_, OutS.none, by simp, fun c hc => ?_, by simp, ⟨by omega, by simp⟩, new_g _ _ _⟩, by rw [new_n]; omega⟩
  · have := w2.rep.lt c hc
    exact ⟨by rw [new_n]; omega, new_g' (by omega)⟩
  · have := w2.rep.lt c hc
    exact ⟨by omega, b1 c hc⟩
theorem f_l7Start {ps : List (List UInt8)} (hl : ps.length ≤ lim) (hr : ∀ l ∈ ps, l.length ≤ lim) (n : Nat) : ∃ q y bs h', call Ev Fn.spec_l7Start [lv (bss ps)] (D n) = some (pv q 0, h') ∧ Dk n q y (.sl none 0) ps [] bs [] h' ∧ n ≤ h'.n := by
  rw [eq_spec_l7Start]
  obtain ⟨y, h1, bs, e1, w1, b1, n1⟩ := f_l7Copy hl hr n
  obtain ⟨K, e2, u2, n2, w2, x2⟩ := pO (h := D n) (off := true) (n := n) (by simp) e1 w1 b1 n1
  rw [e2, cellsK_s w2.rep.isNo]
  rw [show setAt [S.sl none 0, .sl none 0] 0 [y] = [y, .sl none 0] from rfl, if_pos (by simp)]
  simp only [gx0, gx1, ob, ln0, ln1, Nat.zero_add, Nat.reduceAdd, if_true]
  refine ⟨K.n, y, bs, _, rfl, ⟨w2.frame fun c hc => ?_, OutS.none, by simp, fun c hc => ?_, by simp, ⟨by omega, by simp⟩, new_g _ _ _⟩, by rw [new_n]; omega⟩
  · have := w2.rep.lt c hc
    exact ⟨by rw [new_n]; omega, new_g' (by omega)⟩
  · have := w2.rep.lt c hc
    exact ⟨by omega, b1 c hc⟩
/-- the two answers, out of what is being edited -/
theorem RepL.ed {h : H} {c : Int} {y z : S} {f g : S} {b1 b2 : List Nat} (wy : Rep h 4 y f b1) (wz : Rep h 4 z g b2) : RepL (Rep h 4) [.int .i64 c, y, z] [.int .i64 c, f, g] (b1 ++ b2) := by
  have := RepL.cons (bs := []) (Rep.sc (h := h) (d := 4) (s := .int .i64 c) trivial) (RepL.cons wy (RepL.cons wz .nil))
  simpa using this
theorem fin3 {n q n0 : Nat} {K : H} {y1 y2 : S} {ps : List (List UInt8)} {es : List RunD} {b1 b2 : List Nat} (w : Dk n0 q y1 y2 ps es b1 b2 K) (hn : n < n0) (g : K.g n = .rw 0 [.int .i64 0, .sl none 0, .sl none 0]) {c : Int} :
    ∃ h', (stK 3 K (pv n 0) (.agg [.int .i64 c, y2, y1]) fun h116 => (loadN 3 h116 (pv n 0)).bind fun c117 => some (V.agg c117, h116)) = some (.agg [.int .i64 c, y2, y1], h') ∧ NewC 4 [.int .i64 c, y2, y1] [.int .i64 c, .fs (runs es), .fs (bss ps)] n h' := by
  have hqn := w.qn
  rw [stK_rw (z := 3) (e := 0) (o := 0) (b := n) (cs := [.int .i64 0, .sl none 0, .sl none 0]) (r := [.int .i64 c, y2, y1]) (by omega) g (.inr rfl) rfl (by simp)]
  rw [show setAt [.int .i64 0, .sl none 0, .sl none 0] 0 [.int .i64 c, y2, y1] = [.int .i64 c, y2, y1] from rfl]
  rw [loadE_3 (b := n) (e := 0) (by rw [put_n]; omega) (put_g _ _ _), ob]
  refine ⟨_, rfl, by rw [put_n]; omega, b2 ++ b1, ?_, ?_, fun b hb => ?_⟩
  · refine RepL.ed ?_ ?_
    · exact (w.e.frame fun a ha => by have := w.e.rep.lt a ha; have := w.l2 a ha; exact ⟨by rw [put_n]; omega, put_g' (by omega)⟩).rep.lifts (by omega)
    · exact (w.p.frame fun a ha => by have := w.p.rep.lt a ha; have := w.l1 a ha; exact ⟨by rw [put_n]; omega, put_g' (by omega)⟩).rep.lifts (by omega)
  · exact List.nodup_append.2 ⟨w.e.nd, w.p.nd, fun a ha a' ha' hh => w.d a' ha' (hh ▸ ha)⟩
  · rw [put_n]
    rcases List.mem_append.1 hb with hb | hb
    · have := w.e.rep.lt b hb; have := w.l2 b hb; omega
    · have := w.p.rep.lt b hb; have := w.l1 b hb; omega
theorem bad3 {n : Nat} {K : H} (hn : n < K.n) (g : K.g n = .rw 0 [.int .i64 0, .sl none 0, .sl none 0]) {c : Int} :
    ∃ h', (stK 3 K (pv n 0) (.agg [.int .i64 c, .sl none 0, .sl none 0]) fun h116 => (loadN 3 h116 (pv n 0)).bind fun c117 => some (V.agg c117, h116)) = some (.agg [.int .i64 c, .sl none 0, .sl none 0], h') ∧ NewC 4 [.int .i64 c, .sl none 0, .sl none 0] [.int .i64 c, .fs (runs []), .fs (bss [])] n h' := by
  rw [stK_rw (z := 3) (e := 0) (o := 0) (b := n) (cs := [.int .i64 0, .sl none 0, .sl none 0]) (r := [.int .i64 c, .sl none 0, .sl none 0]) hn g (.inr rfl) rfl (by simp)]
  rw [show setAt [.int .i64 0, .sl none 0, .sl none 0] 0 [S.int .i64 c, .sl none 0, .sl none 0] = [.int .i64 c, .sl none 0, .sl none 0] from rfl]
  rw [loadE_3 (b := n) (e := 0) (by rw [put_n]; omega) (put_g _ _ _), ob]
  refine ⟨_, rfl, by rw [put_n]; omega, [], ?_, by simp, by simp⟩
  exact RepL.ed (b1 := []) (b2 := []) Rep.nil Rep.nil
theorem r_result {n0 q : Nat} {K : H} {y1 y2 : S} {ps : List (List UInt8)} {es : List RunD} {b1 b2 : List Nat} (w : Dk n0 q y1 y2 ps es b1 b2 K) : ∃ h', call Ev Fn.impl_desk_result [pv q 0] K = some (.agg [.int .i64 0, y2, y1], h') ∧ tidy K [.agg [.int .i64 0, y2, y1]] h' = K := by
  rw [eq_impl_desk_result]
  have hqn := w.qn
  have gq : (K.new 0 [.int .i64 0, .sl none 0, .sl none 0]).g q = .rw 0 [y1, y2] := by rw [new_g' (by omega)]; exact w.g
  have ld : ∀ {o : Nat}, load1 (K.new 0 [.int .i64 0, .sl none 0, .sl none 0]) (pv q o) = ([y1, y2] : List S)[o]? := fun {o} => by
    have : q < (K.new 0 [.int .i64 0, .sl none 0, .sl none 0]).n := by rw [new_n]; omega
    simp only [load1, H.cells, this, if_true, gq, Blk.cells]
  simp only [Nat.zero_add, ld, gx0, gx1, ob]
  rw [w.e.rep.isNo, w.p.rep.isNo, cond_false, cond_false, stK_X (z := 3) rfl rfl, loadN_X (r := [.int .i64 0, y2, y1]) (by simp) rfl, ob]
  refine ⟨_, rfl, putX_tidy ?_⟩
  have h1 := w.e.rep.top w.e.rep.lt
  have h2 := w.p.rep.top w.p.rep.lt
  simp only [List.all_cons, List.all_nil, Bool.and_true, belV, h1, h2]
  rfl
theorem r_l7Done {n0 q : Nat} {K : H} {y1 y2 : S} {ps : List (List UInt8)} {es : List RunD} {b1 b2 : List Nat} (w : Dk n0 q y1 y2 ps es b1 b2 K) : ∃ h', call Ev Fn.spec_l7Done [pv q 0] K = some (.agg [.int .i64 0, y2, y1], h') ∧ tidy K [.agg [.int .i64 0, y2, y1]] h' = K := by
  rw [eq_spec_l7Done]
  have hqn := w.qn
  have gq : (K.new 0 [.int .i64 0, .sl none 0, .sl none 0]).g q = .rw 0 [y1, y2] := by rw [new_g' (by omega)]; exact w.g
  have ld : ∀ {o : Nat}, load1 (K.new 0 [.int .i64 0, .sl none 0, .sl none 0]) (pv q o) = ([y1, y2] : List S)[o]? := fun {o} => by
    have : q < (K.new 0 [.int .i64 0, .sl none 0, .sl none 0]).n := by rw [new_n]; omega
    simp only [load1, H.cells, this, if_true, gq, Blk.cells]
  simp only [Nat.zero_add, ld, gx0, gx1, ob]
  rw [w.e.rep.isNo, w.p.rep.isNo, cond_false, cond_false, stK_X (z := 3) rfl rfl, loadN_X (r := [.int .i64 0, y2, y1]) (by simp) rfl, ob]
  refine ⟨_, rfl, putX_tidy ?_⟩
  have h1 := w.e.rep.top w.e.rep.lt
  have h2 := w.p.rep.top w.p.rep.lt
  simp only [List.all_cons, List.all_nil, Bool.and_true, belV, h1, h2]
  rfl
end Vm
/-
  Rows let go: both ways.
-/
namespace Vm
open Go
abbrev z3' : List S := [.int .i64 0, .sl none 0, .sl none 0]
theorem Dk.over {q : Nat} {y1 y2 : S} {ps : List (List UInt8)} {es : List RunD} {b1 b2 : List Nat} {h h1 : H} (w : Dk h.n q y1 y2 ps es b1 b2 h1) (hle : h.n ≤ h1.n) : Dk h.n q y1 y2 ps es b1 b2 (h.over h1) :=
  w.frame (by rw [over_n hle]; omega) fun a ha hb => over_ge (by
    rcases hb with hb | hb | hb
    · exact (w.l1 a hb).2
    · exact (w.l2 a hb).2
    · rw [hb]; exact w.qn.1)
/-- what is edited for a row -/
def dlL (ps : List (List UInt8)) (z : SpotD) : List UInt8 := (ps[z.p]?).getD []
def dlL2 (ps : List (List UInt8)) (z : SpotD) : List UInt8 := ((ps.set z.p (dropB (dlL ps z) z.s))[z.c.page.toNat]?).getD []
def dlP (ps : List (List UInt8)) (z : SpotD) : List (List UInt8) := delP ps z.p z.s (dlL ps z) (z.c.flag == 1) z.c.page.toNat z.c.slot.toNat (dlL2 ps z)
def dlE (ps : List (List UInt8)) (z : SpotD) : List RunD := delE z.p z.s (dlL ps z) (z.c.flag == 1) z.c.page.toNat z.c.slot.toNat (dlL2 ps z)
theorem dl_ok {ps : List (List UInt8)} (h : viewC ps = 0) {z : SpotD} (hz : z ∈ seenA ps) : CellAt ps z.p z.s (dlL ps z) ∧ ((z.c.flag == 1) = true → z.c.page = (z.c.page.toNat : Nat) ∧ z.c.slot = (z.c.slot.toNat : Nat) ∧ CellAt (ps.set z.p (dropB (dlL ps z) z.s)) z.c.page.toNat z.c.slot.toNat (dlL2 ps z)) := by
  obtain ⟨⟨l, w⟩, h2, _⟩ := seenA_ok h hz
  have hl : dlL ps z = l := by unfold dlL; rw [w.p]; rfl
  refine ⟨by rw [hl]; exact w, fun hf => ?_⟩
  obtain ⟨a, b, l2, q1, q2, w2, hne⟩ := h2 (by simpa using hf)
  obtain ⟨l3, w3⟩ := w.drop w2 hne
  have e1 : z.c.page.toNat = a := by omega
  have e2 : z.c.slot.toNat = b := by omega
  refine ⟨by omega, by omega, ?_⟩
  have : dlL2 ps z = l3 := by unfold dlL2; rw [hl, e1, w3.p]; rfl
  rw [this, hl, e1, e2]
  exact w3
theorem dl_size {ps : List (List UInt8)} (h : viewC ps = 0) {z : SpotD} (hz : z ∈ seenA ps) : (dlE ps z).length ≤ 2 ∧ (dlP ps z).length ≤ 12 ∧ (∀ r ∈ dlE ps z, r.l.length ≤ 64) ∧ ∀ l ∈ dlP ps z, l.length ≤ 64 := by
  obtain ⟨w1, w2⟩ := dl_ok h hz
  obtain ⟨h1, hr, _⟩ := viewC_ok h
  have l64 := w1.len.1
  have pl : ∀ l ∈ ps, l.length ≤ 64 := fun l hl => by have := (pagF_ok (hr l hl).1).1; omega
  unfold dlE dlP delE delP
  by_cases hf : (z.c.flag == 1) = true
  · obtain ⟨_, _, w3⟩ := w2 hf
    have l64' := w3.len.1
    rw [if_pos hf, if_pos hf]
    refine ⟨by simp, by simpa using h1, fun r hr => ?_, fun l hl => ?_⟩
    · simp only [List.mem_cons, List.mem_nil_iff, or_false] at hr
      rcases hr with rfl | rfl
      · show (dropB _ _).length ≤ 64; rw [dropB_len]; omega
      · show (dropB _ _).length ≤ 64; rw [dropB_len]; omega
    · rcases List.mem_or_eq_of_mem_set hl with hl | rfl
      · rcases List.mem_or_eq_of_mem_set hl with hl | rfl
        · exact pl l hl
        · rw [dropB_len]; omega
      · rw [dropB_len]; omega
  · rw [if_neg hf, if_neg hf]
    refine ⟨by simp, by simpa using h1, fun r hr => ?_, fun l hl => ?_⟩
    · simp only [List.mem_cons, List.mem_nil_iff, or_false] at hr
      subst hr
      show (dropB _ _).length ≤ 64; rw [dropB_len]; omega
    · rcases List.mem_or_eq_of_mem_set hl with hl | rfl
      · exact pl l hl
      · rw [dropB_len]; omega
theorem f_l7Delete {ps : List (List UInt8)} (hl : ps.length ≤ 12) (hr : ∀ l ∈ ps, l.length ≤ lim) {z : SpotD} (w1 : CellAt ps z.p z.s (dlL ps z)) (w2 : (z.c.flag == 1) = true → z.c.page = (z.c.page.toNat : Nat) ∧ z.c.slot = (z.c.slot.toNat : Nat) ∧ CellAt (ps.set z.p (dropB (dlL ps z) z.s)) z.c.page.toNat z.c.slot.toNat (dlL2 ps z)) (n : Nat) :
    ∃ y u h', call Ev Fn.spec_l7Delete [lv (bss ps), fv (spc z) 0] (D n) = some (.agg [.int .i64 0, y, u], h') ∧ NewC 4 [.int .i64 0, y, u] [.int .i64 0, .fs (runs (dlE ps z)), .fs (bss (dlP ps z))] n h' := by
  refine (fun (e : call Ev Fn.spec_l7Delete [lv (bss ps), fv (spc z) 0] (D n) = _) => ?_) (eq_spec_l7Delete (bss ps) z.p z.s z.c.code z.c.flag z.c.page z.c.slot z.c.row.tab z.c.row.key z.c.row.val z.c.row.text n)
  rw [e]
  clear e
  generalize hG : (D n).new 0 z3' = G
  have gn : G.n = n + 1 := by rw [← hG]; simp
  have gg : G.g n = .rw 0 z3' := by rw [← hG]; exact new_g (D n) _ _
  obtain ⟨q, y1, bs, h1, e1, d0, n1⟩ := f_l7Start (by unfold lim; omega) hr G.n
  rw [pFt (h := G) e1]
  have dG := d0.over n1
  have kg : (G.over h1).g n = .rw 0 z3' := (over_lt (by omega)).1.trans gg
  have kn : G.n ≤ (G.over h1).n := by rw [over_n n1]; exact n1
  generalize G.over h1 = K at dG kg kn ⊢
  clear hG
  obtain ⟨h2, v2, b1', b2', e2, d2⟩ := r_drop7 dG w1 (by simp) (by omega)
  rw [e2, ob]
  dsimp only
  rw [d2.tidy (Nat.le_refl _) dG.qn.2 dG.bel]
  have nn := d2.n
  have ng : ∀ a ∈ bs, a ≠ n := fun a ha hh => by have := (dG.l1 a ha).2; omega
  have g2 : h2.g n = .rw 0 z3' := (d2.f n (by omega) (fun hh => ng n hh rfl) (by simp) (fun hh => by have := dG.qn.1; omega)).trans kg
  rw [vcase_b]
  unfold dlE dlP delE delP
  by_cases hf : (z.c.flag == 1) = true
  · obtain ⟨q1, q2, w3⟩ := w2 hf
    rw [if_pos hf, if_pos hf, if_pos hf]
    obtain ⟨h3, v3, b3, b4, e3, d3⟩ := r_drop7 d2.w w3 (by simp) (by rw [List.length_set]; omega)
    rw [← q1, ← q2] at e3
    rw [e3, ob]
    dsimp only
    rw [d3.tidy (Nat.le_refl _) d2.w.qn.2 d2.w.bel]
    have g3 : h3.g n = .rw 0 z3' := (d3.f n (by omega) (fun hh => by
      have := (d2.w.l1 n hh).2; omega) (fun hh => by have := (d2.w.l2 n hh).2; omega) (fun hh => by have := dG.qn.1; omega)).trans g2
    obtain ⟨h4, e4, t4⟩ := r_l7Done d3.w
    rw [e4, ob]
    dsimp only
    rw [t4]
    simp only [gVA_a, gx0, gx1, ob, gI_i, ln0, ln1, Nat.zero_add, Nat.reduceAdd, if_true]
    obtain ⟨h5, e5, w5⟩ := fin3 (c := 0) d3.w (by omega) g3
    exact ⟨_, _, h5, e5, w5⟩
  · rw [if_neg hf, if_neg hf, if_neg hf]
    obtain ⟨h4, e4, t4⟩ := r_l7Done d2.w
    rw [e4, ob]
    dsimp only
    rw [t4]
    simp only [gVA_a, gx0, gx1, ob, gI_i, ln0, ln1, Nat.zero_add, Nat.reduceAdd, if_true]
    obtain ⟨h5, e5, w5⟩ := fin3 (c := 0) d2.w (by omega) g2
    exact ⟨_, _, h5, e5, w5⟩
theorem rsz_le7 : ∀ (rs : List RunD), (∀ r ∈ rs, r.l.length ≤ 64) → rsz rs ≤ rs.length * 65
  | [], _ => Nat.zero_le _
  | r :: rs, h => by
    have := rsz_le7 rs fun x hx => h x (by simp [hx])
    have := h r (by simp)
    rw [rsz_cons, List.length_cons]; omega
/-- what is edited for a key -/
noncomputable def deM (ps : List (List UInt8)) (t k : Int) : List RunD × List (List UInt8) := if fndC ps t k = 0 then match (seenA ps).find? (fun x => isK t k x.c.row) with | some z => (dlE ps z, dlP ps z) | none => ([], []) else ([], [])
theorem fnd_seen {ps : List (List UInt8)} {t k : Int} (hc : viewC ps = 0) : (viewL ps).find? (fun x => isK t k x.r) = ((seenA ps).find? fun x => isK t k x.c.row).map toSeen := by
  obtain ⟨v1, v2⟩ := viewL_of hc
  rw [v1, find_perm (srtS_perm _) v2, find_map]
theorem deM_size (ps : List (List UInt8)) (t k : Int) : (deM ps t k).1.length ≤ 2 ∧ (deM ps t k).2.length ≤ 12 ∧ (∀ r ∈ (deM ps t k).1, r.l.length ≤ 64) ∧ ∀ l ∈ (deM ps t k).2, l.length ≤ 64 := by
  unfold deM
  by_cases hf : fndC ps t k = 0
  case neg => rw [if_neg hf]; simp
  rw [if_pos hf]
  have hc : viewC ps = 0 := by
    by_cases hc : viewC ps = 0
    · exact hc
    · unfold fndC at hf; rw [if_pos hc] at hf; exact absurd hf hc
  cases hz : (seenA ps).find? (fun x => isK t k x.c.row) with
  | none => simp
  | some z => exact dl_size hc (List.mem_of_find?_eq_some hz)
theorem p_spec_DeleteEdits {ps : List (List UInt8)} {t k : Int} (hl : ps.length ≤ lim) (hr : ∀ l ∈ ps, l.length ≤ lim) : pureV (call Ev) Fn.spec_DeleteEdits [lv (bss ps), iv .i64 t, iv .i64 k] = some (.agg [.int .i64 (fndC ps t k), .fs (runs (deM ps t k).1), .fs (bss (deM ps t k).2)]) := by
  have hm : ps.length ≤ maxLen := by unfold lim at hl; unfold maxLen; omega
  have jt : Jn.spec_DeleteEdits_0 true (bss ps) t k = some (.agg [.int .i64 3, .fs [], .fs []]) := by
    unfold Jn.spec_DeleteEdits_0
    rw [vcase_b, if_pos rfl, pu_spec_l7Bad]
    simp only [gVA_a, gx0, gx1, ob, gI_i, gF_f, ln0, ln1, Nat.zero_add, Nat.reduceAdd, if_true]
  rw [pu_spec_DeleteEdits, pc (p_l6Fault hm) rfl]
  simp only [gV1_s, gI_i]
  rw [vcase_b]
  unfold deM fndC
  by_cases hc : viewC ps = 0
  case neg =>
    rw [if_pos (by simpa using hc), if_pos hc, if_neg hc, pu_spec_l7Bad]
    simp only [gVA_a, gx0, gx1, ob, gI_i, gF_f, ln0, ln1, Nat.zero_add, Nat.reduceAdd, if_true]
    rfl
  rw [if_neg (by simpa using hc), if_neg (by simpa using hc), pc (p_l1In _ _ _) rfl]
  simp only [gV1_s, gB_b]
  rw [vcase_b, pc (p_l1In _ _ _) rfl]
  simp only [gV1_s, gB_b]
  rw [jt]
  rcases Bool.eq_false_or_eq_true (inB t 0 3) with h1 | h1
  case inr =>
    rw [h1, if_pos (by simp), Bool.false_and, if_pos rfl, if_neg (by decide)]; rfl
  rcases Bool.eq_false_or_eq_true (inB k 1 99) with h2 | h2
  case inr =>
    rw [h1, h2, if_neg (by simp), Bool.and_false, if_pos rfl, if_neg (by decide)]
    exact jt
  rw [h1, h2, if_neg (by simp), Bool.and_self, if_neg (by simp)]
  unfold Jn.spec_DeleteEdits_0
  rw [vcase_b, if_neg (by simp), pc (p_l6Find (p_seenA hc) (by have := seenA_len hc; unfold maxLen; omega)) (by simp), fnd_seen hc]
  cases hz : (seenA ps).find? (fun x => isK t k x.c.row) with
  | none =>
    simp only [gVT_t, gVA_a, gAA_a, gA1_s, gB_b, gx0, gx1, ob, gI_i, gS_s, ln0, ln1, Nat.zero_add, Nat.reduceAdd, if_true, Option.getD_none, Option.isSome_none, Option.map_none]
    rw [vcase_b, if_pos (show (!false) = true from rfl), pu_spec_l7Bad]
    simp only [gVA_a, gx0, gx1, ob, gI_i, gF_f, ln0, ln1, Nat.zero_add, Nat.reduceAdd, if_true]
    rfl
  | some z =>
    obtain ⟨d1, d2⟩ := dl_ok hc (List.mem_of_find?_eq_some hz)
    simp only [gVT_t, gVA_a, gAA_a, gA1_s, gB_b, gx0, gx1, ob, gI_i, gS_s, ln0, ln1, Nat.zero_add, Nat.reduceAdd, if_true, Option.getD_some, Option.isSome_some, Option.map_some]
    rw [vcase_b, if_neg (by simp)]
    generalize hG : (((D 0).new 0 [S.int .i64 0, .sl none 0, .sl none 0]).new 0 [S.int .i64 0, .int .i64 0, .int .i64 0, .int .i64 0, .int .i64 0, .int .i64 0, .int .i64 0, .int .i64 0, .int .i64 0, .str (⟨#[]⟩)]).put 1 (.rw 0 [S.int .i64 z.p, .int .i64 z.s, .int .i64 z.c.code, .int .i64 z.c.flag, .int .i64 z.c.page, .int .i64 z.c.slot, .int .i64 z.c.row.tab, .int .i64 z.c.row.key, .int .i64 z.c.row.val, .str z.c.row.text]) = G
    have gn : G.n = 2 := by rw [← hG]; simp
    have gg : G.g 0 = .rw 0 z3' := by
      rw [← hG, put_g' (by decide), new_g' (by simp)]; exact new_g (D 0) _ _
    obtain ⟨y, u, h1, e1, w1⟩ := f_l7Delete (viewC_ok hc).1 hr d1 d2 G.n
    obtain ⟨K, e2, uK, nK, wK⟩ := pC (off := false) rfl e1 w1
    refine (congrArg (fun (o : Option V) => o = _) (e2 V _)).mpr ?_
    simp only [gVA_a, gx0, gx1, ob, gI_i, ln0, ln1, Nat.zero_add, Nat.reduceAdd, if_true]
    have kg : K.g 0 = .rw 0 z3' := (uK.g 0 (by omega)).trans gg
    rw [stK_rw (z := 3) (e := 0) (o := 0) (b := 0) (cs := z3') (r := [.int .i64 0, y, u]) (by omega) kg (.inr rfl) rfl (by simp)]
    rw [show setAt z3' 0 [S.int .i64 0, y, u] = [S.int .i64 0, y, u] from rfl]
    rw [loadE_3 (b := 0) (e := 0) (by rw [put_n]; omega) (put_g _ _ _), ob]
    obtain ⟨bs, r1, r2, r3⟩ := wK.now
    have own : OwnC 4 [.int .i64 0, y, u] [.int .i64 0, .fs (runs (dlE ps z)), .fs (bss (dlP ps z))] G.n K.n (K.put 0 (.rw 0 [.int .i64 0, y, u])) := ⟨bs, r1.frame fun b hb => by
      have := r3 b hb
      exact ⟨by rw [put_n]; omega, put_g' (by omega)⟩, r2, r3⟩
    rw [own.frz]
theorem f_DeleteEdits {ps : List (List UInt8)} {t k : Int} (hl : ps.length ≤ lim) (hr : ∀ l ∈ ps, l.length ≤ lim) (n : Nat) :
    ∃ y u h', call Ev Fn.impl_DeleteEdits [lv (bss ps), iv .i64 t, iv .i64 k] (D n) = some (.agg [.int .i64 (fndC ps t k), y, u], h') ∧ NewC 4 [.int .i64 (fndC ps t k), y, u] [.int .i64 (fndC ps t k), .fs (runs (deM ps t k).1), .fs (bss (deM ps t k).2)] n h' := by
  have hm : ps.length ≤ maxLen := by unfold lim at hl; unfold maxLen; omega
  rw [eq_impl_DeleteEdits]
  generalize hG : (D n).new 0 [S.int .i64 0, .sl none 0, .sl none 0] = G
  have gn : G.n = n + 1 := by rw [← hG]; simp
  have gg : G.g n = .rw 0 z3' := by rw [← hG]; exact new_g (D n) _ _
  obtain ⟨y, h1, o, e1, w1, g1⟩ := f_view hm G.n
  rw [pFt (h := G) e1]
  have kg : (G.over h1).g n = .rw 0 z3' := (over_lt (by omega)).1.trans gg
  have kn : n + 1 ≤ (G.over h1).n := by simp only [H.over]; omega
  have wK : Ls (G.over h1) y (viewL ps) o := w1.frame fun c hc => by
    have h2 := g1 c hc
    subst hc
    have := w1.lt
    exact ⟨by simp only [H.over]; omega, over_ge h2⟩
  generalize G.over h1 = K at kg kn wK ⊢
  simp only [gVT_t, gx0, gx1, ob, gA1_s, gI_i, gF_f, ln0, ln1, Nat.zero_add, Nat.reduceAdd, if_true, D_n]
  rw [vcase_b]
  unfold deM fndC
  by_cases hc : viewC ps = 0
  case neg =>
    rw [if_pos (by simpa using hc), if_pos hc, if_neg hc]
    obtain ⟨h5, e5, w5⟩ := bad3 (c := viewC ps) (by omega : n < K.n) kg
    exact ⟨_, _, h5, e5, w5⟩
  rw [if_neg (by simpa using hc), if_neg (by simpa using hc), pc (p_isKey t k) rfl]
  simp only [gV1_s, gB_b]
  rw [vcase_b]
  rcases Bool.eq_false_or_eq_true (inB t 0 3 && inB k 1 99) with hk | hk
  case inr =>
    rw [hk, if_pos (by simp), if_pos rfl, if_neg (by decide)]
    obtain ⟨h5, e5, w5⟩ := bad3 (c := 3) (by omega : n < K.n) kg
    exact ⟨_, _, h5, e5, w5⟩
  rw [hk, if_neg (by simp), if_neg (by simp)]
  rw [frzVs_cons (by rw [frzV_s, wK.frz (d := 7)]; rfl) (frzVs_cons frzV_iv (frzVs_cons frzV_iv frzVs_nil)), ob, norm_nil, pc (p_find (by have := viewL_len ps; unfold maxLen; omega)) (by simp), fnd_seen hc]
  cases hz : (seenA ps).find? (fun x => isK t k x.c.row) with
  | none =>
    simp only [gVT_t, gVA_a, gAA_a, gA1_s, gB_b, gx0, gx1, ob, gI_i, gS_s, ln0, ln1, Nat.zero_add, Nat.reduceAdd, if_true, Option.getD_none, Option.isSome_none, Option.map_none]
    rw [stK_X (z := 9) rfl rfl, vcase_b, if_pos (show (!false) = true from rfl)]
    have xg : (putX K z9 noS.cs).g n = .rw 0 z3' := (putX_lt (by omega)).trans kg
    obtain ⟨h5, e5, w5⟩ := bad3 (c := 4) (by rw [putX_n]; omega : n < (putX K z9 noS.cs).n) xg
    exact ⟨_, _, h5, e5, w5⟩
  | some z =>
    obtain ⟨d1, d2⟩ := dl_ok hc (List.mem_of_find?_eq_some hz)
    have hfl := (seenA_ok hc (List.mem_of_find?_eq_some hz)).2.2
    simp only [gVT_t, gVA_a, gAA_a, gA1_s, gB_b, gx0, gx1, ob, gI_i, gS_s, ln0, ln1, Nat.zero_add, Nat.reduceAdd, if_true, Option.getD_some, Option.isSome_some, Option.map_some]
    rw [stK_X (z := 9) rfl rfl, vcase_b, if_neg (by simp)]
    have xg : (putX K z9 (toSeen z).cs).g n = .rw 0 z3' := (putX_lt (by omega)).trans kg
    have xx : (putX K z9 (toSeen z).cs).g K.n = .rw 0 (toSeen z).cs := putX_g _ _ _
    have xn : (putX K z9 (toSeen z).cs).n = K.n + 1 := putX_n _ _ _
    change ∃ y u h', pcallF (call Ev) Fn.impl_deskOf true [lv (bss ps)] (putX K z9 (toSeen z).cs) _ = _ ∧ _
    generalize putX K z9 (toSeen z).cs = X at xg xx xn ⊢
    obtain ⟨q, y1, bs, h2, e2, dd, n2⟩ := f_deskOf hl hr X.n
    rw [pFt (h := X) e2]
    have dG := dd.over n2
    have mg : (X.over h2).g n = .rw 0 z3' := (over_lt (by omega)).1.trans xg
    have mx : (X.over h2).g K.n = .rw 0 (toSeen z).cs := (over_lt (by omega)).1.trans xx
    have mn : X.n ≤ (X.over h2).n := by rw [over_n n2]; exact n2
    generalize X.over h2 = M at dG mg mx mn ⊢
    rw [loadN_rw (n := 9) (e := 0) (b := K.n) (cs := (toSeen z).cs) (by omega) mx (by simp), List.drop_zero, show List.take 9 (toSeen z).cs = (toSeen z).cs from rfl, ob]
    simp only [gx0, gx1, ob, gI_i, gS_s, gB_b, ln0, ln1, Nat.zero_add, Nat.reduceAdd, if_true]
    have hp := toSeen_pl z
    have hmv : (toSeen z).moved = (z.c.flag == 1) := by
      unfold toSeen; split
      · rename_i h; simp [h]
      · rename_i h; simp [h, mkRow]
    have hpt : (toSeen z).moved = true → (toSeen z).at_ = z.c.page ∧ (toSeen z).place = z.c.slot := fun h => by
      rw [hmv] at h
      unfold toSeen
      rw [if_pos (by simpa using h)]
      exact ⟨rfl, rfl⟩
    obtain ⟨h3, v3, b3, b4, e3, d3⟩ := r_delete (x := toSeen z) (a := z.c.page.toNat) (b := z.c.slot.toNat) (l2 := dlL2 ps z) dG hp.1 hp.2 d1 (fun h => by
      obtain ⟨a1, a2⟩ := hpt h
      obtain ⟨a3, a4, a5⟩ := d2 (by rw [← hmv]; exact h)
      exact ⟨a1.trans a3, a2.trans a4, a5⟩) (by have := (viewC_ok hc).1; omega)
    change ∃ y u h', ((call Ev Fn.impl_desk_delete [pv q 0, .agg (toSeen z).cs] M).bind _) = _ ∧ _
    rw [e3, ob]
    dsimp only
    rw [d3.tidy (Nat.le_refl _) dG.qn.2 dG.bel]
    obtain ⟨h4, e4, t4⟩ := r_result d3.w
    rw [e4, ob]
    dsimp only
    rw [t4]
    simp only [gVA_a, gx0, gx1, ob, gI_i, ln0, ln1, Nat.zero_add, Nat.reduceAdd, if_true]
    have hn3 := d3.n
    have g3 : h3.g n = .rw 0 z3' := (d3.f n (by omega) (fun hh => by
      have := (dG.l1 n hh).2; omega) (by simp) (fun hh => by have := dG.qn.1; omega)).trans mg
    obtain ⟨h5, e5, w5⟩ := fin3 (c := 0) d3.w (by omega) g3
    rw [hmv] at w5
    exact ⟨_, _, h5, e5, w5⟩
end Vm
/-
  The law of DeleteEdits returns true.
-/
namespace Vm
open Go
theorem run_FnExactDeleteEdits (xs : List V) (hx : ArgsRp PR [T.S_S_uint8, T.int64, T.int64] xs) : ∃ h', call Ev Fn.laws_FnExactDeleteEdits xs (D 0) = some (bv true, h') := by
  match xs, hx with
  | [x0, x1, x2], ⟨h0, h1, h2, _⟩ =>
    obtain ⟨l0, rfl, hr0, hl0⟩ := arg_Pages h0
    obtain ⟨l1, rfl, hl1⟩ := h1.int und_int64
    replace hl1 := wf64 hl1
    obtain ⟨l2, rfl, hl2⟩ := h2.int und_int64
    replace hl2 := wf64 hl2
    refine law_of ?_
    rw [pu_laws_FnExactDeleteEdits]
    rw [pc (p_szPgs (by omega) (by omega) hl0 hr0) rfl]
    simp only [gV1_s, gI_i, vcase_b, decide_eq_true_eq]
    by_cases hq0 : (if (l0.length : Int) ≤ 1048576 then szPgs l0 (1048576 - l0.length) else -1) < 0
    · rw [if_pos hq0]
    have hm0 : (l0.length : Int) ≤ 1048576 := szI hq0
    rw [if_neg hq0]
    rw [if_pos hm0] at hq0
    try rw [if_pos hm0]
    have hq0b := szPgs_le l0 (1048576 - l0.length) (by omega)
    have hq0s := szPgs_sum l0 (1048576 - l0.length) (by omega) (by omega)
    have hlim0 : l0.length ≤ lim := by unfold lim; omega
    have hlin0 : ∀ x ∈ l0, x.length ≤ lim := fun x hx => by have := psz_mem hx; unfold lim; omega
    rw [p_toPgs hlim0 hlin0]
    simp only [ob, gV1_s, gF_f]
    have hps := p_spec_DeleteEdits (t := l1) (k := l2) hlim0 hlin0
    have hfs := fun n => f_DeleteEdits (t := l1) (k := l2) hlim0 hlin0 n
    obtain ⟨hs1, hs2, hs3, hs4⟩ := deM_size l0 l1 l2
    generalize fndC l0 l1 l2 = c at hps hfs
    generalize deM l0 l1 l2 = m at hps hfs hs1 hs2 hs3 hs4
    have hz1 := rsz_le7 m.1 hs3
    have hz2 := psz_le m.2 hs4
    have hmm : m.1.length ≤ maxLen ∧ m.2.length ≤ maxLen := by unfold maxLen; omega
    have hmr : (∀ r ∈ m.1, r.l.length ≤ maxLen) ∧ ∀ l ∈ m.2, l.length ≤ maxLen := ⟨fun r h => by have := hs3 r h; unfold maxLen; omega, fun l h => by have := hs4 l h; unfold maxLen; omega⟩
    rw [hps]
    simp only [ob, gVA_a, gx0, gx1, gI_i, gB_b, gF_f, ln0, ln1, Nat.zero_add, Nat.reduceAdd, if_true]
    generalize hA : ((D 0).new 0 [.int .i64 0, .sl none 0, .sl none 0]).put 0 (.rw 0 [.int .i64 c, .fs (runs m.1), .fs (bss m.2)]) = A
    have an : A.n = 1 := by rw [← hA]; simp
    have wA : Sep (At 0 (.rw 0 [.int .i64 c, .fs (runs m.1), .fs (bss m.2)])) 0 1 A := Sep.at (by omega) (by rw [← hA]; exact put_g _ _ _)
    obtain ⟨v0, k0, e0, q0⟩ := f_toPgs hlim0 hlin0 A.n
    obtain ⟨B0, eB0, uB0, nB0, w0⟩ := OwnV.pv rfl e0 q0
    rw [eB0]
    clear eB0 e0 q0
    rw [an] at nB0 w0
    replace wA := wA.up uB0
    clear uB0
    rw [frzVs_cons w0.now.frz (frzVs_cons frzV_iv (frzVs_cons frzV_iv frzVs_nil)), ob, norm_nil]
    obtain ⟨y, z, k2, e2, q2⟩ := hfs B0.n
    obtain ⟨C, eC, uC, nC, wg⟩ := pC (h := B0) rfl e2 q2
    rw [eC]
    clear eC e2 q2
    replace wA := wA.up uC
    replace w0 := w0.up uC
    clear uC
    simp only [gVA_a, gx0, gx1, ob, gI_i, gB_b, ln0, ln1, Nat.zero_add, Nat.reduceAdd, if_true]
    rw [stE_3]
    have uG : Up C ((C.new 0 [.int .i64 0, .sl none 0, .sl none 0]).put C.n (.rw 0 [.int .i64 c, y, z])) := up_st
    have wG : Sep (At C.n (.rw 0 [.int .i64 c, y, z])) C.n (C.n + 1) ((C.new 0 [.int .i64 0, .sl none 0, .sl none 0]).put C.n (.rw 0 [.int .i64 c, y, z])) := Sep.at (by rw [n_st]; omega) g_st
    have nG : ((C.new 0 [.int .i64 0, .sl none 0, .sl none 0]).put C.n (.rw 0 [.int .i64 c, y, z])).n = C.n + 1 := n_st
    replace wA := wA.up uG
    replace w0 := w0.up uG
    replace wg := wg.up uG
    generalize (C.new 0 [.int .i64 0, .sl none 0, .sl none 0]).put C.n (.rw 0 [.int .i64 c, y, z]) = HG at wA w0 wg wG nG ⊢
    clear uG
    rw [loadE_3 wG.now.1 wG.now.2]
    simp only [gx0, gx1, ob, gI_i, gB_b, ln0, ln1, Nat.zero_add, Nat.reduceAdd, if_true]
    rw [loadE_3 wA.now.1 wA.now.2]
    simp only [gx0, gx1, ob, gI_i, gB_b, ln0, ln1, Nat.zero_add, Nat.reduceAdd, if_true]
    rw [frzVs_cons wg.now.frz (frzVs_cons frzV_er frzVs_nil), ob, norm_nil, pc (p_eqER hmm hmr) rfl]
    simp only [gV1_s, gB_b, vcase_b, decide_true, Bool.and_self, Bool.not_true, Bool.false_eq_true, if_false]
    rw [frzVs_cons w0.now.frz (frzVs_cons frzV_lv frzVs_nil), ob, norm_nil, pc (p_eqPgs hl0 hr0 rfl) rfl]
    simp only [gV1_s, gB_b, vcase_b, decide_true, Bool.and_self, Bool.not_true, Bool.false_eq_true, if_false]
    rw [show (1 : Int) = ((1 : Nat) : Int) from rfl]
    obtain ⟨p0, e0, m0, b0⟩ := OwnV.markP (k := 1) w0 (by omega)
    rw [e0, ob]
    simp only [gV1_s, gI_i]
    replace wA := wA.but b0 (by omega)
    replace wg := wg.but b0 (by omega)
    replace wG := wG.but b0 (by omega)
    replace w0 := m0
    clear m0 e0
    rw [if_neg (by simp; omega)]
    unfold Jn.laws_FnExactDeleteEdits_0
    dsimp only
    generalize tidy HG [iv .i64 ((1 + psz l0 : Nat) : Int)] p0 = F0 at wA w0 wg wG b0 ⊢
    clear b0
    rw [loadE_3 wG.now.1 wG.now.2]
    simp only [gx0, gx1, ob, gI_i, gB_b, ln0, ln1, Nat.zero_add, Nat.reduceAdd, if_true]
    rw [loadE_3 wA.now.1 wA.now.2]
    simp only [gx0, gx1, ob, gI_i, gB_b, ln0, ln1, Nat.zero_add, Nat.reduceAdd, if_true]
    rw [frzVs_cons wg.now.frz (frzVs_cons frzV_er frzVs_nil), ob, norm_nil, pc (p_eqER hmm hmr) rfl]
    simp only [gV1_s, gB_b, vcase_b, decide_true, Bool.and_self, Bool.not_true, Bool.false_eq_true, if_false]
    obtain ⟨pg, eg, mg, bg⟩ := r_markER (k := 1) wg (by omega)
    rw [show (1 : Int) = ((1 : Nat) : Int) from rfl, eg, ob]
    simp only [gV1_s, gI_i]
    replace wA := wA.but bg (by omega)
    replace w0 := w0.but bg (by omega)
    replace wG := wG.but bg (by omega)
    replace wg := mg
    clear mg eg
    generalize tidy F0 [iv .i64 ((1 + (rsz m.1 + psz m.2) : Nat) : Int)] pg = G at wA wg wG bg ⊢
    rw [loadE_3 wG.now.1 wG.now.2]
    simp only [gx0, gx1, ob, gI_i, gB_b, ln0, ln1, Nat.zero_add, Nat.reduceAdd, if_true]
    rw [frzVs_cons wg.now.frz (frzVs_cons frzV_iv frzVs_nil), ob, norm_nil, pc (p_heldER (by omega)) rfl]
    simp only [gV1_s, gI_i, vcase_b]
    rw [if_neg (by simp; omega), if_neg (by simp)]
    rw [p_toPgs hlim0 hlin0]
    simp only [ob, gV1_s, gF_f]
    obtain ⟨y', z', k5, e5, w5⟩ := hfs 0
    rw [NewC.p (by omega) e5 w5]
    simp only [ob, gVA_a, gx0, gx1, gI_i, gB_b, gF_f, ln0, ln1, Nat.zero_add, Nat.reduceAdd, if_true]
    rw [stE_3]
    have uK : Up G ((G.new 0 [.int .i64 0, .sl none 0, .sl none 0]).put G.n (.rw 0 [.int .i64 c, .fs (runs m.1), .fs (bss m.2)])) := up_st
    have wK : Sep (At G.n (.rw 0 [.int .i64 c, .fs (runs m.1), .fs (bss m.2)])) G.n (G.n + 1) ((G.new 0 [.int .i64 0, .sl none 0, .sl none 0]).put G.n (.rw 0 [.int .i64 c, .fs (runs m.1), .fs (bss m.2)])) := Sep.at (by rw [n_st]; omega) g_st
    replace wA := wA.up uK
    replace wg := wg.up uK
    replace wG := wG.up uK
    generalize (G.new 0 [.int .i64 0, .sl none 0, .sl none 0]).put G.n (.rw 0 [.int .i64 c, .fs (runs m.1), .fs (bss m.2)]) = K at wA wg wG wK ⊢
    rw [loadE_3 wK.now.1 wK.now.2]
    simp only [gx0, gx1, ob, gI_i, gB_b, ln0, ln1, Nat.zero_add, Nat.reduceAdd, if_true]
    rw [loadE_3 wA.now.1 wA.now.2]
    simp only [gx0, gx1, ob, gI_i, gB_b, ln0, ln1, Nat.zero_add, Nat.reduceAdd, if_true]
    rw [frzVs_cons frzV_er (frzVs_cons frzV_er frzVs_nil), ob, norm_nil, pc (p_eqER hmm hmr) rfl]
    simp only [gV1_s, gB_b, vcase_b, decide_true, Bool.and_self, Bool.not_true, Bool.false_eq_true, if_false]
    rw [loadE_3 wG.now.1 wG.now.2]
    simp only [gx0, gx1, ob, gI_i, gB_b, ln0, ln1, Nat.zero_add, Nat.reduceAdd, if_true]
    rw [frzVs_cons wg.now.frz (frzVs_cons frzV_iv frzVs_nil), ob, norm_nil, pc (p_heldER (by omega)) rfl]
    simp only [gV1_s, gI_i, vcase_b]
    rw [if_neg (by simp; omega), if_neg (by simp)]
end Vm
