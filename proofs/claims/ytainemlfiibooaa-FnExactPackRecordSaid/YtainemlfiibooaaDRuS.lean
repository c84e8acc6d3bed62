/-
  Runs as arguments and as results of a law.
-/
import Derived.Test.YtainemlfiibooaaDRuR
import Derived.Test.YtainemlfiibooaaDFin
set_option linter.unusedVariables false
set_option maxRecDepth 100000
set_option linter.unusedSimpArgs false
set_option linter.unusedSectionVars false
namespace Vm
open Go
/-- runs in a stretch of blocks -/
def OwnRs (v : V) (rs : List RunD) (lo hi : Nat) (h : H) : Prop := ∃ y, v = .s y ∧ OwnF 4 y (.fs (runs rs)) lo hi h
theorem OwnRs.frz {v : V} {rs : List RunD} {lo hi : Nat} {h : H} (w : OwnRs v rs lo hi h) : frzV h v = some (lv (runs rs)) := by
  obtain ⟨y, rfl, w⟩ := w
  exact w.frz
theorem OwnRs.sep {v : V} {rs : List RunD} {lo hi : Nat} {h : H} (w : OwnRs v rs lo hi h) (hn : hi ≤ h.n) : Sep (OwnRs v rs lo hi) lo hi h := ⟨hn, fun h' hn' hg => by
  obtain ⟨y, rfl, w⟩ := w
  exact ⟨y, rfl, (w.sep hn).q h' hn' hg⟩⟩
theorem f_toRunS {all : List RunD} (hl : all.length ≤ lim) (hr : ∀ r ∈ all, r.l.length ≤ lim) (n : Nat) : ∃ v h', call Ev Fn.laws_toRunS [lv (runs all)] (D n) = some (v, h') ∧ (n ≤ h'.n ∧ OwnRs v all n h'.n h') ∧ belV n v = false := by
  have hl' := hl
  unfold lim at hl'
  rw [eq_laws_toRunS, runs_len, mkSl_of (z := 2) (zero := [.int .i64 0, .sl none 0]) hl (by omega) rfl, ob]
  generalize hG : (D n).new 2 ((List.replicate all.length [.int .i64 0, .sl none 0]).flatten) = G
  have gn : G.n = n + 1 := by rw [← hG]; simp
  have gg : G.g n = .rw 2 ((List.replicate all.length [.int .i64 0, .sl none 0]).flatten) := by rw [← hG]; exact new_g (D n) _ _
  obtain ⟨h', ys, bs, e1, n1, g1, r1, d1, f1, _⟩ := fill_rep (z := 2) (b := n) (d := 1) (n0 := n + 1) (cs := RunD.cs) (all := all) (L := fun i h => Lp.laws_toRunS 0 [lv (runs all), sv n 0 all.length, iv .i64 i] h) (fin := [sv n 0 all.length]) (by omega) (fun _ => rfl)
    (fun i a h X ha hb hn hg hX hXb => by
      have hi : i < all.length := (List.getElem?_eq_some_iff.1 ha).1
      show ∃ h' row bs, Lp.laws_toRunS 0 _ h = _ ∧ _
      rw [eq_laws_toRunS_l0, vcase_b, if_pos (by simp; omega), idxF_run ha, rowN_run]
      simp only [ob, gx0, gx1, gI_i, gF_f, ln0, ln1, Nat.zero_add, Nat.reduceAdd, if_true]
      obtain ⟨y, h1, bs, e1, r1, d1, f1, n1, t1⟩ := f_toRun a (hr a (List.mem_of_getElem? ha)) h.n
      obtain ⟨h2, e2, u2, n2, w2⟩ := pC (h := h) (off := true) rfl e1 (⟨n1, by simpa using OwnF.c (pre := [.int .i64 a.at_]) (by intro s hs; rw [List.mem_singleton.1 hs]; trivial) ⟨bs, r1, d1, f1⟩⟩ : NewC 1 [.int .i64 a.at_, y] [.int .i64 a.at_, .fs (bys a.l)] h.n h1)
      rw [e2]
      simp only [ob, gVA_a, gx0, gx1, gI_i, ln0, ln1, Nat.zero_add, Nat.reduceAdd, if_true]
      obtain ⟨bs2, r2, d2, f2⟩ := w2.now
      have hg2 := (u2.g n hb).trans hg
      rw [idxK_sv hi, stK_rw (z := 2) (e := 2) (o := i * 2) (b := n) (cs := X) (r := [.int .i64 a.at_, y]) (by omega) hg2 (.inr rfl) rfl (by omega), w64 (by omega) (by omega), show (i : Int) + 1 = ((i + 1 : Nat) : Int) from by omega]
      have ht : ∀ l, tidy h l (h2.put n (.rw 2 (setAt X (i * 2) [.int .i64 a.at_, y]))) = h2.put n (.rw 2 (setAt X (i * 2) [.int .i64 a.at_, y])) := fun l => no_tidy (b := n) hb (put_g _ _ _) (by
        rw [Bool.eq_false_iff]
        intro hh
        have := List.all_eq_true.1 hh y (by unfold setAt; simp)
        rw [t1] at this; cases this) (by rw [hg]; exact hXb)
      rw [ht]
      refine ⟨_, [.int .i64 a.at_, y], bs2, rfl, by rw [put_n]; omega, put_g _ _ _, r2.frame fun c hc => ?_, d2, fun c hc => (f2 c hc).1, fun c hc hcb => ?_⟩
      · have := f2 c hc
        exact ⟨by rw [put_n]; exact r2.lt c hc, put_g' (by omega)⟩
      · rw [put_g' hcb]; exact u2.g c hc)
    (fun h => by
      show Lp.laws_toRunS 0 _ h = _
      rw [eq_laws_toRunS_l0, vcase_b, if_neg (by simp), tidy_self])
    all.length 0 G [] ((List.replicate all.length [.int .i64 0, .sl none 0]).flatten) [] (by omega) (by omega) (by omega) (by omega) (by simpa using gg) (repl_len rfl) (by
      rw [List.all_eq_true]
      intro s hs
      obtain ⟨r, hr, hs⟩ := List.mem_flatten.1 hs
      rw [List.eq_of_mem_replicate hr] at hs
      rcases List.mem_cons.1 hs with rfl | hs
      · rfl
      · rw [List.mem_singleton.1 hs]; rfl) (by simpa using RepL.nil) (by simp) (by simp)
  rw [D_n, show iv .i64 0 = iv .i64 ((0 : Nat) : Int) from rfl, e1]
  simp only [ob, lcase_done, gx0]
  refine ⟨_, _, rfl, ⟨by omega, _, rfl, n :: bs, ?_, ?_, ?_⟩, by simp [belV, belS]⟩
  · have := Rep.sl (d := 1) (h := h') (b := n) (z := 2) (rows := runs all) (by omega) (by omega) g1 runs_row r1
    rw [runs_len] at this
    exact this.lifts (by omega)
  · exact List.nodup_cons.2 ⟨fun hh => by have := f1 n hh; omega, d1⟩
  · intro c hc
    rcases List.mem_cons.1 hc with rfl | hc
    · omega
    · have := f1 c hc
      have := r1.lt c hc
      omega
theorem OwnRs.pv {cl : Nat → List V → H → Option (V × H)} {g : Nat} {off : Bool} {xs : List V} {h : H} {n : Nat} {v : V} {rs : List RunD} {h1 : H} (hn : h.n = n) (hc : cl g xs (D n) = some (v, h1)) (hw : n ≤ h1.n ∧ OwnRs v rs n h1.n h1) :
    ∃ h', (∀ (R : Type) (k : V → H → Option R), pcallF cl g off xs h k = k v h') ∧ Up h h' ∧ n ≤ h'.n ∧ Sep (OwnRs v rs n h'.n) n h'.n h' := by
  obtain ⟨hle, y, rfl, w⟩ := hw
  obtain ⟨h', e, u, hn', w'⟩ := pV (off := off) hn hc hle w
  exact ⟨h', e, u, hn', OwnRs.sep ⟨y, rfl, w'.now⟩ (Nat.le_refl _)⟩
theorem OwnRs.mark {h : H} {v : V} {rs : List RunD} {lo hi k : Nat} (w : Sep (OwnRs v rs lo hi) lo hi h) (hl : k + rsz rs < 2 ^ 62) :
    ∃ p, call Ev Fn.laws_markRunS [v, iv .i64 k] h = some (iv .i64 ((k + rsz rs : Nat) : Int), p) ∧ Sep (OwnRs v (mkRs k rs) lo hi) lo hi (tidy h [iv .i64 ((k + rsz rs : Nat) : Int)] p) ∧ ButR lo hi h (tidy h [iv .i64 ((k + rsz rs : Nat) : Int)] p) := by
  obtain ⟨y, rfl, bs, w1, w2, w3⟩ := w.now
  obtain ⟨p, e1, r1, n1, o1⟩ := w1.markRs (k := k) w2 hl
  have ht := w.top
  have t : tidy h [iv .i64 ((k + rsz rs : Nat) : Int)] p = p := tidy_same n1 fun c hc => o1 c (fun hh => by have := w3 c hh; omega)
  refine ⟨p, e1, ?_, ?_⟩
  · rw [t]; exact OwnRs.sep ⟨y, rfl, bs, r1, w2, w3⟩ (by rw [n1]; exact ht)
  · rw [t]; exact ⟨n1, fun c hc => (o1 c fun hh => by have := w3 c hh; omega).1⟩
theorem mkRs_cons (k : Nat) (r : RunD) (rs : List RunD) : mkRs k (r :: rs) = mkR k r :: mkRs (k + (1 + r.l.length)) rs := rfl
theorem mkRs_len (k : Nat) (rs : List RunD) : (mkRs k rs).length = rs.length := mkAll_len _ _ _ _
theorem p_heldRs {k : Nat} {rs : List RunD} (hk : k + rsz rs < 2 ^ 62) : pureV (call Ev) Fn.laws_heldRunS [lv (runs (mkRs k rs)), iv .i64 k] = some (iv .i64 ((k + rsz rs : Nat) : Int)) := by
  have hrl := rsz_len rs
  have loop : ∀ (q : List RunD) (i k' : Nat), (mkRs k rs).drop i = mkRs k' q → k' + rsz q = k + rsz rs → i + q.length = rs.length →
      Lp.laws_heldRunS 0 [lv (runs (mkRs k rs)), iv .i64 k', iv .i64 i] (D 0) = some (.done [iv .i64 ((k + rsz rs : Nat) : Int)] (D 0)) := by
    intro q
    induction q with
    | nil =>
      intro i k' hd hs hi
      simp only [List.length_nil] at hi
      rw [eq_laws_heldRunS_l0, vcase_b, runs_len, mkRs_len, if_neg (by simp; omega), tidy_self, ← hs]
      rfl
    | cons r q ih =>
      intro i k' hd hs hi
      rw [mkRs_cons] at hd
      rw [rsz_cons] at hs
      simp only [List.length_cons] at hi
      obtain ⟨g1, g2, _⟩ := drop_cons hd
      rw [eq_laws_heldRunS_l0, vcase_b, runs_len, mkRs_len, if_pos (by simp; omega), idxF_run g1]
      simp only [gx0, gx1, ob, gI_i, gF_f]
      rw [vcase_b, if_neg (by simp [mkR]), idxF_run g1]
      simp only [gx0, gx1, ob, gI_i, gF_f]
      rw [w64 (n := (k' : Int) + 1) (by omega) (by omega), show (k' : Int) + 1 = ((k' + 1 : Nat) : Int) from by omega, show (mkR k' r).l = Vm.marks (k' + 1) r.l.length from rfl, pc (p_held (by omega)) rfl]
      simp only [gV1_s, gI_i, vcase_b]
      rw [if_neg (by simp; omega), w64 (n := (i : Int) + 1) (by omega) (by omega), tidy_self, show (i : Int) + 1 = ((i + 1 : Nat) : Int) from by omega]
      exact ih (i + 1) (k' + 1 + r.l.length) (by rw [g2, Nat.add_assoc]) (by omega) (by omega)
  rw [pu_laws_heldRunS, show iv .i64 0 = iv .i64 ((0 : Nat) : Int) from rfl, loop rs 0 k (by simp) rfl (by simp), ob, lcase_done]
  simp only [gx0, ob, gV1_s, gI_i]
theorem p_toRunS {all : List RunD} (hl : all.length ≤ lim) (hr : ∀ r ∈ all, r.l.length ≤ lim) : pureV (call Ev) Fn.laws_toRunS [lv (runs all)] = some (lv (runs all)) := by
  obtain ⟨v, h', e, ⟨_, w⟩, _⟩ := f_toRunS hl hr 0
  unfold pureV
  rw [e, ob, w.frz]
end Vm
