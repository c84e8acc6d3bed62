/-
  What both ways of the law come to, and that the law returns true.
-/
import Derived.Test.YtpdoloemacmbaaaTyp
import Derived.Test.YtpdoloemacmbaaaEqs
import Derived.Test.YtpdoloemacmbaaaDl
import Derived.Test.YtpdoloemacmbaaaDataFnExactRoomOf1
set_option linter.unusedVariables false
set_option maxRecDepth 100000
set_option linter.unusedSimpArgs false
set_option linter.unusedSectionVars false
/-
  How many keys there are.
-/
namespace Vm
open Go
def rk (r : RowD) : KeyD := ⟨r.tab, r.key⟩
def addAll (d : List KeyD) (ks : List KeyD) : List KeyD := ks.foldl addK d
theorem addAll_cons (d : List KeyD) (k : KeyD) (ks : List KeyD) : addAll d (k :: ks) = addAll (addK d k) ks := rfl
theorem addAll_app (d a c : List KeyD) : addAll d (a ++ c) = addAll (addAll d a) c := by simp [addAll]
/-- how many stand for the first time -/
def cntD : List KeyD → List KeyD → Nat
  | _, [] => 0
  | p, k :: ks => (if k ∈ p then 0 else 1) + cntD (p ++ [k]) ks
theorem addAll_len : ∀ (ks d p : List KeyD), (∀ k, k ∈ d ↔ k ∈ p) → (addAll d ks).length = d.length + cntD p ks
  | [], d, p, _ => rfl
  | k :: ks, d, p, h => by
    rw [addAll_cons, cntD]
    have h2 : ∀ j, j ∈ addK d k ↔ j ∈ p ++ [k] := fun j => by
      unfold addK
      split
      · rename_i hk
        simp only [List.mem_append, List.mem_singleton, h]
        constructor
        · exact .inl
        · rintro (h1 | rfl)
          · exact h1
          · exact (h _).1 hk
      · simp [h]
    rw [addAll_len ks _ _ h2]
    unfold addK
    by_cases hk : k ∈ d
    · rw [if_pos hk, if_pos ((h k).1 hk)]; omega
    · rw [if_neg hk, if_neg (fun hh => hk ((h k).2 hh)), List.length_append, List.length_singleton]; omega
theorem cntD_le : ∀ (ks p : List KeyD), cntD p ks ≤ ks.length
  | [], p => Nat.le_refl _
  | k :: ks, p => by
    have := cntD_le ks (p ++ [k])
    rw [cntD, List.length_cons]
    split <;> omega
/-! the program's map of keys -/
abbrev zRw : List S := [.int .i64 0, .int .i64 0, .int .i64 0, .str ⟨#[]⟩]
theorem lp_kRows {rows : List RowD} {all : List TxD} {b : Nat} (hl : rows.length ≤ maxLen) : ∀ (rs : List RowD) (i : Nat) (h : H) (d : List KeyD), rows.drop i = rs → b < h.n → h.g b = .mp (mpE d) →
    ∃ h', Lp.impl_keysOf 0 [lv (txs all), .s (.mp (some b)), lv (rws rows), iv .i64 rows.length, iv .i64 i] h = some (.done [lv (txs all), .s (.mp (some b))] h') ∧ Kb b h h' ∧ h'.g b = .mp (mpE (addAll d (rs.map rk))) := by
  unfold maxLen at hl
  intro rs
  induction rs with
  | nil =>
    intro i h d hi hb hg
    have := drop_nil hi
    rw [eq_impl_keysOf_l0, vcase_b, if_neg (by simp; omega), tidy_self]
    exact ⟨h, rfl, Kb.refl _ _, hg⟩
  | cons r rs ih =>
    intro i h d hi hb hg
    obtain ⟨g1, g2, g3⟩ := drop_cons hi
    have hbX : ∀ zs, b < (putX h zs r.cs).n := fun zs => by rw [putX_n]; omega
    have hgX : ∀ zs, (putX h zs r.cs).g b = .mp (mpE d) := fun zs => ((putX_keep h zs r.cs).2 b hb).1.trans hg
    rw [eq_impl_keysOf_l0, vcase_b, if_pos (by simp; omega), idxF_rw g1, rowN_rw]
    simp only [gx0, gx1, ob, gI_i, gS_s, ln0, ln1, Nat.zero_add, Nat.reduceAdd, if_true]
    rw [stK_X (z := 4) rfl rfl, load1_X (x := .int .i64 r.tab) rfl, load1_X (x := .int .i64 r.key) rfl]
    simp only [ob, gI_i]
    rw [show ([S.int .i64 r.tab, S.int .i64 r.key] : List S) = (rk r).cs from rfl, upd_ky (hbX _) (hgX _), ob, w64 (n := (i : Int) + 1) (by omega) (by omega), show (i : Int) + 1 = ((i + 1 : Nat) : Int) from by omega]
    obtain ⟨t1, t2⟩ := tidy_mp (h := h) (h' := (putX h zRw r.cs).put b (.mp (mpE (addK d (rk r))))) (l := [lv (txs all), .s (.mp (some b)), lv (rws rows), iv .i64 (rows.length : Int), iv .i64 ((i + 1 : Nat) : Int)]) (by rw [put_n, putX_n]; omega) (by simp [belV, belS, hb]) hb (put_g _ _ _) (fun c hc hcb => putX_o hc hcb)
    obtain ⟨h', e, w1, w2⟩ := ih (i + 1) _ (addK d (rk r)) g2 (by rw [t1.n]; exact hb) t2
    exact ⟨h', e, t1.trans w1, w2⟩
theorem lp_kLocks {all : List TxD} {x : TxD} {b : Nat} {m j : Int} (hx : x.ok) : ∀ (ks : List KeyD) (i : Nat) (h : H) (d : List KeyD), x.locks.drop i = ks → b < h.n → h.g b = .mp (mpE d) →
    ∃ h', Lp.impl_keysOf 4 [.s (.mp (some b)), lv (txs all), iv .i64 m, iv .i64 j, lv (kys x.locks), iv .i64 x.locks.length, iv .i64 i] h = some (.done [.s (.mp (some b)), lv (txs all), iv .i64 m, iv .i64 j] h') ∧ Kb b h h' ∧ h'.g b = .mp (mpE (addAll d ks)) := by
  have hl := hx.ll
  unfold maxLen at hl
  intro ks
  induction ks with
  | nil =>
    intro i h d hi hb hg
    have := drop_nil hi
    rw [eq_impl_keysOf_l4, vcase_b, if_neg (by simp; omega), tidy_self]
    exact ⟨h, rfl, Kb.refl _ _, hg⟩
  | cons k ks ih =>
    intro i h d hi hb hg
    obtain ⟨g1, g2, g3⟩ := drop_cons hi
    have hbX : ∀ zs, b < (putX h zs k.cs).n := fun zs => by rw [putX_n]; omega
    have hgX : ∀ zs, (putX h zs k.cs).g b = .mp (mpE d) := fun zs => ((putX_keep h zs k.cs).2 b hb).1.trans hg
    rw [eq_impl_keysOf_l4, vcase_b, if_pos (by simp; omega), idxK_lv, idxF_ky g1, ldK_ky]
    simp only [gVA_a, gx0, gx1, ob, gI_i, ln0, ln1, Nat.zero_add, Nat.reduceAdd, if_true]
    rw [stK_X (z := 2) rfl rfl, loadN_X0 (n := 2) rfl]
    simp only [gVA_a, gx0, gx1, ob, gI_i, ln0, ln1, Nat.zero_add, Nat.reduceAdd, if_true]
    rw [upd_ky (hbX _) (hgX _), ob, w64 (n := (i : Int) + 1) (by omega) (by omega), show (i : Int) + 1 = ((i + 1 : Nat) : Int) from by omega]
    obtain ⟨t1, t2⟩ := tidy_mp (h := h) (h' := (putX h [.int .i64 0, .int .i64 0] k.cs).put b (.mp (mpE (addK d k)))) (l := [.s (.mp (some b)), lv (txs all), iv .i64 m, iv .i64 j, lv (kys x.locks), iv .i64 x.locks.length, iv .i64 ((i + 1 : Nat) : Int)]) (by rw [put_n, putX_n]; omega) (by simp [belV, belS, hb]) hb (put_g _ _ _) (fun c hc hcb => putX_o hc hcb)
    obtain ⟨h', e, w1, w2⟩ := ih (i + 1) _ (addK d k) g2 (by rw [t1.n]; exact hb) t2
    exact ⟨h', e, t1.trans w1, w2⟩
theorem lp_kTxs {all : List TxD} {b : Nat} (hl : all.length ≤ maxLen) (hx : ∀ x ∈ all, x.ok) : ∀ (l : List TxD) (i : Nat) (h : H) (d : List KeyD), all.drop i = l → b < h.n → h.g b = .mp (mpE d) →
    ∃ h', Lp.impl_keysOf 2 [.s (.mp (some b)), lv (txs all), iv .i64 all.length, iv .i64 i] h = some (.done [.s (.mp (some b))] h') ∧ Kb b h h' ∧ h'.g b = .mp (mpE (addAll d (allK l))) := by
  unfold maxLen at hl
  intro l
  induction l with
  | nil =>
    intro i h d hi hb hg
    have := drop_nil hi
    rw [eq_impl_keysOf_l2, vcase_b, if_neg (by simp; omega), tidy_self]
    exact ⟨h, rfl, Kb.refl _ _, hg⟩
  | cons x l ih =>
    intro i h d hi hb hg
    obtain ⟨g1, g2, g3⟩ := drop_cons hi
    have hbX : ∀ zs, b < (putX h zs x.cs).n := fun zs => by rw [putX_n]; omega
    have hgX : ∀ zs, (putX h zs x.cs).g b = .mp (mpE d) := fun zs => ((putX_keep h zs x.cs).2 b hb).1.trans hg
    rw [eq_impl_keysOf_l2, vcase_b, if_pos (by simp; omega), idxF_tx g1, rowN_tx]
    simp only [gx0, gx1, ob, gI_i, gF_f, ln0, ln1, Nat.zero_add, Nat.reduceAdd, if_true]
    rw [stK_X (z := 4) rfl rfl, load1_X (x := .fs (kys x.locks)) rfl, ob, len_lv, ob, kys_len]
    simp only [gV1_s, gI_i]
    obtain ⟨h1, e1, w2, w3⟩ := lp_kLocks (all := all) (b := b) (m := (all.length : Int)) (j := (i : Int)) (hx x (List.mem_of_getElem? g1)) x.locks 0 (putX h zTx x.cs) d rfl (hbX _) (hgX _)
    rw [show iv .i64 0 = iv .i64 ((0 : Nat) : Int) from rfl, e1, ob, lcase_done]
    simp only [gx0, gx1, ob, gV1_s, gI_i, gF_f]
    rw [w64 (n := (i : Int) + 1) (by omega) (by omega), show (i : Int) + 1 = ((i + 1 : Nat) : Int) from by omega]
    obtain ⟨t1, t2⟩ := tidy_mp (h := h) (h' := h1) (l := [.s (.mp (some b)), lv (txs all), iv .i64 (all.length : Int), iv .i64 ((i + 1 : Nat) : Int)]) (by rw [w2.n, putX_n]; omega) (by simp [belV, belS, hb]) hb w3 (fun c hc hcb => by
      have h2 := w2.o c (by rw [putX_n]; omega) hcb
      have h3 := (putX_keep h zTx x.cs).2 c hc
      exact ⟨h2.1.trans h3.1, h2.2.trans h3.2⟩)
    obtain ⟨h', e, v1, v2⟩ := ih (i + 1) _ (addAll d x.locks) g2 (by rw [t1.n]; exact hb) t2
    exact ⟨h', e, t1.trans v1, by rw [v2, allK_cons, addAll_app]⟩
theorem f_keysOf {rows : List RowD} {all : List TxD} (hr : rows.length ≤ maxLen) (hl : all.length ≤ maxLen) (hx : ∀ x ∈ all, x.ok) (n : Nat) : ∃ h', call Ev Fn.impl_keysOf [lv (rws rows), lv (txs all)] (D n) = some (.s (.mp (some n)), h') ∧ h'.n = n + 1 ∧ h'.g n = .mp (mpE (addAll [] (rows.map rk ++ allK all))) := by
  obtain ⟨h1, e1, w1, v1⟩ := lp_kRows (all := all) (b := n) hr rows 0 (D n).newM [] rfl (by simp [H.newM]) (by simp [H.newM, mpE])
  obtain ⟨h2, e2, w2, v2⟩ := lp_kTxs (b := n) hl hx all 0 h1 _ rfl (by rw [w1.n]; simp [H.newM]) v1
  have z : iv .i64 0 = iv .i64 ((0 : Nat) : Int) := rfl
  rw [eq_impl_keysOf, D_n, rws_len, z, e1, ob, lcase_done]
  simp only [gx0, gx1, ob, gV1_s, gF_f, txs_len]
  rw [e2, ob, lcase_done]
  simp only [gx0, ob]
  exact ⟨h2, rfl, by rw [w2.n, w1.n]; rfl, by rw [v2, addAll_app]⟩
/-! the specification's count -/
structure KyS (h : H) (v : V) (d : List KeyD) (b : Nat) : Prop where
  v : v = sv b 0 d.length
  n : b < h.n
  g : h.g b = .rw 2 (kys d).flatten
theorem kys_flat (d : List KeyD) : (kys d).flatten.length = d.length * 2 := by
  have := flat_len (kys_row (l := d))
  rwa [kys_len] at this
theorem KyS.cells {h : H} {v : V} {d : List KeyD} {b : Nat} (w : KyS h v d b) : cellsS 2 h v = some (kys d).flatten := by
  have hc : h.cells b = (kys d).flatten := by unfold H.cells; rw [if_pos w.n, w.g]; rfl
  have hl := kys_flat d
  rw [w.v]
  simp only [cellsS, hc]
  rw [if_pos ⟨w.n, by omega⟩, List.drop_zero, List.take_of_length_le (by omega)]
theorem app_ky {h : H} {v y : V} {d l : List KeyD} {b : Nat} (w : KyS h v d b) (hc : cellsS 2 h y = some (kys l).flatten) (hy : lenS y = some l.length) (hl : d.length + l.length ≤ lim) :
    ∃ v' h', appS 2 h v y = some (v', h') ∧ KyS h' v' (d ++ l) h.n ∧ h'.n = h.n + 1 ∧ ∀ c, c < h.n → c ≠ b → h'.g c = h.g c := by
  have h1 := w.cells
  obtain ⟨rfl, w2, w3⟩ := w
  refine ⟨sv h.n 0 (d.length + l.length), (h.put b .dead).new 2 ((kys d).flatten ++ (kys l).flatten), ?_, ⟨by rw [List.length_append], by simp, ?_⟩, by simp, fun c hc hcb => ?_⟩
  · simp only [appS, h1, hc, hy, Option.bind_some]
    rw [if_pos ⟨w2, hl, by omega⟩, w3]
    simp
  · have : (kys (d ++ l)).flatten = (kys d).flatten ++ (kys l).flatten := by simp [kys]
    rw [this]; exact new_g (h.put b .dead) _ _
  · rw [new_g' (by simp; omega), put_g' hcb]
theorem flat_ky : ∀ {d : List KeyD} {j : Nat} {k : KeyD}, d[j]? = some k → ((kys d).flatten.drop (j * 2)).take 2 = k.cs
  | r :: d, 0, k, h => by simp at h; subst h; rfl
  | r :: d, j + 1, k, h => by
    have := flat_ky (d := d) (j := j) (k := k) (by simpa using h)
    rw [← this]
    show (((r.cs ++ (kys d).flatten).drop ((j + 1) * 2))).take 2 = _
    rw [show (j + 1) * 2 = j * 2 + 2 by omega]
    rfl
theorem KyS.ld {h : H} {v : V} {d : List KeyD} {b j : Nat} {k : KeyD} (w : KyS h v d b) (hj : d[j]? = some k) : loadN 2 h (pv b (j * 2)) = some k.cs := by
  have hlt := (List.getElem?_eq_some_iff.1 hj).1
  rw [loadN_rw w.n w.g (by rw [kys_flat]; omega), flat_ky hj]
theorem lp_rIn {h : H} {v : V} {d : List KeyD} {b i : Nat} {k : KeyD} {n : Int} (w : KyS h v d b) (hl : d.length < 2 ^ 62) (hi : d[i]? = some k) : ∀ (m j : Nat) (f : Bool), j + m = i →
    Lp.spec_l10Room 6 [v, iv .i64 n, iv .i64 i, bv f, iv .i64 j] h = some (.done [v, iv .i64 n, iv .i64 i, bv (f && decide (k ∉ (d.take i).drop j))] h) := by
  have hid := (List.getElem?_eq_some_iff.1 hi).1
  intro m
  induction m with
  | zero =>
    intro j f hj
    have : (d.take i).drop j = [] := List.drop_of_length_le (by rw [List.length_take]; omega)
    rw [eq_spec_l10Room_l6, vcase_b, if_neg (by simp; omega), this]
    unfold Jn.spec_l10Room_l6_0
    rw [vcase_b, if_neg (by simp), tidy_self]
    simp
  | succ m ih =>
    intro j f hj
    obtain ⟨r, hr⟩ : ∃ r, d[j]? = some r := ⟨_, List.getElem?_eq_getElem (by omega)⟩
    have hd : (d.take i).drop j = r :: (d.take i).drop (j + 1) := by
      rw [List.drop_eq_getElem_cons (by rw [List.length_take]; omega), List.getElem_take]
      congr 1
      exact (List.getElem?_eq_some_iff.1 hr).2
    rw [eq_spec_l10Room_l6, vcase_b, if_pos (by simp; omega)]
    unfold Jn.spec_l10Room_l6_0
    rw [vcase_b]
    cases f
    · rw [if_neg (by simp), tidy_self]; rfl
    · have hv := w.v
      rw [if_pos rfl, hv, idxK_sv (by omega), ldK_agg rfl (w.ld hr)]
      simp only [gVA_a, gx0, gx1, ob, gI_i, ln0, ln1, Nat.zero_add, Nat.reduceAdd, if_true]
      rw [idxK_sv (by omega), ldK_agg rfl (w.ld hi)]
      simp only [gVA_a, gx0, gx1, ob, gI_i, ln0, ln1, Nat.zero_add, Nat.reduceAdd, if_true]
      rw [tidy_self, w64 (by omega) (by omega), show (j : Int) + 1 = ((j + 1 : Nat) : Int) from by omega, key_eq (a := r) (b := k), ← hv, ih (j + 1) _ (by omega), hd]
      congr 5
      by_cases hrk : r = k
      · subst hrk; simp
      · simp [hrk, Ne.symm hrk]
theorem lp_rCnt {h : H} {v : V} {d : List KeyD} {b : Nat} (w : KyS h v d b) (hl : d.length < 2 ^ 61) : ∀ (ks : List KeyD) (i n : Nat), d.drop i = ks → n ≤ i →
    Lp.spec_l10Room 4 [v, iv .i64 n, iv .i64 i] h = some (.done [iv .i64 ((n + cntD (d.take i) ks : Nat) : Int)] h) := by
  intro ks
  induction ks with
  | nil =>
    intro i n hi hn
    have := drop_nil hi
    rw [eq_spec_l10Room_l4, w.v, show lenV (.sl 79) (sv b 0 d.length) = some (iv .i64 (d.length : Int)) from rfl, ob]
    simp only [gV1_s, gI_i, vcase_b]
    rw [if_neg (by simp; omega), tidy_self]; rfl
  | cons k ks ih =>
    intro i n hi hn
    obtain ⟨g1, g2, g3⟩ := drop_cons hi
    have hlen : lenV (.sl 79) v = some (iv .i64 (d.length : Int)) := by rw [w.v]; rfl
    rw [eq_spec_l10Room_l4, hlen, ob]
    simp only [gV1_s, gI_i, vcase_b]
    rw [if_pos (by simp; omega), show iv .i64 0 = iv .i64 ((0 : Nat) : Int) from rfl, lp_rIn w (by omega) g1 i 0 true (by omega), ob, lcase_done]
    simp only [gx0, gx1, ob, gV1_s, gI_i, gB_b, vcase_b, Bool.true_and, List.drop_zero]
    have ht : d.take (i + 1) = d.take i ++ [k] := by rw [List.take_add_one, g1]; rfl
    rw [tidy_self, tidy_self, w64 (n := (i : Int) + 1) (by omega) (by omega), show (i : Int) + 1 = ((i + 1 : Nat) : Int) from by omega, w64 (by omega) (by omega), show (n : Int) + 1 = ((n + 1 : Nat) : Int) from by omega, ih (i + 1) (n + 1) g2 (by omega), ih (i + 1) n g2 (by omega), ht, cntD]
    by_cases hk : k ∈ d.take i
    · rw [if_neg (by simpa using hk), if_pos hk, Nat.zero_add]
    · rw [if_pos (by simpa using hk), if_neg hk, Nat.add_assoc]
theorem lp_rRows {rows : List RowD} {all : List TxD} (hl : rows.length ≤ 1048576) : ∀ (rs : List RowD) (i : Nat) (h : H) (v : V) (d : List KeyD) (b : Nat), rows.drop i = rs → KyS h v d b → 0 < b → d.length ≤ i →
    ∃ h' v' b', Lp.spec_l10Room 0 [lv (rws rows), lv (txs all), pv 0 0, v, iv .i64 i] h = some (.done [lv (txs all), pv 0 0, v'] h') ∧ KyS h' v' (d ++ rs.map rk) b' ∧ 0 < b' ∧ h'.g 0 = h.g 0 ∧ h.n ≤ h'.n := by
  intro rs
  induction rs with
  | nil =>
    intro i h v d b hi w hb hd
    have := drop_nil hi
    rw [eq_spec_l10Room_l0, vcase_b, if_neg (by simp; omega), tidy_self]
    exact ⟨h, v, b, rfl, by simpa using w, hb, rfl, Nat.le_refl _⟩
  | cons r rs ih =>
    intro i h v d b hi w hb hd
    obtain ⟨g1, g2, g3⟩ := drop_cons hi
    have hn := w.n
    rw [eq_spec_l10Room_l0, vcase_b, if_pos (by simp; omega), idxF_rw g1]
    simp only [gx0, gx1, ob, gI_i]
    rw [idxF_rw g1]
    simp only [gx0, gx1, ob, gI_i]
    rw [hchk_of ((HExt.refl h).new), show ([S.int .i64 r.tab, S.int .i64 r.key] : List S) = (rk r).cs from rfl]
    have w' : KyS (h.new 2 (rk r).cs) v d b := ⟨w.v, by simp; omega, by rw [new_g' (by omega)]; exact w.g⟩
    obtain ⟨v1, h1, e1, w1, n1, o1⟩ := app_ky (y := sv h.n 0 1) (l := [rk r]) w' (by
      have hc : (h.new 2 (rk r).cs).cells h.n = (rk r).cs := by unfold H.cells; rw [if_pos (by simp), new_g]; rfl
      simp only [cellsS, hc]
      rw [if_pos ⟨by simp, by simp⟩]; rfl) rfl (by simp; unfold lim; omega)
    rw [e1, ob]
    dsimp only
    have hv1 := w1.v
    rw [no_tidy_v (by rw [hv1]; simp [belV, belS]), w64 (by omega) (by omega), show (i : Int) + 1 = ((i + 1 : Nat) : Int) from by omega]
    obtain ⟨h', v', b', e, w2, b2, z2, n2⟩ := ih (i + 1) h1 v1 (d ++ [rk r]) _ g2 w1 (by simp) (by simp; omega)
    refine ⟨h', v', b', e, by simpa using w2, b2, ?_, by rw [n1] at n2; simp at n2; omega⟩
    rw [z2, o1 0 (by simp) (by omega), new_g' (by omega)]
theorem lp_rTxs {all : List TxD} (hl : all.length ≤ 1048576) (hx : ∀ x ∈ all, x.sm) : ∀ (l : List TxD) (i : Nat) (h : H) (v : V) (d : List KeyD) (b : Nat), all.drop i = l → KyS h v d b → 0 < b → d.length ≤ 1048576 + i * 1048576 → i ≤ 4 → all.length ≤ 4 →
    ∃ h' v' b', Lp.spec_l10Room 2 [lv (txs all), pv 0 0, v, iv .i64 i] h = some (.done [pv 0 0, v'] h') ∧ KyS h' v' (d ++ allK l) b' ∧ 0 < b' ∧ h'.g 0 = h.g 0 ∧ h.n ≤ h'.n := by
  intro l
  induction l with
  | nil =>
    intro i h v d b hi w hb hd _ _
    have := drop_nil hi
    rw [eq_spec_l10Room_l2, vcase_b, if_neg (by simp; omega), tidy_self]
    exact ⟨h, v, b, rfl, by simpa [allK] using w, hb, rfl, Nat.le_refl _⟩
  | cons x l ih =>
    intro i h v d b hi w hb hd hi4 ha4
    obtain ⟨g1, g2, g3⟩ := drop_cons hi
    have hn := w.n
    have hxl := (hx x (List.mem_of_getElem? g1)).l
    rw [eq_spec_l10Room_l2, vcase_b, if_pos (by simp; omega), idxF_tx g1]
    simp only [gx0, gx1, ob, gF_f]
    obtain ⟨v1, h1, e1, w1, n1, o1⟩ := app_ky (y := lv (kys x.locks)) (l := x.locks) w (by simp only [cellsS, if_pos (kys_row (l := x.locks))]) (by simp [lenS]) (by unfold lim; omega)
    rw [e1, ob]
    dsimp only
    have hv1 := w1.v
    rw [no_tidy_v (by rw [hv1]; simp [belV, belS]), w64 (by omega) (by omega), show (i : Int) + 1 = ((i + 1 : Nat) : Int) from by omega]
    obtain ⟨h', v', b', e, w2, b2, z2, n2⟩ := ih (i + 1) h1 v1 (d ++ x.locks) _ g2 w1 (by omega) (by rw [List.length_append]; omega) (by omega) ha4
    refine ⟨h', v', b', e, by rw [allK_cons, ← List.append_assoc]; exact w2, b2, ?_, by omega⟩
    rw [z2, o1 0 (by omega) (by omega)]
theorem allK_len : ∀ (l : List TxD), (∀ x ∈ l, x.sm) → (allK l).length ≤ l.length * 1048576
  | [], _ => Nat.zero_le _
  | x :: l, h => by
    have h1 := allK_len l fun y hy => h y (by simp [hy])
    have h2 := (h x (by simp)).l
    rw [allK_cons, List.length_append, List.length_cons, Nat.succ_mul]; omega
theorem p_l10Room {rows : List RowD} {all : List TxD} (hr : rows.length ≤ 1048576) (hl : all.length ≤ 4) (hx : ∀ x ∈ all, x.sm) : pureV (call Ev) Fn.spec_l10Room [lv (rws rows), lv (txs all), .agg (⟨0, 0⟩ : KeyD).cs] = some (iv .i64 (cntD [] (rows.map rk ++ allK all))) := by
  have w0 : KyS (((D 0).new 0 [.int .i64 0, .int .i64 0]).new 2 []) (sv 1 0 0) [] 1 := ⟨rfl, by simp, new_g ((D 0).new 0 [.int .i64 0, .int .i64 0]) 2 []⟩
  obtain ⟨h1, v1, b1, e1, w1, p1, z1, n1⟩ := lp_rRows (all := all) hr rows 0 _ _ [] 1 rfl w0 (by omega) (by simp)
  obtain ⟨h2, v2, b2, e2, w2, p2, z2, n2⟩ := lp_rTxs (by omega) hx all 0 h1 v1 _ b1 rfl w1 p1 (by simp; omega) (by omega) hl
  have hc : h2.cells 0 = [.int .i64 0, .int .i64 0] := by
    unfold H.cells
    simp at n1
    rw [if_pos (by omega), z2, z1]; rfl
  have z : iv .i64 0 = iv .i64 ((0 : Nat) : Int) := rfl
  have hlen : ([] ++ rows.map rk ++ allK all).length < 2 ^ 61 := by
    have := allK_len all hx
    have h5 : all.length * 1048576 ≤ 4 * 1048576 := Nat.mul_le_mul_right _ hl
    simp; omega
  have e3 := lp_rCnt w2 hlen _ 0 0 rfl (Nat.le_refl _)
  rw [pu_spec_l10Room, z, e1, ob, lcase_done]
  simp only [gx0, gx1, ob, gV1_s, gF_f]
  rw [e2, ob, lcase_done]
  simp only [gx0, gx1, ob]
  rw [padd_pv, ob, ldK_one rfl (load1_cs hc (o := 0 + 1) (x := .int .i64 0) rfl)]
  simp only [gV1_s, gI_i, vcase_b]
  rw [if_neg (by simp), e3, ob, lcase_done]
  simp only [gx0, ob, gV1_s, gI_i, List.take_zero, Nat.zero_add, List.nil_append, List.drop_zero]
end Vm
/-
  The law of RoomOf returns true.
-/
namespace Vm
open Go
theorem p_toRowSP {all : List RowD} (hl : all.length ≤ lim) : pureV (call Ev) Fn.laws_toRowS [lv (rws all)] = some (lv (rws all)) := by
  have hl' := hl
  unfold lim at hl'
  rw [pu_laws_toRowS, rws_len, mkSl_of (z := 4) (zero := [.int .i64 0, .int .i64 0, .int .i64 0, .str ⟨#[]⟩]) hl (by omega) rfl, ob]
  obtain ⟨h', e1, e2, e3, _⟩ := fill_rows (z := 4) (n := all.length) (b := 0) (rows := rws all) (L := fun i h => Lp.laws_toRowS 0 [lv (rws all), sv 0 0 all.length, iv .i64 i] h) (fin := [sv 0 0 all.length]) (by simp) rws_row
    (fun i h r hr' hi hb => by
      obtain ⟨a, ha⟩ : ∃ a, all[i]? = some a := ⟨_, List.getElem?_eq_getElem hi⟩
      rw [rws_get ha] at hr'; cases hr'
      refine ⟨.agg a.cs, [lv (rws all), sv 0 0 all.length, iv .i64 ((i + 1 : Nat) : Int)], .inr rfl, ?_⟩
      show Lp.laws_toRowS 0 _ h = _
      rw [eq_laws_toRowS_l0, vcase_b, if_pos (by simp; omega), idxF_rw ha, rowN_rw]
      simp only [ob, gx0, gx1, gI_i, gS_s, ln0, ln1, Nat.zero_add, Nat.reduceAdd, if_true]
      rw [pc (p_toRow a) rfl]
      simp only [ob, gx0, gx1, gVA_a, gI_i, gS_s, ln0, ln1, Nat.zero_add, Nat.reduceAdd, if_true]
      rw [idxK_sv hi, w64 (by omega) (by omega), show (i : Int) + 1 = ((i + 1 : Nat) : Int) from by omega])
    (fun h => by
      show Lp.laws_toRowS 0 _ h = _
      rw [eq_laws_toRowS_l0, vcase_b, if_neg (by simp), tidy_self])
    ((D 0).new 4 ((List.replicate all.length [.int .i64 0, .int .i64 0, .int .i64 0, .str ⟨#[]⟩]).flatten)) _ (by simp) (by exact new_g (D 0) _ _) (repl_len rfl)
  rw [D_n, e1]
  simp only [ob, lcase_done, gx0]
  have hn : h'.n = 1 := by rw [e2]; simp
  have := frzV_sv (h := h') (b := 0) (z := 4) (rows := rws all) (by omega) (by omega) e3 rws_row rws_cl
  rw [rws_len] at this
  exact this
def roomC (rows : List RowD) (all : List TxD) : Int := if rowsF rows ≠ 0 then rowsF rows else txsF all
def roomN (rows : List RowD) (all : List TxD) : Int := if roomC rows all ≠ 0 then 0 else cntD [] (rows.map rk ++ allK all)
theorem p_impl_RoomOf {rows : List RowD} {all : List TxD} (hr : rows.length ≤ maxLen) (hs : ∀ r ∈ rows, r.text.size ≤ maxLen) (hl : all.length ≤ maxLen) (hx : ∀ x ∈ all, x.ok) (hc : cntF all < 2 ^ 62) : pureV (call Ev) Fn.impl_RoomOf [lv (rws rows), lv (txs all)] = some (.agg [.int .i64 (roomC rows all), .int .i64 (roomN rows all)]) := by
  rw [pu_impl_RoomOf, pc (p_RowsFault hs hr) rfl]
  simp only [gV1_s, gI_i, vcase_b, bne_iff_ne, ne_eq]
  unfold roomN roomC
  by_cases h0 : rowsF rows = 0
  · rw [if_neg (show ¬ ¬ rowsF rows = 0 by simpa using h0), pc (p_TxsFault hl hx hc) rfl]
    simp only [gV1_s, gI_i, vcase_b, bne_iff_ne, ne_eq]
    by_cases h1 : txsF all = 0
    · rw [if_neg (show ¬ ¬ txsF all = 0 by simpa using h1)]
      obtain ⟨h', e, n1, g1⟩ := f_keysOf hr hl hx 1
      have hlen := addAll_len (rows.map rk ++ allK all) [] [] (fun _ => Iff.rfl)
      have hov : ((D 0).new 0 [.int .i64 0, .int .i64 0]).n = 1 := rfl
      unfold pcallF
      rw [hov, e, ob]
      unfold fchk
      rw [if_pos (.inl rfl)]
      simp only [cond_true]
      have hK : ∀ K : H, K = ((D 0).new 0 [.int .i64 0, .int .i64 0]).over h' → K.n = 2 ∧ K.g 0 = .rw 0 [.int .i64 0, .int .i64 0] ∧ K.g 1 = .mp (mpE (addAll [] (rows.map rk ++ allK all))) := by
        intro K hK
        subst hK
        refine ⟨by rw [over_n (by rw [hov, n1]; omega), n1], by rw [(over_lt (by rw [hov]; omega)).1]; exact new_g (D 0) _ _, by rw [over_ge (by rw [hov]; omega)]; exact g1⟩
      obtain ⟨k1, k2, k3⟩ := hK _ rfl
      generalize ((D 0).new 0 [.int .i64 0, .int .i64 0]).over h' = K at k1 k2 k3 ⊢
      rw [mpOf_b (by omega) k3, ob]
      dsimp only
      rw [mpE_len, hlen, stK_rw (z := 2) (o := 0) (b := 0) (e := 0) (cs := [.int .i64 0, .int .i64 0]) (r := [.int .i64 0, .int .i64 ((([] : List KeyD).length + cntD [] (rows.map rk ++ allK all) : Nat) : Int)]) (by omega) k2 (.inr rfl) rfl (by simp), setAt_full (by simp)]
      rw [loadN_2 (by rw [put_n]; omega) (put_g _ _ _), ob]
      simp [h0, h1]
    · rw [if_pos h1]; simp [h0, h1]
  · rw [if_pos h0]; simp [h0]
theorem p_spec_RoomOf {rows : List RowD} {all : List TxD} (hr : rows.length ≤ 1048576) (hs : ∀ r ∈ rows, r.text.size ≤ maxLen) (hl : all.length ≤ maxLen) (hx : ∀ x ∈ all, x.ok) (hsm : ∀ x ∈ all, x.sm) (hc : cntF all < 2 ^ 62) : pureV (call Ev) Fn.spec_RoomOf [lv (rws rows), lv (txs all)] = some (.agg [.int .i64 (roomC rows all), .int .i64 (roomN rows all)]) := by
  rw [pu_spec_RoomOf, pc (p_l6Rows hs (by unfold maxLen; omega)) rfl]
  simp only [gV1_s, gI_i, vcase_b, bne_iff_ne, ne_eq]
  unfold roomN roomC
  by_cases h0 : rowsF rows = 0
  · rw [if_neg (show ¬ ¬ rowsF rows = 0 by simpa using h0), pc (p_l10Fault hl hx hc) rfl]
    simp only [gV1_s, gI_i, vcase_b, bne_iff_ne, ne_eq]
    by_cases h1 : txsF all = 0
    · have h4 : all.length ≤ 4 := by
        by_cases h : 4 < all.length
        · unfold txsF at h1; rw [if_pos h] at h1; omega
        · omega
      rw [if_neg (show ¬ ¬ txsF all = 0 by simpa using h1), pc (p_l10Room hr h4 hsm) rfl]
      simp [h0, h1]
    · rw [if_pos h1]; simp [h0, h1]
  · rw [if_pos h0]; simp [h0]
theorem szRowsOk : ∀ (rs : List RowD) (left : Int), 0 ≤ left → 0 ≤ szRows rs left → True := fun _ _ _ _ => trivial
theorem run_FnExactRoomOf (xs : List V) (hx : ArgsRp PR [T.S_laws_Row, T.S_laws_Tx] xs) : ∃ h', call Ev Fn.laws_FnExactRoomOf xs (D 0) = some (bv true, h') := by
  match xs, hx with
  | [x0, x1], ⟨h0, h1, _⟩ =>
    obtain ⟨rows, rfl, hro, hrl⟩ := arg_Rows h0
    obtain ⟨l, rfl, hr, hl⟩ := arg_Txs h1
    refine law_of ?_
    rw [pu_laws_FnExactRoomOf, pc (p_szRowS (by omega) (by omega) hrl fun r hh => (hro r hh).s) rfl]
    simp only [gV1_s, gI_i, vcase_b, decide_eq_true_eq]
    by_cases hp : (if (rows.length : Int) ≤ 1048576 then szRows rows (1048576 - rows.length) else -1) < 0
    · rw [if_pos hp]
    rw [if_neg hp]
    have hpm : (rows.length : Int) ≤ 1048576 := by
      by_cases h : (rows.length : Int) ≤ 1048576
      · exact h
      · rw [if_neg h] at hp; omega
    rw [if_pos hpm] at hp ⊢
    have hple := szRows_le rows (1048576 - rows.length) (by omega)
    generalize szRows rows (1048576 - rows.length) = left at hp hple ⊢
    rw [pc (p_szTxS (by omega) (by omega) hl hr) rfl]
    simp only [gV1_s, gI_i, vcase_b, decide_eq_true_eq]
    by_cases hq : (if (l.length : Int) ≤ left then szTxs l (left - l.length) else -1) < 0
    · rw [if_pos hq]
    rw [if_neg hq]
    have hm : (l.length : Int) ≤ left := by
      by_cases h : (l.length : Int) ≤ left
      · exact h
      · rw [if_neg h] at hq; omega
    rw [if_pos hm] at hq
    have hsm := txs_sm (l := l) (left := left - l.length) (by omega) (by omega) (by omega)
    have hlim : l.length ≤ lim := by unfold lim; omega
    have hc : cntF l < 2 ^ 62 := by
      have h1 := cnt_le l hsm
      have h2 : l.length * 1048576 ≤ 1048576 * 1048576 := Nat.mul_le_mul_right _ (by omega)
      omega
    have hts := p_toTxS hlim hsm
    have hrs := p_toRowSP (all := rows) (by unfold lim; omega)
    rw [hrs]
    simp only [ob, gV1_s, gF_f]
    rw [hts]
    simp only [ob, gV1_s, gF_f]
    rw [pc (p_spec_RoomOf (by omega) (fun r hh => (hro r hh).s) hl hr hsm hc) rfl]
    simp only [gVA_a, gx0, gx1, ob, gI_i, ln0, ln1, Nat.zero_add, Nat.reduceAdd, if_true]
    rw [pc (p_impl_RoomOf (by unfold maxLen; omega) (fun r hh => (hro r hh).s) hl hr hc) rfl]
    simp only [gVA_a, gx0, gx1, ob, gI_i, ln0, ln1, Nat.zero_add, Nat.reduceAdd, if_true]
    have he : ∀ a b : Int, pureV (call Ev) Fn.laws_eqIntResult [.agg [.int .i64 a, .int .i64 b], .agg [.int .i64 a, .int .i64 b]] = some (bv true) := fun a b => by
      rw [pu_laws_eqIntResult, vcase_b, if_neg (by simp), vcase_b, if_neg (by simp)]
    rw [pc (he _ _) rfl, pc (p_eqRowS hrl) rfl, pc (p_eqTxS hl hr) rfl]
    simp only [gV1_s, gB_b, vcase_b]
    simp
end Vm
