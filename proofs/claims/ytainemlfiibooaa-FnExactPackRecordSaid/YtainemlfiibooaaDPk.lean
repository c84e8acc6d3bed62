/-
  A record as bytes.
-/
import Derived.Test.YtainemlfiibooaaDRecS
import Derived.Test.YtainemlfiibooaaDOu2
set_option linter.unusedVariables false
set_option maxRecDepth 100000
set_option linter.unusedSimpArgs false
set_option linter.unusedSectionVars false
namespace Vm
open Go
/-- a number as a byte -/
def b8 (n : Int) : UInt8 := UInt8.ofNat (IntKind.u8.wrap n).toNat
theorem wrap8_bd (n : Int) : 0 ≤ IntKind.u8.wrap n ∧ IntKind.u8.wrap n < 256 := by
  simp [IntKind.wrap, IntKind.signed, IntKind.bits]; omega
theorem b8_int (n : Int) : ((b8 n).toNat : Int) = IntKind.u8.wrap n := by
  have := wrap8_bd n
  unfold b8
  rw [UInt8.toNat_ofNat_of_lt' (by show _ < 256; omega)]
  omega
theorem b8_cell (n : Int) : S.int .u8 (IntKind.u8.wrap n) = cell8 (b8 n) := by
  unfold cell8; rw [b8_int]
theorem wrap8_mod (n : Int) : IntKind.u8.wrap n = n % 256 := by simp [IntKind.wrap, IntKind.signed, IntKind.bits]
theorem rem_of {t : Nat} {a b : Int} (h : 0 ≤ a) (hb : 0 < b) : bin Ev .rem t (iv .i64 a) (iv .i64 b) = some (iv .i64 (a % b)) := by
  simp only [bin, binI, if_true]
  rw [if_neg (by omega), Int.tmod_eq_emod_of_nonneg h]
theorem quo_of {t : Nat} {a b : Int} (h : 0 ≤ a) (hb : 0 < b) (ha : a < 9223372036854775808) : bin Ev .quo t (iv .i64 a) (iv .i64 b) = some (iv .i64 (a / b)) := by
  have h1 : 0 ≤ a / b := Int.ediv_nonneg h (by omega)
  have h2 : a / b ≤ a := Int.ediv_le_self b h
  simp only [bin, binI, if_true]
  rw [if_neg (by omega), Int.tdiv_eq_ediv_of_nonneg h, w64 (by omega) (by omega)]
theorem shr8_of {t : Nat} {a : Int} (h : 0 ≤ a) : bin Ev .shr t (iv .i64 a) (iv .u64 8) = some (iv .i64 (a / 256)) := by
  simp only [bin]
  rw [if_neg (by omega)]
  rw [show (2 : Int) ^ (min (8 : Int).toNat IntKind.i64.bits) = 256 from rfl, Int.fdiv_eq_ediv_of_nonneg a (by omega)]
/-- bytes behind one's own, whatever they stand in -/
theorem app_w {h : H} {v y : V} {l m : List UInt8} {b : Nat} (w : BysW h v l b) (hy : cellsS 1 h y = some (m.map cell8)) (hl : lenS y = some m.length) (hm : l.length + m.length ≤ lim) :
    appS 1 h v y = some (sv h.n 0 (l ++ m).length, (h.put b .dead).new 1 ((l ++ m).map cell8)) := by
  have h1 := cellsS_w w
  obtain ⟨rfl, w2, w3⟩ := w
  simp only [appS, h1, hy, hl, Option.bind_some]
  rw [if_pos ⟨w2, hm, by omega⟩, w3]
  simp
/-- a sum of bytes -/
def sumB : List UInt8 → Int → Int
  | [], n => n
  | c :: l, n => sumB l ((n * 31 + (c.toNat : Int)) % 65521)
theorem sumB_bd : ∀ (l : List UInt8) (n : Int), 0 ≤ n → n < 65521 → 0 ≤ sumB l n ∧ sumB l n < 65521
  | [], n, h1, h2 => ⟨h1, h2⟩
  | c :: l, n, h1, h2 => sumB_bd l _ (Int.emod_nonneg _ (by omega)) (Int.emod_lt_of_pos _ (by omega))
theorem p_l4Sum {l : List UInt8} (hl : l.length < 2 ^ 62) : pureV (call Ev) Fn.spec_l4Sum [lv (bys l)] = some (iv .i64 (sumB l 1)) := by
  have loop : ∀ (r : List UInt8) (i : Nat) (n : Int), l.drop i = r → 0 ≤ n → n < 65521 → Lp.spec_l4Sum 0 [lv (bys l), iv .i64 n, iv .i64 i] (D 0) = some (.done [iv .i64 (sumB r n)] (D 0)) := by
    intro r
    induction r with
    | nil =>
      intro i n hi h1 h2
      have := drop_nil hi
      rw [eq_spec_l4Sum_l0, vcase_b, bys_len, if_neg (by simp; omega), tidy_self]; rfl
    | cons c r ih =>
      intro i n hi h1 h2
      obtain ⟨g1, g2, g3⟩ := drop_cons hi
      have hc := c.toNat_lt
      have hb : bt l i = (c.toNat : Int) := by simp [bt, List.getD, g1]
      rw [eq_spec_l4Sum_l0, vcase_b, bys_len, if_pos (by simp; omega), idxF_by (by omega) (by omega), hb]
      simp only [gx0, ob, gI_i]
      rw [w64 (n := n * 31) (by omega) (by omega), w64 (n := (c.toNat : Int)) (by omega) (by omega), w64 (n := n * 31 + (c.toNat : Int)) (by omega) (by omega), rem_of (by omega) (by omega), ob]
      simp only [gV1_s, gI_i]
      rw [w64 (by omega) (by omega), tidy_self, show (i : Int) + 1 = ((i + 1 : Nat) : Int) from by omega]
      exact ih (i + 1) _ g2 (Int.emod_nonneg _ (by omega)) (Int.emod_lt_of_pos _ (by omega))
  rw [pu_spec_l4Sum, show iv .i64 0 = iv .i64 ((0 : Nat) : Int) from rfl, loop l 0 1 (by simp) (by omega) (by omega), ob, lcase_done]
  simp only [gx0, ob, gV1_s, gI_i]
theorem lp_sum {v : V} {l : List UInt8} {b : Nat} {h : H} (w : BysW h v l b) (hl : l.length < 2 ^ 62) : Lp.impl_packed 2 [v, iv .i64 1, v, iv .i64 l.length, iv .i64 0] h = some (.done [v, iv .i64 (sumB l 1)] h) := by
  have loop : ∀ (r : List UInt8) (i : Nat) (n : Int), l.drop i = r → 0 ≤ n → n < 65521 → Lp.impl_packed 2 [v, iv .i64 n, v, iv .i64 l.length, iv .i64 i] h = some (.done [v, iv .i64 (sumB r n)] h) := by
    intro r
    induction r with
    | nil =>
      intro i n hi h1 h2
      have := drop_nil hi
      rw [eq_impl_packed_l2, vcase_b, if_neg (by simp; omega), tidy_self]; rfl
    | cons c r ih =>
      intro i n hi h1 h2
      obtain ⟨g1, g2, g3⟩ := drop_cons hi
      have hc := c.toNat_lt
      have hb : bt l i = (c.toNat : Int) := by simp [bt, List.getD, g1]
      have hv := w.v
      rw [eq_impl_packed_l2, vcase_b, if_pos (by simp; omega)]
      have e : ∀ {R : Type} {k : V → Option R}, idxK 1 v (iv .i64 (i : Int)) k = k (pv b (i * 1)) := fun {R} {k} => by rw [hv]; exact idxK_sv g3
      rw [e, BysW.get (n := l.length) (by rw [← hv]; exact w) g3 rfl, hb]
      simp only [gV1_s, gI_i]
      rw [w64 (n := n * 31) (by omega) (by omega), w64 (n := (c.toNat : Int)) (by omega) (by omega), w64 (n := n * 31 + (c.toNat : Int)) (by omega) (by omega), rem_of (by omega) (by omega), ob]
      simp only [gV1_s, gI_i]
      rw [w64 (by omega) (by omega), tidy_self, show (i : Int) + 1 = ((i + 1 : Nat) : Int) from by omega]
      exact ih (i + 1) _ g2 (Int.emod_nonneg _ (by omega)) (Int.emod_lt_of_pos _ (by omega))
  rw [show iv .i64 0 = iv .i64 ((0 : Nat) : Int) from rfl]
  exact loop l 0 1 (by simp) (by omega) (by omega)
/-! the bytes of a record -/
def pkRuns : List RunD → List UInt8
  | [] => []
  | r :: rs => [b8 r.at_, b8 r.l.length] ++ r.l ++ pkRuns rs
def pkHead (r : RecD) : List UInt8 := [0, b8 r.kind, b8 r.tx, b8 r.page, b8 r.rs.length]
def pk1 (r : RecD) : List UInt8 := (pkHead r ++ pkRuns r.rs).set 0 (b8 (((pkHead r ++ pkRuns r.rs).length : Nat) + 2 : Int))
def pk (r : RecD) : List UInt8 := pk1 r ++ [b8 (sumB (pk1 r) 1 / 256), b8 (sumB (pk1 r) 1)]
theorem pkRuns_len : ∀ rs : List RunD, (pkRuns rs).length = rsz rs + rs.length
  | [] => rfl
  | r :: rs => by
    have := pkRuns_len rs
    rw [rsz_cons]
    simp only [pkRuns, List.length_append, List.length_cons, List.length_nil, this]; omega
theorem pk1_len (r : RecD) : (pk1 r).length = 5 + (rsz r.rs + r.rs.length) := by
  unfold pk1 pkHead
  rw [List.length_set, List.length_append, pkRuns_len]
  simp only [List.length_cons, List.length_nil]
theorem pk_len (r : RecD) : (pk r).length = 7 + (rsz r.rs + r.rs.length) := by
  unfold pk
  rw [List.length_append, pk1_len]
  simp only [List.length_cons, List.length_nil]; omega
theorem cells2_new {h : H} {a b : Int} : cellsS 1 (h.new 1 [.int .u8 (IntKind.u8.wrap a), .int .u8 (IntKind.u8.wrap b)]) (sv h.n 0 2) = some ([b8 a, b8 b].map cell8) := by
  simp only [cellsS, H.cells, new_n, new_g, Blk.cells]
  rw [if_pos ⟨by omega, by simp⟩, b8_cell, b8_cell]
  simp
section
variable {all : List RunD}
theorem lp_packed (hl : all.length < 2 ^ 31) : ∀ (rs : List RunD) (i : Nat) (h : H) (v : V) (l : List UInt8) (b n0 : Nat), all.drop i = rs → BysW h v l b → n0 ≤ b → l.length + (rsz rs + rs.length) ≤ lim →
    ∃ h' v' b', Lp.impl_packed 0 [v, lv (runs all), iv .i64 all.length, iv .i64 i] h = some (.done [v'] h') ∧ BysW h' v' (l ++ pkRuns rs) b' ∧ n0 ≤ b' := by
  intro rs
  induction rs with
  | nil =>
    intro i h v l b n0 hi w hb hs
    have := drop_nil hi
    rw [eq_impl_packed_l0, vcase_b, if_neg (by simp; omega), tidy_self]
    exact ⟨h, v, b, rfl, by simpa [pkRuns] using w, hb⟩
  | cons r rs ih =>
    intro i h v l b n0 hi w hb hs
    obtain ⟨g1, g2, g3⟩ := drop_cons hi
    rw [rsz_cons, List.length_cons] at hs
    have hbn := w.n
    rw [eq_impl_packed_l0, vcase_b, if_pos (by simp; omega)]
    have e : ∀ {R : Type} {k : V → Option R}, idxK 2 (lv (runs all)) (iv .i64 (i : Int)) k = k (.s (.fp r.cs 0)) := fun {R} {k} => idxF_run g1
    have e2 : ∀ {R : Type} {k : V → Option R}, ldK (.agg [.i .i64, .f]) ⟨2, 32, [.int .i64 0, .sl none 0], true, .st [(0, 2), (1, 33)], false⟩ h (.s (.fp r.cs 0)) k = k (.agg r.cs) := fun {R} {k} => by
      simp only [ldK, ldT, cond_true, loadN, rowN_run, ob]
      rfl
    rw [e, e2]
    simp only [gVA_a, gx0, gx1, ob, gI_i]
    rw [if_pos (show ([_, _] : List S).length = 2 from rfl), st2_new]
    have u1 : Up h ((h.new 0 [.int .i64 0, .sl none 0]).put h.n (.rw 0 [.int .i64 r.at_, .fs (bys r.l)])) := up_st
    have gn : ((h.new 0 [.int .i64 0, .sl none 0]).put h.n (.rw 0 [.int .i64 r.at_, .fs (bys r.l)])).n = h.n + 1 := n_st
    have gg : ((h.new 0 [.int .i64 0, .sl none 0]).put h.n (.rw 0 [.int .i64 r.at_, .fs (bys r.l)])).g h.n = .rw 0 [.int .i64 r.at_, .fs (bys r.l)] := g_st
    generalize (h.new 0 [.int .i64 0, .sl none 0]).put h.n (.rw 0 [.int .i64 r.at_, .fs (bys r.l)]) = G at u1 gn gg ⊢
    have ld : ∀ {K : H} {o : Nat}, h.n < K.n → K.g h.n = .rw 0 [.int .i64 r.at_, .fs (bys r.l)] → load1 K (pv h.n o) = ([.int .i64 r.at_, .fs (bys r.l)] : List S)[o]? := fun {K} {o} h1 h2 => by simp [load1, H.cells, h1, h2, Blk.cells]
    simp only [ld (K := G) (by omega) gg, gx0, gx1, ob, gI_i, lenV, gV1_s, bys_len]
    have wg : BysW G v l b := (show Own h v l (some b) from w).up u1
    have wn : BysW (G.new 1 [.int .u8 (IntKind.u8.wrap r.at_), .int .u8 (IntKind.u8.wrap (r.l.length : Int))]) v l b := (show Own G v l (some b) from wg).up up_new
    rw [app_w wn cells2_new rfl (by simp only [List.length_cons, List.length_nil]; omega), ob]
    have kg : ((((G.new 1 [.int .u8 (IntKind.u8.wrap r.at_), .int .u8 (IntKind.u8.wrap (r.l.length : Int))]).put b .dead).new 1 ((l ++ [b8 r.at_, b8 r.l.length]).map cell8)).g h.n) = .rw 0 [.int .i64 r.at_, .fs (bys r.l)] := by
      rw [new_g' (by simp; omega), put_g' (by omega), new_g' (by omega)]; exact gg
    have wk : BysW (((G.new 1 [.int .u8 (IntKind.u8.wrap r.at_), .int .u8 (IntKind.u8.wrap (r.l.length : Int))]).put b .dead).new 1 ((l ++ [b8 r.at_, b8 r.l.length]).map cell8)) (sv (G.new 1 [.int .u8 (IntKind.u8.wrap r.at_), .int .u8 (IntKind.u8.wrap (r.l.length : Int))]).n 0 (l ++ [b8 r.at_, b8 r.l.length]).length) (l ++ [b8 r.at_, b8 r.l.length]) (G.n + 1) := app_own
    have kn : (((G.new 1 [.int .u8 (IntKind.u8.wrap r.at_), .int .u8 (IntKind.u8.wrap (r.l.length : Int))]).put b .dead).new 1 ((l ++ [b8 r.at_, b8 r.l.length]).map cell8)).n = G.n + 2 := by simp
    generalize ((G.new 1 [.int .u8 (IntKind.u8.wrap r.at_), .int .u8 (IntKind.u8.wrap (r.l.length : Int))]).put b .dead).new 1 ((l ++ [b8 r.at_, b8 r.l.length]).map cell8) = K at kg wk kn ⊢
    dsimp only
    rw [ld (by omega) kg]
    simp only [gx0, gx1, ob]
    rw [app_w (m := r.l) wk cellsS_by (by simp [lenS]) (by simp only [List.length_append, List.length_cons, List.length_nil]; omega), ob]
    dsimp only
    rw [no_tidy_v (by simp [belV, belS]; omega), w64 (by omega) (by omega), show (i : Int) + 1 = ((i + 1 : Nat) : Int) from by omega]
    obtain ⟨h', v', b', e5, w5, b5⟩ := ih (i + 1) _ _ ((l ++ [b8 r.at_, b8 r.l.length]) ++ r.l) K.n n0 g2 (app_own (h := K) (b := G.n + 1)) (by omega) (by simp only [List.length_append, List.length_cons, List.length_nil]; omega)
    refine ⟨h', v', b', e5, ?_, b5⟩
    simpa [pkRuns] using w5
theorem lp_l4Pack {k t p : Int} (hl : all.length < 2 ^ 31) : ∀ (rs : List RunD) (i : Nat) (h : H) (v : V) (l : List UInt8) (b n0 : Nat), all.drop i = rs → BysW h v l b → n0 ≤ b → l.length + (rsz rs + rs.length) ≤ lim →
    ∃ h' v' b', Lp.spec_l4Pack 0 [fv [.int .i64 k, .int .i64 t, .int .i64 p, .fs (runs all)] 0, v, iv .i64 i] h = some (.done [v'] h') ∧ BysW h' v' (l ++ pkRuns rs) b' ∧ n0 ≤ b' := by
  intro rs
  induction rs with
  | nil =>
    intro i h v l b n0 hi w hb hs
    have := drop_nil hi
    rw [eq_spec_l4Pack_l0]
    simp only [Nat.zero_add, List.getElem?_cons_succ, List.getElem?_cons_zero, ob, gF_f, runs_len, vcase_b]
    rw [if_neg (by simp; omega), tidy_self]
    exact ⟨h, v, b, rfl, by simpa [pkRuns] using w, hb⟩
  | cons r rs ih =>
    intro i h v l b n0 hi w hb hs
    obtain ⟨g1, g2, g3⟩ := drop_cons hi
    rw [rsz_cons, List.length_cons] at hs
    have hbn := w.n
    have e : ∀ {R : Type} {k : List S → Option R}, idxF 2 (runs all) (i : Int) k = k r.cs := idxF_run g1
    rw [eq_spec_l4Pack_l0]
    simp only [Nat.zero_add, List.getElem?_cons_succ, List.getElem?_cons_zero, ob, gF_f, runs_len, vcase_b]
    rw [if_pos (by simp; omega)]
    have hk : ∀ {R : Type} {k : H → Option R}, killV v h k = k (h.put b .dead) := fun {R} {k} => by rw [w.v]; rfl
    rw [hk]
    simp only [e, List.getElem?_cons_succ, List.getElem?_cons_zero, ob, gI_i, gF_f, bys_len]
    have x0 : HExt (h.put b .dead) h := ⟨by simp, fun c hc => by
      by_cases hcb : c = b
      · subst hcb; exact .inl (put_g _ _ _)
      · right; exact ⟨(put_g' hcb).symm, by simp [H.put, hcb]⟩⟩
    rw [hchk_of x0.new]
    have wn : BysW (h.new 1 [.int .u8 (IntKind.u8.wrap r.at_), .int .u8 (IntKind.u8.wrap (r.l.length : Int))]) v l b := (show Own h v l (some b) from w).up up_new
    rw [app_w wn cells2_new rfl (by simp only [List.length_cons, List.length_nil]; omega), ob]
    dsimp only
    have x1 : HExt (h.put b .dead) (((h.new 1 [.int .u8 (IntKind.u8.wrap r.at_), .int .u8 (IntKind.u8.wrap (r.l.length : Int))]).put b .dead).new 1 ((l ++ [b8 r.at_, b8 r.l.length]).map cell8)) := (x0.new.put (.inr (put_g _ _ _))).new
    rw [hchk_of x1]
    simp only [sca_v, scaS, cond_true]
    have wk : BysW (((h.new 1 [.int .u8 (IntKind.u8.wrap r.at_), .int .u8 (IntKind.u8.wrap (r.l.length : Int))]).put b .dead).new 1 ((l ++ [b8 r.at_, b8 r.l.length]).map cell8)) (sv (h.new 1 [.int .u8 (IntKind.u8.wrap r.at_), .int .u8 (IntKind.u8.wrap (r.l.length : Int))]).n 0 (l ++ [b8 r.at_, b8 r.l.length]).length) (l ++ [b8 r.at_, b8 r.l.length]) (h.n + 1) := app_own
    have kn : (((h.new 1 [.int .u8 (IntKind.u8.wrap r.at_), .int .u8 (IntKind.u8.wrap (r.l.length : Int))]).put b .dead).new 1 ((l ++ [b8 r.at_, b8 r.l.length]).map cell8)).n = h.n + 2 := by simp
    generalize ((h.new 1 [.int .u8 (IntKind.u8.wrap r.at_), .int .u8 (IntKind.u8.wrap (r.l.length : Int))]).put b .dead).new 1 ((l ++ [b8 r.at_, b8 r.l.length]).map cell8) = K at wk kn x1 ⊢
    rw [app_w (m := r.l) wk cellsS_by (by simp [lenS]) (by simp only [List.length_append, List.length_cons, List.length_nil]; omega), ob]
    dsimp only
    rw [hchk_of (HExt.new (x1.put (.inl (by rw [put_n]; omega))))]
    simp only [sca_v, scaS, cond_true]
    rw [no_tidy_v (by simp [belV, belS]; omega), w64 (by omega) (by omega), show (i : Int) + 1 = ((i + 1 : Nat) : Int) from by omega]
    obtain ⟨h', v', b', e5, w5, b5⟩ := ih (i + 1) _ _ ((l ++ [b8 r.at_, b8 r.l.length]) ++ r.l) K.n n0 g2 (app_own (h := K) (b := h.n + 1)) (by omega) (by simp only [List.length_append, List.length_cons, List.length_nil]; omega)
    refine ⟨h', v', b', e5, ?_, b5⟩
    simpa [pkRuns] using w5
end
/-- a record with a size that is known -/
structure RecD.sm (r : RecD) : Prop where
  n : r.rs.length ≤ 1048576
  s : rsz r.rs ≤ 1048576
theorem b8_mod (n : Int) : b8 (n % 256) = b8 n := by unfold b8; rw [wrap8_mod, wrap8_mod, Int.emod_emod_of_dvd n (by omega)]
theorem lenF {e : Nat} {rows : List (List S)} : lenV (.sl e) (lv rows) = some (iv .i64 (rows.length : Int)) := id rfl
theorem head_cells (r : RecD) : [S.int .u8 0, .int .u8 (IntKind.u8.wrap r.kind), .int .u8 (IntKind.u8.wrap r.tx), .int .u8 (IntKind.u8.wrap r.page), .int .u8 (IntKind.u8.wrap (r.rs.length : Int))] = (pkHead r).map cell8 := by
  simp only [b8_cell, pkHead, List.map_cons, List.map_nil]
  rfl
theorem f_packed {r : RecD} (hr : r.sm) (n : Nat) : ∃ y h', call Ev Fn.impl_packed [.agg r.cs] (D n) = some (.s y, h') ∧ n ≤ h'.n ∧ OwnF 4 y (.fs (bys (pk r))) n h'.n h' ∧ y = .sl (some (h'.n - 1, 0)) (pk r).length := by
  have h1 := hr.n
  have h2 := hr.s
  rw [eq_impl_packed]
  have ld : ∀ {h : H} {b o e : Nat} {X : List S}, b < h.n → h.g b = .rw e X → load1 h (pv b o) = X[o]? := fun hb hg => by simp [load1, H.cells, hb, hg, Blk.cells]
  have g0 : ((D n).new 0 r.cs).g n = .rw 0 r.cs := new_g (D n) _ _
  simp only [D_n, ld (h := (D n).new 0 r.cs) (b := n) (by simp) g0, gx0, gx1, ob, gI_i, lenF, gV1_s, runs_len]
  rw [head_cells r]
  have g1 : (((D n).new 0 r.cs).new 1 ((pkHead r).map cell8)).g n = .rw 0 r.cs := by rw [new_g' (by simp)]; exact g0
  rw [ld (by simp; omega) g1]
  simp only [gx0, gx1, ob, lenF, gV1_s, gI_i, runs_len]
  have w0 : BysW (((D n).new 0 r.cs).new 1 ((pkHead r).map cell8)) (sv (n + 1) 0 5) (pkHead r) (n + 1) := ⟨rfl, by simp, by exact new_g ((D n).new 0 r.cs) _ _⟩
  obtain ⟨h', v', b', e1, w1, b1⟩ := lp_packed (all := r.rs) (by omega) r.rs 0 _ _ _ _ n (by simp) w0 (by omega) (by simp only [pkHead, List.length_cons, List.length_nil]; unfold lim; omega)
  rw [show ((D n).new 0 r.cs).n = n + 1 from rfl, show iv .i64 0 = iv .i64 ((0 : Nat) : Int) from rfl, e1, ob, lcase_done]
  simp only [gx0, ob]
  have hlen : (pkHead r ++ pkRuns r.rs).length = 5 + (rsz r.rs + r.rs.length) := by
    rw [List.length_append, pkRuns_len]; simp only [pkHead, List.length_cons, List.length_nil]
  have hv := w1.v
  have hlv : lenV (.sl 5) v' = some (iv .i64 ((pkHead r ++ pkRuns r.rs).length : Nat)) := by rw [hv]; rfl
  simp only [hlv, ob, gV1_s, gI_i]
  have ei : ∀ {R : Type} {k : V → Option R}, idxK 1 v' (iv .i64 ((0 : Nat) : Int)) k = k (pv b' (0 * 1)) := fun {R} {k} => by rw [hv]; exact idxK_sv (by omega)
  rw [ei, w64 (by omega) (by omega), BysW.set (n := (pkHead r ++ pkRuns r.rs).length) (i := 0) (c := b8 (((pkHead r ++ pkRuns r.rs).length : Nat) + 2 : Int)) (by rw [← hv]; exact w1) (by omega) (by rw [b8_int])]
  have w2 := BysW.set_w (i := 0) (c := b8 (((pkHead r ++ pkRuns r.rs).length : Nat) + 2 : Int)) (show BysW h' (sv b' 0 (pkHead r ++ pkRuns r.rs).length) _ b' by rw [← hv]; exact w1)
  rw [show (pkHead r ++ pkRuns r.rs).set 0 (b8 (((pkHead r ++ pkRuns r.rs).length : Nat) + 2 : Int)) = pk1 r from rfl] at w2 ⊢
  rw [← hv] at w2
  generalize h'.put b' (.rw 1 ((pk1 r).map cell8)) = K at w2 ⊢
  have hl1 := pk1_len r
  rw [show (((pkHead r ++ pkRuns r.rs).length : Nat) : Int) = ((pk1 r).length : Nat) from by rw [hlen, hl1]]
  rw [show iv .i64 ((0 : Nat) : Int) = iv .i64 0 from rfl, lp_sum w2 (by omega), ob, lcase_done]
  simp only [gx0, gx1, ob, gV1_s, gI_i]
  have hs := sumB_bd (pk1 r) 1 (by omega) (by omega)
  rw [shr8_of hs.1, ob]
  simp only [gV1_s, gI_i]
  have wn : BysW (K.new 1 [.int .u8 (IntKind.u8.wrap (sumB (pk1 r) 1 / 256)), .int .u8 (IntKind.u8.wrap (sumB (pk1 r) 1))]) v' (pk1 r) b' := (show Own K v' (pk1 r) (some b') from w2).up up_new
  rw [app_w wn cells2_new rfl (by simp only [List.length_cons, List.length_nil]; unfold lim; omega), ob]
  have w3 := app_own (h := K.new 1 [.int .u8 (IntKind.u8.wrap (sumB (pk1 r) 1 / 256)), .int .u8 (IntKind.u8.wrap (sumB (pk1 r) 1))]) (l := pk1 r) (m := [b8 (sumB (pk1 r) 1 / 256), b8 (sumB (pk1 r) 1)]) (b := b')
  rw [show pk1 r ++ [b8 (sumB (pk1 r) 1 / 256), b8 (sumB (pk1 r) 1)] = pk r from rfl] at w3 ⊢
  have hKn : n ≤ K.n := by have := w2.n; omega
  refine ⟨_, _, rfl, by simp; omega, OwnB.f (d := 3) ⟨some (K.n + 1), w3, fun c hc => by cases hc; simp; omega⟩, by simp⟩
theorem f_l4Pack {r : RecD} (hr : r.sm) (n : Nat) : ∃ y h', call Ev Fn.spec_l4Pack [fv r.cs 0] (D n) = some (.s y, h') ∧ n ≤ h'.n ∧ OwnF 4 y (.fs (bys (pk r))) n h'.n h' := by
  have h1 := hr.n
  have h2 := hr.s
  rw [eq_spec_l4Pack, runs_len, head_cells r, hchk_of (HExt.new (HExt.refl _))]
  have w0 : BysW ((D n).new 1 ((pkHead r).map cell8)) (sv n 0 5) (pkHead r) n := ⟨rfl, by simp, by exact new_g (D n) _ _⟩
  obtain ⟨h', v', b', e1, w1, b1⟩ := lp_l4Pack (all := r.rs) (k := r.kind) (t := r.tx) (p := r.page) (by omega) r.rs 0 _ _ _ _ n (by simp) w0 (by omega) (by simp only [pkHead, List.length_cons, List.length_nil]; unfold lim; omega)
  rw [D_n, show iv .i64 0 = iv .i64 ((0 : Nat) : Int) from rfl, e1, ob, lcase_done]
  simp only [gx0, ob]
  have hlen : (pkHead r ++ pkRuns r.rs).length = 5 + (rsz r.rs + r.rs.length) := by
    rw [List.length_append, pkRuns_len]; simp only [pkHead, List.length_cons, List.length_nil]
  have hv := w1.v
  have hlv : lenV (.sl 5) v' = some (iv .i64 ((pkHead r ++ pkRuns r.rs).length : Nat)) := by rw [hv]; rfl
  simp only [hlv, ob, gV1_s, gI_i]
  have ei : ∀ {R : Type} {k : V → Option R}, idxK 1 v' (iv .i64 ((0 : Nat) : Int)) k = k (pv b' (0 * 1)) := fun {R} {k} => by rw [hv]; exact idxK_sv (by omega)
  rw [ei, w64 (by omega) (by omega), BysW.set (n := (pkHead r ++ pkRuns r.rs).length) (i := 0) (c := b8 (((pkHead r ++ pkRuns r.rs).length : Nat) + 2 : Int)) (by rw [← hv]; exact w1) (by omega) (by rw [b8_int])]
  have w2 := BysW.set_w (i := 0) (c := b8 (((pkHead r ++ pkRuns r.rs).length : Nat) + 2 : Int)) (show BysW h' (sv b' 0 (pkHead r ++ pkRuns r.rs).length) _ b' by rw [← hv]; exact w1)
  rw [show (pkHead r ++ pkRuns r.rs).set 0 (b8 (((pkHead r ++ pkRuns r.rs).length : Nat) + 2 : Int)) = pk1 r from rfl] at w2 ⊢
  rw [← hv] at w2
  generalize h'.put b' (.rw 1 ((pk1 r).map cell8)) = K at w2 ⊢
  have hl1 := pk1_len r
  have hs := sumB_bd (pk1 r) 1 (by omega) (by omega)
  rw [frzVs_cons (frz1 (ob := some b') w2) frzVs_nil, ob, norm_nil, pc (p_l4Sum (by omega)) rfl]
  simp only [gV1_s, gI_i]
  rw [quo_of hs.1 (by omega) (by omega), ob]
  simp only [gV1_s, gI_i]
  rw [rem_of hs.1 (by omega), ob]
  simp only [gV1_s, gI_i]
  have wn : BysW (K.new 1 [.int .u8 (IntKind.u8.wrap (sumB (pk1 r) 1 / 256)), .int .u8 (IntKind.u8.wrap (sumB (pk1 r) 1 % 256))]) v' (pk1 r) b' := (show Own K v' (pk1 r) (some b') from w2).up up_new
  rw [app_w wn cells2_new rfl (by simp only [List.length_cons, List.length_nil]; unfold lim; omega), ob]
  have w3 := app_own (h := K.new 1 [.int .u8 (IntKind.u8.wrap (sumB (pk1 r) 1 / 256)), .int .u8 (IntKind.u8.wrap (sumB (pk1 r) 1 % 256))]) (l := pk1 r) (m := [b8 (sumB (pk1 r) 1 / 256), b8 (sumB (pk1 r) 1 % 256)]) (b := b')
  rw [b8_mod, show pk1 r ++ [b8 (sumB (pk1 r) 1 / 256), b8 (sumB (pk1 r) 1)] = pk r from rfl] at w3 ⊢
  have hKn : n ≤ K.n := by have := w2.n; omega
  exact ⟨_, _, rfl, by simp; omega, OwnB.f (d := 3) ⟨some (K.n + 1), w3, fun c hc => by cases hc; simp; omega⟩⟩
end Vm
