/-
  The text of a record: what both ways come to.
-/
import Derived.Test.YtainemlfiibooaaDoorDKs
import Derived.Test.YtainemlfiibooaaDoorDRec
set_option linter.unusedVariables false
set_option maxRecDepth 100000
set_option linter.unusedSimpArgs false
set_option maxHeartbeats 1000000
namespace Vm
open Go
theorem ldS_at {R : Type} {K : H} {q i : Nat} {ts : List ByteArray} {ti : TI} {f : V → Option R} (hq : q < K.n) (hg : K.g q = .rw 1 (ts.map fun t => .str t)) (hi : i < ts.length) (hz : ti.agg = false) : ldK (.one (.s)) ti K (pv q (i * 1)) f = f (.s (.str ts[i])) := by
  show ldT ti K (pv q (i * 1)) f = _
  unfold ldT
  have : load1 K (pv q (i * 1)) = some (.str ts[i]) := by
    simp only [load1, H.cells, hq, if_true, hg, Blk.cells, Nat.mul_one]
    rw [List.getElem?_map, List.getElem?_eq_getElem hi]; rfl
  rw [hz, cond_false, this, ob]
/-- the words of the kinds -/
def kwL : List ByteArray := [⟨#[98, 101, 103, 105, 110]⟩, ⟨#[100, 101, 108, 116, 97]⟩, ⟨#[99, 111, 109, 112]⟩, ⟨#[105, 109, 97, 103, 101]⟩, ⟨#[99, 111, 109, 109, 105, 116]⟩, ⟨#[97, 98, 111, 114, 116]⟩]
def kw (k : Nat) : ByteArray := (kwL[k - 1]?).getD ⟨#[]⟩
theorem kw_size (k : Nat) : (kw k).size ≤ 6 := by
  have : ∀ x ∈ kwL, x.size ≤ 6 := by decide +kernel
  unfold kw
  cases h : kwL[k - 1]? with
  | none => simp [ByteArray.size]
  | some x => exact this x (List.mem_of_getElem? h)
def sp : ByteArray := ⟨#[32]⟩
theorem sp_size : sp.size = 1 := rfl
/-- how many bytes the runs have -/
def rsN : List RunD → Nat
  | [] => 0
  | r :: rs => r.l.length + rsN rs
theorem rsN_G : ∀ (rs : List RunD) (q : Int), 0 ≤ q → runsG q rs = 0 → rs ≠ [] → (rsN rs : Int) + q ≤ 64
  | [], q, _, _, h => absurd rfl h
  | r :: rs, q, hq, h, _ => by
    unfold runsG at h
    split at h
    · rename_i h1
      split at h
      · cases h
      · rename_i h2
        simp only [Bool.and_eq_true, inB_iff, decide_eq_true_eq] at h1
        by_cases hrs : rs = []
        · subst hrs
          simp only [rsN]; omega
        · have := rsN_G rs (r.at_ + r.l.length + 1) (by omega) h hrs
          simp only [rsN]; omega
    · cases h
theorem rsN_le {rs : List RunD} (h : runsF rs = 0) : rsN rs ≤ 64 := by
  unfold runsF at h
  split at h
  · cases h
  · by_cases hrs : rs = []
    · subst hrs; simp [rsN]
    · have := rsN_G rs 0 (by omega) h hrs
      omega
theorem rsLen {rs : List RunD} (h : runsF rs = 0) : rs.length ≤ 64 := by
  unfold runsF at h
  split at h
  · cases h
  · omega
/-- a record that is right -/
structure Rok (r : RecD) (kk tt pp : Nat) : Prop where
  k : r.kind = kk
  t : r.tx = tt
  p : r.page = pp
  k1 : 1 ≤ kk ∧ kk ≤ 6
  t1 : tt < 100
  p1 : pp < 100
  y : inB r.kind 2 4 = true → r.rs ≠ [] ∧ runsF r.rs = 0
  n : inB r.kind 2 4 = false → r.rs = []
theorem rok_of {r : RecD} (h : recF r = 0) : ∃ k t p : Nat, Rok r k t p := by
  unfold recF at h
  split at h
  · cases h
  rename_i h1
  split at h
  · cases h
  rename_i h2
  split at h
  · cases h
  rename_i h3
  split at h
  · cases h
  rename_i h4
  split at h
  · cases h
  rename_i h5
  have b1 := inB_iff.1 (by simpa using h1 : inB r.kind 1 6 = true)
  have b5 := inB_iff.1 (by simpa using h5 : inB r.page 0 11 = true)
  have bt : 0 ≤ r.tx ∧ r.tx ≤ 99 := by
    by_cases hk : r.kind = 4
    · have : r.tx = 0 := by
        by_cases ht : r.tx = 0
        · exact ht
        · exact absurd ⟨hk, ht⟩ h3
      omega
    · cases ht : inB r.tx 1 99
      · exact absurd ⟨hk, ht⟩ h4
      · have := inB_iff.1 ht; omega
  refine ⟨r.kind.toNat, r.tx.toNat, r.page.toNat, by omega, by omega, by omega, by omega, by omega, by omega, fun hy => ?_, fun hn => ?_⟩
  · unfold recG at h
    rw [if_neg (by simp [hy])] at h
    by_cases hf : runsF r.rs = 0
    · rw [if_neg (by simp [hf])] at h
      refine ⟨fun he => ?_, hf⟩
      rw [he] at h
      simp at h
    · rw [if_pos hf] at h
      exact absurd h hf
  · by_cases he : r.rs = []
    · exact he
    · exact absurd ⟨hn, .inr he⟩ h2
/-- the text -/
def rtS (r : RecD) (k t p : Nat) : ByteArray := if inB r.kind 2 4 = true then kw k ++ sp ++ dg t ++ sp ++ dg p ++ sp ++ dg (rsN r.rs) else kw k ++ sp ++ dg t
theorem bapp (a b c : ByteArray) : a ++ (b ++ c) = a ++ b ++ c := by
  ext1
  simp [Array.append_assoc]
theorem ldK_run {R : Type} {h : H} {r : RunD} {ti : TI} {f : V → Option R} (hz : ti.agg = true) (h2 : ti.z = 2) : ldK (.agg [.i .i64, .f]) ti h (fv r.cs 0) f = f (.agg r.cs) := by
  simp only [ldK, ldT, hz, cond_true, h2, loadN]; rfl
theorem idxK_lr {R : Type} {z : Nat} {rows : List (List S)} {k : IntKind} {j : Int} {f : V → Option R} : idxK z (.s (.fs rows)) (iv k j) f = idxF z rows j fun r => f (fv r 0) := rfl
theorem lp_rt {all : List RunD} (hl : all.length ≤ 64) (hr : rsN all ≤ 64) {t : ByteArray} {h : H} (hn : 2 ≤ h.n) : ∀ (rs : List RunD) (i q : Nat), all.drop i = rs → q + rsN rs ≤ 64 →
    Lp.impl_RecordText 0 [pv 0 0, pv 1 0, .s (.str t), iv .i64 (q : Int), lv (runs all), iv .i64 (all.length : Int), iv .i64 (i : Int)] h = some (.done [pv 0 0, pv 1 0, .s (.str t), iv .i64 ((q + rsN rs : Nat) : Int)] h) := by
  intro rs
  induction rs with
  | nil =>
    intro i q hi hq
    have := drop_nil hi
    rw [eq_impl_RecordText_l0, vcase_b, if_neg (by simp; omega), tidy_self]; rfl
  | cons r rs ih =>
    intro i q hi hq
    obtain ⟨g1, g2, g3⟩ := drop_cons hi
    simp only [rsN] at hq
    rw [eq_impl_RecordText_l0, vcase_b, if_pos (by simp; omega), idxK_lr, idxF_run g1, ldK_run rfl rfl]
    simp only [gVA_a, ob, gx0, gx1, gI_i, ln0, ln1, Nat.zero_add, Nat.reduceAdd, if_true]
    rw [stK_rw (z := 2) (e := 0) (o := 0) (b := h.n) (cs := [.int .i64 0, .sl none 0]) (r := [.int .i64 r.at_, .fs (bys r.l)]) (by simp) (new_g h _ _) (.inr rfl) rfl (by simp)]
    rw [show setAt [.int .i64 0, .sl none 0] 0 [S.int .i64 r.at_, .fs (bys r.l)] = [S.int .i64 r.at_, .fs (bys r.l)] from rfl]
    have hL : load1 ((h.new 0 [.int .i64 0, .sl none 0]).put h.n (.rw 0 [.int .i64 r.at_, .fs (bys r.l)])) (pv h.n 1) = some (.fs (bys r.l)) := by
      have : h.n < ((h.new 0 [.int .i64 0, .sl none 0]).put h.n (.rw 0 [.int .i64 r.at_, .fs (bys r.l)])).n := by rw [put_n, new_n]; omega
      simp only [load1, H.cells, this, if_true, put_g, Blk.cells]; rfl
    rw [hL, ob]
    simp only [lenV, ob, gV1_s, gI_i, bys_len]
    rw [w64 (n := (q : Int) + (r.l.length : Int)) (by omega) (by omega), w64 (n := (i : Int) + 1) (by omega) (by omega), show (q : Int) + (r.l.length : Int) = ((q + r.l.length : Nat) : Int) from by omega, show (i : Int) + 1 = ((i + 1 : Nat) : Int) from by omega]
    rw [tidy_ext (((HKeep.refl h).new).put (Nat.le_refl _)) (by simp [belV, belS]; omega), ih (i + 1) (q + r.l.length) g2 (by omega)]
    simp only [rsN, Nat.add_assoc]
theorem ldI_at {R : Type} {K : H} {q o : Nat} {cs : List S} {x : Int} {ti : TI} {f : V → Option R} (hq : q < K.n) (hg : K.g q = .rw 0 cs) (hx : cs[o]? = some (.int .i64 x)) (hz : ti.agg = false) : ldK (.one (.i .i64)) ti K (pv q o) f = f (iv .i64 x) := by
  show ldT ti K (pv q o) f = _
  unfold ldT
  have : load1 K (pv q o) = some (.int .i64 x) := by simp only [load1, H.cells, hq, if_true, hg, Blk.cells, hx]
  rw [hz, cond_false, this, ob]
abbrev zT : List S := [.int .i64 0, .str (⟨#[]⟩)]
theorem kw_at {k : Nat} (h1 : 1 ≤ k) (h2 : k ≤ 6) : kwL[k - 1]? = some (kw k) := by
  have : k - 1 < kwL.length := by show k - 1 < 6; omega
  unfold kw
  rw [List.getElem?_eq_getElem this]; rfl
theorem p_RecordText (r : RecD) (hl : r.rs.length ≤ maxLen) : ∃ (c : Int) (s : ByteArray), pureV (call Ev) Fn.impl_RecordText [.agg r.cs] = some (.agg [.int .i64 c, .str s]) ∧ (recF r ≠ 0 → c = recF r ∧ s = ⟨#[]⟩) ∧ (recF r = 0 → c = 0 ∧ ∃ k t p : Nat, Rok r k t p ∧ s = rtS r k t p) := by
  have e0 := pu_impl_RecordText r.kind r.tx r.page (runs r.rs)
  by_cases hc : recF r = 0
  case neg =>
    refine ⟨recF r, ⟨#[]⟩, e0.trans ?_, fun _ => ⟨rfl, rfl⟩, fun h => absurd h hc⟩
    have e1 : pureV (call Ev) Fn.impl_RecordFault [.agg [.int .i64 r.kind, .int .i64 r.tx, .int .i64 r.page, .fs (runs r.rs)]] = _ := p_RecordFault r hl
    rw [pc e1 rfl]
    simp only [gV1_s, gI_i]
    rw [vcase_b, if_pos (by simpa using hc)]
  obtain ⟨k, t, p, w⟩ := rok_of hc
  refine ⟨0, rtS r k t p, e0.trans ?_, fun h => absurd hc h, fun _ => ⟨rfl, k, t, p, w, rfl⟩⟩
  have e1 : pureV (call Ev) Fn.impl_RecordFault [.agg [.int .i64 r.kind, .int .i64 r.tx, .int .i64 r.page, .fs (runs r.rs)]] = _ := p_RecordFault r hl
  rw [pc e1 rfl]
  simp only [gV1_s, gI_i]
  rw [vcase_b, if_neg (by simp [hc])]
  have k1 := w.k1
  have hk := kw_size k
  have ht := dg_size t
  have hp := dg_size p
  rw [w.k, w64 (by omega) (by omega), show (k : Int) - 1 = ((k - 1 : Nat) : Int) from by omega, idxK_sv (by omega)]
  generalize hG : (((D 0).new 0 [S.int .i64 k, .int .i64 r.tx, .int .i64 r.page, .fs (runs r.rs)]).new 0 [.int .i64 0, .str (⟨#[]⟩)]).new 1 [.str (⟨#[98, 101, 103, 105, 110]⟩), .str (⟨#[100, 101, 108, 116, 97]⟩), .str (⟨#[99, 111, 109, 112]⟩), .str (⟨#[105, 109, 97, 103, 101]⟩), .str (⟨#[99, 111, 109, 109, 105, 116]⟩), .str (⟨#[97, 98, 111, 114, 116]⟩)] = G
  have gn : G.n = 3 := by rw [← hG]; simp
  have g2 : G.g 2 = .rw 1 (kwL.map fun t => .str t) := by rw [← hG]; exact new_g (((D 0).new 0 _).new 0 _) _ _
  have g1 : G.g 1 = .rw 0 zT := by rw [← hG, new_g' (by simp)]; exact new_g ((D 0).new 0 _) _ _
  have g0 : G.g 0 = .rw 0 [S.int .i64 k, .int .i64 r.tx, .int .i64 r.page, .fs (runs r.rs)] := by rw [← hG, new_g' (by simp), new_g' (by simp)]; exact new_g (D 0) _ _
  rw [ldS_at (ts := kwL) (by omega) g2 (show k - 1 < 6 by omega) rfl]
  have hkw : kwL[k - 1]'(show k - 1 < 6 by omega) = kw k := by
    have := kw_at k1.1 k1.2
    rw [List.getElem?_eq_getElem (show k - 1 < kwL.length from by show k - 1 < 6; omega)] at this
    injection this
  rw [hkw]
  simp only [gV1_s, gS_s]
  rw [show (⟨#[32]⟩ : ByteArray) = sp from rfl, add_str (by rw [sp_size]; unfold lim; omega), ob]
  simp only [gV1_s, gS_s]
  rw [w.t, pc (p_digits w.t1) rfl]
  simp only [gV1_s, gS_s, hchk_self]
  rw [add_str (by rw [app_size, sp_size]; unfold lim; omega), ob]
  simp only [gV1_s, gS_s]
  rw [vcase_b, runs_len]
  unfold rtS
  cases hy : inB r.kind 2 4 with
  | false =>
    rw [w.n hy, if_neg (by simp), if_neg (by simp)]
  | true =>
    obtain ⟨y1, y2⟩ := w.y hy
    have hn64 := rsN_le y2
    have hd := dg_size (rsN r.rs)
    rw [if_pos (by simp; exact List.length_pos_iff.2 y1), if_pos rfl]
    rw [show iv .i64 0 = iv .i64 ((0 : Nat) : Int) from rfl, lp_rt (rsLen y2) hn64 (by omega) r.rs 0 0 rfl (by omega), ob, lcase_done]
    simp only [gx0, gx1, ob, gV1_s, gS_s, gI_i, Nat.zero_add]
    rw [show padd 2 (pv 0 0) = some (pv 0 2) from rfl, ob, ldI_at (x := (p : Int)) (by omega) g0 (by rw [w.p]; rfl) rfl]
    simp only [gV1_s, gI_i]
    rw [pc (p_digits w.p1) rfl]
    simp only [gV1_s, gS_s]
    rw [add_str (by rw [sp_size]; unfold lim; omega), ob]
    simp only [gV1_s, gS_s]
    rw [add_str (by rw [app_size, sp_size]; unfold lim; omega), ob]
    simp only [gV1_s, gS_s]
    rw [pc (p_digits (by omega)) rfl]
    simp only [gV1_s, gS_s]
    rw [add_str (by rw [app_size, app_size, sp_size]; unfold lim; omega), ob]
    simp only [gV1_s, gS_s]
    rw [add_str (by simp only [app_size, sp_size]; unfold lim; omega), ob]
    simp only [gV1_s, gS_s]
    rw [stK_rw (z := 2) (e := 0) (o := 0) (b := 1) (cs := zT) (r := [.int .i64 0, .str (kw k ++ sp ++ dg t ++ (sp ++ dg p ++ sp ++ dg (rsN r.rs)))]) (by omega) g1 (.inr rfl) rfl (by simp)]
    rw [show setAt zT 0 [S.int .i64 0, .str (kw k ++ sp ++ dg t ++ (sp ++ dg p ++ sp ++ dg (rsN r.rs)))] = [S.int .i64 0, .str (kw k ++ sp ++ dg t ++ (sp ++ dg p ++ sp ++ dg (rsN r.rs)))] from rfl]
    unfold ldT
    simp only [cond_true]
    rw [loadN_rw (n := 2) (e := 0) (b := 1) (cs := [S.int .i64 0, .str (kw k ++ sp ++ dg t ++ (sp ++ dg p ++ sp ++ dg (rsN r.rs)))]) (by rw [put_n]; omega) (put_g _ _ _) (by simp), ob]
    simp [bapp]
theorem lp_st {r : RecD} (hl : r.rs.length ≤ 64) {t : ByteArray} {h : H} : ∀ (rs : List RunD) (i q : Nat), r.rs.drop i = rs → q + rsN rs ≤ 64 →
    Lp.spec_l4Text 0 [fv r.cs 0, .s (.str t), iv .i64 (q : Int), iv .i64 (i : Int)] h = some (.done [fv r.cs 0, .s (.str t), iv .i64 ((q + rsN rs : Nat) : Int)] h) := by
  intro rs
  induction rs with
  | nil =>
    intro i q hi hq
    have := drop_nil hi
    rw [eq_spec_l4Text_l0]
    simp only [Nat.zero_add, ob, gx0, gx1, gF_f]
    rw [vcase_b, if_neg (by simp; omega), tidy_self]; rfl
  | cons x rs ih =>
    intro i q hi hq
    obtain ⟨g1, g2, g3⟩ := drop_cons hi
    simp only [rsN] at hq
    rw [eq_spec_l4Text_l0]
    simp only [Nat.zero_add, ob, gx0, gx1, gF_f]
    rw [vcase_b, if_pos (by simp; omega), idxF_run g1]
    simp only [ob, gx0, gx1, gF_f, bys_len]
    rw [tidy_self, w64 (n := (q : Int) + (x.l.length : Int)) (by omega) (by omega), w64 (n := (i : Int) + 1) (by omega) (by omega), show (q : Int) + (x.l.length : Int) = ((q + x.l.length : Nat) : Int) from by omega, show (i : Int) + 1 = ((i + 1 : Nat) : Int) from by omega]
    have := ih (i + 1) (q + x.l.length) g2 (by omega)
    rw [this]
    simp only [rsN, Nat.add_assoc]
def sL : List ByteArray := ⟨#[]⟩ :: kwL
theorem p_l4Text {r : RecD} {k t p : Nat} (w : Rok r k t p) : pureV (call Ev) Fn.spec_l4Text [fv r.cs 0] = some (.s (.str (rtS r k t p))) := by
  have e0 := pu_spec_l4Text r.kind r.tx r.page (runs r.rs)
  refine e0.trans ?_
  have k1 := w.k1
  have hk := kw_size k
  have ht := dg_size t
  have hp := dg_size p
  generalize hG : (D 0).new 1 [S.str (⟨#[]⟩), .str (⟨#[98, 101, 103, 105, 110]⟩), .str (⟨#[100, 101, 108, 116, 97]⟩), .str (⟨#[99, 111, 109, 112]⟩), .str (⟨#[105, 109, 97, 103, 101]⟩), .str (⟨#[99, 111, 109, 109, 105, 116]⟩), .str (⟨#[97, 98, 111, 114, 116]⟩)] = G
  have gn : G.n = 1 := by rw [← hG]; simp
  have g0 : G.g 0 = .rw 1 (sL.map fun t => .str t) := by rw [← hG]; exact new_g (D 0) _ _
  have xG : HExt (D 0) G := by rw [← hG]; exact (HExt.refl (D 0)).new
  have hx : ∀ {R : Type} (x : Option R), hchk (D 0) G x = x := fun x => hchk_of xG
  simp only [hx]
  rw [w.k, idxK_sv (by omega)]
  rw [ldS_at (ts := sL) (by omega) g0 (show k < 7 by omega) rfl]
  have hkw : sL[k]'(show k < 7 by omega) = kw k := by
    obtain ⟨j, rfl⟩ : ∃ j, k = j + 1 := ⟨k - 1, by omega⟩
    have := kw_at k1.1 k1.2
    rw [List.getElem?_eq_getElem (show j + 1 - 1 < kwL.length from by show j < 6; omega)] at this
    injection this
  rw [hkw]
  simp only [gV1_s, gS_s]
  rw [show (⟨#[32]⟩ : ByteArray) = sp from rfl, add_str (by rw [sp_size]; unfold lim; omega), ob]
  simp only [gV1_s, gS_s]
  rw [w.t, pc (p_l1Digits w.t1) rfl]
  simp only [gV1_s, gS_s]
  rw [add_str (by rw [app_size, sp_size]; unfold lim; omega), ob]
  simp only [gV1_s, gS_s]
  rw [pc (p_l4Runs _) rfl]
  simp only [gV1_s, gB_b]
  rw [vcase_b, ← w.k]
  unfold rtS
  cases hy : inB r.kind 2 4 with
  | false => rw [if_pos (by simp), if_neg (by simp)]
  | true =>
    obtain ⟨y1, y2⟩ := w.y hy
    have hn64 := rsN_le y2
    have hd := dg_size (rsN r.rs)
    rw [if_neg (by simp), if_pos rfl]
    have el := lp_st (r := r) (rsLen y2) (t := kw k ++ sp ++ dg t) (h := G) r.rs 0 0 rfl (by omega)
    rw [← w.t]
    have el' : Lp.spec_l4Text 0 [fv [.int .i64 r.kind, .int .i64 r.tx, .int .i64 r.page, .fs (runs r.rs)] 0, .s (.str (kw k ++ sp ++ dg t)), iv .i64 0, iv .i64 0] G = _ := el
    rw [el', ob, lcase_done]
    simp only [gx0, gx1, ob, gV1_s, gS_s, gI_i, Nat.zero_add]
    rw [add_str (by simp only [app_size, sp_size]; unfold lim; omega), ob]
    simp only [gV1_s, gS_s]
    rw [show notNil (fv r.cs 0) = some (fv r.cs 0) from rfl, ob, show padd 2 (fv r.cs 0) = some (fv r.cs 2) from rfl, ob]
    have ep : ∀ {R : Type} {ti : TI} {f : V → Option R}, ti.agg = false → ldK (.one (.i .i64)) ti G (fv r.cs 2) f = f (iv .i64 r.page) := fun {R ti f} hz => by
      simp only [ldK, ldT, hz, cond_false, load1]; rfl
    rw [ep rfl]
    simp only [gV1_s, gI_i]
    rw [w.p, pc (p_l1Digits w.p1) rfl]
    simp only [gV1_s, gS_s]
    rw [add_str (by simp only [app_size, sp_size]; unfold lim; omega), ob]
    simp only [gV1_s, gS_s]
    rw [add_str (by simp only [app_size, sp_size]; unfold lim; omega), ob]
    simp only [gV1_s, gS_s]
    rw [pc (p_l1Digits (by omega)) rfl]
    simp only [gV1_s, gS_s]
    rw [add_str (by simp only [app_size, sp_size]; unfold lim; omega), ob]
    simp only [gV1_s, gS_s]
theorem p_spec_RecordText (r : RecD) (hl : r.rs.length ≤ maxLen) : (recF r ≠ 0 → pureV (call Ev) Fn.spec_RecordText [.agg r.cs] = some (.agg [.int .i64 (recF r), .str ⟨#[]⟩])) ∧ ∀ k t p : Nat, recF r = 0 → Rok r k t p → pureV (call Ev) Fn.spec_RecordText [.agg r.cs] = some (.agg [.int .i64 0, .str (rtS r k t p)]) := by
  have e0 := pu_spec_RecordText r.kind r.tx r.page (runs r.rs)
  have e1 : pureV (call Ev) Fn.spec_l4Fault [fv [.int .i64 r.kind, .int .i64 r.tx, .int .i64 r.page, .fs (runs r.rs)] 0] = _ := p_l4Fault r hl
  refine ⟨fun hc => e0.trans ?_, fun k t p hc w => e0.trans ?_⟩
  · rw [pc e1 rfl]
    simp only [gV1_s, gI_i]
    rw [vcase_b, if_pos (by simpa using hc)]
  · rw [pc e1 rfl]
    simp only [gV1_s, gI_i]
    rw [vcase_b, if_neg (by simp [hc])]
    have e2 : pureV (call Ev) Fn.spec_l4Text [fv [.int .i64 r.kind, .int .i64 r.tx, .int .i64 r.page, .fs (runs r.rs)] 0] = _ := p_l4Text w
    rw [pc e2 rfl]
    simp only [gV1_s, gS_s]
theorem p_toRecord (r : RecD) (hl : r.rs.length ≤ lim) (hr : ∀ x ∈ r.rs, x.l.length ≤ lim) : pureV (call Ev) Fn.laws_toRecord [.agg r.cs] = some (.agg r.cs) := by
  have e0 := pu_laws_toRecord r.kind r.tx r.page (runs r.rs)
  refine e0.trans ?_
  rw [p_toRunS hl hr]
  simp only [ob, gV1_s, gF_f]
end Vm
