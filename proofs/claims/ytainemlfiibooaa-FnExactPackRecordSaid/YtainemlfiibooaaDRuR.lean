/-
  Runs that live: copied, compared, marked, found again.
-/
import Derived.Test.YtainemlfiibooaaDRuF
import Derived.Test.YtainemlfiibooaaDRep
set_option linter.unusedVariables false
set_option maxRecDepth 100000
set_option linter.unusedSimpArgs false
set_option linter.unusedSectionVars false
namespace Vm
open Go
theorem szRuns_ok {rs : List RunD} (h : ¬ (if (rs.length : Int) ≤ 1048576 then szRuns rs (1048576 - rs.length) else -1) < 0) : rs.length ≤ 1048576 ∧ (∀ r ∈ rs, r.l.length ≤ lim) ∧ ∀ r ∈ rs, r.l.length ≤ 1048576 := by
  split at h
  · rename_i hle
    have h2 := szRuns_all rs _ (Int.not_lt.1 h)
    refine ⟨by omega, fun r hr => ?_, fun r hr => ?_⟩
    · have := h2 r hr; unfold lim; omega
    · have := h2 r hr; omega
  · omega
def szR (r : RunD) : Nat := 1 + r.l.length
def mkR (k : Nat) (r : RunD) : RunD := ⟨k, marks (k + 1) r.l.length⟩
def rsz (rs : List RunD) : Nat := szAll szR rs
def mkRs (k : Nat) (rs : List RunD) : List RunD := mkAll mkR szR k rs
theorem rsz_cons (r : RunD) (rs : List RunD) : rsz (r :: rs) = 1 + r.l.length + rsz rs := rfl
theorem rsz_len : ∀ rs : List RunD, rs.length ≤ rsz rs
  | [] => Nat.le_refl _
  | r :: rs => by have := rsz_len rs; rw [rsz_cons, List.length_cons]; omega
theorem szRuns_sum : ∀ (rs : List RunD) (left : Int), 0 ≤ szRuns rs left → 0 ≤ left → szRuns rs left = left - rsz rs + rs.length
  | [], left, h, _ => by simp [szRuns, rsz, szAll]
  | r :: rs, left, h, h0 => by
    simp only [szRuns] at h ⊢
    by_cases hle : (r.l.length : Int) ≤ left
    · rw [if_pos hle] at h ⊢
      rw [szRuns_sum rs _ h (by omega), rsz_cons, List.length_cons]; omega
    · rw [if_neg hle] at h; omega
theorem szRuns_rsz {rs : List RunD} (h : ¬ (if (rs.length : Int) ≤ 1048576 then szRuns rs (1048576 - rs.length) else -1) < 0) : rsz rs ≤ 1048576 := by
  split at h
  · rename_i hle
    have := szRuns_sum rs _ (Int.not_lt.1 h) (by omega); omega
  · omega
/-- a run copied -/
theorem f_toRun (r : RunD) (hl : r.l.length ≤ lim) (n : Nat) : ∃ y h' bs, call Ev Fn.laws_toRun [.agg r.cs] (D n) = some (.agg [.int .i64 r.at_, y], h') ∧ Rep h' 1 y (.fs (bys r.l)) bs ∧ bs.Nodup ∧ (∀ b ∈ bs, n ≤ b ∧ b < h'.n) ∧ n ≤ h'.n ∧ belS n y = false := by
  rw [eq_laws_toRun]
  generalize hG : (((D n).new 0 [.int .i64 r.at_, .fs (bys r.l)]).new 0 [.int .i64 0, .sl none 0]).new 0 [.int .i64 0, .sl none 0] = G
  have gn : G.n = n + 3 := by rw [← hG]; simp
  have g0 : G.g n = .rw 0 [.int .i64 r.at_, .fs (bys r.l)] := by rw [← hG, new_g' (by simp; omega), new_g' (by simp)]; exact new_g (D n) _ _
  have g1 : G.g (n + 1) = .rw 0 [.int .i64 0, .sl none 0] := by rw [← hG, new_g' (by simp)]; exact new_g ((D n).new 0 [.int .i64 r.at_, .fs (bys r.l)]) _ _
  have g2 : G.g (n + 2) = .rw 0 [.int .i64 0, .sl none 0] := by rw [← hG]; exact new_g (((D n).new 0 [.int .i64 r.at_, .fs (bys r.l)]).new 0 [.int .i64 0, .sl none 0]) _ _
  clear hG
  have ld : ∀ {h : H} {b o e : Nat} {X : List S}, b < h.n → h.g b = .rw e X → load1 h (pv b o) = X[o]? := fun hb hg => by simp [load1, H.cells, hb, hg, Blk.cells]
  simp only [new_n, D_n]
  rw [ld (by omega) g0]
  simp only [gx0, ob, gI_i]
  rw [stK_rw (z := 1) (e := 0) (o := 0) (b := n + 1 + 1) (cs := [.int .i64 0, .sl none 0]) (r := [.int .i64 r.at_]) (by omega) g2 (.inl ⟨_, rfl, rfl, rfl⟩) rfl (by simp)]
  rw [show setAt [.int .i64 0, .sl none 0] 0 [.int .i64 r.at_] = [.int .i64 r.at_, .sl none 0] from rfl]
  have k0 : (G.put (n + 1 + 1) (.rw 0 [.int .i64 r.at_, .sl none 0])).g n = .rw 0 [.int .i64 r.at_, .fs (bys r.l)] := by rw [put_g' (by omega)]; exact g0
  have k1 : (G.put (n + 1 + 1) (.rw 0 [.int .i64 r.at_, .sl none 0])).g (n + 1) = .rw 0 [.int .i64 0, .sl none 0] := by rw [put_g' (by omega)]; exact g1
  have k2 : (G.put (n + 1 + 1) (.rw 0 [.int .i64 r.at_, .sl none 0])).g (n + 2) = .rw 0 [.int .i64 r.at_, .sl none 0] := put_g _ _ _
  have kn : (G.put (n + 1 + 1) (.rw 0 [.int .i64 r.at_, .sl none 0])).n = n + 3 := by rw [put_n, gn]
  generalize G.put (n + 1 + 1) (.rw 0 [.int .i64 r.at_, .sl none 0]) = K at k0 k1 k2 kn ⊢
  rw [ld (by omega) k0]
  simp only [gx0, gx1, ob]
  rw [show frzVs K [.s (.fs (bys r.l))] = some [lv (bys r.l)] from frzVs_cons frzV_lv frzVs_nil, ob, norm_nil]
  obtain ⟨v, h1, e1, w1⟩ := f_toByteS hl K.n
  rw [pF (h := K) e1 w1.nofz]
  have hle := w1.le
  have u : Up K (K.over h1) := up_over (by omega)
  have un : (K.over h1).n = K.n + 1 := by rw [over_n (by omega), hle]
  have wo : BysW (K.over h1) v r.l K.n := ⟨w1.own.v, by omega, by rw [over_ge (by omega)]; exact w1.own.g⟩
  have hv := w1.own.v
  subst hv
  have u1 := (u.g (n + 1) (by omega)).trans k1
  have u2 := (u.g (n + 2) (by omega)).trans k2
  generalize K.over h1 = M at u un wo u1 u2 ⊢
  rw [stK_rw (z := 1) (e := 0) (o := 1) (b := n + 1 + 1) (cs := [.int .i64 r.at_, .sl none 0]) (r := [.sl (some (K.n, 0)) r.l.length]) (by omega) u2 (.inl ⟨_, rfl, rfl, rfl⟩) rfl (by simp)]
  rw [show setAt [.int .i64 r.at_, .sl none 0] 1 [S.sl (some (K.n, 0)) r.l.length] = [.int .i64 r.at_, .sl (some (K.n, 0)) r.l.length] from rfl]
  rw [loadN_2 (b := n + 1 + 1) (e := 0) (by rw [put_n]; omega) (put_g _ _ _)]
  simp only [gx0, gx1, ob, gI_i, ln0, ln1, Nat.zero_add, Nat.reduceAdd, if_true]
  rw [stK_rw (z := 2) (e := 0) (o := 0) (b := n + 1) (cs := [.int .i64 0, .sl none 0]) (r := [.int .i64 r.at_, .sl (some (K.n, 0)) r.l.length]) (by rw [put_n]; omega) (by rw [put_g' (by omega)]; exact u1) (.inr rfl) rfl (by simp)]
  rw [show setAt [.int .i64 0, .sl none 0] 0 [.int .i64 r.at_, S.sl (some (K.n, 0)) r.l.length] = [.int .i64 r.at_, .sl (some (K.n, 0)) r.l.length] from rfl]
  rw [loadN_2 (b := n + 1) (e := 0) (by rw [put_n, put_n]; omega) (put_g _ _ _), ob]
  refine ⟨_, _, [K.n], rfl, Own.rep (d := 0) (ob := some K.n) ⟨rfl, by rw [put_n, put_n]; omega, ?_⟩, by simp, ?_, ?_, ?_⟩
  · rw [put_g' (by omega), put_g' (by omega)]; exact wo.g
  · intro b hb
    rw [List.mem_singleton.1 hb, put_n, put_n]
    omega
  · rw [put_n, put_n]; omega
  · simp [belS]; omega
theorem runs_map (rs : List RunD) : runs rs = rs.map RunD.cs := rfl
/-- runs that are marked -/
theorem Rep.markRs {h : H} {d : Nat} {y : S} {rs : List RunD} {bs : List Nat} {k : Nat} (w : Rep h (d + 2) y (.fs (runs rs)) bs) (hd : bs.Nodup) (hk : k + rsz rs < 2 ^ 62) :
    ∃ h', call Ev Fn.laws_markRunS [.s y, iv .i64 k] h = some (iv .i64 ((k + rsz rs : Nat) : Int), h') ∧ Rep h' (d + 2) y (.fs (runs (mkRs k rs))) bs ∧ h'.n = h.n ∧ ∀ c, c ∉ bs → h'.g c = h.g c ∧ h'.v c = h.v c := by
  have hrl := rsz_len rs
  obtain ⟨h', e1, r1, n1, o1⟩ := Rep.marks (z := 2) (cs := RunD.cs) (mk := mkR) (sz := szR) (k := k) (Lv := fun v k i h => Lp.laws_markRunS 0 [v, iv .i64 k, iv .i64 i] h) (fin := fun k => [iv .i64 k]) (by omega) (fun _ => rfl) w hd hk
    (fun b i k r h pre ys post bs hi hp hy hk hb hg wr hnd hnb => by
      show ∃ h' ys', Lp.laws_markRunS 0 _ h = _ ∧ _
      rw [eq_laws_markRunS_l0]
      simp only [lenV, Option.bind_some, gV1_s, gI_i, vcase_b]
      rw [if_pos (by simp; omega), idxK_sv hi]
      simp only [padd, ob, Nat.add_zero]
      have wr' : RepL (Rep h (d + 1)) ys ([.int .i64 r.at_] ++ [.fs (bys r.l)]) bs := wr
      obtain ⟨y1, y2, b1, b2, rfl, rfl, w1, w2⟩ := wr'.split
      obtain ⟨rfl, rfl⟩ := w1.of_sc (by intro s hs; rw [List.mem_singleton.1 hs]; trivial)
      cases w2 with
      | @cons y f bs' ys fs bss h1 h2 =>
        cases h2
        rw [List.append_nil, List.nil_append] at hnd hnb
        rw [stK_rw (z := 1) (e := 2) (o := i * 2) (b := b) (cs := pre ++ ([.int .i64 r.at_] ++ [y]) ++ post) (r := [.int .i64 k]) hb hg (.inl ⟨_, rfl, rfl, rfl⟩) rfl (by simp; omega)]
        have hset : setAt (pre ++ ([.int .i64 r.at_] ++ [y]) ++ post) (i * 2) [.int .i64 k] = pre ++ ([.int .i64 k] ++ [y]) ++ post := by
          rw [List.append_assoc, setAt_at hp (z := 1) rfl]; simp
        rw [hset, idxK_sv hi]
        simp only [padd, ob]
        have ld : load1 (h.put b (.rw 2 (pre ++ ([.int .i64 k] ++ [y]) ++ post))) (pv b (i * 2 + 1)) = some y := by
          simp only [load1, H.cells, put_n, hb, if_true, put_g, Blk.cells]
          rw [List.getElem?_append_left (by simp; omega), List.getElem?_append_right (by omega), hp]
          simp
        simp only [ldK, ldT, cond_false, ld, ob]
        have h1' : Rep (h.put b (.rw 2 (pre ++ ([.int .i64 k] ++ [y]) ++ post))) (d + 1) y (.fs (bys r.l)) bs' := h1.frame fun c hc => ⟨h1.lt c hc, put_g' (fun hh => hnb (hh ▸ hc))⟩
        have hszr : szR r = 1 + r.l.length := rfl
        obtain ⟨h2, e2, r2, n2, o2⟩ := h1'.mark (k := k + 1) (by omega)
        rw [w64 (n := (k : Int) + 1) (by omega) (by omega), show (k : Int) + 1 = ((k + 1 : Nat) : Int) from by omega, e2, ob]
        simp only [gV1_s, gI_i]
        have t1 : tidy (h.put b (.rw 2 (pre ++ ([.int .i64 k] ++ [y]) ++ post))) [iv .i64 ((k + 1 + r.l.length : Nat) : Int)] h2 = h2 := tidy_same n2 fun c hc => o2 c fun hh => by have := h1.lt c hh; rw [put_n] at hc; omega
        rw [t1]
        have t2 : ∀ l, tidy h l h2 = h2 := fun l => tidy_same (n2.trans (put_n _ _ _)) fun c hc => by
          have hc1 : c ∉ bs' := fun hh => by have := h1.lt c hh; omega
          have := o2 c hc1
          have hcb : c ≠ b := by omega
          refine ⟨this.1.trans (put_g' hcb), this.2.trans ?_⟩
          simp only [H.put, if_neg hcb]
        rw [t2, w64 (n := (i : Int) + 1) (by omega) (by omega), show (i : Int) + 1 = ((i + 1 : Nat) : Int) from by omega]
        refine ⟨h2, [.int .i64 k, y], ?_, n2.trans (put_n _ _ _), rfl, ?_, ?_, fun c hc hcb => ?_⟩
        · rw [show k + szR r = k + 1 + r.l.length from by omega]
        · have := (o2 b hnb).1
          rw [this, put_g]; simp
        · have : RepL (Rep h2 (d + 1)) ([.int .i64 k] ++ [y]) ([.int .i64 k] ++ [.fs (bys (Vm.marks (k + 1) r.l.length))]) ([] ++ (bs' ++ [])) := RepL.append (RepL.sc (by intro s hs; rw [List.mem_singleton.1 hs]; trivial)) (.cons r2 .nil)
          exact this
        · have hcb' : c ∉ bs' := fun hh => hcb (by simp [hh])
          have := o2 c hcb'
          refine ⟨this.1.trans (put_g' hc), this.2.trans ?_⟩
          simp only [H.put, if_neg hc])
    (fun o k h => by
      show Lp.laws_markRunS 0 _ h = _
      rw [eq_laws_markRunS_l0]
      simp only [lenV, Option.bind_some, gV1_s, gI_i, vcase_b]
      rw [if_neg (by simp), tidy_self])
  refine ⟨h', ?_, r1, n1, o1⟩
  rw [eq_laws_markRunS, show iv .i64 0 = iv .i64 ((0 : Nat) : Int) from rfl, e1, ob, lcase_done]
  simp only [gx0, ob, gV1_s, gI_i]
  rfl
end Vm
