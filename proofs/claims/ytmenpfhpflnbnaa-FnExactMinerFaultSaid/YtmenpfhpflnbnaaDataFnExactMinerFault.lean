/-
  What both ways of the law come to, and that the law returns true.
-/
import Derived.Sort.LotD6
import Derived.Sort.LotD7
import Derived.Sort.LotB
import Derived.Sort.LotD3
import Derived.Sort.LotD5
import Derived.Sort.LotD4
import Derived.Sort.LotA
import Derived.Sort.LotC
import Derived.Test.YtmenpfhpflnbnaaTyp
import Derived.Test.YtmenpfhpflnbnaaEqs
import Derived.Test.YtmenpfhpflnbnaaDl
import Derived.Test.YtmenpfhpflnbnaaDataFnExactMinerFault1
set_option linter.unusedVariables false
set_option maxRecDepth 100000
set_option linter.unusedSimpArgs false
set_option linter.unusedSectionVars false
set_option maxHeartbeats 1000000
/-
  The loops that look for the rows that are seen.
-/
namespace Vm
open Go Go.Sort
theorem rowsO_app (a b : List SpotD) : rowsO (a ++ b) = rowsO a ++ rowsO b := by simp [rowsO]
theorem stubsO_app (a b : List SpotD) : stubsO (a ++ b) = stubsO a ++ stubsO b := by simp [stubsO]
theorem movsO_app (a b : List SpotD) : movsO (a ++ b) = movsO a ++ movsO b := by simp [movsO]
theorem rowsO_y {x : SpotD} {a : List SpotD} (h : x.c.flag = 0) : rowsO (x :: a) = mkRow x :: rowsO a := by simp [rowsO, h]
theorem rowsO_n {x : SpotD} {a : List SpotD} (h : x.c.flag ≠ 0) : rowsO (x :: a) = rowsO a := by simp [rowsO, List.filter_cons, h]
theorem stubsO_y {x : SpotD} {a : List SpotD} (h : x.c.flag = 1) : stubsO (x :: a) = mkStub x :: stubsO a := by simp [stubsO, h]
theorem stubsO_n {x : SpotD} {a : List SpotD} (h : x.c.flag ≠ 1) : stubsO (x :: a) = stubsO a := by simp [stubsO, List.filter_cons, h]
theorem movsO_y {x : SpotD} {a : List SpotD} (h : x.c.flag = 2) : movsO (x :: a) = x :: movsO a := by simp [movsO, h]
theorem movsO_n {x : SpotD} {a : List SpotD} (h : x.c.flag ≠ 2) : movsO (x :: a) = movsO a := by simp [movsO, List.filter_cons, h]
theorem Ls.bel {h : H} {y : S} {l : List SeenD} {o : Option Nat} (w : Ls h y l o) : belS h.n y = true := by
  cases o with
  | none => obtain ⟨rfl, rfl⟩ := w; rfl
  | some b => obtain ⟨rfl, h2, _⟩ := w; simpa [belS] using h2
/-- two slices of rows and a map of one's own -/
structure StV (n0 : Nat) (h : H) (y1 y2 : S) (b : Nat) (l1 l2 : List SeenD) (ms : List SpotD) (o1 o2 : Option Nat) : Prop where
  w1 : Ls h y1 l1 o1
  w2 : Ls h y2 l2 o2
  hb : b < h.n
  hg : h.g b = .mp (mvE ms)
  n1 : o1 ≠ some b
  n2 : o2 ≠ some b
  n12 : ∀ c, o1 = some c → o2 ≠ some c
  g1 : ∀ c, o1 = some c → n0 ≤ c
  g2 : ∀ c, o2 = some c → n0 ≤ c
  le : n0 ≤ h.n
theorem StV.frame {n0 : Nat} {h h' : H} {y1 y2 : S} {b : Nat} {l1 l2 : List SeenD} {ms : List SpotD} {o1 o2 : Option Nat} (w : StV n0 h y1 y2 b l1 l2 ms o1 o2) (hn : h.n ≤ h'.n) (hf : ∀ c, c < h.n → h'.g c = h.g c) : StV n0 h' y1 y2 b l1 l2 ms o1 o2 :=
  ⟨w.w1.frame fun c hc => by
      have := w.w1; subst hc; have := this.lt; exact ⟨by omega, hf c this⟩,
   w.w2.frame fun c hc => by
      have := w.w2; subst hc; have := this.lt; exact ⟨by omega, hf c this⟩,
   Nat.lt_of_lt_of_le w.hb hn, (hf b w.hb).trans w.hg, w.n1, w.n2, w.n12, w.g1, w.g2, Nat.le_trans w.le hn⟩
theorem StV.kb {n0 : Nat} {h h' : H} {y1 y2 : S} {b : Nat} {l1 l2 : List SeenD} {ms ms' : List SpotD} {o1 o2 : Option Nat} (w : StV n0 h y1 y2 b l1 l2 ms o1 o2) (k : Kb b h h') (hg : h'.g b = .mp (mvE ms')) : StV n0 h' y1 y2 b l1 l2 ms' o1 o2 :=
  ⟨w.w1.frame fun c hc => by
      have := w.w1; have hne := w.n1; subst hc; have := this.lt
      exact ⟨by rw [k.n]; omega, (k.o c this (fun e => hne (by rw [e]))).1⟩,
   w.w2.frame fun c hc => by
      have := w.w2; have hne := w.n2; subst hc; have := this.lt
      exact ⟨by rw [k.n]; omega, (k.o c this (fun e => hne (by rw [e]))).1⟩,
   by rw [k.n]; exact w.hb, hg, w.n1, w.n2, w.n12, w.g1, w.g2, by rw [k.n]; exact w.le⟩
theorem StV.app1 {n0 : Nat} {h h' : H} {y1 y2 : S} {b e : Nat} {l1 l2 l1' : List SeenD} {ms : List SpotD} {o1 o2 : Option Nat} (w : StV n0 h y1 y2 b l1 l2 ms o1 o2) {y1' : S} (w' : Ls h' y1' l1' (some e)) (he : h.n ≤ e) (hn : h.n ≤ h'.n) (hf : ∀ c, c < h.n → o1 ≠ some c → h'.g c = h.g c) : StV n0 h' y1' y2 b l1' l2 ms (some e) o2 :=
  ⟨w', w.w2.frame fun c hc => by
      have := w.w2; have hne := w.n12 c; subst hc; have := this.lt
      exact ⟨by omega, hf c this (fun e => hne e rfl)⟩,
   Nat.lt_of_lt_of_le w.hb hn, (hf b w.hb w.n1).trans w.hg, fun e' => by cases e'; have := w.hb; omega, w.n2, fun c hc hc2 => by
      have := w.w2; subst hc2; have := this.lt; cases hc; omega, fun c hc => by cases hc; have := w.le; omega, w.g2, Nat.le_trans w.le hn⟩
theorem StV.app2 {n0 : Nat} {h h' : H} {y1 y2 : S} {b e : Nat} {l1 l2 l2' : List SeenD} {ms : List SpotD} {o1 o2 : Option Nat} (w : StV n0 h y1 y2 b l1 l2 ms o1 o2) {y2' : S} (w' : Ls h' y2' l2' (some e)) (he : h.n ≤ e) (hn : h.n ≤ h'.n) (hf : ∀ c, c < h.n → o2 ≠ some c → h'.g c = h.g c) : StV n0 h' y1 y2' b l1 l2' ms o1 (some e) :=
  ⟨w.w1.frame fun c hc => by
      have := w.w1; have hne := w.n12 c hc; subst hc; have := this.lt
      exact ⟨by omega, hf c this (fun e => hne e)⟩,
   w', Nat.lt_of_lt_of_le w.hb hn, (hf b w.hb w.n2).trans w.hg, w.n1, fun e' => by cases e'; have := w.hb; omega, fun c hc hc2 => by
      have := w.w1; subst hc; have := this.lt; cases hc2; omega, w.g1, fun c hc => by cases hc; have := w.le; omega, Nat.le_trans w.le hn⟩
theorem mvF_new {ms : List SpotD} {p s : Nat} (h : ∀ x ∈ ms, x.p < p ∨ (x.p = p ∧ x.s < s)) : mvF ms p s = none := by
  unfold mvF
  rw [Option.map_eq_none_iff, List.find?_eq_none]
  intro x hx
  have := h x hx
  simp; omega
theorem putX_lt {h : H} {zs cs : List S} {c : Nat} (hc : c < h.n) : (putX h zs cs).g c = h.g c := ((putX_keep h zs cs).2 c hc).1
abbrev z8 : List S := [.int .i64 0, .int .i64 0, .int .i64 0, .int .i64 0, .int .i64 0, .int .i64 0, .int .i64 0, .str (⟨#[]⟩)]
theorem lp_look2 {P : List (List S)} {m : Int} {l : List UInt8} {p b n0 : Nat} (hp : pagF l = 0) (hc : ∀ s : Nat, hasB l s = true → (unpC (cellB l s)).code = 0) :
    ∀ (k s : Nat) (h : H) (y1 y2 : S) (l1 l2 : List SeenD) (ms : List SpotD) (o1 o2 : Option Nat), s + k = cnt l → StV n0 h y1 y2 b l1 l2 ms o1 o2 → l1.length + k ≤ 1000 → l2.length + k ≤ 1000 → (∀ x ∈ ms, x.p < p ∨ (x.p = p ∧ x.s < s)) →
    ∃ h' y1' y2' o1' o2', Lp.impl_look 2 [.s y1, .s y2, .s (.mp (some b)), iv .i64 p, lv (bys l), lv P, iv .i64 m, iv .i64 p, iv .i64 (bt l 0), iv .i64 s] h = some (.done [.s y1', .s y2', .s (.mp (some b)), lv P, iv .i64 m, iv .i64 p] h') ∧
      StV n0 h' y1' y2' b (l1 ++ rowsO (spotsP p l s k)) (l2 ++ stubsO (spotsP p l s k)) (ms ++ movsO (spotsP p l s k)) o1' o2' := by
  obtain ⟨h64, ⟨q1, q2, q3⟩, _⟩ := pagF_ok hp
  have hcn := cnt_eq l
  intro k
  induction k with
  | zero =>
    intro s h y1 y2 l1 l2 ms o1 o2 hs w _ _ _
    rw [eq_impl_look_l2, vcase_b, if_neg (by simp; omega), tidy_self]
    exact ⟨h, y1, y2, o1, o2, rfl, by simpa [spotsP, rowsO, stubsO, movsO] using w⟩
  | succ k ih =>
    intro s h y1 y2 l1 l2 ms o1 o2 hs w hl1 hl2 hm
    rw [eq_impl_look_l2, vcase_b, if_pos (by simp; omega), pc (p_hasSlot hp) rfl]
    simp only [gV1_s, gB_b, vcase_b]
    rw [w64 (n := (s : Int) + 1) (by omega) (by omega), show (s : Int) + 1 = ((s + 1 : Nat) : Int) from by omega]
    by_cases hh : hasB l (s : Int) = true
    case neg =>
      have hf : hasB l (s : Int) = false := by simpa using hh
      rw [hf, if_pos (by simp), tidy_self]
      have e : spotsP p l s (k + 1) = spotsP p l (s + 1) k := by simp only [spotsP]; rw [if_neg hh]
      rw [e]
      exact ih (s + 1) h y1 y2 l1 l2 ms o1 o2 (by omega) w (by omega) (by omega) (fun x hx => by have := hm x hx; omega)
    rw [hh, if_neg (by simp), p_cellAt hp (by omega)]
    have hcl : (cellB l s).length ≤ lim := by have := cellB_len l s; unfold lim; omega
    simp only [ob, gV1_s, gF_f]
    rw [pc (p_UnpackCell hcl) (by simp)]
    have e : spotsP p l s (k + 1) = ⟨p, s, unpC (cellB l s)⟩ :: spotsP p l (s + 1) k := by simp only [spotsP]; rw [if_pos hh]
    rw [e]
    have h0 := hc s hh
    have hfl := unpC_flag _ h0
    generalize unpC (cellB l s) = c at h0 hfl
    simp only [gVA_a, gx0, gx1, ob, gI_i, gS_s, ln0, ln1, Nat.zero_add, Nat.reduceAdd, if_true]
    rw [stK_X (z := 8) rfl rfl, load1_X (o := 0) (x := .int .i64 c.code) rfl]
    simp only [ob, gI_i, vcase_b]
    rw [if_neg (by simp [h0]), load1_X (o := 1) (x := .int .i64 c.flag) rfl]
    simp only [ob, gI_i, vcase_b]
    have hkx := putX_keep h z8 c.cs
    have wX := w.frame (h' := putX h z8 c.cs) hkx.1 (fun c hc => putX_lt hc)
    by_cases f0 : c.flag = 0
    · rw [if_pos (by simpa using f0), loadN_X (r := c.row.cs) (by simp) rfl]
      simp only [gx0, gx1, ob, gI_i, gS_s, ln0, ln1, Nat.zero_add, Nat.reduceAdd, if_true]
      obtain ⟨h', e1, w1, n1, f1⟩ := wX.w1.app (x := mkRow ⟨p, s, c⟩) (by unfold lim; omega)
      have e1' : appS 9 ((putX h z8 c.cs).new 9 [.int .i64 c.row.tab, .int .i64 c.row.key, .int .i64 c.row.val, .str c.row.text, .int .i64 p, .int .i64 s, .bool false, .int .i64 p, .int .i64 s]) (.s y1) (sv (putX h z8 c.cs).n 0 1) = _ := e1
      rw [e1', ob]
      dsimp only
      rw [tidy_new (by simp [belV, belS, putX_n]; omega)]
      have ws := wX.app1 w1 (by omega) (by omega) f1
      obtain ⟨h2, a1, a2, a3, a4, e2, w2⟩ := ih (s + 1) h' _ y2 _ l2 ms _ o2 (by omega) ws (by simp; omega) (by omega) (fun x hx => by have := hm x hx; omega)
      refine ⟨h2, a1, a2, a3, a4, e2, ?_⟩
      rw [rowsO_y f0, stubsO_n (by rw [f0]; decide), movsO_n (by rw [f0]; decide)]
      simpa using w2
    rw [if_neg (by simpa using f0)]
    by_cases f2 : c.flag = 2
    · rw [if_pos (by simpa using f2), loadN_X (r := c.row.cs) (by simp) rfl]
      simp only [gx0, gx1, ob, gI_i, gS_s, ln0, ln1, Nat.zero_add, Nat.reduceAdd, if_true]
      have hu := upd_mv (h := putX h z8 c.cs) (x := ⟨p, s, c⟩) wX.hb wX.hg (mvF_new hm)
      have hu' : updM Ev 178 (putX h z8 c.cs) (.s (.mp (some b))) (.agg [.int .i64 p, .int .i64 s]) (.agg [.int .i64 c.row.tab, .int .i64 c.row.key, .int .i64 c.row.val, .str c.row.text]) = _ := hu
      rw [hu', ob]
      have tm := fun lst hl => tidy_mp (h := h) (h' := (putX h z8 c.cs).put b (.mp (mvE (ms ++ [⟨p, s, c⟩])))) (l := lst) (by rw [put_n, putX_n]; omega) hl w.hb (put_g _ _ _) (fun c' hc' hcb => by
        have h1 := hkx.2 c' hc'
        refine ⟨by rw [put_g' hcb]; exact h1.1, ?_⟩
        simp only [H.put, if_neg hcb]; exact h1.2)
      obtain ⟨t1, t2⟩ := tm [.s y1, .s y2, .s (.mp (some b)), iv .i64 p, lv (bys l), lv P, iv .i64 m, iv .i64 p, iv .i64 (bt l 0), iv .i64 ((s + 1 : Nat) : Int)] (by
        have b3 := w.hb
        rw [List.all_cons, List.all_cons, show belV h.n (.s y1) = true from w.w1.bel, show belV h.n (.s y2) = true from w.w2.bel]
        simp [belV, belS, b3])
      obtain ⟨h2, a1, a2, a3, a4, e2, w2⟩ := ih (s + 1) _ y1 y2 l1 l2 (ms ++ [⟨p, s, c⟩]) o1 o2 (by omega) (w.kb t1 t2) (by omega) (by omega) (fun x hx => by
        rcases List.mem_append.1 hx with hx | hx
        · have := hm x hx; omega
        · rw [List.mem_singleton.1 hx]; exact .inr ⟨rfl, by simp⟩)
      refine ⟨h2, a1, a2, a3, a4, e2, ?_⟩
      rw [rowsO_n (by rw [f2]; decide), stubsO_n (by rw [f2]; decide), movsO_y f2]
      simpa using w2
    have f1 : c.flag = 1 := by omega
    rw [if_neg (by simpa using f2), load1_X (o := 2) (x := .int .i64 c.page) rfl]
    simp only [ob, gI_i]
    rw [load1_X (o := 3) (x := .int .i64 c.slot) rfl]
    simp only [ob, gI_i]
    obtain ⟨h', e1, w1, n1, f1'⟩ := wX.w2.app (x := mkStub ⟨p, s, c⟩) (by unfold lim; omega)
    have e1' : appS 9 ((putX h z8 c.cs).new 9 [.int .i64 0, .int .i64 0, .int .i64 0, .str (⟨#[]⟩), .int .i64 p, .int .i64 s, .bool true, .int .i64 c.page, .int .i64 c.slot]) (.s y2) (sv (putX h z8 c.cs).n 0 1) = _ := e1
    rw [e1', ob]
    dsimp only
    rw [tidy_new (by simp [belV, belS, putX_n]; omega)]
    have ws := wX.app2 w1 (by omega) (by omega) f1'
    obtain ⟨h2, a1, a2, a3, a4, e2, w2⟩ := ih (s + 1) h' y1 _ l1 _ ms o1 _ (by omega) ws (by omega) (by simp; omega) (fun x hx => by have := hm x hx; omega)
    refine ⟨h2, a1, a2, a3, a4, e2, ?_⟩
    rw [rowsO_n (by rw [f1]; decide), stubsO_y f1, movsO_n (by rw [f1]; decide)]
    simpa using w2
theorem spotsP_len (p : Nat) (l : List UInt8) : ∀ (k s : Nat), (spotsP p l s k).length ≤ k
  | 0, s => by simp [spotsP]
  | k + 1, s => by
    have := spotsP_len p l k (s + 1)
    simp only [spotsP]
    split
    · simp; omega
    · omega
theorem rowsO_len (sp : List SpotD) : (rowsO sp).length ≤ sp.length := by
  unfold rowsO; rw [List.length_map]; exact List.length_filter_le _ _
theorem stubsO_len (sp : List SpotD) : (stubsO sp).length ≤ sp.length := by
  unfold stubsO; rw [List.length_map]; exact List.length_filter_le _ _
end Vm
/-
  Bytes that came in.
-/
namespace Vm
open Go

theorem rows8 {P : Program} {m : Nat} {e : TypeId} (he : P.underlying e = some (.int .u8)) : ∀ rows : List (List S), (∀ r ∈ rows, r.length = P.cellsOf e ∧ Rp P m e r) → ∃ l : List UInt8, rows = bys l
  | [], _ => ⟨[], rfl⟩
  | r :: rows, hr => by
    obtain ⟨l, h1⟩ := rows8 he rows fun r hm => hr r (by simp [hm])
    obtain ⟨n, h3, h4⟩ := (hr r (by simp)).2.int he
    have hb := wf8 h4
    refine ⟨UInt8.ofNat n.toNat :: l, ?_⟩
    have : cell8 (UInt8.ofNat n.toNat) = .int .u8 n := by
      unfold cell8
      congr 1
      simp
      omega
    rw [h1, h3]
    simp only [bys, List.map_cons, this]
end Vm
/-
  Runs: their fault, their size, a comparison.
-/
namespace Vm
open Go

structure RunD where
  at_ : Int
  l : List UInt8
abbrev RunD.cs (r : RunD) : List S := [.int .i64 r.at_, .fs (bys r.l)]
def runs (rs : List RunD) : List (List S) := rs.map RunD.cs
@[simp] theorem runs_len (rs : List RunD) : (runs rs).length = rs.length := by simp [runs]
section
variable {R : Type}
end
structure RunD.ok (r : RunD) : Prop where
  a1 : -9223372036854775808 ≤ r.at_
  a2 : r.at_ < 9223372036854775808
  n : r.l.length ≤ maxLen
/-! size -/
/-- what is left of a number of cells, or -1 -/
def szL (n : Int) (left : Int) : Int := if n ≤ left then left - n else -1
theorem p_szByteS {l : List UInt8} {left : Int} (h1 : 0 ≤ left) (h2 : left < 9223372036854775808) (hl : l.length ≤ maxLen) : pureV (call Ev) Fn.laws_szByteS [lv (bys l), iv .i64 left] = some (iv .i64 (szL l.length left)) := by
  unfold maxLen at hl
  rw [pu_laws_szByteS, vcase_b, bys_len, w64 (by omega) (by omega)]
  unfold szL
  simp only [decide_eq_true_eq]
  split <;> split <;> first | rfl | omega
/-! a comparison -/
/-! the fault -/
end Vm
/-
  What is one's own in a stretch of blocks: kept when other blocks change.
-/
namespace Vm
open Go
/-- a fact on the blocks from lo to hi alone -/
structure Sep (Q : H → Prop) (lo hi : Nat) (h : H) : Prop where
  top : hi ≤ h.n
  q : ∀ h' : H, hi ≤ h'.n → (∀ b, lo ≤ b → b < hi → h'.g b = h.g b) → Q h'
/-- all but the blocks from lo to hi as it was -/
structure ButR (lo hi : Nat) (h h' : H) : Prop where
  n : h'.n = h.n
  g : ∀ c, (c < lo ∨ hi ≤ c) → h'.g c = h.g c
section
variable {Q : H → Prop} {lo hi : Nat} {h h' : H}
theorem Sep.now (w : Sep Q lo hi h) : Q h := w.q h w.top fun _ _ _ => rfl
theorem Sep.up (w : Sep Q lo hi h) (u : Up h h') : Sep Q lo hi h' := ⟨Nat.le_trans w.top u.n, fun h2 hn hg => w.q h2 hn fun b h1 h3 => (hg b h1 h3).trans (u.g b (by have := w.top; omega))⟩
theorem Sep.but {a b : Nat} (w : Sep Q lo hi h) (u : ButR a b h h') (hd : hi ≤ a ∨ b ≤ lo) : Sep Q lo hi h' := ⟨by rw [u.n]; exact w.top, fun h2 hn hg => w.q h2 hn fun c h1 h3 => (hg c h1 h3).trans (u.g c (by omega))⟩
theorem Sep.over {h1 : H} {hi : Nat} {n : Nat} (hn : n = h.n) (hl : h.n ≤ h1.n) (w : Sep Q n hi h1) : Sep Q n hi (h.over h1) := by
  subst hn
  exact ⟨by rw [over_n hl]; exact w.top, fun h2 hn hg => w.q h2 hn fun b h1 h3 => (hg b h1 h3).trans (over_ge h1)⟩
theorem Sep.mono {lo' hi' : Nat} (w : Sep Q lo hi h) (h1 : lo' ≤ lo) (h2 : hi ≤ hi') (h3 : hi' ≤ h.n) : Sep Q lo' hi' h := ⟨h3, fun h' hn hg => w.q h' (by omega) fun b a b' => hg b (by omega) (by omega)⟩
end
/-- what stands in one block -/
def At (b : Nat) (x : Blk) (h : H) : Prop := b < h.n ∧ h.g b = x
theorem Sep.at {h : H} {b : Nat} {x : Blk} (hb : b < h.n) (hg : h.g b = x) : Sep (At b x) b (b + 1) h := ⟨hb, fun h' hn hg' => ⟨by omega, by rw [hg' b (Nat.le_refl _) (by omega), hg]⟩⟩
/-- bytes in a stretch of blocks -/
def OwnB (v : V) (l : List UInt8) (lo hi : Nat) (h : H) : Prop := ∃ ob, Own h v l ob ∧ ∀ b, ob = some b → lo ≤ b ∧ b < hi
theorem OwnB.sep {v : V} {l : List UInt8} {lo hi : Nat} {h : H} (w : OwnB v l lo hi h) (hn : hi ≤ h.n) : Sep (OwnB v l lo hi) lo hi h := ⟨hn, fun h' hn' hg => by
  obtain ⟨ob, h1, h2⟩ := w
  refine ⟨ob, ?_, h2⟩
  cases ob with
  | none => exact h1
  | some b =>
    have := h2 b rfl
    exact ⟨h1.v, by omega, by rw [hg b this.1 this.2]; exact h1.g⟩⟩
theorem OwnB.frz {v : V} {l : List UInt8} {lo hi : Nat} {h : H} (w : OwnB v l lo hi h) : frzV h v = some (lv (bys l)) := by
  obtain ⟨ob, h1, _⟩ := w
  exact frz1 h1
/-- the answer of a call on a dead heap -/
structure NewS (Q : Nat → Nat → H → Prop) (v : V) (n : Nat) (h : H) : Prop where
  le : n ≤ h.n
  q : Sep (Q n h.n) n h.n h
  z : NoFz n (v, h)
theorem NewA.s {n : Nat} {h : H} {v : V} {l : List UInt8} (w : NewA n h v l) : NewS (OwnB v l) v n h := by
  have := w.le
  exact ⟨by omega, OwnB.sep ⟨some n, w.own, fun b hb => by cases hb; omega⟩ (Nat.le_refl _), w.nofz⟩
theorem NewB.s {n : Nat} {h : H} {v : V} {l : List UInt8} {o : Option Nat} (w : NewB n h v l o) : Sep (OwnB v l n h.n) n h.n h := by
  refine OwnB.sep ⟨o, w.own, fun b hb => ⟨w.new b hb, ?_⟩⟩ (Nat.le_refl _)
  subst hb
  exact w.own.n
/-- from one block's change to a stretch's -/
theorem But.r {h h' : H} {ob : Option Nat} {lo hi : Nat} (u : But ob h h') (h2 : ∀ b, ob = some b → lo ≤ b ∧ b < hi) : ButR lo hi h h' := ⟨u.n, fun c hc => u.g c (fun hh => by have := h2 c hh; omega)⟩

/-! results of a code and bytes, and of a code, a number and bytes -/
theorem NewB.s2 {n : Nat} {h : H} {y : S} {l : List UInt8} {o : Option Nat} {c : Int} (w : NewB n h (.s y) l o) : NewS (OwnB (.s y) l) (.agg [.int .i64 c, y]) n h :=
  ⟨w.le, w.s, ⟨by simp [w.own.sca], w.z⟩⟩
theorem OwnB.frz2 {y : S} {l : List UInt8} {lo hi : Nat} {h : H} {c : Int} (w : OwnB (.s y) l lo hi h) : frzV h (.agg [.int .i64 c, y]) = some (.agg [.int .i64 c, .fs (bys l)]) := by
  obtain ⟨ob, h1, _⟩ := w
  exact Vm.frz2 h1
/-- the same answer, frozen -/
theorem NewS.p {Q : Nat → Nat → H → Prop} {f : Nat} {xs : List V} {h : H} {v w : V} (hc : call Ev f xs (D 0) = some (v, h)) (hq : NewS Q v 0 h) (hf : Q 0 h.n h → frzV h v = some w) : pureV (call Ev) f xs = some w := by
  unfold pureV
  rw [hc, Vm.ob, hf hq.q.now]
end Vm
/-
  Live values of any depth: what they are once frozen, and which blocks they lie in.
-/
namespace Vm
open Go
/-- a cell that leads nowhere, and is not frozen -/
def Sc : S → Prop
  | .int _ _ => True
  | .bool _ => True
  | .str _ => True
  | _ => False
theorem Sc.cl {s : S} (h : Sc s) : Cl s := by cases s <;> first | exact h.elim | exact cl_i | exact cl_b | exact cl_s
theorem Sc.sca {s : S} (h : Sc s) : scaS s = true := by cases s <;> first | exact h.elim | rfl
theorem Sc.no {s : S} (h : Sc s) : isNo s = false := by cases s <;> first | exact h.elim | rfl
inductive RepL (R : S → S → List Nat → Prop) : List S → List S → List Nat → Prop
  | nil : RepL R [] [] []
  | cons {y f : S} {bs : List Nat} {ys fs : List S} {bss : List Nat} : R y f bs → RepL R ys fs bss → RepL R (y :: ys) (f :: fs) (bs ++ bss)
def Rep (h : H) : Nat → S → S → List Nat → Prop
  | 0 => fun y f bs => (Sc y ∧ f = y ∨ y = .sl none 0 ∧ f = .fs []) ∧ bs = []
  | d + 1 => fun y f bs => ((Sc y ∧ f = y ∨ y = .sl none 0 ∧ f = .fs []) ∧ bs = []) ∨ ∃ b z cs rows bss, y = .sl (some (b, 0)) rows.length ∧ f = .fs rows ∧ bs = b :: bss ∧ b < h.n ∧ 0 < z ∧ h.g b = .rw z cs ∧ (∀ r ∈ rows, r.length = z) ∧ RepL (Rep h d) cs rows.flatten bss
section
variable {R R' : S → S → List Nat → Prop}
theorem RepL.mono {cs fs : List S} {bss : List Nat} (w : RepL R cs fs bss) (hr : ∀ y f bs, (∀ b ∈ bs, b ∈ bss) → R y f bs → R' y f bs) : RepL R' cs fs bss := by
  induction w with
  | nil => exact .nil
  | @cons y f bs ys fs bss h1 h2 ih => exact .cons (hr _ _ _ (fun b hb => by simp [hb]) h1) (ih fun y f bs hb => hr y f bs fun b hh => by simp [hb b hh])
theorem RepL.len {cs fs : List S} {bss : List Nat} (w : RepL R cs fs bss) : cs.length = fs.length := by
  induction w with
  | nil => rfl
  | cons h1 h2 ih => simp [ih]
theorem RepL.append {cs fs cs' fs' : List S} {bss bss' : List Nat} (w : RepL R cs fs bss) (w' : RepL R cs' fs' bss') : RepL R (cs ++ cs') (fs ++ fs') (bss ++ bss') := by
  induction w with
  | nil => exact w'
  | cons h1 h2 ih => rw [List.cons_append, List.cons_append, List.append_assoc]; exact .cons h1 ih
theorem RepL.split : ∀ {fs fs' : List S} {cs : List S} {bss : List Nat}, RepL R cs (fs ++ fs') bss → ∃ a a' b b', cs = a ++ a' ∧ bss = b ++ b' ∧ RepL R a fs b ∧ RepL R a' fs' b'
  | [], fs', cs, bss, w => ⟨[], cs, [], bss, rfl, rfl, .nil, w⟩
  | f :: fs, fs', cs, bss, w => by
    cases w with
    | @cons y f bs ys fs bss h1 h2 =>
      obtain ⟨a, a', b, b', rfl, rfl, w1, w2⟩ := RepL.split h2
      exact ⟨y :: a, a', bs ++ b, b', rfl, by simp, .cons h1 w1, w2⟩
end
section
variable {h h' : H}
theorem Rep.sc {d : Nat} {s : S} (hs : Sc s) : Rep h d s s [] := by
  cases d with
  | zero => exact ⟨.inl ⟨hs, rfl⟩, rfl⟩
  | succ d => exact .inl ⟨.inl ⟨hs, rfl⟩, rfl⟩
theorem Rep.nil {d : Nat} : Rep h d (.sl none 0) (.fs []) [] := by
  cases d with
  | zero => exact ⟨.inr ⟨rfl, rfl⟩, rfl⟩
  | succ d => exact .inl ⟨.inr ⟨rfl, rfl⟩, rfl⟩
theorem Rep.sl {d b z : Nat} {cs : List S} {rows : List (List S)} {bss : List Nat} (hb : b < h.n) (hz : 0 < z) (hg : h.g b = .rw z cs) (hr : ∀ r ∈ rows, r.length = z) (w : RepL (Rep h d) cs rows.flatten bss) : Rep h (d + 1) (.sl (some (b, 0)) rows.length) (.fs rows) (b :: bss) :=
  .inr ⟨b, z, cs, rows, bss, rfl, rfl, rfl, hb, hz, hg, hr, w⟩
theorem RepL.sc {d : Nat} : ∀ {l : List S}, (∀ s ∈ l, Sc s) → RepL (Rep h d) l l []
  | [], _ => .nil
  | s :: l, hl => RepL.cons (bs := []) (Rep.sc (hl s (by simp))) (RepL.sc fun s hs => hl s (by simp [hs]))
theorem Rep.of_sc {d : Nat} {y f : S} {bs : List Nat} (w : Rep h d y f bs) (hf : Sc f) : y = f ∧ bs = [] := by
  cases d with
  | zero =>
    obtain ⟨⟨h1, rfl⟩ | ⟨rfl, rfl⟩, rfl⟩ := w
    · exact ⟨rfl, rfl⟩
    · exact hf.elim
  | succ d =>
    obtain ⟨⟨h1, rfl⟩ | ⟨rfl, rfl⟩, rfl⟩ | ⟨b, z, cs, rows, bss, rfl, rfl, rfl, h1⟩ := w
    · exact ⟨rfl, rfl⟩
    · exact hf.elim
    · exact hf.elim
theorem RepL.of_sc {d : Nat} : ∀ {cs fs : List S} {bss : List Nat}, RepL (Rep h d) cs fs bss → (∀ s ∈ fs, Sc s) → cs = fs ∧ bss = []
  | _, _, _, .nil, _ => ⟨rfl, rfl⟩
  | _, _, _, .cons h1 h2, hs => by
    obtain ⟨rfl, rfl⟩ := Rep.of_sc h1 (hs _ (by simp))
    obtain ⟨rfl, rfl⟩ := RepL.of_sc h2 fun s hs' => hs s (by simp [hs'])
    exact ⟨rfl, rfl⟩
theorem Rep.frame : ∀ {d : Nat} {y f : S} {bs : List Nat}, Rep h d y f bs → (∀ b ∈ bs, b < h'.n ∧ h'.g b = h.g b) → Rep h' d y f bs
  | 0, y, f, bs, w, _ => w
  | d + 1, y, f, bs, w, hb => by
    rcases w with w | ⟨b, z, cs, rows, bss, rfl, rfl, rfl, h1, h2, h3, h4, h5⟩
    · exact .inl w
    · have := hb b (by simp)
      exact .inr ⟨b, z, cs, rows, bss, rfl, rfl, rfl, this.1, h2, this.2.trans h3, h4, h5.mono fun y f bs hs w => Rep.frame w fun b' hb' => hb b' (by simp [hs b' hb'])⟩
theorem RepL.frame {d : Nat} {cs fs : List S} {bss : List Nat} (w : RepL (Rep h d) cs fs bss) (hb : ∀ b ∈ bss, b < h'.n ∧ h'.g b = h.g b) : RepL (Rep h' d) cs fs bss :=
  w.mono fun y f bs hs w => w.frame fun b hbb => hb b (hs b hbb)
theorem Rep.lift : ∀ {d : Nat} {y f : S} {bs : List Nat}, Rep h d y f bs → Rep h (d + 1) y f bs
  | 0, y, f, bs, w => .inl w
  | d + 1, y, f, bs, w => by
    rcases w with w | ⟨b, z, cs, rows, bss, rfl, rfl, rfl, h1, h2, h3, h4, h5⟩
    · exact .inl w
    · exact .inr ⟨b, z, cs, rows, bss, rfl, rfl, rfl, h1, h2, h3, h4, h5.mono fun y f bs hs w => w.lift⟩
theorem Rep.lifts {d k : Nat} {y f : S} {bs : List Nat} (w : Rep h d y f bs) (hd : d ≤ k) : Rep h k y f bs := by
  obtain ⟨j, rfl⟩ := Nat.exists_eq_add_of_le hd
  induction j with
  | zero => exact w
  | succ j ih => exact (ih (by omega)).lift
theorem RepL.lifts {d k : Nat} {cs fs : List S} {bss : List Nat} (w : RepL (Rep h d) cs fs bss) (hd : d ≤ k) : RepL (Rep h k) cs fs bss := w.mono fun y f bs _ w => w.lifts hd
theorem Rep.lt : ∀ {d : Nat} {y f : S} {bs : List Nat}, Rep h d y f bs → ∀ b ∈ bs, b < h.n
  | 0, y, f, bs, w => by obtain ⟨_, rfl⟩ := w; simp
  | d + 1, y, f, bs, w => by
    rcases w with ⟨_, rfl⟩ | ⟨b, z, cs, rows, bss, rfl, rfl, rfl, h1, h2, h3, h4, h5⟩
    · simp
    · intro c hc
      rcases List.mem_cons.1 hc with rfl | hc
      · exact h1
      · clear h3 h4
        generalize rows.flatten = fl at h5
        induction h5 with
        | nil => simp at hc
        | cons w1 w2 ih =>
          rcases List.mem_append.1 hc with hc | hc
          · exact w1.lt _ hc
          · exact ih (by simp [hc]) hc
theorem RepL.lt {d : Nat} {cs fs : List S} {bss : List Nat} (w : RepL (Rep h d) cs fs bss) : ∀ b ∈ bss, b < h.n := by
  induction w with
  | nil => simp
  | cons w1 w2 ih =>
    intro c hc
    rcases List.mem_append.1 hc with hc | hc
    · exact w1.lt _ hc
    · exact ih _ hc
theorem Rep.sca {d : Nat} {y f : S} {bs : List Nat} (w : Rep h d y f bs) : scaS y = true := by
  cases d with
  | zero =>
    obtain ⟨⟨h1, rfl⟩ | ⟨rfl, rfl⟩, rfl⟩ := w
    · exact h1.sca
    · rfl
  | succ d =>
    obtain ⟨⟨h1, rfl⟩ | ⟨rfl, rfl⟩, rfl⟩ | ⟨b, z, cs, rows, bss, rfl, rfl, rfl, h1⟩ := w
    · exact h1.sca
    · rfl
    · rfl
theorem Rep.isNo {d : Nat} {y f : S} {bs : List Nat} (w : Rep h d y f bs) : isNo y = false := by
  cases d with
  | zero =>
    obtain ⟨⟨h1, rfl⟩ | ⟨rfl, rfl⟩, rfl⟩ := w
    · exact h1.no
    · rfl
  | succ d =>
    obtain ⟨⟨h1, rfl⟩ | ⟨rfl, rfl⟩, rfl⟩ | ⟨b, z, cs, rows, bss, rfl, rfl, rfl, h1⟩ := w
    · exact h1.no
    · rfl
    · rfl
/-- what it is once frozen -/
theorem Rep.frz : ∀ {d k : Nat} {y f : S} {bs : List Nat}, Rep h d y f bs → d ≤ k → frzS h k y = some f
  | 0, k, y, f, bs, w, _ => by
    obtain ⟨⟨h1, rfl⟩ | ⟨rfl, rfl⟩, rfl⟩ := w
    · exact h1.cl h k
    · exact frz_n
  | d + 1, 0, y, f, bs, w, hk => by omega
  | d + 1, k + 1, y, f, bs, w, hk => by
    rcases w with ⟨⟨h1, rfl⟩ | ⟨rfl, rfl⟩, rfl⟩ | ⟨b, z, cs, rows, bss, rfl, rfl, rfl, h1, h2, h3, h4, h5⟩
    · exact h1.cl h (k + 1)
    · exact frz_n
    · have hl := flat_len h4
      have hc := h5.len
      have hm : mapO (frzS h k) cs = some rows.flatten := by
        clear h3 h4 hl hc
        generalize rows.flatten = fl at h5
        induction h5 with
        | nil => rfl
        | cons w1 w2 ih => simp only [mapO, Rep.frz w1 (show d ≤ k by omega), ih, Option.bind_some]
      simp only [frzS]
      split
      · rename_i h0; rw [List.eq_nil_of_length_eq_zero h0]
      · rw [h3]
        simp only
        rw [if_pos ⟨h2, by omega⟩, List.drop_zero, List.take_of_length_le (by omega), hm]
        simp [chunk_rows h4]
theorem RepL.mapO {d k : Nat} {cs fs : List S} {bss : List Nat} (w : RepL (Rep h d) cs fs bss) (hd : d ≤ k) : Vm.mapO (frzS h k) cs = some fs := by
  induction w with
  | nil => rfl
  | cons w1 w2 ih => simp only [Vm.mapO, w1.frz hd, ih, Option.bind_some]
end
/-- bytes -/
theorem bys_sc {l : List UInt8} : ∀ s ∈ (bys l).flatten, Sc s := by
  rw [bys_flat]
  intro s hs
  obtain ⟨c, _, rfl⟩ := List.mem_map.1 hs
  trivial
theorem Own.rep {h : H} {d : Nat} {y : S} {l : List UInt8} {ob : Option Nat} (h1 : Own h (.s y) l ob) : Rep h (d + 1) y (.fs (bys l)) ob.toList := by
  cases ob with
  | none => obtain ⟨h1, rfl⟩ := h1; cases h1; exact Rep.nil
  | some b =>
    have hv := h1.v
    injection hv with hv
    subst hv
    have := Rep.sl (d := d) (h := h) (b := b) (z := 1) (rows := bys l) (bss := []) h1.n (by omega) (by rw [bys_flat]; exact h1.g) bys_row (RepL.sc (by exact bys_sc))
    rwa [bys_len] at this
/-- a value of one's own in a stretch of blocks -/
def OwnF (d : Nat) (y f : S) (lo hi : Nat) (h : H) : Prop := ∃ bs, Rep h d y f bs ∧ bs.Nodup ∧ ∀ b ∈ bs, lo ≤ b ∧ b < hi
theorem OwnF.sep {d : Nat} {y f : S} {lo hi : Nat} {h : H} (w : OwnF d y f lo hi h) (hn : hi ≤ h.n) : Sep (OwnF d y f lo hi) lo hi h := ⟨hn, fun h' hn' hg => by
  obtain ⟨bs, h1, h2, h3⟩ := w
  exact ⟨bs, h1.frame fun b hb => ⟨by have := h3 b hb; omega, hg b (h3 b hb).1 (h3 b hb).2⟩, h2, h3⟩⟩
theorem OwnF.frz {d : Nat} {y f : S} {lo hi : Nat} {h : H} (w : OwnF d y f lo hi h) (hd : d ≤ 8 := by omega) : frzV h (.s y) = some (.s f) := by
  obtain ⟨bs, h1, _⟩ := w
  simp only [frzV, h1.frz hd, Vm.ob]
theorem OwnB.f {d : Nat} {y : S} {l : List UInt8} {lo hi : Nat} {h : H} (w : OwnB (.s y) l lo hi h) : OwnF (d + 1) y (.fs (bys l)) lo hi h := by
  obtain ⟨ob, h1, h2⟩ := w
  refine ⟨ob.toList, h1.rep, ?_, fun b hb => h2 b (by simpa using hb)⟩
  cases ob <;> simp
/-! loops that mark the rows of a slice -/
section
variable {α : Type} (cs : α → List S) (mk : Nat → α → α) (sz : α → Nat)
def szAll : List α → Nat
  | [] => 0
  | a :: xs => sz a + szAll xs
variable {cs mk sz}
end
end Vm
/-
  Runs that live: copied, compared, marked, found again.
-/
namespace Vm
open Go
end Vm
/-
  Cells of one's own; results that are marked; slices that are filled row by row.
-/
namespace Vm
open Go
theorem sc_bel {n : Nat} {s : S} (h : Sc s) : belS n s = true := by cases s <;> first | exact h.elim | rfl
theorem Rep.top {h : H} {d N : Nat} {y f : S} {bs : List Nat} (w : Rep h d y f bs) (hb : ∀ b ∈ bs, b < N) : belS N y = true := by
  cases d with
  | zero =>
    obtain ⟨⟨h1, rfl⟩ | ⟨rfl, rfl⟩, rfl⟩ := w
    · exact sc_bel h1
    · rfl
  | succ d =>
    obtain ⟨⟨h1, rfl⟩ | ⟨rfl, rfl⟩, rfl⟩ | ⟨b, z, cs, rows, bss, rfl, rfl, rfl, h1⟩ := w
    · exact sc_bel h1
    · rfl
    · simpa [belS] using hb b (by simp)
theorem RepL.top {h : H} {d N : Nat} {cs fs : List S} {bss : List Nat} (w : RepL (Rep h d) cs fs bss) (hb : ∀ b ∈ bss, b < N) : cs.all (belS N) = true := by
  induction w with
  | nil => rfl
  | cons w1 w2 ih =>
    rw [List.all_cons, w1.top fun b hh => hb b (by simp [hh]), ih fun b hh => hb b (by simp [hh])]; rfl
theorem Rep.bel {h : H} {N : Nat} : ∀ {d : Nat} {y f : S} {bs : List Nat}, Rep h d y f bs → (∀ b ∈ bs, b < N) → ∀ b ∈ bs, (h.g b).cells.all (belS N) = true
  | 0, y, f, bs, w, _ => by obtain ⟨_, rfl⟩ := w; simp
  | d + 1, y, f, bs, w, hb => by
    rcases w with ⟨_, rfl⟩ | ⟨b, z, cs, rows, bss, rfl, rfl, rfl, h1, h2, h3, h4, h5⟩
    · simp
    · intro c hc
      rcases List.mem_cons.1 hc with rfl | hc
      · rw [h3]; exact h5.top fun b hh => hb b (by simp [hh])
      · have hb' : ∀ b ∈ bss, b < N := fun b hh => hb b (by simp [hh])
        clear h3 h4 hb
        generalize rows.flatten = fl at h5
        induction h5 with
        | nil => simp at hc
        | cons w1 w2 ih =>
          rcases List.mem_append.1 hc with hc | hc
          · exact w1.bel (fun b hh => hb' b (by simp [hh])) _ hc
          · exact ih (by simp [hc]) hc fun b hh => hb' b (by simp [hh])
theorem RepL.bel {h : H} {d N : Nat} {cs fs : List S} {bss : List Nat} (w : RepL (Rep h d) cs fs bss) (hb : ∀ b ∈ bss, b < N) : ∀ b ∈ bss, (h.g b).cells.all (belS N) = true := by
  induction w with
  | nil => simp
  | cons w1 w2 ih =>
    intro c hc
    rcases List.mem_append.1 hc with hc | hc
    · exact w1.bel (fun b hh => hb b (by simp [hh])) _ hc
    · exact ih (fun b hh => hb b (by simp [hh])) _ hc
/-- cells of one's own in a stretch of blocks -/
def OwnC (d : Nat) (ys fs : List S) (lo hi : Nat) (h : H) : Prop := ∃ bs, RepL (Rep h d) ys fs bs ∧ bs.Nodup ∧ ∀ b ∈ bs, lo ≤ b ∧ b < hi
theorem OwnC.sep {d : Nat} {ys fs : List S} {lo hi : Nat} {h : H} (w : OwnC d ys fs lo hi h) (hn : hi ≤ h.n) : Sep (OwnC d ys fs lo hi) lo hi h := ⟨hn, fun h' hn' hg => by
  obtain ⟨bs, h1, h2, h3⟩ := w
  exact ⟨bs, h1.frame fun b hb => ⟨by have := h3 b hb; omega, hg b (h3 b hb).1 (h3 b hb).2⟩, h2, h3⟩⟩
theorem OwnC.frz {d : Nat} {ys fs : List S} {lo hi : Nat} {h : H} (w : OwnC d ys fs lo hi h) (hd : d ≤ 8 := by omega) : frzV h (.agg ys) = some (.agg fs) := by
  obtain ⟨bs, h1, _⟩ := w
  simp only [frzV, h1.mapO hd, Vm.ob]
theorem RepL.sca {h : H} {d : Nat} {cs fs : List S} {bss : List Nat} (w : RepL (Rep h d) cs fs bss) : cs.all scaS = true := by
  induction w with
  | nil => rfl
  | cons w1 w2 ih => rw [List.all_cons, w1.sca, ih]; rfl
theorem OwnC.scaV {d : Nat} {ys fs : List S} {lo hi : Nat} {h : H} (w : OwnC d ys fs lo hi h) : Vm.scaV (.agg ys) = true := by
  obtain ⟨bs, h1, _⟩ := w
  exact h1.sca
/-- one value behind plain cells -/
theorem OwnF.c {d : Nat} {pre : List S} {y f : S} {lo hi : Nat} {h : H} (hp : ∀ s ∈ pre, Sc s) (w : OwnF d y f lo hi h) : OwnC d (pre ++ [y]) (pre ++ [f]) lo hi h := by
  obtain ⟨bs, h1, h2, h3⟩ := w
  exact ⟨bs, by simpa using (RepL.sc (d := d) hp).append (.cons h1 .nil), h2, h3⟩
theorem OwnC.f {d : Nat} {pre : List S} {y f : S} {lo hi : Nat} {h : H} (hp : ∀ s ∈ pre, Sc s) (w : OwnC d (pre ++ [y]) (pre ++ [f]) lo hi h) : OwnF d y f lo hi h := by
  obtain ⟨bs, h1, h2, h3⟩ := w
  obtain ⟨a, a', b, b', e1, rfl, w1, w2⟩ := h1.split
  obtain ⟨rfl, rfl⟩ := w1.of_sc hp
  have := List.append_cancel_left e1
  subst this
  cases w2 with
  | cons w3 w4 => cases w4; exact ⟨_, by simpa using w3, by simpa using h2, by simpa using h3⟩
/-- the answer of a call: new cells of one's own -/
structure NewC (d : Nat) (ys fs : List S) (n : Nat) (h : H) : Prop where
  le : n ≤ h.n
  q : OwnC d ys fs n h.n h
theorem scrub_g {n : Nat} {h : H} {b : Nat} (hb : (h.g b).cells.all scaS = true) : (scrub n h).g b = h.g b := by
  simp only [scrub]
  rw [if_neg (fun hh => by rw [hb] at hh; cases hh.2.2)]
theorem Rep.scaB {h : H} : ∀ {d : Nat} {y f : S} {bs : List Nat}, Rep h d y f bs → ∀ b ∈ bs, (h.g b).cells.all scaS = true
  | 0, y, f, bs, w => by obtain ⟨_, rfl⟩ := w; simp
  | d + 1, y, f, bs, w => by
    rcases w with ⟨_, rfl⟩ | ⟨b, z, cs, rows, bss, rfl, rfl, rfl, h1, h2, h3, h4, h5⟩
    · simp
    · intro c hc
      rcases List.mem_cons.1 hc with rfl | hc
      · rw [h3]; exact h5.sca
      · clear h3 h4
        generalize rows.flatten = fl at h5
        induction h5 with
        | nil => simp at hc
        | cons w1 w2 ih =>
          rcases List.mem_append.1 hc with hc | hc
          · exact w1.scaB _ hc
          · exact ih (by simp [hc]) hc
theorem RepL.scaB {h : H} {d : Nat} {cs fs : List S} {bss : List Nat} (w : RepL (Rep h d) cs fs bss) : ∀ b ∈ bss, (h.g b).cells.all scaS = true := by
  induction w with
  | nil => simp
  | cons w1 w2 ih =>
    intro c hc
    rcases List.mem_append.1 hc with hc | hc
    · exact w1.scaB _ hc
    · exact ih _ hc
/-- .. of one value -/
theorem pVx {cl : Nat → List V → H → Option (V × H)} {g : Nat} {off : Bool} {xs : List V} {h : H} {n d : Nat} {y f : S} {h1 : H} (hn : h.n = n) (hc : cl g xs (D n) = some (.s y, h1)) (hle : n ≤ h1.n) (w : OwnF d y f n h1.n h1) :
    ∃ h', (∀ (R : Type) (k : V → H → Option R), pcallF cl g off xs h k = k (.s y) h') ∧ Up h h' ∧ n ≤ h'.n ∧ Sep (OwnF d y f n h'.n) n h'.n h' ∧ HExt h h' := by
  subst hn
  have ov : ∀ h2 : H, h2.n = h1.n → (∀ b, (h1.g b).cells.all scaS = true → h2.g b = h1.g b) → Up h (h.over h2) ∧ h.n ≤ (h.over h2).n ∧ Sep (OwnF d y f h.n (h.over h2).n) h.n (h.over h2).n (h.over h2) ∧ HExt h (h.over h2) := fun h2 hn2 hg2 => by
    have hle2 : h.n ≤ h2.n := by omega
    refine ⟨up_over hle2, by rw [over_n hle2]; omega, OwnF.sep ?_ (Nat.le_refl _), ⟨by rw [over_n hle2]; omega, fun b hb => .inr (over_lt hb)⟩⟩
    obtain ⟨bs, w1, w2, w3⟩ := w
    rw [over_n hle2, hn2]
    refine ⟨bs, w1.frame fun b hb => ?_, w2, w3⟩
    have := w3 b hb
    exact ⟨by rw [over_n hle2]; omega, by rw [over_ge this.1]; exact hg2 b (w1.scaB b hb)⟩
  cases off with
  | true =>
    obtain ⟨a1, a2, a3⟩ := ov h1 rfl (fun _ _ => rfl)
    refine ⟨h.over h1, fun R k => ?_, a1, a2, a3⟩
    unfold pcallF
    rw [hc, Vm.ob]
    unfold fchk
    rw [if_pos (.inl rfl)]; rfl
  | false =>
    obtain ⟨a1, a2, a3⟩ := ov (scrub h.n h1) rfl (fun b hb => scrub_g hb)
    refine ⟨h.over (scrub h.n h1), fun R k => ?_, a1, a2, a3⟩
    unfold pcallF
    rw [hc, Vm.ob]
    unfold fchk
    rw [if_pos (.inr (by obtain ⟨bs, w1, _⟩ := w; exact w1.sca))]; rfl
theorem pV {cl : Nat → List V → H → Option (V × H)} {g : Nat} {off : Bool} {xs : List V} {h : H} {n d : Nat} {y f : S} {h1 : H} (hn : h.n = n) (hc : cl g xs (D n) = some (.s y, h1)) (hle : n ≤ h1.n) (w : OwnF d y f n h1.n h1) :
    ∃ h', (∀ (R : Type) (k : V → H → Option R), pcallF cl g off xs h k = k (.s y) h') ∧ Up h h' ∧ n ≤ h'.n ∧ Sep (OwnF d y f n h'.n) n h'.n h' := by
  obtain ⟨h', a, b, c, d, _⟩ := pVx (off := off) hn hc hle w
  exact ⟨h', a, b, c, d⟩
theorem NewC.p {f d : Nat} {xs : List V} {h : H} {ys fs : List S} (hd : d ≤ 8) (hc : call Ev f xs (D 0) = some (.agg ys, h)) (w : NewC d ys fs 0 h) : pureV (call Ev) f xs = some (.agg fs) := by
  unfold pureV
  rw [hc, Vm.ob]
  exact w.q.frz hd

theorem bel_mono {n m : Nat} (h : n ≤ m) {s : S} (hs : belS n s = true) : belS m s = true := by
  cases s with
  | ptr p => cases p <;> simp_all [belS]; omega
  | sl p k => cases p <;> simp_all [belS]; omega
  | mp p => cases p <;> simp_all [belS]; omega
  | fn f cap =>
    simp only [belS, List.all_eq_true, decide_eq_true_eq] at hs ⊢
    intro x hx
    have := hs x hx
    omega
  | _ => exact hs
/-- what leads to new blocks is not let go -/
theorem no_tidy {h h' : H} {l : List V} {b e : Nat} {cs : List S} (hb : b < h.n) (hg : h'.g b = .rw e cs) (hc : cs.all (belS h.n) = false) (hX : (h.g b).cells.all (belS h.n) = true) : tidy h l h' = h' := by
  unfold tidy
  rw [if_neg]
  rintro ⟨_, _, h3⟩
  rcases h3 b hb with ⟨h4, _⟩ | h4
  · rw [← h4, hg] at hX
    rw [show (Blk.rw e cs).cells = cs from rfl, hc] at hX
    cases hX
  · rw [hg, show (Blk.rw e cs).cells = cs from rfl, hc] at h4
    cases h4
/-! slices that are filled row by row -/
section
variable {α : Type} {cs : α → List S}
theorem fill_rep {z b d n0 : Nat} {L : Nat → H → Option LOut} {fin : List V} {all : List α} (hz0 : 0 < z) (hz : ∀ a, (cs a).length = z)
    (step : ∀ (i : Nat) (a : α) (h : H) (X : List S), all[i]? = some a → b < h.n → n0 ≤ h.n → h.g b = .rw z X → X.length = all.length * z → X.all (belS h.n) = true →
      ∃ h' row bs, L i h = L (i + 1) h' ∧ h.n ≤ h'.n ∧ h'.g b = .rw z (setAt X (i * z) row) ∧ RepL (Rep h' d) row (cs a) bs ∧ bs.Nodup ∧ (∀ c ∈ bs, h.n ≤ c) ∧ ∀ c, c < h.n → c ≠ b → h'.g c = h.g c)
    (last : ∀ h, L all.length h = some (.done fin h)) :
    ∀ (q i : Nat) (h : H) (ys tail : List S) (bs : List Nat), i + q = all.length → b < h.n → n0 ≤ h.n → b < n0 → h.g b = .rw z (ys ++ tail) → tail.length = q * z → tail.all (belS n0) = true → RepL (Rep h d) ys ((all.take i).map cs).flatten bs → bs.Nodup → (∀ c ∈ bs, n0 ≤ c) →
    ∃ h' ys' bs', L i h = some (.done fin h') ∧ h.n ≤ h'.n ∧ h'.g b = .rw z ys' ∧ RepL (Rep h' d) ys' (all.map cs).flatten bs' ∧ bs'.Nodup ∧ (∀ c ∈ bs', n0 ≤ c) ∧ ∀ c, c < h.n → c ≠ b → c ∉ bs → h'.g c = h.g c := by
  intro q
  induction q with
  | zero =>
    intro i h ys tail bs hi hb hn hbn hg ht htb w hd hbs
    obtain rfl : i = all.length := by omega
    have : tail = [] := List.eq_nil_of_length_eq_zero (by omega)
    subst this
    exact ⟨h, ys, bs, last h, Nat.le_refl _, by simpa using hg, by simpa using w, hd, hbs, fun _ _ _ _ => rfl⟩
  | succ q ih =>
    intro i h ys tail bs hi hb hn hbn hg ht htb w hd hbs
    have hil : i < all.length := by omega
    have ha : all[i]? = some all[i] := List.getElem?_eq_getElem hil
    have hyl : ys.length = i * z := by
      rw [w.len, flat_len (z := z) (fun r hr => by obtain ⟨a, _, rfl⟩ := List.mem_map.1 hr; exact hz a)]
      rw [List.length_map, List.length_take, Nat.min_eq_left (by omega)]
    have htl : tail.length = z + q * z := by rw [ht, Nat.succ_mul]; omega
    have hX : (ys ++ tail).length = all.length * z := by
      rw [List.length_append, hyl, ht, ← Nat.add_mul, hi]
    obtain ⟨h1, row, b1, e1, n1, g1, r1, d1, f1, o1⟩ := step i all[i] h (ys ++ tail) ha hb hn hg hX (by
      rw [List.all_append, w.top w.lt, Bool.true_and]
      rw [List.all_eq_true] at htb ⊢
      exact fun s hs => bel_mono hn (htb s hs))
    have hrl : row.length = z := r1.len.trans (hz _)
    have hbl : ∀ c ∈ bs, c < h.n := w.lt
    have hdis : ∀ c ∈ bs, ∀ c' ∈ b1, c ≠ c' := fun c hc c' hc' hh => by have := hbl c hc; have := f1 c' hc'; omega
    have w' : RepL (Rep h1 d) (ys ++ row) ((all.take (i + 1)).map cs).flatten (bs ++ b1) := by
      have e : (all.take (i + 1)) = all.take i ++ [all[i]] := by rw [List.take_add_one, ha]; rfl
      rw [e, List.map_append, List.flatten_append]
      refine RepL.append (w.frame fun c hc => ⟨by have := hbl c hc; omega, o1 c (hbl c hc) (fun hh => by have := hbs c hc; omega)⟩) ?_
      simpa using r1
    rw [setAt_at hyl hrl] at g1
    obtain ⟨h2, ys2, bs2, e2, n2, g2, r2, d2, f2, o2⟩ := ih (i + 1) h1 (ys ++ row) (tail.drop z) (bs ++ b1) (by omega) (by omega) (by omega) hbn g1 (by rw [List.length_drop]; omega) (by rw [List.all_eq_true] at htb ⊢; exact fun s hs => htb s (List.mem_of_mem_drop hs)) w' (List.nodup_append.2 ⟨hd, d1, hdis⟩) (fun c hc => by
      rcases List.mem_append.1 hc with hc | hc
      · exact hbs c hc
      · have := f1 c hc; omega)
    refine ⟨h2, ys2, bs2, by rw [e1, e2], by omega, g2, r2, d2, f2, fun c hc hcb hcs => ?_⟩
    rw [o2 c (by omega) hcb (fun hh => ?_), o1 c hc hcb]
    rcases List.mem_append.1 hh with hh | hh
    · exact hcs hh
    · have := f1 c hh; omega
end
end Vm
/-
  Results of a code and one value, as they are made at the end of a function.
-/
namespace Vm
open Go
end Vm
/-
  Runs as arguments and as results of a law.
-/
namespace Vm
open Go
/-- runs in a stretch of blocks -/
def OwnRs (v : V) (rs : List RunD) (lo hi : Nat) (h : H) : Prop := ∃ y, v = .s y ∧ OwnF 4 y (.fs (runs rs)) lo hi h
theorem OwnRs.frz {v : V} {rs : List RunD} {lo hi : Nat} {h : H} (w : OwnRs v rs lo hi h) : frzV h v = some (lv (runs rs)) := by
  obtain ⟨y, rfl, w⟩ := w
  exact w.frz
theorem OwnRs.sep {v : V} {rs : List RunD} {lo hi : Nat} {h : H} (w : OwnRs v rs lo hi h) (hn : hi ≤ h.n) : Sep (OwnRs v rs lo hi) lo hi h := ⟨hn, fun h' hn' hg => by
  obtain ⟨y, rfl, w⟩ := w
  exact ⟨y, rfl, (w.sep hn).q h' hn' hg⟩⟩
theorem OwnRs.pv {cl : Nat → List V → H → Option (V × H)} {g : Nat} {off : Bool} {xs : List V} {h : H} {n : Nat} {v : V} {rs : List RunD} {h1 : H} (hn : h.n = n) (hc : cl g xs (D n) = some (v, h1)) (hw : n ≤ h1.n ∧ OwnRs v rs n h1.n h1) :
    ∃ h', (∀ (R : Type) (k : V → H → Option R), pcallF cl g off xs h k = k v h') ∧ Up h h' ∧ n ≤ h'.n ∧ Sep (OwnRs v rs n h'.n) n h'.n h' := by
  obtain ⟨hle, y, rfl, w⟩ := hw
  obtain ⟨h', e, u, hn', w'⟩ := pV (off := off) hn hc hle w
  exact ⟨h', e, u, hn', OwnRs.sep ⟨y, rfl, w'.now⟩ (Nat.le_refl _)⟩
end Vm
/-
  A slice of rows of one's own that grows row by row.
-/
namespace Vm
open Go
structure OutS (z d : Nat) (y : S) (rows : List (List S)) (bs : List Nat) (h : H) : Prop where
  rep : Rep h (d + 1) y (.fs rows) bs
  nd : bs.Nodup
  ty : y = .sl none 0 ∨ ∃ b cs, y = .sl (some (b, 0)) rows.length ∧ h.g b = .rw z cs
  len : ∀ r ∈ rows, r.length = z
theorem OutS.none {z d : Nat} {h : H} : OutS z d (.sl none 0) [] [] h := ⟨Rep.nil, by simp, .inl rfl, by simp⟩
theorem OutS.frame {z d : Nat} {y : S} {rows : List (List S)} {bs : List Nat} {h h' : H} (w : OutS z d y rows bs h) (hb : ∀ b ∈ bs, b < h'.n ∧ h'.g b = h.g b) : OutS z d y rows bs h' := by
  refine ⟨w.rep.frame hb, w.nd, ?_, w.len⟩
  rcases w.ty with h1 | ⟨b, cs, h1, h2⟩
  · exact .inl h1
  · refine .inr ⟨b, cs, h1, ?_⟩
    have hbb : b ∈ bs := by
      rcases w.rep with ⟨⟨h3, _⟩ | ⟨h3, _⟩, _⟩ | ⟨b', z', cs', rows', bss, h3, _, h4, _⟩
      · rw [h1] at h3; exact h3.elim
      · rw [h1] at h3; cases h3
      · rw [h1] at h3
        injection h3 with h3 _
        injection h3 with h3
        injection h3 with h3 _
        rw [h4, h3]; simp
    rw [(hb b hbb).2]; exact h2
theorem app_row {z d : Nat} {y : S} {rows : List (List S)} {bs : List Nat} {h : H} {row fr : List S} {br : List Nat} (w : OutS z d y rows bs h) (wr : RepL (Rep h d) row fr br) (hz : fr.length = z) (hz0 : 0 < z) (hd : br.Nodup) (hdis : ∀ a ∈ bs, a ∉ br) (hl : rows.length + 1 ≤ lim) :
    ∃ h' bs', appS z (h.new z row) (.s y) (sv h.n 0 1) = some (sv (h.n + 1) 0 (rows.length + 1), h') ∧ OutS z d (.sl (some (h.n + 1, 0)) (rows.length + 1)) (rows ++ [fr]) bs' h' ∧ h'.n = h.n + 2 ∧ (∀ c ∈ bs', c = h.n + 1 ∨ c ∈ bs ∨ c ∈ br) ∧ (∀ c, c < h.n → c ∉ bs → h'.g c = h.g c) ∧ (∀ c, c < h.n → h'.g c = h.g c ∨ (h'.g c = .dead ∧ c ∈ bs)) ∧ ∃ cs0, h'.g (h.n + 1) = .rw z (cs0 ++ row) := by
  have hrow : row.length = z := wr.len.trans hz
  have hlt := w.rep.lt
  have hlr := wr.lt
  have cy : cellsS z (h.new z row) (sv h.n 0 1) = some row := by
    simp only [cellsS, H.cells, new_n, new_g, Blk.cells]
    rw [if_pos ⟨by omega, by simp; omega⟩]
    simp [← hrow]
  have gn : (h.new z row).g h.n = .rw z row := new_g _ _ _
  rcases w.rep with ⟨⟨h3, h4⟩ | ⟨h3, h4⟩, h5⟩ | ⟨b, z', cs, rows', bss, h3, h4, h5, h6, h7, h8, h9, h10⟩
  · rw [← h4] at h3; exact h3.elim
  · subst h3
    injection h4 with h4
    subst h4
    subst h5
    refine ⟨(h.new z row).new z row, (h.n + 1) :: br, ?_, ⟨?_, ?_, ?_, ?_⟩, by simp, ?_, fun c hc _ => ?_, fun c hc => .inl ?_, [], new_g (h.new z row) z row⟩
    · simp only [appS, cy, Option.bind_some, lenS]
      rw [if_pos ⟨trivial, by simpa using hl, hz0⟩, if_neg (by omega)]
      rfl
    · have := Rep.sl (d := d) (h := (h.new z row).new z row) (b := h.n + 1) (z := z) (cs := row) (rows := [fr]) (bss := br) (by simp) hz0 (by exact new_g (h.new z row) z row) (by simpa using hz) (by
        simpa using wr.frame fun c hc => ⟨by have := hlr c hc; simp; omega, by rw [new_g' (by have := hlr c hc; simp; omega), new_g' (by have := hlr c hc; omega)]⟩)
      simpa using this
    · exact List.nodup_cons.2 ⟨fun hh => by have := hlr _ hh; omega, hd⟩
    · exact .inr ⟨_, row, rfl, by exact new_g (h.new z row) z row⟩
    · simpa using hz
    · intro c hc
      rcases List.mem_cons.1 hc with h1 | h1
      · exact .inl h1
      · exact .inr (.inr h1)
    · rw [new_g' (by simp; omega), new_g' (by omega)]
    · rw [new_g' (by simp; omega), new_g' (by omega)]
  · injection h4 with h4
    subst h4
    subst h3
    subst h5
    have hzz : z' = z := by
      rcases w.ty with hh | ⟨b', cs', hh, hg⟩
      · cases hh
      · injection hh with hh _
        injection hh with hh
        injection hh with hh _
        subst hh
        rw [h8] at hg
        injection hg
    subst hzz
    have hcl := h10.len
    rw [flat_len h9] at hcl
    have hbn : b ≠ h.n := by omega
    have cx : cellsS z' (h.new z' row) (sv b 0 rows.length) = some cs := by
      have hc : (h.new z' row).cells b = cs := by unfold H.cells; rw [if_pos (by simp; omega), new_g' hbn, h8]; rfl
      simp only [cellsS, hc]
      rw [if_pos ⟨by simp; omega, by omega⟩, List.drop_zero, List.take_of_length_le (by omega)]
    have hd2 := List.nodup_cons.1 w.nd
    refine ⟨((h.new z' row).put b .dead).new z' (cs ++ row), (h.n + 1) :: (bss ++ br), ?_, ⟨?_, ?_, ?_, ?_⟩, by simp, ?_, fun c hc hcb => ?_, fun c hc => ?_, cs, new_g ((h.new z' row).put b .dead) z' (cs ++ row)⟩
    · simp only [appS, cx, cy, Option.bind_some, lenS]
      rw [if_pos ⟨by rw [new_n]; omega, hl, hz0⟩, new_g' hbn, h8]
      simp only [if_true]
      rfl
    · have fr1 : ∀ c, c < h.n → c ≠ b → (((h.new z' row).put b .dead).new z' (cs ++ row)).g c = h.g c := fun c hc hcb => by
        rw [new_g' (by simp; omega), put_g' hcb, new_g' (by omega)]
      have := Rep.sl (d := d) (h := ((h.new z' row).put b .dead).new z' (cs ++ row)) (b := h.n + 1) (z := z') (cs := cs ++ row) (rows := rows ++ [fr]) (bss := bss ++ br) (by simp) hz0 (by exact new_g ((h.new z' row).put b .dead) z' (cs ++ row)) (by
          intro r hr
          rcases List.mem_append.1 hr with hr | hr
          · exact h9 r hr
          · rw [List.mem_singleton.1 hr]; exact hz) (by
        rw [List.flatten_append]
        have wr2 : RepL (Rep (((h.new z' row).put b .dead).new z' (cs ++ row)) d) row fr br := wr.frame fun c hc => by
          have := hlr c hc
          exact ⟨by simp; omega, fr1 c this (fun hh => hdis b (by simp) (hh ▸ hc))⟩
        refine RepL.append (h10.frame fun c hc => ?_) (by simpa using wr2)
        have := hlt c (by simp [hc])
        exact ⟨by simp; omega, fr1 c this (fun hh => hd2.1 (hh ▸ hc))⟩)
      simpa using this
    · refine List.nodup_cons.2 ⟨fun hh => ?_, List.nodup_append.2 ⟨hd2.2, hd, fun a ha a' ha' hh => hdis a (by simp [ha]) (hh ▸ ha')⟩⟩
      rcases List.mem_append.1 hh with hh | hh
      · have := hlt (h.n + 1) (by simp [hh]); omega
      · have := hlr _ hh; omega
    · exact .inr ⟨h.n + 1, cs ++ row, by simp, by exact new_g ((h.new z' row).put b .dead) z' (cs ++ row)⟩
    · intro r hr
      rcases List.mem_append.1 hr with hr | hr
      · exact h9 r hr
      · rw [List.mem_singleton.1 hr]; exact hz
    · intro c hc
      rcases List.mem_cons.1 hc with h1 | h1
      · exact .inl h1
      rcases List.mem_append.1 h1 with h1 | h1
      · exact .inr (.inl (by simp [h1]))
      · exact .inr (.inr h1)
    · rw [new_g' (by simp; omega), put_g' (fun hh => hcb (by simp [hh])), new_g' (by omega)]
    · by_cases hcb : c = b
      · subst hcb
        refine .inr ⟨?_, by simp⟩
        rw [new_g' (by simp; omega)]
        exact put_g _ _ _
      · refine .inl ?_
        rw [new_g' (by simp; omega), put_g' hcb, new_g' (by omega)]
end Vm
/-
  Rows that are marked; rows of one's own.
-/
namespace Vm
open Go
/-! the text of a mark -/
/-! a row that is marked -/
theorem row_sc {r : RowD} : ∀ s ∈ r.cs, Sc s := by
  intro s hs
  simp only [List.mem_cons, List.not_mem_nil, or_false] at hs
  rcases hs with rfl | rfl | rfl | rfl <;> trivial
/-! a value of one's own -/
def OwnV (v : V) (f : S) (lo hi : Nat) (h : H) : Prop := ∃ y, v = .s y ∧ OwnF 5 y f lo hi h
theorem OwnV.frz {v : V} {rs : List (List S)} {lo hi : Nat} {h : H} (w : OwnV v (.fs rs) lo hi h) : frzV h v = some (lv rs) := by
  obtain ⟨y, rfl, w⟩ := w
  exact w.frz
theorem OwnV.sep {v : V} {f : S} {lo hi : Nat} {h : H} (w : OwnV v f lo hi h) (hn : hi ≤ h.n) : Sep (OwnV v f lo hi) lo hi h := ⟨hn, fun h' hn' hg => by
  obtain ⟨y, rfl, w⟩ := w
  exact ⟨y, rfl, (w.sep hn).q h' hn' hg⟩⟩
theorem OwnV.pv {cl : Nat → List V → H → Option (V × H)} {g : Nat} {off : Bool} {xs : List V} {h : H} {n : Nat} {v : V} {f : S} {h1 : H} (hn : h.n = n) (hc : cl g xs (D n) = some (v, h1)) (hw : n ≤ h1.n ∧ OwnV v f n h1.n h1) :
    ∃ h', (∀ (R : Type) (k : V → H → Option R), pcallF cl g off xs h k = k v h') ∧ Up h h' ∧ n ≤ h'.n ∧ Sep (OwnV v f n h'.n) n h'.n h' := by
  obtain ⟨hle, y, rfl, w⟩ := hw
  obtain ⟨h', e, u, hn', w'⟩ := pV (off := off) hn hc hle w
  exact ⟨h', e, u, hn', OwnV.sep ⟨y, rfl, w'.now⟩ (Nat.le_refl _)⟩
/-- flat rows in one block -/
theorem own_flat {h : H} {n z : Nat} {rows : List (List S)} (hn : n < h.n) (hz0 : 0 < z) (hg : h.g n = .rw z rows.flatten) (hz : ∀ r ∈ rows, r.length = z) (hs : ∀ r ∈ rows, ∀ s ∈ r, Sc s) : OwnV (sv n 0 rows.length) (.fs rows) n h.n h := by
  refine ⟨_, rfl, [n], ?_, by simp, by simpa using hn⟩
  exact Rep.sl (bss := []) hn hz0 hg hz (RepL.sc fun s hs' => by
    obtain ⟨r, h1, h2⟩ := List.mem_flatten.1 hs'
    exact hs r h1 s h2)
theorem rws_sc {rs : List RowD} : ∀ r ∈ rws rs, ∀ s ∈ r, Sc s := by
  intro r hr
  obtain ⟨c, _, rfl⟩ := List.mem_map.1 hr
  exact row_sc
theorem NewRw.own {n : Nat} {h : H} {v : V} {rs : List RowD} (w : NewRw n h v rs) : n ≤ h.n ∧ OwnV v (.fs (rws rs)) n h.n h := by
  have := own_flat (h := h) (n := n) (z := 4) (rows := rws rs) (by have := w.le; omega) (by omega) w.g rws_row rws_sc
  rw [rws_len] at this
  rw [w.v]
  exact ⟨by have := w.le; omega, this⟩
/-! results of rows -/
end Vm
/-
  Pages: slices of slices of bytes: their size, a copy, a comparison, marks, and what is found of these.
-/
namespace Vm
open Go
abbrev pgr (l : List UInt8) : List S := [.fs (bys l)]
def bss (ps : List (List UInt8)) : List (List S) := ps.map pgr
@[simp] theorem bss_len (ps : List (List UInt8)) : (bss ps).length = ps.length := by simp [bss]
theorem bss_row {ps : List (List UInt8)} : ∀ r ∈ bss ps, r.length = 1 := by
  intro r hr
  obtain ⟨c, _, rfl⟩ := List.mem_map.1 hr
  rfl
theorem bss_get {ps : List (List UInt8)} {i : Nat} {l : List UInt8} (h : ps[i]? = some l) : (bss ps)[i]? = some (pgr l) := by simp [bss, h]
theorem idxF_pg {R : Type} {ps : List (List UInt8)} {i : Nat} {l : List UInt8} {k : List S → Option R} (h : ps[i]? = some l) : idxF 1 (bss ps) (i : Int) k = k (pgr l) := idxF_at (bss_get h) rfl
theorem rows_Pg {m : Nat} : ∀ rows : List (List S), (∀ r ∈ rows, r.length = PR.cellsOf T.S_uint8 ∧ Rp PR m T.S_uint8 r) → ∃ ps : List (List UInt8), rows = bss ps ∧ ∀ l ∈ ps, l.length ≤ maxLen
  | [], _ => ⟨[], rfl, by simp⟩
  | r :: rows, hr => by
    obtain ⟨ps, h1, h2⟩ := rows_Pg rows fun r hm => hr r (by simp [hm])
    obtain ⟨m', rr, h3, w1, w2⟩ := (hr r (by simp)).2.slice und_S_uint8
    obtain ⟨l, rfl⟩ := rows8 und_uint8 rr w2
    refine ⟨l :: ps, by rw [h1, h3]; rfl, fun x hx => ?_⟩
    rcases List.mem_cons.1 hx with rfl | hx
    · simpa using w1
    · exact h2 x hx
/-! size -/
def szPgs : List (List UInt8) → Int → Int
  | [], left => left
  | l :: ps, left => if (l.length : Int) ≤ left then szPgs ps (left - l.length) else -1
def szP (l : List UInt8) : Nat := l.length
def psz (ps : List (List UInt8)) : Nat := szAll szP ps
theorem psz_cons (l : List UInt8) (ps : List (List UInt8)) : psz (l :: ps) = l.length + psz ps := rfl
theorem szPgs_le : ∀ (ps : List (List UInt8)) (left : Int), 0 ≤ left → szPgs ps left ≤ left ∧ -1 ≤ szPgs ps left
  | [], left, h => ⟨Int.le_refl _, by simp only [szPgs]; omega⟩
  | r :: rs, left, h => by
    simp only [szPgs]
    split
    · have := szPgs_le rs (left - r.length) (by omega); omega
    · omega
theorem szPgs_sum : ∀ (ps : List (List UInt8)) (left : Int), 0 ≤ szPgs ps left → 0 ≤ left → szPgs ps left = left - psz ps
  | [], left, h, _ => by simp [szPgs, psz, szAll]
  | r :: rs, left, h, h0 => by
    simp only [szPgs] at h ⊢
    by_cases hle : (r.length : Int) ≤ left
    · rw [if_pos hle] at h ⊢
      rw [szPgs_sum rs _ h (by omega), psz_cons]; omega
    · rw [if_neg hle] at h; omega
theorem psz_mem : ∀ {ps : List (List UInt8)} {l : List UInt8}, l ∈ ps → l.length ≤ psz ps
  | [], _, h => by simp at h
  | x :: ps, l, h => by
    rw [psz_cons]
    rcases List.mem_cons.1 h with rfl | h
    · omega
    · have := psz_mem h; omega
theorem p_szPgs {all : List (List UInt8)} {left : Int} (h1 : 0 ≤ left) (h2 : left < 9223372036854775808) (hl : all.length ≤ maxLen) (hr : ∀ l ∈ all, l.length ≤ maxLen) : pureV (call Ev) Fn.laws_szByteSS [lv (bss all), iv .i64 left] = some (iv .i64 (if (all.length : Int) ≤ left then szPgs all (left - all.length) else -1)) := by
  unfold maxLen at hl
  have loop : ∀ (rs : List (List UInt8)) (i : Nat) (q : Int), all.drop i = rs → 0 ≤ q → q < 9223372036854775808 →
      (Lp.laws_szByteSS 0 [lv (bss all), iv .i64 q, iv .i64 i] (D 0)).bind (fun o102 => lcase o102 (fun l103 h104 =>
        (l103[0]?).bind fun w107 =>
        gV1 w107 fun x108 =>
        gI .i64 x108 fun i109 =>
        some (iv .i64 i109)) (fun v105 h106 =>
        frzV h106 v105)) = some (iv .i64 (szPgs rs q)) := by
    intro rs
    induction rs with
    | nil =>
      intro i q hi h1 h2
      have := drop_nil hi
      rw [eq_laws_szByteSS_l0, vcase_b, if_neg (by simp; omega), tidy_self, ob, lcase_done]
      simp only [gx0, ob, gV1_s, gI_i, szPgs]
    | cons r rs ih =>
      intro i q hi h1 h2
      obtain ⟨g1, g2, g3⟩ := drop_cons hi
      rw [eq_laws_szByteSS_l0, vcase_b, if_pos (by simp; omega), idxF_pg g1]
      simp only [ob, gx0, gx1, gF_f]
      rw [pc (p_szByteS h1 h2 (hr r (List.mem_of_getElem? g1))) rfl]
      simp only [gV1_s, gI_i, vcase_b, decide_eq_true_eq, szPgs, szL]
      by_cases hle : (r.length : Int) ≤ q
      · rw [if_pos hle, if_neg (by omega), w64 (by omega) (by omega), tidy_self, show (i : Int) + 1 = ((i + 1 : Nat) : Int) from by omega, if_pos hle]
        exact ih (i + 1) _ g2 (by omega) (by omega)
      · rw [if_neg hle, if_pos (by omega), if_neg hle]; rfl
  rw [pu_laws_szByteSS, vcase_b, bss_len, w64 (by omega) (by omega)]
  by_cases hq : (all.length : Int) ≤ left
  · rw [if_neg (by simp; omega), if_pos hq]
    exact loop all 0 _ rfl (by omega) (by omega)
  · rw [if_pos (by simp; omega), if_neg hq]

/-! a comparison -/
theorem p_eqPgs {all all' : List (List UInt8)} (hl : all.length ≤ maxLen) (hr : ∀ l ∈ all, l.length ≤ maxLen) (he : all = all') : pureV (call Ev) Fn.laws_eqByteSS [lv (bss all), lv (bss all')] = some (bv true) := by
  subst he
  unfold maxLen at hl
  have loop : ∀ (rs : List (List UInt8)) (i : Nat), all.drop i = rs → Lp.laws_eqByteSS 0 [lv (bss all), lv (bss all), iv .i64 i] (D 0) = some (.done [] (D 0)) := by
    intro rs
    induction rs with
    | nil =>
      intro i hi
      have := drop_nil hi
      rw [eq_laws_eqByteSS_l0, vcase_b, if_neg (by simp; omega), tidy_self]
    | cons r rs ih =>
      intro i hi
      obtain ⟨g1, g2, g3⟩ := drop_cons hi
      rw [eq_laws_eqByteSS_l0, vcase_b, if_pos (by simp; omega), idxF_pg g1]
      simp only [ob, gx0, gx1, gF_f]
      rw [idxF_pg g1]
      simp only [ob, gx0, gx1, gF_f]
      rw [pc (p_eqByteS (hr r (List.mem_of_getElem? g1))) rfl]
      simp only [gV1_s, gB_b, hchk_self, vcase_b, decide_true, Bool.not_true, Bool.false_eq_true, if_false]
      rw [w64 (by omega) (by omega), tidy_self, show (i : Int) + 1 = ((i + 1 : Nat) : Int) from by omega]
      exact ih (i + 1) g2
  rw [pu_laws_eqByteSS, vcase_b, if_neg (by simp), show iv .i64 0 = iv .i64 ((0 : Nat) : Int) from rfl, loop all 0 rfl]
  simp

/-! a copy -/
theorem f_toPgs {all : List (List UInt8)} (hl : all.length ≤ lim) (hr : ∀ l ∈ all, l.length ≤ lim) (n : Nat) : ∃ v h', call Ev Fn.laws_toByteSS [lv (bss all)] (D n) = some (v, h') ∧ (n ≤ h'.n ∧ OwnV v (.fs (bss all)) n h'.n h') := by
  have hl' := hl
  unfold lim at hl'
  rw [eq_laws_toByteSS, bss_len, mkSl_of (z := 1) (zero := [.sl none 0]) hl (by omega) rfl, ob]
  generalize hG : (D n).new 1 ((List.replicate all.length [S.sl none 0]).flatten) = G
  have gn : G.n = n + 1 := by rw [← hG]; simp
  have gg : G.g n = .rw 1 ((List.replicate all.length [S.sl none 0]).flatten) := by rw [← hG]; exact new_g (D n) _ _
  obtain ⟨h', ys, bs, e1, n1, g1, r1, d1, f1, _⟩ := fill_rep (z := 1) (b := n) (d := 1) (n0 := n + 1) (cs := pgr) (all := all) (L := fun i h => Lp.laws_toByteSS 0 [lv (bss all), sv n 0 all.length, iv .i64 i] h) (fin := [sv n 0 all.length]) (by omega) (fun _ => rfl)
    (fun i a h X ha hb hn hg hX hXb => by
      have hi : i < all.length := (List.getElem?_eq_some_iff.1 ha).1
      show ∃ h' row bs, Lp.laws_toByteSS 0 _ h = _ ∧ _
      rw [eq_laws_toByteSS_l0, vcase_b, if_pos (by simp; omega), idxF_pg ha]
      simp only [ob, gx0, gx1, gF_f]
      obtain ⟨v, h1, e1, w1⟩ := f_toByteS (hr a (List.mem_of_getElem? ha)) h.n
      rw [pF (h := h) e1 w1.nofz]
      have hle := w1.le
      have u : Up h (h.over h1) := up_over (by omega)
      have un : (h.over h1).n = h.n + 1 := by rw [over_n (by omega), hle]
      have wo : BysW (h.over h1) v a h.n := ⟨w1.own.v, by omega, by rw [over_ge (by omega)]; exact w1.own.g⟩
      have hv := w1.own.v
      subst hv
      generalize h.over h1 = M at u un wo ⊢
      have hg2 := (u.g n hb).trans hg
      rw [idxK_sv hi, stK_rw (z := 1) (e := 1) (o := i * 1) (b := n) (cs := X) (r := [.sl (some (h.n, 0)) a.length]) (by omega) hg2 (.inl ⟨_, rfl, rfl, rfl⟩) rfl (by omega), w64 (by omega) (by omega), show (i : Int) + 1 = ((i + 1 : Nat) : Int) from by omega]
      have ht : ∀ l, tidy h l (M.put n (.rw 1 (setAt X (i * 1) [.sl (some (h.n, 0)) a.length]))) = M.put n (.rw 1 (setAt X (i * 1) [.sl (some (h.n, 0)) a.length])) := fun l => no_tidy (b := n) hb (put_g _ _ _) (by
        rw [Bool.eq_false_iff]
        intro hh
        have := List.all_eq_true.1 hh (.sl (some (h.n, 0)) a.length) (by unfold setAt; simp)
        simp [belS] at this) (by rw [hg]; exact hXb)
      rw [ht]
      have w2 : Rep M 1 (.sl (some (h.n, 0)) a.length) (.fs (bys a)) [h.n] := Own.rep (d := 0) (ob := some h.n) wo
      have hne : h.n ≠ n := by omega
      refine ⟨_, [.sl (some (h.n, 0)) a.length], [h.n], rfl, by rw [put_n]; omega, put_g _ _ _, ?_, by simp, fun c hc => by rw [List.mem_singleton.1 hc]; exact Nat.le_refl _, fun c hc hcb => ?_⟩
      · have w3 : Rep (M.put n (.rw 1 (setAt X (i * 1) [.sl (some (h.n, 0)) a.length]))) 1 (.sl (some (h.n, 0)) a.length) (.fs (bys a)) [h.n] := w2.frame fun c hc => by
          rw [List.mem_singleton.1 hc]
          exact ⟨by rw [put_n]; omega, put_g' hne⟩
        exact RepL.cons (bs := [h.n]) w3 .nil
      · rw [put_g' hcb]; exact u.g c hc)
    (fun h => by
      show Lp.laws_toByteSS 0 _ h = _
      rw [eq_laws_toByteSS_l0, vcase_b, if_neg (by simp), tidy_self])
    all.length 0 G [] ((List.replicate all.length [.sl none 0]).flatten) [] (by omega) (by omega) (by omega) (by omega) (by simpa using gg) (repl_len rfl) (by
      rw [List.all_eq_true]
      intro s hs
      obtain ⟨r, hr, hs⟩ := List.mem_flatten.1 hs
      rw [List.eq_of_mem_replicate hr] at hs
      rw [List.mem_singleton.1 hs]; rfl) (by simpa using RepL.nil) (by simp) (by simp)
  rw [D_n, show iv .i64 0 = iv .i64 ((0 : Nat) : Int) from rfl, e1]
  simp only [ob, lcase_done, gx0]
  refine ⟨_, _, rfl, ⟨by omega, _, rfl, n :: bs, ?_, ?_, ?_⟩⟩
  · have := Rep.sl (d := 1) (h := h') (b := n) (z := 1) (rows := bss all) (by omega) (by omega) g1 bss_row r1
    rw [bss_len] at this
    exact this.lifts (by omega)
  · exact List.nodup_cons.2 ⟨fun hh => by have := f1 n hh; omega, d1⟩
  · intro c hc
    rcases List.mem_cons.1 hc with rfl | hc
    · omega
    · have := f1 c hc
      have := r1.lt c hc
      omega
theorem p_toPgs {all : List (List UInt8)} (hl : all.length ≤ lim) (hr : ∀ l ∈ all, l.length ≤ lim) : pureV (call Ev) Fn.laws_toByteSS [lv (bss all)] = some (lv (bss all)) := by
  obtain ⟨v, h', e, _, w⟩ := f_toPgs hl hr 0
  unfold pureV
  rw [e, ob, w.frz]

/-! marks -/
end Vm
/-
  The loops that look for the rows that are seen: pages, stubs, told ones, neighbours.
-/
namespace Vm
open Go Go.Sort
/-- all pages and cells are right -/
def Right (ps : List (List UInt8)) : Prop := ∀ l ∈ ps, pagF l = 0 ∧ ∀ s : Nat, hasB l s = true → (unpC (cellB l s)).code = 0
theorem Right.cnt {ps : List (List UInt8)} (r : Right ps) {l : List UInt8} (h : l ∈ ps) : cnt l ≤ 16 := by
  obtain ⟨_, ⟨q1, _⟩, _⟩ := pagF_ok (r l h).1
  have := cnt_eq l
  omega
theorem lp_look0 {all : List (List UInt8)} {b n0 : Nat} (hr : Right all) (hl : all.length ≤ 12) :
    ∀ (rs : List (List UInt8)) (i : Nat) (h : H) (y1 y2 : S) (l1 l2 : List SeenD) (ms : List SpotD) (o1 o2 : Option Nat), all.drop i = rs → StV n0 h y1 y2 b l1 l2 ms o1 o2 → l1.length ≤ 16 * i → l2.length ≤ 16 * i → (∀ x ∈ ms, x.p < i) →
    ∃ h' y1' y2' o1' o2', Lp.impl_look 0 [.s y1, .s y2, .s (.mp (some b)), lv (bss all), iv .i64 all.length, iv .i64 i] h = some (.done [.s y1', .s y2', .s (.mp (some b))] h') ∧
      StV n0 h' y1' y2' b (l1 ++ rowsO (spotsF i rs)) (l2 ++ stubsO (spotsF i rs)) (ms ++ movsO (spotsF i rs)) o1' o2' := by
  intro rs
  induction rs with
  | nil =>
    intro i h y1 y2 l1 l2 ms o1 o2 hi w _ _ _
    have := drop_nil hi
    rw [eq_impl_look_l0, vcase_b, if_neg (by simp; omega), tidy_self]
    exact ⟨h, y1, y2, o1, o2, rfl, by simpa [spotsF, rowsO, stubsO, movsO] using w⟩
  | cons l rs ih =>
    intro i h y1 y2 l1 l2 ms o1 o2 hi w hl1 hl2 hm
    obtain ⟨g1, g2, g3⟩ := drop_cons hi
    have hmem := List.mem_of_getElem? g1
    obtain ⟨hp, hc⟩ := hr l hmem
    have h16 := hr.cnt hmem
    obtain ⟨h64, _⟩ := pagF_ok hp
    rw [eq_impl_look_l0, vcase_b, if_pos (by simp; omega), idxF_pg g1]
    simp only [gx0, ob, gF_f]
    rw [pc (p_slots (by omega)) rfl]
    simp only [gV1_s, gI_i]
    obtain ⟨h1, a1, a2, a3, a4, e1, w1⟩ := lp_look2 (P := bss all) (m := (all.length : Int)) (p := i) (b := b) (n0 := n0) hp hc (Vm.cnt l) 0 h y1 y2 l1 l2 ms o1 o2 (by omega) w (by omega) (by omega) (fun x hx => .inl (hm x hx))
    rw [show iv .i64 0 = iv .i64 ((0 : Nat) : Int) from rfl, e1, ob, lcase_done]
    simp only [gx0, gx1, ob, gV1_s, gF_f, gI_i]
    rw [w64 (n := (i : Int) + 1) (by omega) (by omega), show (i : Int) + 1 = ((i + 1 : Nat) : Int) from by omega]
    have hle := spotsP_len i l (Vm.cnt l) 0
    have hr1 := rowsO_len (spotsP i l 0 (Vm.cnt l))
    have hr2 := stubsO_len (spotsP i l 0 (Vm.cnt l))
    have key : ∀ h2, StV n0 h2 a1 a2 b (l1 ++ rowsO (spotsP i l 0 (Vm.cnt l))) (l2 ++ stubsO (spotsP i l 0 (Vm.cnt l))) (ms ++ movsO (spotsP i l 0 (Vm.cnt l))) a3 a4 →
        ∃ h' y1' y2' o1' o2', Lp.impl_look 0 [.s a1, .s a2, .s (.mp (some b)), lv (bss all), iv .i64 all.length, iv .i64 ((i + 1 : Nat) : Int)] h2 = some (.done [.s y1', .s y2', .s (.mp (some b))] h') ∧
          StV n0 h' y1' y2' b (l1 ++ rowsO (spotsF i (l :: rs))) (l2 ++ stubsO (spotsF i (l :: rs))) (ms ++ movsO (spotsF i (l :: rs))) o1' o2' := by
      intro h2 w2
      obtain ⟨h', c1, c2, c3, c4, e2, w3⟩ := ih (i + 1) h2 a1 a2 _ _ _ a3 a4 g2 w2 (by rw [List.length_append]; omega) (by rw [List.length_append]; omega) (fun x hx => by
        rcases List.mem_append.1 hx with hx | hx
        · have := hm x hx; omega
        · have := spotsP_p _ _ x (List.mem_filter.1 hx).1
          omega)
      refine ⟨h', c1, c2, c3, c4, e2, ?_⟩
      rw [spotsF, rowsO_app, stubsO_app, movsO_app]
      simpa using w3
    by_cases ht : tidy h [.s a1, .s a2, .s (.mp (some b)), lv (bss all), iv .i64 all.length, iv .i64 ((i + 1 : Nat) : Int)] h1 = h1
    · rw [ht]; exact key h1 w1
    · refine key _ ?_
      have hT : Tidy h [.s a1, .s a2, .s (.mp (some b)), lv (bss all), iv .i64 all.length, iv .i64 ((i + 1 : Nat) : Int)] h1 := Classical.byContradiction fun hh => ht (by unfold tidy; rw [if_neg hh])
      have hbl := hT.2.1
      rw [List.all_cons, List.all_cons, List.all_cons] at hbl
      simp only [Bool.and_eq_true] at hbl
      have hg : ∀ c, c < h.n → (tidy h [.s a1, .s a2, .s (.mp (some b)), lv (bss all), iv .i64 all.length, iv .i64 ((i + 1 : Nat) : Int)] h1).g c = h1.g c := by
        intro c hc
        unfold tidy
        rw [if_pos hT]
        simp only [if_pos hc]
      have hn : (tidy h [.s a1, .s a2, .s (.mp (some b)), lv (bss all), iv .i64 all.length, iv .i64 ((i + 1 : Nat) : Int)] h1).n = h.n := by
        unfold tidy
        rw [if_pos hT]
      have lt1 : ∀ c, a3 = some c → c < h.n := by
        intro c hc
        have := w1.w1
        rw [hc] at this
        have hy := this.1
        have := hbl.1
        rw [hy] at this
        simpa [belV, belS] using this
      have lt2 : ∀ c, a4 = some c → c < h.n := by
        intro c hc
        have := w1.w2
        rw [hc] at this
        have hy := this.1
        have := hbl.2.1
        rw [hy] at this
        simpa [belV, belS] using this
      have ltb : b < h.n := by simpa [belV, belS] using hbl.2.2.1
      exact ⟨w1.w1.frame fun c hc => ⟨by rw [hn]; exact lt1 c hc, hg c (lt1 c hc)⟩, w1.w2.frame fun c hc => ⟨by rw [hn]; exact lt2 c hc, hg c (lt2 c hc)⟩, by rw [hn]; exact ltb, (hg b ltb).trans w1.hg, w1.n1, w1.n2, w1.n12, w1.g1, w1.g2, by rw [hn]; exact w.le⟩
/-- a row read -/
theorem Ls.get {h : H} {y : S} {l : List SeenD} {o : Option Nat} {i : Nat} (w : Ls h y l o) (hi : i < l.length) : ∃ b, o = some b ∧ y = .sl (some (b, 0)) l.length ∧ Hs h b l.toArray := by
  cases o with
  | none => obtain ⟨_, rfl⟩ := w; simp at hi
  | some b => exact ⟨b, rfl, w.1, w.hs⟩
theorem arr_get {l : List SeenD} {i : Nat} {x : SeenD} (h : l[i]? = some x) : l.toArray[i]! = x := by
  rw [List.getElem!_toArray, List.getElem!_eq_getElem?_getD, h]; rfl
theorem miss_cons (ms : List SpotD) (x : SeenD) (l : List SeenD) : missF ms (x :: l) = ((mvF ms x.at_ x.place).isNone || missF ms l) := rfl
abbrev z9 : List S := [.int .i64 0, .int .i64 0, .int .i64 0, .str (⟨#[]⟩), .int .i64 0, .int .i64 0, .bool false, .int .i64 0, .int .i64 0]
theorem lp_look5 {b n0 : Nat} {h : H} {y1 y2 : S} {l1 l2 : List SeenD} {ms : List SpotD} {o1 o2 : Option Nat} (w : StV n0 h y1 y2 b l1 l2 ms o1 o2) (hl : l2.length ≤ 1000) :
    ∀ (rs : List SeenD) (i : Nat), l2.drop i = rs → ∃ h', Lp.impl_look 5 [.s y1, .s y2, .s (.mp (some b)), .s y2, iv .i64 l2.length, iv .i64 i] h = some (if missF ms rs = true then .ret (.tup [.s (.sl none 0), .s (.int .i64 4)]) h' else .done [.s y1, .s y2, .s (.mp (some b))] h) := by
  intro rs
  induction rs with
  | nil =>
    intro i hi
    have := drop_nil hi
    rw [eq_impl_look_l5, vcase_b, if_neg (by simp; omega), tidy_self]
    exact ⟨h, rfl⟩
  | cons x rs ih =>
    intro i hi
    obtain ⟨g1, g2, g3⟩ := drop_cons hi
    obtain ⟨h', ih'⟩ := ih (i + 1) g2
    obtain ⟨c2, rfl, hy, hs⟩ := w.w2.get g3
    have hbel1 := w.w1.bel
    have hbel2 := w.w2.bel
    subst hy
    rw [eq_impl_look_l5, vcase_b, if_pos (by simp; omega), hs.ldG (by simp) (by simpa using g3), arr_get g1]
    rw [stK_X (z := 9) rfl rfl, load1_X (o := 7) (x := .int .i64 x.at_) rfl]
    simp only [ob, gI_i]
    rw [load1_X (o := 8) (x := .int .i64 x.place) rfl]
    simp only [ob, gI_i]
    have hk1 := putX_keep h z9 x.cs
    have w1 := w.frame (h' := putX h z9 x.cs) hk1.1 (fun c hc => putX_lt hc)
    have hlk := look_mv w1.hb w1.hg x.at_ x.place
    have hlk' : lookM Ev 178 true (putX h z9 x.cs) (.s (.mp (some b))) (.agg [.int .i64 x.at_, .int .i64 x.place]) = _ := hlk
    rw [hlk', ob, miss_cons]
    generalize hmv : mvF ms x.at_ x.place = r
    simp only [gVT_t, gx0, gx1, ob, gAA_a, gA1_s, gI_i, gS_s, gB_b, ln0, ln1, Nat.zero_add, Nat.reduceAdd, if_true]
    rw [stK_X (z := 4) rfl rfl, vcase_b]
    cases r with
    | none => exact ⟨_, rfl⟩
    | some r =>
      rw [if_neg (by simp), w64 (n := (i : Int) + 1) (by omega) (by omega), show (i : Int) + 1 = ((i + 1 : Nat) : Int) from by omega, tidy_ext (hk1.trans (putX_keep _ _ _)) (by
        have b3 := w.hb
        rw [List.all_cons, List.all_cons, List.all_cons, List.all_cons, show belV h.n (.s y1) = true from hbel1, show belV h.n (.s (.sl (some (c2, 0)) l2.length)) = true from hbel2]
        simp [belV, belS, b3])]
      refine ⟨h', ?_⟩
      rw [show ((some r : Option RowD).isNone || missF ms rs) = missF ms rs from rfl]
      exact ih'
theorem nbr_cons2 (x y : SeenD) (l : List SeenD) : nbr (x :: y :: l) = (ltS x y && nbr (y :: l)) := rfl
theorem take4 {l : List SeenD} {i : Nat} {x : SeenD} (h : l[i]? = some x) : (((l.map SeenD.cs).flatten).drop (i * 9)).take 4 = x.r.cs := by
  have := take9 l i x h
  have h2 : ((((l.map SeenD.cs).flatten).drop (i * 9)).take 9).take 4 = x.cs.take 4 := by rw [this]
  rw [List.take_take] at h2
  exact h2
theorem Ls.row {R : Type} {h : H} {c n : Nat} {l : List SeenD} {i : Nat} {x : SeenD} {t : VT} {w : Nat} {zz : List S} {dd : TD} {bb : Bool} {kd : IntKind} {f : V → Option R} (hs : Ls h (.sl (some (c, 0)) n) l (some c)) (hx : l[i]? = some x) :
    (idxK 9 (sv c 0 n) (iv kd (i : Int)) fun v => (padd 0 v).bind fun v => ldK t ⟨4, w, zz, true, dd, bb⟩ h v f) = f (.agg x.r.cs) := by
  obtain ⟨e, h1, h2⟩ := hs
  have hi : i < l.length := (List.getElem?_eq_some_iff.1 hx).1
  have hn : n = l.length := by injection e
  subst hn
  rw [idxK_sv hi]
  rw [show padd 0 (pv c (i * 9)) = some (pv c (i * 9 + 0)) from rfl, ob]
  show ldT _ h (pv c (i * 9 + 0)) f = _
  unfold ldT
  simp only [cond_true]
  rw [Nat.add_zero, loadN_rw h1 h2 (by rw [flat9]; omega), ob, take4 hx]
theorem lp_look9 {h : H} {y : S} {l : List SeenD} {o : Option Nat} (w : Ls h y l o) (hl : l.length ≤ 1000) :
    ∀ (rs : List SeenD) (i : Nat), l.drop i = rs → ∃ h', Lp.impl_look 9 [.s y, iv .i64 ((i + 1 : Nat) : Int)] h = some (if nbr rs = true then .done [.s y] h else .ret (.tup [.s (.sl none 0), .s (.int .i64 8)]) h') := by
  intro rs
  induction rs with
  | nil =>
    intro i hi
    have := drop_nil hi
    rw [eq_impl_look_l9, w.len, ob]
    simp only [gV1_s, gI_i, vcase_b]
    rw [if_neg (by simp; omega), tidy_self]
    exact ⟨h, rfl⟩
  | cons x rs ih =>
    intro i hi
    obtain ⟨g1, g2, g3⟩ := drop_cons hi
    cases rs with
    | nil =>
      have := drop_nil g2
      rw [eq_impl_look_l9, w.len, ob]
      simp only [gV1_s, gI_i, vcase_b]
      rw [if_neg (by simp; omega), tidy_self]
      exact ⟨h, rfl⟩
    | cons z rs =>
      obtain ⟨k1, k2, k3⟩ := drop_cons g2
      obtain ⟨h', ih'⟩ := ih (i + 1) g2
      obtain ⟨c, rfl, hy, hs⟩ := w.get g3
      subst hy
      rw [eq_impl_look_l9, w.len, ob]
      simp only [gV1_s, gI_i, vcase_b]
      rw [if_pos (by simp; omega), w64 (n := ((i + 1 : Nat) : Int) - 1) (by omega) (by omega), show ((i + 1 : Nat) : Int) - 1 = (i : Int) from by omega, w.row g1]
      simp only [gVA_a, gx0, gx1, ob, gI_i, gS_s, ln0, ln1, Nat.zero_add, Nat.reduceAdd, if_true]
      rw [w.row k1]
      simp only [gVA_a, gx0, gx1, ob, gI_i, gS_s, ln0, ln1, Nat.zero_add, Nat.reduceAdd, if_true]
      rw [pc (p_IsBefore x.r z.r) rfl]
      simp only [gV1_s, gB_b, hchk_self, vcase_b, tidy_self]
      rw [w64 (n := ((i + 1 : Nat) : Int) + 1) (by omega) (by omega), show ((i + 1 : Nat) : Int) + 1 = ((i + 1 + 1 : Nat) : Int) from by omega, nbr_cons2, show befB x.r z.r = ltS x z from rfl]
      cases hq : ltS x z
      · exact ⟨h, rfl⟩
      · exact ⟨h', by rw [if_neg (by simp), Bool.true_and]; exact ih'⟩
end Vm
/-
  The rows that are seen: the whole look.
-/
namespace Vm
open Go Go.Sort
theorem StV.but {n0 : Nat} {h h' : H} {y1 y2 : S} {b t : Nat} {l1 l2 : List SeenD} {ms : List SpotD} {o1 o2 : Option Nat} (w : StV n0 h y1 y2 b l1 l2 ms o1 o2) (hn : h.n ≤ h'.n) (hb : t ≠ b) (h1 : o1 ≠ some t) (h2 : o2 ≠ some t) (hf : ∀ c, c < h.n → c ≠ t → h'.g c = h.g c) : StV n0 h' y1 y2 b l1 l2 ms o1 o2 :=
  ⟨w.w1.frame fun c hc => by
      have := w.w1; subst hc; have := this.lt; exact ⟨by omega, hf c this (fun e => h1 (by rw [e]))⟩,
   w.w2.frame fun c hc => by
      have := w.w2; subst hc; have := this.lt; exact ⟨by omega, hf c this (fun e => h2 (by rw [e]))⟩,
   Nat.lt_of_lt_of_le w.hb hn, (hf b w.hb (fun e => hb e.symm)).trans w.hg, w.n1, w.n2, w.n12, w.g1, w.g2, Nat.le_trans w.le hn⟩
theorem setAt_seen (ms : List SpotD) (x : SeenD) : setAt x.cs 0 ((mvF ms x.at_ x.place).getD noR).cs = (seenM ms x).cs := rfl
theorem lp_look7 {b t n0 : Nat} {y2 : S} {l2 : List SeenD} {ms : List SpotD} {o2 : Option Nat} (hl : l2.length ≤ 1000) (htb : t ≠ b) (ht2 : o2 ≠ some t) :
    ∀ (rs : List SeenD) (i : Nat) (h : H) (y1 : S) (l1 : List SeenD) (o1 : Option Nat) (d : List (Int × Int)), l2.drop i = rs → StV n0 h y1 y2 b l1 l2 ms o1 o2 → t < h.n → h.g t = .mp (mtE d) → o1 ≠ some t → l1.length + rs.length ≤ 1000 →
    ∃ h', (dupS d rs = true ∧ Lp.impl_look 7 [.s y1, .s (.mp (some b)), .s (.mp (some t)), .s y2, iv .i64 l2.length, iv .i64 i] h = some (.ret (.tup [.s (.sl none 0), .s (.int .i64 6)]) h')) ∨
      (dupS d rs = false ∧ ∃ y1' o1', Lp.impl_look 7 [.s y1, .s (.mp (some b)), .s (.mp (some t)), .s y2, iv .i64 l2.length, iv .i64 i] h = some (.done [.s y1'] h') ∧ Ls h' y1' (l1 ++ rs.map (seenM ms)) o1' ∧ (∀ c, o1' = some c → n0 ≤ c) ∧ n0 ≤ h'.n) := by
  intro rs
  induction rs with
  | nil =>
    intro i h y1 l1 o1 d hi w _ _ _ _
    have := drop_nil hi
    rw [eq_impl_look_l7, vcase_b, if_neg (by simp; omega), tidy_self]
    exact ⟨h, .inr ⟨rfl, y1, o1, rfl, by simpa using w.w1, w.g1, w.le⟩⟩
  | cons x rs ih =>
    intro i h y1 l1 o1 d hi w htn htg ht1 hl1
    obtain ⟨g1, g2, g3⟩ := drop_cons hi
    obtain ⟨c2, rfl, hy, hs⟩ := w.w2.get g3
    subst hy
    rw [eq_impl_look_l7, vcase_b, if_pos (by simp; omega), hs.ldG (by simp) (by simpa using g3), arr_get g1]
    rw [stK_X (z := 9) rfl rfl, load1_X (o := 7) (x := .int .i64 x.at_) rfl]
    simp only [ob, gI_i]
    rw [load1_X (o := 8) (x := .int .i64 x.place) rfl]
    simp only [ob, gI_i]
    generalize hA : putX h [S.int .i64 0, .int .i64 0, .int .i64 0, .str (⟨#[]⟩), .int .i64 0, .int .i64 0, .bool false, .int .i64 0, .int .i64 0] [S.int .i64 x.r.tab, .int .i64 x.r.key, .int .i64 x.r.val, .str x.r.text, .int .i64 x.page, .int .i64 x.slot, .bool x.moved, .int .i64 x.at_, .int .i64 x.place] = A
    have hkA : HKeep h A := hA ▸ putX_keep h _ _
    have nA : A.n = h.n + 1 := hA ▸ putX_n h _ _
    have gA : A.g h.n = .rw 0 x.cs := hA ▸ putX_g h _ _
    rw [stK_X (z := 2) (h := A) rfl rfl]
    generalize hB : putX A [S.int .i64 0, .int .i64 0] [S.int .i64 x.at_, .int .i64 x.place] = B
    have hkB : HKeep A B := hB ▸ putX_keep A _ _
    have nB : B.n = A.n + 1 := hB ▸ putX_n A _ _
    have gB' : B.g A.n = .rw 0 (ptC x.at_ x.place) := hB ▸ putX_g A _ _
    have hkAB := hkA.trans hkB
    have lB : loadN 2 B (pv A.n 0) = some (ptC x.at_ x.place) := loadN_rw (by omega) gB' (by simp)
    rw [lB]
    simp only [gx0, gx1, ob, gI_i, ln0, ln1, Nat.zero_add, Nat.reduceAdd, if_true]
    have lk : lookM Ev 181 false B (.s (.mp (some t))) (.agg [.int .i64 x.at_, .int .i64 x.place]) = some (bv (decide ((x.at_, x.place) ∈ d))) := look_mt (by omega) ((hkAB.2 t htn).1.trans htg) _ _
    rw [lk]
    simp only [ob, gV1_s, gB_b, vcase_b]
    by_cases hd : (x.at_, x.place) ∈ d
    · rw [if_pos (by simpa using hd)]
      exact ⟨_, .inl ⟨by simp [dupS, hd], rfl⟩⟩
    rw [if_neg (by simpa using hd)]
    have up : updM Ev 181 B (.s (.mp (some t))) (.agg [.int .i64 x.at_, .int .i64 x.place]) (bv true) = _ := upd_mt (p := x.at_) (s := x.place) (by omega) ((hkAB.2 t htn).1.trans htg) hd
    rw [up, ob]
    generalize hC : B.put t (.mp (mtE (d ++ [(x.at_, x.place)]))) = C
    have nC : C.n = B.n := hC ▸ put_n _ _ _
    have gC : C.g t = .mp (mtE (d ++ [(x.at_, x.place)])) := hC ▸ put_g _ _ _
    have fC : ∀ c, c ≠ t → C.g c = B.g c := fun c hc => hC ▸ put_g' hc
    have lC : loadN 2 C (pv A.n 0) = some (ptC x.at_ x.place) := loadN_rw (by omega) ((fC _ (by omega)).trans gB') (by simp)
    rw [lC]
    simp only [gx0, gx1, ob, gI_i, ln0, ln1, Nat.zero_add, Nat.reduceAdd, if_true]
    have lm : lookM Ev 178 false C (.s (.mp (some b))) (.agg [.int .i64 x.at_, .int .i64 x.place]) = some (.agg ((mvF ms x.at_ x.place).getD noR).cs) := look_mv1 (by have := w.hb; omega) ((fC b (fun e => htb e.symm)).trans ((hkAB.2 b w.hb).1.trans w.hg)) _ _
    rw [lm]
    simp only [gVA_a, gx0, gx1, ob, gI_i, gS_s, ln0, ln1, Nat.zero_add, Nat.reduceAdd, if_true]
    have gCn : C.g h.n = .rw 0 x.cs := (fC _ (by omega)).trans ((hkB.2 h.n (by omega)).1.trans gA)
    rw [stK_rw (z := 4) (e := 0) (o := 0) (b := h.n) (cs := x.cs) (r := ((mvF ms x.at_ x.place).getD noR).cs) (by omega) gCn (.inr rfl) rfl (by simp), setAt_seen]
    generalize hE : C.put h.n (.rw 0 (seenM ms x).cs) = E
    have nE : E.n = C.n := hE ▸ put_n _ _ _
    have gE : E.g h.n = .rw 0 (seenM ms x).cs := hE ▸ put_g _ _ _
    have fE : ∀ c, c ≠ h.n → E.g c = C.g c := fun c hc => hE ▸ put_g' hc
    have lE : loadN 9 E (pv h.n 0) = some (seenM ms x).cs := loadN_rw (by omega) gE (by simp)
    rw [lE]
    simp only [gx0, gx1, ob, gI_i, gS_s, gB_b, ln0, ln1, Nat.zero_add, Nat.reduceAdd, if_true]
    have wE : StV n0 E y1 (.sl (some (c2, 0)) l2.length) b l1 l2 ms o1 (some c2) := w.but (t := t) (by omega) htb ht1 ht2 (fun c hc hct => by
      rw [fE c (by omega), fC c hct]; exact (hkAB.2 c hc).1)
    have hrl : (x :: rs).length = rs.length + 1 := rfl
    obtain ⟨h', e1, w1, n1, f1⟩ := wE.w1.app (x := seenM ms x) (by unfold lim; omega)
    have e1' : appS 9 (E.new 9 [.int .i64 (seenM ms x).r.tab, .int .i64 (seenM ms x).r.key, .int .i64 (seenM ms x).r.val, .str (seenM ms x).r.text, .int .i64 (seenM ms x).page, .int .i64 (seenM ms x).slot, .bool (seenM ms x).moved, .int .i64 (seenM ms x).at_, .int .i64 (seenM ms x).place]) (.s y1) (sv E.n 0 1) = _ := e1
    rw [e1', ob]
    dsimp only
    rw [tidy_new (by simp [belV, belS]; omega), w64 (n := (i : Int) + 1) (by omega) (by omega), show (i : Int) + 1 = ((i + 1 : Nat) : Int) from by omega]
    have ws := wE.app1 w1 (by omega) (by omega) f1
    have hgt : h'.g t = .mp (mtE (d ++ [(x.at_, x.place)])) := by
      rw [f1 t (by omega) ht1, fE t (by omega), gC]
    obtain ⟨h2, hh⟩ := ih (i + 1) h' _ _ _ (d ++ [(x.at_, x.place)]) g2 ws (by omega) hgt (fun e => by cases e; omega) (by rw [List.length_append, List.length_singleton]; omega)
    have hdu : dupS d (x :: rs) = dupS (d ++ [(x.at_, x.place)]) rs := by simp [dupS, hd]
    refine ⟨h2, ?_⟩
    rw [hdu]
    rcases hh with hh | ⟨q1, a1, a2, q2, q3, q4⟩
    · exact .inl hh
    · refine .inr ⟨q1, a1, a2, q2, ?_, q4⟩
      simpa using q3
theorem newM_n (h : H) : h.newM.n = h.n + 1 := rfl
theorem newM_g (h : H) : h.newM.g h.n = .mp [] := by simp [H.newM]
theorem newM_g' {h : H} {c : Nat} (hc : c < h.n) : h.newM.g c = h.g c := by
  simp only [H.newM]; rw [if_neg (by omega)]
/-- the code of a look at cells -/
noncomputable def lookC (sp : List SpotD) : Int := if missF (movsO sp) (stubsO sp) = true then 4 else if dupS [] (stubsO sp) = true then 6 else if dupK (seenS (movsO sp) sp) then 8 else 0
noncomputable def lookL (sp : List SpotD) : List SeenD := if lookC sp = 0 then srtS (seenS (movsO sp) sp) else []
theorem spotsF_len {all : List (List UInt8)} : ∀ (rs : List (List UInt8)) (p : Nat), (∀ l ∈ rs, cnt l ≤ 16) → (spotsF p rs).length ≤ 16 * rs.length
  | [], p, _ => by simp [spotsF]
  | l :: rs, p, h => by
    have := spotsF_len (all := all) rs (p + 1) fun l hl => h l (by simp [hl])
    have h1 := spotsP_len p l (cnt l) 0
    have h2 := h l (by simp)
    rw [spotsF, List.length_append, List.length_cons]
    omega
theorem spots_ok {all : List (List UInt8)} : ∀ (rs : List (List UInt8)) (p : Nat), Right rs → ∀ x ∈ spotsF p rs, x.c.flag = 0 ∨ x.c.flag = 1 ∨ x.c.flag = 2
  | [], p, _ => by simp [spotsF]
  | l :: rs, p, h => by
    intro x hx
    rw [spotsF] at hx
    rcases List.mem_append.1 hx with hx | hx
    · have : ∀ (k s : Nat), ∀ x ∈ spotsP p l s k, x.c.flag = 0 ∨ x.c.flag = 1 ∨ x.c.flag = 2 := by
        intro k
        induction k with
        | zero => intro s x hx; simp [spotsP] at hx
        | succ k ih =>
          intro s x hx
          simp only [spotsP] at hx
          split at hx
          · rename_i hh
            rcases List.mem_cons.1 hx with rfl | hx
            · exact unpC_flag _ ((h l (by simp)).2 s hh)
            · exact ih _ x hx
          · exact ih _ x hx
      exact this _ _ x hx
    · exact spots_ok (all := all) rs (p + 1) (fun l hl => h l (by simp [hl])) x hx
theorem perm_all {n : Nat} {d d' : Array SeenD} (hn : n = d.size) (p : PermIn 0 n d d') : d'.toList.Perm d.toList ∧ d'.size = n := by
  obtain ⟨p1, _, p3⟩ := p
  subst hn
  refine ⟨?_, p1⟩
  have e1 : d.extract 0 d.size = d := by simp
  have e2 : d'.extract 0 d.size = d' := by rw [← p1]; simp
  rw [e1, e2] at p3
  exact p3
theorem sorted_all {n : Nat} {d : Array SeenD} (hn : n = d.size) (s : SortedIn ltS 0 n d) : d.toList.Pairwise fun x y => ltS y x = false := by
  rw [List.pairwise_iff_getElem]
  intro i j hi hj hij
  have := s i j (by omega) hij (by rw [hn]; simpa using hj)
  have hi' : i < d.size := by simpa using hi
  have hj' : j < d.size := by simpa using hj
  rw [getElem!_pos d j hj', getElem!_pos d i hi'] at this
  simpa using this
theorem f_look {all : List (List UInt8)} (hr : Right all) (hl : all.length ≤ 12) (n : Nat) :
    ∃ y h' o, call Ev Fn.impl_look [lv (bss all)] (D n) = some (.tup [.s y, .s (.int .i64 (lookC (spotsF 0 all)))], h') ∧ Ls h' y (lookL (spotsF 0 all)) o ∧ ∀ c, o = some c → n ≤ c := by
  rw [eq_impl_look, D_n, bss_len]
  have w0 : StV n (D n).newM (.sl none 0) (.sl none 0) n [] [] [] none none := ⟨⟨rfl, rfl⟩, ⟨rfl, rfl⟩, by rw [newM_n]; simp, newM_g (D n), by simp, by simp, by simp, by simp, by simp, by rw [newM_n]; simp⟩
  obtain ⟨h1, y1, y2, o1, o2, e1, w1⟩ := lp_look0 hr hl all 0 _ _ _ [] [] [] none none rfl w0 (by simp) (by simp) (by simp)
  rw [show iv .i64 0 = iv .i64 ((0 : Nat) : Int) from rfl, e1, ob, lcase_done]
  simp only [List.nil_append] at w1
  have hsl := spotsF_len (all := all) all 0 (fun l hl => hr.cnt hl)
  have hok := spots_ok (all := all) all 0 hr
  generalize spotsF 0 all = sp at w1 hsl hok
  have hs1 := rowsO_len sp
  have hs2 := stubsO_len sp
  simp only [gx0, gx1, ob]
  rw [w1.w2.len, ob]
  simp only [gV1_s, gI_i]
  obtain ⟨h2, e2⟩ := lp_look5 w1 (by omega) (stubsO sp) 0 rfl
  rw [e2, ob]
  unfold lookL lookC
  by_cases hm : missF (movsO sp) (stubsO sp) = true
  · rw [if_pos hm, if_pos hm, lcase_ret, if_neg (by decide)]
    exact ⟨_, h2, none, rfl, ⟨rfl, rfl⟩, by simp⟩
  rw [if_neg hm, if_neg hm, lcase_done]
  simp only [gx0, gx1, ob]
  rw [w1.w2.len, ob]
  simp only [gV1_s, gI_i]
  have wM : StV n h1.newM y1 y2 n (rowsO sp) (stubsO sp) (movsO sp) o1 o2 := w1.frame (by rw [newM_n]; omega) (fun c hc => newM_g' hc)
  obtain ⟨h3, hh⟩ := lp_look7 (l2 := stubsO sp) (t := h1.n) (by omega) (by have := w1.hb; omega) (fun e => by have := w1.w2; rw [e] at this; have := this.lt; omega) (stubsO sp) 0 h1.newM y1 (rowsO sp) o1 [] rfl wM (by rw [newM_n]; omega) (newM_g h1) (fun e => by have := w1.w1; rw [e] at this; have := this.lt; omega) (by
    have : (rowsO sp).length + (stubsO sp).length ≤ sp.length + sp.length := by omega
    omega)
  rcases hh with ⟨q1, e3⟩ | ⟨q1, y3, o3, e3, w3, g3, _⟩
  · rw [e3, ob, lcase_ret, if_pos q1, if_neg (by decide)]
    exact ⟨_, h3, none, rfl, ⟨rfl, rfl⟩, by simp⟩
  rw [e3, ob, lcase_done, if_neg (by simp [q1])]
  simp only [gx0, gx1, ob]
  have hp := seen_perm (movsO sp) sp hok
  have hlen : (rowsO sp ++ (stubsO sp).map (seenM (movsO sp))).length ≤ 200 := by
    rw [hp.length_eq]
    have : ∀ (l : List SpotD), (seenS (movsO sp) l).length ≤ l.length := by
      intro l
      induction l with
      | nil => simp [seenS]
      | cons x l ih =>
        simp only [seenS]
        split
        · rw [List.length_cons]; omega
        · rw [List.length_cons, List.length_cons]; omega
    have := this sp
    omega
  generalize rowsO sp ++ (stubsO sp).map (seenM (movsO sp)) = L at w3 hp hlen
  have fin : ∀ (h4 : H) (l : List SeenD), Ls h4 y3 l o3 → l.Perm (seenS (movsO sp) sp) → (l.Pairwise fun x y => ltS y x = false) → ∃ y h' o, ((Lp.impl_look 9 [.s y3, iv .i64 1] h4).bind fun o130 => lcase o130 (fun l131 h132 => (l131[0]?).bind fun w135 => (V.toA w135).bind fun t136 => some (V.tup [t136, .s (.int .i64 0)], h132)) (fun v133 h134 => some (v133, h134))) = some (.tup [.s y, .s (.int .i64 (if dupK (seenS (movsO sp) sp) then 8 else 0))], h') ∧
      Ls h' y (if (if dupK (seenS (movsO sp) sp) then (8 : Int) else 0) = 0 then srtS (seenS (movsO sp) sp) else []) o ∧ ∀ c, o = some c → n ≤ c := by
    intro h4 l w4 hpl hsr
    have hnb := sorted_nbr hsr hpl
    have hll : l.length ≤ 1000 := by rw [hpl.length_eq, ← hp.length_eq]; omega
    obtain ⟨h5, e5⟩ := lp_look9 w4 hll l 0 rfl
    rw [show iv .i64 1 = iv .i64 ((0 + 1 : Nat) : Int) from rfl, e5, ob]
    by_cases hd : dupK (seenS (movsO sp) sp)
    · rw [if_neg (fun h => hnb.1 h hd), lcase_ret, if_pos hd, if_neg (by decide)]
      exact ⟨_, h5, none, rfl, ⟨rfl, rfl⟩, by simp⟩
    · rw [if_pos (hnb.2 hd), lcase_done, if_neg hd, if_pos rfl, ← srt_uniq (hnb.2 hd) hpl]
      exact ⟨y3, h4, o3, rfl, w4, g3⟩
  cases o3 with
  | none =>
    obtain ⟨rfl, rfl⟩ := w3
    rw [r_sort_nil, ob]
    dsimp only
    rw [tidy_self]
    exact fin h3 [] ⟨rfl, rfl⟩ hp List.Pairwise.nil
  | some b3 =>
    obtain ⟨rfl, k2, k3⟩ := w3
    obtain ⟨h4, d', e4, w4, o4, p4, s4⟩ := r_sort (b := b3) (n := L.length) (h := h3) (d := L.toArray) ⟨k2, by simpa using k3⟩ (by simp) hlen
    have hpa := perm_all (by simp) p4
    rw [e4, ob]
    dsimp only
    rw [o4.tidy k2]
    refine fin h4 d'.toList ⟨by rw [show d'.toList.length = L.length from by simp [hpa.2]], w4.n, w4.g⟩ (hpa.1.trans (by simpa using hp)) (sorted_all hpa.2.symm s4)
end Vm
/-
  The view of pages; the fault of their cells.
-/
namespace Vm
open Go Go.Sort
theorem hasN_iff {l : List UInt8} {i : Nat} : hasB l (i : Int) = true ↔ i < cnt l ∧ siz l i ≠ 0 := by
  have hc := cnt_eq l
  unfold hasB
  simp only [Bool.and_eq_true, decide_eq_true_eq, bne_iff_ne, ne_eq, Int.toNat_natCast]
  constructor
  · rintro ⟨h1, h2, h3⟩; exact ⟨by omega, h3⟩
  · rintro ⟨h1, h2⟩; exact ⟨by omega, by omega, h2⟩
def badS (l : List UInt8) : Nat → Nat → Bool
  | _, 0 => false
  | s, k + 1 => (hasB l (s : Int) && (unpC (cellB l s)).code != 0) || badS l (s + 1) k
theorem badS_cons (l : List UInt8) (s k : Nat) : badS l s (k + 1) = ((hasB l (s : Int) && (unpC (cellB l s)).code != 0) || badS l (s + 1) k) := rfl
noncomputable def cellsF : List (List UInt8) → Int
  | [] => 0
  | l :: r => if pagF l ≠ 0 then pagF l else if badS l 0 (cnt l) = true then 5 else cellsF r
theorem cellsF_p {l : List UInt8} {r : List (List UInt8)} (h : pagF l ≠ 0) : cellsF (l :: r) = pagF l := if_pos h
theorem cellsF_b {l : List UInt8} {r : List (List UInt8)} (h : pagF l = 0) (hb : badS l 0 (cnt l) = true) : cellsF (l :: r) = 5 := by
  rw [cellsF, if_neg (by simpa using h), if_pos hb]
theorem cellsF_n {l : List UInt8} {r : List (List UInt8)} (h : pagF l = 0) (hb : ¬ badS l 0 (cnt l) = true) : cellsF (l :: r) = cellsF r := by
  rw [cellsF, if_neg (by simpa using h), if_neg hb]
theorem badS_no {l : List UInt8} : ∀ (k s : Nat), badS l s k = false → ∀ t : Nat, s ≤ t → t < s + k → hasB l t = true → (unpC (cellB l t)).code = 0
  | 0, s, _, t, h1, h2, _ => by omega
  | k + 1, s, h, t, h1, h2, h3 => by
    simp only [badS, Bool.or_eq_false_iff, Bool.and_eq_false_iff] at h
    by_cases he : t = s
    · subst he
      rcases h.1 with h4 | h4
      · rw [h3] at h4; cases h4
      · simpa using h4
    · exact badS_no k (s + 1) h.2 t (by omega) (by omega) h3
theorem right_of : ∀ {ps : List (List UInt8)}, cellsF ps = 0 → Right ps
  | [], _ => by intro l hl; simp at hl
  | l :: r, h => by
    unfold cellsF at h
    by_cases h1 : pagF l = 0
    · rw [if_neg (by simpa using h1)] at h
      by_cases h2 : badS l 0 (cnt l) = true
      · rw [if_pos h2] at h; cases h
      · rw [if_neg h2] at h
        intro l' hl'
        rcases List.mem_cons.1 hl' with rfl | hl'
        · refine ⟨h1, fun s hs => ?_⟩
          exact badS_no _ 0 (by simpa using h2) s (by omega) (by have := (hasN_iff.1 hs).1; omega) hs
        · exact right_of h l' hl'
    · rw [if_pos h1] at h; exact absurd h h1
noncomputable def viewC (ps : List (List UInt8)) : Int := if 12 < ps.length then 2 else if cellsF ps ≠ 0 then cellsF ps else lookC (spotsF 0 ps)
noncomputable def viewL (ps : List (List UInt8)) : List SeenD := if viewC ps = 0 then srtS (seenS (movsO (spotsF 0 ps)) (spotsF 0 ps)) else []
theorem lp_view2 {P Q : List (List S)} {m i : Int} {l : List UInt8} {h : H} (hp : pagF l = 0) : ∀ (k s : Nat), s + k = cnt l →
    Lp.impl_view 2 [lv P, lv (bys l), lv Q, iv .i64 m, iv .i64 i, iv .i64 (bt l 0), iv .i64 s] h = some (if badS l s k = true then .ret (.tup [.s (.sl none 0), .s (.int .i64 5)]) h else .done [lv P, lv Q, iv .i64 m, iv .i64 i] h) := by
  obtain ⟨h64, ⟨q1, q2, q3⟩, _⟩ := pagF_ok hp
  have hcn := cnt_eq l
  intro k
  induction k with
  | zero =>
    intro s hs
    rw [eq_impl_view_l2, vcase_b, if_neg (by simp; omega), tidy_self]
    rfl
  | succ k ih =>
    intro s hs
    have hcl : (cellB l s).length ≤ lim := by have := cellB_len l s; unfold lim; omega
    rw [eq_impl_view_l2, vcase_b, if_pos (by simp; omega), pc (p_hasSlot hp) rfl]
    simp only [gV1_s, gB_b, vcase_b, tidy_self]
    rw [w64 (n := (s : Int) + 1) (by omega) (by omega), show (s : Int) + 1 = ((s + 1 : Nat) : Int) from by omega, ih (s + 1) (by omega)]
    rw [badS_cons]
    rcases Bool.eq_false_or_eq_true (hasB l (s : Int)) with hh | hh
    case inr => rw [hh, if_neg (by simp)]; simp
    rw [hh, if_pos rfl, p_cellAt hp (by omega)]
    simp only [ob, gV1_s, gF_f]
    rw [pc (p_UnpackCell hcl) (by simp)]
    generalize unpC (cellB l s) = c
    simp only [gVA_a, gx0, gx1, ob, gI_i, gS_s, ln0, ln1, Nat.zero_add, Nat.reduceAdd, if_true, vcase_b]
    rcases Bool.eq_false_or_eq_true (c.code != 0) with hc | hc
    · rw [hc, if_pos rfl]; simp
    · rw [hc, if_neg (by simp)]; simp
theorem lp_view0 {all : List (List UInt8)} {h : H} (hl : all.length ≤ maxLen) : ∀ (rs : List (List UInt8)) (i : Nat), all.drop i = rs →
    Lp.impl_view 0 [lv (bss all), lv (bss all), iv .i64 all.length, iv .i64 i] h = some (if cellsF rs ≠ 0 then .ret (.tup [.s (.sl none 0), .s (.int .i64 (cellsF rs))]) h else .done [lv (bss all)] h) := by
  unfold maxLen at hl
  intro rs
  induction rs with
  | nil =>
    intro i hi
    have := drop_nil hi
    rw [eq_impl_view_l0, vcase_b, if_neg (by simp; omega), tidy_self]
    rfl
  | cons l rs ih =>
    intro i hi
    obtain ⟨g1, g2, g3⟩ := drop_cons hi
    rw [eq_impl_view_l0, vcase_b, if_pos (by simp; omega), idxF_pg g1]
    simp only [gx0, ob, gF_f]
    rw [pc p_PageFault rfl]
    simp only [gV1_s, gI_i, vcase_b]
    by_cases hp : pagF l = 0
    case neg =>
      rw [if_pos (by simpa using hp), cellsF_p hp, if_pos hp]
    rw [if_neg (by simpa using hp)]
    obtain ⟨h64, _⟩ := pagF_ok hp
    rw [pc (p_slots (by omega)) rfl]
    simp only [gV1_s, gI_i]
    rw [show iv .i64 0 = iv .i64 ((0 : Nat) : Int) from rfl, lp_view2 hp (cnt l) 0 (by omega), ob]
    by_cases hb : badS l 0 (cnt l) = true
    · rw [if_pos hb, lcase_ret, cellsF_b hp hb]; rfl
    · rw [if_neg hb, lcase_done, cellsF_n hp hb]
      simp only [gx0, gx1, ob, gV1_s, gF_f, gI_i, tidy_self]
      rw [w64 (n := (i : Int) + 1) (by omega) (by omega), show (i : Int) + 1 = ((i + 1 : Nat) : Int) from by omega]
      exact ih (i + 1) g2
theorem pFt {R : Type} {cl : Nat → List V → H → Option (V × H)} {g : Nat} {xs : List V} {h h1 : H} {v : V} {k : V → H → Option R} (hc : cl g xs (D h.n) = some (v, h1)) : pcallF cl g true xs h k = k v (h.over h1) := by
  unfold pcallF
  rw [hc, ob]
  unfold fchk
  rw [if_pos (.inl rfl)]
  rfl
theorem f_view {all : List (List UInt8)} (hl : all.length ≤ maxLen) (n : Nat) :
    ∃ y h' o, call Ev Fn.impl_view [lv (bss all)] (D n) = some (.tup [.s y, .s (.int .i64 (viewC all))], h') ∧ Ls h' y (viewL all) o ∧ ∀ c, o = some c → n ≤ c := by
  rw [eq_impl_view, bss_len, vcase_b]
  unfold viewL viewC
  by_cases h12 : 12 < all.length
  · rw [if_pos (by simp; omega), if_pos h12, if_neg (by decide)]
    exact ⟨_, _, none, rfl, ⟨rfl, rfl⟩, by simp⟩
  rw [if_neg (by simp; omega), if_neg h12, show iv .i64 0 = iv .i64 ((0 : Nat) : Int) from rfl, lp_view0 hl all 0 rfl, ob]
  by_cases hc : cellsF all = 0
  case neg =>
    rw [if_pos hc, if_pos hc, lcase_ret, if_neg hc]
    exact ⟨_, _, none, rfl, ⟨rfl, rfl⟩, by simp⟩
  rw [if_neg (by simpa using hc), if_neg (by simpa using hc), lcase_done]
  simp only [gx0, ob, gV1_s, gF_f]
  obtain ⟨y, h', o, e1, w1, g1⟩ := f_look (right_of hc) (by omega) n
  rw [pFt (h := D n) e1]
  simp only [gVT_t, gx0, gx1, ob, gA1_s, gI_i, ln0, ln1, Nat.zero_add, Nat.reduceAdd, if_true]
  refine ⟨y, _, o, rfl, ?_, g1⟩
  have hL : (if lookC (spotsF 0 all) = 0 then srtS (seenS (movsO (spotsF 0 all)) (spotsF 0 all)) else []) = lookL (spotsF 0 all) := rfl
  rw [hL]
  refine w1.frame fun c hc => ?_
  have hn := g1 c hc
  subst hc
  have := w1.lt
  exact ⟨by simp only [H.over, D_n]; omega, over_ge (by rw [D_n]; exact hn)⟩
def snl (l : List SeenD) : List (List S) := l.map SeenD.cs
theorem seen_cl {x : SeenD} : ∀ s ∈ x.cs, Cl s := by
  intro s hs
  simp only [List.mem_cons, List.mem_nil_iff, or_false] at hs
  rcases hs with rfl | rfl | rfl | rfl | rfl | rfl | rfl | rfl | rfl
  all_goals first
    | exact cl_i
    | exact cl_s
    | exact cl_b
theorem Ls.frz {h : H} {y : S} {l : List SeenD} {o : Option Nat} {d : Nat} (w : Ls h y l o) : frzS h (d + 1) y = some (.fs (snl l)) := by
  cases o with
  | none => obtain ⟨rfl, rfl⟩ := w; simp [snl]
  | some b =>
    obtain ⟨rfl, h2, h3⟩ := w
    have := frzS_sl (d := d) (rows := snl l) h2 (by omega) h3 (by
      intro r hr
      obtain ⟨x, _, rfl⟩ := List.mem_map.1 hr
      rfl) (by
      intro r hr
      obtain ⟨x, _, rfl⟩ := List.mem_map.1 hr
      exact seen_cl)
    simpa [snl] using this
theorem p_view {all : List (List UInt8)} (hl : all.length ≤ maxLen) : pureV (call Ev) Fn.impl_view [lv (bss all)] = some (.tup [.s (.fs (snl (viewL all))), .s (.int .i64 (viewC all))]) := by
  obtain ⟨y, h', o, e1, w1, g1⟩ := f_view hl 0
  unfold pureV
  rw [e1, ob]
  have := w1.frz (d := 7)
  simp [frzAs, frzA, this]
theorem p_PagesFault {all : List (List UInt8)} (hl : all.length ≤ maxLen) : pureV (call Ev) Fn.impl_PagesFault [lv (bss all)] = some (iv .i64 (viewC all)) := by
  rw [pu_impl_PagesFault, p_view hl]
  simp only [gVT_t, gx0, gx1, ob, gA1_s, gI_i, gF_f, ln0, ln1, Nat.zero_add, Nat.reduceAdd, if_true]
/-! the specification -/
/-- what the specification reads of a cell -/
theorem p_read {l : List UInt8} (hl : l.length ≤ lim) : ∃ c : CellD, pureV (call Ev) Fn.spec_l1Read [lv (bys l)] = some (.tup [.agg c.cs, .s (.bool ((unpC l).code == 0))]) ∧ ((unpC l).code = 0 → c = unpC l) := by
  obtain ⟨c, b, e1, e2, e3⟩ := p_l1Read hl
  refine ⟨c, ?_, ?_⟩
  · rw [e1, e2]
    cases b
    · rfl
    · rw [if_pos rfl, e3]; rfl
  · intro h
    rw [e2] at h ⊢
    cases b
    · cases h
    · rfl
theorem lp_l6Cells2 {all : List (List UInt8)} {l : List UInt8} {i : Nat} {h : H} (hi : all[i]? = some l) (hp : pagF l = 0) : ∀ (k s : Nat), s + k = cnt l →
    ∃ h', Lp.spec_l6Cells 2 [lv (bss all), iv .i64 i, iv .i64 s] h = some (if badS l s k = true then .ret (iv .i64 5) h' else .done [lv (bss all), iv .i64 i] h) := by
  obtain ⟨h64, ⟨q1, q2, q3⟩, _⟩ := pagF_ok hp
  have hcn := cnt_eq l
  intro k
  induction k with
  | zero =>
    intro s hs
    rw [eq_spec_l6Cells_l2, idxF_pg hi]
    simp only [gx0, ob, gF_f]
    rw [pc (p_l2Count (by omega)) rfl]
    simp only [gV1_s, gI_i]
    rw [vcase_b, if_neg (by simp; omega), tidy_self]
    exact ⟨h, rfl⟩
  | succ k ih =>
    intro s hs
    have hcl : (cellB l s).length ≤ lim := by have := cellB_len l s; unfold lim; omega
    obtain ⟨h', ih'⟩ := ih (s + 1) (by omega)
    rw [eq_spec_l6Cells_l2]
    simp only [idxF_pg hi]
    simp only [gx0, ob, gF_f]
    rw [pc (p_l2Count (by omega)) rfl]
    simp only [gV1_s, gI_i]
    rw [vcase_b, if_pos (by simp; omega), pc (p_l2Size (by omega) (by omega)) rfl]
    simp only [gV1_s, gI_i, vcase_b, tidy_self]
    rw [w64 (n := (s : Int) + 1) (by omega) (by omega), show (s : Int) + 1 = ((s + 1 : Nat) : Int) from by omega]
    rw [badS_cons]
    have hpl := (pl_bd l s).2.2.1
    by_cases hz : siz l s = 0
    · have hh : hasB l (s : Int) = false := by
        cases hq : hasB l (s : Int)
        · rfl
        · exact absurd hz (hasN_iff.1 hq).2
      rw [if_neg (by simp; omega), ih', hh]
      exact ⟨h', by simp⟩
    have hh : hasB l (s : Int) = true := hasN_iff.2 ⟨by omega, hz⟩
    rw [if_pos (by simp; omega), p_l2Cell hp (by omega), hh]
    simp only [ob, gV1_s, gF_f]
    obtain ⟨c, e1, e2⟩ := p_read hcl
    rw [pc e1 (by simp)]
    generalize unpC (cellB l s) = c' at e2
    simp only [gVT_t, gVA_a, gAA_a, gA1_s, gB_b, gx0, gx1, ob, gI_i, gS_s, ln0, ln1, Nat.zero_add, Nat.reduceAdd, if_true]
    rw [stK_X (z := 8) rfl rfl, putX_tidy (by simp [belV, belS]), ih']
    rcases Bool.eq_false_or_eq_true (c'.code == 0) with hc | hc
    · have : (c'.code != 0) = false := by rw [bne, hc]; rfl
      rw [hc, if_neg (by simp), this]
      exact ⟨h', by simp⟩
    · have : (c'.code != 0) = true := by rw [bne, hc]; rfl
      rw [hc, if_pos (show (!false) = true from rfl), this]
      exact ⟨_, rfl⟩
theorem p_l6Cells {all : List (List UInt8)} (hl : all.length ≤ maxLen) : pureV (call Ev) Fn.spec_l6Cells [lv (bss all)] = some (iv .i64 (cellsF all)) := by
  unfold maxLen at hl
  have loop : ∀ (rs : List (List UInt8)) (i : Nat), all.drop i = rs → ∃ h', Lp.spec_l6Cells 0 [lv (bss all), iv .i64 i] (D 0) = some (if cellsF rs ≠ 0 then .ret (iv .i64 (cellsF rs)) h' else .done [] (D 0)) := by
    intro rs
    induction rs with
    | nil =>
      intro i hi
      have := drop_nil hi
      rw [eq_spec_l6Cells_l0, vcase_b, if_neg (by simp; omega), tidy_self]
      exact ⟨D 0, rfl⟩
    | cons l rs ih =>
      intro i hi
      obtain ⟨g1, g2, g3⟩ := drop_cons hi
      rw [eq_spec_l6Cells_l0, vcase_b, if_pos (by simp; omega), idxF_pg g1]
      simp only [gx0, ob, gF_f]
      rw [pc p_l2Fault rfl]
      simp only [gV1_s, gI_i, vcase_b]
      by_cases hp : pagF l = 0
      case neg =>
        rw [if_pos (by simpa using hp), cellsF_p hp]
        exact ⟨D 0, (congrArg some (if_pos hp)).symm⟩
      rw [if_neg (by simpa using hp)]
      obtain ⟨h1, e1⟩ := lp_l6Cells2 (h := D 0) g1 hp (cnt l) 0 (by omega)
      rw [show iv .i64 0 = iv .i64 ((0 : Nat) : Int) from rfl, e1, ob]
      by_cases hb : badS l 0 (cnt l) = true
      · rw [if_pos hb, lcase_ret, cellsF_b hp hb]
        exact ⟨_, rfl⟩
      · rw [if_neg hb, lcase_done, cellsF_n hp hb]
        simp only [gx0, gx1, ob, gV1_s, gF_f, gI_i, tidy_self]
        rw [w64 (n := (i : Int) + 1) (by omega) (by omega), show (i : Int) + 1 = ((i + 1 : Nat) : Int) from by omega]
        exact ih (i + 1) g2
  obtain ⟨h', e⟩ := loop all 0 rfl
  rw [pu_spec_l6Cells, show iv .i64 0 = iv .i64 ((0 : Nat) : Int) from rfl, e, ob]
  by_cases hc : cellsF all = 0
  · rw [if_neg (by simpa using hc), lcase_done, hc]; rfl
  · rw [if_pos hc, lcase_ret]; simp
end Vm
/-
  The specification's spots, stubs and seen rows.
-/
namespace Vm
open Go Go.Sort
/-- rows of one's own, in a block -/
structure Lz (z : Nat) (h : H) (y : S) (rows : List (List S)) (b : Nat) : Prop where
  y : y = .sl (some (b, 0)) rows.length
  n : b < h.n
  g : h.g b = .rw z rows.flatten
  z : ∀ r ∈ rows, r.length = z
theorem Lz.frame {z : Nat} {h h' : H} {y : S} {rows : List (List S)} {b : Nat} (w : Lz z h y rows b) (hn : b < h'.n) (hg : h'.g b = h.g b) : Lz z h' y rows b := ⟨w.y, hn, hg.trans w.g, w.z⟩
theorem Lz.app {z : Nat} {h : H} {y : S} {rows : List (List S)} {b : Nat} {r : List S} (w : Lz z h y rows b) (hr : r.length = z) (hz : 0 < z) (hl : rows.length + 1 ≤ lim) :
    ∃ h', appS z (h.new z r) (.s y) (sv h.n 0 1) = some (sv (h.n + 1) 0 (rows.length + 1), h') ∧ Lz z h' (.sl (some (h.n + 1, 0)) (rows.length + 1)) (rows ++ [r]) (h.n + 1) ∧ h'.n = h.n + 2 := by
  obtain ⟨rfl, h2, h3, h4⟩ := w
  have cy : cellsS z (h.new z r) (sv h.n 0 1) = some r := by
    simp only [cellsS, H.cells, new_n, new_g, Blk.cells]
    rw [if_pos ⟨by omega, by simp; omega⟩]
    simp [← hr]
  have hbn : b ≠ h.n := by omega
  have cx : cellsS z (h.new z r) (sv b 0 rows.length) = some rows.flatten := by
    have hc : (h.new z r).cells b = rows.flatten := by unfold H.cells; rw [if_pos (by simp; omega), new_g' hbn, h3]; rfl
    have := flat_len h4
    simp only [cellsS, hc]
    rw [if_pos ⟨by simp; omega, by omega⟩, List.drop_zero, List.take_of_length_le (by omega)]
  refine ⟨((h.new z r).put b .dead).new z (rows.flatten ++ r), ?_, ⟨by simp, by simp, ?_, ?_⟩, by simp⟩
  · simp only [appS, cx, cy, ob, lenS]
    rw [if_pos ⟨by rw [new_n]; omega, hl, hz⟩, new_g' hbn, h3]
    simp only [if_true]
    rfl
  · have := new_g ((h.new z r).put b .dead) z (rows.flatten ++ r)
    simpa using this
  · intro q hq
    rcases List.mem_append.1 hq with hq | hq
    · exact h4 q hq
    · rw [List.mem_singleton.1 hq]; exact hr
theorem Lz.frz {z d : Nat} {h : H} {y : S} {rows : List (List S)} {b : Nat} (w : Lz z h y rows b) (hz : 0 < z) (hc : ∀ r ∈ rows, ∀ s ∈ r, Cl s) : frzS h (d + 1) y = some (.fs rows) := by
  rw [w.y]
  exact frzS_sl w.n hz w.g w.z hc
theorem Lz.bel {z : Nat} {h : H} {y : S} {rows : List (List S)} {b : Nat} (w : Lz z h y rows b) : belV h.n (.s y) = true := by
  rw [w.y]; simpa [belV, belS] using w.n
theorem Lz.tidy {z : Nat} {h h1 : H} {y : S} {rows : List (List S)} {b : Nat} {l : List V} (w : Lz z h1 y rows b) (hl : V.s y ∈ l) : Lz z (tidy h l h1) y rows b := by
  unfold Vm.tidy
  split
  · rename_i ht
    have hb := List.all_eq_true.1 ht.2.1 _ hl
    rw [w.y] at hb
    have hlt : b < h.n := by simpa [belV, belS] using hb
    exact ⟨w.y, hlt, by simp only [if_pos hlt]; exact w.g, w.z⟩
  · exact w
abbrev spc (x : SpotD) : List S := [.int .i64 x.p, .int .i64 x.s, .int .i64 x.c.code, .int .i64 x.c.flag, .int .i64 x.c.page, .int .i64 x.c.slot, .int .i64 x.c.row.tab, .int .i64 x.c.row.key, .int .i64 x.c.row.val, .str x.c.row.text]
def sps (sp : List SpotD) : List (List S) := sp.map spc
@[simp] theorem sps_len (sp : List SpotD) : (sps sp).length = sp.length := by simp [sps]
theorem sps_app (a b : List SpotD) : sps (a ++ b) = sps a ++ sps b := by simp [sps]
theorem sps_get {sp : List SpotD} {i : Nat} {x : SpotD} (h : sp[i]? = some x) : (sps sp)[i]? = some (spc x) := by simp [sps, h]
theorem idxF_sp {R : Type} {sp : List SpotD} {i : Nat} {x : SpotD} {k : List S → Option R} (h : sp[i]? = some x) : idxF 10 (sps sp) (i : Int) k = k (spc x) := idxF_at (sps_get h) rfl
theorem spc_cl {sp : List SpotD} : ∀ r ∈ sps sp, ∀ s ∈ r, Cl s := by
  intro r hr
  obtain ⟨x, _, rfl⟩ := List.mem_map.1 hr
  intro s hs
  simp only [List.mem_cons, List.mem_nil_iff, or_false] at hs
  rcases hs with rfl | rfl | rfl | rfl | rfl | rfl | rfl | rfl | rfl | rfl
  all_goals first
    | exact cl_i
    | exact cl_s
theorem lp_Spots2 {all : List (List UInt8)} {l : List UInt8} {i : Nat} (hi : all[i]? = some l) (hp : pagF l = 0) (hc : ∀ s : Nat, hasB l s = true → (unpC (cellB l s)).code = 0) :
    ∀ (k s : Nat) (h : H) (y : S) (sp : List SpotD) (b : Nat), s + k = cnt l → Lz 10 h y (sps sp) b → sp.length + k ≤ 1000 →
    ∃ h' y' b', Lp.spec_l6Spots 2 [lv (bss all), .s y, iv .i64 i, iv .i64 s] h = some (.done [lv (bss all), .s y', iv .i64 i] h') ∧ Lz 10 h' y' (sps (sp ++ spotsP i l s k)) b' := by
  obtain ⟨h64, ⟨q1, q2, q3⟩, _⟩ := pagF_ok hp
  have hcn := cnt_eq l
  intro k
  induction k with
  | zero =>
    intro s h y sp b hs w _
    rw [eq_spec_l6Spots_l2, idxF_pg hi]
    simp only [gx0, ob, gF_f]
    rw [pc (p_l2Count (by omega)) rfl]
    simp only [gV1_s, gI_i]
    rw [vcase_b, if_neg (by simp; omega), tidy_self]
    exact ⟨h, y, b, rfl, by simpa [spotsP] using w⟩
  | succ k ih =>
    intro s h y sp b hs w hl
    have hcl : (cellB l s).length ≤ lim := by have := cellB_len l s; unfold lim; omega
    rw [eq_spec_l6Spots_l2]
    simp only [idxF_pg hi]
    simp only [gx0, ob, gF_f]
    rw [pc (p_l2Count (by omega)) rfl]
    simp only [gV1_s, gI_i]
    rw [vcase_b, if_pos (by simp; omega), pc (p_l2Size (by omega) (by omega)) rfl]
    simp only [gV1_s, gI_i, vcase_b, tidy_self]
    rw [w64 (n := (s : Int) + 1) (by omega) (by omega), show (s : Int) + 1 = ((s + 1 : Nat) : Int) from by omega]
    have hpl := (pl_bd l s).2.2.1
    by_cases hz : siz l s = 0
    · have hh : ¬ hasB l (s : Int) = true := fun h => (hasN_iff.1 h).2 hz
      have e : spotsP i l s (k + 1) = spotsP i l (s + 1) k := by simp only [spotsP]; rw [if_neg hh]
      rw [if_neg (by simp; omega), e]
      exact ih (s + 1) h y sp b (by omega) w (by omega)
    have hh : hasB l (s : Int) = true := hasN_iff.2 ⟨by omega, hz⟩
    have e : spotsP i l s (k + 1) = ⟨i, s, unpC (cellB l s)⟩ :: spotsP i l (s + 1) k := by simp only [spotsP]; rw [if_pos hh]
    rw [if_pos (by simp; omega), p_l2Cell hp (by omega), e]
    simp only [ob, gV1_s, gF_f]
    obtain ⟨c, e1, e2⟩ := p_read hcl
    have h0 := hc s hh
    rw [pc e1 (by simp), ← e2 h0]
    simp only [gVT_t, gVA_a, gAA_a, gA1_s, gB_b, gx0, gx1, ob, gI_i, gS_s, ln0, ln1, Nat.zero_add, Nat.reduceAdd, if_true]
    rw [stK_X (z := 8) rfl rfl, loadN_X (r := c.cs) (by simp) rfl]
    simp only [gVT_t, gVA_a, gAA_a, gA1_s, gB_b, gx0, gx1, ob, gI_i, gS_s, ln0, ln1, Nat.zero_add, Nat.reduceAdd, if_true]
    have hkx := putX_keep h z8 c.cs
    have wX : Lz 10 (putX h z8 c.cs) y (sps sp) b := w.frame (Nat.lt_of_lt_of_le w.n hkx.1) (putX_lt w.n)
    obtain ⟨h', e3, w3, n3⟩ := wX.app (r := spc ⟨i, s, c⟩) rfl (by omega) (by rw [sps_len]; unfold lim; omega)
    have e3' : appS 10 ((putX h z8 c.cs).new 10 [.int .i64 i, .int .i64 s, .int .i64 c.code, .int .i64 c.flag, .int .i64 c.page, .int .i64 c.slot, .int .i64 c.row.tab, .int .i64 c.row.key, .int .i64 c.row.val, .str c.row.text]) (.s y) (sv (putX h z8 c.cs).n 0 1) = _ := e3
    rw [e3', ob]
    dsimp only
    rw [tidy_new (by simp [belV, belS, putX_n]; omega)]
    obtain ⟨h4, y4, b4, e4, w4⟩ := ih (s + 1) h' _ (sp ++ [⟨i, s, c⟩]) _ (by omega) (by rw [sps_app]; exact w3) (by rw [List.length_append, List.length_singleton]; omega)
    exact ⟨h4, y4, b4, e4, by simpa using w4⟩
theorem p_l6Spots {all : List (List UInt8)} (hr : Right all) (hl : all.length ≤ 12) : pureV (call Ev) Fn.spec_l6Spots [lv (bss all)] = some (lv (sps (spotsF 0 all))) := by
  have loop : ∀ (rs : List (List UInt8)) (i : Nat) (h : H) (y : S) (sp : List SpotD) (b : Nat), all.drop i = rs → Lz 10 h y (sps sp) b → sp.length ≤ 16 * i →
      ∃ h' y' b', Lp.spec_l6Spots 0 [lv (bss all), .s y, iv .i64 i] h = some (.done [.s y'] h') ∧ Lz 10 h' y' (sps (sp ++ spotsF i rs)) b' := by
    intro rs
    induction rs with
    | nil =>
      intro i h y sp b hi w _
      have := drop_nil hi
      rw [eq_spec_l6Spots_l0, vcase_b, if_neg (by simp; omega), tidy_self]
      exact ⟨h, y, b, rfl, by simpa [spotsF] using w⟩
    | cons l rs ih =>
      intro i h y sp b hi w hsp
      obtain ⟨g1, g2, g3⟩ := drop_cons hi
      have hm := List.mem_of_getElem? g1
      have h16 := hr.cnt hm
      rw [eq_spec_l6Spots_l0, vcase_b, if_pos (by simp; omega)]
      obtain ⟨h1, y1, b1, e1, w1⟩ := lp_Spots2 g1 (hr l hm).1 (hr l hm).2 (Vm.cnt l) 0 h y sp b (by omega) w (by omega)
      rw [show iv .i64 0 = iv .i64 ((0 : Nat) : Int) from rfl, e1, ob, lcase_done]
      simp only [gx0, gx1, ob, gV1_s, gF_f, gI_i]
      rw [w64 (n := (i : Int) + 1) (by omega) (by omega), show (i : Int) + 1 = ((i + 1 : Nat) : Int) from by omega]
      have hle := spotsP_len i l (Vm.cnt l) 0
      obtain ⟨h2, y2, b2, e2, w2⟩ := ih (i + 1) _ y1 _ b1 g2 (w1.tidy (h := h) (l := [lv (bss all), .s y1, iv .i64 ((i + 1 : Nat) : Int)]) (by simp)) (by rw [List.length_append]; omega)
      exact ⟨h2, y2, b2, e2, by rw [spotsF]; simpa using w2⟩
  have w0 : Lz 10 ((D 0).new 10 []) (.sl (some (0, 0)) 0) (sps []) 0 := ⟨rfl, by simp, new_g (D 0) 10 [], by simp [sps]⟩
  obtain ⟨h', y, b, e, w⟩ := loop all 0 _ _ [] 0 rfl w0 (by simp)
  rw [pu_spec_l6Spots, show iv .i64 0 = iv .i64 ((0 : Nat) : Int) from rfl, e, ob, lcase_done]
  simp only [gx0, ob]
  have := w.frz (d := 7) (by omega) spc_cl
  rw [frzV_s, this]; simp
theorem p_l6Cell {all : List (List UInt8)} (hr : Right all) (hl : all.length ≤ 12) {a b : Int} (h1 : -9223372036854775808 ≤ b) (h2 : b < 9223372036854775808) :
    pureV (call Ev) Fn.spec_l6Cell [lv (bss all), iv .i64 a, iv .i64 b] = some (.tup [.agg ((cellAtF all a b).getD ⟨0, 0, 0, 0, noR⟩).cs, .s (.bool (cellAtF all a b).isSome)]) := by
  rw [pu_spec_l6Cell, pc (p_l1In _ _ _) rfl, bss_len, w64 (by omega) (by omega)]
  simp only [gV1_s, gB_b]
  rw [vcase_b]
  have jt : Jn.spec_l6Cell_0 true (bss all) a b = some (.tup [.agg (CellD.cs ⟨0, 0, 0, 0, noR⟩), .s (.bool false)]) := by
    unfold Jn.spec_l6Cell_0; rfl
  by_cases hin : inB a 0 ((all.length : Int) - 1) = true
  case neg =>
    rw [if_pos (by simpa using hin), jt]
    have : cellAtF all a b = none := by
      unfold cellAtF
      rw [if_neg]
      intro hh
      exact hin (inB_iff.2 ⟨by omega, by omega⟩)
    rw [this]; rfl
  rw [if_neg (by simpa using hin)]
  have hin' := inB_iff.1 hin
  obtain ⟨i, rfl⟩ : ∃ i : Nat, a = i := ⟨a.toNat, by omega⟩
  obtain ⟨l, hi⟩ : ∃ l, all[i]? = some l := ⟨_, List.getElem?_eq_getElem (by omega)⟩
  obtain ⟨hp, hc⟩ := hr l (List.mem_of_getElem? hi)
  rw [idxF_pg hi]
  simp only [gx0, ob, gF_f]
  rw [pc (p_l2Has hp h1 h2) rfl]
  simp only [gV1_s, gB_b]
  have e : cellAtF all (i : Int) b = if hasB l b = true then some (unpC (cellB l b.toNat)) else none := by
    unfold cellAtF
    rw [if_pos ⟨by omega, by omega⟩, Int.toNat_natCast, hi]
  rw [e]
  by_cases hh : hasB l b = true
  case neg =>
    have hf : hasB l b = false := by simpa using hh
    rw [hf]
    exact jt
  rw [if_pos hh, hh]
  obtain ⟨k, h4, h5, h6⟩ := hasB_nat hh
  subst h4
  have hcl : (cellB l k).length ≤ lim := by
    have := cellB_len l k
    have := (pagF_ok hp).1
    unfold lim; omega
  obtain ⟨c, e1, e2⟩ := p_read hcl
  have h0 := hc k hh
  unfold Jn.spec_l6Cell_0
  rw [vcase_b, if_neg (by simp), idxF_pg hi]
  simp only [gx0, ob, gF_f]
  rw [p_l2Cell hp h5]
  simp only [ob, gV1_s, gF_f]
  rw [pc e1 (by simp), h0]
  simp only [gVT_t, gVA_a, gAA_a, gA1_s, gB_b, gx0, gx1, ob, gI_i, gS_s, ln0, ln1, Nat.zero_add, Nat.reduceAdd, if_true]
  rw [Int.toNat_natCast, ← e2 h0]
  rfl
end Vm
/-
  The specification's fault of pages is the view's.
-/
namespace Vm
open Go Go.Sort
/-- the cells of pages, with places that are numbers of a page and of a slot -/
structure SpOk (all : List (List UInt8)) (x : SpotD) : Prop where
  f : x.c.flag = 0 ∨ x.c.flag = 1 ∨ x.c.flag = 2
  b : -9223372036854775808 ≤ x.c.slot ∧ x.c.slot < 9223372036854775808
theorem unpC_slot (l : List UInt8) : -9223372036854775808 ≤ (unpC l).slot ∧ (unpC l).slot < 9223372036854775808 := by
  have h1 := bt_nn l 2
  have h2 := bt_lt l 2
  unfold unpC
  split
  · exact ⟨by show _ ≤ bt l 2; omega, by show bt l 2 < _; omega⟩
  · split
    · exact ⟨by show _ ≤ (0 : Int); omega, by show (0 : Int) < _; omega⟩
    · exact ⟨by show _ ≤ (0 : Int); omega, by show (0 : Int) < _; omega⟩
theorem spotsP_ok {p : Nat} {l : List UInt8} {Q : SpotD → Prop} (hq : ∀ s : Nat, hasB l s = true → Q ⟨p, s, unpC (cellB l s)⟩) : ∀ (k s : Nat), ∀ x ∈ spotsP p l s k, Q x
  | 0, s, x, hx => by simp [spotsP] at hx
  | k + 1, s, x, hx => by
    simp only [spotsP] at hx
    split at hx
    · rename_i hh
      rcases List.mem_cons.1 hx with rfl | hx
      · exact hq s hh
      · exact spotsP_ok hq k _ x hx
    · exact spotsP_ok hq k _ x hx
theorem spotsF_ok {Q : SpotD → Prop} : ∀ (rs : List (List UInt8)) (p : Nat), (∀ (i : Nat) (l : List UInt8), rs[i]? = some l → ∀ s : Nat, hasB l s = true → Q ⟨p + i, s, unpC (cellB l s)⟩) → ∀ x ∈ spotsF p rs, Q x
  | [], p, _, x, hx => by simp [spotsF] at hx
  | l :: rs, p, h, x, hx => by
    rw [spotsF] at hx
    rcases List.mem_append.1 hx with hx | hx
    · exact spotsP_ok (fun s hs => h 0 l rfl s hs) _ _ x hx
    · exact spotsF_ok rs (p + 1) (fun i l' hi s hs => by
        have := h (i + 1) l' (by simpa using hi) s hs
        rw [show p + 1 + i = p + (i + 1) by omega]; exact this) x hx
theorem spots_sp {all : List (List UInt8)} (hr : Right all) : ∀ x ∈ spotsF 0 all, SpOk all x :=
  spotsF_ok all 0 fun i l hi s hs => ⟨unpC_flag _ ((hr l (List.mem_of_getElem? hi)).2 s hs), unpC_slot _⟩
/-- two stubs of one place -/
def samePt (x y : SpotD) : Bool := (x.c.flag == 1) && ((y.c.flag == 1) && ((x.c.page == y.c.page) && (x.c.slot == y.c.slot)))
def dup2 : List SpotD → List SpotD → Bool
  | _, [] => false
  | pre, x :: l => (pre.any fun y => samePt x y) || dup2 (pre ++ [x]) l
theorem dup2_S : ∀ (l pre : List SpotD), dup2 pre l = dupS ((stubsO pre).map fun x => (x.at_, x.place)) (stubsO l)
  | [], pre => rfl
  | x :: l, pre => by
    rw [dup2, dup2_S l (pre ++ [x]), stubsO_app]
    by_cases hf : x.c.flag = 1
    · rw [stubsO_y hf, stubsO_y hf, dupS, List.map_append]
      congr 1
      induction pre with
      | nil => simp [stubsO]
      | cons y pre ih =>
        rw [List.any_cons, ih]
        by_cases hg : y.c.flag = 1
        · rw [stubsO_y hg, List.map_cons]
          have : samePt x y = decide ((x.c.page, x.c.slot) = (y.c.page, y.c.slot)) := by
            unfold samePt
            by_cases h1 : x.c.page = y.c.page <;> by_cases h2 : x.c.slot = y.c.slot <;> simp [hf, hg, h1, h2]
          rw [this]
          show _ = decide ((x.c.page, x.c.slot) ∈ (y.c.page, y.c.slot) :: _)
          simp only [List.mem_cons, Bool.decide_or]
          rfl
        · rw [stubsO_n hg]
          have : samePt x y = false := by unfold samePt; simp [hg]
          rw [this, Bool.false_or]
    · rw [stubsO_n hf, stubsO_n hf]
      have : (pre.any fun y => samePt x y) = false := by
        rw [List.any_eq_false]
        intro y _
        unfold samePt; simp [hf]
      rw [this, Bool.false_or]
      simp [stubsO]
abbrev z10 : List S := [.int .i64 0, .int .i64 0, .int .i64 0, .int .i64 0, .int .i64 0, .int .i64 0, .int .i64 0, .int .i64 0, .int .i64 0, .str (⟨#[]⟩)]
theorem mv_cell {all : List (List UInt8)} (a b : Int) : mvF (movsO (spotsF 0 all)) a b = (cellAtF all a b).bind fun c => if c.flag = 2 then some c.row else none := by
  by_cases ha : 0 ≤ a
  · have := mv_at all 0 a b (by omega)
    rw [this]; simp
  · have e : cellAtF all a b = none := by unfold cellAtF; rw [if_neg (by omega)]
    rw [e]
    unfold mvF
    rw [Option.bind_none, Option.map_eq_none_iff, List.find?_eq_none]
    intro x _
    simp; omega
theorem p_l6Stubs {all : List (List UInt8)} (hr : Right all) (hl : all.length ≤ 12) {sp : List SpotD} (hsp : ∀ x ∈ sp, SpOk all x) (hn : sp.length ≤ 1000) :
    pureV (call Ev) Fn.spec_l6Stubs [lv (sps sp), lv (bss all)] = some (iv .i64 (if missF (movsO (spotsF 0 all)) (stubsO sp) = true then 4 else if dupS [] (stubsO sp) = true then 6 else 0)) := by
  have loop0 : ∀ (rs : List SpotD) (i : Nat), sp.drop i = rs → ∃ h', Lp.spec_l6Stubs 0 [lv (sps sp), lv (bss all), iv .i64 i] (D 0) = some (if missF (movsO (spotsF 0 all)) (stubsO rs) = true then .ret (iv .i64 4) h' else .done [lv (sps sp)] (D 0)) := by
    intro rs
    induction rs with
    | nil =>
      intro i hi
      have := drop_nil hi
      rw [eq_spec_l6Stubs_l0, vcase_b, if_neg (by simp; omega), tidy_self]
      exact ⟨D 0, rfl⟩
    | cons x rs ih =>
      intro i hi
      obtain ⟨g1, g2, g3⟩ := drop_cons hi
      obtain ⟨h', ih'⟩ := ih (i + 1) g2
      have hx := hsp x (List.mem_of_getElem? g1)
      rw [eq_spec_l6Stubs_l0, vcase_b, if_pos (by simp; omega)]
      simp only [idxF_sp g1]
      simp only [gx0, gx1, ob, gI_i, vcase_b, tidy_self]
      rw [w64 (n := (i : Int) + 1) (by omega) (by omega), show (i : Int) + 1 = ((i + 1 : Nat) : Int) from by omega, ih']
      by_cases hf : x.c.flag = 1
      case neg =>
        rw [if_pos (by simpa using hf), stubsO_n hf]
        exact ⟨h', rfl⟩
      rw [if_neg (by simpa using hf), stubsO_y hf, miss_cons, pc (p_l6Cell hr hl hx.b.1 hx.b.2) (by simp)]
      simp only [gVT_t, gVA_a, gAA_a, gA1_s, gB_b, gx0, gx1, ob, gI_i, gS_s, ln0, ln1, Nat.zero_add, Nat.reduceAdd, if_true]
      rw [stK_X (z := 8) rfl rfl, hchk_of (putX_keep _ _ _).ext, show (mkStub x).at_ = x.c.page from rfl, show (mkStub x).place = x.c.slot from rfl, mv_cell]
      cases hc : cellAtF all x.c.page x.c.slot with
      | none => exact ⟨_, rfl⟩
      | some c =>
        rw [if_neg (by simp), load1_X (o := 1) (x := .int .i64 c.flag) rfl]
        simp only [ob, gI_i, vcase_b]
        by_cases h2 : c.flag = 2
        · rw [if_neg (by simpa using h2), putX_tidy (by simp [belV, belS]), ih']
          refine ⟨h', ?_⟩
          rw [if_pos h2]
          rfl
        · rw [if_pos (by simpa using h2)]
          rw [if_neg h2]
          exact ⟨_, rfl⟩
  have loop4 : ∀ (i : Nat) (x : SpotD), sp[i]? = some x → ∀ (k j : Nat), j + k = i → Lp.spec_l6Stubs 4 [lv (sps sp), iv .i64 i, iv .i64 j] (D 0) = some (if ((sp.take i).drop j).any (fun y => samePt x y) = true then .ret (iv .i64 6) (D 0) else .done [lv (sps sp), iv .i64 i] (D 0)) := by
    intro i x hx k
    have hi := (List.getElem?_eq_some_iff.1 hx).1
    induction k with
    | zero =>
      intro j hj
      rw [eq_spec_l6Stubs_l4, vcase_b, if_neg (by simp; omega), tidy_self, List.drop_of_length_le (by rw [List.length_take]; omega)]
      rfl
    | succ k ih =>
      intro j hj
      obtain ⟨y, hy⟩ : ∃ y, sp[j]? = some y := ⟨_, List.getElem?_eq_getElem (by omega)⟩
      have hd : (sp.take i).drop j = y :: (sp.take i).drop (j + 1) := by
        have : (sp.take i)[j]? = some y := by rw [List.getElem?_take]; rw [if_pos (by omega)]; exact hy
        obtain ⟨h1, h2⟩ := List.getElem?_eq_some_iff.1 this
        rw [List.drop_eq_getElem_cons h1, h2]
      rw [eq_spec_l6Stubs_l4, vcase_b, if_pos (by simp; omega), idxF_sp hx, idxF_sp hy, w64 (n := (j : Int) + 1) (by omega) (by omega), show (j : Int) + 1 = ((j + 1 : Nat) : Int) from by omega, tidy_self, ih (j + 1) (by omega), hd, List.any_cons]
      simp only [gx0, gx1, ob, gI_i, vcase_b]
      unfold samePt
      by_cases h1 : x.c.flag = 1 <;> by_cases h2 : y.c.flag = 1 <;> by_cases h3 : x.c.page = y.c.page <;> by_cases h4 : x.c.slot = y.c.slot <;> simp [h1, h2, h3, h4]
  have loop2 : ∀ (rs : List SpotD) (i : Nat), sp.drop i = rs → Lp.spec_l6Stubs 2 [lv (sps sp), iv .i64 i] (D 0) = some (if dup2 (sp.take i) rs = true then .ret (iv .i64 6) (D 0) else .done [] (D 0)) := by
    intro rs
    induction rs with
    | nil =>
      intro i hi
      have := drop_nil hi
      rw [eq_spec_l6Stubs_l2, vcase_b, if_neg (by simp; omega), tidy_self]
      rfl
    | cons x rs ih =>
      intro i hi
      obtain ⟨g1, g2, g3⟩ := drop_cons hi
      have ht : sp.take (i + 1) = sp.take i ++ [x] := by
        rw [List.take_add_one, g1]; rfl
      rw [eq_spec_l6Stubs_l2, vcase_b, if_pos (by simp; omega), show iv .i64 0 = iv .i64 ((0 : Nat) : Int) from rfl, loop4 i x g1 i 0 (by omega), ob, List.drop_zero, dup2]
      rcases Bool.eq_false_or_eq_true ((sp.take i).any fun y => samePt x y) with hq | hq
      · rw [hq, if_pos rfl, lcase_ret]; rfl
      · rw [hq, if_neg (by simp), lcase_done]
        simp only [gx0, gx1, ob, gV1_s, gF_f, gI_i, tidy_self]
        rw [w64 (n := (i : Int) + 1) (by omega) (by omega), show (i : Int) + 1 = ((i + 1 : Nat) : Int) from by omega, ih (i + 1) g2, ht, Bool.false_or]
  obtain ⟨h', e⟩ := loop0 sp 0 rfl
  rw [pu_spec_l6Stubs, show iv .i64 0 = iv .i64 ((0 : Nat) : Int) from rfl, e, ob]
  by_cases hm : missF (movsO (spotsF 0 all)) (stubsO sp) = true
  · rw [if_pos hm, if_pos hm, lcase_ret]; simp
  rw [if_neg hm, if_neg hm, lcase_done]
  simp only [gx0, ob, gV1_s, gF_f]
  rw [loop2 sp 0 rfl, ob, dup2_S, List.take_zero]
  rw [show (List.map (fun (x : SeenD) => (x.at_, x.place)) (stubsO [])) = [] from rfl]
  by_cases hd : dupS [] (stubsO sp) = true
  · rw [if_pos hd, if_pos hd, lcase_ret]; simp
  · rw [if_neg hd, if_neg hd, lcase_done]; simp
/-- a spot with its row -/
def seenX (ms : List SpotD) (x : SpotD) : SpotD := if x.c.flag = 1 then { x with c := { x.c with row := (mvF ms x.c.page x.c.slot).getD noR } } else x
def seenP (ms : List SpotD) (sp : List SpotD) : List SpotD := (sp.filter fun x => !(x.c.flag == 2)).map (seenX ms)
theorem seenP_cons (ms : List SpotD) (x : SpotD) (sp : List SpotD) : seenP ms (x :: sp) = if x.c.flag = 2 then seenP ms sp else seenX ms x :: seenP ms sp := by
  unfold seenP
  by_cases h : x.c.flag = 2
  · rw [List.filter_cons, if_neg (by simp [h]), if_pos h]
  · rw [List.filter_cons, if_pos (by simpa using h), if_neg h]; rfl
/-- what is seen at a spot -/
def toSeen (x : SpotD) : SeenD := if x.c.flag = 1 then ⟨x.c.row, x.p, x.s, true, x.c.page, x.c.slot⟩ else mkRow x
theorem seenP_S (ms : List SpotD) : ∀ (sp : List SpotD), seenS ms sp = (seenP ms sp).map toSeen
  | [] => rfl
  | x :: sp => by
    rw [seenS, seenP_cons, seenP_S ms sp]
    by_cases h : x.c.flag = 2
    · rw [if_pos h, if_pos h]
    · rw [if_neg h, if_neg h, List.map_cons]
      congr 1
      unfold seenX
      by_cases h1 : x.c.flag = 1
      · rw [if_pos h1, if_pos h1]
        unfold toSeen
        rw [if_pos h1]
        rfl
      · rw [if_neg h1, if_neg h1]
        unfold toSeen
        rw [if_neg h1]
theorem seenP_len (ms : List SpotD) (sp : List SpotD) : (seenP ms sp).length ≤ sp.length := by
  unfold seenP; rw [List.length_map]; exact List.length_filter_le _ _
theorem jn_seen {all : List (List UInt8)} {h h1 : H} {y : S} {sp acc : List SpotD} {x : SpotD} {b i : Nat} (hn : h.n < h1.n) (hg : h1.g h.n = .rw 0 (spc x)) (w : Lz 10 h1 y (sps acc) b) (hl : acc.length ≤ 1000) (hi : i < 1000) :
    ∃ h2, Jn.spec_l6Seen_l0_0 h1 h (.s y) (bss all) (sps sp) (i : Int) = Lp.spec_l6Seen 0 [lv (bss all), .s (.sl (some (h1.n + 1, 0)) (acc.length + 1)), lv (sps sp), iv .i64 ((i + 1 : Nat) : Int)] h2 ∧ Lz 10 h2 (.sl (some (h1.n + 1, 0)) (acc.length + 1)) (sps (acc ++ [x])) (h1.n + 1) := by
  obtain ⟨h2, e, w2, n2⟩ := w.app (r := spc x) rfl (by omega) (by rw [sps_len]; unfold lim; omega)
  refine ⟨h2, ?_, by rw [sps_app, show sps [x] = [spc x] from rfl]; simpa using w2⟩
  unfold Jn.spec_l6Seen_l0_0
  rw [loadN_rw (n := 10) hn hg (by simp)]
  simp only [List.drop_zero, gVT_t, gVA_a, gAA_a, gA1_s, gB_b, gx0, gx1, ob, gI_i, gS_s, ln0, ln1, Nat.zero_add, Nat.reduceAdd, if_true, List.take_succ_cons, List.take_zero]
  have e' : appS 10 (h1.new 10 [.int .i64 x.p, .int .i64 x.s, .int .i64 x.c.code, .int .i64 x.c.flag, .int .i64 x.c.page, .int .i64 x.c.slot, .int .i64 x.c.row.tab, .int .i64 x.c.row.key, .int .i64 x.c.row.val, .str x.c.row.text]) (.s y) (sv h1.n 0 1) = _ := e
  rw [e', ob]
  dsimp only
  rw [tidy_new (by simp [belV, belS]; omega), w64 (n := (i : Int) + 1) (by omega) (by omega), show (i : Int) + 1 = ((i + 1 : Nat) : Int) from by omega, sps_len]
theorem p_l6Seen {all : List (List UInt8)} (hr : Right all) (hl : all.length ≤ 12) (hm : missF (movsO (spotsF 0 all)) (stubsO (spotsF 0 all)) = false) :
    pureV (call Ev) Fn.spec_l6Seen [lv (bss all)] = some (lv (sps (seenP (movsO (spotsF 0 all)) (spotsF 0 all)))) := by
  rw [pu_spec_l6Seen, p_l6Spots hr hl]
  simp only [ob, gV1_s, gF_f]
  have hsp := spots_sp hr
  have hlen := spotsF_len (all := all) all 0 (fun l hl => hr.cnt hl)
  have hmv := fun a b => mv_cell (all := all) a b
  generalize hS : spotsF 0 all = sp at hm hsp hlen
  rw [hS] at hmv
  generalize hM : movsO sp = ms at hm hmv
  have loop : ∀ (rs : List SpotD) (i : Nat) (h : H) (y : S) (acc : List SpotD) (b : Nat), sp.drop i = rs → Lz 10 h y (sps acc) b → missF ms (stubsO rs) = false → acc.length ≤ i →
      ∃ h' y' b', Lp.spec_l6Seen 0 [lv (bss all), .s y, lv (sps sp), iv .i64 i] h = some (.done [.s y'] h') ∧ Lz 10 h' y' (sps (acc ++ seenP ms rs)) b' := by
    intro rs
    induction rs with
    | nil =>
      intro i h y acc b hi w _ _
      have := drop_nil hi
      rw [eq_spec_l6Seen_l0, vcase_b, if_neg (by simp; omega), tidy_self]
      exact ⟨h, y, b, rfl, by simpa [seenP] using w⟩
    | cons x rs ih =>
      intro i h y acc b hi w hms hacc
      obtain ⟨g1, g2, g3⟩ := drop_cons hi
      have hx := hsp x (List.mem_of_getElem? g1)
      rw [eq_spec_l6Seen_l0, vcase_b, if_pos (by simp; omega), idxF_sp g1, rowN_all (n := 10) rfl]
      simp only [gVT_t, gVA_a, gAA_a, gA1_s, gB_b, gx0, gx1, ob, gI_i, gS_s, ln0, ln1, Nat.zero_add, Nat.reduceAdd, if_true]
      rw [stK_X (z := 10) rfl rfl, load1_X (o := 3) (x := .int .i64 x.c.flag) rfl]
      simp only [ob, gI_i, vcase_b]
      have hkx := putX_keep h z10 (spc x)
      have wX : Lz 10 (putX h z10 (spc x)) y (sps acc) b := w.frame (Nat.lt_of_lt_of_le w.n hkx.1) (putX_lt w.n)
      rw [seenP_cons]
      by_cases f2 : x.c.flag = 2
      · rw [if_pos (by simpa using f2), if_pos f2, putX_tidy (by
          rw [List.all_cons, List.all_cons, w.bel]; simp [belV, belS]), w64 (n := (i : Int) + 1) (by omega) (by omega), show (i : Int) + 1 = ((i + 1 : Nat) : Int) from by omega]
        exact ih (i + 1) h y acc b g2 w (by rw [stubsO_n (by omega)] at hms; exact hms) (by omega)
      rw [if_neg (by simpa using f2), if_neg f2]
      by_cases f1 : x.c.flag = 1
      · rw [stubsO_y f1, miss_cons, Bool.or_eq_false_iff] at hms
        have hmv1 : (mvF ms x.c.page x.c.slot).isNone = false := hms.1
        rw [if_pos (by simpa using f1), load1_X (o := 4) (x := .int .i64 x.c.page) rfl]
        simp only [ob, gI_i]
        rw [load1_X (o := 5) (x := .int .i64 x.c.slot) rfl]
        simp only [ob, gI_i]
        rw [pc (p_l6Cell hr hl hx.b.1 hx.b.2) (by simp)]
        rw [hmv] at hmv1
        have hxe : seenX ms x = { x with c := { x.c with row := ((cellAtF all x.c.page x.c.slot).getD ⟨0, 0, 0, 0, noR⟩).row } } := by
          unfold seenX
          rw [if_pos f1, hmv]
          cases hc : cellAtF all x.c.page x.c.slot with
          | none => rw [hc] at hmv1; cases hmv1
          | some c =>
            rw [hc] at hmv1
            by_cases h2 : c.flag = 2
            · rw [Option.bind_some, if_pos h2]; rfl
            · rw [Option.bind_some, if_neg h2] at hmv1; cases hmv1
        rw [hxe]
        generalize (cellAtF all x.c.page x.c.slot).getD ⟨0, 0, 0, 0, noR⟩ = c
        simp only [gVT_t, gVA_a, gAA_a, gA1_s, gB_b, gx0, gx1, ob, gI_i, gS_s, ln0, ln1, Nat.zero_add, Nat.reduceAdd, if_true]
        rw [stK_X (z := 8) rfl rfl, loadN_X (r := c.row.cs) (by simp) rfl]
        simp only [gVT_t, gVA_a, gAA_a, gA1_s, gB_b, gx0, gx1, ob, gI_i, gS_s, ln0, ln1, Nat.zero_add, Nat.reduceAdd, if_true]
        generalize hA : putX h [S.int .i64 0, .int .i64 0, .int .i64 0, .int .i64 0, .int .i64 0, .int .i64 0, .int .i64 0, .int .i64 0, .int .i64 0, .str (⟨#[]⟩)] [S.int .i64 x.p, .int .i64 x.s, .int .i64 x.c.code, .int .i64 x.c.flag, .int .i64 x.c.page, .int .i64 x.c.slot, .int .i64 x.c.row.tab, .int .i64 x.c.row.key, .int .i64 x.c.row.val, .str x.c.row.text] = A
        have wA : Lz 10 A y (sps acc) b := hA ▸ wX
        have nA : A.n = h.n + 1 := hA ▸ putX_n h _ _
        have gA : A.g h.n = .rw 0 (spc x) := hA ▸ putX_g h _ _
        generalize hB : putX A [S.int .i64 0, .int .i64 0, .int .i64 0, .int .i64 0, .int .i64 0, .int .i64 0, .int .i64 0, .str (⟨#[]⟩)] [S.int .i64 c.code, .int .i64 c.flag, .int .i64 c.page, .int .i64 c.slot, .int .i64 c.row.tab, .int .i64 c.row.key, .int .i64 c.row.val, .str c.row.text] = B
        have kB : HKeep A B := hB ▸ putX_keep A _ _
        have nB : B.n = A.n + 1 := hB ▸ putX_n A _ _
        have gB : B.g h.n = .rw 0 (spc x) := ((kB.2 h.n (by omega)).1).trans gA
        rw [stK_rw (z := 4) (e := 0) (o := 6) (b := h.n) (cs := spc x) (r := c.row.cs) (by omega) gB (.inr rfl) rfl (by simp)]
        rw [show setAt (spc x) 6 c.row.cs = spc { x with c := { x.c with row := c.row } } from rfl]
        have hwn := w.n
        have wC : Lz 10 (B.put h.n (.rw 0 (spc { x with c := { x.c with row := c.row } }))) y (sps acc) b := wA.frame (by rw [put_n]; omega) (by rw [put_g' (by omega)]; exact (kB.2 b (by omega)).1)
        obtain ⟨h2, e2, w2⟩ := jn_seen (all := all) (sp := sp) (h := h) (x := { x with c := { x.c with row := c.row } }) (i := i) (by rw [put_n]; omega) (put_g _ _ _) wC (by omega) (by omega)
        rw [e2]
        obtain ⟨h3, y3, b3, e3, w3⟩ := ih (i + 1) h2 _ _ _ g2 w2 hms.2 (by rw [List.length_append, List.length_singleton]; omega)
        exact ⟨h3, y3, b3, e3, by simpa using w3⟩
      · rw [stubsO_n f1] at hms
        rw [if_neg (by simpa using f1), show seenX ms x = x from if_neg f1]
        have hwn := w.n
        obtain ⟨h2, e2, w2⟩ := jn_seen (all := all) (sp := sp) (h := h) (h1 := putX h z10 (spc x)) (x := x) (i := i) (by rw [putX_n]; omega) (putX_g _ _ _) wX (by omega) (by omega)
        have e2' : Jn.spec_l6Seen_l0_0 (putX h [S.int .i64 0, .int .i64 0, .int .i64 0, .int .i64 0, .int .i64 0, .int .i64 0, .int .i64 0, .int .i64 0, .int .i64 0, .str (⟨#[]⟩)] [S.int .i64 x.p, .int .i64 x.s, .int .i64 x.c.code, .int .i64 x.c.flag, .int .i64 x.c.page, .int .i64 x.c.slot, .int .i64 x.c.row.tab, .int .i64 x.c.row.key, .int .i64 x.c.row.val, .str x.c.row.text]) h (.s y) (bss all) (sps sp) (i : Int) = _ := e2
        rw [e2']
        obtain ⟨h3, y3, b3, e3, w3⟩ := ih (i + 1) h2 _ _ _ g2 w2 hms (by rw [List.length_append, List.length_singleton]; omega)
        exact ⟨h3, y3, b3, e3, by simpa using w3⟩
  have w0 : Lz 10 ((D 0).new 10 []) (.sl (some (0, 0)) 0) (sps []) 0 := ⟨rfl, by simp, new_g (D 0) 10 [], by simp [sps]⟩
  obtain ⟨h', y, b, e, w⟩ := loop sp 0 _ _ [] 0 rfl w0 hm (by simp)
  rw [show iv .i64 0 = iv .i64 ((0 : Nat) : Int) from rfl, e, ob, lcase_done]
  simp only [gx0, ob]
  have := w.frz (d := 7) (by omega) spc_cl
  rw [frzV_s, this]; simp
end Vm
/-
  The specification's fault of pages.
-/
namespace Vm
open Go Go.Sort
def sameR (x y : SpotD) : Bool := (x.c.row.tab == y.c.row.tab) && (x.c.row.key == y.c.row.key)
def dup3 : List SpotD → List SpotD → Bool
  | _, [] => false
  | pre, x :: l => (pre.any fun y => sameR x y) || dup3 (pre ++ [x]) l
theorem toSeen_r (x : SpotD) : (toSeen x).r = x.c.row := by
  unfold toSeen; split <;> rfl
theorem dup3_K : ∀ (l pre : List SpotD), ¬ dupK (pre.map toSeen) → (dup3 pre l = true ↔ dupK ((pre ++ l).map toSeen))
  | [], pre, h => by
    rw [List.append_nil]
    exact ⟨fun hh => (by cases hh), fun hh => absurd hh h⟩
  | x :: l, pre, h => by
    rw [dup3, Bool.or_eq_true]
    have hn := Classical.not_not.1 h
    have e : pre ++ x :: l = (pre ++ [x]) ++ l := by simp
    have hsym : ∀ y : SpotD, sameK (toSeen y) (toSeen x) = sameR x y := fun y => by
      unfold sameK sameR
      rw [toSeen_r, toSeen_r]
      rw [Bool.eq_iff_iff]
      simp only [Bool.and_eq_true, decide_eq_true_eq, beq_iff_eq]
      exact ⟨fun h => ⟨h.1.symm, h.2.symm⟩, fun h => ⟨h.1.symm, h.2.symm⟩⟩
    by_cases hq : (pre.any fun y => sameR x y) = true
    · refine ⟨fun _ => ?_, fun _ => .inl hq⟩
      obtain ⟨y, hy, hs⟩ := List.any_eq_true.1 hq
      unfold dupK
      intro hp
      rw [List.map_append] at hp
      have := (List.pairwise_append.1 hp).2.2 (toSeen y) (List.mem_map.2 ⟨y, hy, rfl⟩) (toSeen x) (by simp)
      rw [hsym, hs] at this
      cases this
    · have hd : ¬ dupK ((pre ++ [x]).map toSeen) := by
        unfold dupK
        rw [Classical.not_not, List.map_append]
        refine List.pairwise_append.2 ⟨hn, by simp, ?_⟩
        intro a ha c hc
        obtain ⟨y, hy, rfl⟩ := List.mem_map.1 ha
        simp only [List.map_cons, List.map_nil, List.mem_singleton] at hc
        subst hc
        rw [hsym]
        have : ∀ y ∈ pre, ¬ sameR x y = true := by simpa using hq
        simpa using this y hy
      rw [e, ← dup3_K l (pre ++ [x]) hd]
      simp [hq]
theorem p_l6Fault {all : List (List UInt8)} (hl : all.length ≤ maxLen) : pureV (call Ev) Fn.spec_l6Fault [lv (bss all)] = some (iv .i64 (viewC all)) := by
  rw [pu_spec_l6Fault, bss_len, vcase_b]
  unfold viewC
  by_cases h12 : 12 < all.length
  · rw [if_pos (by simp; omega), if_pos h12]
  rw [if_neg (by simp; omega), if_neg h12, pc (p_l6Cells hl) rfl]
  simp only [gV1_s, gI_i, vcase_b]
  by_cases hc : cellsF all = 0
  case neg => rw [if_pos (by simpa using hc), if_pos hc]
  rw [if_neg (by simpa using hc), if_neg (by simpa using hc)]
  have hr := right_of hc
  have hl12 : all.length ≤ 12 := by omega
  have hsp := spots_sp hr
  have hlen := spotsF_len (all := all) all 0 (fun l hl => hr.cnt hl)
  rw [p_l6Spots hr hl12]
  simp only [ob, gV1_s, gF_f]
  rw [pc (p_l6Stubs hr hl12 hsp (by omega)) rfl]
  simp only [gV1_s, gI_i, vcase_b]
  unfold lookC
  by_cases hm : missF (movsO (spotsF 0 all)) (stubsO (spotsF 0 all)) = true
  · rw [if_pos hm, if_pos hm, if_pos (by decide)]
  rw [if_neg hm, if_neg hm]
  by_cases hd : dupS [] (stubsO (spotsF 0 all)) = true
  · rw [if_pos hd, if_pos hd, if_pos (by decide)]
  rw [if_neg hd, if_neg hd, if_neg (by decide), p_l6Seen hr hl12 (by simpa using hm)]
  simp only [ob, gV1_s, gF_f]
  rw [seenP_S]
  have hpl := seenP_len (movsO (spotsF 0 all)) (spotsF 0 all)
  generalize seenP (movsO (spotsF 0 all)) (spotsF 0 all) = sp at hpl
  have hn : sp.length ≤ 1000 := by omega
  have loop2 : ∀ (i : Nat) (x : SpotD), sp[i]? = some x → ∀ (k j : Nat), j + k = i → Lp.spec_l6Fault 2 [lv (sps sp), iv .i64 i, iv .i64 j] (D 0) = some (if ((sp.take i).drop j).any (fun y => sameR x y) = true then .ret (iv .i64 8) (D 0) else .done [lv (sps sp), iv .i64 i] (D 0)) := by
    intro i x hx k
    have hi := (List.getElem?_eq_some_iff.1 hx).1
    induction k with
    | zero =>
      intro j hj
      rw [eq_spec_l6Fault_l2, vcase_b, if_neg (by simp; omega), tidy_self, List.drop_of_length_le (by rw [List.length_take]; omega)]
      rfl
    | succ k ih =>
      intro j hj
      obtain ⟨y, hy⟩ : ∃ y, sp[j]? = some y := ⟨_, List.getElem?_eq_getElem (by omega)⟩
      have hd : (sp.take i).drop j = y :: (sp.take i).drop (j + 1) := by
        have : (sp.take i)[j]? = some y := by rw [List.getElem?_take]; rw [if_pos (by omega)]; exact hy
        obtain ⟨h1, h2⟩ := List.getElem?_eq_some_iff.1 this
        rw [List.drop_eq_getElem_cons h1, h2]
      rw [eq_spec_l6Fault_l2, vcase_b, if_pos (by simp; omega)]
      simp only [idxF_sp hx, idxF_sp hy]
      rw [w64 (n := (j : Int) + 1) (by omega) (by omega), show (j : Int) + 1 = ((j + 1 : Nat) : Int) from by omega, tidy_self, ih (j + 1) (by omega), hd, List.any_cons]
      simp only [gx0, gx1, ob, gI_i, vcase_b]
      unfold sameR
      by_cases h3 : x.c.row.tab = y.c.row.tab <;> by_cases h4 : x.c.row.key = y.c.row.key <;> simp [h3, h4]
  have loop0 : ∀ (rs : List SpotD) (i : Nat), sp.drop i = rs → Lp.spec_l6Fault 0 [lv (sps sp), iv .i64 i] (D 0) = some (if dup3 (sp.take i) rs = true then .ret (iv .i64 8) (D 0) else .done [] (D 0)) := by
    intro rs
    induction rs with
    | nil =>
      intro i hi
      have := drop_nil hi
      rw [eq_spec_l6Fault_l0, vcase_b, if_neg (by simp; omega), tidy_self]
      rfl
    | cons x rs ih =>
      intro i hi
      obtain ⟨g1, g2, g3⟩ := drop_cons hi
      have ht : sp.take (i + 1) = sp.take i ++ [x] := by
        rw [List.take_add_one, g1]; rfl
      rw [eq_spec_l6Fault_l0, vcase_b, if_pos (by simp; omega), show iv .i64 0 = iv .i64 ((0 : Nat) : Int) from rfl, loop2 i x g1 i 0 (by omega), ob, List.drop_zero, dup3]
      rcases Bool.eq_false_or_eq_true ((sp.take i).any fun y => sameR x y) with hq | hq
      · rw [hq, if_pos rfl, lcase_ret]; rfl
      · rw [hq, if_neg (by simp), lcase_done]
        simp only [gx0, gx1, ob, gV1_s, gF_f, gI_i, tidy_self]
        rw [w64 (n := (i : Int) + 1) (by omega) (by omega), show (i : Int) + 1 = ((i + 1 : Nat) : Int) from by omega, ih (i + 1) g2, ht, Bool.false_or]
  rw [show iv .i64 0 = iv .i64 ((0 : Nat) : Int) from rfl, loop0 sp 0 rfl, ob, List.take_zero]
  have hk := dup3_K sp [] (by unfold dupK; simp)
  rw [List.nil_append] at hk
  by_cases hq : dup3 [] sp = true
  · rw [if_pos hq, if_pos (hk.1 hq), lcase_ret]; simp
  · rw [if_neg hq, if_neg (fun h => hq (hk.2 h)), lcase_done]; simp
end Vm
/-
  A row that is seen, found by its key.
-/
namespace Vm
open Go Go.Sort
@[simp] theorem snl_len (l : List SeenD) : (snl l).length = l.length := by simp [snl]
end Vm
/-
  Slices of flat rows that grow in a loop.
-/
namespace Vm
open Go
theorem app_flat {z : Nat} {y : S} {rows : List (List S)} {bs : List Nat} {h : H} {row : List S} (w : OutS z 0 y rows bs h) (hs : ∀ s ∈ row, Sc s) (hz : row.length = z) (hz0 : 0 < z) (hl : rows.length + 1 ≤ lim) :
    ∃ h' bs', appS z (h.new z row) (.s y) (sv h.n 0 1) = some (sv (h.n + 1) 0 (rows.length + 1), h') ∧ OutS z 0 (.sl (some (h.n + 1, 0)) (rows.length + 1)) (rows ++ [row]) bs' h' ∧ h'.n = h.n + 2 ∧ (∀ c ∈ bs', c = h.n + 1 ∨ c ∈ bs) ∧ (∀ c, c < h.n → c ∉ bs → h'.g c = h.g c) := by
  obtain ⟨h', bs', e, o, n, m, k, _, _⟩ := app_row (fr := row) (br := []) w (RepL.sc hs) hz hz0 (by simp) (by simp) hl
  exact ⟨h', bs', e, o, n, fun c hc => by rcases m c hc with h | h | h <;> simp_all, k⟩
/-- a slice that grows over what stood in a heap of height n -/
def Gr (z n : Nat) (h0 : H) (y : S) (rows : List (List S)) (h : H) : Prop := n ≤ h.n ∧ (∀ c, c < n → h.g c = h0.g c) ∧ ∃ bs, OutS z 0 y rows bs h ∧ ∀ b ∈ bs, n ≤ b
theorem Gr.none {z n : Nat} {h : H} (hn : n ≤ h.n) : Gr z n h (.sl none 0) [] h := ⟨hn, fun _ _ => rfl, [], OutS.none, by simp⟩
theorem Gr.new {z : Nat} {h : H} (hz0 : 0 < z) : Gr z h.n h (.sl (some (h.n, 0)) 0) [] (h.new z []) := by
  refine ⟨by simp, fun c hc => new_g' (by omega), [h.n], ⟨?_, by simp, .inr ⟨h.n, [], rfl, new_g _ _ _⟩, by simp⟩, by simp⟩
  exact Rep.sl (rows := []) (bss := []) (by simp) hz0 (new_g _ _ _) (by simp) .nil
theorem Gr.app {z n : Nat} {h0 h : H} {y : S} {rows : List (List S)} {row : List S} (w : Gr z n h0 y rows h) (hs : ∀ s ∈ row, Sc s) (hz : row.length = z) (hz0 : 0 < z) (hl : rows.length + 1 ≤ lim) :
    ∃ h', appS z (h.new z row) (.s y) (sv h.n 0 1) = some (sv (h.n + 1) 0 (rows.length + 1), h') ∧ Gr z n h0 (.sl (some (h.n + 1, 0)) (rows.length + 1)) (rows ++ [row]) h' ∧ h'.n = h.n + 2 := by
  obtain ⟨w1, w2, bs, w3, w4⟩ := w
  obtain ⟨h', bs', e, o, hn, m, k⟩ := app_flat w3 hs hz hz0 hl
  refine ⟨h', e, ⟨by omega, fun c hc => (k c (by omega) fun hh => by have := w4 c hh; omega).trans (w2 c hc), bs', o, fun b hb => ?_⟩, hn⟩
  rcases m b hb with rfl | hb
  · omega
  · exact w4 b hb
theorem Gr.own {z n : Nat} {h0 h : H} {y : S} {rows : List (List S)} (w : Gr z n h0 y rows h) : OwnF 1 y (.fs rows) n h.n h := by
  obtain ⟨w1, w2, bs, w3, w4⟩ := w
  exact ⟨bs, w3.rep, w3.nd, fun b hb => ⟨w4 b hb, w3.rep.lt b hb⟩⟩
theorem Gr.frz {z n : Nat} {h0 h : H} {y : S} {rows : List (List S)} (w : Gr z n h0 y rows h) : frzV h (.s y) = some (lv rows) := w.own.frz
theorem OwnF.lift {d k : Nat} {y f : S} {lo hi : Nat} {h : H} (w : OwnF d y f lo hi h) (hk : d ≤ k) : OwnF k y f lo hi h := by
  obtain ⟨bs, a, b, c⟩ := w
  exact ⟨bs, a.lifts hk, b, c⟩
theorem OwnF.no {d : Nat} {y f : S} {lo hi : Nat} {h : H} (w : OwnF d y f lo hi h) : isNo y = false := by
  obtain ⟨bs, a, b, c⟩ := w
  exact a.isNo
end Vm
/-
  Slices of flat rows that fill their block; a row put among others.
-/
namespace Vm
open Go
theorem load1_cs {h : H} {b o : Nat} {cs : List S} {x : S} (hc : h.cells b = cs) (hx : cs[o]? = some x) : load1 h (pv b o) = some x := by
  simp only [load1]; rw [hc, hx]
theorem frz_pv {h : H} {b : Nat} {cs : List S} (hb : b < h.n) (hg : h.g b = .rw 0 cs) (hc : ∀ s ∈ cs, Cl s) : frzV h (pv b 0) = some (fv cs 0) := by
  have h7 : mapO (frzS h 7) cs = some cs := mapO_cl hc
  simp only [frzV, frzS, hb, if_true, hg, h7, Option.bind_some]
/-- a slice of flat rows that fills its block -/
structure FlS (z : Nat) (h : H) (v : V) (rows : List (List S)) (b : Nat) : Prop where
  v : v = sv b 0 rows.length
  n : b < h.n
  g : h.g b = .rw z rows.flatten
  z : ∀ r ∈ rows, r.length = z
theorem FlS.cells {z b : Nat} {h : H} {v : V} {rows : List (List S)} (w : FlS z h v rows b) : cellsS z h v = some rows.flatten := by
  have hc : h.cells b = rows.flatten := by unfold H.cells; rw [if_pos w.n, w.g]; rfl
  have hl := flat_len w.z
  rw [w.v]
  simp only [cellsS, hc]
  rw [if_pos ⟨w.n, by omega⟩, List.drop_zero, List.take_of_length_le (by omega)]
theorem FlS.nil {z : Nat} {h : H} : FlS z (h.new z []) (sv h.n 0 0) [] h.n := ⟨rfl, by simp, new_g _ _ _, by simp⟩
theorem FlS.own {z b n : Nat} {h : H} {y : S} {rows : List (List S)} (w : FlS z h (.s y) rows b) (hz0 : 0 < z) (hn : n ≤ b) (hs : ∀ r ∈ rows, ∀ s ∈ r, Sc s) : OwnF 1 y (.fs rows) n h.n h := by
  have hv := w.v
  injection hv with hv
  subst hv
  refine ⟨[b], ?_, by simp, by simpa using ⟨hn, w.n⟩⟩
  exact Rep.sl (bss := []) w.n hz0 w.g w.z (RepL.sc fun s hs' => by
    obtain ⟨r, h1, h2⟩ := List.mem_flatten.1 hs'
    exact hs r h1 s h2)
theorem FlS.frz {b z : Nat} {h : H} {v : V} {rows : List (List S)} (w : FlS z h v rows b) (hz0 : 0 < z) (hs : ∀ r ∈ rows, ∀ s ∈ r, Sc s) : frzV h v = some (lv rows) := by
  rw [w.v]; exact frzV_sv w.n hz0 w.g w.z fun r hr s h => (hs r hr s h).cl
/-- out of what is one's own -/
theorem OwnF.fl {z lo hi : Nat} {h : H} {y : S} {rows : List (List S)} (w : OwnF 1 y (.fs rows) lo hi h) (hz : ∀ r ∈ rows, r.length = z) (hs : ∀ r ∈ rows, ∀ s ∈ r, Sc s) (hne : rows ≠ []) : ∃ b, FlS z h (.s y) rows b ∧ lo ≤ b ∧ b < hi := by
  obtain ⟨bs, w1, w2, w3⟩ := w
  rcases w1 with ⟨⟨h1, h2⟩ | ⟨h1, h2⟩, h3⟩ | ⟨b, z', cs, rows', bss, h1, h0, h2, h3, h4, h5, h6, h7⟩
  · rw [← h2] at h1; exact h1.elim
  · injection h2 with h2; exact absurd h2 hne
  · injection h0 with h0
    subst h0
    obtain ⟨rfl, rfl⟩ := h7.of_sc fun s hs' => by
      obtain ⟨r, h8, h9⟩ := List.mem_flatten.1 hs'
      exact hs r h8 s h9
    obtain ⟨r, rows', rfl⟩ := List.exists_cons_of_ne_nil hne
    have : z' = z := by rw [← h6 r (by simp), hz r (by simp)]
    subst this
    exact ⟨b, ⟨by rw [h1], h3, h5, h6⟩, w3 b (by rw [h2]; simp)⟩
theorem flat_get {z : Nat} : ∀ {rows : List (List S)} {i j : Nat} {r : List S}, (∀ r ∈ rows, r.length = z) → rows[i]? = some r → j < z → rows.flatten[i * z + j]? = r[j]?
  | [], i, j, r, _, h, _ => by simp at h
  | q :: rows, 0, j, r, hz, h, hj => by
    simp only [List.getElem?_cons_zero, Option.some.injEq] at h
    subst h
    rw [List.flatten_cons, Nat.zero_mul, Nat.zero_add, List.getElem?_append_left (by rw [hz q (by simp)]; exact hj)]
  | q :: rows, i + 1, j, r, hz, h, hj => by
    rw [List.getElem?_cons_succ] at h
    have hq := hz q (by simp)
    rw [List.flatten_cons, List.getElem?_append_right (by rw [hq, Nat.succ_mul]; omega), hq, show (i + 1) * z + j - z = i * z + j from by rw [Nat.succ_mul]; omega]
    exact flat_get (fun r hr => hz r (by simp [hr])) h hj
theorem FlS.ld {b i j : Nat} {h : H} {v : V} {rs : List RowD} {r : RowD} {x : S} (w : FlS 4 h v (rws rs) b) (hr : rs[i]? = some r) (hj : j < 4) (hx : r.cs[j]? = some x) : load1 h (pv b (i * 4 + j)) = some x := by
  refine load1_cs (cs := (rws rs).flatten) (by unfold H.cells; rw [if_pos w.n, w.g]; rfl) ?_
  rw [flat_get w.z (rws_get hr) hj, hx]
end Vm
/-
  What is one's own is not let go; calls with answers of any shape.
-/
namespace Vm
open Go
theorem OwnF.len {d lo hi t : Nat} {y : S} {rows : List (List S)} {h : H} (w : OwnF d y (.fs rows) lo hi h) : lenV (.sl t) (.s y) = some (iv .i64 (rows.length : Int)) := by
  obtain ⟨bs, w1, _⟩ := w
  cases d with
  | zero =>
    obtain ⟨⟨h1, h2⟩ | ⟨rfl, h2⟩, _⟩ := w1
    · rw [← h2] at h1; exact h1.elim
    · injection h2 with h2; subst h2; rfl
  | succ d =>
    rcases w1 with ⟨⟨h1, h2⟩ | ⟨rfl, h2⟩, _⟩ | ⟨b, z, cs, rows', bss, rfl, h0, _⟩
    · rw [← h2] at h1; exact h1.elim
    · injection h2 with h2; subst h2; rfl
    · injection h0 with h0; subst h0; rfl
theorem OwnF.up {d lo hi : Nat} {y f : S} {h h' : H} (w : OwnF d y f lo hi h) (u : Up h h') : OwnF d y f lo hi h' := by
  obtain ⟨bs, w1, w2, w3⟩ := w
  exact ⟨bs, w1.frame fun b hb => ⟨by have := w1.lt b hb; have := u.n; omega, u.g b (w1.lt b hb)⟩, w2, w3⟩
theorem HKeep.up {h h' : H} (x : HKeep h h') : Up h h' := ⟨x.1, fun b hb => (x.2 b hb).1⟩
end Vm
/-
  The rows that are seen, rising.
-/
namespace Vm
open Go Go.Sort
end Vm
/-
  Laws taken out of longer texts.
-/
namespace Vm
open Go
structure ChgD where
  was : Bool
  b : RowD
  is : Bool
  a : RowD
abbrev ChgD.cs (c : ChgD) : List S := [.bool c.was, .int .i64 c.b.tab, .int .i64 c.b.key, .int .i64 c.b.val, .str c.b.text, .bool c.is, .int .i64 c.a.tab, .int .i64 c.a.key, .int .i64 c.a.val, .str c.a.text]
structure ChgD.ok (c : ChgD) : Prop where
  b : c.b.ok
  a : c.a.ok
theorem rp_Change {n : Nat} {xs : List S} (hr : Rp PR n T.laws_Change xs) : ∃ c : ChgD, xs = c.cs ∧ c.ok := by
  obtain ⟨m, hf⟩ := hr.st und_laws_Change
  obtain ⟨a0, b0, rfl, h0, a1, b1, rfl, h1, a2, b2, rfl, h2, a3, b3, rfl, h3, rfl⟩ := hf
  obtain ⟨x0, rfl⟩ := h0.bool und_bool
  obtain ⟨x1, rfl, w1⟩ := rp_Row h1
  obtain ⟨x2, rfl⟩ := h2.bool und_bool
  obtain ⟨x3, rfl, w3⟩ := rp_Row h3
  exact ⟨⟨x0, x1, x2, x3⟩, rfl, w1, w3⟩
def szChg (c : ChgD) (left : Int) : Int := if (c.b.text.size : Int) ≤ left then (if (c.a.text.size : Int) ≤ left - c.b.text.size then left - c.b.text.size - c.a.text.size else -1) else -1
theorem p_szChange (c : ChgD) {left : Int} (h1 : 0 ≤ left) (h2 : left < 9223372036854775808) (hc : c.ok) : pureV (call Ev) Fn.laws_szChange [.agg c.cs, iv .i64 left] = some (iv .i64 (szChg c left)) := by
  rw [pu_laws_szChange, pc (p_szRow c.b left h1 h2 hc.b.s) rfl]
  simp only [gV1_s, gI_i, vcase_b, decide_eq_true_eq, szChg]
  by_cases hle : (c.b.text.size : Int) ≤ left
  · rw [if_pos hle, if_neg (by omega), pc (p_szRow c.a _ (by omega) (by omega) hc.a.s) rfl, if_pos hle]
    simp only [gV1_s, gI_i, vcase_b, decide_eq_true_eq]
    by_cases hle2 : (c.a.text.size : Int) ≤ left - c.b.text.size
    · rw [if_pos hle2, if_neg (by omega)]
    · rw [if_neg hle2, if_pos (by omega)]
  · rw [if_neg hle, if_pos (by omega), if_neg hle]
theorem p_toChange (c : ChgD) : pureV (call Ev) Fn.laws_toChange [.agg c.cs] = some (.agg c.cs) := by
  rw [pu_laws_toChange, pc (p_toRow c.b) rfl]
  simp only [ob, gx0, gx1, gVA_a, gI_i, gS_s, ln0, ln1, Nat.zero_add, Nat.reduceAdd, if_true]
  rw [pc (p_toRow c.a) rfl]
  simp only [ob, gx0, gx1, gVA_a, gI_i, gS_s, ln0, ln1, Nat.zero_add, Nat.reduceAdd, if_true]
def sameKC (a b : RowD) : Bool := decide (a.tab = b.tab) && decide (a.key = b.key)
def chgF (c : ChgD) : Int :=
  if (!c.was && !c.is) || (c.was && c.is && !sameKC c.b c.a) then 1
  else if c.was = true ∧ rowF c.b ≠ 0 then rowF c.b else if c.is then rowF c.a else 0
def ordIC (a b : RowD) : Int := if befB a b then -1 else if befB b a then 1 else 0
theorem p_orderC (a b : RowD) : pureV (call Ev) Fn.impl_order [.agg a.cs, .agg b.cs] = some (iv .i64 (ordIC a b)) := by
  rw [pu_impl_order, pc (p_IsBefore a b) rfl]
  simp only [gV1_s, gB_b, vcase_b]
  unfold ordIC
  cases befB a b
  · rw [if_neg (by simp), if_neg (by simp), pc (p_IsBefore b a) rfl]
    simp only [gV1_s, gB_b, vcase_b]
    cases befB b a <;> rfl
  · rfl
theorem ordIC_0 {a b : RowD} : ordIC a b = 0 ↔ sameKC a b = true := by
  unfold ordIC befB sameKC
  simp only [Bool.or_eq_true, Bool.and_eq_true, decide_eq_true_eq]
  split
  · omega
  · split <;> omega
/-- the fault of the rows of a change -/
def chgR (c : ChgD) : Int := if c.was = true ∧ rowF c.b ≠ 0 then rowF c.b else if c.is then rowF c.a else 0
theorem chgF_eq (c : ChgD) : chgF c = if (!c.was && !c.is) || (c.was && c.is && !sameKC c.b c.a) then 1 else chgR c := rfl
theorem p_l6Change (c : ChgD) (hc : c.ok) : pureV (call Ev) Fn.spec_l6Change [fv c.cs 0] = some (iv .i64 (chgF c)) := by
  have fin : ∀ q w1 w2 w3 w4 w5 w6 w7 w8 w9 w10 w11 w12 w13 w14 w15 w16 w17 w18 w19 w20 w21 w22 w23 w24 w25 w26 w27 w28 w29 w30 w31 w32 w33 w34 w35 w36 q2,
      Jn.spec_l6Change_0 q w1 w2 w3 w4 w5 w6 w7 w8 w9 w10 w11 w12 w13 w14 w15 w16 w17 w18 w19 w20 w21 w22 w23 w24 w25 w26 w27 w28 w29 w30 w31 w32 w33 w34 w35 w36 q2 c.was c.b.tab c.b.key c.b.val c.b.text c.is c.a.tab c.a.key c.a.val c.a.text = some (iv .i64 (if q2 = true then 1 else chgR c)) := by
    intro q w1 w2 w3 w4 w5 w6 w7 w8 w9 w10 w11 w12 w13 w14 w15 w16 w17 w18 w19 w20 w21 w22 w23 w24 w25 w26 w27 w28 w29 w30 w31 w32 w33 w34 w35 w36 q2
    unfold Jn.spec_l6Change_0 chgR
    rw [pc (p_l1Fault c.b hc.b.s) rfl]
    simp only [gV1_s, gI_i, vcase_b, bne_iff_ne, ne_eq]
    rw [pc (p_l1Fault c.a hc.a.s) rfl]
    simp only [gV1_s, gI_i]
    by_cases h0 : rowF c.b = 0 <;> cases q2 <;> cases c.was <;> cases c.is <;> simp [h0]
  rw [pu_spec_l6Change, chgF_eq]
  unfold Jn.spec_l6Change_1
  simp only [vcase_b, bne_iff_ne, ne_eq, fin]
  have hs : sameKC c.b c.a = (decide (c.b.tab = c.a.tab) && decide (c.b.key = c.a.key)) := rfl
  rw [hs]
  cases c.was <;> cases c.is <;> simp only [Bool.not_true, Bool.not_false, Bool.false_eq_true, if_false, if_true, Bool.and_true, Bool.true_and, Bool.and_false, Bool.false_and, Bool.or_false, Bool.false_or]
  by_cases h1 : c.b.tab = c.a.tab
  · rw [if_neg (by simpa using h1), decide_eq_true h1, Bool.true_and]
    by_cases h2 : c.b.key = c.a.key <;> simp [h2]
  · rw [if_pos h1, decide_eq_false h1]; rfl
theorem p_changeFault (c : ChgD) (hc : c.ok) : pureV (call Ev) Fn.impl_changeFault [.agg c.cs] = some (iv .i64 (chgF c)) := by
  have fin : ∀ q2, Jn.impl_changeFault_0 q2 c.was c.b.tab c.b.key c.b.val c.b.text c.is c.a.tab c.a.key c.a.val c.a.text = some (iv .i64 (if q2 = true then 1 else chgR c)) := by
    intro q2
    unfold Jn.impl_changeFault_0 chgR
    rw [pc (p_RowFault c.b hc.b.s) rfl]
    simp only [gV1_s, gI_i, vcase_b, bne_iff_ne, ne_eq]
    rw [pc (p_RowFault c.a hc.a.s) rfl]
    simp only [gV1_s, gI_i]
    by_cases h0 : rowF c.b = 0 <;> cases q2 <;> cases c.was <;> cases c.is <;> simp [h0]
  rw [pu_impl_changeFault, chgF_eq]
  unfold Jn.impl_changeFault_2 Jn.impl_changeFault_1
  rw [pc (p_orderC c.b c.a) rfl]
  simp only [gV1_s, gI_i, vcase_b, fin, bne_iff_ne, ne_eq, ordIC_0]
  cases c.was <;> cases c.is <;> simp
def ChgD.k (c : ChgD) : RowD := if c.is then c.a else c.b
theorem p_Change_key (c : ChgD) : pureV (call Ev) Fn.impl_Change_key [.agg c.cs] = some (.agg c.k.cs) := by
  rw [pu_impl_Change_key, vcase_b]; unfold ChgD.k
  cases c.is <;> rfl
theorem p_l6Key (c : ChgD) : pureV (call Ev) Fn.spec_l6Key [fv c.cs 0] = some (.tup [.s (.int .i64 c.k.tab), .s (.int .i64 c.k.key)]) := by
  rw [pu_spec_l6Key, vcase_b]; unfold ChgD.k
  cases c.is <;> rfl
def chs (rs : List ChgD) : List (List S) := rs.map ChgD.cs
@[simp] theorem chs_len (rs : List ChgD) : (chs rs).length = rs.length := by simp [chs]
theorem chs_row {rs : List ChgD} : ∀ r ∈ chs rs, r.length = 10 := by
  intro r hr
  obtain ⟨c, _, rfl⟩ := List.mem_map.1 hr
  rfl
theorem chg_sc {c : ChgD} : ∀ s ∈ c.cs, Sc s := by
  intro s hs
  simp only [List.mem_cons, List.not_mem_nil, or_false] at hs
  rcases hs with rfl | rfl | rfl | rfl | rfl | rfl | rfl | rfl | rfl | rfl <;> trivial
theorem chs_sc {rs : List ChgD} : ∀ r ∈ chs rs, ∀ s ∈ r, Sc s := by
  intro r hr
  obtain ⟨c, _, rfl⟩ := List.mem_map.1 hr
  exact chg_sc
theorem chs_get {rs : List ChgD} {i : Nat} {r : ChgD} (h : rs[i]? = some r) : (chs rs)[i]? = some r.cs := by simp [chs, h]
section
variable {R : Type}
theorem idxF_ch {rs : List ChgD} {i : Nat} {r : ChgD} {k : List S → Option R} (h : rs[i]? = some r) : idxF 10 (chs rs) (i : Int) k = k r.cs := idxF_at (chs_get h) rfl
end
theorem rowN_ch {r : ChgD} : rowN 10 r.cs 0 = some r.cs := rowN_all rfl
theorem rows_Change {m : Nat} : ∀ rows : List (List S), (∀ r ∈ rows, r.length = PR.cellsOf T.laws_Change ∧ Rp PR m T.laws_Change r) → ∃ rs : List ChgD, rows = chs rs ∧ ∀ r ∈ rs, r.ok
  | [], _ => ⟨[], rfl, by simp⟩
  | r :: rows, hr => by
    obtain ⟨rs, h1, h2⟩ := rows_Change rows fun r hm => hr r (by simp [hm])
    obtain ⟨a, h3, h4⟩ := rp_Change (hr r (by simp)).2
    refine ⟨a :: rs, by rw [h1, h3]; rfl, fun x hx => ?_⟩
    rcases List.mem_cons.1 hx with rfl | hx
    · exact h4
    · exact h2 x hx
def szChgs : List ChgD → Int → Int
  | [], left => left
  | r :: rs, left => if 0 ≤ szChg r left then szChgs rs (szChg r left) else -1
theorem szChg_le {c : ChgD} {left : Int} (h : 0 ≤ left) : szChg c left ≤ left ∧ -1 ≤ szChg c left := by
  unfold szChg
  split
  · split <;> omega
  · omega
theorem szChgs_le : ∀ (rs : List ChgD) (left : Int), 0 ≤ left → szChgs rs left ≤ left ∧ -1 ≤ szChgs rs left
  | [], left, h => ⟨Int.le_refl _, by simp only [szChgs]; omega⟩
  | r :: rs, left, h => by
    have h1 := szChg_le (c := r) h
    simp only [szChgs]
    split
    · rename_i h2
      have := szChgs_le rs (szChg r left) h2; omega
    · omega
theorem p_szChangeS {all : List ChgD} {left : Int} (h1 : 0 ≤ left) (h2 : left < 9223372036854775808) (hl : all.length ≤ maxLen) (hr : ∀ r ∈ all, r.ok) : pureV (call Ev) Fn.laws_szChangeS [lv (chs all), iv .i64 left] = some (iv .i64 (if (all.length : Int) ≤ left then szChgs all (left - all.length) else -1)) := by
  unfold maxLen at hl
  have loop : ∀ (rs : List ChgD) (i : Nat) (q : Int), all.drop i = rs → 0 ≤ q → q < 9223372036854775808 →
      (Lp.laws_szChangeS 0 [lv (chs all), iv .i64 q, iv .i64 i] (D 0)).bind (fun o102 => lcase o102 (fun l103 h104 =>
        (l103[0]?).bind fun w107 =>
        gV1 w107 fun x108 =>
        gI .i64 x108 fun i109 =>
        some (iv .i64 i109)) (fun v105 h106 =>
        frzV h106 v105)) = some (iv .i64 (szChgs rs q)) := by
    intro rs
    induction rs with
    | nil =>
      intro i q hi h1 h2
      have := drop_nil hi
      rw [eq_laws_szChangeS_l0, vcase_b, if_neg (by simp; omega), tidy_self, ob, lcase_done]
      simp only [gx0, ob, gV1_s, gI_i, szChgs]
    | cons r rs ih =>
      intro i q hi h1 h2
      obtain ⟨g1, g2, g3⟩ := drop_cons hi
      have hle := szChg_le (c := r) h1
      rw [eq_laws_szChangeS_l0, vcase_b, if_pos (by simp; omega), idxF_ch g1, rowN_ch]
      simp only [ob, gx0, gx1, gI_i, gS_s, gB_b, gVA_a, ln0, ln1, Nat.zero_add, Nat.reduceAdd, if_true]
      rw [pc (p_szChange r h1 h2 (hr r (List.mem_of_getElem? g1))) rfl]
      simp only [gV1_s, gI_i, vcase_b, decide_eq_true_eq, szChgs]
      by_cases hle : 0 ≤ szChg r q
      · rw [if_neg (by omega), w64 (by omega) (by omega), tidy_self, show (i : Int) + 1 = ((i + 1 : Nat) : Int) from by omega, if_pos hle]
        exact ih (i + 1) _ g2 (by omega) (by omega)
      · rw [if_pos (by omega), if_neg hle]; rfl
  rw [pu_laws_szChangeS, vcase_b, chs_len, w64 (by omega) (by omega)]
  by_cases hq : (all.length : Int) ≤ left
  · rw [if_neg (by simp; omega), if_pos hq]
    exact loop all 0 _ rfl (by omega) (by omega)
  · rw [if_pos (by simp; omega), if_neg hq]
theorem p_eqChange (r : ChgD) : pureV (call Ev) Fn.laws_eqChange [.agg r.cs, .agg r.cs] = some (bv true) := by
  rw [pu_laws_eqChange, vcase_b, if_neg (by simp), pc (p_eqRow r.b) rfl]
  simp only [gV1_s, gB_b, vcase_b]
  rw [if_neg (by simp), if_neg (by simp), pc (p_eqRow r.a) rfl]
  simp
theorem p_eqChangeS {all : List ChgD} (hl : all.length ≤ maxLen) : pureV (call Ev) Fn.laws_eqChangeS [lv (chs all), lv (chs all)] = some (bv true) := by
  unfold maxLen at hl
  have loop : ∀ (rs : List ChgD) (i : Nat), all.drop i = rs → Lp.laws_eqChangeS 0 [lv (chs all), lv (chs all), iv .i64 i] (D 0) = some (.done [] (D 0)) := by
    intro rs
    induction rs with
    | nil =>
      intro i hi
      have := drop_nil hi
      rw [eq_laws_eqChangeS_l0, vcase_b, if_neg (by simp; omega), tidy_self]
    | cons r rs ih =>
      intro i hi
      obtain ⟨g1, g2, g3⟩ := drop_cons hi
      rw [eq_laws_eqChangeS_l0, vcase_b, if_pos (by simp; omega), idxF_ch g1, rowN_ch]
      simp only [ob, gx0, gx1, gI_i, gS_s, gB_b, gVA_a, ln0, ln1, Nat.zero_add, Nat.reduceAdd, if_true]
      rw [idxF_ch g1, rowN_ch]
      simp only [ob, gx0, gx1, gI_i, gS_s, gB_b, gVA_a, ln0, ln1, Nat.zero_add, Nat.reduceAdd, if_true]
      rw [pc (p_eqChange r) rfl]
      simp only [gV1_s, gB_b, hchk_self, vcase_b]
      rw [if_neg (by simp), tidy_self, w64 (by omega) (by omega), show (i : Int) + 1 = ((i + 1 : Nat) : Int) from by omega]
      exact ih (i + 1) g2
  rw [pu_laws_eqChangeS, vcase_b, if_neg (by simp), show iv .i64 0 = iv .i64 ((0 : Nat) : Int) from rfl, loop all 0 rfl]
  simp
theorem p_toChangesP {all : List ChgD} (hl : all.length ≤ lim) : pureV (call Ev) Fn.laws_toChangeS [lv (chs all)] = some (lv (chs all)) := by
  have hl' := hl
  unfold lim at hl'
  rw [pu_laws_toChangeS, chs_len, mkSl_of (z := 10) (zero := [.bool false, .int .i64 0, .int .i64 0, .int .i64 0, .str ⟨#[]⟩, .bool false, .int .i64 0, .int .i64 0, .int .i64 0, .str ⟨#[]⟩]) hl (by omega) rfl, ob]
  obtain ⟨h', e1, e2, e3, _⟩ := fill_rows (z := 10) (n := all.length) (b := 0) (rows := chs all) (L := fun i h => Lp.laws_toChangeS 0 [lv (chs all), sv 0 0 all.length, iv .i64 i] h) (fin := [sv 0 0 all.length]) (by simp) chs_row
    (fun i h r hr' hi hb => by
      obtain ⟨a, ha⟩ : ∃ a, all[i]? = some a := ⟨_, List.getElem?_eq_getElem hi⟩
      rw [chs_get ha] at hr'; cases hr'
      refine ⟨.agg a.cs, [lv (chs all), sv 0 0 all.length, iv .i64 ((i + 1 : Nat) : Int)], .inr rfl, ?_⟩
      show Lp.laws_toChangeS 0 _ h = _
      rw [eq_laws_toChangeS_l0, vcase_b, if_pos (by simp; omega), idxF_ch ha, rowN_ch]
      simp only [ob, gx0, gx1, gI_i, gS_s, gB_b, gVA_a, ln0, ln1, Nat.zero_add, Nat.reduceAdd, if_true]
      rw [pc (p_toChange a) (by simp)]
      simp only [ob, gx0, gx1, gI_i, gS_s, gB_b, gVA_a, ln0, ln1, Nat.zero_add, Nat.reduceAdd, if_true]
      rw [idxK_sv hi, w64 (by omega) (by omega), show (i : Int) + 1 = ((i + 1 : Nat) : Int) from by omega])
    (fun h => by
      show Lp.laws_toChangeS 0 _ h = _
      rw [eq_laws_toChangeS_l0, vcase_b, if_neg (by simp), tidy_self])
    ((D 0).new 10 ((List.replicate all.length [.bool false, .int .i64 0, .int .i64 0, .int .i64 0, .str ⟨#[]⟩, .bool false, .int .i64 0, .int .i64 0, .int .i64 0, .str ⟨#[]⟩]).flatten)) _ (by simp) (by exact new_g (D 0) _ _) (repl_len rfl)
  rw [D_n, e1]
  simp only [ob, lcase_done, gx0]
  have hn : h'.n = 1 := by rw [e2]; simp
  have := frzV_sv (h := h') (b := 0) (z := 10) (rows := chs all) (by omega) (by omega) e3 chs_row (fun r hr s hs => (chs_sc r hr s hs).cl)
  rw [chs_len] at this
  exact this
section
variable {R : Type}
end
def eqRw (a b : RowD) : Bool := (a.tab == b.tab) && ((a.key == b.key) && ((a.val == b.val) && ((a.text.toList == b.text.toList) && true)))
def sgF (c : ChgD) : Int := if chgF c ≠ 0 then chgF c else if c.was = true ∧ c.is = true ∧ eqRw c.b c.a = true then 1 else 0
theorem p_singleFault (c : ChgD) (hc : c.ok) : pureV (call Ev) Fn.impl_singleFault [.agg c.cs] = some (iv .i64 (sgF c)) := by
  rw [pu_impl_singleFault, pc (p_changeFault c hc) rfl]
  simp only [gV1_s, gI_i, vcase_b, bne_iff_ne, ne_eq]
  unfold sgF
  by_cases h0 : chgF c = 0
  · rw [if_neg (show ¬ ¬ chgF c = 0 by simpa using h0), if_neg (show ¬ chgF c ≠ 0 by simpa using h0)]
    rw [show ((c.b.tab == c.a.tab) && ((c.b.key == c.a.key) && ((c.b.val == c.a.val) && ((c.b.text.toList == c.a.text.toList) && true)))) = eqRw c.b c.a from rfl]
    cases c.was <;> cases c.is <;> simp
    cases eqRw c.b c.a <;> simp
  · rw [if_pos h0, if_pos h0]
theorem p_l9Change (c : ChgD) (hc : c.ok) : pureV (call Ev) Fn.spec_l9Change [fv c.cs 0] = some (iv .i64 (sgF c)) := by
  rw [pu_spec_l9Change, pc (p_l6Change c hc) rfl]
  simp only [gV1_s, gI_i, vcase_b, bne_iff_ne, ne_eq]
  unfold sgF
  by_cases h0 : chgF c = 0
  · rw [if_neg (show ¬ ¬ chgF c = 0 by simpa using h0), if_neg (show ¬ chgF c ≠ 0 by simpa using h0)]
    rw [show ((c.b.tab == c.a.tab) && ((c.b.key == c.a.key) && ((c.b.val == c.a.val) && ((c.b.text.toList == c.a.text.toList) && true)))) = eqRw c.b c.a from rfl]
    cases c.was <;> cases c.is <;> simp
    cases eqRw c.b c.a <;> simp
  · rw [if_pos h0, if_pos h0]
end Vm
/-
  Miners: their size, a copy, a comparison.
-/
namespace Vm
open Go
/-- changes of a transaction that is open -/
structure BufD where
  tx : Int
  ch : List ChgD
abbrev BufD.cs (x : BufD) : List S := [.int .i64 x.tx, .fs (chs x.ch)]
structure BufD.ok (x : BufD) : Prop where
  c : ∀ c ∈ x.ch, c.ok
  l : x.ch.length ≤ maxLen
def bufs (l : List BufD) : List (List S) := l.map BufD.cs
structure MinD where
  pages : List (List UInt8)
  bs : List BufD
abbrev MinD.cs (m : MinD) : List S := [.fs (bss m.pages), .fs (bufs m.bs)]
@[simp] theorem bufs_len (l : List BufD) : (bufs l).length = l.length := by simp [bufs]
theorem bufs_row {l : List BufD} : ∀ r ∈ bufs l, r.length = 2 := by
  intro r hr
  obtain ⟨x, _, rfl⟩ := List.mem_map.1 hr
  rfl
theorem bufs_cl {l : List BufD} : ∀ r ∈ bufs l, ∀ s ∈ r, Cl s := by
  intro r hr s hs
  obtain ⟨x, _, rfl⟩ := List.mem_map.1 hr
  simp only [List.mem_cons, List.mem_nil_iff, or_false] at hs
  rcases hs with rfl | rfl <;> exact fun _ _ => by simp
theorem bufs_get {l : List BufD} {i : Nat} {x : BufD} (h : l[i]? = some x) : (bufs l)[i]? = some x.cs := by simp [bufs, h]
theorem idxF_bf {R : Type} {l : List BufD} {i : Nat} {x : BufD} {f : List S → Option R} (h : l[i]? = some x) : idxF 2 (bufs l) (i : Int) f = f x.cs := idxF_at (bufs_get h) rfl
theorem rowN_bf {x : BufD} : rowN 2 x.cs 0 = some x.cs := rowN_all rfl
theorem rp_Buffer {n : Nat} {xs : List S} (hr : Rp PR n T.laws_Buffer xs) : ∃ x : BufD, xs = x.cs ∧ x.ok := by
  obtain ⟨m, hf⟩ := hr.st und_laws_Buffer
  obtain ⟨a0, b0, rfl, h0, a1, b1, rfl, h1, rfl⟩ := hf
  obtain ⟨x0, rfl, w0⟩ := h0.int und_int64
  obtain ⟨m1, r1, rfl, l1, w1⟩ := h1.slice und_S_laws_Change
  obtain ⟨c1, rfl, o1⟩ := rows_Change r1 w1
  exact ⟨⟨x0, c1⟩, rfl, o1, by simpa using l1⟩
theorem rows_Buffer {m : Nat} : ∀ rows : List (List S), (∀ r ∈ rows, r.length = PR.cellsOf T.laws_Buffer ∧ Rp PR m T.laws_Buffer r) → ∃ l : List BufD, rows = bufs l ∧ ∀ x ∈ l, x.ok
  | [], _ => ⟨[], rfl, by simp⟩
  | r :: rows, hr => by
    obtain ⟨l, h1, h2⟩ := rows_Buffer rows fun r hm => hr r (by simp [hm])
    obtain ⟨a, h3, h4⟩ := rp_Buffer (hr r (by simp)).2
    refine ⟨a :: l, by rw [h1, h3]; rfl, fun x hx => ?_⟩
    rcases List.mem_cons.1 hx with rfl | hx
    · exact h4
    · exact h2 x hx
theorem arg_Miner {x : V} (hr : ArgRp PR T.laws_Miner x) : ∃ m : MinD, x = .agg m.cs ∧ (∀ l ∈ m.pages, l.length ≤ maxLen) ∧ m.pages.length ≤ maxLen ∧ (∀ x ∈ m.bs, x.ok) ∧ m.bs.length ≤ maxLen := by
  obtain ⟨cs, n, rfl, hs⟩ := hr.st und_laws_Miner
  obtain ⟨m, hf⟩ := hs.st und_laws_Miner
  obtain ⟨a0, b0, rfl, h0, a1, b1, rfl, h1, rfl⟩ := hf
  obtain ⟨m1, r1, rfl, l1, w1⟩ := h0.slice und_S_S_uint8
  obtain ⟨ps, rfl, o1⟩ := rows_Pg r1 w1
  obtain ⟨m2, r2, rfl, l2, w2⟩ := h1.slice und_S_laws_Buffer
  obtain ⟨bs, rfl, o2⟩ := rows_Buffer r2 w2
  exact ⟨⟨ps, bs⟩, rfl, o1, by simpa using l1, o2, by simpa using l2⟩
/-! size -/
def szBuf (x : BufD) (left : Int) : Int := if (x.ch.length : Int) ≤ left then szChgs x.ch (left - x.ch.length) else -1
theorem szBuf_le {x : BufD} {left : Int} (h : 0 ≤ left) : szBuf x left ≤ left ∧ -1 ≤ szBuf x left := by
  unfold szBuf
  split
  · have := szChgs_le x.ch (left - x.ch.length) (by omega); omega
  · omega
theorem szBuf_ok {x : BufD} {left : Int} (h2 : 0 ≤ szBuf x left) : (x.ch.length : Int) ≤ left := by
  unfold szBuf at h2
  split at h2
  · assumption
  · omega
theorem p_szBuffer (x : BufD) {left : Int} (h1 : 0 ≤ left) (h2 : left < 9223372036854775808) (hx : x.ok) : pureV (call Ev) Fn.laws_szBuffer [.agg x.cs, iv .i64 left] = some (iv .i64 (szBuf x left)) := by
  rw [pu_laws_szBuffer, pc (p_szChangeS h1 h2 hx.l hx.c) rfl]
  simp only [gV1_s, gI_i]
  show vcase (bv (decide (szBuf x left < 0))) _ _ = _
  rw [vcase_b]
  have := szBuf_le (x := x) h1
  by_cases h : szBuf x left < 0
  · rw [if_pos (by simpa using h), show szBuf x left = -1 from by omega]
  · rw [if_neg (by simpa using h)]; rfl
def szBufs : List BufD → Int → Int
  | [], left => left
  | x :: l, left => if 0 ≤ szBuf x left then szBufs l (szBuf x left) else -1
theorem szBufs_le : ∀ (l : List BufD) (left : Int), 0 ≤ left → szBufs l left ≤ left ∧ -1 ≤ szBufs l left
  | [], left, h => ⟨Int.le_refl _, by simp only [szBufs]; omega⟩
  | x :: l, left, h => by
    have h1 := szBuf_le (x := x) h
    simp only [szBufs]
    split
    · rename_i h2
      have := szBufs_le l (szBuf x left) h2; omega
    · omega
theorem szBufs_ok : ∀ (l : List BufD) (left : Int), 0 ≤ left → 0 ≤ szBufs l left → ∀ x ∈ l, (x.ch.length : Int) ≤ left
  | [], left, h, _, x, hx => by simp at hx
  | y :: l, left, h, h2, x, hx => by
    simp only [szBufs] at h2
    split at h2
    · rename_i h3
      have h4 := szBuf_le (x := y) h
      rcases List.mem_cons.1 hx with rfl | hx
      · exact szBuf_ok h3
      · have := szBufs_ok l _ h3 h2 x hx; omega
    · omega
theorem p_szBufferS {all : List BufD} {left : Int} (h1 : 0 ≤ left) (h2 : left < 9223372036854775808) (hl : all.length ≤ maxLen) (hr : ∀ x ∈ all, x.ok) : pureV (call Ev) Fn.laws_szBufferS [lv (bufs all), iv .i64 left] = some (iv .i64 (if (all.length : Int) ≤ left then szBufs all (left - all.length) else -1)) := by
  unfold maxLen at hl
  have loop : ∀ (rs : List BufD) (i : Nat) (q : Int), all.drop i = rs → 0 ≤ q → q < 9223372036854775808 →
      (Lp.laws_szBufferS 0 [lv (bufs all), iv .i64 q, iv .i64 i] (D 0)).bind (fun o102 => lcase o102 (fun l103 h104 =>
        (l103[0]?).bind fun w107 =>
        gV1 w107 fun x108 =>
        gI .i64 x108 fun i109 =>
        some (iv .i64 i109)) (fun v105 h106 =>
        frzV h106 v105)) = some (iv .i64 (szBufs rs q)) := by
    intro rs
    induction rs with
    | nil =>
      intro i q hi h1 h2
      have := drop_nil hi
      rw [eq_laws_szBufferS_l0, vcase_b, if_neg (by simp; omega), tidy_self, ob, lcase_done]
      simp only [gx0, ob, gV1_s, gI_i, szBufs]
    | cons r rs ih =>
      intro i q hi h1 h2
      obtain ⟨g1, g2, g3⟩ := drop_cons hi
      have hle := szBuf_le (x := r) h1
      rw [eq_laws_szBufferS_l0, vcase_b, if_pos (by simp; omega), idxF_bf g1, rowN_bf]
      simp only [ob, gx0, gx1, gI_i, gF_f, ln0, ln1, Nat.zero_add, Nat.reduceAdd, if_true]
      rw [pc (p_szBuffer r h1 h2 (hr r (List.mem_of_getElem? g1))) rfl]
      simp only [gV1_s, gI_i, vcase_b, decide_eq_true_eq, szBufs]
      by_cases hle : 0 ≤ szBuf r q
      · rw [if_neg (by omega), w64 (by omega) (by omega), tidy_self, show (i : Int) + 1 = ((i + 1 : Nat) : Int) from by omega, if_pos hle]
        exact ih (i + 1) _ g2 (by omega) (by omega)
      · rw [if_pos (by omega), if_neg hle]; rfl
  rw [pu_laws_szBufferS, vcase_b, bufs_len, w64 (by omega) (by omega)]
  by_cases hq : (all.length : Int) ≤ left
  · rw [if_neg (by simp; omega), if_pos hq]
    exact loop all 0 _ rfl (by omega) (by omega)
  · rw [if_pos (by simp; omega), if_neg hq]
def szPg (ps : List (List UInt8)) (left : Int) : Int := if (ps.length : Int) ≤ left then szPgs ps (left - ps.length) else -1
def szMin (m : MinD) : Int := if 0 ≤ szPg m.pages 1048576 then (if (m.bs.length : Int) ≤ szPg m.pages 1048576 then szBufs m.bs (szPg m.pages 1048576 - m.bs.length) else -1) else -1
theorem p_szMiner (m : MinD) (h1 : ∀ l ∈ m.pages, l.length ≤ maxLen) (h2 : m.pages.length ≤ maxLen) (h3 : ∀ x ∈ m.bs, x.ok) (h4 : m.bs.length ≤ maxLen) : pureV (call Ev) Fn.laws_szMiner [.agg m.cs, iv .i64 1048576] = some (iv .i64 (szMin m)) := by
  have hle : szPg m.pages 1048576 ≤ 1048576 ∧ -1 ≤ szPg m.pages 1048576 := by
    unfold szPg
    split
    · have := szPgs_le m.pages (1048576 - m.pages.length) (by omega); omega
    · omega
  have e := p_szPgs (all := m.pages) (left := 1048576) (by omega) (by omega) h2 h1
  have e' : pureV (call Ev) Fn.laws_szByteSS [lv (bss m.pages), iv .i64 1048576] = some (iv .i64 (szPg m.pages 1048576)) := e
  rw [pu_laws_szMiner, pc e' rfl]
  simp only [gV1_s, gI_i]
  unfold szMin
  generalize szPg m.pages 1048576 = q at hle ⊢
  rw [vcase_b]
  by_cases h : q < 0
  · rw [if_pos (by simpa using h), if_neg (by omega)]
  · rw [if_neg (by simpa using h), if_pos (by omega)]
    rw [pc (p_szBufferS (by omega) (by omega) h4 h3) rfl]
    simp only [gV1_s, gI_i, vcase_b, decide_eq_true_eq]
    by_cases hq : (m.bs.length : Int) ≤ q
    · rw [if_pos hq]
      have := szBufs_le m.bs (q - m.bs.length) (by omega)
      by_cases hz : szBufs m.bs (q - m.bs.length) < 0
      · rw [if_pos hz, show szBufs m.bs (q - m.bs.length) = -1 from by omega]
      · rw [if_neg hz]
    · rw [if_neg hq, if_pos (by omega)]
/-- a miner of a size -/
structure MinD.sm (m : MinD) : Prop where
  p : m.pages.length ≤ 1048576
  b : m.bs.length ≤ 1048576
  c : ∀ x ∈ m.bs, x.ch.length ≤ 1048576
  l : ∀ l ∈ m.pages, l.length ≤ lim
theorem szMin_ok {m : MinD} (h : ¬ szMin m < 0) : m.sm := by
  unfold szMin szPg at h
  by_cases hp : (m.pages.length : Int) ≤ 1048576
  case neg => rw [if_neg hp] at h; simp at h
  rw [if_pos hp] at h
  have h1 := szPgs_le m.pages (1048576 - m.pages.length) (by omega)
  by_cases h2 : 0 ≤ szPgs m.pages (1048576 - m.pages.length)
  case neg => rw [if_neg h2] at h; simp at h
  rw [if_pos h2] at h
  have h3 := szPgs_sum m.pages (1048576 - m.pages.length) (by omega) (by omega)
  by_cases h4 : (m.bs.length : Int) ≤ szPgs m.pages (1048576 - m.pages.length)
  case neg => rw [if_neg h4] at h; simp at h
  rw [if_pos h4] at h
  have h5 := szBufs_ok m.bs _ (by omega) (by omega : 0 ≤ szBufs m.bs (szPgs m.pages (1048576 - m.pages.length) - m.bs.length))
  exact ⟨by omega, by omega, fun x hx => by have := h5 x hx; omega, fun l hl => by have := psz_mem hl; unfold lim; omega⟩
/-! copies -/
theorem p_toBuffer (x : BufD) (hx : x.ch.length ≤ 1048576) : pureV (call Ev) Fn.laws_toBuffer [.agg x.cs] = some (.agg x.cs) := by
  rw [pu_laws_toBuffer, p_toChangesP (by unfold lim; omega)]
  simp only [ob, gV1_s, gF_f]
theorem p_toBufferS {all : List BufD} (hl : all.length ≤ lim) (hx : ∀ x ∈ all, x.ch.length ≤ 1048576) : pureV (call Ev) Fn.laws_toBufferS [lv (bufs all)] = some (lv (bufs all)) := by
  have hl' := hl
  unfold lim at hl'
  rw [pu_laws_toBufferS, bufs_len, mkSl_of (z := 2) (zero := [.int .i64 0, .sl none 0]) hl (by omega) rfl, ob]
  obtain ⟨h', e1, e2, e3, _⟩ := fill_rows (z := 2) (n := all.length) (b := 0) (rows := bufs all) (L := fun i h => Lp.laws_toBufferS 0 [lv (bufs all), sv 0 0 all.length, iv .i64 i] h) (fin := [sv 0 0 all.length]) (by simp) bufs_row
    (fun i h r hr' hi hb => by
      obtain ⟨a, ha⟩ : ∃ a, all[i]? = some a := ⟨_, List.getElem?_eq_getElem hi⟩
      rw [bufs_get ha] at hr'; cases hr'
      refine ⟨.agg a.cs, [lv (bufs all), sv 0 0 all.length, iv .i64 ((i + 1 : Nat) : Int)], .inr rfl, ?_⟩
      show Lp.laws_toBufferS 0 _ h = _
      rw [eq_laws_toBufferS_l0, vcase_b, if_pos (by simp; omega), idxF_bf ha, rowN_bf]
      simp only [ob, gx0, gx1, gI_i, gF_f, gVA_a, ln0, ln1, Nat.zero_add, Nat.reduceAdd, if_true]
      rw [p_toBuffer a (hx a (List.mem_of_getElem? ha))]
      simp only [ob, gx0, gx1, gI_i, gF_f, gVA_a, ln0, ln1, Nat.zero_add, Nat.reduceAdd, if_true]
      rw [idxK_sv hi, w64 (by omega) (by omega), show (i : Int) + 1 = ((i + 1 : Nat) : Int) from by omega])
    (fun h => by
      show Lp.laws_toBufferS 0 _ h = _
      rw [eq_laws_toBufferS_l0, vcase_b, if_neg (by simp), tidy_self])
    ((D 0).new 2 ((List.replicate all.length [.int .i64 0, .sl none 0]).flatten)) _ (by simp) (by exact new_g (D 0) _ _) (repl_len rfl)
  rw [D_n, e1]
  simp only [ob, lcase_done, gx0]
  have hn : h'.n = 1 := by rw [e2]; simp
  have := frzV_sv (h := h') (b := 0) (z := 2) (rows := bufs all) (by omega) (by omega) e3 bufs_row bufs_cl
  rw [bufs_len] at this
  exact this
theorem p_toMiner (m : MinD) (w : m.sm) : pureV (call Ev) Fn.laws_toMiner [.agg m.cs] = some (.agg m.cs) := by
  have h1 := w.p
  have h2 := w.b
  rw [pu_laws_toMiner, p_toPgs (by unfold lim; omega) w.l]
  simp only [ob, gV1_s, gF_f]
  rw [p_toBufferS (by unfold lim; omega) w.c]
  simp only [ob, gV1_s, gF_f]
/-! comparisons -/
theorem p_eqBuffer (x : BufD) (hx : x.ok) : pureV (call Ev) Fn.laws_eqBuffer [.agg x.cs, .agg x.cs] = some (bv true) := by
  rw [pu_laws_eqBuffer, vcase_b, if_neg (by simp), pc (p_eqChangeS hx.l) rfl]
  simp only [gV1_s, gB_b, vcase_b]
  rw [if_neg (by simp)]
theorem p_eqBufferS {all : List BufD} (hl : all.length ≤ maxLen) (hx : ∀ x ∈ all, x.ok) : pureV (call Ev) Fn.laws_eqBufferS [lv (bufs all), lv (bufs all)] = some (bv true) := by
  unfold maxLen at hl
  have loop : ∀ (rs : List BufD) (i : Nat), all.drop i = rs → Lp.laws_eqBufferS 0 [lv (bufs all), lv (bufs all), iv .i64 i] (D 0) = some (.done [] (D 0)) := by
    intro rs
    induction rs with
    | nil =>
      intro i hi
      have := drop_nil hi
      rw [eq_laws_eqBufferS_l0, vcase_b, if_neg (by simp; omega), tidy_self]
    | cons r rs ih =>
      intro i hi
      obtain ⟨g1, g2, g3⟩ := drop_cons hi
      rw [eq_laws_eqBufferS_l0, vcase_b, if_pos (by simp; omega), idxF_bf g1, rowN_bf]
      simp only [ob, gx0, gx1, gI_i, gF_f, ln0, ln1, Nat.zero_add, Nat.reduceAdd, if_true]
      rw [idxF_bf g1, rowN_bf]
      simp only [ob, gx0, gx1, gI_i, gF_f, ln0, ln1, Nat.zero_add, Nat.reduceAdd, if_true]
      rw [pc (p_eqBuffer r (hx r (List.mem_of_getElem? g1))) rfl]
      simp only [gV1_s, gB_b, hchk_self, vcase_b]
      rw [if_neg (by simp), tidy_self, w64 (by omega) (by omega), show (i : Int) + 1 = ((i + 1 : Nat) : Int) from by omega]
      exact ih (i + 1) g2
  rw [pu_laws_eqBufferS, vcase_b, if_neg (by simp), show iv .i64 0 = iv .i64 ((0 : Nat) : Int) from rfl, loop all 0 rfl]
  simp
theorem p_eqMiner (m : MinD) (h1 : ∀ l ∈ m.pages, l.length ≤ maxLen) (h2 : m.pages.length ≤ maxLen) (h3 : ∀ x ∈ m.bs, x.ok) (h4 : m.bs.length ≤ maxLen) : pureV (call Ev) Fn.laws_eqMiner [.agg m.cs, .agg m.cs] = some (bv true) := by
  rw [pu_laws_eqMiner, pc (p_eqPgs h2 h1 rfl) rfl]
  simp only [gV1_s, gB_b, vcase_b]
  rw [if_neg (by simp), pc (p_eqBufferS h4 h3) rfl]
  simp only [gV1_s, gB_b, vcase_b]
  rw [if_neg (by simp)]
end Vm
/-
  The fault of a miner: what both ways come to.
-/
namespace Vm
open Go
theorem idxK_lb {R : Type} {z : Nat} {rows : List (List S)} {k : IntKind} {j : Int} {f : V → Option R} : idxK z (.s (.fs rows)) (iv k j) f = idxF z rows j fun r => f (fv r 0) := rfl
/-! folded changes -/
def foldG : Option ChgD → List ChgD → Int
  | _, [] => 0
  | p, c :: cs => if sgF c ≠ 0 then sgF c else if (match p with | none => false | some q => !befB q.k c.k) = true then 1 else foldG (some c) cs
def foldF (all : List ChgD) : Int := if 60 < all.length then 2 else foldG none all
def lastC (all : List ChgD) (i : Nat) : Option ChgD := if i = 0 then none else all[i - 1]?
theorem foldG_n {p : Option ChgD} {c : ChgD} {cs : List ChgD} (h : sgF c ≠ 0) : foldG p (c :: cs) = sgF c := by cases p <;> simp [foldG, h]
theorem foldG_0 {c : ChgD} {cs : List ChgD} (h : sgF c = 0) : foldG none (c :: cs) = foldG (some c) cs := by rw [foldG, if_neg (by simp [h]), if_neg (by simp)]
theorem foldG_1 {q c : ChgD} {cs : List ChgD} (h : sgF c = 0) (hb : befB q.k c.k = false) : foldG (some q) (c :: cs) = 1 := by rw [foldG, if_neg (by simp [h]), if_pos (by simp [hb])]
theorem foldG_2 {q c : ChgD} {cs : List ChgD} (h : sgF c = 0) (hb : befB q.k c.k = true) : foldG (some q) (c :: cs) = foldG (some c) cs := by rw [foldG, if_neg (by simp [h]), if_neg (by simp [hb])]
theorem lastC_s {all : List ChgD} {i : Nat} {c : ChgD} (h : all[i]? = some c) : lastC all (i + 1) = some c := by simp [lastC, h]
theorem lastC_p {all : List ChgD} {i : Nat} (hi : 0 < i) : lastC all i = all[i - 1]? := by unfold lastC; rw [if_neg (by omega)]
abbrev z10c : List S := [.bool false, .int .i64 0, .int .i64 0, .int .i64 0, .str (⟨#[]⟩), .bool false, .int .i64 0, .int .i64 0, .int .i64 0, .str (⟨#[]⟩)]
theorem p_l9Ahead (a b : ChgD) : pureV (call Ev) Fn.spec_l9Ahead [fv a.cs 0, fv b.cs 0] = some (bv (befB a.k b.k)) := by
  refine (pu_spec_l9Ahead a.was a.b.tab a.b.key a.b.val a.b.text a.is a.a.tab a.a.key a.a.val a.a.text b.was b.b.tab b.b.key b.b.val b.b.text b.is b.a.tab b.a.key b.a.val b.a.text).trans ?_
  have e1 : pureV (call Ev) Fn.spec_l6Key [fv [.bool a.was, .int .i64 a.b.tab, .int .i64 a.b.key, .int .i64 a.b.val, .str a.b.text, .bool a.is, .int .i64 a.a.tab, .int .i64 a.a.key, .int .i64 a.a.val, .str a.a.text] 0] = _ := p_l6Key a
  have e2 : pureV (call Ev) Fn.spec_l6Key [fv [.bool b.was, .int .i64 b.b.tab, .int .i64 b.b.key, .int .i64 b.b.val, .str b.b.text, .bool b.is, .int .i64 b.a.tab, .int .i64 b.a.key, .int .i64 b.a.val, .str b.a.text] 0] = _ := p_l6Key b
  rw [pc e1 rfl]
  simp only [gVT_t, gA1_s, ob, gx0, gx1, gI_i, ln0, ln1, Nat.zero_add, Nat.reduceAdd, if_true]
  rw [pc e2 rfl]
  simp only [gVT_t, gA1_s, ob, gx0, gx1, gI_i, ln0, ln1, Nat.zero_add, Nat.reduceAdd, if_true]
  unfold befB
  simp only [vcase_b, decide_eq_true_eq, beq_iff_eq]
  split
  · rename_i h; simp [h]
  · rename_i h
    split
    · rename_i h2; simp [h2]
    · rename_i h2; simp [h, h2]
theorem normV_ch {c : ChgD} : normV 10 (fv c.cs 0) = fv c.cs 0 := rfl
theorem p_l9List {all : List ChgD} (hc : ∀ c ∈ all, c.ok) (hl : all.length ≤ maxLen) : pureV (call Ev) Fn.spec_l9List [lv (chs all)] = some (iv .i64 (foldF all)) := by
  unfold maxLen at hl
  have loop : ∀ (rs : List ChgD) (i : Nat), all.drop i = rs → ∃ h', Lp.spec_l9List 0 [lv (chs all), iv .i64 i] (D 0) = some (outI (foldG (lastC all i) rs) h') := by
    intro rs
    induction rs with
    | nil =>
      intro i hi
      have := drop_nil hi
      refine ⟨D 0, ?_⟩
      rw [eq_spec_l9List_l0, vcase_b, if_neg (by simp; omega), tidy_self]
      cases lastC all i <;> rfl
    | cons c rs ih =>
      intro i hi
      obtain ⟨g1, g2, g3⟩ := drop_cons hi
      rw [eq_spec_l9List_l0, vcase_b, if_pos (by simp; omega), idxF_ch g1, normV_ch, pc (p_l9Change c (hc c (List.mem_of_getElem? g1))) rfl]
      simp only [gV1_s, gI_i]
      rw [vcase_b]
      by_cases hs : sgF c = 0
      case neg => rw [if_pos (by simpa using hs), foldG_n hs]; exact ⟨_, by rw [outI_n hs]⟩
      rw [if_neg (by simpa using hs), vcase_b]
      obtain ⟨h', ih'⟩ := ih (i + 1) g2
      rw [lastC_s g1] at ih'
      rw [w64 (n := (i : Int) + 1) (by omega) (by omega), show (i : Int) + 1 = ((i + 1 : Nat) : Int) from by omega]
      by_cases h0 : i = 0
      · subst h0
        rw [if_neg (by simp), hchk_self, tidy_self, show lastC all 0 = none from rfl, foldG_0 hs]
        exact ⟨h', ih'⟩
      · rw [if_pos (by simp; omega), w64 (n := (i : Int) - 1) (by omega) (by omega), show (i : Int) - 1 = ((i - 1 : Nat) : Int) from by omega]
        obtain ⟨q, hq⟩ : ∃ q, all[i - 1]? = some q := ⟨all[i - 1]'(by omega), List.getElem?_eq_getElem (by omega)⟩
        rw [idxF_ch hq, idxF_ch g1, normV_ch, normV_ch, pc (p_l9Ahead q c) rfl]
        simp only [gV1_s, gB_b, hchk_self]
        rw [vcase_b, lastC_p (by omega), hq]
        cases hb : befB q.k c.k
        · rw [if_pos (by simp), foldG_1 hs hb]; exact ⟨_, by rw [outI_n (by decide)]⟩
        · rw [if_neg (by simp), foldG_2 hs hb, tidy_self]; exact ⟨h', ih'⟩
  rw [pu_spec_l9List, vcase_b, chs_len]
  unfold foldF
  by_cases h60 : 60 < all.length
  · rw [if_pos (by simp; omega), if_pos h60]
  rw [if_neg (by simp; omega), if_neg h60]
  obtain ⟨h', e⟩ := loop all 0 rfl
  rw [show iv .i64 0 = iv .i64 ((0 : Nat) : Int) from rfl, e, ob, show lastC all 0 = none from rfl]
  by_cases hz : foldG none all = 0
  · rw [hz, outI_0, lcase_done]; try rfl
  · rw [outI_n hz, lcase_ret, frzV_iv]
theorem p_foldedFault {all : List ChgD} (hc : ∀ c ∈ all, c.ok) (hl : all.length ≤ maxLen) : pureV (call Ev) Fn.impl_foldedFault [lv (chs all)] = some (iv .i64 (foldF all)) := by
  unfold maxLen at hl
  have loop : ∀ (rs : List ChgD) (i : Nat), all.drop i = rs → ∃ h', Lp.impl_foldedFault 0 [lv (chs all), lv (chs all), iv .i64 (all.length : Int), iv .i64 i] (D 0) = some (outI (foldG (lastC all i) rs) h') := by
    intro rs
    induction rs with
    | nil =>
      intro i hi
      have := drop_nil hi
      refine ⟨D 0, ?_⟩
      rw [eq_impl_foldedFault_l0, vcase_b, if_neg (by simp; omega), tidy_self]
      cases lastC all i <;> rfl
    | cons c rs ih =>
      intro i hi
      obtain ⟨g1, g2, g3⟩ := drop_cons hi
      rw [eq_impl_foldedFault_l0, vcase_b, if_pos (by simp; omega), idxF_ch g1, rowN_ch]
      simp only [ob, gx0, gx1, gI_i, gS_s, gB_b, ln0, ln1, Nat.zero_add, Nat.reduceAdd, if_true]
      rw [stK_X (z := 10) rfl rfl, loadN_X (n := 10) (r := c.cs) (by simp) rfl]
      have hX : ∀ vs : List V, vs.all (belV (D 0).n) = true → tidy (D 0) vs (putX (D 0) z10c c.cs) = D 0 := fun vs hv => putX_tidy hv
      have hL : loadN 10 (putX (D 0) z10c c.cs) (pv (D 0).n 0) = some c.cs := loadN_X (n := 10) (r := c.cs) (by simp) rfl
      have hGo : putX (D 0) [.bool false, .int .i64 0, .int .i64 0, .int .i64 0, .str (⟨#[]⟩), .bool false, .int .i64 0, .int .i64 0, .int .i64 0, .str (⟨#[]⟩)] [.bool c.was, .int .i64 c.b.tab, .int .i64 c.b.key, .int .i64 c.b.val, .str c.b.text, .bool c.is, .int .i64 c.a.tab, .int .i64 c.a.key, .int .i64 c.a.val, .str c.a.text] = putX (D 0) z10c c.cs := rfl
      rw [hGo]
      generalize putX (D 0) z10c c.cs = X at hX hL ⊢
      simp only [ob, gx0, gx1, gI_i, gS_s, gB_b, ln0, ln1, Nat.zero_add, Nat.reduceAdd, if_true]
      have e1 : pureV (call Ev) Fn.impl_singleFault [.agg [.bool c.was, .int .i64 c.b.tab, .int .i64 c.b.key, .int .i64 c.b.val, .str c.b.text, .bool c.is, .int .i64 c.a.tab, .int .i64 c.a.key, .int .i64 c.a.val, .str c.a.text]] = _ := p_singleFault c (hc c (List.mem_of_getElem? g1))
      rw [pc e1 rfl]
      simp only [gV1_s, gI_i]
      rw [vcase_b]
      by_cases hs : sgF c = 0
      case neg => rw [if_pos (by simpa using hs), foldG_n hs]; exact ⟨_, by rw [outI_n hs]⟩
      rw [if_neg (by simpa using hs), vcase_b]
      obtain ⟨h', ih'⟩ := ih (i + 1) g2
      rw [lastC_s g1] at ih'
      rw [w64 (n := (i : Int) + 1) (by omega) (by omega), show (i : Int) + 1 = ((i + 1 : Nat) : Int) from by omega]
      by_cases h0 : i = 0
      · subst h0
        rw [if_neg (by simp), hchk_self, hchk_self, hchk_self, hX _ (by simp [belV, belS]), show lastC all 0 = none from rfl, foldG_0 hs]
        exact ⟨h', ih'⟩
      · rw [if_pos (by simp; omega), w64 (n := (i : Int) - 1) (by omega) (by omega), show (i : Int) - 1 = ((i - 1 : Nat) : Int) from by omega]
        obtain ⟨q, hq⟩ : ∃ q, all[i - 1]? = some q := ⟨all[i - 1]'(by omega), List.getElem?_eq_getElem (by omega)⟩
        rw [idxF_ch hq, rowN_ch]
        simp only [ob, gx0, gx1, gI_i, gS_s, gB_b, ln0, ln1, Nat.zero_add, Nat.reduceAdd, if_true]
        have k1 : pureV (call Ev) Fn.impl_Change_key [.agg [.bool q.was, .int .i64 q.b.tab, .int .i64 q.b.key, .int .i64 q.b.val, .str q.b.text, .bool q.is, .int .i64 q.a.tab, .int .i64 q.a.key, .int .i64 q.a.val, .str q.a.text]] = _ := p_Change_key q
        have k2 : pureV (call Ev) Fn.impl_Change_key [.agg [.bool c.was, .int .i64 c.b.tab, .int .i64 c.b.key, .int .i64 c.b.val, .str c.b.text, .bool c.is, .int .i64 c.a.tab, .int .i64 c.a.key, .int .i64 c.a.val, .str c.a.text]] = _ := p_Change_key c
        rw [pc k1 (by simp)]
        simp only [gVA_a, ob, gx0, gx1, gI_i, gS_s, gB_b, ln0, ln1, Nat.zero_add, Nat.reduceAdd, if_true, hchk_self]
        rw [pc k2 (by simp)]
        simp only [gVA_a, ob, gx0, gx1, gI_i, gS_s, gB_b, ln0, ln1, Nat.zero_add, Nat.reduceAdd, if_true, hchk_self]
        have k3 : pureV (call Ev) Fn.impl_IsBefore [.agg [.int .i64 q.k.tab, .int .i64 q.k.key, .int .i64 q.k.val, .str q.k.text], .agg [.int .i64 c.k.tab, .int .i64 c.k.key, .int .i64 c.k.val, .str c.k.text]] = _ := p_IsBefore q.k c.k
        rw [pc k3 rfl]
        simp only [gV1_s, gB_b, hchk_self]
        rw [vcase_b, lastC_p (by omega), hq]
        cases hb : befB q.k c.k
        · rw [if_pos (by simp), foldG_1 hs hb]; exact ⟨_, by rw [outI_n (by decide)]⟩
        · rw [if_neg (by simp), foldG_2 hs hb, hX _ (by simp [belV, belS])]; exact ⟨h', ih'⟩
  rw [pu_impl_foldedFault, vcase_b, chs_len]
  unfold foldF
  by_cases h60 : 60 < all.length
  · rw [if_pos (by simp; omega), if_pos h60]
  rw [if_neg (by simp; omega), if_neg h60]
  obtain ⟨h', e⟩ := loop all 0 rfl
  rw [show iv .i64 0 = iv .i64 ((0 : Nat) : Int) from rfl, e, ob, show lastC all 0 = none from rfl]
  by_cases hz : foldG none all = 0
  · rw [hz, outI_0, lcase_done]; try rfl
  · rw [outI_n hz, lcase_ret, frzV_iv]
/-! the place of a transaction -/
def idxB (t : Int) : List BufD → Nat → Int
  | [], _ => -1
  | x :: l, i => if x.tx = t then i else idxB t l (i + 1)
theorem idxB_le {t : Int} : ∀ (l : List BufD) (i j : Nat) (x : BufD), l[j]? = some x → x.tx = t → idxB t l i ≤ i + j
  | [], i, j, x, h, _ => by simp at h
  | y :: l, i, j, x, h, hx => by
    unfold idxB
    split
    · omega
    · cases j with
      | zero => simp at h; subst h; contradiction
      | succ j =>
        have := idxB_le l (i + 1) j x (by simpa using h) hx
        omega
theorem psz_open : ∀ (x : BufD) (t : Int), normVs (Ev.psz Fn.impl_Miner_open_1) [.agg x.cs, fv [.int .i64 t] 0] = [.agg x.cs, fv [.int .i64 t] 0] := fun x t => by kernel_rfl
theorem rt_open : Ev.rt Fn.impl_Miner_open_1 = .one .b := by kernel_rfl
theorem p_open {m : MinD} {t : Int} (hl : m.bs.length ≤ maxLen) : pureV (call Ev) Fn.impl_Miner_open [.agg m.cs, iv .i64 t] = some (iv .i64 (idxB t m.bs 0)) := by
  unfold maxLen at hl
  rw [pu_impl_Miner_open]
  generalize hG : ((D 0).new 0 [S.fs (bss m.pages), .fs (bufs m.bs)]).new 0 [.int .i64 t] = G
  have gn : G.n = 2 := by rw [← hG]; simp
  have gg : G.g 1 = .rw 0 [.int .i64 t] := by rw [← hG]; exact new_g ((D 0).new 0 [S.fs (bss m.pages), .fs (bufs m.bs)]) _ _
  have loop : ∀ (rs : List BufD) (i : Nat), m.bs.drop i = rs → Lp.slices_IndexFunc_impl_Buffer_impl_Buffer 0 [lv (bufs m.bs), .s (.fn Fn.impl_Miner_open_1 [(1, 0)]), iv .i64 (m.bs.length : Int), iv .i64 i] G = some (if idxB t rs i = -1 then .done [] G else .ret (iv .i64 (idxB t rs i)) G) := by
    intro rs
    induction rs with
    | nil =>
      intro i hi
      have := drop_nil hi
      rw [eq_slices_IndexFunc_impl_Buffer_impl_Buffer_l0, vcase_b, if_neg (by simp; omega), tidy_self]; rfl
    | cons x rs ih =>
      intro i hi
      obtain ⟨g1, g2, g3⟩ := drop_cons hi
      rw [eq_slices_IndexFunc_impl_Buffer_impl_Buffer_l0, vcase_b, if_pos (by simp; omega), idxK_lb, idxF_bf g1]
      have el : ∀ {R : Type} {ti : TI} {f : V → Option R}, ti.agg = true → ti.z = 2 → ldK (.agg [.i .i64, .f]) ti G (fv x.cs 0) f = f (.agg x.cs) := fun {R ti f} hz h2 => by
        simp only [ldK, ldT, hz, cond_true, h2, loadN]; rfl
      rw [el rfl rfl]
      simp only [gVA_a, ob, gx0, gx1, gI_i, ln0, ln1, Nat.zero_add, Nat.reduceAdd, if_true]
      have efn : ∀ {R : Type} {k : Nat → List (Nat × Nat) → Option R}, fnK (.s (.fn Fn.impl_Miner_open_1 [(1, 0)])) k = k Fn.impl_Miner_open_1 [(1, 0)] := fun {R k} => rfl
      rw [efn]
      have ef : frzVs G ([V.agg [.int .i64 x.tx, .fs (chs x.ch)]] ++ ([(1, 0)] : List (Nat × Nat)).map fun p => .s (.ptr (some p))) = some [.agg x.cs, fv [.int .i64 t] 0] := by
        refine frzVs_cons (by simp) (frzVs_cons (frz_pv (b := 1) (by omega) gg (by intro s hs; simp at hs; subst hs; exact cl_i)) frzVs_nil)
      rw [ef, ob, psz_open, rt_open]
      have e1 : pureV (call Ev) Fn.impl_Miner_open_1 [.agg x.cs, fv [.int .i64 t] 0] = some (bv (x.tx == t)) := by
        refine (pu_impl_Miner_open_1 x.tx (chs x.ch) [.int .i64 t] 0).trans ?_
        simp only [ob, gx0, gI_i]
      rw [pc e1 rfl]
      have e2 : ∀ {R : Type} {b : Bool} {q : V → Option R}, Vm.tyV (.one .b) (bv b) q = q (bv b) := fun {R b q} => by simp [Vm.tyV, tyS]
      rw [e2]
      simp only [gV1_s, gB_b]
      rw [vcase_b, w64 (n := (i : Int) + 1) (by omega) (by omega), show (i : Int) + 1 = ((i + 1 : Nat) : Int) from by omega, idxB]
      by_cases hx : x.tx = t
      · rw [if_pos (by simpa using hx), if_pos hx, if_neg (by omega)]
      · rw [if_neg (by simpa using hx), if_neg hx, tidy_self]
        exact ih (i + 1) g2
  rw [eq_slices_IndexFunc_impl_Buffer_impl_Buffer]
  simp only [lenV, ob, gV1_s, gI_i, bufs_len]
  rw [show iv .i64 0 = iv .i64 ((0 : Nat) : Int) from rfl, loop m.bs 0 rfl, ob]
  by_cases hz : idxB t m.bs 0 = -1
  · rw [if_pos hz, lcase_done, hz]; rfl
  · rw [if_neg hz, lcase_ret]; rfl
theorem p_l9At {m : MinD} {t : Int} (hl : m.bs.length ≤ maxLen) : pureV (call Ev) Fn.spec_l9At [fv m.cs 0, iv .i64 t] = some (iv .i64 (idxB t m.bs 0)) := by
  unfold maxLen at hl
  have loop : ∀ (rs : List BufD) (i : Nat), m.bs.drop i = rs → Lp.spec_l9At 0 [fv m.cs 0, iv .i64 t, iv .i64 i] (D 0) = some (if idxB t rs i = -1 then .done [] (D 0) else .ret (iv .i64 (idxB t rs i)) (D 0)) := by
    intro rs
    induction rs with
    | nil =>
      intro i hi
      have := drop_nil hi
      rw [eq_spec_l9At_l0]
      simp only [Nat.zero_add, ob, gx0, gx1, gF_f]
      rw [vcase_b, if_neg (by simp; omega), tidy_self]; rfl
    | cons x rs ih =>
      intro i hi
      obtain ⟨g1, g2, g3⟩ := drop_cons hi
      rw [eq_spec_l9At_l0]
      simp only [Nat.zero_add, ob, gx0, gx1, gF_f]
      rw [vcase_b, if_pos (by simp; omega), idxF_bf g1]
      simp only [ob, gx0, gx1, gI_i]
      rw [vcase_b, w64 (n := (i : Int) + 1) (by omega) (by omega), show (i : Int) + 1 = ((i + 1 : Nat) : Int) from by omega, idxB]
      by_cases hx : x.tx = t
      · rw [if_pos (by simpa using hx), if_pos hx, if_neg (by omega)]
      · rw [if_neg (by simpa using hx), if_neg hx, tidy_self]
        exact ih (i + 1) g2
  refine (pu_spec_l9At (bss m.pages) (bufs m.bs) t).trans ?_
  have el := loop m.bs 0 rfl
  have el' : Lp.spec_l9At 0 [fv [.fs (bss m.pages), .fs (bufs m.bs)] 0, iv .i64 t, iv .i64 0] (D 0) = _ := el
  rw [el', ob]
  by_cases hz : idxB t m.bs 0 = -1
  · rw [if_pos hz, lcase_done, hz]
  · rw [if_neg hz, lcase_ret, frzV_iv]
/-! the fault of a miner -/
def bufG (all : List BufD) : List BufD → Nat → Int
  | [], _ => 0
  | x :: l, i => if inB x.tx 1 99 = false then 3 else if foldF x.ch ≠ 0 then foldF x.ch else if idxB x.tx all 0 ≠ i then 6 else bufG all l (i + 1)
noncomputable def minF (m : MinD) : Int := if viewC m.pages ≠ 0 then viewC m.pages else if 8 < m.bs.length then 2 else bufG m.bs m.bs 0
theorem p_l9Fault {m : MinD} (h1 : m.pages.length ≤ maxLen) (h3 : ∀ x ∈ m.bs, x.ok) (h4 : m.bs.length ≤ maxLen) : pureV (call Ev) Fn.spec_MinerFault [.agg m.cs] = some (iv .i64 (minF m)) := by
  have h4' := h4
  unfold maxLen at h4
  have loop : ∀ (rs : List BufD) (i : Nat), m.bs.drop i = rs → ∃ h', Lp.spec_l9Fault 0 [fv m.cs 0, iv .i64 i] (D 0) = some (outI (bufG m.bs rs i) h') := by
    intro rs
    induction rs with
    | nil =>
      intro i hi
      have := drop_nil hi
      refine ⟨D 0, ?_⟩
      rw [eq_spec_l9Fault_l0]
      simp only [Nat.zero_add, ob, gx0, gx1, gF_f]
      rw [vcase_b, if_neg (by simp; omega), tidy_self]; rfl
    | cons x rs ih =>
      intro i hi
      obtain ⟨g1, g2, g3⟩ := drop_cons hi
      have hx := h3 x (List.mem_of_getElem? g1)
      rw [eq_spec_l9Fault_l0]
      simp only [Nat.zero_add, ob, gx0, gx1, gF_f]
      rw [vcase_b, if_pos (by simp; omega), idxF_bf g1]
      simp only [ob, gx0, gx1, gI_i]
      rw [pc (p_l1In _ _ _) rfl]
      simp only [gV1_s, gB_b]
      rw [vcase_b, bufG]
      cases hin : inB x.tx 1 99
      · rw [if_pos (by simp), if_pos rfl]; exact ⟨_, by rw [outI_n (by decide)]⟩
      rw [if_neg (by simp), if_neg (by simp), idxF_bf g1]
      simp only [ob, gx0, gx1, gF_f]
      rw [pc (p_l9List hx.c hx.l) rfl]
      simp only [gV1_s, gI_i]
      rw [vcase_b]
      by_cases hf : foldF x.ch = 0
      case neg => rw [if_pos (by simpa using hf), if_pos hf]; exact ⟨_, by rw [outI_n hf]⟩
      rw [if_neg (by simpa using hf), if_neg (by simpa using hf), idxF_bf g1]
      simp only [ob, gx0, gx1, gI_i]
      rw [show normV 2 (fv [.fs (bss m.pages), .fs (bufs m.bs)] 0) = fv m.cs 0 from rfl, pc (p_l9At h4') rfl]
      simp only [gV1_s, gI_i]
      rw [vcase_b]
      by_cases hb : idxB x.tx m.bs 0 = i
      case neg => rw [if_pos (by simpa using hb), if_pos hb]; exact ⟨_, by rw [outI_n (by decide)]⟩
      rw [if_neg (by simpa using hb), if_neg (by simpa using hb), tidy_self, w64 (n := (i : Int) + 1) (by omega) (by omega), show (i : Int) + 1 = ((i + 1 : Nat) : Int) from by omega]
      exact ih (i + 1) g2
  rw [pu_spec_MinerFault]
  have el : pureV (call Ev) Fn.spec_l9Fault [fv [.fs (bss m.pages), .fs (bufs m.bs)] 0] = some (iv .i64 (minF m)) := by
    rw [pu_spec_l9Fault, pc (p_l6Fault h1) rfl]
    simp only [gV1_s, gI_i]
    rw [vcase_b]
    unfold minF
    by_cases hc : viewC m.pages = 0
    case neg => rw [if_pos (by simpa using hc), if_pos hc]
    rw [if_neg (by simpa using hc), if_neg (by simpa using hc), vcase_b, bufs_len]
    by_cases h8 : 8 < m.bs.length
    · rw [if_pos (by simp; omega), if_pos h8]
    rw [if_neg (by simp; omega), if_neg h8]
    obtain ⟨h', e⟩ := loop m.bs 0 rfl
    have e' : Lp.spec_l9Fault 0 [fv [.fs (bss m.pages), .fs (bufs m.bs)] 0, iv .i64 0] (D 0) = _ := e
    rw [e', ob]
    by_cases hz : bufG m.bs m.bs 0 = 0
    · rw [hz, outI_0, lcase_done]; try rfl
    · rw [outI_n hz, lcase_ret, frzV_iv]
  rw [pc el rfl]
  simp only [gV1_s, gI_i]
theorem p_MinerFault {m : MinD} (h1 : m.pages.length ≤ maxLen) (h3 : ∀ x ∈ m.bs, x.ok) (h4 : m.bs.length ≤ maxLen) : pureV (call Ev) Fn.impl_MinerFault [.agg m.cs] = some (iv .i64 (minF m)) := by
  have h4' := h4
  unfold maxLen at h4
  generalize hG : (D 0).new 0 m.cs = G
  have gn : G.n = 1 := by rw [← hG]; simp
  have gg : G.g 0 = .rw 0 m.cs := by rw [← hG]; exact new_g (D 0) _ _
  have loop : ∀ (rs : List BufD) (i : Nat), m.bs.drop i = rs → ∃ h', Lp.impl_MinerFault 0 [pv 0 0, lv (bufs m.bs), iv .i64 (m.bs.length : Int), iv .i64 i] G = some (outI (bufG m.bs rs i) h') := by
    intro rs
    induction rs with
    | nil =>
      intro i hi
      have := drop_nil hi
      refine ⟨G, ?_⟩
      rw [eq_impl_MinerFault_l0, vcase_b, if_neg (by simp; omega), tidy_self]; rfl
    | cons x rs ih =>
      intro i hi
      obtain ⟨g1, g2, g3⟩ := drop_cons hi
      have hx := h3 x (List.mem_of_getElem? g1)
      rw [eq_impl_MinerFault_l0, vcase_b, if_pos (by simp; omega), idxK_lb, idxF_bf g1]
      have el : ∀ {R : Type} {ti : TI} {f : V → Option R}, ti.agg = true → ti.z = 2 → ldK (.agg [.i .i64, .f]) ti G (fv x.cs 0) f = f (.agg x.cs) := fun {R ti f} hz h2 => by
        simp only [ldK, ldT, hz, cond_true, h2, loadN]; rfl
      rw [el rfl rfl]
      simp only [gVA_a, ob, gx0, gx1, gI_i, ln0, ln1, Nat.zero_add, Nat.reduceAdd, if_true]
      rw [stK_X (z := 2) rfl rfl]
      have hk := putX_keep G [.int .i64 0, .sl none 0] x.cs
      have l0 : load1 (putX G [.int .i64 0, .sl none 0] x.cs) (pv G.n 0) = some (.int .i64 x.tx) := load1_X (o := 0) rfl
      have l1 : load1 (putX G [.int .i64 0, .sl none 0] x.cs) (pv G.n 1) = some (.fs (chs x.ch)) := load1_X (o := 1) rfl
      have hX : ∀ vs : List V, vs.all (belV G.n) = true → tidy G vs (putX G [.int .i64 0, .sl none 0] x.cs) = G := fun vs hv => putX_tidy hv
      have hg : (putX G [.int .i64 0, .sl none 0] x.cs).g 0 = .rw 0 m.cs := (putX_lt (by omega)).trans gg
      have hn : 0 < (putX G [.int .i64 0, .sl none 0] x.cs).n := by rw [putX_n]; omega
      have hGo : putX G [.int .i64 0, .sl none 0] [S.int .i64 x.tx, .fs (chs x.ch)] = putX G [.int .i64 0, .sl none 0] x.cs := rfl
      rw [hGo]
      generalize putX G [.int .i64 0, .sl none 0] x.cs = X at hk l0 l1 hX hg hn ⊢
      rw [l0, ob]
      simp only [gI_i]
      have etx : pureV (call Ev) Fn.impl_isTx [iv .i64 x.tx] = some (bv (inB x.tx 1 99)) := by
        rw [pu_impl_isTx, pc (p_in _ _ _) rfl]
        simp only [gV1_s, gB_b]
      rw [pc etx rfl]
      simp only [gV1_s, gB_b]
      rw [vcase_b, bufG]
      cases hin : inB x.tx 1 99
      · rw [if_pos (by simp), if_pos rfl]; exact ⟨_, by rw [outI_n (by decide)]⟩
      rw [if_neg (by simp), if_neg (by simp), l1, ob, frzVs_cons frzV_lv frzVs_nil, ob, norm_nil, pc (p_foldedFault hx.c hx.l) rfl]
      simp only [gV1_s, gI_i]
      rw [vcase_b]
      by_cases hf : foldF x.ch = 0
      case neg => rw [if_pos (by simpa using hf), if_pos hf]; exact ⟨_, by rw [outI_n hf]⟩
      rw [if_neg (by simpa using hf), if_neg (by simpa using hf)]
      have em : ∀ {R : Type} {ti : TI} {f : V → Option R}, ti.agg = true → ti.z = 2 → ldK (.agg [.f, .f]) ti X (pv 0 0) f = f (.agg m.cs) := fun {R ti f} hz h2 => by
        show ldT ti X (pv 0 0) f = _
        unfold ldT
        simp only [hz, cond_true, h2]
        rw [loadN_rw (n := 2) (e := 0) (b := 0) (cs := m.cs) hn hg (by simp), ob]
        rfl
      rw [em rfl rfl]
      simp only [gVA_a, ob, gx0, gx1, gI_i, ln0, ln1, Nat.zero_add, Nat.reduceAdd, if_true, l0]
      have ef : frzV X (.agg [S.fs (bss m.pages), .fs (bufs m.bs)]) = some (.agg m.cs) := by simp
      rw [frzVs_cons ef (frzVs_cons frzV_iv frzVs_nil), ob, norm_nil, pc (p_open h4') rfl]
      simp only [gV1_s, gI_i]
      rw [vcase_b]
      have hle := idxB_le m.bs 0 i x g1 rfl
      by_cases hb : idxB x.tx m.bs 0 = i
      case neg =>
        have : idxB x.tx m.bs 0 < i := by
          simp only [Nat.zero_add, Int.natCast_zero, Int.zero_add] at hle; omega
        rw [if_pos (by simpa using this), if_pos hb]; exact ⟨_, by rw [outI_n (by decide)]⟩
      rw [if_neg (by simp; omega), if_neg (by simpa using hb), hX _ (by simp [belV, belS, gn]), w64 (n := (i : Int) + 1) (by omega) (by omega), show (i : Int) + 1 = ((i + 1 : Nat) : Int) from by omega]
      exact ih (i + 1) g2
  rw [pu_impl_MinerFault, pc (p_PagesFault h1) rfl]
  simp only [gV1_s, gI_i]
  rw [vcase_b]
  unfold minF
  by_cases hc : viewC m.pages = 0
  case neg => rw [if_pos (by simpa using hc), if_pos hc]
  rw [if_neg (by simpa using hc), if_neg (by simpa using hc), vcase_b, bufs_len]
  by_cases h8 : 8 < m.bs.length
  · rw [if_pos (by simp; omega), if_pos h8]
  rw [if_neg (by simp; omega), if_neg h8]
  obtain ⟨h', e⟩ := loop m.bs 0 rfl
  have e' : Lp.impl_MinerFault 0 [pv 0 0, lv (bufs m.bs), iv .i64 (m.bs.length : Int), iv .i64 0] G = _ := e
  have hG' : (D 0).new 0 [S.fs (bss m.pages), .fs (bufs m.bs)] = G := hG
  rw [hG', e', ob]
  by_cases hz : bufG m.bs m.bs 0 = 0
  · rw [hz, outI_0, lcase_done]; try rfl
  · rw [outI_n hz, lcase_ret, frzV_iv]
end Vm
/-
  The law of MinerFault returns true.
-/
namespace Vm
open Go
theorem run_FnExactMinerFault (xs : List V) (hx : ArgsRp PR [T.laws_Miner] xs) : ∃ h', call Ev Fn.laws_FnExactMinerFault xs (D 0) = some (bv true, h') := by
  match xs, hx with
  | [x0], ⟨h0, _⟩ =>
    obtain ⟨m, rfl, h1, h2, h3, h4⟩ := arg_Miner h0
    refine law_of ?_
    rw [pu_laws_FnExactMinerFault, pc (p_szMiner m h1 h2 h3 h4) rfl]
    simp only [gV1_s, gI_i, vcase_b, decide_eq_true_eq]
    by_cases hq : szMin m < 0
    · rw [if_pos hq]
    rw [if_neg hq]
    have w := szMin_ok hq
    rw [p_toMiner m w]
    simp only [gVA_a, ob, gx0, gx1, gF_f, ln0, ln1, Nat.zero_add, Nat.reduceAdd, if_true]
    rw [pc (p_l9Fault h2 h3 h4) rfl]
    simp only [gV1_s, gI_i]
    rw [pc (p_MinerFault h2 h3 h4) rfl]
    simp only [gV1_s, gI_i]
    rw [if_neg (by simp)]
    simp only [hchk_self]
    rw [pc (p_eqMiner m h1 h2 h3 h4) rfl]
    simp
end Vm
