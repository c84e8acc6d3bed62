/-
  What both ways of the law come to, and that the law returns true.
-/
import Derived.Test.YtfpcfiaoilcbgaaTyp
import Derived.Test.YtfpcfiaoilcbgaaEqs
import Derived.Test.YtfpcfiaoilcbgaaDl
import Derived.Test.YtfpcfiaoilcbgaaDataFnExactApplyChanges1
set_option linter.unusedVariables false
set_option maxRecDepth 100000
set_option linter.unusedSimpArgs false
set_option linter.unusedSectionVars false
/-
  Rising rows: keys put in one by one are the keys of the merge; the changes are those of the merge. (No program in sight.)
-/
namespace Vm
open Go
theorem bef_iff {a b : RowD} : befB a b = true ↔ a.tab < b.tab ∨ (a.tab = b.tab ∧ a.key < b.key) := by simp [befB]
theorem same_iff {a b : RowD} : sameK a b = true ↔ a.tab = b.tab ∧ a.key = b.key := by simp [sameK]
theorem bef_irr {a : RowD} : befB a a ≠ true := by rw [Ne, bef_iff]; omega
theorem bef_trans {a b c : RowD} (h : befB a b = true) (h2 : befB b c = true) : befB a c = true := by rw [bef_iff] at *; omega
theorem bef_tot {a b : RowD} (h : befB a b ≠ true) (h2 : befB b a ≠ true) : sameK a b = true := by rw [Ne, bef_iff] at *; rw [same_iff]; omega
theorem bef_ns {a b : RowD} (h : befB a b = true) : sameK a b = false := by
  cases hs : sameK a b with
  | false => rfl
  | true => rw [same_iff] at hs; rw [bef_iff] at h; omega
theorem bef_sn {a b : RowD} (h : befB a b = true) : sameK b a = false := by
  cases hs : sameK b a with
  | false => rfl
  | true => rw [same_iff] at hs; rw [bef_iff] at h; omega
abbrev Ris (l : List RowD) : Prop := l.Pairwise fun a b => befB a b = true
theorem ris_of : ∀ {rs : List RowD} {p : Option RowD}, rowsFrom p rs = 0 → Ris rs ∧ ∀ q, p = some q → ∀ r ∈ rs, befB q r = true
  | [], p, _ => ⟨List.Pairwise.nil, by simp⟩
  | r :: rs, p, h => by
    have h0 : rowF r = 0 := rowsFrom_all h r (by simp)
    have h2 : rowsFrom (some r) rs = 0 := by
      cases p with
      | none => rw [rowsFrom_0 h0] at h; exact h
      | some q =>
        cases hb : befB q r with
        | false => rw [rowsFrom_1 h0 hb] at h; omega
        | true => rw [rowsFrom_2 h0 hb] at h; exact h
    obtain ⟨i1, i2⟩ := ris_of h2
    refine ⟨List.pairwise_cons.2 ⟨i2 r rfl, i1⟩, fun q hq x hx => ?_⟩
    subst hq
    have hb : befB q r = true := by
      cases hb : befB q r with
      | false => rw [rowsFrom_1 h0 hb] at h; omega
      | true => rfl
    rcases List.mem_cons.1 hx with rfl | hx
    · exact hb
    · exact bef_trans hb (i2 r rfl x hx)
theorem ris_rows {rs : List RowD} (h : rowsF rs = 0) : Ris rs := by
  unfold rowsF at h
  split at h
  · omega
  · exact (ris_of h).1
theorem ris_ext : ∀ {l m : List RowD}, Ris l → Ris m → (∀ x, x ∈ l ↔ x ∈ m) → l = m
  | [], [], _, _, _ => rfl
  | [], b :: m, _, _, h => by have := (h b).2 (by simp); simp at this
  | a :: l, [], _, _, h => by have := (h a).1 (by simp); simp at this
  | a :: l, b :: m, h1, h2, h => by
    obtain ⟨h1, h1'⟩ := List.pairwise_cons.1 h1
    obtain ⟨h2, h2'⟩ := List.pairwise_cons.1 h2
    have hab : a = b := by
      rcases List.mem_cons.1 ((h a).1 (by simp)) with e | e
      · exact e
      rcases List.mem_cons.1 ((h b).2 (by simp)) with e' | e'
      · exact e'.symm
      exact absurd (bef_trans (h1 b e') (h2 a e)) bef_irr
    subst hab
    congr 1
    refine ris_ext h1' h2' fun x => ⟨fun hx => ?_, fun hx => ?_⟩
    · rcases List.mem_cons.1 ((h x).1 (by simp [hx])) with rfl | e
      · exact absurd (h1 x hx) bef_irr
      · exact e
    · rcases List.mem_cons.1 ((h x).2 (by simp [hx])) with rfl | e
      · exact absurd (h2 x hx) bef_irr
      · exact e
/-! put in -/
def insR (r : RowD) (ks : List RowD) : List RowD := ks.takeWhile (befB · r) ++ r :: ks.dropWhile (befB · r)
theorem mem_ins {r x : RowD} {ks : List RowD} : x ∈ insR r ks ↔ x = r ∨ x ∈ ks := by
  unfold insR
  rw [List.mem_append, List.mem_cons]
  have : x ∈ ks ↔ x ∈ ks.takeWhile (befB · r) ∨ x ∈ ks.dropWhile (befB · r) := by rw [← List.mem_append, List.takeWhile_append_dropWhile]
  rw [this]
  constructor
  · rintro (h | h | h) <;> simp [h]
  · rintro (h | h | h) <;> simp [h]
theorem tw_all {p : RowD → Bool} : ∀ {l : List RowD}, ∀ x ∈ l.takeWhile p, p x = true
  | a :: l, x, h => by
    rw [List.takeWhile_cons] at h
    split at h
    · rename_i hp
      rcases List.mem_cons.1 h with rfl | h
      · exact hp
      · exact tw_all x h
    · simp at h
theorem dw_gt {r : RowD} : ∀ {l : List RowD}, Ris l → (∀ x ∈ l, sameK x r = false) → ∀ x ∈ l.dropWhile (befB · r), befB r x = true
  | a :: l, hr, hs, x, h => by
    obtain ⟨h1, h2⟩ := List.pairwise_cons.1 hr
    rw [List.dropWhile_cons] at h
    split at h
    · exact dw_gt h2 (fun y hy => hs y (by simp [hy])) x h
    · rename_i hp
      have ha : befB r a = true := by
        by_cases hb : befB r a = true
        · exact hb
        · have := bef_tot hp hb
          rw [hs a (by simp)] at this; cases this
      rcases List.mem_cons.1 h with rfl | h
      · exact ha
      · exact bef_trans ha (h1 x h)
theorem ris_ins {r : RowD} {ks : List RowD} (hr : Ris ks) (hs : ∀ x ∈ ks, sameK x r = false) : Ris (insR r ks) := by
  unfold insR
  have hsub := List.takeWhile_append_dropWhile (p := (befB · r)) (l := ks)
  rw [← hsub] at hr
  obtain ⟨p1, p2, p3⟩ := List.pairwise_append.1 hr
  rw [hsub] at hr
  have hd := dw_gt hr hs
  refine List.pairwise_append.2 ⟨p1, List.pairwise_cons.2 ⟨hd, p2⟩, fun a ha b hb => ?_⟩
  rcases List.mem_cons.1 hb with rfl | hb
  · exact tw_all a ha
  · exact p3 a ha b hb
/-! rows found -/
def getF (x : RowD) : List RowD → Option RowD
  | [] => none
  | r :: rs => if sameK r x then some r else getF x rs
theorem getF_none {x : RowD} : ∀ {l : List RowD}, (∀ r ∈ l, sameK r x = false) → getF x l = none
  | [], _ => rfl
  | r :: l, h => by rw [getF, h r (by simp)]; exact getF_none fun q hq => h q (by simp [hq])
theorem getF_some {x : RowD} : ∀ {l : List RowD}, getF x l = none → ∀ r ∈ l, sameK r x = false
  | r :: l, h, q, hq => by
    rw [getF] at h
    split at h
    · cases h
    · rename_i hs
      rcases List.mem_cons.1 hq with rfl | hq
      · simpa using hs
      · exact getF_some h q hq
theorem at_get {x : RowD} : ∀ (rs : List RowD) (i : Nat), (atF x.tab x.key rs i = -1 ∧ getF x rs = none) ∨ ∃ j r, rs[j]? = some r ∧ atF x.tab x.key rs i = ((i + j : Nat) : Int) ∧ getF x rs = some r
  | [], i => .inl ⟨rfl, rfl⟩
  | r :: rs, i => by
    unfold atF getF
    by_cases h : r.tab = x.tab ∧ r.key = x.key
    · rw [if_pos h, if_pos (same_iff.2 h)]; exact .inr ⟨0, r, rfl, rfl, rfl⟩
    · rw [if_neg h, if_neg (fun hh => h (same_iff.1 hh))]
      rcases at_get rs (i + 1) with h1 | ⟨j, q, h1, h2, h3⟩
      · exact .inl h1
      · exact .inr ⟨j + 1, q, by simpa using h1, by rw [h2]; omega, h3⟩
/-! the keys -/
def keyStep (bs ks : List RowD) (r : RowD) : List RowD := if (getF r bs).isNone then insR r ks else ks
def keysF (bs ns : List RowD) : List RowD := ns.foldl (keyStep bs) bs
def mrgK : List RowD → List RowD → List RowD
  | [], [] => []
  | [], n :: ns => n :: mrgK [] ns
  | b :: bs, [] => b :: mrgK bs []
  | b :: bs, n :: ns =>
    if befB b n then b :: mrgK bs (n :: ns)
    else if befB n b then n :: mrgK (b :: bs) ns
    else b :: mrgK bs ns
termination_by bs ns => bs.length + ns.length
theorem ins_len {r : RowD} {ks : List RowD} : (insR r ks).length = ks.length + 1 := by
  unfold insR
  have := congrArg List.length (List.takeWhile_append_dropWhile (p := (befB · r)) (l := ks))
  simp only [List.length_append, List.length_cons] at *; omega
theorem keys_len (bs : List RowD) : ∀ (ns ks : List RowD), (ns.foldl (keyStep bs) ks).length ≤ ks.length + ns.length
  | [], ks => by simp
  | n :: ns, ks => by
    rw [List.foldl_cons]
    have := keys_len bs ns (keyStep bs ks n)
    have h2 : (keyStep bs ks n).length ≤ ks.length + 1 := by unfold keyStep; split <;> simp [ins_len]
    simp only [List.length_cons]; omega
theorem keys_ok {bs : List RowD} (hb : Ris bs) : ∀ (ns pre ks : List RowD), Ris (pre ++ ns) → Ris ks → (∀ x, x ∈ ks ↔ x ∈ bs ∨ (x ∈ pre ∧ getF x bs = none)) →
    Ris (ns.foldl (keyStep bs) ks) ∧ ∀ x, x ∈ ns.foldl (keyStep bs) ks ↔ x ∈ bs ∨ (x ∈ pre ++ ns ∧ getF x bs = none)
  | [], pre, ks, hn, hk, hm => ⟨hk, by simpa using hm⟩
  | n :: ns, pre, ks, hn, hk, hm => by
    rw [List.foldl_cons]
    have hpre : ∀ x ∈ pre, befB x n = true := fun x hx => (List.pairwise_append.1 hn).2.2 x hx n (by simp)
    have key : Ris (keyStep bs ks n) ∧ ∀ x, x ∈ keyStep bs ks n ↔ x ∈ bs ∨ (x ∈ pre ++ [n] ∧ getF x bs = none) := by
      unfold keyStep
      cases hg : getF n bs with
      | none =>
        rw [if_pos (show (none : Option RowD).isNone = true from rfl)]
        refine ⟨ris_ins hk fun x hx => ?_, fun x => ?_⟩
        · rcases (hm x).1 hx with h | h
          · exact getF_some hg x h
          · exact bef_ns (hpre x h.1)
        · rw [mem_ins, hm]
          constructor
          · rintro (rfl | h | h)
            · exact .inr ⟨by simp, hg⟩
            · exact .inl h
            · exact .inr ⟨by simp [h.1], h.2⟩
          · rintro (h | h)
            · exact .inr (.inl h)
            · rcases List.mem_append.1 h.1 with h1 | h1
              · exact .inr (.inr ⟨h1, h.2⟩)
              · exact .inl (by simpa using h1)
      | some q =>
        rw [if_neg (by simp)]
        refine ⟨hk, fun x => ?_⟩
        rw [hm]
        constructor
        · rintro (h | h)
          · exact .inl h
          · exact .inr ⟨by simp [h.1], h.2⟩
        · rintro (h | h)
          · exact .inl h
          · rcases List.mem_append.1 h.1 with h1 | h1
            · exact .inr ⟨h1, h.2⟩
            · rw [show x = n from by simpa using h1, hg] at h; cases h.2
    have := keys_ok hb ns (pre ++ [n]) (keyStep bs ks n) (by simpa using hn) key.1 key.2
    simpa using this
theorem mrg_mem : ∀ {bs ns : List RowD}, ∀ x ∈ mrgK bs ns, x ∈ bs ∨ x ∈ ns := by
  intro bs ns
  induction bs, ns using mrgK.induct with
  | case1 => simp [mrgK]
  | case2 n ns ih => intro x hx; rw [mrgK] at hx; rcases List.mem_cons.1 hx with rfl | hx
                     · simp
                     · rcases ih x hx with h | h <;> simp [h]
  | case3 b bs ih => intro x hx; rw [mrgK] at hx; rcases List.mem_cons.1 hx with rfl | hx
                     · simp
                     · rcases ih x hx with h | h <;> simp [h]
  | case4 b bs n ns h1 ih => intro x hx; rw [mrgK, if_pos h1] at hx; rcases List.mem_cons.1 hx with rfl | hx
                             · simp
                             · rcases ih x hx with h | h
                               · simp [h]
                               · exact .inr h
  | case5 b bs n ns h1 h2 ih => intro x hx; rw [mrgK, if_neg h1, if_pos h2] at hx; rcases List.mem_cons.1 hx with rfl | hx
                                · simp
                                · rcases ih x hx with h | h
                                  · exact .inl h
                                  · simp [h]
  | case6 b bs n ns h1 h2 ih => intro x hx; rw [mrgK, if_neg h1, if_neg h2] at hx; rcases List.mem_cons.1 hx with rfl | hx
                                · simp
                                · rcases ih x hx with h | h <;> simp [h]
theorem mrg_ok : ∀ {bs ns : List RowD}, Ris bs → Ris ns → Ris (mrgK bs ns) ∧ ∀ x, x ∈ mrgK bs ns ↔ x ∈ bs ∨ (x ∈ ns ∧ getF x bs = none) := by
  intro bs ns
  induction bs, ns using mrgK.induct with
  | case1 => intro _ _; simp [mrgK]
  | case2 n ns ih =>
    intro hb hn
    obtain ⟨n1, n2⟩ := List.pairwise_cons.1 hn
    obtain ⟨i1, i2⟩ := ih hb n2
    rw [mrgK]
    refine ⟨List.pairwise_cons.2 ⟨fun x hx => ?_, i1⟩, fun x => ?_⟩
    · rcases mrg_mem x hx with h | h
      · simp at h
      · exact n1 x h
    · rw [List.mem_cons, i2]; simp [getF]
  | case3 b bs ih =>
    intro hb hn
    obtain ⟨b1, b2⟩ := List.pairwise_cons.1 hb
    obtain ⟨i1, i2⟩ := ih b2 hn
    rw [mrgK]
    refine ⟨List.pairwise_cons.2 ⟨fun x hx => ?_, i1⟩, fun x => ?_⟩
    · rcases mrg_mem x hx with h | h
      · exact b1 x h
      · simp at h
    · rw [List.mem_cons, i2]; simp
  | case4 b bs n ns h1 ih =>
    intro hb hn
    obtain ⟨b1, b2⟩ := List.pairwise_cons.1 hb
    obtain ⟨n1, n2⟩ := List.pairwise_cons.1 hn
    obtain ⟨i1, i2⟩ := ih b2 hn
    have hbn : ∀ x ∈ n :: ns, befB b x = true := fun x hx => by
      rcases List.mem_cons.1 hx with rfl | hx
      · exact h1
      · exact bef_trans h1 (n1 x hx)
    rw [mrgK, if_pos h1]
    refine ⟨List.pairwise_cons.2 ⟨fun x hx => ?_, i1⟩, fun x => ?_⟩
    · rcases mrg_mem x hx with h | h
      · exact b1 x h
      · exact hbn x h
    · rw [List.mem_cons, i2, show (x ∈ b :: bs) = (x = b ∨ x ∈ bs) from propext List.mem_cons, or_assoc]
      refine or_congr Iff.rfl (or_congr Iff.rfl ⟨fun h => ⟨h.1, ?_⟩, fun h => ⟨h.1, ?_⟩⟩)
      · rw [getF, if_neg (by rw [bef_ns (hbn x h.1)]; simp)]; exact h.2
      · have := h.2; rw [getF, if_neg (by rw [bef_ns (hbn x h.1)]; simp)] at this; exact this
  | case5 b bs n ns h1 h2 ih =>
    intro hb hn
    obtain ⟨b1, b2⟩ := List.pairwise_cons.1 hb
    obtain ⟨n1, n2⟩ := List.pairwise_cons.1 hn
    obtain ⟨i1, i2⟩ := ih hb n2
    have hnb : ∀ x ∈ b :: bs, befB n x = true := fun x hx => by
      rcases List.mem_cons.1 hx with rfl | hx
      · exact h2
      · exact bef_trans h2 (b1 x hx)
    rw [mrgK, if_neg h1, if_pos h2]
    refine ⟨List.pairwise_cons.2 ⟨fun x hx => ?_, i1⟩, fun x => ?_⟩
    · rcases mrg_mem x hx with h | h
      · exact hnb x h
      · exact n1 x h
    · rw [List.mem_cons, i2]
      have hg : getF n (b :: bs) = none := getF_none fun r hr => bef_sn (hnb r hr)
      constructor
      · rintro (rfl | h | h)
        · exact .inr ⟨by simp, hg⟩
        · exact .inl h
        · exact .inr ⟨by simp [h.1], h.2⟩
      · rintro (h | h)
        · exact .inr (.inl h)
        · rcases List.mem_cons.1 h.1 with h3 | h3
          · exact .inl h3
          · exact .inr (.inr ⟨h3, h.2⟩)
  | case6 b bs n ns h1 h2 ih =>
    intro hb hn
    obtain ⟨b1, b2⟩ := List.pairwise_cons.1 hb
    obtain ⟨n1, n2⟩ := List.pairwise_cons.1 hn
    obtain ⟨i1, i2⟩ := ih b2 n2
    have hs := bef_tot h1 h2
    have hbn : ∀ x ∈ ns, befB b x = true := fun x hx => by
      have := n1 x hx
      rw [bef_iff] at *; rw [same_iff] at hs; omega
    rw [mrgK, if_neg h1, if_neg h2]
    refine ⟨List.pairwise_cons.2 ⟨fun x hx => ?_, i1⟩, fun x => ?_⟩
    · rcases mrg_mem x hx with h | h
      · exact b1 x h
      · exact hbn x h
    · rw [List.mem_cons, i2, show (x ∈ b :: bs) = (x = b ∨ x ∈ bs) from propext List.mem_cons, or_assoc]
      refine or_congr Iff.rfl (or_congr Iff.rfl ⟨fun h => ⟨by simp [h.1], ?_⟩, fun h => ?_⟩)
      · rw [getF, if_neg (by rw [bef_ns (hbn x h.1)]; simp)]; exact h.2
      · have hx : x ∈ ns := by
          rcases List.mem_cons.1 h.1 with rfl | h3
          · have := h.2; rw [getF, if_pos hs] at this; cases this
          · exact h3
        have := h.2; rw [getF, if_neg (by rw [bef_ns (hbn x hx)]; simp)] at this; exact ⟨hx, this⟩
theorem keys_mrg {bs ns : List RowD} (hb : Ris bs) (hn : Ris ns) : keysF bs ns = mrgK bs ns := by
  obtain ⟨k1, k2⟩ := keys_ok hb ns [] bs (by simpa using hn) hb (by simp)
  obtain ⟨m1, m2⟩ := mrg_ok hb hn
  exact ris_ext k1 m1 fun x => by rw [m2, show (x ∈ keysF bs ns) = _ from propext (k2 x)]; simp
/-! the changes -/
def ckF (bs ns : List RowD) (x : RowD) : ChgD := ⟨(getF x bs).isSome, (getF x bs).getD zR, (getF x ns).isSome, (getF x ns).getD zR⟩
theorem flat_congr {α β : Type} {f g : α → List β} : ∀ {l : List α}, (∀ x ∈ l, f x = g x) → l.flatMap f = l.flatMap g
  | [], _ => rfl
  | a :: l, h => by rw [List.flatMap_cons, List.flatMap_cons, h a (by simp), flat_congr fun x hx => h x (by simp [hx])]
theorem getF_skip {x r : RowD} {l : List RowD} (h : sameK r x = false) : getF x (r :: l) = getF x l := by rw [getF, if_neg (by simp [h])]
theorem getF_hit {x r : RowD} {l : List RowD} (h : sameK r x = true) : getF x (r :: l) = some r := by rw [getF, if_pos h]
theorem same_refl {a : RowD} : sameK a a = true := by rw [same_iff]; exact ⟨rfl, rfl⟩
theorem mrg_btw : ∀ {bs ns : List RowD}, Ris bs → Ris ns → (mrgK bs ns).flatMap (fun x => one (ckF bs ns x)) = btw bs ns := by
  intro bs ns
  induction bs, ns using mrgK.induct with
  | case1 => intro _ _; simp [mrgK, btw]
  | case2 n ns ih =>
    intro hb hn
    obtain ⟨n1, n2⟩ := List.pairwise_cons.1 hn
    rw [mrgK, btw, List.flatMap_cons, ← ih hb n2]
    congr 1
    · unfold ckF; rw [getF_hit same_refl]; rfl
    · refine flat_congr fun x hx => ?_
      have : befB n x = true := by
        rcases mrg_mem x hx with h | h
        · simp at h
        · exact n1 x h
      unfold ckF; rw [getF_skip (bef_ns this)]
  | case3 b bs ih =>
    intro hb hn
    obtain ⟨b1, b2⟩ := List.pairwise_cons.1 hb
    rw [mrgK, btw, List.flatMap_cons, ← ih b2 hn]
    congr 1
    · unfold ckF; rw [getF_hit same_refl]; rfl
    · refine flat_congr fun x hx => ?_
      have : befB b x = true := by
        rcases mrg_mem x hx with h | h
        · exact b1 x h
        · simp at h
      unfold ckF; rw [getF_skip (bef_ns this)]
  | case4 b bs n ns h1 ih =>
    intro hb hn
    obtain ⟨b1, b2⟩ := List.pairwise_cons.1 hb
    obtain ⟨n1, n2⟩ := List.pairwise_cons.1 hn
    have hbn : ∀ x ∈ n :: ns, befB b x = true := fun x hx => by
      rcases List.mem_cons.1 hx with rfl | hx
      · exact h1
      · exact bef_trans h1 (n1 x hx)
    rw [mrgK, btw, if_pos h1, if_pos h1, List.flatMap_cons, ← ih b2 hn]
    congr 1
    · unfold ckF; rw [getF_hit same_refl, getF_none fun r hr => bef_sn (hbn r hr)]; rfl
    · refine flat_congr fun x hx => ?_
      have : befB b x = true := by
        rcases mrg_mem x hx with h | h
        · exact b1 x h
        · exact hbn x h
      unfold ckF; rw [getF_skip (r := b) (bef_ns this)]
  | case5 b bs n ns h1 h2 ih =>
    intro hb hn
    obtain ⟨b1, b2⟩ := List.pairwise_cons.1 hb
    obtain ⟨n1, n2⟩ := List.pairwise_cons.1 hn
    have hnb : ∀ x ∈ b :: bs, befB n x = true := fun x hx => by
      rcases List.mem_cons.1 hx with rfl | hx
      · exact h2
      · exact bef_trans h2 (b1 x hx)
    rw [mrgK, btw, if_neg h1, if_pos h2, if_neg h1, if_pos h2, List.flatMap_cons, ← ih hb n2]
    congr 1
    · unfold ckF; rw [getF_hit (l := ns) same_refl, getF_none fun r hr => bef_sn (hnb r hr)]; rfl
    · refine flat_congr fun x hx => ?_
      have : befB n x = true := by
        rcases mrg_mem x hx with h | h
        · exact hnb x h
        · exact n1 x h
      unfold ckF; rw [getF_skip (r := n) (bef_ns this)]
  | case6 b bs n ns h1 h2 ih =>
    intro hb hn
    obtain ⟨b1, b2⟩ := List.pairwise_cons.1 hb
    obtain ⟨n1, n2⟩ := List.pairwise_cons.1 hn
    have hs := bef_tot h1 h2
    have hs' : sameK n b = true := by rw [same_iff] at *; omega
    have hbn : ∀ x ∈ ns, befB b x = true := fun x hx => by
      have := n1 x hx
      rw [bef_iff] at *; rw [same_iff] at hs; omega
    rw [mrgK, btw, if_neg h1, if_neg h2, if_neg h1, if_neg h2, List.flatMap_cons, ← ih b2 n2]
    congr 1
    · unfold ckF; rw [getF_hit same_refl, getF_hit (r := n) hs']; rfl
    · refine flat_congr fun x hx => ?_
      have hx : befB b x = true := by
        rcases mrg_mem x hx with h | h
        · exact b1 x h
        · exact hbn x h
      have hx2 : sameK n x = false := by
        have := bef_ns hx
        cases hq : sameK n x with
        | false => rfl
        | true => rw [same_iff] at *; rw [bef_iff] at hx; omega
      unfold ckF; rw [getF_skip (r := b) (bef_ns hx), getF_skip (r := n) hx2]
theorem keys_btw {bs ns : List RowD} (hb : Ris bs) (hn : Ris ns) : (keysF bs ns).flatMap (fun x => one (ckF bs ns x)) = btw bs ns := by
  rw [keys_mrg hb hn, mrg_btw hb hn]
end Vm
/-
  The changes between rising rows: the specification's way.
-/
namespace Vm
open Go
theorem frz_pv {h : H} {b : Nat} {cs : List S} (hb : b < h.n) (hg : h.g b = .rw 0 cs) (hc : ∀ s ∈ cs, Cl s) : frzV h (pv b 0) = some (fv cs 0) := by
  have h7 : mapO (frzS h 7) cs = some cs := mapO_cl hc
  simp only [frzV, frzS, hb, if_true, hg, h7, Option.bind_some]
/-- a slice of flat rows that fills its block -/
structure FlS (z : Nat) (h : H) (v : V) (rows : List (List S)) (b : Nat) : Prop where
  v : v = sv b 0 rows.length
  n : b < h.n
  g : h.g b = .rw z rows.flatten
  z : ∀ r ∈ rows, r.length = z
theorem FlS.cells {z b : Nat} {h : H} {v : V} {rows : List (List S)} (w : FlS z h v rows b) : cellsS z h v = some rows.flatten := by
  have hc : h.cells b = rows.flatten := by unfold H.cells; rw [if_pos w.n, w.g]; rfl
  have hl := flat_len w.z
  rw [w.v]
  simp only [cellsS, hc]
  rw [if_pos ⟨w.n, by omega⟩, List.drop_zero, List.take_of_length_le (by omega)]
theorem cellsS_lv {z : Nat} {h : H} {rows : List (List S)} (hz : ∀ r ∈ rows, r.length = z) : cellsS z h (lv rows) = some rows.flatten := by
  simp only [cellsS, if_pos hz]
theorem cellsS_row {z : Nat} {h : H} {row : List S} (hz : row.length = z) : cellsS z (h.new z row) (sv h.n 0 1) = some row := by
  have c2 : (h.new z row).cells h.n = row := by unfold H.cells; rw [if_pos (by simp), new_g]; rfl
  simp only [cellsS, c2]
  rw [if_pos ⟨by simp, by omega⟩, List.drop_zero, List.take_of_length_le (by omega)]
theorem app_fl {z b : Nat} {h : H} {v y : V} {rows more : List (List S)} (w : FlS z h v rows b) (hm : ∀ r ∈ more, r.length = z) (hc : cellsS z h y = some more.flatten) (hy : lenS y = some more.length) (hz0 : 0 < z) (hl : rows.length + more.length ≤ lim) :
    ∃ v' h', appS z h v y = some (v', h') ∧ FlS z h' v' (rows ++ more) h.n ∧ h'.n = h.n + 1 ∧ ∀ c, c < h.n → c ≠ b → h'.g c = h.g c := by
  have h1 := w.cells
  obtain ⟨rfl, w2, w3, w4⟩ := w
  refine ⟨sv h.n 0 (rows.length + more.length), (h.put b .dead).new z (rows.flatten ++ more.flatten), ?_, ⟨by rw [List.length_append], by simp, ?_, ?_⟩, by simp, fun c hc hcb => ?_⟩
  · simp only [appS, h1, hc, hy, Option.bind_some]
    rw [if_pos ⟨w2, hl, hz0⟩, w3]
    simp
  · rw [List.flatten_append]; exact new_g (h.put b .dead) _ _
  · intro r hr
    rcases List.mem_append.1 hr with hr | hr
    · exact w4 r hr
    · exact hm r hr
  · rw [new_g' (by simp; omega), put_g' hcb]
theorem FlS.nil {z : Nat} {h : H} : FlS z (h.new z []) (sv h.n 0 0) [] h.n := ⟨rfl, by simp, new_g _ _ _, by simp⟩
theorem FlS.keep {z b : Nat} {h h' : H} {v : V} {rows : List (List S)} (w : FlS z h v rows b) (hn : h.n ≤ h'.n) (hg : h'.g b = h.g b) : FlS z h' v rows b := ⟨w.v, by have := w.n; omega, by rw [hg]; exact w.g, w.z⟩
theorem FlS.own {z b n : Nat} {h : H} {y : S} {rows : List (List S)} (w : FlS z h (.s y) rows b) (hz0 : 0 < z) (hn : n ≤ b) (hs : ∀ r ∈ rows, ∀ s ∈ r, Sc s) : OwnF 1 y (.fs rows) n h.n h := by
  have hv := w.v
  injection hv with hv
  subst hv
  refine ⟨[b], ?_, by simp, by simpa using ⟨hn, w.n⟩⟩
  exact Rep.sl (bss := []) w.n hz0 w.g w.z (RepL.sc fun s hs' => by
    obtain ⟨r, h1, h2⟩ := List.mem_flatten.1 hs'
    exact hs r h1 s h2)
theorem FlS.frz {b z : Nat} {h : H} {v : V} {rows : List (List S)} (w : FlS z h v rows b) (hz0 : 0 < z) (hs : ∀ r ∈ rows, ∀ s ∈ r, Sc s) : frzV h v = some (lv rows) := by
  rw [w.v]; exact frzV_sv w.n hz0 w.g w.z fun r hr s h => (hs r hr s h).cl
/-- out of what is one's own -/
theorem OwnF.fl {z lo hi : Nat} {h : H} {y : S} {rows : List (List S)} (w : OwnF 1 y (.fs rows) lo hi h) (hz : ∀ r ∈ rows, r.length = z) (hs : ∀ r ∈ rows, ∀ s ∈ r, Sc s) (hne : rows ≠ []) : ∃ b, FlS z h (.s y) rows b ∧ lo ≤ b ∧ b < hi := by
  obtain ⟨bs, w1, w2, w3⟩ := w
  rcases w1 with ⟨⟨h1, h2⟩ | ⟨h1, h2⟩, h3⟩ | ⟨b, z', cs, rows', bss, h1, h0, h2, h3, h4, h5, h6, h7⟩
  · rw [← h2] at h1; exact h1.elim
  · injection h2 with h2; exact absurd h2 hne
  · injection h0 with h0
    subst h0
    obtain ⟨rfl, rfl⟩ := h7.of_sc fun s hs' => by
      obtain ⟨r, h8, h9⟩ := List.mem_flatten.1 hs'
      exact hs r h8 s h9
    obtain ⟨r, rows', rfl⟩ := List.exists_cons_of_ne_nil hne
    have : z' = z := by rw [← h6 r (by simp), hz r (by simp)]
    subst this
    exact ⟨b, ⟨by rw [h1], h3, h5, h6⟩, w3 b (by rw [h2]; simp)⟩
theorem flat_get {z : Nat} : ∀ {rows : List (List S)} {i j : Nat} {r : List S}, (∀ r ∈ rows, r.length = z) → rows[i]? = some r → j < z → rows.flatten[i * z + j]? = r[j]?
  | [], i, j, r, _, h, _ => by simp at h
  | q :: rows, 0, j, r, hz, h, hj => by
    simp only [List.getElem?_cons_zero, Option.some.injEq] at h
    subst h
    rw [List.flatten_cons, Nat.zero_mul, Nat.zero_add, List.getElem?_append_left (by rw [hz q (by simp)]; exact hj)]
  | q :: rows, i + 1, j, r, hz, h, hj => by
    rw [List.getElem?_cons_succ] at h
    have hq := hz q (by simp)
    rw [List.flatten_cons, List.getElem?_append_right (by rw [hq, Nat.succ_mul]; omega), hq, show (i + 1) * z + j - z = i * z + j from by rw [Nat.succ_mul]; omega]
    exact flat_get (fun r hr => hz r (by simp [hr])) h hj
theorem FlS.ld {b i j : Nat} {h : H} {v : V} {rs : List RowD} {r : RowD} {x : S} (w : FlS 4 h v (rws rs) b) (hr : rs[i]? = some r) (hj : j < 4) (hx : r.cs[j]? = some x) : load1 h (pv b (i * 4 + j)) = some x := by
  refine load1_cs (cs := (rws rs).flatten) (by unfold H.cells; rw [if_pos w.n, w.g]; rfl) ?_
  rw [flat_get w.z (rws_get hr) hj, hx]
/-! put in -/
theorem p_before_pv {h : H} {b : Nat} {k r : RowD} (hb : b < h.n) (hg : h.g b = .rw 0 r.cs) : (frzVs h [fv k.cs 0, pv b 0]).bind (fun l203 => some (normVs [4, 4] l203)) = some [fv k.cs 0, fv r.cs 0] := by
  have e1 : frzV h (fv k.cs 0) = some (fv k.cs 0) := by simp
  rw [frzVs_cons e1 (frzVs_cons (frz_pv hb hg row_cl) frzVs_nil), Vm.ob]; rfl
theorem slF_rws {rs : List RowD} {k : Nat} {R : Type} {f : List (List S) → Option R} (hk : k ≤ rs.length) : slF 4 (rws rs) none (some (iv .i64 (k : Int))) f = f (rws (rs.take k)) ∧ slF 4 (rws rs) (some (iv .i64 (k : Int))) none f = f (rws (rs.drop k)) := by
  have hb : bnd (rws rs).length (iv .i64 (k : Int)) = some k := by rw [rws_len]; exact bnd_of hk
  unfold slF
  refine ⟨?_, ?_⟩
  · simp only [Option.bind_some, hb]
    rw [if_pos rws_row, List.drop_zero]; simp [rws, List.map_take]
  · simp only [Option.bind_some, hb]
    rw [if_pos rws_row, List.take_length]; simp [rws, List.map_drop]
theorem tw_pos {k r : RowD} {ks : List RowD} (h : befB k r = true) : (k :: ks).takeWhile (befB · r) = k :: ks.takeWhile (befB · r) ∧ (k :: ks).dropWhile (befB · r) = ks.dropWhile (befB · r) := by
  rw [List.takeWhile_cons, List.dropWhile_cons]; simp [h]
theorem tw_neg {k r : RowD} {ks : List RowD} (h : befB k r = false) : (k :: ks).takeWhile (befB · r) = [] ∧ (k :: ks).dropWhile (befB · r) = k :: ks := by
  rw [List.takeWhile_cons, List.dropWhile_cons]; simp [h]
theorem tw_dw {r : RowD} : ∀ (ks : List RowD), ks.take (ks.takeWhile (befB · r)).length = ks.takeWhile (befB · r) ∧ ks.drop (ks.takeWhile (befB · r)).length = ks.dropWhile (befB · r)
  | [] => ⟨rfl, rfl⟩
  | k :: ks => by
    obtain ⟨i1, i2⟩ := tw_dw (r := r) ks
    cases hb : befB k r with
    | true => rw [(tw_pos hb).1, (tw_pos hb).2]; exact ⟨by rw [List.length_cons, List.take_succ_cons, i1], by rw [List.length_cons, List.drop_succ_cons, i2]⟩
    | false => rw [(tw_neg hb).1, (tw_neg hb).2]; exact ⟨rfl, rfl⟩
theorem f_l6Put {ks : List RowD} {r : RowD} (hl : ks.length + 1 ≤ lim) (n : Nat) : ∃ y h', call Ev Fn.spec_l6Put [lv (rws ks), .agg r.cs] (D n) = some (.s y, h') ∧ n ≤ h'.n ∧ OwnF 1 y (.fs (rws (insR r ks))) n h'.n h' := by
  have hl' := hl
  unfold lim at hl'
  have loop : ∀ (q : List RowD) (i : Nat), ks.drop i = q → Lp.spec_l6Put 0 [lv (rws ks), pv n 0, iv .i64 i] ((D n).new 0 r.cs) = some (.done [lv (rws ks), pv n 0, iv .i64 ((i + (q.takeWhile (befB · r)).length : Nat) : Int)] ((D n).new 0 r.cs)) := by
    intro q
    induction q with
    | nil =>
      intro i hi
      have := drop_nil hi
      rw [eq_spec_l6Put_l0, vcase_b, if_neg (by simp; omega), tidy_self]; simp
    | cons k q ih =>
      intro i hi
      obtain ⟨g1, g2, g3⟩ := drop_cons hi
      rw [eq_spec_l6Put_l0, vcase_b, if_pos (by simp; omega), idxF_rw g1]
      have e := p_before_pv (h := (D n).new 0 r.cs) (b := n) (k := k) (r := r) (by simp) (by exact new_g (D n) _ _)
      obtain ⟨l, e1, e2⟩ : ∃ l, frzVs ((D n).new 0 r.cs) [fv k.cs 0, pv n 0] = some l ∧ normVs [4, 4] l = [fv k.cs 0, fv r.cs 0] := by
        cases hf : frzVs ((D n).new 0 r.cs) [fv k.cs 0, pv n 0] with
        | none => rw [hf] at e; cases e
        | some l => rw [hf, Vm.ob] at e; exact ⟨l, rfl, by injection e⟩
      rw [e1, ob, e2, pc (p_l1Before k r) rfl]
      simp only [gV1_s, gB_b, vcase_b, tidy_self]
      rw [w64 (by omega) (by omega), show (i : Int) + 1 = ((i + 1 : Nat) : Int) from by omega]
      cases hb : befB k r with
      | true =>
        rw [if_pos rfl, ih (i + 1) g2, (tw_pos hb).1, List.length_cons, Nat.add_assoc i 1, Nat.add_comm 1]
      | false => rw [if_neg (by simp), (tw_neg hb).1]; simp
  have htl : (ks.takeWhile (befB · r)).length ≤ ks.length := by
    have := congrArg List.length (List.takeWhile_append_dropWhile (p := (befB · r)) (l := ks))
    rw [List.length_append] at this; omega
  have hdl : (ks.takeWhile (befB · r)).length + (ks.dropWhile (befB · r)).length = ks.length := by
    have := congrArg List.length (List.takeWhile_append_dropWhile (p := (befB · r)) (l := ks))
    rw [List.length_append] at this; omega
  obtain ⟨t1, t2⟩ := tw_dw (r := r) ks
  rw [eq_spec_l6Put, D_n, show iv .i64 0 = iv .i64 ((0 : Nat) : Int) from rfl, loop ks 0 rfl, ob, lcase_done]
  simp only [gx0, gx1, ob, gV1_s, gF_f, gI_i, Nat.zero_add]
  rw [(slF_rws htl).1, t1]
  obtain ⟨v1, h1, e1, w1, n1, k1⟩ := app_fl (z := 4) (h := ((D n).new 0 r.cs).new 4 []) (y := lv (rws (ks.takeWhile (befB · r)))) (more := rws (ks.takeWhile (befB · r))) FlS.nil rws_row (cellsS_lv rws_row) rfl (by omega) (by simp; unfold lim; omega)
  rw [e1, ob]
  have gr : h1.g n = .rw 0 r.cs := by rw [k1 n (by simp; omega) (by simp), new_g' (by simp)]; exact new_g (D n) _ _
  have cr : h1.cells n = r.cs := by unfold H.cells; rw [if_pos (by rw [n1]; simp; omega), gr]; rfl
  rw [ldK_agg rfl (loadN_cs (by rw [n1]; simp; omega) cr rfl)]
  simp only [gVA_a, ob, gx0, gx1, gI_i, gS_s, ln0, ln1, Nat.zero_add, Nat.reduceAdd, if_true]
  rw [(slF_rws htl).2, t2, hchk_of (HKeep.refl h1).new.ext]
  have w1' : FlS 4 (h1.new 4 r.cs) v1 ([] ++ rws (ks.takeWhile (befB · r))) _ := w1.keep (by simp) (new_g' (by have := w1.n; omega))
  obtain ⟨v2, h2, e2, w2, n2, k2⟩ := app_fl (z := 4) (h := h1.new 4 r.cs) (y := sv h1.n 0 1) (more := [r.cs]) w1' (by simp) (by simpa using cellsS_row (h := h1) (z := 4) (row := r.cs) rfl) rfl (by omega) (by simp; unfold lim; omega)
  rw [e2, ob]
  obtain ⟨v3, h3, e3, w3, n3, k3⟩ := app_fl (z := 4) (h := h2) (y := lv (rws (ks.dropWhile (befB · r)))) (more := rws (ks.dropWhile (befB · r))) w2 rws_row (cellsS_lv rws_row) rfl (by omega) (by simp; unfold lim; omega)
  rw [e3, ob]
  have hr : ([] ++ rws (ks.takeWhile (befB · r)) ++ [r.cs] ++ rws (ks.dropWhile (befB · r))) = rws (insR r ks) := by simp [insR, rws]
  rw [hr] at w3
  have hv := w3.v
  subst hv
  refine ⟨_, h3, rfl, by rw [n3, n2]; simp; rw [n1]; simp; omega, w3.own (by omega) ?_ rws_sc⟩
  rw [n2]; simp; rw [n1]; simp; omega
/-! the keys -/
theorem keyStep_len {bs ks : List RowD} {r : RowD} : (keyStep bs ks r).length ≤ ks.length + 1 := by unfold keyStep; split <;> simp [ins_len]
theorem lp_keys {bs ns : List RowD} (hl : bs.length ≤ maxLen) (hln : ns.length ≤ 1000000) : ∀ (q : List RowD) (i : Nat) (ks : List RowD) (v : V) (b : Nat) (h : H), ns.drop i = q → FlS 4 h v (rws ks) b → ks.length + q.length ≤ 10000000 →
    ∃ v' b' h', Lp.spec_l6Changes 0 [lv (rws bs), lv (rws ns), v, iv .i64 i] h = some (.done [lv (rws bs), lv (rws ns), v'] h') ∧ FlS 4 h' v' (rws (q.foldl (keyStep bs) ks)) b' := by
  intro q
  induction q with
  | nil =>
    intro i ks v b h hi w hk
    have := drop_nil hi
    refine ⟨v, b, h, ?_, w⟩
    rw [eq_spec_l6Changes_l0, vcase_b, if_neg (by simp; omega), tidy_self]
  | cons r q ih =>
    intro i ks v b h hi w hk
    simp only [List.length_cons] at hk
    obtain ⟨g1, g2, g3⟩ := drop_cons hi
    rw [eq_spec_l6Changes_l0, vcase_b, if_pos (by simp; omega), idxF_rw g1]
    simp only [ob, gx0, gI_i]
    rw [idxF_rw g1]
    simp only [ob, gx0, gx1, gI_i]
    rw [pc (p_l6At hl) rfl]
    simp only [gV1_s, gI_i, hchk_self, vcase_b, decide_eq_true_eq]
    rw [w64 (by omega) (by omega), show (i : Int) + 1 = ((i + 1 : Nat) : Int) from by omega]
    rw [List.foldl_cons]
    rcases at_get (x := r) bs 0 with ⟨h1, h2⟩ | ⟨j, x, h1, h2, h3⟩
    · have e : keyStep bs ks r = insR r ks := by unfold keyStep; rw [h2]; rfl
      rw [h1, if_pos (by omega), idxF_rw g1, rowN_rw, e]
      simp only [ob, gx0, gx1, gI_i, gS_s, ln0, ln1, Nat.zero_add, Nat.reduceAdd, if_true]
      have ea : frzV h (.agg r.cs) = some (.agg r.cs) := by simp
      rw [frzVs_cons (w.frz (by omega) rws_sc) (frzVs_cons ea frzVs_nil), ob, norm_nil]
      obtain ⟨y, hp, e1, n1, w1⟩ := f_l6Put (ks := ks) (r := r) (by unfold lim; omega) h.n
      obtain ⟨K, e2, u2, n2, w2⟩ := pV (h := h) (n := h.n) (off := [v, V.agg r.cs].all offV) rfl e1 n1 w1
      rw [e2]
      obtain ⟨b2, w3, b3, b4⟩ := w2.now.fl rws_row rws_sc (by
        intro hh
        have := congrArg List.length hh
        rw [rws_len, ins_len] at this; simp at this)
      have hv := w3.v
      injection hv with hv
      subst hv
      rw [grow_tidy (h := h) (m := b2) (k := (rws (insR r ks)).length) b3 (by simp)]
      exact ih (i + 1) (insR r ks) _ b2 K g2 w3 (by rw [ins_len]; omega)
    · have e : keyStep bs ks r = ks := by unfold keyStep; rw [h3]; rfl
      rw [h2, if_neg (by omega), tidy_self, e]
      exact ih (i + 1) ks v b h g2 w (by omega)
/-! the changes -/
theorem cs_l0 {m : Nat} {h0 h h' : H} {y : S} {out : List ChgD} {c : ChgD} {vs : V} {bs ns : List (List S)} {i : Nat} (hi : i < 100000000) (w : Nw h c.cs h') (g : Gr 10 m h0 y (chs out) h) (hl : out.length + 1 ≤ lim) :
    ∃ y' h2, Jn.spec_l6Changes_l2_0 h' h (.s y) bs ns vs (i : Int) = Lp.spec_l6Changes 2 [lv bs, lv ns, vs, .s y', iv .i64 ((i + 1 : Nat) : Int)] h2 ∧ Gr 10 m h0 y' (chs (out ++ [c])) h2 := by
  unfold Jn.spec_l6Changes_l2_0
  rw [w.ldN (o := 0) (n := 10) (r := c.cs) (by simp) rfl]
  simp only [ob, gx0, gx1, gI_i, gS_s, gB_b, ln0, ln1, Nat.zero_add, Nat.reduceAdd, if_true]
  obtain ⟨h2, e, g', hn⟩ := (g.keep w.keep).app (row := c.cs) chg_sc rfl (by omega) (by rw [chs_len]; exact hl)
  rw [e, ob, w64 (by omega) (by omega), show (i : Int) + 1 = ((i + 1 : Nat) : Int) from by omega, grow_tidy (m := h'.n + 1) (k := (chs out).length + 1) (by rw [w.n]; omega) (by simp)]
  rw [← chs_snoc] at g'
  exact ⟨_, h2, rfl, g'⟩
/-- a row that was looked up, and where it stands -/
def Fnd (rs : List RowD) (x : RowD) (i : Int) : Prop := (i = -1 ∧ getF x rs = none) ∨ ∃ j r, rs[j]? = some r ∧ i = ((j : Nat) : Int) ∧ getF x rs = some r
theorem fnd_at (rs : List RowD) (x : RowD) : Fnd rs x (atF x.tab x.key rs 0) := by
  rcases at_get (x := x) rs 0 with h | ⟨j, r, h1, h2, h3⟩
  · exact .inl h
  · exact .inr ⟨j, r, h1, by rw [h2, Nat.zero_add], h3⟩
theorem cs_l1 {m : Nat} {h0 h : H} {y : S} {out : List ChgD} {vs : V} {bs ns : List RowD} {x : RowD} {p q : Int} {i : Nat} (q0 q1 : Bool) (w1 w2 w3 w4 w5 w6 w7 w8 w9 : V) (hi : i < 100000000) (hp : Fnd bs x p) (hq : Fnd ns x q) (h1 : q1 = !keepB (ckF bs ns x)) (g : Gr 10 m h0 y (chs out) h) (hl : out.length + 1 ≤ lim) :
    ∃ y' h2, Jn.spec_l6Changes_l2_1 q0 w1 w2 w3 w4 w5 w6 w7 w8 w9 q1 (rws bs) (rws ns) vs (.s y) (i : Int) h p q = Lp.spec_l6Changes 2 [lv (rws bs), lv (rws ns), vs, .s y', iv .i64 ((i + 1 : Nat) : Int)] h2 ∧ Gr 10 m h0 y' (chs (out ++ one (ckF bs ns x))) h2 := by
  subst h1
  unfold Jn.spec_l6Changes_l2_1
  rw [vcase_b]
  cases hk : keepB (ckF bs ns x) with
  | false =>
    have : one (ckF bs ns x) = [] := by unfold one; rw [hk]; rfl
    rw [this, List.append_nil, w64 (by omega) (by omega), show (i : Int) + 1 = ((i + 1 : Nat) : Int) from by omega]
    exact ⟨y, h, by simp, g⟩
  | true =>
    have ho : one (ckF bs ns x) = [ckF bs ns x] := by unfold one; rw [hk]; rfl
    rw [ho, if_neg (by simp)]
    have w : Nw h zC (h.new 0 zC) := Nw.new
    have pb : decide (p ≥ 0) = (getF x bs).isSome := by
      rcases hp with ⟨rfl, hp⟩ | ⟨j, r, hj, rfl, hp⟩ <;> rw [hp] <;> simp
    have qb : decide (q ≥ 0) = (getF x ns).isSome := by
      rcases hq with ⟨rfl, hq⟩ | ⟨j, r, hj, rfl, hq⟩ <;> rw [hq] <;> simp
    rw [pb, qb]
    rw [w.stN (z := 10) (o := 0) (r := [.bool (getF x bs).isSome, .int .i64 0, .int .i64 0, .int .i64 0, .str (⟨#[]⟩), .bool (getF x ns).isSome, .int .i64 0, .int .i64 0, .int .i64 0, .str (⟨#[]⟩)]) rfl (by simp)]
    have w0 := w.put (cs' := ChgD.cs ⟨(getF x bs).isSome, zR, (getF x ns).isSome, zR⟩)
    rw [show setAt zC 0 [.bool (getF x bs).isSome, .int .i64 0, .int .i64 0, .int .i64 0, .str (⟨#[]⟩), .bool (getF x ns).isSome, .int .i64 0, .int .i64 0, .int .i64 0, .str (⟨#[]⟩)] = ChgD.cs ⟨(getF x bs).isSome, zR, (getF x ns).isSome, zR⟩ from rfl]
    revert w0
    generalize ((h.new 0 zC).put h.n (.rw 0 (ChgD.cs ⟨(getF x bs).isSome, zR, (getF x ns).isSome, zR⟩))) = A
    intro w0
    simp only [vcase_b]
    have ec : ckF bs ns x = ⟨(getF x bs).isSome, (getF x bs).getD zR, (getF x ns).isSome, (getF x ns).getD zR⟩ := rfl
    rcases hp with ⟨rfl, hp⟩ | ⟨j, r, hj, rfl, hp⟩
    · rw [hp] at w0 ec ⊢
      rw [if_neg (by simp)]
      rcases hq with ⟨rfl, hq⟩ | ⟨j2, r2, hj2, rfl, hq⟩
      · rw [hq] at w0 ec ⊢
        rw [if_neg (by simp)]
        exact cs_l0 hi (by rw [ec]; exact w0) g hl
      · rw [hq] at w0 ec ⊢
        rw [if_pos (show (some r2).isSome = true from rfl), idxF_rw hj2, rowN_rw]
        simp only [ob, gx0, gx1, gI_i, gS_s, ln0, ln1, Nat.zero_add, Nat.reduceAdd, if_true]
        rw [w0.stN (z := 4) (o := 6) (r := r2.cs) rfl (by simp)]
        refine cs_l0 hi (c := ckF bs ns x) ?_ g hl
        rw [ec]
        exact w0.put
    · rw [hp] at w0 ec ⊢
      rw [if_pos (show (some r).isSome = true from rfl), idxF_rw hj, rowN_rw]
      simp only [ob, gx0, gx1, gI_i, gS_s, ln0, ln1, Nat.zero_add, Nat.reduceAdd, if_true]
      rw [w0.stN (z := 4) (o := 1) (r := r.cs) rfl (by simp)]
      have w1 := w0.put (cs' := ChgD.cs ⟨true, r, (getF x ns).isSome, zR⟩)
      rw [show setAt (ChgD.cs ⟨(some r).isSome, zR, (getF x ns).isSome, zR⟩) 1 r.cs = ChgD.cs ⟨true, r, (getF x ns).isSome, zR⟩ from rfl]
      revert w1
      generalize (A.put h.n (.rw 0 (ChgD.cs ⟨true, r, (getF x ns).isSome, zR⟩))) = B
      intro w1
      rcases hq with ⟨rfl, hq⟩ | ⟨j2, r2, hj2, rfl, hq⟩
      · rw [hq] at w1 ec ⊢
        rw [if_neg (by simp)]
        exact cs_l0 hi (by rw [ec]; exact w1) g hl
      · rw [hq] at w1 ec ⊢
        rw [if_pos (show (some r2).isSome = true from rfl), idxF_rw hj2, rowN_rw]
        simp only [ob, gx0, gx1, gI_i, gS_s, ln0, ln1, Nat.zero_add, Nat.reduceAdd, if_true]
        rw [w1.stN (z := 4) (o := 6) (r := r2.cs) rfl (by simp)]
        refine cs_l0 hi (c := ckF bs ns x) ?_ g hl
        rw [ec]
        exact w1.put
theorem lp_chgs {bs ns ks : List RowD} {v : V} {b m : Nat} {h0 : H} (hl : bs.length ≤ maxLen) (hl2 : ns.length ≤ maxLen) (hks : ks.length < 10000000) (hf : FlS 4 h0 v (rws ks) b) (hm : h0.n = m) : ∀ (q : List RowD) (i : Nat) (y : S) (out : List ChgD) (h : H), ks.drop i = q → out.length ≤ i → Gr 10 m h0 y (chs out) h →
    ∃ y' h', Lp.spec_l6Changes 2 [lv (rws bs), lv (rws ns), v, .s y, iv .i64 i] h = some (.done [.s y'] h') ∧ Gr 10 m h0 y' (chs (out ++ q.flatMap fun x => one (ckF bs ns x))) h' := by
  intro q
  have l0 : lenV (.sl 45) v = some (iv .i64 (ks.length : Int)) := by rw [hf.v]; simp [lenV]
  induction q with
  | nil =>
    intro i y out h hi ho g
    have := drop_nil hi
    refine ⟨y, h, ?_, by simpa using g⟩
    rw [eq_spec_l6Changes_l2, l0]
    simp only [ob, gV1_s, gI_i, vcase_b]
    rw [if_neg (by simp; omega), tidy_self]
  | cons x q ih =>
    intro i y out h hi ho g
    obtain ⟨g1, g2, g3⟩ := drop_cons hi
    have hf' : FlS 4 h v (rws ks) b := hf.keep (by have := g.1; omega) (g.2.1 b (by have := hf.n; omega))
    have hv := hf'.v
    have fin : ∃ y2 h2, Lp.spec_l6Changes 2 [lv (rws bs), lv (rws ns), v, .s y, iv .i64 i] h = Lp.spec_l6Changes 2 [lv (rws bs), lv (rws ns), v, .s y2, iv .i64 ((i + 1 : Nat) : Int)] h2 ∧ Gr 10 m h0 y2 (chs (out ++ one (ckF bs ns x))) h2 := by
      have a1 := fnd_at bs x
      have a2 := fnd_at ns x
      rw [eq_spec_l6Changes_l2, l0]
      simp only [ob, gV1_s, gI_i, vcase_b]
      rw [if_pos (by simp; omega)]
      have ix : ∀ {R : Type} (k : V → Option R), idxK 4 v (iv .i64 (i : Int)) k = k (pv b (i * 4)) := fun k => by rw [hv]; exact idxK_sv (by simpa using g3)
      have l1 : ∀ {R : Type} (k : V → Option R), ldK (.one (.i .i64)) ⟨1, 8, [.int .i64 0], false, .int .i64, false⟩ h (pv b (i * 4 + 0)) k = k (.s (.int .i64 x.tab)) := fun k => ldK_one rfl (hf'.ld g1 (by omega) rfl)
      have l2 : ∀ {R : Type} (k : V → Option R), ldK (.one (.i .i64)) ⟨1, 8, [.int .i64 0], false, .int .i64, false⟩ h (pv b (i * 4 + 1)) k = k (.s (.int .i64 x.key)) := fun k => ldK_one rfl (hf'.ld g1 (by omega) rfl)
      simp only [ix, padd, ob, l1, l2, gV1_s, gI_i]
      rw [pc (p_l6At hl) rfl]
      simp only [gV1_s, gI_i, hchk_self]
      rw [pc (p_l6At hl2) rfl]
      simp only [gV1_s, gI_i, hchk_self]
      generalize atF x.tab x.key bs 0 = p at a1
      generalize atF x.tab x.key ns 0 = q at a2
      unfold Jn.spec_l6Changes_l2_2
      simp only [vcase_b]
      have hl3 : out.length + 1 ≤ lim := by unfold lim; omega
      rcases a1 with ⟨rfl, hp⟩ | ⟨j, r, hj, rfl, hp⟩
      · rw [if_neg (by simp), if_neg (by simp)]
        refine cs_l1 _ _ _ _ _ _ _ _ _ _ _ (by omega) (.inl ⟨rfl, hp⟩) a2 ?_ g hl3
        unfold ckF keepB; rw [hp]; rfl
      · rw [if_pos (by simp)]
        rcases a2 with ⟨rfl, hq⟩ | ⟨j2, r2, hj2, rfl, hq⟩
        · rw [if_neg (by simp)]
          refine cs_l1 _ _ _ _ _ _ _ _ _ _ _ (by omega) (.inr ⟨j, r, hj, rfl, hp⟩) (.inl ⟨rfl, hq⟩) ?_ g hl3
          unfold ckF keepB; rw [hp, hq]; rfl
        · rw [if_pos (by simp), idxF_rw hj, rowN_rw]
          simp only [ob, gx0, gx1, gI_i, gS_s, ln0, ln1, Nat.zero_add, Nat.reduceAdd, if_true]
          rw [idxF_rw hj2, rowN_rw]
          simp only [ob, gx0, gx1, gI_i, gS_s, ln0, ln1, Nat.zero_add, Nat.reduceAdd, if_true]
          refine cs_l1 _ _ _ _ _ _ _ _ _ _ _ (by omega) (.inr ⟨j, r, hj, rfl, hp⟩) (.inr ⟨j2, r2, hj2, rfl, hq⟩) ?_ g hl3
          unfold ckF keepB eqRowB; rw [hp, hq]; simp
    obtain ⟨y2, h2, e2, w2⟩ := fin
    obtain ⟨y3, h3, e3, w3⟩ := ih (i + 1) y2 _ h2 g2 (by have := one_len (ckF bs ns x); rw [List.length_append]; omega) w2
    exact ⟨y3, h3, by rw [e2, e3], by rw [List.flatMap_cons, ← List.append_assoc]; exact w3⟩
theorem p_l6Changes {bs ns : List RowD} (hl : bs.length ≤ 60) (hl2 : ns.length ≤ 60) (hb : Ris bs) (hn : Ris ns) : pureV (call Ev) Fn.spec_l6Changes [lv (rws bs), lv (rws ns)] = some (lv (chs (btw bs ns))) := by
  rw [pu_spec_l6Changes]
  obtain ⟨v1, h1, e1, w1, n1, k1⟩ := app_fl (z := 4) (h := (D 0).new 4 []) (y := lv (rws bs)) (more := rws bs) FlS.nil rws_row (cellsS_lv rws_row) rfl (by omega) (by simp; unfold lim; omega)
  rw [D_n] at e1
  rw [e1, ob]
  obtain ⟨v2, b2, h2, e2, w2⟩ := lp_keys (bs := bs) (ns := ns) (by unfold maxLen; omega) (by omega) ns 0 bs v1 _ h1 rfl (by simpa using w1) (by omega)
  rw [show iv .i64 0 = iv .i64 ((0 : Nat) : Int) from rfl, e2, ob, lcase_done]
  simp only [gx0, gx1, ob, gV1_s, gF_f]
  have hkl := keys_len bs ns bs
  obtain ⟨y3, h3, e3, w3⟩ := lp_chgs (bs := bs) (ns := ns) (ks := ns.foldl (keyStep bs) bs) (by unfold maxLen; omega) (by unfold maxLen; omega) (by omega) w2 rfl _ 0 _ [] _ rfl (by simp) (Gr.new (z := 10) (h := h2) (by omega))
  rw [e3, ob, lcase_done]
  simp only [gx0, ob]
  have := w3.frz
  rw [List.nil_append, List.drop_zero, show ns.foldl (keyStep bs) bs = keysF bs ns from rfl, keys_btw hb hn] at this
  exact this
theorem p_spec_ChangesOf {bs ns : List RowD} (hs : ∀ r ∈ bs, r.text.size ≤ maxLen) (hs' : ∀ r ∈ ns, r.text.size ≤ maxLen) (hl : bs.length ≤ maxLen) (hl' : ns.length ≤ maxLen) : pureV (call Ev) Fn.spec_ChangesOf [lv (rws bs), lv (rws ns)] = some (.agg [.int .i64 (chC bs ns), .fs (chs (chL bs ns))]) := by
  rw [pu_spec_ChangesOf, pc (p_l6Rows hs hl) rfl]
  simp only [gV1_s, gI_i, vcase_b, bne_iff_ne, ne_eq]
  rw [pc (p_l6Rows hs' hl') rfl]
  simp only [gV1_s, gI_i, vcase_b, bne_iff_ne, ne_eq]
  unfold chL chC
  by_cases h0 : rowsF bs = 0
  case neg => rw [if_pos h0, if_neg h0, if_neg h0]; rfl
  rw [if_neg (by simp [h0]), if_pos h0]
  by_cases h1 : rowsF ns = 0
  case neg => rw [if_pos h1, if_neg h1]; rfl
  have b60 : ∀ {l : List RowD}, rowsF l = 0 → l.length ≤ 60 := fun {l} h => by
    unfold rowsF at h
    split at h
    · omega
    · omega
  rw [if_neg (by simp [h1]), if_pos h1, p_l6Changes (b60 h0) (b60 h1) (ris_rows h0) (ris_rows h1)]
  simp only [ob, gV1_s, gF_f]
  rw [h1]
end Vm
/-
  What is one's own is not let go; calls with answers of any shape.
-/
namespace Vm
open Go
theorem Rep.stay {h : H} {d n : Nat} {y f : S} {bs : List Nat} (w : Rep h d y f bs) (hb : ∀ b ∈ bs, n ≤ b) (hy : belS n y = true) : bs = [] ∧ ∀ h', Rep h' d y f [] := by
  cases d with
  | zero => obtain ⟨w1, rfl⟩ := w; exact ⟨rfl, fun _ => ⟨w1, rfl⟩⟩
  | succ d =>
    rcases w with ⟨w1, rfl⟩ | ⟨b, z, cs, rows, bss, rfl, rfl, rfl, h1⟩
    · exact ⟨rfl, fun _ => .inl ⟨w1, rfl⟩⟩
    · have := hb b (by simp)
      simp [belS] at hy; omega
theorem RepL.stay {h : H} {d n : Nat} {ys fs : List S} {bs : List Nat} (w : RepL (Rep h d) ys fs bs) (hb : ∀ b ∈ bs, n ≤ b) (hy : ys.all (belS n) = true) : bs = [] ∧ ∀ h', RepL (Rep h' d) ys fs [] := by
  induction w with
  | nil => exact ⟨rfl, fun _ => .nil⟩
  | @cons y f bs ys fs bss h1 h2 ih =>
    rw [List.all_cons, Bool.and_eq_true] at hy
    obtain ⟨rfl, a2⟩ := h1.stay (fun b hb' => hb b (by simp [hb'])) hy.1
    obtain ⟨rfl, b2⟩ := ih (fun b hb' => hb b (by simp [hb'])) hy.2
    exact ⟨rfl, fun h' => RepL.cons (bs := []) (a2 h') (b2 h')⟩
theorem tidy_up {h h' : H} {l : List V} (u : Up h h') : Up h (tidy h l h') := by
  unfold tidy
  split
  · exact ⟨Nat.le_refl _, fun b hb => by simp only [if_pos hb]; exact u.g b hb⟩
  · exact u
theorem own_tidyC {h h' : H} {l : List V} {d lo : Nat} {ys fs : List S} (u : Up h h') (w : OwnC d ys fs lo h'.n h') (hlo : h.n ≤ lo) (hy : .agg ys ∈ l) : Up h (tidy h l h') ∧ OwnC d ys fs lo (tidy h l h').n (tidy h l h') := by
  refine ⟨tidy_up u, ?_⟩
  unfold tidy
  split
  · rename_i ht
    obtain ⟨bs, w1, w2, w3⟩ := w
    have hb : belV h.n (.agg ys) = true := by
      have := ht.2.1
      rw [List.all_eq_true] at this
      exact this _ hy
    obtain ⟨rfl, a⟩ := w1.stay (fun b hb => by have := w3 b hb; omega) hb
    exact ⟨[], a _, by simp, by simp⟩
  · exact w
theorem own_tidy {h h' : H} {l : List V} {d lo : Nat} {y f : S} (u : Up h h') (w : OwnF d y f lo h'.n h') (hlo : h.n ≤ lo) (hy : .s y ∈ l) : Up h (tidy h l h') ∧ OwnF d y f lo (tidy h l h').n (tidy h l h') := by
  refine ⟨tidy_up u, ?_⟩
  unfold tidy
  split
  · rename_i ht
    obtain ⟨bs, w1, w2, w3⟩ := w
    have hb : belV h.n (.s y) = true := by
      have := ht.2.1
      rw [List.all_eq_true] at this
      exact this _ hy
    obtain ⟨rfl, a⟩ := w1.stay (fun b hb => by have := w3 b hb; omega) hb
    exact ⟨[], a _, by simp, by simp⟩
  · exact w
theorem OwnF.len {d lo hi t : Nat} {y : S} {rows : List (List S)} {h : H} (w : OwnF d y (.fs rows) lo hi h) : lenV (.sl t) (.s y) = some (iv .i64 (rows.length : Int)) := by
  obtain ⟨bs, w1, _⟩ := w
  cases d with
  | zero =>
    obtain ⟨⟨h1, h2⟩ | ⟨rfl, h2⟩, _⟩ := w1
    · rw [← h2] at h1; exact h1.elim
    · injection h2 with h2; subst h2; rfl
  | succ d =>
    rcases w1 with ⟨⟨h1, h2⟩ | ⟨rfl, h2⟩, _⟩ | ⟨b, z, cs, rows', bss, rfl, h0, _⟩
    · rw [← h2] at h1; exact h1.elim
    · injection h2 with h2; subst h2; rfl
    · injection h0 with h0; subst h0; rfl
theorem OwnF.up {d lo hi : Nat} {y f : S} {h h' : H} (w : OwnF d y f lo hi h) (u : Up h h') : OwnF d y f lo hi h' := by
  obtain ⟨bs, w1, w2, w3⟩ := w
  exact ⟨bs, w1.frame fun b hb => ⟨by have := w1.lt b hb; have := u.n; omega, u.g b (w1.lt b hb)⟩, w2, w3⟩
theorem OwnF.weak {d lo hi lo' hi' : Nat} {y f : S} {h : H} (w : OwnF d y f lo hi h) (h1 : lo' ≤ lo) (h2 : hi ≤ hi') : OwnF d y f lo' hi' h := by
  obtain ⟨bs, w1, w2, w3⟩ := w
  exact ⟨bs, w1, w2, fun b hb => by have := w3 b hb; omega⟩
theorem HKeep.up {h h' : H} (x : HKeep h h') : Up h h' := ⟨x.1, fun b hb => (x.2 b hb).1⟩
/-- a call with an answer of any shape, in which one value is new -/
theorem pX {cl : Nat → List V → H → Option (V × H)} {g : Nat} {off : Bool} {xs : List V} {h : H} {n d : Nat} {v : V} {y f : S} {h1 : H} (hn : h.n = n) (hc : cl g xs (D n) = some (v, h1)) (hs : scaV v = true) (hle : n ≤ h1.n) (w : OwnF d y f n h1.n h1) :
    ∃ h', (∀ (R : Type) (k : V → H → Option R), pcallF cl g off xs h k = k v h') ∧ Up h h' ∧ n ≤ h'.n ∧ OwnF d y f n h'.n h' := by
  subst hn
  have ov : ∀ h2 : H, h2.n = h1.n → (∀ b, (h1.g b).cells.all scaS = true → h2.g b = h1.g b) → Up h (h.over h2) ∧ h.n ≤ (h.over h2).n ∧ OwnF d y f h.n (h.over h2).n (h.over h2) := fun h2 hn2 hg2 => by
    have hle2 : h.n ≤ h2.n := by omega
    refine ⟨up_over hle2, by rw [over_n hle2]; omega, ?_⟩
    obtain ⟨bs, w1, w2, w3⟩ := w
    rw [over_n hle2, hn2]
    refine ⟨bs, w1.frame fun b hb => ?_, w2, w3⟩
    have := w3 b hb
    exact ⟨by rw [over_n hle2]; omega, by rw [over_ge this.1]; exact hg2 b (w1.scaB b hb)⟩
  cases off with
  | true =>
    obtain ⟨a1, a2, a3⟩ := ov h1 rfl (fun _ _ => rfl)
    refine ⟨h.over h1, fun R k => ?_, a1, a2, a3⟩
    unfold pcallF
    rw [hc, Vm.ob]
    unfold fchk
    rw [if_pos (.inl rfl)]; rfl
  | false =>
    obtain ⟨a1, a2, a3⟩ := ov (scrub h.n h1) rfl (fun b hb => scrub_g hb)
    refine ⟨h.over (scrub h.n h1), fun R k => ?_, a1, a2, a3⟩
    unfold pcallF
    rw [hc, Vm.ob]
    unfold fchk
    rw [if_pos (.inr hs)]; rfl
end Vm
/-
  Rising rows split at a key; a change done to them. (No program in sight.)
-/
namespace Vm
open Go
abbrev twR (k : RowD) (rs : List RowD) : List RowD := rs.takeWhile (befB · k)
abbrev dwR (k : RowD) (rs : List RowD) : List RowD := rs.dropWhile (befB · k)
def fnd (k : RowD) (rs : List RowD) : Bool := match dwR k rs with | [] => false | r :: _ => sameK r k
def hiR (k : RowD) (rs : List RowD) : List RowD := if fnd k rs then (dwR k rs).tail else dwR k rs
theorem td_app (k : RowD) (rs : List RowD) : twR k rs ++ dwR k rs = rs := List.takeWhile_append_dropWhile
theorem td_len (k : RowD) (rs : List RowD) : (twR k rs).length + (dwR k rs).length = rs.length := by
  have := congrArg List.length (td_app k rs); rwa [List.length_append] at this
theorem dw_nb {k : RowD} : ∀ {rs : List RowD}, Ris rs → ∀ x ∈ dwR k rs, befB x k ≠ true
  | r :: rs, h, x, hx => by
    obtain ⟨h1, h2⟩ := List.pairwise_cons.1 h
    cases hb : befB r k with
    | true => rw [show dwR k (r :: rs) = dwR k rs from (tw_pos hb).2] at hx; exact dw_nb h2 x hx
    | false =>
      rw [show dwR k (r :: rs) = r :: rs from (tw_neg hb).2] at hx
      rcases List.mem_cons.1 hx with rfl | hx
      · rw [hb]; simp
      · intro hh
        rw [bef_trans (h1 x hx) hh] at hb; cases hb
theorem fnd_at' {k : RowD} : ∀ {rs : List RowD} (i : Nat), Ris rs → atF k.tab k.key rs i = if fnd k rs then ((i + (twR k rs).length : Nat) : Int) else -1
  | [], i, _ => rfl
  | r :: rs, i, h => by
    obtain ⟨h1, h2⟩ := List.pairwise_cons.1 h
    cases hb : befB r k with
    | true =>
      have e1 : twR k (r :: rs) = r :: twR k rs := (tw_pos hb).1
      have e2 : fnd k (r :: rs) = fnd k rs := by unfold fnd; rw [show dwR k (r :: rs) = dwR k rs from (tw_pos hb).2]
      have hs : ¬ (r.tab = k.tab ∧ r.key = k.key) := fun hh => by have := bef_ns hb; rw [same_iff.2 hh] at this; cases this
      rw [atF, if_neg hs, fnd_at' (i + 1) h2, e1, e2, List.length_cons]
      split
      · omega
      · rfl
    | false =>
      have e1 : twR k (r :: rs) = [] := (tw_neg hb).1
      have e2 : fnd k (r :: rs) = sameK r k := by unfold fnd; rw [show dwR k (r :: rs) = r :: rs from (tw_neg hb).2]
      rw [e1, e2]
      by_cases hs : r.tab = k.tab ∧ r.key = k.key
      · rw [atF, if_pos hs, if_pos (same_iff.2 hs)]; rfl
      · have hk : befB k r = true := by
          by_cases hh : befB k r = true
          · exact hh
          · exact absurd (same_iff.1 (bef_tot (by rw [hb]; simp) hh)) hs
        rw [atF, if_neg hs, if_neg (by rw [same_iff]; exact hs)]
        rcases at_get (x := k) rs (i + 1) with ⟨a, _⟩ | ⟨j, q, a, b, c⟩
        · exact a
        · have hq := bef_trans hk (h1 q (List.mem_of_getElem? a))
          have : getF k rs = none := getF_none fun x hx => bef_sn (bef_trans hk (h1 x hx))
          rw [this] at c; cases c
theorem fnd_row {k : RowD} {rs : List RowD} (h : fnd k rs = true) : ∃ r t, dwR k rs = r :: t ∧ hiR k rs = t ∧ sameK r k = true ∧ rs[(twR k rs).length]? = some r := by
  have h' := h
  unfold fnd at h
  cases hd : dwR k rs with
  | nil => rw [hd] at h; cases h
  | cons r t =>
    rw [hd] at h
    refine ⟨r, t, rfl, by unfold hiR; rw [h', if_pos rfl, hd]; rfl, h, ?_⟩
    have := td_app k rs
    rw [hd] at this
    have e : (twR k rs ++ r :: t)[(twR k rs).length]? = some r := by rw [List.getElem?_append_right (Nat.le_refl _)]; simp
    rw [this] at e; exact e
/-- without the row that stands at a place -/
def erI (a : Int) : Nat → List RowD → List RowD
  | _, [] => []
  | i, r :: rs => if (i : Int) ≠ a then r :: erI a (i + 1) rs else erI a (i + 1) rs
theorem erI_far {a : Int} : ∀ (rs : List RowD) (i : Nat), a < i → erI a i rs = rs
  | [], _, _ => rfl
  | r :: rs, i, h => by rw [erI, if_pos (by omega), erI_far rs (i + 1) (by omega)]
theorem erI_at : ∀ (l : List RowD) (r : RowD) (t : List RowD) (i : Nat), erI ((i + l.length : Nat) : Int) i (l ++ r :: t) = l ++ t
  | [], r, t, i => by rw [List.nil_append, erI, if_neg (by simp), erI_far t (i + 1) (by simp; omega)]; rfl
  | x :: l, r, t, i => by
    rw [List.cons_append, erI, if_pos (by simp; omega), List.length_cons, show i + (l.length + 1) = i + 1 + l.length from by omega, erI_at l r t (i + 1)]; rfl
theorem erI_fnd {k : RowD} {rs : List RowD} (h : Ris rs) : erI (atF k.tab k.key rs 0) 0 rs = twR k rs ++ hiR k rs := by
  rw [fnd_at' 0 h]
  cases hf : fnd k rs with
  | false => rw [if_neg (by simp), erI_far rs 0 (by simp)]; unfold hiR; rw [hf]; simp only [Bool.false_eq_true, if_false]; exact (td_app k rs).symm
  | true =>
    obtain ⟨r, t, e1, e2, e3, e4⟩ := fnd_row hf
    rw [if_pos rfl, e2]
    have := td_app k rs
    rw [e1] at this
    conv => lhs; rw [← this]
    have e5 := erI_at (twR k rs) r t 0
    rw [show (twR k rs ++ r :: t) = rs from this] at e5 ⊢
    exact e5
theorem tw_app {p : RowD → Bool} : ∀ {l m : List RowD}, (∀ x ∈ l, p x = true) → (∀ x ∈ m, p x ≠ true) → (l ++ m).takeWhile p = l ∧ (l ++ m).dropWhile p = m
  | [], [], _, _ => ⟨rfl, rfl⟩
  | [], x :: m, _, h => by
    have := h x (by simp)
    rw [List.nil_append, List.takeWhile_cons, List.dropWhile_cons]; simp [this]
  | x :: l, m, h1, h2 => by
    obtain ⟨i1, i2⟩ := tw_app (p := p) (l := l) (m := m) (fun y hy => h1 y (by simp [hy])) h2
    rw [List.cons_append, List.takeWhile_cons, List.dropWhile_cons, if_pos (h1 x (by simp)), if_pos (h1 x (by simp)), i1, i2]
    exact ⟨rfl, rfl⟩
theorem hi_gt {k : RowD} {rs : List RowD} (h : Ris rs) : ∀ x ∈ hiR k rs, befB k x = true := by
  intro x hx
  have hd := dw_nb (k := k) h
  have hp : Ris (dwR k rs) := by
    have := h; rw [← td_app k rs] at this; exact (List.pairwise_append.1 this).2.1
  unfold hiR at hx
  cases hf : fnd k rs with
  | true =>
    obtain ⟨r, t, e1, e2, e3, e4⟩ := fnd_row hf
    rw [hf, if_pos rfl, e1] at hx
    rw [e1] at hp
    have := (List.pairwise_cons.1 hp).1 x hx
    rw [same_iff] at e3; rw [bef_iff] at *; omega
  | false =>
    rw [hf] at hx
    simp only [Bool.false_eq_true, if_false] at hx
    by_cases hb : befB k x = true
    · exact hb
    exfalso
    have hs := bef_tot (hd x hx) hb
    unfold fnd at hf
    cases hdw : dwR k rs with
    | nil => rw [hdw] at hx; simp at hx
    | cons r t =>
      rw [hdw] at hf hx hp
      rcases List.mem_cons.1 hx with rfl | hx
      · have hf' : sameK x k = false := hf
        rw [hs] at hf'; cases hf'
      · have h1 := (List.pairwise_cons.1 hp).1 x hx
        have h2 := hd r (by rw [hdw]; simp)
        rw [same_iff] at hs; rw [bef_iff] at h1; rw [Ne, bef_iff] at h2; omega
theorem tw_lt {k : RowD} {rs : List RowD} : ∀ x ∈ twR k rs, befB x k = true := fun x hx => tw_all x hx
/-! a change done -/
def doR (rs : List RowD) (c : ChgD) : List RowD := twR c.k rs ++ ((if c.is then [c.a] else []) ++ hiR c.k rs)
def fitR (rs : List RowD) (c : ChgD) : Bool := (fnd c.k rs == c.was) && (!fnd c.k rs || (match dwR c.k rs with | [] => true | r :: _ => eqRowB r c.b))
theorem ris_th {k : RowD} {rs : List RowD} (h : Ris rs) : Ris (twR k rs) ∧ Ris (hiR k rs) := by
  have h' := h
  rw [← td_app k rs] at h'
  obtain ⟨p1, p2, p3⟩ := List.pairwise_append.1 h'
  refine ⟨p1, ?_⟩
  unfold hiR
  split
  · exact List.Pairwise.sublist (List.tail_sublist _) p2
  · exact p2
theorem ris_do {rs : List RowD} {c : ChgD} (h : Ris rs) : Ris (doR rs c) := by
  obtain ⟨p1, p2⟩ := ris_th (k := c.k) h
  have ht := tw_lt (k := c.k) (rs := rs)
  have hh := hi_gt (k := c.k) h
  unfold doR
  refine List.pairwise_append.2 ⟨p1, List.pairwise_append.2 ⟨by split <;> simp, p2, fun a ha b hb => ?_⟩, fun a ha b hb => ?_⟩
  · split at ha
    · rename_i hi
      have : c.k = c.a := by unfold ChgD.k; rw [if_pos hi]
      rw [show a = c.a from by simpa using ha, ← this]; exact hh b hb
    · simp at ha
  · rcases List.mem_append.1 hb with hb | hb
    · split at hb
      · rename_i hi
        have : c.k = c.a := by unfold ChgD.k; rw [if_pos hi]
        rw [show b = c.a from by simpa using hb, ← this]; exact ht a ha
      · simp at hb
    · exact bef_trans (ht a ha) (hh b hb)
theorem ins_do {rs : List RowD} {c : ChgD} (h : Ris rs) (hi : c.is = true) : insR c.a (twR c.k rs ++ hiR c.k rs) = doR rs c := by
  have hk : c.k = c.a := by unfold ChgD.k; rw [if_pos hi]
  have ht := tw_lt (k := c.k) (rs := rs)
  have hh := hi_gt (k := c.k) h
  rw [hk] at ht hh
  obtain ⟨e1, e2⟩ := tw_app (p := (befB · c.a)) (l := twR c.a rs) (m := hiR c.a rs) ht (fun x hx hb => bef_irr (bef_trans hb (hh x hx)))
  unfold insR doR
  rw [hk, e1, e2, hi]; rfl
theorem no_do {rs : List RowD} {c : ChgD} (hi : c.is = false) : twR c.k rs ++ hiR c.k rs = doR rs c := by unfold doR; rw [hi]; rfl
theorem hi_len (k : RowD) (rs : List RowD) : (twR k rs).length + (hiR k rs).length ≤ rs.length := by
  have := td_len k rs
  unfold hiR
  split
  · rw [List.length_tail]; omega
  · omega
theorem do_len (rs : List RowD) (c : ChgD) : (doR rs c).length ≤ rs.length + 1 := by
  have := hi_len c.k rs
  unfold doR
  split <;> simp <;> omega
def apL : List RowD → List ChgD → Int × List RowD
  | rs, [] => if 60 < rs.length then (2, []) else (0, rs)
  | rs, c :: cs => if chgF c = 0 then (if fitR rs c then apL (doR rs c) cs else (8, [])) else (chgF c, [])
def apF (rs : List RowD) (cs : List ChgD) : Int × List RowD := if rowsF rs = 0 then apL rs cs else (rowsF rs, [])
theorem apL_len : ∀ (cs : List ChgD) (rs : List RowD), (apL rs cs).2.length ≤ rs.length + cs.length
  | [], rs => by unfold apL; split <;> simp
  | c :: cs, rs => by
    unfold apL
    split
    · split
      · have := apL_len cs (doR rs c); have := do_len rs c; simp only [List.length_cons]; omega
      · simp
    · simp
theorem apF_len (rs : List RowD) (cs : List ChgD) : (apF rs cs).2.length ≤ rs.length + cs.length := by
  unfold apF
  split
  · exact apL_len cs rs
  · simp
end Vm
/-
  ApplyChanges: both ways.
-/
namespace Vm
open Go
/-! the binary search -/
theorem shr1 {m : Nat} (h : m < 2 ^ 62) : bin Ev .shr 163 (iv .u64 (IntKind.u64.wrap (m : Int))) (iv .u64 1) = some (iv .u64 ((m / 2 : Nat) : Int)) := by
  have w1 : ∀ n : Nat, n < 2 ^ 62 → IntKind.u64.wrap (n : Int) = (n : Int) := fun n hn => by
    simp only [IntKind.wrap, IntKind.signed, IntKind.bits]; simp; omega
  rw [w1 m h]
  simp only [bin]
  rw [if_neg (by omega)]
  have : ((m : Int) * 1).fdiv (2 ^ (min (1 : Int).toNat IntKind.u64.bits)) = ((m / 2 : Nat) : Int) := by
    rw [Int.mul_one, show min (1 : Int).toNat IntKind.u64.bits = 1 from rfl, Int.fdiv_eq_ediv_of_nonneg _ (by omega)]
    omega
  simp only [Int.mul_one] at this
  rw [this]
theorem fnK_fn {R : Type} {g : Nat} {k : Nat → List (Nat × Nat) → Option R} : fnK (.s (.fn g [])) k = k g [] := rfl
theorem psz_order : Ev.psz Fn.impl_order = [] := by kernel_rfl
theorem rt_order : Ev.rt Fn.impl_order = .one (.i .i64) := by kernel_rfl
theorem tw_idx {k : RowD} {rs : List RowD} (h : Ris rs) {i : Nat} {r : RowD} (hr : rs[i]? = some r) : befB r k = true ↔ i < (twR k rs).length := by
  have ha := td_app k rs
  constructor
  · intro hb
    by_cases hi : i < (twR k rs).length
    · exact hi
    · exfalso
      rw [← ha, List.getElem?_append_right (by omega)] at hr
      exact dw_nb h r (List.mem_of_getElem? hr) hb
  · intro hi
    rw [← ha, List.getElem?_append_left hi] at hr
    exact tw_lt r (List.mem_of_getElem? hr)
theorem ord_lt {a b : RowD} : ordI a b < 0 ↔ befB a b = true := by
  unfold ordI
  split
  · rename_i h; simp [h]
  · rename_i h; split <;> simp [h]
theorem p_bs {rs : List RowD} {k : RowD} (h : Ris rs) (hl : rs.length < 2 ^ 60) : pureV (call Ev) Fn.slices_BinarySearchFunc_impl_Row_impl_Row_impl_Row [lv (rws rs), .agg k.cs, .s (.fn Fn.impl_order [])] = some (.tup [.s (.int .i64 (((twR k rs).length : Nat) : Int)), .s (.bool (fnd k rs))]) := by
  have hc0 : ((D 0).new 0 k.cs).cells 0 = k.cs := by unfold H.cells; rw [if_pos (by simp)]; rfl
  have htl := td_len k rs
  have loop : ∀ (f i j : Nat), j - i ≤ f → i ≤ (twR k rs).length → (twR k rs).length ≤ j → j ≤ rs.length →
      Lp.slices_BinarySearchFunc_impl_Row_impl_Row_impl_Row 0 [lv (rws rs), .s (.fn Fn.impl_order []), pv 0 0, iv .i64 (rs.length : Int), iv .i64 i, iv .i64 j] ((D 0).new 0 k.cs) = some (.done [lv (rws rs), .s (.fn Fn.impl_order []), pv 0 0, iv .i64 (rs.length : Int), iv .i64 (((twR k rs).length : Nat) : Int)] ((D 0).new 0 k.cs)) := by
    intro f
    induction f with
    | zero =>
      intro i j hf h1 h2 h3
      have : i = (twR k rs).length := by omega
      subst this
      rw [eq_slices_BinarySearchFunc_impl_Row_impl_Row_impl_Row_l0, vcase_b, if_neg (by simp; omega), tidy_self]
    | succ f ih =>
      intro i j hf h1 h2 h3
      by_cases hij : i < j
      case neg =>
        have : i = (twR k rs).length := by omega
        subst this
        rw [eq_slices_BinarySearchFunc_impl_Row_impl_Row_impl_Row_l0, vcase_b, if_neg (by simp; omega), tidy_self]
      rw [eq_slices_BinarySearchFunc_impl_Row_impl_Row_impl_Row_l0, vcase_b, if_pos (by simp; omega), w64 (n := (i : Int) + (j : Int)) (by omega) (by omega), show (i : Int) + (j : Int) = ((i + j : Nat) : Int) from by omega, shr1 (by omega)]
      simp only [ob, gV1_s, gI_i]
      obtain ⟨r, hr⟩ : ∃ r, rs[(i + j) / 2]? = some r := ⟨_, List.getElem?_eq_getElem (by omega)⟩
      rw [w64 (n := (((i + j) / 2 : Nat) : Int)) (by omega) (by omega), idxF_rw hr, rowN_rw]
      simp only [ob, gx0, gx1, gI_i, gS_s, ln0, ln1, Nat.zero_add, Nat.reduceAdd, if_true]
      rw [ldK_agg rfl (loadN_cs (by simp) hc0 rfl)]
      simp only [gVA_a, ob, gx0, gx1, gI_i, gS_s, ln0, ln1, Nat.zero_add, Nat.reduceAdd, if_true]
      rw [pc (p_order r k) rfl]
      simp only [gV1_s, gI_i, hchk_self, vcase_b, decide_eq_true_eq, tidy_self]
      have hb := tw_idx (k := k) h hr
      by_cases ho : ordI r k < 0
      · have := hb.1 (ord_lt.1 ho)
        rw [if_pos ho, w64 (n := (((i + j) / 2 : Nat) : Int) + 1) (by omega) (by omega), show (((i + j) / 2 : Nat) : Int) + 1 = (((i + j) / 2 + 1 : Nat) : Int) from by omega]
        exact ih _ _ (by omega) (by omega) h2 h3
      · have : ¬ (i + j) / 2 < (twR k rs).length := fun hh => ho (ord_lt.2 (hb.2 hh))
        rw [if_neg ho]
        exact ih _ _ (by omega) h1 (by omega) (by omega)
  rw [pu_slices_BinarySearchFunc_impl_Row_impl_Row_impl_Row, rws_len, show iv .i64 0 = iv .i64 ((0 : Nat) : Int) from rfl, loop rs.length 0 rs.length (by omega) (by omega) (by omega) (by omega), ob, lcase_done]
  simp only [gx0, gx1, ob, gV1_s, gF_f, gI_i, vcase_b, decide_eq_true_eq, hchk_self]
  by_cases hp : (twR k rs).length < rs.length
  case neg =>
    have hd : dwR k rs = [] := List.eq_nil_of_length_eq_zero (by omega)
    have hf : fnd k rs = false := by unfold fnd; rw [hd]
    rw [if_neg (by omega), hf]
  obtain ⟨r, hr⟩ : ∃ r, rs[(twR k rs).length]? = some r := ⟨_, List.getElem?_eq_getElem hp⟩
  have hf : fnd k rs = sameK r k := by
    unfold fnd
    have ha := td_app k rs
    cases hd : dwR k rs with
    | nil => rw [hd] at htl; simp at htl; omega
    | cons q t =>
      rw [hd] at ha
      have : (twR k rs ++ q :: t)[(twR k rs).length]? = some q := by rw [List.getElem?_append_right (Nat.le_refl _)]; simp
      rw [ha, hr] at this
      injection this with this
      rw [this]
  rw [if_pos (by omega), idxF_rw hr, rowN_rw]
  simp only [ob, gx0, gx1, gI_i, gS_s, ln0, ln1, Nat.zero_add, Nat.reduceAdd, if_true]
  rw [ldK_agg rfl (loadN_cs (by simp) hc0 rfl)]
  simp only [gVA_a, ob, gx0, gx1, gI_i, gS_s, ln0, ln1, Nat.zero_add, Nat.reduceAdd, if_true]
  rw [fnK_fn]
  have e1 : ∀ hh : H, frzVs hh ([V.agg [.int .i64 r.tab, .int .i64 r.key, .int .i64 r.val, .str r.text], .agg [.int .i64 k.tab, .int .i64 k.key, .int .i64 k.val, .str k.text]] ++ ([] : List (Nat × Nat)).map fun p => .s (.ptr (some p))) = some [.agg r.cs, .agg k.cs] := fun hh => by simp [frzVs]
  rw [e1, ob, psz_order, norm_nil, pc (p_order r k) rfl, rt_order]
  have e2 : ∀ {q : V → Option V}, Vm.tyV (.one (.i .i64)) (iv .i64 (ordI r k)) q = q (iv .i64 (ordI r k)) := fun {q} => by simp [Vm.tyV, tyS]
  rw [e2]
  simp only [gV1_s, gI_i]
  have e3 : (ordI r k == 0) = fnd k rs := by
    rw [hf]
    have := ordI_0 (a := r) (b := k)
    cases hs : sameK r k
    · rw [hs] at this; simp only [Bool.false_eq_true, iff_false] at this; simpa using this
    · rw [hs] at this; simp only [iff_true] at this; simpa using this
  rw [e3]
/-! the program's parts -/
theorem p_fitsTo {rs : List RowD} {c : ChgD} (h : Ris rs) (hl : rs.length < 2 ^ 60) : pureV (call Ev) Fn.impl_Change_fitsTo [.agg c.cs, lv (rws rs)] = some (bv (fitR rs c)) := by
  rw [pu_impl_Change_fitsTo, pc (p_Change_key c) (by simp)]
  simp only [gVA_a, ob, gx0, gx1, gI_i, gS_s, ln0, ln1, Nat.zero_add, Nat.reduceAdd, if_true]
  rw [pc (p_bs h hl) (by simp)]
  simp only [gVT_t, gA1_s, ob, gx0, gx1, gI_i, gB_b, ln0, ln1, Nat.zero_add, Nat.reduceAdd, if_true, vcase_b]
  unfold fitR
  cases hf : fnd c.k rs with
  | false => cases c.was <;> simp
  | true =>
    obtain ⟨r, t, e1, e2, e3, e4⟩ := fnd_row hf
    rw [e1]
    cases c.was with
    | false => simp
    | true =>
      rw [if_pos (by simp), if_neg (by simp), idxF_rw e4, rowN_rw]
      simp only [ob, gx0, gx1, gI_i, gS_s, ln0, ln1, Nat.zero_add, Nat.reduceAdd, if_true]
      simp [eqRowB]
theorem f_changed {rs : List RowD} {c : ChgD} (h : Ris rs) (hl : rs.length < 2 ^ 30) (n : Nat) : ∃ y h', call Ev Fn.impl_changed [lv (rws rs), .agg c.cs] (D n) = some (.s y, h') ∧ n ≤ h'.n ∧ OwnF 1 y (.fs (rws (doR rs c))) n h'.n h' := by
  have htl := td_len c.k rs
  have g0 : ((D n).new 0 c.cs).g n = .rw 0 c.cs := new_g (D n) _ _
  have c0 : ((D n).new 0 c.cs).cells n = c.cs := by unfold H.cells; rw [if_pos (by simp), g0]; rfl
  rw [eq_impl_changed, D_n, loadN_cs (by simp) c0 (show c.cs.length = 10 from rfl)]
  simp only [ob, gx0, gx1, gI_i, gS_s, gB_b, ln0, ln1, Nat.zero_add, Nat.reduceAdd, if_true]
  rw [pc (p_Change_key c) (by simp)]
  simp only [gVA_a, ob, gx0, gx1, gI_i, gS_s, ln0, ln1, Nat.zero_add, Nat.reduceAdd, if_true]
  rw [pc (p_bs h (by omega)) (by simp)]
  simp only [gVT_t, gA1_s, ob, gx0, gx1, gI_i, gB_b, ln0, ln1, Nat.zero_add, Nat.reduceAdd, if_true, vcase_b]
  have ht : rs.take (twR c.k rs).length = twR c.k rs := by
    exact (tw_dw rs).1
  rw [(slF_rws (by omega)).1, ht]
  obtain ⟨v1, h1, e1, w1, n1, k1⟩ := app_fl (z := 4) (h := ((D n).new 0 c.cs).new 4 []) (y := lv (rws (twR c.k rs))) (more := rws (twR c.k rs)) FlS.nil rws_row (cellsS_lv rws_row) rfl (by omega) (by simp; unfold lim; omega)
  rw [e1, ob]
  have gr : h1.g n = .rw 0 c.cs := by rw [k1 n (by simp; omega) (by simp), new_g' (by simp)]; exact g0
  have cr : h1.cells n = c.cs := by unfold H.cells; rw [if_pos (by rw [n1]; simp; omega), gr]; rfl
  have hn1 : h1.n = n + 3 := by rw [n1]; simp
  rw [load1_cs (o := 5) (x := .bool c.is) cr rfl]
  simp only [ob, gB_b, vcase_b]
  have fin : ∀ (v : V) (K : H) (b : Nat) (pre : List RowD), FlS 4 K v (rws pre) b → n ≤ b → n ≤ K.n → pre.length ≤ rs.length + 1 → pre ++ hiR c.k rs = doR rs c →
      (fnd c.k rs = true → ∃ y h', ((slF 4 (rws rs) (some (iv .i64 (IntKind.i64.wrap (((twR c.k rs).length : Int) + 1)))) none fun z => (appS 4 K v (lv z)).bind fun p => some (p.1, p.2)) = some (V.s y, h')) ∧ n ≤ h'.n ∧ OwnF 1 y (.fs (rws (doR rs c))) n h'.n h') ∧
      (fnd c.k rs = false → ∃ y h', ((slF 4 (rws rs) (some (iv .i64 ((twR c.k rs).length : Int))) none fun z => (appS 4 K v (lv z)).bind fun p => some (p.1, p.2)) = some (V.s y, h')) ∧ n ≤ h'.n ∧ OwnF 1 y (.fs (rws (doR rs c))) n h'.n h') := by
    intro v K b pre w hb hK hpl hpre
    have hh := hi_len c.k rs
    have go : ∃ y h', ((appS 4 K v (lv (rws (hiR c.k rs)))).bind fun p => some (p.1, p.2)) = some (V.s y, h') ∧ n ≤ h'.n ∧ OwnF 1 y (.fs (rws (doR rs c))) n h'.n h' := by
      obtain ⟨v2, h2, e2, w2, n2, k2⟩ := app_fl (z := 4) (y := lv (rws (hiR c.k rs))) (more := rws (hiR c.k rs)) w rws_row (cellsS_lv rws_row) rfl (by omega) (by simp; unfold lim; omega)
      have hr : rws pre ++ rws (hiR c.k rs) = rws (doR rs c) := by rw [← hpre]; simp [rws]
      rw [hr] at w2
      have hv := w2.v
      subst hv
      rw [e2, ob]
      exact ⟨_, h2, rfl, by omega, w2.own (by omega) (by omega) rws_sc⟩
    refine ⟨fun hf => ?_, fun hf => ?_⟩
    · obtain ⟨r, t, d1, d2, d3, d4⟩ := fnd_row hf
      have hlt : (twR c.k rs).length + 1 ≤ rs.length := by rw [d1] at htl; simp at htl; omega
      rw [w64 (by omega) (by omega), show ((twR c.k rs).length : Int) + 1 = (((twR c.k rs).length + 1 : Nat) : Int) from by omega, (slF_rws hlt).2]
      have hd : rs.drop ((twR c.k rs).length + 1) = hiR c.k rs := by
        have h1 : rs.drop (twR c.k rs).length = r :: t := by rw [← d1]; exact (tw_dw rs).2
        rw [d2, ← List.drop_drop, h1]; rfl
      rw [hd]; exact go
    · rw [(slF_rws (by omega)).2]
      have hd : rs.drop (twR c.k rs).length = hiR c.k rs := by
        unfold hiR; rw [hf]; simp only [Bool.false_eq_true, if_false]
        exact (tw_dw rs).2
      rw [hd]; exact go
  cases hi : c.is with
  | true =>
    have la : loadN 4 h1 (pv n 6) = some c.a.cs := by
      simp only [loadN]
      rw [if_pos ⟨by omega, by rw [cr]; simp⟩, cr]; rfl
    rw [if_pos rfl, la]
    simp only [ob, gx0, gx1, gI_i, gS_s, ln0, ln1, Nat.zero_add, Nat.reduceAdd, if_true]
    have w1' : FlS 4 (h1.new 4 c.a.cs) v1 ([] ++ rws (twR c.k rs)) _ := w1.keep (by simp) (new_g' (by have := w1.n; omega))
    obtain ⟨v2, h2, e2, w2, n2, k2⟩ := app_fl (z := 4) (h := h1.new 4 c.a.cs) (y := sv h1.n 0 1) (more := [c.a.cs]) w1' (by simp) (by simpa using cellsS_row (h := h1) (z := 4) (row := c.a.cs) rfl) rfl (by omega) (by simp; unfold lim; omega)
    rw [e2, ob]
    have hr : [] ++ rws (twR c.k rs) ++ [c.a.cs] = rws (twR c.k rs ++ [c.a]) := by simp [rws]
    rw [hr] at w2
    have hpre : (twR c.k rs ++ [c.a]) ++ hiR c.k rs = doR rs c := by unfold doR; rw [hi]; simp
    obtain ⟨f1, f2⟩ := fin v2 h2 _ _ w2 (by rw [new_n]; omega) (by rw [n2, new_n]; omega) (by simp; omega) hpre
    cases hf : fnd c.k rs with
    | true => rw [if_pos rfl]; exact f1 hf
    | false => rw [if_neg (by simp)]; exact f2 hf
  | false =>
    rw [if_neg (by simp)]
    rw [List.nil_append] at w1
    obtain ⟨f1, f2⟩ := fin v1 h1 _ _ w1 (by simp; omega) (by omega) (by omega) (no_do hi)
    cases hf : fnd c.k rs with
    | true => rw [if_pos rfl]; exact f1 hf
    | false => rw [if_neg (by simp)]; exact f2 hf
end Vm
/-
  The tables that rows tell.
-/
namespace Vm
open Go
theorem rws_snoc (rs : List RowD) (r : RowD) : rws (rs ++ [r]) = rws rs ++ [r.cs] := by simp [rws]
def tabs (rs : List RowD) : List RowD := rs.filter fun r => decide (r.tab = 0)
theorem p_l8Tables {all : List RowD} (hl : all.length ≤ lim) : pureV (call Ev) Fn.spec_l8Tables [lv (rws all)] = some (lv (rws (tabs all))) := by
  have hl' := hl
  unfold lim at hl'
  have loop : ∀ (rs : List RowD) (i : Nat) (y : S) (out : List RowD) (h : H), all.drop i = rs → out.length ≤ i → Gr 4 0 (D 0) y (rws out) h →
      ∃ y' h', Lp.spec_l8Tables 0 [lv (rws all), .s y, iv .i64 i] h = some (.done [.s y'] h') ∧ Gr 4 0 (D 0) y' (rws (out ++ tabs rs)) h' := by
    intro rs
    induction rs with
    | nil =>
      intro i y out h hi ho w
      have := drop_nil hi
      refine ⟨y, h, ?_, by simpa [tabs] using w⟩
      rw [eq_spec_l8Tables_l0, vcase_b, if_neg (by simp; omega), tidy_self]
    | cons r rs ih =>
      intro i y out h hi ho w
      obtain ⟨g1, g2, g3⟩ := drop_cons hi
      rw [eq_spec_l8Tables_l0, vcase_b, if_pos (by simp; omega), idxF_rw g1, w64 (by omega) (by omega), show (i : Int) + 1 = ((i + 1 : Nat) : Int) from by omega]
      simp only [ob, gx0, gI_i, vcase_b, beq_iff_eq]
      by_cases h0 : r.tab = 0
      · rw [if_pos h0, idxF_rw g1, rowN_rw]
        simp only [ob, gx0, gx1, gI_i, gS_s, ln0, ln1, Nat.zero_add, Nat.reduceAdd, if_true]
        obtain ⟨h', e, w', hn⟩ := w.app (row := r.cs) row_sc rfl (by omega) (by rw [rws_len]; unfold lim; omega)
        rw [e, ob, grow_tidy (m := h.n + 1) (k := (rws out).length + 1) (by omega) (by simp)]
        rw [← rws_snoc] at w'
        obtain ⟨y', h2, e2, w2⟩ := ih (i + 1) _ (out ++ [r]) h' g2 (by simp; omega) w'
        refine ⟨y', h2, e2, ?_⟩
        have : tabs (r :: rs) = r :: tabs rs := by simp [tabs, h0]
        rw [this]; simpa using w2
      · rw [if_neg h0, tidy_self]
        obtain ⟨y', h2, e2, w2⟩ := ih (i + 1) y out h g2 (by omega) w
        refine ⟨y', h2, e2, ?_⟩
        have : tabs (r :: rs) = tabs rs := by simp [tabs, h0]
        rw [this]; exact w2
  obtain ⟨y', h', e, w⟩ := loop all 0 _ [] _ rfl (by simp) (Gr.new (z := 4) (h := D 0) (by omega))
  rw [pu_spec_l8Tables, show iv .i64 0 = iv .i64 ((0 : Nat) : Int) from rfl]
  rw [D_n] at e
  rw [e, ob, lcase_done]
  simp only [gx0, ob]
  exact w.frz
def tabC (rs : List RowD) : Int := rowsF rs
def tabL (rs : List RowD) : List RowD := if rowsF rs = 0 then tabs rs else []
theorem tabL_len (rs : List RowD) : (tabL rs).length ≤ rs.length := by
  unfold tabL tabs
  split
  · exact List.length_filter_le _ _
  · simp
theorem p_spec_TablesIn {all : List RowD} (hs : ∀ r ∈ all, r.text.size ≤ maxLen) (hl : all.length ≤ lim) : pureV (call Ev) Fn.spec_TablesIn [lv (rws all)] = some (.agg [.int .i64 (tabC all), .fs (rws (tabL all))]) := by
  rw [pu_spec_TablesIn, pc (p_l6Rows hs (by unfold lim at hl; unfold maxLen; omega)) rfl]
  simp only [gV1_s, gI_i, vcase_b, bne_iff_ne, ne_eq]
  unfold tabC tabL
  by_cases h0 : rowsF all = 0
  · rw [if_neg (by simp [h0]), p_l8Tables hl, if_pos h0]
    simp only [ob, gV1_s, gF_f]
    rw [h0]
  · rw [if_pos h0, if_neg h0]; rfl
theorem f_TablesIn {all : List RowD} (hs : ∀ r ∈ all, r.text.size ≤ maxLen) (hl : all.length ≤ lim) (n : Nat) : ∃ y h', call Ev Fn.impl_TablesIn [lv (rws all)] (D n) = some (.agg [.int .i64 (tabC all), y], h') ∧ NewC 5 [.int .i64 (tabC all), y] [.int .i64 (tabC all), .fs (rws (tabL all))] n h' := by
  have hl' := hl
  unfold lim at hl'
  rw [eq_impl_TablesIn, pc (p_RowsFault hs (by unfold maxLen; omega)) rfl]
  simp only [gV1_s, gI_i, vcase_b, bne_iff_ne, ne_eq]
  unfold tabC tabL
  by_cases h0 : rowsF all = 0
  case neg =>
    obtain ⟨h', e, w⟩ := bad2D n 5 (rowsF all)
    rw [if_pos h0, if_neg h0]
    exact ⟨_, h', e, w⟩
  rw [if_neg (by simp [h0]), if_pos h0, h0]
  have loop : ∀ (rs : List RowD) (i : Nat) (y : S) (out : List RowD) (h : H), all.drop i = rs → out.length ≤ i → Gr 4 (n + 1) ((D n).new 0 [.int .i64 0, .sl none 0]) y (rws out) h →
      ∃ y' h', Lp.impl_TablesIn 0 [pv n 0, .s y, lv (rws all), iv .i64 (all.length : Int), iv .i64 i] h = some (.done [pv n 0, .s y'] h') ∧ Gr 4 (n + 1) ((D n).new 0 [.int .i64 0, .sl none 0]) y' (rws (out ++ tabs rs)) h' := by
    intro rs
    induction rs with
    | nil =>
      intro i y out h hi ho w
      have := drop_nil hi
      refine ⟨y, h, ?_, by simpa [tabs] using w⟩
      rw [eq_impl_TablesIn_l0, vcase_b, if_neg (by simp; omega), tidy_self]
    | cons r rs ih =>
      intro i y out h hi ho w
      obtain ⟨g1, g2, g3⟩ := drop_cons hi
      rw [eq_impl_TablesIn_l0, vcase_b, if_pos (by simp; omega), idxF_rw g1, rowN_rw, w64 (by omega) (by omega), show (i : Int) + 1 = ((i + 1 : Nat) : Int) from by omega]
      simp only [ob, gx0, gx1, gI_i, gS_s, ln0, ln1, Nat.zero_add, Nat.reduceAdd, if_true]
      rw [stK_row, load_0, loadN_row]
      simp only [ob, gx0, gx1, gI_i, gS_s, ln0, ln1, Nat.zero_add, Nat.reduceAdd, if_true, vcase_b, beq_iff_eq]
      by_cases h0 : r.tab = 0
      · rw [if_pos h0]
        obtain ⟨h', e, w', hn⟩ := (w.keep (putR_keep h r)).app (row := r.cs) row_sc rfl (by omega) (by rw [rws_len]; unfold lim; omega)
        rw [e, ob, grow_tidy (m := (putR h r).n + 1) (k := (rws out).length + 1) (by rw [putR_n]; omega) (by simp)]
        rw [← rws_snoc] at w'
        obtain ⟨y', h2, e2, w2⟩ := ih (i + 1) _ (out ++ [r]) h' g2 (by simp; omega) w'
        refine ⟨y', h2, e2, ?_⟩
        have : tabs (r :: rs) = r :: tabs rs := by simp [tabs, h0]
        rw [this]; simpa using w2
      · have hb : [pv n 0, V.s y, lv (rws all), iv .i64 (all.length : Int), iv .i64 ((i + 1 : Nat) : Int)].all (belV h.n) = true := by
          obtain ⟨w1, _, bs, w3, _⟩ := w
          have hy := w3.rep.top (N := h.n) w3.rep.lt
          simp only [List.all_cons, List.all_nil, Bool.and_true, Bool.and_eq_true]
          exact ⟨by simp [belV, belS]; omega, hy, rfl, rfl, rfl⟩
        rw [if_neg h0, putR_tidy hb]
        obtain ⟨y', h2, e2, w2⟩ := ih (i + 1) y out h g2 (by omega) w
        refine ⟨y', h2, e2, ?_⟩
        have : tabs (r :: rs) = tabs rs := by simp [tabs, h0]
        rw [this]; exact w2
  obtain ⟨y', h', e, w⟩ := loop all 0 _ [] _ rfl (by simp) (Gr.none (z := 4) (n := n + 1) (h := (D n).new 0 [.int .i64 0, .sl none 0]) (by simp))
  rw [rws_len, D_n, show iv .i64 0 = iv .i64 ((0 : Nat) : Int) from rfl, e, ob, lcase_done]
  simp only [gx0, gx1, ob]
  rw [cells2 w.own.no]
  obtain ⟨h2, e2, w2⟩ := fin2S (n := n) (K := h') (c := 0) (by have := w.1; omega) (by rw [w.2.1 n (by omega)]; exact new_g (D n) _ _) (w.own.lift (k := 5) (by omega))
  refine ⟨y', h2, ?_, w2⟩
  rw [← e2]
  rfl
end Vm
/-
  ApplyChanges: the loops, and what both ways come to.
-/
namespace Vm
open Go
def apS : List RowD → List ChgD → Int × List RowD
  | rs, [] => (0, rs)
  | rs, c :: cs => if chgF c = 0 then (if fitR rs c then apS (doR rs c) cs else (8, [])) else (chgF c, [])
theorem apL_S : ∀ (cs : List ChgD) (rs : List RowD), apL rs cs = if (apS rs cs).1 = 0 then (if 60 < (apS rs cs).2.length then (2, []) else (0, (apS rs cs).2)) else ((apS rs cs).1, [])
  | [], rs => by simp [apL, apS]; rfl
  | c :: cs, rs => by
    unfold apL apS
    by_cases h : chgF c = 0
    · rw [if_pos h, if_pos h]
      by_cases h2 : fitR rs c = true
      · rw [if_pos h2, if_pos h2]; exact apL_S cs _
      · rw [if_neg h2, if_neg h2]; simp
    · rw [if_neg h, if_neg h]; simp [h]
theorem apS_nil (rs : List RowD) : apS rs [] = (0, rs) := rfl
theorem apS_ok {rs : List RowD} {c : ChgD} {cs : List ChgD} (h : chgF c = 0) (h2 : fitR rs c = true) : apS rs (c :: cs) = apS (doR rs c) cs := by rw [apS, if_pos h, if_pos h2]
theorem apS_8 {rs : List RowD} {c : ChgD} {cs : List ChgD} (h : chgF c = 0) (h2 : fitR rs c ≠ true) : apS rs (c :: cs) = (8, []) := by rw [apS, if_pos h, if_neg h2]
theorem apS_f {rs : List RowD} {c : ChgD} {cs : List ChgD} (h : chgF c ≠ 0) : apS rs (c :: cs) = (chgF c, []) := by rw [apS, if_neg h]
/-- rows of one's own over a result that stands in block m -/
structure ApI (h0 : H) (m : Nat) (y : S) (rs : List RowD) (h : H) : Prop where
  n : m < h.n
  g : h.g m = .rw 0 [.int .i64 0, .sl none 0]
  k : ∀ b, b < m → h.g b = h0.g b
  o : OwnF 1 y (.fs (rws rs)) (m + 1) h.n h
theorem ApI.next {h0 h h' : H} {m lo : Nat} {y y' : S} {rs rs' : List RowD} (w : ApI h0 m y rs h) (u : Up h h') (o : OwnF 1 y' (.fs (rws rs')) lo h'.n h') (hlo : m + 1 ≤ lo) : ApI h0 m y' rs' h' :=
  ⟨by have := w.n; have := u.n; omega, by rw [u.g m w.n]; exact w.g, fun b hb => by rw [u.g b (by have := w.n; omega)]; exact w.k b hb, o.weak hlo (Nat.le_refl _)⟩
theorem put_res {R : Type} {K : H} {m : Nat} {c : Int} {y : S} {k : V → H → Option R} {dd : TD} {bb : Bool} {z : List S} {w : Nat} (hn : m < K.n) (g : K.g m = .rw 0 [.int .i64 0, .sl none 0]) :
    (stK 2 K (pv m 0) (.agg [.int .i64 c, y]) fun h => ldT ⟨2, w, z, true, dd, bb⟩ h (pv m 0) fun v => k v h) = k (.agg [.int .i64 c, y]) (K.put m (.rw 0 [.int .i64 c, y])) := by
  rw [stK_rw (z := 2) (e := 0) (o := 0) (b := m) (cs := [.int .i64 0, .sl none 0]) (r := [.int .i64 c, y]) hn g (.inr rfl) rfl (by simp)]
  rw [show setAt [.int .i64 0, .sl none 0] 0 [.int .i64 c, y] = [.int .i64 c, y] from rfl]
  simp only [ldT, cond_true]
  rw [loadN_2 (b := m) (e := 0) (by rw [put_n]; exact hn) (put_g _ _ _), ob]
theorem put_own {K : H} {m d : Nat} {c : Int} {y f : S} {B : Blk} (o : OwnF d y f (m + 1) K.n K) : OwnC d [.int .i64 c, y] [.int .i64 c, f] m (K.put m B).n (K.put m B) := by
  obtain ⟨bs, w1, w2, w3⟩ := o
  refine OwnF.c (pre := [.int .i64 c]) sc1 ⟨bs, w1.frame fun b hb => ?_, w2, fun b hb => ?_⟩
  · have := w3 b hb
    exact ⟨by rw [put_n]; omega, put_g' (by omega)⟩
  · have := w3 b hb
    rw [put_n]; omega
theorem bad_own {K : H} {d m hi : Nat} {c : Int} : OwnC d [.int .i64 c, .sl none 0] [.int .i64 c, .fs []] m hi K :=
  ⟨[], RepL.cons (bs := []) (Rep.sc trivial) (RepL.cons (bs := []) Rep.nil .nil), by simp, by simp⟩
abbrev kC : VT := .agg [.b, .i .i64, .i .i64, .i .i64, .s, .b, .i .i64, .i .i64, .i .i64, .s]
abbrev tC : TI := ⟨10, 96, [.bool false, .int .i64 0, .int .i64 0, .int .i64 0, .str ⟨#[]⟩, .bool false, .int .i64 0, .int .i64 0, .int .i64 0, .str ⟨#[]⟩], true, .st [(0, 4), (1, 45), (5, 4), (6, 45)], true⟩
/-! the program's loop -/
theorem lp_apply {all : List ChgD} {v1 : V} {h0 : H} {m : Nat} (hok : ∀ c ∈ all, c.ok) (hlen : all.length ≤ 4000000)
    (rd : ∀ (i : Nat) (c : ChgD) (hh : H), all[i]? = some c → m ≤ hh.n → (∀ b, b < m → hh.g b = h0.g b) → ∀ k : V → Option LOut, (idxK 10 v1 (iv .i64 (i : Int)) fun v => ldK kC tC hh v k) = k (.agg c.cs)) :
    ∀ (q : List ChgD) (i : Nat) (rs : List RowD) (y : S) (h : H), all.drop i = q → Ris rs → rs.length + q.length ≤ 10000000 → ApI h0 m y rs h →
      ((apS rs q).1 = 0 → ∃ y' h', Lp.impl_ApplyChanges 0 [pv m 0, .s y, v1, iv .i64 (all.length : Int), iv .i64 i] h = some (.done [pv m 0, .s y'] h') ∧ ApI h0 m y' (apS rs q).2 h') ∧
      ((apS rs q).1 ≠ 0 → ∃ h', Lp.impl_ApplyChanges 0 [pv m 0, .s y, v1, iv .i64 (all.length : Int), iv .i64 i] h = some (.ret (.agg [.int .i64 (apS rs q).1, .sl none 0]) h') ∧ m < h'.n ∧ ∀ b, b < m → h'.g b = h0.g b) := by
  intro q
  induction q with
  | nil =>
    intro i rs y h hi hr hl w
    have := drop_nil hi
    rw [apS_nil]
    refine ⟨fun _ => ⟨y, h, ?_, w⟩, fun hh => absurd rfl hh⟩
    rw [eq_impl_ApplyChanges_l0, vcase_b, if_neg (by simp; omega), tidy_self]
  | cons c q ih =>
    intro i rs y h hi hr hl w
    obtain ⟨g1, g2, g3⟩ := drop_cons hi
    simp only [List.length_cons] at hl
    have hc := hok c (List.mem_of_getElem? g1)
    have wn := w.n
    have hP := putX_keep h zC c.cs
    have gP : (putX h zC c.cs).g m = .rw 0 [.int .i64 0, .sl none 0] := by rw [(hP.2 m wn).1]; exact w.g
    have nP : m < (putX h zC c.cs).n := by rw [putX_n]; omega
    have kP : ∀ b, b < m → (putX h zC c.cs).g b = h0.g b := fun b hb => by rw [(hP.2 b (by omega)).1]; exact w.k b hb
    have badr : ∀ e : Int, ∃ h', (stK 2 (putX h zC c.cs) (pv m 0) (.agg [.int .i64 e, .sl none 0]) fun h251 =>
        ldT ⟨2, 32, [.int .i64 0, .sl none 0], true, .st [(0, 2), (1, 27)], false⟩ h251 (pv m 0) fun v252 => some (LOut.ret v252 h251)) = some (.ret (.agg [.int .i64 e, .sl none 0]) h') ∧ m < h'.n ∧ ∀ b, b < m → h'.g b = h0.g b := fun e => by
      rw [put_res nP gP]
      exact ⟨_, rfl, by rw [put_n]; exact nP, fun b hb => by rw [put_g' (by omega)]; exact kP b hb⟩
    have ea : frzV (putX h zC c.cs) (.agg c.cs) = some (.agg c.cs) := by simp
    have ey := (w.o.up hP.up).frz (by omega)
    have step : ∀ r : Option LOut, (r = (vcase (bv (chgF c != 0))
        (stK 2 (putX h zC c.cs) (pv m 0) (.agg [.int .i64 (chgF c), .sl none 0]) fun h252 => ldT ⟨2, 32, [.int .i64 0, .sl none 0], true, .st [(0, 2), (1, 27)], false⟩ h252 (pv m 0) fun v253 => some (LOut.ret v253 h252))
        (vcase (bv (!fitR rs c))
          (stK 2 (putX h zC c.cs) (pv m 0) (.agg [.int .i64 8, .sl none 0]) fun h280 => ldT ⟨2, 32, [.int .i64 0, .sl none 0], true, .st [(0, 2), (1, 27)], false⟩ h280 (pv m 0) fun v281 => some (LOut.ret v281 h280))
          (pcallF (call Ev) Fn.impl_changed ([.s y, V.agg c.cs].all offV) [lv (rws rs), .agg c.cs] (putX h zC c.cs) fun v304 h305 =>
            Lp.impl_ApplyChanges 0 [pv m 0, v304, v1, iv .i64 (all.length : Int), iv .i64 ((i + 1 : Nat) : Int)] (tidy h [pv m 0, v304, v1, iv .i64 (all.length : Int), iv .i64 ((i + 1 : Nat) : Int)] h305))))) →
        Lp.impl_ApplyChanges 0 [pv m 0, .s y, v1, iv .i64 (all.length : Int), iv .i64 i] h = r := by
      rintro r rfl
      rw [eq_impl_ApplyChanges_l0, vcase_b, if_pos (by simp; omega), rd i c h g1 (by omega) w.k]
      simp only [gVA_a, ob, gx0, gx1, gI_i, gS_s, gB_b, ln0, ln1, Nat.zero_add, Nat.reduceAdd, if_true]
      rw [stK_X (z := 10) (cs := c.cs) rfl rfl, loadN_X (o := 0) (r := c.cs) (by simp) rfl]
      simp only [ob, gx0, gx1, gI_i, gS_s, gB_b, ln0, ln1, Nat.zero_add, Nat.reduceAdd, if_true]
      rw [pc (p_changeFault c hc) rfl]
      simp only [gV1_s, gI_i]
      rw [frzVs_cons ea (frzVs_cons ey frzVs_nil), ob, norm_nil, pc (p_fitsTo hr (by omega)) rfl]
      simp only [gV1_s, gB_b]
      rw [frzVs_cons ey (frzVs_cons ea frzVs_nil), ob, norm_nil, w64 (by omega) (by omega), show (i : Int) + 1 = ((i + 1 : Nat) : Int) from by omega]
    rw [step _ rfl]
    simp only [vcase_b, bne_iff_ne, ne_eq]
    by_cases hf : chgF c = 0
    case neg =>
      rw [apS_f hf, if_pos hf]
      exact ⟨fun hh => absurd hh hf, fun _ => badr _⟩
    rw [if_neg (by simpa using hf)]
    by_cases ht : fitR rs c = true
    case neg =>
      rw [apS_8 hf ht, if_pos (by simpa using ht)]
      exact ⟨fun hh => absurd hh (by simp), fun _ => badr _⟩
    rw [apS_ok hf ht, if_neg (by simp [ht])]
    obtain ⟨y2, h1, e1, n1, w1⟩ := f_changed (c := c) hr (by omega) (putX h zC c.cs).n
    obtain ⟨K, e2, u2, n2, w2⟩ := pX (h := putX h zC c.cs) (off := [.s y, V.agg c.cs].all offV) rfl e1 (by obtain ⟨bs, a, _⟩ := w1; exact a.sca) n1 w1
    rw [e2]
    obtain ⟨u3, w3⟩ := own_tidy (l := [pv m 0, .s y2, v1, iv .i64 (all.length : Int), iv .i64 ((i + 1 : Nat) : Int)]) (hP.up.trans u2) w2 (by rw [putX_n]; omega) (by simp)
    exact ih (i + 1) (doR rs c) y2 _ g2 (ris_do hr) (by have := do_len rs c; omega) (w.next u3 w3 (by rw [putX_n]; omega))
theorem clone_raw {h : H} {y : S} {rs : List RowD} {lo hi : Nat} (w : OwnF 5 y (.fs (rws rs)) lo hi h) (hl : rs.length ≤ lim) :
    ∃ y' h', call Ev Fn.slices_Clone_impl_Row_impl_Row [.s y] h = some (.s y', h') ∧ Up h h' ∧ OwnF 1 y' (.fs (rws rs)) h.n h'.n h' := by
  have e27 : ∀ (p : Nat × Nat) (n : Nat), bin Ev .eql 27 (.s (.sl (some p) n)) (.s (.sl none 0)) = some (bv false) := fun p n => by kernel_rfl
  have e28 : bin Ev .eql 27 (.s (.sl none 0)) (.s (.sl none 0)) = some (bv true) := by kernel_rfl
  rw [eq_slices_Clone_impl_Row_impl_Row]
  obtain ⟨bs, w1, w2, w3⟩ := w
  have fin : ∀ (hc : cellsS 4 (h.new 4 []) (.s y) = some (rws rs).flatten) (hy : lenS (.s y) = some (rws rs).length), ∃ y' h', ((appS 4 (h.new 4 []) (sv h.n 0 0) (.s y)).bind fun p105 => some (p105.1, p105.2)) = some (V.s y', h') ∧ Up h h' ∧ OwnF 1 y' (.fs (rws rs)) h.n h'.n h' := by
    intro hc hy
    obtain ⟨v1, h1, e1, k1, n1, g1⟩ := app_fl (z := 4) (h := h.new 4 []) (y := .s y) (more := rws rs) FlS.nil rws_row hc hy (by omega) (by simpa using hl)
    rw [List.nil_append] at k1
    have hv := k1.v
    subst hv
    rw [e1, ob]
    exact ⟨_, h1, rfl, ⟨by rw [n1]; simp; omega, fun b hb => by rw [g1 b (by simp; omega) (by omega)]; exact new_g' (by omega)⟩, k1.own (by omega) (by simp) rws_sc⟩
  rcases w1 with ⟨⟨h1, h2⟩ | ⟨h1, h2⟩, h3⟩ | ⟨b, z, cs, rows, bss, h1, h2, h3, h4, h5, h6, h7, h8⟩
  · rw [← h2] at h1; exact h1.elim
  · injection h2 with h2
    subst h1
    rw [e28]
    simp only [ob, gV1_s, gB_b, vcase_b]
    rw [if_pos trivial]
    refine ⟨_, h, rfl, Up.refl h, [], ?_, by simp, by simp⟩
    rw [h2]; exact Rep.nil
  · injection h2 with h2
    subst h1
    rw [e27]
    simp only [ob, gV1_s, gB_b, vcase_b]
    rw [if_neg (by simp)]
    refine fin ?_ (by rw [h2]; rfl)
    have hbn : b ≠ h.n := by omega
    by_cases hne : rows = []
    · subst hne
      rw [h2]
      simp only [cellsS, List.length_nil, Nat.zero_mul]
      rw [if_pos ⟨by simp; omega, by simp⟩]
      simp
    · subst h2
      obtain ⟨rfl, _⟩ := h8.of_sc fun s hs' => by
        obtain ⟨r, h8, h9⟩ := List.mem_flatten.1 hs'
        exact rws_sc r h8 s h9
      have hz : z = 4 := by
        obtain ⟨r, rows', hh⟩ := List.exists_cons_of_ne_nil hne
        have a1 := h7 r (by rw [hh]; simp)
        have a2 := rws_row r (by rw [hh]; simp)
        rw [← a1, a2]
      subst hz
      exact FlS.cells (b := b) ⟨rfl, by simp; omega, by rw [new_g' hbn]; exact h6, rws_row⟩
theorem own_read {h0 : H} {v1 : V} {all : List ChgD} {lo hi m : Nat} (w : OwnV v1 (.fs (chs all)) lo hi h0) (hm : hi ≤ m) : ∀ (i : Nat) (c : ChgD) (hh : H), all[i]? = some c → m ≤ hh.n → (∀ b, b < m → hh.g b = h0.g b) → ∀ k : V → Option LOut, (idxK 10 v1 (iv .i64 (i : Int)) fun v => ldK kC tC hh v k) = k (.agg c.cs) := by
  intro i c hh hc hn hk k
  obtain ⟨y, rfl, bs, w1, w2, w3⟩ := w
  have hil : i < all.length := (List.getElem?_eq_some_iff.1 hc).1
  rcases w1 with ⟨⟨h1, h2⟩ | ⟨h1, h2⟩, h3⟩ | ⟨b, z, cs, rows, bss, h1, h2, h3, h4, h5, h6, h7, h8⟩
  · rw [← h2] at h1; exact h1.elim
  · injection h2 with h2
    have := congrArg List.length h2
    simp at this; subst this; simp at hil
  · injection h2 with h2
    subst h2
    obtain ⟨rfl, _⟩ := h8.of_sc fun s hs' => by
      obtain ⟨r, h8, h9⟩ := List.mem_flatten.1 hs'
      exact chs_sc r h8 s h9
    have hz : z = 10 := by
      have a1 := h7 c.cs (List.mem_of_getElem? (chs_get hc))
      rw [← a1]; rfl
    subst hz
    have hb := w3 b (by rw [h3]; simp)
    subst h1
    rw [chs_len, show V.s (.sl (some (b, 0)) all.length) = sv b 0 all.length from rfl, idxK_sv hil]
    have hg : hh.g b = .rw 10 (chs all).flatten := by rw [hk b (by omega)]; exact h6
    have hcl : hh.cells b = (chs all).flatten := by unfold H.cells; rw [if_pos (by omega), hg]; rfl
    have hfl := flat_len (rows := chs all) h7
    rw [chs_len] at hfl
    refine ldK_agg rfl ?_
    simp only [loadN]
    rw [if_pos ⟨by omega, by rw [hcl, hfl]; have := Nat.mul_le_mul_right 10 (show i + 1 ≤ all.length from hil); rw [Nat.succ_mul] at this; exact this⟩, hcl]
    congr 1
    refine List.ext_getElem? fun j => ?_
    by_cases hj : j < 10
    · rw [List.getElem?_take_of_lt hj, List.getElem?_drop, flat_get h7 (chs_get hc) hj]
    · rw [List.getElem?_eq_none (by simp; omega), List.getElem?_eq_none (by simp; omega)]
theorem OwnV.len {v : V} {rows : List (List S)} {lo hi t : Nat} {h : H} (w : OwnV v (.fs rows) lo hi h) : lenV (.sl t) v = some (iv .i64 (rows.length : Int)) := by
  obtain ⟨y, rfl, w⟩ := w; exact w.len
theorem r_ApplyChanges {h : H} {v0 v1 : V} {rs : List RowD} {all : List ChgD} {lo0 hi0 lo1 hi1 : Nat} (w0 : Sep (OwnV v0 (.fs (rws rs)) lo0 hi0) lo0 hi0 h) (w1 : Sep (OwnV v1 (.fs (chs all)) lo1 hi1) lo1 hi1 h)
    (hs : ∀ r ∈ rs, r.text.size ≤ maxLen) (hok : ∀ c ∈ all, c.ok) (hl : rs.length ≤ 2000000) (hl2 : all.length ≤ 2000000) :
    ∃ y h', call Ev Fn.impl_ApplyChanges [v0, v1] h = some (.agg [.int .i64 (apF rs all).1, y], h') ∧ Up h h' ∧ OwnC 5 [.int .i64 (apF rs all).1, y] [.int .i64 (apF rs all).1, .fs (rws (apF rs all).2)] h.n h'.n h' := by
  have u0 : Up h (h.new 0 [.int .i64 0, .sl none 0]) := up_new
  have w0' := (w0.up u0).now
  rw [eq_impl_ApplyChanges, frzVs_cons w0'.frz frzVs_nil, ob, norm_nil, pc (p_RowsFault hs (by unfold maxLen; omega)) rfl]
  simp only [gV1_s, gI_i, vcase_b, bne_iff_ne, ne_eq]
  unfold apF
  by_cases h0 : rowsF rs = 0
  case neg =>
    rw [if_pos h0, if_neg h0, st2_new, loadN_2 (by simp) (by exact g_st), Vm.ob]
    exact ⟨_, _, rfl, up_st, bad_own⟩
  rw [if_neg (by simp [h0]), if_pos h0]
  obtain ⟨y0, rfl, wv0⟩ := w0'
  obtain ⟨y, h1, e1, u1, o1⟩ := clone_raw wv0 (by unfold lim; omega)
  rw [e1, ob]
  have hle : (w1.now).len (t := 47) = (w1.now).len (t := 47) := rfl
  rw [(w1.now).len (t := 47)]
  simp only [ob, gV1_s, gI_i, chs_len]
  obtain ⟨u2, o2⟩ := own_tidy (l := [.s y]) u1 o1 (Nat.le_refl _) (by simp)
  have ai : ApI h h.n y rs (tidy (h.new 0 [.int .i64 0, .sl none 0]) [.s y] h1) := by
    refine ⟨by have := u2.n; simp at this; omega, by rw [u2.g h.n (by simp)]; exact new_g _ _ _, fun b hb => by rw [u2.g b (by simp; omega)]; exact new_g' (by omega), ?_⟩
    exact o2.weak (by simp) (Nat.le_refl _)
  obtain ⟨a, b⟩ := lp_apply (all := all) (v1 := v1) (h0 := h) (m := h.n) hok (by omega) (own_read w1.now w1.top) all 0 rs y _ rfl (ris_rows h0) (by omega) ai
  rw [show iv .i64 0 = iv .i64 ((0 : Nat) : Int) from rfl, apL_S]
  by_cases hz : (apS rs all).1 = 0
  case neg =>
    obtain ⟨h2, e2, n2, k2⟩ := b hz
    rw [e2, ob, lcase_ret, if_neg hz]
    exact ⟨_, h2, rfl, ⟨by omega, k2⟩, bad_own⟩
  obtain ⟨y2, h2, e2, a2⟩ := a hz
  rw [e2, ob, lcase_done, if_pos hz]
  simp only [gx0, gx1, ob]
  rw [a2.o.len]
  simp only [ob, gV1_s, gI_i, vcase_b, decide_eq_true_eq, rws_len]
  have kk : ∀ B : Blk, Up h (h2.put h.n B) := fun B => ⟨by rw [put_n]; have := a2.n; omega, fun b hb => by rw [put_g' (by omega)]; exact a2.k b hb⟩
  by_cases h60 : 60 < (apS rs all).2.length
  · rw [if_pos (by omega), if_pos h60, put_res a2.n a2.g]
    exact ⟨_, _, rfl, kk _, bad_own⟩
  · rw [if_neg (by omega), if_neg h60, cells2 a2.o.no, put_res a2.n a2.g]
    exact ⟨_, _, rfl, kk _, put_own (a2.o.lift (by omega))⟩
/-! the specification's way -/
theorem f_l6Do {rs : List RowD} {c : ChgD} (h : Ris rs) (hl : rs.length < 20000000) (n : Nat) :
    (fitR rs c = true → ∃ y h', call Ev Fn.spec_l6Do [lv (rws rs), fv c.cs 0] (D n) = some (.tup [.s y, .s (.bool true)], h') ∧ n ≤ h'.n ∧ OwnF 1 y (.fs (rws (doR rs c))) n h'.n h') ∧
    (fitR rs c = false → call Ev Fn.spec_l6Do [lv (rws rs), fv c.cs 0] (D n) = some (.tup [.s (.sl none 0), .s (.bool false)], D n)) := by
  have hat := fnd_at' (k := c.k) (rs := rs) 0 h
  have loop : ∀ (a : Int) (q : List RowD) (i : Nat) (y : S) (out : List RowD) (hh : H), rs.drop i = q → out.length ≤ i → Gr 4 n (D n) y (rws out) hh →
      ∃ y' h', Lp.spec_l6Do 0 [lv (rws rs), fv c.cs 0, iv .i64 a, .s y, iv .i64 i] hh = some (.done [fv c.cs 0, .s y'] h') ∧ Gr 4 n (D n) y' (rws (out ++ erI a i q)) h' := by
    intro a q
    induction q with
    | nil =>
      intro i y out hh hi ho w
      have := drop_nil hi
      refine ⟨y, hh, ?_, by simpa [erI] using w⟩
      rw [eq_spec_l6Do_l0, vcase_b, if_neg (by simp; omega), tidy_self]
    | cons r q ih =>
      intro i y out hh hi ho w
      obtain ⟨g1, g2, g3⟩ := drop_cons hi
      rw [eq_spec_l6Do_l0, vcase_b, if_pos (by simp; omega), vcase_b, w64 (by omega) (by omega), show (i : Int) + 1 = ((i + 1 : Nat) : Int) from by omega]
      simp only [bne_iff_ne, ne_eq]
      by_cases hia : (i : Int) = a
      · rw [if_neg (by simpa using hia), tidy_self]
        obtain ⟨y', h2, e2, w2⟩ := ih (i + 1) y out hh g2 (by omega) w
        exact ⟨y', h2, e2, by rw [erI, if_neg (by simpa using hia)]; exact w2⟩
      · rw [if_pos hia, idxF_rw g1, rowN_rw]
        simp only [ob, gx0, gx1, gI_i, gS_s, ln0, ln1, Nat.zero_add, Nat.reduceAdd, if_true]
        obtain ⟨h', e, w', hn⟩ := w.app (row := r.cs) row_sc rfl (by omega) (by rw [rws_len]; unfold lim; omega)
        rw [e, ob, grow_tidy (m := hh.n + 1) (k := (rws out).length + 1) (by omega) (by simp)]
        rw [← rws_snoc] at w'
        obtain ⟨y', h2, e2, w2⟩ := ih (i + 1) _ (out ++ [r]) h' g2 (by simp; omega) w'
        exact ⟨y', h2, e2, by rw [erI, if_pos hia]; simpa using w2⟩
  have good : ∀ w1 w2 w3 w4 w5 w6 w7 w8 w9 w10 w11 w12 w13 q0, ∃ y h', Jn.spec_l6Do_0 q0 w1 w2 w3 w4 w5 w6 w7 w8 w9 w10 w11 w12 w13 false n (rws rs) c.was c.b.tab c.b.key c.b.val c.b.text c.is c.a.tab c.a.key c.a.val c.a.text (atF c.k.tab c.k.key rs 0) = some (.tup [.s y, .s (.bool true)], h') ∧ n ≤ h'.n ∧ OwnF 1 y (.fs (rws (doR rs c))) n h'.n h' := by
    intro w1 w2 w3 w4 w5 w6 w7 w8 w9 w10 w11 w12 w13 q0
    unfold Jn.spec_l6Do_0
    rw [vcase_b, if_neg (by simp), D_n]
    obtain ⟨y1, h1, e1, g1⟩ := loop (atF c.k.tab c.k.key rs 0) rs 0 _ [] _ rfl (by simp) (Gr.new (z := 4) (h := D n) (by omega))
    rw [D_n] at e1
    rw [show iv .i64 0 = iv .i64 ((0 : Nat) : Int) from rfl, e1, ob, lcase_done]
    rw [List.nil_append, erI_fnd h] at g1
    have n1 : notNil (fv c.cs 0) = some (fv c.cs 0) := rfl
    have l5 : ∀ {R : Type} (k : V → Option R), ldK (.one (.b)) ⟨1, 1, [.bool false], false, .bool, false⟩ h1 (fv c.cs 5) k = k (.s (.bool c.is)) := fun k => by simp [ldK, ldT, load1, tyV, tyS]
    have l6 : ∀ {R : Type} (k : V → Option R), ldK (.agg [.i .i64, .i .i64, .i .i64, .s]) ⟨4, 40, [.int .i64 0, .int .i64 0, .int .i64 0, .str ⟨#[]⟩], true, .st [(0, 2), (1, 2), (2, 2), (3, 9)], true⟩ h1 (fv c.cs 6) k = k (.agg c.a.cs) := fun k => by
      have : loadN 4 h1 (fv c.cs 6) = some c.a.cs := rfl
      simp only [ldK, ldT, cond_true, this, Vm.ob]
      simp [tyV, tyL, tyS]
    simp only [gx0, gx1, ob, n1, padd, Nat.zero_add]
    rw [l5]
    simp only [gV1_s, gB_b, vcase_b]
    have hlen : (twR c.k rs ++ hiR c.k rs).length ≤ rs.length := by have := hi_len c.k rs; rw [List.length_append]; exact this
    cases hi : c.is with
    | true =>
      rw [if_pos rfl, l6]
      simp only [gVA_a, ob, gx0, gx1, gI_i, gS_s, ln0, ln1, Nat.zero_add, Nat.reduceAdd, if_true]
      have ea : frzV h1 (.agg c.a.cs) = some (.agg c.a.cs) := by simp
      rw [frzVs_cons g1.frz (frzVs_cons ea frzVs_nil), ob, norm_nil]
      obtain ⟨y2, h2, e2, n2, w2⟩ := f_l6Put (ks := twR c.k rs ++ hiR c.k rs) (r := c.a) (by unfold lim; omega) h1.n
      obtain ⟨K, e3, u3, n3, w3⟩ := pX (h := h1) (off := [.s y1, V.agg c.a.cs].all offV) rfl e2 (by obtain ⟨bs, a, _⟩ := w2; exact a.sca) n2 w2
      rw [e3]
      rw [ins_do h hi] at w3
      have h1n := g1.1
      exact ⟨y2, K, rfl, by have := u3.n; omega, w3.weak (by omega) (Nat.le_refl _)⟩
    | false =>
      rw [if_neg (by simp)]
      have o := g1.own
      rw [no_do hi] at o
      exact ⟨y1, h1, rfl, g1.1, o⟩
  have bad : ∀ w1 w2 w3 w4 w5 w6 w7 w8 w9 w10 w11 w12 w13 q0 q ww, Jn.spec_l6Do_0 q0 w1 w2 w3 w4 w5 w6 w7 w8 w9 w10 w11 w12 w13 true n (rws rs) ww c.b.tab c.b.key c.b.val c.b.text c.is c.a.tab c.a.key c.a.val c.a.text q = some (.tup [.s (.sl none 0), .s (.bool false)], D n) := by
    intro w1 w2 w3 w4 w5 w6 w7 w8 w9 w10 w11 w12 w13 q0 q ww
    unfold Jn.spec_l6Do_0
    rfl
  have key : ∀ Q : Option (V × H) → Prop, (fitR rs c = true → ∀ w1 w2 w3 w4 w5 w6 w7 w8 w9 w10 w11 w12 w13 q0, Q (Jn.spec_l6Do_0 q0 w1 w2 w3 w4 w5 w6 w7 w8 w9 w10 w11 w12 w13 false n (rws rs) c.was c.b.tab c.b.key c.b.val c.b.text c.is c.a.tab c.a.key c.a.val c.a.text (atF c.k.tab c.k.key rs 0))) →
      (fitR rs c = false → Q (some (.tup [.s (.sl none 0), .s (.bool false)], D n))) → Q (call Ev Fn.spec_l6Do [lv (rws rs), fv c.cs 0] (D n)) := by
    intro Q q1 q2
    rw [eq_spec_l6Do, pc (p_l6Key c) rfl]
    simp only [gVT_t, gA1_s, ob, gx0, gx1, gI_i, ln0, ln1, Nat.zero_add, Nat.reduceAdd, if_true]
    rw [pc (p_l6At (by unfold maxLen; omega)) rfl]
    simp only [gV1_s, gI_i, vcase_b]
    have hd : decide (atF c.k.tab c.k.key rs 0 ≥ 0) = fnd c.k rs := by
      rw [hat]
      cases fnd c.k rs
      · simp
      · simp
    rw [hd]
    have hfit : fitR rs c = ((fnd c.k rs == c.was) && (!fnd c.k rs || (match dwR c.k rs with | [] => true | r :: _ => eqRowB r c.b))) := rfl
    cases hf : fnd c.k rs with
    | false =>
      rw [hf] at hfit
      cases hw : c.was with
      | true =>
        rw [hw] at hfit
        rw [if_pos (by simp), bad]
        exact q2 (by rw [hfit]; rfl)
      | false =>
        rw [hw] at hfit
        rw [if_neg (by simp), if_neg (by simp)]
        have := q1 (by rw [hfit]; rfl)
        rw [hw] at this
        exact this _ _ _ _ _ _ _ _ _ _ _ _ _ _
    | true =>
      obtain ⟨r, t, d1, d2, d3, d4⟩ := fnd_row hf
      rw [hf, d1] at hfit
      cases hw : c.was with
      | false =>
        rw [hw] at hfit
        rw [if_pos (by simp), bad]
        exact q2 (by rw [hfit]; rfl)
      | true =>
        rw [hw] at hfit
        rw [if_neg (by simp), if_pos rfl]
        have ha : atF c.k.tab c.k.key rs 0 = (((twR c.k rs).length : Nat) : Int) := by rw [hat, hf, if_pos rfl, Nat.zero_add]
        rw [ha] at q1 ⊢
        rw [idxF_rw d4, rowN_rw]
        simp only [ob, gx0, gx1, gI_i, gS_s, ln0, ln1, Nat.zero_add, Nat.reduceAdd, if_true]
        have he : (!((r.tab == c.b.tab) && ((r.key == c.b.key) && ((r.val == c.b.val) && ((r.text.toList == c.b.text.toList) && true))))) = !eqRowB r c.b := rfl
        simp only [he]
        cases hq : eqRowB r c.b with
        | true =>
          have := q1 (by rw [hfit]; simp [hq])
          rw [hw] at this
          exact this _ _ _ _ _ _ _ _ _ _ _ _ _ _
        | false =>
          rw [Bool.not_false, bad]
          exact q2 (by rw [hfit]; simp [hq])
  refine ⟨fun hf => ?_, fun hf => ?_⟩
  · refine key (fun o => ∃ y h', o = some (.tup [.s y, .s (.bool true)], h') ∧ n ≤ h'.n ∧ OwnF 1 y (.fs (rws (doR rs c))) n h'.n h') (fun _ w1 w2 w3 w4 w5 w6 w7 w8 w9 w10 w11 w12 w13 q0 => good _ _ _ _ _ _ _ _ _ _ _ _ _ _) (fun hh => by rw [hf] at hh; cases hh)
  · refine key (fun o => o = some (.tup [.s (.sl none 0), .s (.bool false)], D n)) (fun hh => by rw [hf] at hh; cases hh) (fun _ => rfl)

theorem lp_spec {all : List ChgD} (hok : ∀ c ∈ all, c.ok) (hlen : all.length ≤ 4000000) :
    ∀ (q : List ChgD) (i : Nat) (rs : List RowD) (y : S) (h : H), all.drop i = q → Ris rs → rs.length + q.length ≤ 10000000 → ApI (D 0) 0 y rs h →
      ((apS rs q).1 = 0 → ∃ y' h', Lp.spec_ApplyChanges 0 [lv (chs all), pv 0 0, .s y, iv .i64 i] h = some (.done [pv 0 0, .s y'] h') ∧ ApI (D 0) 0 y' (apS rs q).2 h') ∧
      ((apS rs q).1 ≠ 0 → ∃ h', Lp.spec_ApplyChanges 0 [lv (chs all), pv 0 0, .s y, iv .i64 i] h = some (.ret (.agg [.int .i64 (apS rs q).1, .sl none 0]) h')) := by
  intro q
  induction q with
  | nil =>
    intro i rs y h hi hr hl w
    have := drop_nil hi
    rw [apS_nil]
    refine ⟨fun _ => ⟨y, h, ?_, w⟩, fun hh => absurd rfl hh⟩
    rw [eq_spec_ApplyChanges_l0, vcase_b, if_neg (by simp; omega), tidy_self]
  | cons c q ih =>
    intro i rs y h hi hr hl w
    obtain ⟨g1, g2, g3⟩ := drop_cons hi
    simp only [List.length_cons] at hl
    have hc := hok c (List.mem_of_getElem? g1)
    have ey := w.o.frz (by omega)
    have ef : frzV h (fv c.cs 0) = some (fv c.cs 0) := by simp
    rw [eq_spec_ApplyChanges_l0, vcase_b, if_pos (by simp; omega), idxF_ch g1, normV_ch, pc (p_l6Change c hc) rfl]
    simp only [gV1_s, gI_i, vcase_b, bne_iff_ne, ne_eq]
    by_cases hf : chgF c = 0
    case neg =>
      rw [apS_f hf, if_pos hf, put_res w.n w.g]
      exact ⟨fun hh => absurd hh hf, fun _ => ⟨_, rfl⟩⟩
    rw [if_neg (by simpa using hf), idxF_ch g1, frzVs_cons ey (frzVs_cons ef frzVs_nil), ob, show normVs [0, 10] [lv (rws rs), fv c.cs 0] = [lv (rws rs), fv c.cs 0] from rfl, w64 (by omega) (by omega), show (i : Int) + 1 = ((i + 1 : Nat) : Int) from by omega]
    obtain ⟨d1, d2⟩ := f_l6Do (c := c) hr (by omega) h.n
    cases ht : fitR rs c with
    | false =>
      obtain ⟨K, e2, u2, n2, w2⟩ := pX (h := h) (off := [.s y, fv c.cs 0].all offV) (d := 1) (y := .sl none 0) (f := .fs []) rfl (d2 ht) rfl (by simp) ⟨[], Rep.nil, by simp, by simp⟩
      rw [e2, apS_8 hf (by rw [ht]; simp)]
      simp only [gVT_t, gA1_s, ob, gx0, gx1, gB_b, ln0, ln1, Nat.zero_add, Nat.reduceAdd, if_true, vcase_b]
      rw [if_pos (by simp), put_res (by have := u2.n; have := w.n; omega) (by rw [u2.g 0 w.n]; exact w.g)]
      exact ⟨fun hh => absurd hh (by simp), fun _ => ⟨_, rfl⟩⟩
    | true =>
      obtain ⟨y1, h1, e1, n1, o1⟩ := d1 ht
      obtain ⟨K, e2, u2, n2, w2⟩ := pX (h := h) (off := [.s y, fv c.cs 0].all offV) rfl e1 (by obtain ⟨bs, a, _⟩ := o1; have := a.sca; simp [this]) n1 o1
      rw [e2, apS_ok hf ht]
      simp only [gVT_t, gA1_s, ob, gx0, gx1, gB_b, ln0, ln1, Nat.zero_add, Nat.reduceAdd, if_true, vcase_b]
      rw [if_neg (by simp)]
      obtain ⟨u3, w3⟩ := own_tidy (l := [lv (chs all), pv 0 0, .s y1, iv .i64 ((i + 1 : Nat) : Int)]) u2 w2 (Nat.le_refl _) (by simp)
      have wn := w.n
      exact ih (i + 1) (doR rs c) y1 _ g2 (ris_do hr) (by have := do_len rs c; omega) (w.next u3 w3 (by omega))
theorem p_spec_ApplyChanges {rs : List RowD} {all : List ChgD} (hs : ∀ r ∈ rs, r.text.size ≤ maxLen) (hok : ∀ c ∈ all, c.ok) (hl : rs.length ≤ 2000000) (hl2 : all.length ≤ 2000000) :
    pureV (call Ev) Fn.spec_ApplyChanges [lv (rws rs), lv (chs all)] = some (.agg [.int .i64 (apF rs all).1, .fs (rws (apF rs all).2)]) := by
  rw [pu_spec_ApplyChanges, pc (p_l6Rows hs (by unfold maxLen; omega)) rfl]
  simp only [gV1_s, gI_i, vcase_b, bne_iff_ne, ne_eq]
  unfold apF
  by_cases h0 : rowsF rs = 0
  case neg => rw [if_pos h0, if_neg h0]; rfl
  rw [if_neg (by simp [h0]), if_pos h0]
  obtain ⟨v1, h1, e1, k1, n1, g1⟩ := app_fl (z := 4) (h := ((D 0).new 0 [.int .i64 0, .sl none 0]).new 4 []) (y := lv (rws rs)) (more := rws rs) FlS.nil rws_row (cellsS_lv rws_row) rfl (by omega) (by simp; unfold lim; omega)
  rw [List.nil_append] at k1
  have hv := k1.v
  subst hv
  rw [show (((D 0).new 0 [.int .i64 0, .sl none 0]) : H).n = 1 from rfl] at e1
  rw [e1, ob]
  have ai : ApI (D 0) 0 (.sl (some ((((D 0).new 0 [.int .i64 0, .sl none 0]).new 4 []).n, 0)) (rws rs).length) rs h1 := by
    refine ⟨by rw [n1]; simp, by rw [g1 0 (by simp) (by simp), new_g' (by simp)]; exact new_g (D 0) _ _, fun b hb => by omega, ?_⟩
    exact k1.own (by omega) (by simp) rws_sc
  obtain ⟨a, b⟩ := lp_spec (all := all) hok (by omega) all 0 rs _ h1 rfl (ris_rows h0) (by omega) ai
  rw [show iv .i64 0 = iv .i64 ((0 : Nat) : Int) from rfl, apL_S]
  by_cases hz : (apS rs all).1 = 0
  case neg =>
    obtain ⟨h2, e2⟩ := b hz
    rw [e2, ob, lcase_ret, if_neg hz]
    simp; rfl
  obtain ⟨y2, h2, e2, a2⟩ := a hz
  rw [e2, ob, lcase_done, if_pos hz]
  simp only [gx0, gx1, ob]
  rw [a2.o.len]
  simp only [ob, gV1_s, gI_i, vcase_b, decide_eq_true_eq, rws_len]
  by_cases h60 : 60 < (apS rs all).2.length
  · rw [if_pos (by omega), if_pos h60, put_res a2.n a2.g]
    exact (bad_own (d := 1) (m := 0) (hi := 0)).frz
  · rw [if_neg (by omega), if_neg h60, cells2 a2.o.no, put_res a2.n a2.g]
    exact (put_own a2.o).frz
end Vm
/-
  The law of ApplyChanges returns true.
-/
namespace Vm
open Go
theorem run_FnExactApplyChanges (xs : List V) (hx : ArgsRp PR [T.S_laws_Row, T.S_laws_Change] xs) : ∃ h', call Ev Fn.laws_FnExactApplyChanges xs (D 0) = some (bv true, h') := by
  match xs, hx with
  | [x0, x1], ⟨h0, h1, _⟩ =>
    obtain ⟨l0, rfl, hr0, hl0⟩ := arg_Rows h0
    have hs0 : ∀ r ∈ l0, r.text.size ≤ maxLen := fun r hr => (hr0 r hr).s
    obtain ⟨l1, rfl, hr1, hl1⟩ := arg_Changes h1
    refine law_of ?_
    rw [pu_laws_FnExactApplyChanges]
    rw [pc (p_szRowS (by omega) (by omega) hl0 hs0) rfl]
    simp only [gV1_s, gI_i, vcase_b, decide_eq_true_eq]
    by_cases hq0 : (if (l0.length : Int) ≤ 1048576 then szRows l0 (1048576 - l0.length) else -1) < 0
    · rw [if_pos hq0]
    have hm0 : (l0.length : Int) ≤ 1048576 := szI hq0
    rw [if_neg hq0]
    rw [if_pos hm0] at hq0
    try rw [if_pos hm0]
    have hq0b := szRows_le l0 (1048576 - l0.length) (by omega)
    have hlim0 : l0.length ≤ lim := by unfold lim; omega
    rw [pc (p_szChangeS (by omega) (by omega) hl1 hr1) rfl]
    simp only [gV1_s, gI_i, vcase_b, decide_eq_true_eq]
    by_cases hq1 : (if (l1.length : Int) ≤ (szRows l0 (1048576 - l0.length)) then szChgs l1 ((szRows l0 (1048576 - l0.length)) - l1.length) else -1) < 0
    · rw [if_pos hq1]
    have hm1 : (l1.length : Int) ≤ (szRows l0 (1048576 - l0.length)) := szI hq1
    rw [if_neg hq1]
    rw [if_pos hm1] at hq1
    try rw [if_pos hm1]
    have hq1b := szChgs_le l1 ((szRows l0 (1048576 - l0.length)) - l1.length) (by omega)
    have hlim1 : l1.length ≤ lim := by unfold lim; omega
    rw [p_toRowS hlim0]
    simp only [ob, gV1_s, gF_f]
    rw [p_toChangeS hlim1]
    simp only [ob, gV1_s, gF_f]
    have hps := p_spec_ApplyChanges hs0 hr1 (by omega) (by omega)
    have hfr : ∀ {h : H} {v0 v1 : V} {a b c d : Nat}, Sep (OwnV v0 (.fs (rws l0)) a b) a b h → Sep (OwnV v1 (.fs (chs l1)) c d) c d h → ∃ y h1, call Ev Fn.impl_ApplyChanges [v0, v1] h = some (.agg [.int .i64 (apF l0 l1).1, y], h1) ∧ Up h h1 ∧ OwnC 5 [.int .i64 (apF l0 l1).1, y] [.int .i64 (apF l0 l1).1, .fs (rws (apF l0 l1).2)] h.n h1.n h1 := fun w0 w1 => r_ApplyChanges w0 w1 hs0 hr1 (by omega) (by omega)
    have hsl := apF_len l0 l1
    generalize (apF l0 l1).1 = c at hps hfr
    generalize (apF l0 l1).2 = m at hsl hps hfr
    have hmm : m.length ≤ maxLen := by unfold maxLen; omega
    rw [hps]
    simp only [ob, gVA_a, gx0, gx1, gI_i, gF_f, ln0, ln1, Nat.zero_add, Nat.reduceAdd, if_true]
    generalize hA : ((D 0).new 0 [.int .i64 0, .sl none 0]).put 0 (.rw 0 [.int .i64 c, .fs (rws m)]) = A
    have an : A.n = 1 := by rw [← hA]; simp
    have wA : Sep (At 0 (.rw 0 [.int .i64 c, .fs (rws m)])) 0 1 A := Sep.at (by omega) (by rw [← hA]; exact put_g _ _ _)
    obtain ⟨v0, k0, e0, q0⟩ := f_toRowSv hlim0 A.n
    obtain ⟨B0, eB0, uB0, nB0, w0⟩ := OwnV.pv rfl e0 q0
    rw [eB0]
    clear eB0 e0 q0
    rw [an] at nB0 w0
    replace wA := wA.up uB0
    clear uB0
    obtain ⟨v1, k1, e1, q1⟩ := f_toChangeSv hlim1 B0.n
    obtain ⟨B1, eB1, uB1, nB1, w1⟩ := OwnV.pv rfl e1 q1
    rw [eB1]
    clear eB1 e1 q1
    replace wA := wA.up uB1
    replace w0 := w0.up uB1
    clear uB1
    obtain ⟨y, k2, e2, u2, q2⟩ := hfr w0 w1
    rw [e2, ob]
    dsimp only
    obtain ⟨uC, q3⟩ := own_tidyC (l := [.agg [.int .i64 c, y]]) u2 q2 (Nat.le_refl _) (by simp)
    have wg := OwnC.sep q3 (Nat.le_refl _)
    have nC := uC.n
    generalize hC : tidy B1 [.agg [.int .i64 c, y]] k2 = C at uC wg nC ⊢
    clear q3 q2 u2 e2
    replace wA := wA.up uC
    replace w0 := w0.up uC
    replace w1 := w1.up uC
    clear uC
    simp only [gVA_a, gx0, gx1, ob, gI_i, ln0, ln1, Nat.zero_add, Nat.reduceAdd, if_true]
    rw [st2_new]
    have uG : Up C ((C.new 0 [.int .i64 0, .sl none 0]).put C.n (.rw 0 [.int .i64 c, y])) := up_st
    have wG : Sep (At C.n (.rw 0 [.int .i64 c, y])) C.n (C.n + 1) ((C.new 0 [.int .i64 0, .sl none 0]).put C.n (.rw 0 [.int .i64 c, y])) := Sep.at (by rw [n_st]; omega) g_st
    have nG : ((C.new 0 [.int .i64 0, .sl none 0]).put C.n (.rw 0 [.int .i64 c, y])).n = C.n + 1 := n_st
    replace wA := wA.up uG
    replace w0 := w0.up uG
    replace w1 := w1.up uG
    replace wg := wg.up uG
    generalize (C.new 0 [.int .i64 0, .sl none 0]).put C.n (.rw 0 [.int .i64 c, y]) = HG at wA w0 w1 wg wG nG ⊢
    clear uG
    rw [loadN_2 wG.now.1 wG.now.2]
    simp only [gx0, gx1, ob, gI_i, ln0, ln1, Nat.zero_add, Nat.reduceAdd, if_true]
    rw [loadN_2 wA.now.1 wA.now.2]
    simp only [gx0, gx1, ob, gI_i, ln0, ln1, Nat.zero_add, Nat.reduceAdd, if_true]
    rw [frzVs_cons wg.now.frz (frzVs_cons frzV_agf frzVs_nil), ob, norm_nil, pc (p_eqWR hmm) rfl]
    simp only [gV1_s, gB_b, vcase_b, decide_true, Bool.and_self, Bool.not_true, Bool.false_eq_true, if_false]
    rw [frzVs_cons w0.now.frz (frzVs_cons frzV_lv frzVs_nil), ob, norm_nil, pc (p_eqRowS hl0) rfl]
    simp only [gV1_s, gB_b, vcase_b, decide_true, Bool.and_self, Bool.not_true, Bool.false_eq_true, if_false]
    rw [frzVs_cons w1.now.frz (frzVs_cons frzV_lv frzVs_nil), ob, norm_nil, pc (p_eqChangeS hl1) rfl]
    simp only [gV1_s, gB_b, vcase_b, decide_true, Bool.and_self, Bool.not_true, Bool.false_eq_true, if_false]
    rw [show (1 : Int) = ((1 : Nat) : Int) from rfl]
    obtain ⟨p0, e0, m0, b0⟩ := OwnV.markW (k := 1) w0 (by omega)
    rw [e0, ob]
    simp only [gV1_s, gI_i]
    replace wA := wA.but b0 (by omega)
    replace w1 := w1.but b0 (by omega)
    replace wg := wg.but b0 (by omega)
    replace wG := wG.but b0 (by omega)
    replace w0 := m0
    clear m0 e0
    obtain ⟨p1, e1, m1, b1⟩ := OwnV.markG (k := 1 + 4 * l0.length) w1 (by omega)
    rw [e1, ob]
    simp only [gV1_s, gI_i]
    replace wA := wA.but b1 (by omega)
    replace w0 := w0.but b1 (by omega)
    replace wg := wg.but b1 (by omega)
    replace wG := wG.but b1 (by omega)
    replace w1 := m1
    clear m1 e1
    rw [if_neg (by simp; omega)]
    unfold Jn.laws_FnExactApplyChanges_0
    dsimp only
    simp only [hC]
    generalize tidy HG [iv .i64 ((1 + 4 * l0.length : Nat) : Int)] p0 = F0 at wA w0 w1 wg wG b0 b1 ⊢
    generalize tidy F0 [iv .i64 ((1 + 4 * l0.length + 10 * l1.length : Nat) : Int)] p1 = F1 at wA w0 w1 wg wG b0 b1 ⊢
    clear b0 b1
    rw [loadN_2 wG.now.1 wG.now.2]
    simp only [gx0, gx1, ob, gI_i, ln0, ln1, Nat.zero_add, Nat.reduceAdd, if_true]
    rw [loadN_2 wA.now.1 wA.now.2]
    simp only [gx0, gx1, ob, gI_i, ln0, ln1, Nat.zero_add, Nat.reduceAdd, if_true]
    rw [frzVs_cons wg.now.frz (frzVs_cons frzV_agf frzVs_nil), ob, norm_nil, pc (p_eqWR hmm) rfl]
    simp only [gV1_s, gB_b, vcase_b, decide_true, Bool.and_self, Bool.not_true, Bool.false_eq_true, if_false]
    obtain ⟨pg, eg, mg, bg⟩ := r_markWR (c := c) (k := 1) wg (by omega)
    rw [show (1 : Int) = ((1 : Nat) : Int) from rfl, eg, ob]
    simp only [gV1_s, gI_i]
    replace wA := wA.but bg (by omega)
    replace w0 := w0.but bg (by omega)
    replace w1 := w1.but bg (by omega)
    replace wG := wG.but bg (by omega)
    replace wg := mg
    clear mg eg
    generalize tidy F1 [iv .i64 ((1 + 4 * m.length : Nat) : Int)] pg = G at wA wg wG bg ⊢
    rw [loadN_2 wG.now.1 wG.now.2]
    simp only [gx0, gx1, ob, gI_i, ln0, ln1, Nat.zero_add, Nat.reduceAdd, if_true]
    rw [frzVs_cons wg.now.frz (frzVs_cons frzV_iv frzVs_nil), ob, norm_nil, pc (p_heldWR (by omega)) rfl]
    simp only [gV1_s, gI_i, vcase_b]
    rw [if_neg (by simp; omega), if_neg (by simp)]
    obtain ⟨v0b, k0b, e0b, q0b⟩ := f_toRowSv hlim0 G.n
    obtain ⟨G0, eB0b, uB0b, nB0b, w0b⟩ := OwnV.pv rfl e0b q0b
    rw [eB0b]
    replace wA := wA.up uB0b
    replace wg := wg.up uB0b
    replace wG := wG.up uB0b
    obtain ⟨v1b, k1b, e1b, q1b⟩ := f_toChangeSv hlim1 G0.n
    obtain ⟨G1, eB1b, uB1b, nB1b, w1b⟩ := OwnV.pv rfl e1b q1b
    rw [eB1b]
    replace wA := wA.up uB1b
    replace wg := wg.up uB1b
    replace wG := wG.up uB1b
    replace w0b := w0b.up uB1b
    obtain ⟨y', k5, e5, u5, q5⟩ := hfr w0b w1b
    rw [e5, ob]
    dsimp only
    obtain ⟨uD, q6⟩ := own_tidyC (l := [.agg [.int .i64 c, y']]) u5 q5 (Nat.le_refl _) (by simp)
    have wg5 := OwnC.sep q6 (Nat.le_refl _)
    generalize tidy G1 [.agg [.int .i64 c, y']] k5 = G9 at uD wg5 ⊢
    clear q6 q5 u5 e5
    replace wA := wA.up uD
    replace wg := wg.up uD
    replace wG := wG.up uD
    replace w0b := w0b.up uD
    replace w1b := w1b.up uD
    simp only [ob, gVA_a, gx0, gx1, gI_i, gF_f, ln0, ln1, Nat.zero_add, Nat.reduceAdd, if_true]
    rw [st2_new]
    have uK : Up G9 ((G9.new 0 [.int .i64 0, .sl none 0]).put G9.n (.rw 0 [.int .i64 c, y'])) := up_st
    have wK : Sep (At G9.n (.rw 0 [.int .i64 c, y'])) G9.n (G9.n + 1) ((G9.new 0 [.int .i64 0, .sl none 0]).put G9.n (.rw 0 [.int .i64 c, y'])) := Sep.at (by rw [n_st]; omega) g_st
    replace wA := wA.up uK
    replace wg := wg.up uK
    replace wG := wG.up uK
    replace w0b := w0b.up uK
    replace w1b := w1b.up uK
    replace wg5 := wg5.up uK
    generalize (G9.new 0 [.int .i64 0, .sl none 0]).put G9.n (.rw 0 [.int .i64 c, y']) = K at wA wg wG w0b w1b wg5 wK ⊢
    rw [loadN_2 wK.now.1 wK.now.2]
    simp only [gx0, gx1, ob, gI_i, ln0, ln1, Nat.zero_add, Nat.reduceAdd, if_true]
    rw [loadN_2 wA.now.1 wA.now.2]
    simp only [gx0, gx1, ob, gI_i, ln0, ln1, Nat.zero_add, Nat.reduceAdd, if_true]
    rw [frzVs_cons wg5.now.frz (frzVs_cons frzV_agf frzVs_nil), ob, norm_nil, pc (p_eqWR hmm) rfl]
    simp only [gV1_s, gB_b, vcase_b, decide_true, Bool.and_self, Bool.not_true, Bool.false_eq_true, if_false]
    rw [loadN_2 wG.now.1 wG.now.2]
    simp only [gx0, gx1, ob, gI_i, ln0, ln1, Nat.zero_add, Nat.reduceAdd, if_true]
    rw [frzVs_cons wg.now.frz (frzVs_cons frzV_iv frzVs_nil), ob, norm_nil, pc (p_heldWR (by omega)) rfl]
    simp only [gV1_s, gI_i, vcase_b]
    rw [if_neg (by simp; omega), if_neg (by simp)]
end Vm
