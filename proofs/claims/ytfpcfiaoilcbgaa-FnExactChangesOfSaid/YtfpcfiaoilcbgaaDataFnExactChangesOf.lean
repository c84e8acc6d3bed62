/-
  What both ways of the law come to, and that the law returns true.
-/
import Derived.Test.YtfpcfiaoilcbgaaTyp
import Derived.Test.YtfpcfiaoilcbgaaEqs
import Derived.Test.YtfpcfiaoilcbgaaDl
import Derived.Test.YtfpcfiaoilcbgaaDataFnExactChangesOf1
set_option linter.unusedVariables false
set_option maxRecDepth 100000
set_option linter.unusedSimpArgs false
set_option linter.unusedSectionVars false
/-
  Rising rows: keys put in one by one are the keys of the merge; the changes are those of the merge. (No program in sight.)
-/
namespace Vm
open Go
theorem bef_iff {a b : RowD} : befB a b = true ↔ a.tab < b.tab ∨ (a.tab = b.tab ∧ a.key < b.key) := by simp [befB]
theorem same_iff {a b : RowD} : sameK a b = true ↔ a.tab = b.tab ∧ a.key = b.key := by simp [sameK]
theorem bef_irr {a : RowD} : befB a a ≠ true := by rw [Ne, bef_iff]; omega
theorem bef_trans {a b c : RowD} (h : befB a b = true) (h2 : befB b c = true) : befB a c = true := by rw [bef_iff] at *; omega
theorem bef_tot {a b : RowD} (h : befB a b ≠ true) (h2 : befB b a ≠ true) : sameK a b = true := by rw [Ne, bef_iff] at *; rw [same_iff]; omega
theorem bef_ns {a b : RowD} (h : befB a b = true) : sameK a b = false := by
  cases hs : sameK a b with
  | false => rfl
  | true => rw [same_iff] at hs; rw [bef_iff] at h; omega
theorem bef_sn {a b : RowD} (h : befB a b = true) : sameK b a = false := by
  cases hs : sameK b a with
  | false => rfl
  | true => rw [same_iff] at hs; rw [bef_iff] at h; omega
abbrev Ris (l : List RowD) : Prop := l.Pairwise fun a b => befB a b = true
theorem ris_of : ∀ {rs : List RowD} {p : Option RowD}, rowsFrom p rs = 0 → Ris rs ∧ ∀ q, p = some q → ∀ r ∈ rs, befB q r = true
  | [], p, _ => ⟨List.Pairwise.nil, by simp⟩
  | r :: rs, p, h => by
    have h0 : rowF r = 0 := rowsFrom_all h r (by simp)
    have h2 : rowsFrom (some r) rs = 0 := by
      cases p with
      | none => rw [rowsFrom_0 h0] at h; exact h
      | some q =>
        cases hb : befB q r with
        | false => rw [rowsFrom_1 h0 hb] at h; omega
        | true => rw [rowsFrom_2 h0 hb] at h; exact h
    obtain ⟨i1, i2⟩ := ris_of h2
    refine ⟨List.pairwise_cons.2 ⟨i2 r rfl, i1⟩, fun q hq x hx => ?_⟩
    subst hq
    have hb : befB q r = true := by
      cases hb : befB q r with
      | false => rw [rowsFrom_1 h0 hb] at h; omega
      | true => rfl
    rcases List.mem_cons.1 hx with rfl | hx
    · exact hb
    · exact bef_trans hb (i2 r rfl x hx)
theorem ris_rows {rs : List RowD} (h : rowsF rs = 0) : Ris rs := by
  unfold rowsF at h
  split at h
  · omega
  · exact (ris_of h).1
theorem ris_ext : ∀ {l m : List RowD}, Ris l → Ris m → (∀ x, x ∈ l ↔ x ∈ m) → l = m
  | [], [], _, _, _ => rfl
  | [], b :: m, _, _, h => by have := (h b).2 (by simp); simp at this
  | a :: l, [], _, _, h => by have := (h a).1 (by simp); simp at this
  | a :: l, b :: m, h1, h2, h => by
    obtain ⟨h1, h1'⟩ := List.pairwise_cons.1 h1
    obtain ⟨h2, h2'⟩ := List.pairwise_cons.1 h2
    have hab : a = b := by
      rcases List.mem_cons.1 ((h a).1 (by simp)) with e | e
      · exact e
      rcases List.mem_cons.1 ((h b).2 (by simp)) with e' | e'
      · exact e'.symm
      exact absurd (bef_trans (h1 b e') (h2 a e)) bef_irr
    subst hab
    congr 1
    refine ris_ext h1' h2' fun x => ⟨fun hx => ?_, fun hx => ?_⟩
    · rcases List.mem_cons.1 ((h x).1 (by simp [hx])) with rfl | e
      · exact absurd (h1 x hx) bef_irr
      · exact e
    · rcases List.mem_cons.1 ((h x).2 (by simp [hx])) with rfl | e
      · exact absurd (h2 x hx) bef_irr
      · exact e
/-! put in -/
def insR (r : RowD) (ks : List RowD) : List RowD := ks.takeWhile (befB · r) ++ r :: ks.dropWhile (befB · r)
theorem mem_ins {r x : RowD} {ks : List RowD} : x ∈ insR r ks ↔ x = r ∨ x ∈ ks := by
  unfold insR
  rw [List.mem_append, List.mem_cons]
  have : x ∈ ks ↔ x ∈ ks.takeWhile (befB · r) ∨ x ∈ ks.dropWhile (befB · r) := by rw [← List.mem_append, List.takeWhile_append_dropWhile]
  rw [this]
  constructor
  · rintro (h | h | h) <;> simp [h]
  · rintro (h | h | h) <;> simp [h]
theorem tw_all {p : RowD → Bool} : ∀ {l : List RowD}, ∀ x ∈ l.takeWhile p, p x = true
  | a :: l, x, h => by
    rw [List.takeWhile_cons] at h
    split at h
    · rename_i hp
      rcases List.mem_cons.1 h with rfl | h
      · exact hp
      · exact tw_all x h
    · simp at h
theorem dw_gt {r : RowD} : ∀ {l : List RowD}, Ris l → (∀ x ∈ l, sameK x r = false) → ∀ x ∈ l.dropWhile (befB · r), befB r x = true
  | a :: l, hr, hs, x, h => by
    obtain ⟨h1, h2⟩ := List.pairwise_cons.1 hr
    rw [List.dropWhile_cons] at h
    split at h
    · exact dw_gt h2 (fun y hy => hs y (by simp [hy])) x h
    · rename_i hp
      have ha : befB r a = true := by
        by_cases hb : befB r a = true
        · exact hb
        · have := bef_tot hp hb
          rw [hs a (by simp)] at this; cases this
      rcases List.mem_cons.1 h with rfl | h
      · exact ha
      · exact bef_trans ha (h1 x h)
theorem ris_ins {r : RowD} {ks : List RowD} (hr : Ris ks) (hs : ∀ x ∈ ks, sameK x r = false) : Ris (insR r ks) := by
  unfold insR
  have hsub := List.takeWhile_append_dropWhile (p := (befB · r)) (l := ks)
  rw [← hsub] at hr
  obtain ⟨p1, p2, p3⟩ := List.pairwise_append.1 hr
  rw [hsub] at hr
  have hd := dw_gt hr hs
  refine List.pairwise_append.2 ⟨p1, List.pairwise_cons.2 ⟨hd, p2⟩, fun a ha b hb => ?_⟩
  rcases List.mem_cons.1 hb with rfl | hb
  · exact tw_all a ha
  · exact p3 a ha b hb
/-! rows found -/
def getF (x : RowD) : List RowD → Option RowD
  | [] => none
  | r :: rs => if sameK r x then some r else getF x rs
theorem getF_none {x : RowD} : ∀ {l : List RowD}, (∀ r ∈ l, sameK r x = false) → getF x l = none
  | [], _ => rfl
  | r :: l, h => by rw [getF, h r (by simp)]; exact getF_none fun q hq => h q (by simp [hq])
theorem getF_some {x : RowD} : ∀ {l : List RowD}, getF x l = none → ∀ r ∈ l, sameK r x = false
  | r :: l, h, q, hq => by
    rw [getF] at h
    split at h
    · cases h
    · rename_i hs
      rcases List.mem_cons.1 hq with rfl | hq
      · simpa using hs
      · exact getF_some h q hq
theorem at_get {x : RowD} : ∀ (rs : List RowD) (i : Nat), (atF x.tab x.key rs i = -1 ∧ getF x rs = none) ∨ ∃ j r, rs[j]? = some r ∧ atF x.tab x.key rs i = ((i + j : Nat) : Int) ∧ getF x rs = some r
  | [], i => .inl ⟨rfl, rfl⟩
  | r :: rs, i => by
    unfold atF getF
    by_cases h : r.tab = x.tab ∧ r.key = x.key
    · rw [if_pos h, if_pos (same_iff.2 h)]; exact .inr ⟨0, r, rfl, rfl, rfl⟩
    · rw [if_neg h, if_neg (fun hh => h (same_iff.1 hh))]
      rcases at_get rs (i + 1) with h1 | ⟨j, q, h1, h2, h3⟩
      · exact .inl h1
      · exact .inr ⟨j + 1, q, by simpa using h1, by rw [h2]; omega, h3⟩
/-! the keys -/
def keyStep (bs ks : List RowD) (r : RowD) : List RowD := if (getF r bs).isNone then insR r ks else ks
def keysF (bs ns : List RowD) : List RowD := ns.foldl (keyStep bs) bs
def mrgK : List RowD → List RowD → List RowD
  | [], [] => []
  | [], n :: ns => n :: mrgK [] ns
  | b :: bs, [] => b :: mrgK bs []
  | b :: bs, n :: ns =>
    if befB b n then b :: mrgK bs (n :: ns)
    else if befB n b then n :: mrgK (b :: bs) ns
    else b :: mrgK bs ns
termination_by bs ns => bs.length + ns.length
theorem ins_len {r : RowD} {ks : List RowD} : (insR r ks).length = ks.length + 1 := by
  unfold insR
  have := congrArg List.length (List.takeWhile_append_dropWhile (p := (befB · r)) (l := ks))
  simp only [List.length_append, List.length_cons] at *; omega
theorem keys_len (bs : List RowD) : ∀ (ns ks : List RowD), (ns.foldl (keyStep bs) ks).length ≤ ks.length + ns.length
  | [], ks => by simp
  | n :: ns, ks => by
    rw [List.foldl_cons]
    have := keys_len bs ns (keyStep bs ks n)
    have h2 : (keyStep bs ks n).length ≤ ks.length + 1 := by unfold keyStep; split <;> simp [ins_len]
    simp only [List.length_cons]; omega
theorem keys_ok {bs : List RowD} (hb : Ris bs) : ∀ (ns pre ks : List RowD), Ris (pre ++ ns) → Ris ks → (∀ x, x ∈ ks ↔ x ∈ bs ∨ (x ∈ pre ∧ getF x bs = none)) →
    Ris (ns.foldl (keyStep bs) ks) ∧ ∀ x, x ∈ ns.foldl (keyStep bs) ks ↔ x ∈ bs ∨ (x ∈ pre ++ ns ∧ getF x bs = none)
  | [], pre, ks, hn, hk, hm => ⟨hk, by simpa using hm⟩
  | n :: ns, pre, ks, hn, hk, hm => by
    rw [List.foldl_cons]
    have hpre : ∀ x ∈ pre, befB x n = true := fun x hx => (List.pairwise_append.1 hn).2.2 x hx n (by simp)
    have key : Ris (keyStep bs ks n) ∧ ∀ x, x ∈ keyStep bs ks n ↔ x ∈ bs ∨ (x ∈ pre ++ [n] ∧ getF x bs = none) := by
      unfold keyStep
      cases hg : getF n bs with
      | none =>
        rw [if_pos (show (none : Option RowD).isNone = true from rfl)]
        refine ⟨ris_ins hk fun x hx => ?_, fun x => ?_⟩
        · rcases (hm x).1 hx with h | h
          · exact getF_some hg x h
          · exact bef_ns (hpre x h.1)
        · rw [mem_ins, hm]
          constructor
          · rintro (rfl | h | h)
            · exact .inr ⟨by simp, hg⟩
            · exact .inl h
            · exact .inr ⟨by simp [h.1], h.2⟩
          · rintro (h | h)
            · exact .inr (.inl h)
            · rcases List.mem_append.1 h.1 with h1 | h1
              · exact .inr (.inr ⟨h1, h.2⟩)
              · exact .inl (by simpa using h1)
      | some q =>
        rw [if_neg (by simp)]
        refine ⟨hk, fun x => ?_⟩
        rw [hm]
        constructor
        · rintro (h | h)
          · exact .inl h
          · exact .inr ⟨by simp [h.1], h.2⟩
        · rintro (h | h)
          · exact .inl h
          · rcases List.mem_append.1 h.1 with h1 | h1
            · exact .inr ⟨h1, h.2⟩
            · rw [show x = n from by simpa using h1, hg] at h; cases h.2
    have := keys_ok hb ns (pre ++ [n]) (keyStep bs ks n) (by simpa using hn) key.1 key.2
    simpa using this
theorem mrg_mem : ∀ {bs ns : List RowD}, ∀ x ∈ mrgK bs ns, x ∈ bs ∨ x ∈ ns := by
  intro bs ns
  induction bs, ns using mrgK.induct with
  | case1 => simp [mrgK]
  | case2 n ns ih => intro x hx; rw [mrgK] at hx; rcases List.mem_cons.1 hx with rfl | hx
                     · simp
                     · rcases ih x hx with h | h <;> simp [h]
  | case3 b bs ih => intro x hx; rw [mrgK] at hx; rcases List.mem_cons.1 hx with rfl | hx
                     · simp
                     · rcases ih x hx with h | h <;> simp [h]
  | case4 b bs n ns h1 ih => intro x hx; rw [mrgK, if_pos h1] at hx; rcases List.mem_cons.1 hx with rfl | hx
                             · simp
                             · rcases ih x hx with h | h
                               · simp [h]
                               · exact .inr h
  | case5 b bs n ns h1 h2 ih => intro x hx; rw [mrgK, if_neg h1, if_pos h2] at hx; rcases List.mem_cons.1 hx with rfl | hx
                                · simp
                                · rcases ih x hx with h | h
                                  · exact .inl h
                                  · simp [h]
  | case6 b bs n ns h1 h2 ih => intro x hx; rw [mrgK, if_neg h1, if_neg h2] at hx; rcases List.mem_cons.1 hx with rfl | hx
                                · simp
                                · rcases ih x hx with h | h <;> simp [h]
theorem mrg_ok : ∀ {bs ns : List RowD}, Ris bs → Ris ns → Ris (mrgK bs ns) ∧ ∀ x, x ∈ mrgK bs ns ↔ x ∈ bs ∨ (x ∈ ns ∧ getF x bs = none) := by
  intro bs ns
  induction bs, ns using mrgK.induct with
  | case1 => intro _ _; simp [mrgK]
  | case2 n ns ih =>
    intro hb hn
    obtain ⟨n1, n2⟩ := List.pairwise_cons.1 hn
    obtain ⟨i1, i2⟩ := ih hb n2
    rw [mrgK]
    refine ⟨List.pairwise_cons.2 ⟨fun x hx => ?_, i1⟩, fun x => ?_⟩
    · rcases mrg_mem x hx with h | h
      · simp at h
      · exact n1 x h
    · rw [List.mem_cons, i2]; simp [getF]
  | case3 b bs ih =>
    intro hb hn
    obtain ⟨b1, b2⟩ := List.pairwise_cons.1 hb
    obtain ⟨i1, i2⟩ := ih b2 hn
    rw [mrgK]
    refine ⟨List.pairwise_cons.2 ⟨fun x hx => ?_, i1⟩, fun x => ?_⟩
    · rcases mrg_mem x hx with h | h
      · exact b1 x h
      · simp at h
    · rw [List.mem_cons, i2]; simp
  | case4 b bs n ns h1 ih =>
    intro hb hn
    obtain ⟨b1, b2⟩ := List.pairwise_cons.1 hb
    obtain ⟨n1, n2⟩ := List.pairwise_cons.1 hn
    obtain ⟨i1, i2⟩ := ih b2 hn
    have hbn : ∀ x ∈ n :: ns, befB b x = true := fun x hx => by
      rcases List.mem_cons.1 hx with rfl | hx
      · exact h1
      · exact bef_trans h1 (n1 x hx)
    rw [mrgK, if_pos h1]
    refine ⟨List.pairwise_cons.2 ⟨fun x hx => ?_, i1⟩, fun x => ?_⟩
    · rcases mrg_mem x hx with h | h
      · exact b1 x h
      · exact hbn x h
    · rw [List.mem_cons, i2, show (x ∈ b :: bs) = (x = b ∨ x ∈ bs) from propext List.mem_cons, or_assoc]
      refine or_congr Iff.rfl (or_congr Iff.rfl ⟨fun h => ⟨h.1, ?_⟩, fun h => ⟨h.1, ?_⟩⟩)
      · rw [getF, if_neg (by rw [bef_ns (hbn x h.1)]; simp)]; exact h.2
      · have := h.2; rw [getF, if_neg (by rw [bef_ns (hbn x h.1)]; simp)] at this; exact this
  | case5 b bs n ns h1 h2 ih =>
    intro hb hn
    obtain ⟨b1, b2⟩ := List.pairwise_cons.1 hb
    obtain ⟨n1, n2⟩ := List.pairwise_cons.1 hn
    obtain ⟨i1, i2⟩ := ih hb n2
    have hnb : ∀ x ∈ b :: bs, befB n x = true := fun x hx => by
      rcases List.mem_cons.1 hx with rfl | hx
      · exact h2
      · exact bef_trans h2 (b1 x hx)
    rw [mrgK, if_neg h1, if_pos h2]
    refine ⟨List.pairwise_cons.2 ⟨fun x hx => ?_, i1⟩, fun x => ?_⟩
    · rcases mrg_mem x hx with h | h
      · exact hnb x h
      · exact n1 x h
    · rw [List.mem_cons, i2]
      have hg : getF n (b :: bs) = none := getF_none fun r hr => bef_sn (hnb r hr)
      constructor
      · rintro (rfl | h | h)
        · exact .inr ⟨by simp, hg⟩
        · exact .inl h
        · exact .inr ⟨by simp [h.1], h.2⟩
      · rintro (h | h)
        · exact .inr (.inl h)
        · rcases List.mem_cons.1 h.1 with h3 | h3
          · exact .inl h3
          · exact .inr (.inr ⟨h3, h.2⟩)
  | case6 b bs n ns h1 h2 ih =>
    intro hb hn
    obtain ⟨b1, b2⟩ := List.pairwise_cons.1 hb
    obtain ⟨n1, n2⟩ := List.pairwise_cons.1 hn
    obtain ⟨i1, i2⟩ := ih b2 n2
    have hs := bef_tot h1 h2
    have hbn : ∀ x ∈ ns, befB b x = true := fun x hx => by
      have := n1 x hx
      rw [bef_iff] at *; rw [same_iff] at hs; omega
    rw [mrgK, if_neg h1, if_neg h2]
    refine ⟨List.pairwise_cons.2 ⟨fun x hx => ?_, i1⟩, fun x => ?_⟩
    · rcases mrg_mem x hx with h | h
      · exact b1 x h
      · exact hbn x h
    · rw [List.mem_cons, i2, show (x ∈ b :: bs) = (x = b ∨ x ∈ bs) from propext List.mem_cons, or_assoc]
      refine or_congr Iff.rfl (or_congr Iff.rfl ⟨fun h => ⟨by simp [h.1], ?_⟩, fun h => ?_⟩)
      · rw [getF, if_neg (by rw [bef_ns (hbn x h.1)]; simp)]; exact h.2
      · have hx : x ∈ ns := by
          rcases List.mem_cons.1 h.1 with rfl | h3
          · have := h.2; rw [getF, if_pos hs] at this; cases this
          · exact h3
        have := h.2; rw [getF, if_neg (by rw [bef_ns (hbn x hx)]; simp)] at this; exact ⟨hx, this⟩
theorem keys_mrg {bs ns : List RowD} (hb : Ris bs) (hn : Ris ns) : keysF bs ns = mrgK bs ns := by
  obtain ⟨k1, k2⟩ := keys_ok hb ns [] bs (by simpa using hn) hb (by simp)
  obtain ⟨m1, m2⟩ := mrg_ok hb hn
  exact ris_ext k1 m1 fun x => by rw [m2, show (x ∈ keysF bs ns) = _ from propext (k2 x)]; simp
/-! the changes -/
def ckF (bs ns : List RowD) (x : RowD) : ChgD := ⟨(getF x bs).isSome, (getF x bs).getD zR, (getF x ns).isSome, (getF x ns).getD zR⟩
theorem flat_congr {α β : Type} {f g : α → List β} : ∀ {l : List α}, (∀ x ∈ l, f x = g x) → l.flatMap f = l.flatMap g
  | [], _ => rfl
  | a :: l, h => by rw [List.flatMap_cons, List.flatMap_cons, h a (by simp), flat_congr fun x hx => h x (by simp [hx])]
theorem getF_skip {x r : RowD} {l : List RowD} (h : sameK r x = false) : getF x (r :: l) = getF x l := by rw [getF, if_neg (by simp [h])]
theorem getF_hit {x r : RowD} {l : List RowD} (h : sameK r x = true) : getF x (r :: l) = some r := by rw [getF, if_pos h]
theorem same_refl {a : RowD} : sameK a a = true := by rw [same_iff]; exact ⟨rfl, rfl⟩
theorem mrg_btw : ∀ {bs ns : List RowD}, Ris bs → Ris ns → (mrgK bs ns).flatMap (fun x => one (ckF bs ns x)) = btw bs ns := by
  intro bs ns
  induction bs, ns using mrgK.induct with
  | case1 => intro _ _; simp [mrgK, btw]
  | case2 n ns ih =>
    intro hb hn
    obtain ⟨n1, n2⟩ := List.pairwise_cons.1 hn
    rw [mrgK, btw, List.flatMap_cons, ← ih hb n2]
    congr 1
    · unfold ckF; rw [getF_hit same_refl]; rfl
    · refine flat_congr fun x hx => ?_
      have : befB n x = true := by
        rcases mrg_mem x hx with h | h
        · simp at h
        · exact n1 x h
      unfold ckF; rw [getF_skip (bef_ns this)]
  | case3 b bs ih =>
    intro hb hn
    obtain ⟨b1, b2⟩ := List.pairwise_cons.1 hb
    rw [mrgK, btw, List.flatMap_cons, ← ih b2 hn]
    congr 1
    · unfold ckF; rw [getF_hit same_refl]; rfl
    · refine flat_congr fun x hx => ?_
      have : befB b x = true := by
        rcases mrg_mem x hx with h | h
        · exact b1 x h
        · simp at h
      unfold ckF; rw [getF_skip (bef_ns this)]
  | case4 b bs n ns h1 ih =>
    intro hb hn
    obtain ⟨b1, b2⟩ := List.pairwise_cons.1 hb
    obtain ⟨n1, n2⟩ := List.pairwise_cons.1 hn
    have hbn : ∀ x ∈ n :: ns, befB b x = true := fun x hx => by
      rcases List.mem_cons.1 hx with rfl | hx
      · exact h1
      · exact bef_trans h1 (n1 x hx)
    rw [mrgK, btw, if_pos h1, if_pos h1, List.flatMap_cons, ← ih b2 hn]
    congr 1
    · unfold ckF; rw [getF_hit same_refl, getF_none fun r hr => bef_sn (hbn r hr)]; rfl
    · refine flat_congr fun x hx => ?_
      have : befB b x = true := by
        rcases mrg_mem x hx with h | h
        · exact b1 x h
        · exact hbn x h
      unfold ckF; rw [getF_skip (r := b) (bef_ns this)]
  | case5 b bs n ns h1 h2 ih =>
    intro hb hn
    obtain ⟨b1, b2⟩ := List.pairwise_cons.1 hb
    obtain ⟨n1, n2⟩ := List.pairwise_cons.1 hn
    have hnb : ∀ x ∈ b :: bs, befB n x = true := fun x hx => by
      rcases List.mem_cons.1 hx with rfl | hx
      · exact h2
      · exact bef_trans h2 (b1 x hx)
    rw [mrgK, btw, if_neg h1, if_pos h2, if_neg h1, if_pos h2, List.flatMap_cons, ← ih hb n2]
    congr 1
    · unfold ckF; rw [getF_hit (l := ns) same_refl, getF_none fun r hr => bef_sn (hnb r hr)]; rfl
    · refine flat_congr fun x hx => ?_
      have : befB n x = true := by
        rcases mrg_mem x hx with h | h
        · exact hnb x h
        · exact n1 x h
      unfold ckF; rw [getF_skip (r := n) (bef_ns this)]
  | case6 b bs n ns h1 h2 ih =>
    intro hb hn
    obtain ⟨b1, b2⟩ := List.pairwise_cons.1 hb
    obtain ⟨n1, n2⟩ := List.pairwise_cons.1 hn
    have hs := bef_tot h1 h2
    have hs' : sameK n b = true := by rw [same_iff] at *; omega
    have hbn : ∀ x ∈ ns, befB b x = true := fun x hx => by
      have := n1 x hx
      rw [bef_iff] at *; rw [same_iff] at hs; omega
    rw [mrgK, btw, if_neg h1, if_neg h2, if_neg h1, if_neg h2, List.flatMap_cons, ← ih b2 n2]
    congr 1
    · unfold ckF; rw [getF_hit same_refl, getF_hit (r := n) hs']; rfl
    · refine flat_congr fun x hx => ?_
      have hx : befB b x = true := by
        rcases mrg_mem x hx with h | h
        · exact b1 x h
        · exact hbn x h
      have hx2 : sameK n x = false := by
        have := bef_ns hx
        cases hq : sameK n x with
        | false => rfl
        | true => rw [same_iff] at *; rw [bef_iff] at hx; omega
      unfold ckF; rw [getF_skip (r := b) (bef_ns hx), getF_skip (r := n) hx2]
theorem keys_btw {bs ns : List RowD} (hb : Ris bs) (hn : Ris ns) : (keysF bs ns).flatMap (fun x => one (ckF bs ns x)) = btw bs ns := by
  rw [keys_mrg hb hn, mrg_btw hb hn]
end Vm
/-
  The changes between rising rows: the specification's way.
-/
namespace Vm
open Go
theorem frz_pv {h : H} {b : Nat} {cs : List S} (hb : b < h.n) (hg : h.g b = .rw 0 cs) (hc : ∀ s ∈ cs, Cl s) : frzV h (pv b 0) = some (fv cs 0) := by
  have h7 : mapO (frzS h 7) cs = some cs := mapO_cl hc
  simp only [frzV, frzS, hb, if_true, hg, h7, Option.bind_some]
/-- a slice of flat rows that fills its block -/
structure FlS (z : Nat) (h : H) (v : V) (rows : List (List S)) (b : Nat) : Prop where
  v : v = sv b 0 rows.length
  n : b < h.n
  g : h.g b = .rw z rows.flatten
  z : ∀ r ∈ rows, r.length = z
theorem FlS.cells {z b : Nat} {h : H} {v : V} {rows : List (List S)} (w : FlS z h v rows b) : cellsS z h v = some rows.flatten := by
  have hc : h.cells b = rows.flatten := by unfold H.cells; rw [if_pos w.n, w.g]; rfl
  have hl := flat_len w.z
  rw [w.v]
  simp only [cellsS, hc]
  rw [if_pos ⟨w.n, by omega⟩, List.drop_zero, List.take_of_length_le (by omega)]
theorem cellsS_lv {z : Nat} {h : H} {rows : List (List S)} (hz : ∀ r ∈ rows, r.length = z) : cellsS z h (lv rows) = some rows.flatten := by
  simp only [cellsS, if_pos hz]
theorem cellsS_row {z : Nat} {h : H} {row : List S} (hz : row.length = z) : cellsS z (h.new z row) (sv h.n 0 1) = some row := by
  have c2 : (h.new z row).cells h.n = row := by unfold H.cells; rw [if_pos (by simp), new_g]; rfl
  simp only [cellsS, c2]
  rw [if_pos ⟨by simp, by omega⟩, List.drop_zero, List.take_of_length_le (by omega)]
theorem app_fl {z b : Nat} {h : H} {v y : V} {rows more : List (List S)} (w : FlS z h v rows b) (hm : ∀ r ∈ more, r.length = z) (hc : cellsS z h y = some more.flatten) (hy : lenS y = some more.length) (hz0 : 0 < z) (hl : rows.length + more.length ≤ lim) :
    ∃ v' h', appS z h v y = some (v', h') ∧ FlS z h' v' (rows ++ more) h.n ∧ h'.n = h.n + 1 ∧ ∀ c, c < h.n → c ≠ b → h'.g c = h.g c := by
  have h1 := w.cells
  obtain ⟨rfl, w2, w3, w4⟩ := w
  refine ⟨sv h.n 0 (rows.length + more.length), (h.put b .dead).new z (rows.flatten ++ more.flatten), ?_, ⟨by rw [List.length_append], by simp, ?_, ?_⟩, by simp, fun c hc hcb => ?_⟩
  · simp only [appS, h1, hc, hy, Option.bind_some]
    rw [if_pos ⟨w2, hl, hz0⟩, w3]
    simp
  · rw [List.flatten_append]; exact new_g (h.put b .dead) _ _
  · intro r hr
    rcases List.mem_append.1 hr with hr | hr
    · exact w4 r hr
    · exact hm r hr
  · rw [new_g' (by simp; omega), put_g' hcb]
theorem FlS.nil {z : Nat} {h : H} : FlS z (h.new z []) (sv h.n 0 0) [] h.n := ⟨rfl, by simp, new_g _ _ _, by simp⟩
theorem FlS.keep {z b : Nat} {h h' : H} {v : V} {rows : List (List S)} (w : FlS z h v rows b) (hn : h.n ≤ h'.n) (hg : h'.g b = h.g b) : FlS z h' v rows b := ⟨w.v, by have := w.n; omega, by rw [hg]; exact w.g, w.z⟩
theorem FlS.own {z b n : Nat} {h : H} {y : S} {rows : List (List S)} (w : FlS z h (.s y) rows b) (hz0 : 0 < z) (hn : n ≤ b) (hs : ∀ r ∈ rows, ∀ s ∈ r, Sc s) : OwnF 1 y (.fs rows) n h.n h := by
  have hv := w.v
  injection hv with hv
  subst hv
  refine ⟨[b], ?_, by simp, by simpa using ⟨hn, w.n⟩⟩
  exact Rep.sl (bss := []) w.n hz0 w.g w.z (RepL.sc fun s hs' => by
    obtain ⟨r, h1, h2⟩ := List.mem_flatten.1 hs'
    exact hs r h1 s h2)
theorem FlS.frz {b z : Nat} {h : H} {v : V} {rows : List (List S)} (w : FlS z h v rows b) (hz0 : 0 < z) (hs : ∀ r ∈ rows, ∀ s ∈ r, Sc s) : frzV h v = some (lv rows) := by
  rw [w.v]; exact frzV_sv w.n hz0 w.g w.z fun r hr s h => (hs r hr s h).cl
/-- out of what is one's own -/
theorem OwnF.fl {z lo hi : Nat} {h : H} {y : S} {rows : List (List S)} (w : OwnF 1 y (.fs rows) lo hi h) (hz : ∀ r ∈ rows, r.length = z) (hs : ∀ r ∈ rows, ∀ s ∈ r, Sc s) (hne : rows ≠ []) : ∃ b, FlS z h (.s y) rows b ∧ lo ≤ b ∧ b < hi := by
  obtain ⟨bs, w1, w2, w3⟩ := w
  rcases w1 with ⟨⟨h1, h2⟩ | ⟨h1, h2⟩, h3⟩ | ⟨b, z', cs, rows', bss, h1, h0, h2, h3, h4, h5, h6, h7⟩
  · rw [← h2] at h1; exact h1.elim
  · injection h2 with h2; exact absurd h2 hne
  · injection h0 with h0
    subst h0
    obtain ⟨rfl, rfl⟩ := h7.of_sc fun s hs' => by
      obtain ⟨r, h8, h9⟩ := List.mem_flatten.1 hs'
      exact hs r h8 s h9
    obtain ⟨r, rows', rfl⟩ := List.exists_cons_of_ne_nil hne
    have : z' = z := by rw [← h6 r (by simp), hz r (by simp)]
    subst this
    exact ⟨b, ⟨by rw [h1], h3, h5, h6⟩, w3 b (by rw [h2]; simp)⟩
theorem flat_get {z : Nat} : ∀ {rows : List (List S)} {i j : Nat} {r : List S}, (∀ r ∈ rows, r.length = z) → rows[i]? = some r → j < z → rows.flatten[i * z + j]? = r[j]?
  | [], i, j, r, _, h, _ => by simp at h
  | q :: rows, 0, j, r, hz, h, hj => by
    simp only [List.getElem?_cons_zero, Option.some.injEq] at h
    subst h
    rw [List.flatten_cons, Nat.zero_mul, Nat.zero_add, List.getElem?_append_left (by rw [hz q (by simp)]; exact hj)]
  | q :: rows, i + 1, j, r, hz, h, hj => by
    rw [List.getElem?_cons_succ] at h
    have hq := hz q (by simp)
    rw [List.flatten_cons, List.getElem?_append_right (by rw [hq, Nat.succ_mul]; omega), hq, show (i + 1) * z + j - z = i * z + j from by rw [Nat.succ_mul]; omega]
    exact flat_get (fun r hr => hz r (by simp [hr])) h hj
theorem FlS.ld {b i j : Nat} {h : H} {v : V} {rs : List RowD} {r : RowD} {x : S} (w : FlS 4 h v (rws rs) b) (hr : rs[i]? = some r) (hj : j < 4) (hx : r.cs[j]? = some x) : load1 h (pv b (i * 4 + j)) = some x := by
  refine load1_cs (cs := (rws rs).flatten) (by unfold H.cells; rw [if_pos w.n, w.g]; rfl) ?_
  rw [flat_get w.z (rws_get hr) hj, hx]
/-! put in -/
theorem p_before_pv {h : H} {b : Nat} {k r : RowD} (hb : b < h.n) (hg : h.g b = .rw 0 r.cs) : (frzVs h [fv k.cs 0, pv b 0]).bind (fun l203 => some (normVs [4, 4] l203)) = some [fv k.cs 0, fv r.cs 0] := by
  have e1 : frzV h (fv k.cs 0) = some (fv k.cs 0) := by simp
  rw [frzVs_cons e1 (frzVs_cons (frz_pv hb hg row_cl) frzVs_nil), Vm.ob]; rfl
theorem slF_rws {rs : List RowD} {k : Nat} {R : Type} {f : List (List S) → Option R} (hk : k ≤ rs.length) : slF 4 (rws rs) none (some (iv .i64 (k : Int))) f = f (rws (rs.take k)) ∧ slF 4 (rws rs) (some (iv .i64 (k : Int))) none f = f (rws (rs.drop k)) := by
  have hb : bnd (rws rs).length (iv .i64 (k : Int)) = some k := by rw [rws_len]; exact bnd_of hk
  unfold slF
  refine ⟨?_, ?_⟩
  · simp only [Option.bind_some, hb]
    rw [if_pos rws_row, List.drop_zero]; simp [rws, List.map_take]
  · simp only [Option.bind_some, hb]
    rw [if_pos rws_row, List.take_length]; simp [rws, List.map_drop]
theorem tw_pos {k r : RowD} {ks : List RowD} (h : befB k r = true) : (k :: ks).takeWhile (befB · r) = k :: ks.takeWhile (befB · r) ∧ (k :: ks).dropWhile (befB · r) = ks.dropWhile (befB · r) := by
  rw [List.takeWhile_cons, List.dropWhile_cons]; simp [h]
theorem tw_neg {k r : RowD} {ks : List RowD} (h : befB k r = false) : (k :: ks).takeWhile (befB · r) = [] ∧ (k :: ks).dropWhile (befB · r) = k :: ks := by
  rw [List.takeWhile_cons, List.dropWhile_cons]; simp [h]
theorem tw_dw {r : RowD} : ∀ (ks : List RowD), ks.take (ks.takeWhile (befB · r)).length = ks.takeWhile (befB · r) ∧ ks.drop (ks.takeWhile (befB · r)).length = ks.dropWhile (befB · r)
  | [] => ⟨rfl, rfl⟩
  | k :: ks => by
    obtain ⟨i1, i2⟩ := tw_dw (r := r) ks
    cases hb : befB k r with
    | true => rw [(tw_pos hb).1, (tw_pos hb).2]; exact ⟨by rw [List.length_cons, List.take_succ_cons, i1], by rw [List.length_cons, List.drop_succ_cons, i2]⟩
    | false => rw [(tw_neg hb).1, (tw_neg hb).2]; exact ⟨rfl, rfl⟩
theorem f_l6Put {ks : List RowD} {r : RowD} (hl : ks.length + 1 ≤ lim) (n : Nat) : ∃ y h', call Ev Fn.spec_l6Put [lv (rws ks), .agg r.cs] (D n) = some (.s y, h') ∧ n ≤ h'.n ∧ OwnF 1 y (.fs (rws (insR r ks))) n h'.n h' := by
  have hl' := hl
  unfold lim at hl'
  have loop : ∀ (q : List RowD) (i : Nat), ks.drop i = q → Lp.spec_l6Put 0 [lv (rws ks), pv n 0, iv .i64 i] ((D n).new 0 r.cs) = some (.done [lv (rws ks), pv n 0, iv .i64 ((i + (q.takeWhile (befB · r)).length : Nat) : Int)] ((D n).new 0 r.cs)) := by
    intro q
    induction q with
    | nil =>
      intro i hi
      have := drop_nil hi
      rw [eq_spec_l6Put_l0, vcase_b, if_neg (by simp; omega), tidy_self]; simp
    | cons k q ih =>
      intro i hi
      obtain ⟨g1, g2, g3⟩ := drop_cons hi
      rw [eq_spec_l6Put_l0, vcase_b, if_pos (by simp; omega), idxF_rw g1]
      have e := p_before_pv (h := (D n).new 0 r.cs) (b := n) (k := k) (r := r) (by simp) (by exact new_g (D n) _ _)
      obtain ⟨l, e1, e2⟩ : ∃ l, frzVs ((D n).new 0 r.cs) [fv k.cs 0, pv n 0] = some l ∧ normVs [4, 4] l = [fv k.cs 0, fv r.cs 0] := by
        cases hf : frzVs ((D n).new 0 r.cs) [fv k.cs 0, pv n 0] with
        | none => rw [hf] at e; cases e
        | some l => rw [hf, Vm.ob] at e; exact ⟨l, rfl, by injection e⟩
      rw [e1, ob, e2, pc (p_l1Before k r) rfl]
      simp only [gV1_s, gB_b, vcase_b, tidy_self]
      rw [w64 (by omega) (by omega), show (i : Int) + 1 = ((i + 1 : Nat) : Int) from by omega]
      cases hb : befB k r with
      | true =>
        rw [if_pos rfl, ih (i + 1) g2, (tw_pos hb).1, List.length_cons, Nat.add_assoc i 1, Nat.add_comm 1]
      | false => rw [if_neg (by simp), (tw_neg hb).1]; simp
  have htl : (ks.takeWhile (befB · r)).length ≤ ks.length := by
    have := congrArg List.length (List.takeWhile_append_dropWhile (p := (befB · r)) (l := ks))
    rw [List.length_append] at this; omega
  have hdl : (ks.takeWhile (befB · r)).length + (ks.dropWhile (befB · r)).length = ks.length := by
    have := congrArg List.length (List.takeWhile_append_dropWhile (p := (befB · r)) (l := ks))
    rw [List.length_append] at this; omega
  obtain ⟨t1, t2⟩ := tw_dw (r := r) ks
  rw [eq_spec_l6Put, D_n, show iv .i64 0 = iv .i64 ((0 : Nat) : Int) from rfl, loop ks 0 rfl, ob, lcase_done]
  simp only [gx0, gx1, ob, gV1_s, gF_f, gI_i, Nat.zero_add]
  rw [(slF_rws htl).1, t1]
  obtain ⟨v1, h1, e1, w1, n1, k1⟩ := app_fl (z := 4) (h := ((D n).new 0 r.cs).new 4 []) (y := lv (rws (ks.takeWhile (befB · r)))) (more := rws (ks.takeWhile (befB · r))) FlS.nil rws_row (cellsS_lv rws_row) rfl (by omega) (by simp; unfold lim; omega)
  rw [e1, ob]
  have gr : h1.g n = .rw 0 r.cs := by rw [k1 n (by simp; omega) (by simp), new_g' (by simp)]; exact new_g (D n) _ _
  have cr : h1.cells n = r.cs := by unfold H.cells; rw [if_pos (by rw [n1]; simp; omega), gr]; rfl
  rw [ldK_agg rfl (loadN_cs (by rw [n1]; simp; omega) cr rfl)]
  simp only [gVA_a, ob, gx0, gx1, gI_i, gS_s, ln0, ln1, Nat.zero_add, Nat.reduceAdd, if_true]
  rw [(slF_rws htl).2, t2, hchk_of (HKeep.refl h1).new.ext]
  have w1' : FlS 4 (h1.new 4 r.cs) v1 ([] ++ rws (ks.takeWhile (befB · r))) _ := w1.keep (by simp) (new_g' (by have := w1.n; omega))
  obtain ⟨v2, h2, e2, w2, n2, k2⟩ := app_fl (z := 4) (h := h1.new 4 r.cs) (y := sv h1.n 0 1) (more := [r.cs]) w1' (by simp) (by simpa using cellsS_row (h := h1) (z := 4) (row := r.cs) rfl) rfl (by omega) (by simp; unfold lim; omega)
  rw [e2, ob]
  obtain ⟨v3, h3, e3, w3, n3, k3⟩ := app_fl (z := 4) (h := h2) (y := lv (rws (ks.dropWhile (befB · r)))) (more := rws (ks.dropWhile (befB · r))) w2 rws_row (cellsS_lv rws_row) rfl (by omega) (by simp; unfold lim; omega)
  rw [e3, ob]
  have hr : ([] ++ rws (ks.takeWhile (befB · r)) ++ [r.cs] ++ rws (ks.dropWhile (befB · r))) = rws (insR r ks) := by simp [insR, rws]
  rw [hr] at w3
  have hv := w3.v
  subst hv
  refine ⟨_, h3, rfl, by rw [n3, n2]; simp; rw [n1]; simp; omega, w3.own (by omega) ?_ rws_sc⟩
  rw [n2]; simp; rw [n1]; simp; omega
/-! the keys -/
theorem keyStep_len {bs ks : List RowD} {r : RowD} : (keyStep bs ks r).length ≤ ks.length + 1 := by unfold keyStep; split <;> simp [ins_len]
theorem lp_keys {bs ns : List RowD} (hl : bs.length ≤ maxLen) (hln : ns.length ≤ 1000000) : ∀ (q : List RowD) (i : Nat) (ks : List RowD) (v : V) (b : Nat) (h : H), ns.drop i = q → FlS 4 h v (rws ks) b → ks.length + q.length ≤ 10000000 →
    ∃ v' b' h', Lp.spec_l6Changes 0 [lv (rws bs), lv (rws ns), v, iv .i64 i] h = some (.done [lv (rws bs), lv (rws ns), v'] h') ∧ FlS 4 h' v' (rws (q.foldl (keyStep bs) ks)) b' := by
  intro q
  induction q with
  | nil =>
    intro i ks v b h hi w hk
    have := drop_nil hi
    refine ⟨v, b, h, ?_, w⟩
    rw [eq_spec_l6Changes_l0, vcase_b, if_neg (by simp; omega), tidy_self]
  | cons r q ih =>
    intro i ks v b h hi w hk
    simp only [List.length_cons] at hk
    obtain ⟨g1, g2, g3⟩ := drop_cons hi
    rw [eq_spec_l6Changes_l0, vcase_b, if_pos (by simp; omega), idxF_rw g1]
    simp only [ob, gx0, gI_i]
    rw [idxF_rw g1]
    simp only [ob, gx0, gx1, gI_i]
    rw [pc (p_l6At hl) rfl]
    simp only [gV1_s, gI_i, hchk_self, vcase_b, decide_eq_true_eq]
    rw [w64 (by omega) (by omega), show (i : Int) + 1 = ((i + 1 : Nat) : Int) from by omega]
    rw [List.foldl_cons]
    rcases at_get (x := r) bs 0 with ⟨h1, h2⟩ | ⟨j, x, h1, h2, h3⟩
    · have e : keyStep bs ks r = insR r ks := by unfold keyStep; rw [h2]; rfl
      rw [h1, if_pos (by omega), idxF_rw g1, rowN_rw, e]
      simp only [ob, gx0, gx1, gI_i, gS_s, ln0, ln1, Nat.zero_add, Nat.reduceAdd, if_true]
      have ea : frzV h (.agg r.cs) = some (.agg r.cs) := by simp
      rw [frzVs_cons (w.frz (by omega) rws_sc) (frzVs_cons ea frzVs_nil), ob, norm_nil]
      obtain ⟨y, hp, e1, n1, w1⟩ := f_l6Put (ks := ks) (r := r) (by unfold lim; omega) h.n
      obtain ⟨K, e2, u2, n2, w2⟩ := pV (h := h) (n := h.n) (off := [v, V.agg r.cs].all offV) rfl e1 n1 w1
      rw [e2]
      obtain ⟨b2, w3, b3, b4⟩ := w2.now.fl rws_row rws_sc (by
        intro hh
        have := congrArg List.length hh
        rw [rws_len, ins_len] at this; simp at this)
      have hv := w3.v
      injection hv with hv
      subst hv
      rw [grow_tidy (h := h) (m := b2) (k := (rws (insR r ks)).length) b3 (by simp)]
      exact ih (i + 1) (insR r ks) _ b2 K g2 w3 (by rw [ins_len]; omega)
    · have e : keyStep bs ks r = ks := by unfold keyStep; rw [h3]; rfl
      rw [h2, if_neg (by omega), tidy_self, e]
      exact ih (i + 1) ks v b h g2 w (by omega)
/-! the changes -/
theorem cs_l0 {m : Nat} {h0 h h' : H} {y : S} {out : List ChgD} {c : ChgD} {vs : V} {bs ns : List (List S)} {i : Nat} (hi : i < 100000000) (w : Nw h c.cs h') (g : Gr 10 m h0 y (chs out) h) (hl : out.length + 1 ≤ lim) :
    ∃ y' h2, Jn.spec_l6Changes_l2_0 h' h (.s y) bs ns vs (i : Int) = Lp.spec_l6Changes 2 [lv bs, lv ns, vs, .s y', iv .i64 ((i + 1 : Nat) : Int)] h2 ∧ Gr 10 m h0 y' (chs (out ++ [c])) h2 := by
  unfold Jn.spec_l6Changes_l2_0
  rw [w.ldN (o := 0) (n := 10) (r := c.cs) (by simp) rfl]
  simp only [ob, gx0, gx1, gI_i, gS_s, gB_b, ln0, ln1, Nat.zero_add, Nat.reduceAdd, if_true]
  obtain ⟨h2, e, g', hn⟩ := (g.keep w.keep).app (row := c.cs) chg_sc rfl (by omega) (by rw [chs_len]; exact hl)
  rw [e, ob, w64 (by omega) (by omega), show (i : Int) + 1 = ((i + 1 : Nat) : Int) from by omega, grow_tidy (m := h'.n + 1) (k := (chs out).length + 1) (by rw [w.n]; omega) (by simp)]
  rw [← chs_snoc] at g'
  exact ⟨_, h2, rfl, g'⟩
/-- a row that was looked up, and where it stands -/
def Fnd (rs : List RowD) (x : RowD) (i : Int) : Prop := (i = -1 ∧ getF x rs = none) ∨ ∃ j r, rs[j]? = some r ∧ i = ((j : Nat) : Int) ∧ getF x rs = some r
theorem fnd_at (rs : List RowD) (x : RowD) : Fnd rs x (atF x.tab x.key rs 0) := by
  rcases at_get (x := x) rs 0 with h | ⟨j, r, h1, h2, h3⟩
  · exact .inl h
  · exact .inr ⟨j, r, h1, by rw [h2, Nat.zero_add], h3⟩
theorem cs_l1 {m : Nat} {h0 h : H} {y : S} {out : List ChgD} {vs : V} {bs ns : List RowD} {x : RowD} {p q : Int} {i : Nat} (q0 q1 : Bool) (w1 w2 w3 w4 w5 w6 w7 w8 w9 : V) (hi : i < 100000000) (hp : Fnd bs x p) (hq : Fnd ns x q) (h1 : q1 = !keepB (ckF bs ns x)) (g : Gr 10 m h0 y (chs out) h) (hl : out.length + 1 ≤ lim) :
    ∃ y' h2, Jn.spec_l6Changes_l2_1 q0 w1 w2 w3 w4 w5 w6 w7 w8 w9 q1 (rws bs) (rws ns) vs (.s y) (i : Int) h p q = Lp.spec_l6Changes 2 [lv (rws bs), lv (rws ns), vs, .s y', iv .i64 ((i + 1 : Nat) : Int)] h2 ∧ Gr 10 m h0 y' (chs (out ++ one (ckF bs ns x))) h2 := by
  subst h1
  unfold Jn.spec_l6Changes_l2_1
  rw [vcase_b]
  cases hk : keepB (ckF bs ns x) with
  | false =>
    have : one (ckF bs ns x) = [] := by unfold one; rw [hk]; rfl
    rw [this, List.append_nil, w64 (by omega) (by omega), show (i : Int) + 1 = ((i + 1 : Nat) : Int) from by omega]
    exact ⟨y, h, by simp, g⟩
  | true =>
    have ho : one (ckF bs ns x) = [ckF bs ns x] := by unfold one; rw [hk]; rfl
    rw [ho, if_neg (by simp)]
    have w : Nw h zC (h.new 0 zC) := Nw.new
    have pb : decide (p ≥ 0) = (getF x bs).isSome := by
      rcases hp with ⟨rfl, hp⟩ | ⟨j, r, hj, rfl, hp⟩ <;> rw [hp] <;> simp
    have qb : decide (q ≥ 0) = (getF x ns).isSome := by
      rcases hq with ⟨rfl, hq⟩ | ⟨j, r, hj, rfl, hq⟩ <;> rw [hq] <;> simp
    rw [pb, qb]
    rw [w.stN (z := 10) (o := 0) (r := [.bool (getF x bs).isSome, .int .i64 0, .int .i64 0, .int .i64 0, .str (⟨#[]⟩), .bool (getF x ns).isSome, .int .i64 0, .int .i64 0, .int .i64 0, .str (⟨#[]⟩)]) rfl (by simp)]
    have w0 := w.put (cs' := ChgD.cs ⟨(getF x bs).isSome, zR, (getF x ns).isSome, zR⟩)
    rw [show setAt zC 0 [.bool (getF x bs).isSome, .int .i64 0, .int .i64 0, .int .i64 0, .str (⟨#[]⟩), .bool (getF x ns).isSome, .int .i64 0, .int .i64 0, .int .i64 0, .str (⟨#[]⟩)] = ChgD.cs ⟨(getF x bs).isSome, zR, (getF x ns).isSome, zR⟩ from rfl]
    revert w0
    generalize ((h.new 0 zC).put h.n (.rw 0 (ChgD.cs ⟨(getF x bs).isSome, zR, (getF x ns).isSome, zR⟩))) = A
    intro w0
    simp only [vcase_b]
    have ec : ckF bs ns x = ⟨(getF x bs).isSome, (getF x bs).getD zR, (getF x ns).isSome, (getF x ns).getD zR⟩ := rfl
    rcases hp with ⟨rfl, hp⟩ | ⟨j, r, hj, rfl, hp⟩
    · rw [hp] at w0 ec ⊢
      rw [if_neg (by simp)]
      rcases hq with ⟨rfl, hq⟩ | ⟨j2, r2, hj2, rfl, hq⟩
      · rw [hq] at w0 ec ⊢
        rw [if_neg (by simp)]
        exact cs_l0 hi (by rw [ec]; exact w0) g hl
      · rw [hq] at w0 ec ⊢
        rw [if_pos (show (some r2).isSome = true from rfl), idxF_rw hj2, rowN_rw]
        simp only [ob, gx0, gx1, gI_i, gS_s, ln0, ln1, Nat.zero_add, Nat.reduceAdd, if_true]
        rw [w0.stN (z := 4) (o := 6) (r := r2.cs) rfl (by simp)]
        refine cs_l0 hi (c := ckF bs ns x) ?_ g hl
        rw [ec]
        exact w0.put
    · rw [hp] at w0 ec ⊢
      rw [if_pos (show (some r).isSome = true from rfl), idxF_rw hj, rowN_rw]
      simp only [ob, gx0, gx1, gI_i, gS_s, ln0, ln1, Nat.zero_add, Nat.reduceAdd, if_true]
      rw [w0.stN (z := 4) (o := 1) (r := r.cs) rfl (by simp)]
      have w1 := w0.put (cs' := ChgD.cs ⟨true, r, (getF x ns).isSome, zR⟩)
      rw [show setAt (ChgD.cs ⟨(some r).isSome, zR, (getF x ns).isSome, zR⟩) 1 r.cs = ChgD.cs ⟨true, r, (getF x ns).isSome, zR⟩ from rfl]
      revert w1
      generalize (A.put h.n (.rw 0 (ChgD.cs ⟨true, r, (getF x ns).isSome, zR⟩))) = B
      intro w1
      rcases hq with ⟨rfl, hq⟩ | ⟨j2, r2, hj2, rfl, hq⟩
      · rw [hq] at w1 ec ⊢
        rw [if_neg (by simp)]
        exact cs_l0 hi (by rw [ec]; exact w1) g hl
      · rw [hq] at w1 ec ⊢
        rw [if_pos (show (some r2).isSome = true from rfl), idxF_rw hj2, rowN_rw]
        simp only [ob, gx0, gx1, gI_i, gS_s, ln0, ln1, Nat.zero_add, Nat.reduceAdd, if_true]
        rw [w1.stN (z := 4) (o := 6) (r := r2.cs) rfl (by simp)]
        refine cs_l0 hi (c := ckF bs ns x) ?_ g hl
        rw [ec]
        exact w1.put
theorem lp_chgs {bs ns ks : List RowD} {v : V} {b m : Nat} {h0 : H} (hl : bs.length ≤ maxLen) (hl2 : ns.length ≤ maxLen) (hks : ks.length < 10000000) (hf : FlS 4 h0 v (rws ks) b) (hm : h0.n = m) : ∀ (q : List RowD) (i : Nat) (y : S) (out : List ChgD) (h : H), ks.drop i = q → out.length ≤ i → Gr 10 m h0 y (chs out) h →
    ∃ y' h', Lp.spec_l6Changes 2 [lv (rws bs), lv (rws ns), v, .s y, iv .i64 i] h = some (.done [.s y'] h') ∧ Gr 10 m h0 y' (chs (out ++ q.flatMap fun x => one (ckF bs ns x))) h' := by
  intro q
  have l0 : lenV (.sl 45) v = some (iv .i64 (ks.length : Int)) := by rw [hf.v]; simp [lenV]
  induction q with
  | nil =>
    intro i y out h hi ho g
    have := drop_nil hi
    refine ⟨y, h, ?_, by simpa using g⟩
    rw [eq_spec_l6Changes_l2, l0]
    simp only [ob, gV1_s, gI_i, vcase_b]
    rw [if_neg (by simp; omega), tidy_self]
  | cons x q ih =>
    intro i y out h hi ho g
    obtain ⟨g1, g2, g3⟩ := drop_cons hi
    have hf' : FlS 4 h v (rws ks) b := hf.keep (by have := g.1; omega) (g.2.1 b (by have := hf.n; omega))
    have hv := hf'.v
    have fin : ∃ y2 h2, Lp.spec_l6Changes 2 [lv (rws bs), lv (rws ns), v, .s y, iv .i64 i] h = Lp.spec_l6Changes 2 [lv (rws bs), lv (rws ns), v, .s y2, iv .i64 ((i + 1 : Nat) : Int)] h2 ∧ Gr 10 m h0 y2 (chs (out ++ one (ckF bs ns x))) h2 := by
      have a1 := fnd_at bs x
      have a2 := fnd_at ns x
      rw [eq_spec_l6Changes_l2, l0]
      simp only [ob, gV1_s, gI_i, vcase_b]
      rw [if_pos (by simp; omega)]
      have ix : ∀ {R : Type} (k : V → Option R), idxK 4 v (iv .i64 (i : Int)) k = k (pv b (i * 4)) := fun k => by rw [hv]; exact idxK_sv (by simpa using g3)
      have l1 : ∀ {R : Type} (k : V → Option R), ldK (.one (.i .i64)) ⟨1, 8, [.int .i64 0], false, .int .i64, false⟩ h (pv b (i * 4 + 0)) k = k (.s (.int .i64 x.tab)) := fun k => ldK_one rfl (hf'.ld g1 (by omega) rfl)
      have l2 : ∀ {R : Type} (k : V → Option R), ldK (.one (.i .i64)) ⟨1, 8, [.int .i64 0], false, .int .i64, false⟩ h (pv b (i * 4 + 1)) k = k (.s (.int .i64 x.key)) := fun k => ldK_one rfl (hf'.ld g1 (by omega) rfl)
      simp only [ix, padd, ob, l1, l2, gV1_s, gI_i]
      rw [pc (p_l6At hl) rfl]
      simp only [gV1_s, gI_i, hchk_self]
      rw [pc (p_l6At hl2) rfl]
      simp only [gV1_s, gI_i, hchk_self]
      generalize atF x.tab x.key bs 0 = p at a1
      generalize atF x.tab x.key ns 0 = q at a2
      unfold Jn.spec_l6Changes_l2_2
      simp only [vcase_b]
      have hl3 : out.length + 1 ≤ lim := by unfold lim; omega
      rcases a1 with ⟨rfl, hp⟩ | ⟨j, r, hj, rfl, hp⟩
      · rw [if_neg (by simp), if_neg (by simp)]
        refine cs_l1 _ _ _ _ _ _ _ _ _ _ _ (by omega) (.inl ⟨rfl, hp⟩) a2 ?_ g hl3
        unfold ckF keepB; rw [hp]; rfl
      · rw [if_pos (by simp)]
        rcases a2 with ⟨rfl, hq⟩ | ⟨j2, r2, hj2, rfl, hq⟩
        · rw [if_neg (by simp)]
          refine cs_l1 _ _ _ _ _ _ _ _ _ _ _ (by omega) (.inr ⟨j, r, hj, rfl, hp⟩) (.inl ⟨rfl, hq⟩) ?_ g hl3
          unfold ckF keepB; rw [hp, hq]; rfl
        · rw [if_pos (by simp), idxF_rw hj, rowN_rw]
          simp only [ob, gx0, gx1, gI_i, gS_s, ln0, ln1, Nat.zero_add, Nat.reduceAdd, if_true]
          rw [idxF_rw hj2, rowN_rw]
          simp only [ob, gx0, gx1, gI_i, gS_s, ln0, ln1, Nat.zero_add, Nat.reduceAdd, if_true]
          refine cs_l1 _ _ _ _ _ _ _ _ _ _ _ (by omega) (.inr ⟨j, r, hj, rfl, hp⟩) (.inr ⟨j2, r2, hj2, rfl, hq⟩) ?_ g hl3
          unfold ckF keepB eqRowB; rw [hp, hq]; simp
    obtain ⟨y2, h2, e2, w2⟩ := fin
    obtain ⟨y3, h3, e3, w3⟩ := ih (i + 1) y2 _ h2 g2 (by have := one_len (ckF bs ns x); rw [List.length_append]; omega) w2
    exact ⟨y3, h3, by rw [e2, e3], by rw [List.flatMap_cons, ← List.append_assoc]; exact w3⟩
theorem p_l6Changes {bs ns : List RowD} (hl : bs.length ≤ 60) (hl2 : ns.length ≤ 60) (hb : Ris bs) (hn : Ris ns) : pureV (call Ev) Fn.spec_l6Changes [lv (rws bs), lv (rws ns)] = some (lv (chs (btw bs ns))) := by
  rw [pu_spec_l6Changes]
  obtain ⟨v1, h1, e1, w1, n1, k1⟩ := app_fl (z := 4) (h := (D 0).new 4 []) (y := lv (rws bs)) (more := rws bs) FlS.nil rws_row (cellsS_lv rws_row) rfl (by omega) (by simp; unfold lim; omega)
  rw [D_n] at e1
  rw [e1, ob]
  obtain ⟨v2, b2, h2, e2, w2⟩ := lp_keys (bs := bs) (ns := ns) (by unfold maxLen; omega) (by omega) ns 0 bs v1 _ h1 rfl (by simpa using w1) (by omega)
  rw [show iv .i64 0 = iv .i64 ((0 : Nat) : Int) from rfl, e2, ob, lcase_done]
  simp only [gx0, gx1, ob, gV1_s, gF_f]
  have hkl := keys_len bs ns bs
  obtain ⟨y3, h3, e3, w3⟩ := lp_chgs (bs := bs) (ns := ns) (ks := ns.foldl (keyStep bs) bs) (by unfold maxLen; omega) (by unfold maxLen; omega) (by omega) w2 rfl _ 0 _ [] _ rfl (by simp) (Gr.new (z := 10) (h := h2) (by omega))
  rw [e3, ob, lcase_done]
  simp only [gx0, ob]
  have := w3.frz
  rw [List.nil_append, List.drop_zero, show ns.foldl (keyStep bs) bs = keysF bs ns from rfl, keys_btw hb hn] at this
  exact this
theorem p_spec_ChangesOf {bs ns : List RowD} (hs : ∀ r ∈ bs, r.text.size ≤ maxLen) (hs' : ∀ r ∈ ns, r.text.size ≤ maxLen) (hl : bs.length ≤ maxLen) (hl' : ns.length ≤ maxLen) : pureV (call Ev) Fn.spec_ChangesOf [lv (rws bs), lv (rws ns)] = some (.agg [.int .i64 (chC bs ns), .fs (chs (chL bs ns))]) := by
  rw [pu_spec_ChangesOf, pc (p_l6Rows hs hl) rfl]
  simp only [gV1_s, gI_i, vcase_b, bne_iff_ne, ne_eq]
  rw [pc (p_l6Rows hs' hl') rfl]
  simp only [gV1_s, gI_i, vcase_b, bne_iff_ne, ne_eq]
  unfold chL chC
  by_cases h0 : rowsF bs = 0
  case neg => rw [if_pos h0, if_neg h0, if_neg h0]; rfl
  rw [if_neg (by simp [h0]), if_pos h0]
  by_cases h1 : rowsF ns = 0
  case neg => rw [if_pos h1, if_neg h1]; rfl
  have b60 : ∀ {l : List RowD}, rowsF l = 0 → l.length ≤ 60 := fun {l} h => by
    unfold rowsF at h
    split at h
    · omega
    · omega
  rw [if_neg (by simp [h1]), if_pos h1, p_l6Changes (b60 h0) (b60 h1) (ris_rows h0) (ris_rows h1)]
  simp only [ob, gV1_s, gF_f]
  rw [h1]
end Vm
/-
  The law of ChangesOf returns true.
-/
namespace Vm
open Go
theorem run_FnExactChangesOf (xs : List V) (hx : ArgsRp PR [T.S_laws_Row, T.S_laws_Row] xs) : ∃ h', call Ev Fn.laws_FnExactChangesOf xs (D 0) = some (bv true, h') := by
  match xs, hx with
  | [x0, x1], ⟨h0, h1, _⟩ =>
    obtain ⟨l0, rfl, hr0, hl0⟩ := arg_Rows h0
    have hs0 : ∀ r ∈ l0, r.text.size ≤ maxLen := fun r hr => (hr0 r hr).s
    obtain ⟨l1, rfl, hr1, hl1⟩ := arg_Rows h1
    have hs1 : ∀ r ∈ l1, r.text.size ≤ maxLen := fun r hr => (hr1 r hr).s
    refine law_of ?_
    rw [pu_laws_FnExactChangesOf]
    rw [pc (p_szRowS (by omega) (by omega) hl0 hs0) rfl]
    simp only [gV1_s, gI_i, vcase_b, decide_eq_true_eq]
    by_cases hq0 : (if (l0.length : Int) ≤ 1048576 then szRows l0 (1048576 - l0.length) else -1) < 0
    · rw [if_pos hq0]
    have hm0 : (l0.length : Int) ≤ 1048576 := szI hq0
    rw [if_neg hq0]
    rw [if_pos hm0] at hq0
    try rw [if_pos hm0]
    have hq0b := szRows_le l0 (1048576 - l0.length) (by omega)
    have hlim0 : l0.length ≤ lim := by unfold lim; omega
    rw [pc (p_szRowS (by omega) (by omega) hl1 hs1) rfl]
    simp only [gV1_s, gI_i, vcase_b, decide_eq_true_eq]
    by_cases hq1 : (if (l1.length : Int) ≤ (szRows l0 (1048576 - l0.length)) then szRows l1 ((szRows l0 (1048576 - l0.length)) - l1.length) else -1) < 0
    · rw [if_pos hq1]
    have hm1 : (l1.length : Int) ≤ (szRows l0 (1048576 - l0.length)) := szI hq1
    rw [if_neg hq1]
    rw [if_pos hm1] at hq1
    try rw [if_pos hm1]
    have hq1b := szRows_le l1 ((szRows l0 (1048576 - l0.length)) - l1.length) (by omega)
    have hlim1 : l1.length ≤ lim := by unfold lim; omega
    rw [p_toRowS hlim0]
    simp only [ob, gV1_s, gF_f]
    rw [p_toRowS hlim1]
    simp only [ob, gV1_s, gF_f]
    have hl0b : l0.length ≤ maxLen := hl0
    have hps := p_spec_ChangesOf hs0 hs1 hl0 hl1
    have hfs := fun n => f_ChangesOf (bs := l0) (ns := l1) hs0 hs1 (by unfold lim; omega) n
    have hsl := chL_len l0 l1
    generalize chC l0 l1 = c at hps hfs
    generalize chL l0 l1 = m at hsl hps hfs
    have hmm : m.length ≤ maxLen := by unfold maxLen; omega
    rw [hps]
    simp only [ob, gVA_a, gx0, gx1, gI_i, gF_f, ln0, ln1, Nat.zero_add, Nat.reduceAdd, if_true]
    generalize hA : ((D 0).new 0 [.int .i64 0, .sl none 0]).put 0 (.rw 0 [.int .i64 c, .fs (chs m)]) = A
    have an : A.n = 1 := by rw [← hA]; simp
    have wA : Sep (At 0 (.rw 0 [.int .i64 c, .fs (chs m)])) 0 1 A := Sep.at (by omega) (by rw [← hA]; exact put_g _ _ _)
    obtain ⟨v0, k0, e0, q0⟩ := f_toRowSv hlim0 A.n
    obtain ⟨B0, eB0, uB0, nB0, w0⟩ := OwnV.pv rfl e0 q0
    rw [eB0]
    clear eB0 e0 q0
    rw [an] at nB0 w0
    replace wA := wA.up uB0
    clear uB0
    obtain ⟨v1, k1, e1, q1⟩ := f_toRowSv hlim1 B0.n
    obtain ⟨B1, eB1, uB1, nB1, w1⟩ := OwnV.pv rfl e1 q1
    rw [eB1]
    clear eB1 e1 q1
    replace wA := wA.up uB1
    replace w0 := w0.up uB1
    clear uB1
    rw [frzVs_cons w0.now.frz (frzVs_cons w1.now.frz frzVs_nil), ob, norm_nil]
    obtain ⟨y, k2, e2, q2⟩ := hfs B1.n
    obtain ⟨C, eC, uC, nC, wg⟩ := pC (h := B1) rfl e2 q2
    rw [eC]
    clear eC e2 q2
    replace wA := wA.up uC
    replace w0 := w0.up uC
    replace w1 := w1.up uC
    clear uC
    simp only [gVA_a, gx0, gx1, ob, gI_i, ln0, ln1, Nat.zero_add, Nat.reduceAdd, if_true]
    rw [st2_new]
    have uG : Up C ((C.new 0 [.int .i64 0, .sl none 0]).put C.n (.rw 0 [.int .i64 c, y])) := up_st
    have wG : Sep (At C.n (.rw 0 [.int .i64 c, y])) C.n (C.n + 1) ((C.new 0 [.int .i64 0, .sl none 0]).put C.n (.rw 0 [.int .i64 c, y])) := Sep.at (by rw [n_st]; omega) g_st
    have nG : ((C.new 0 [.int .i64 0, .sl none 0]).put C.n (.rw 0 [.int .i64 c, y])).n = C.n + 1 := n_st
    replace wA := wA.up uG
    replace w0 := w0.up uG
    replace w1 := w1.up uG
    replace wg := wg.up uG
    generalize (C.new 0 [.int .i64 0, .sl none 0]).put C.n (.rw 0 [.int .i64 c, y]) = HG at wA w0 w1 wg wG nG ⊢
    clear uG
    rw [loadN_2 wG.now.1 wG.now.2]
    simp only [gx0, gx1, ob, gI_i, ln0, ln1, Nat.zero_add, Nat.reduceAdd, if_true]
    rw [loadN_2 wA.now.1 wA.now.2]
    simp only [gx0, gx1, ob, gI_i, ln0, ln1, Nat.zero_add, Nat.reduceAdd, if_true]
    rw [frzVs_cons wg.now.frz (frzVs_cons frzV_agf frzVs_nil), ob, norm_nil, pc (p_eqGR hmm) rfl]
    simp only [gV1_s, gB_b, vcase_b, decide_true, Bool.and_self, Bool.not_true, Bool.false_eq_true, if_false]
    rw [frzVs_cons w0.now.frz (frzVs_cons frzV_lv frzVs_nil), ob, norm_nil, pc (p_eqRowS hl0) rfl]
    simp only [gV1_s, gB_b, vcase_b, decide_true, Bool.and_self, Bool.not_true, Bool.false_eq_true, if_false]
    rw [frzVs_cons w1.now.frz (frzVs_cons frzV_lv frzVs_nil), ob, norm_nil, pc (p_eqRowS hl1) rfl]
    simp only [gV1_s, gB_b, vcase_b, decide_true, Bool.and_self, Bool.not_true, Bool.false_eq_true, if_false]
    rw [show (1 : Int) = ((1 : Nat) : Int) from rfl]
    obtain ⟨p0, e0, m0, b0⟩ := OwnV.markW (k := 1) w0 (by omega)
    rw [e0, ob]
    simp only [gV1_s, gI_i]
    replace wA := wA.but b0 (by omega)
    replace w1 := w1.but b0 (by omega)
    replace wg := wg.but b0 (by omega)
    replace wG := wG.but b0 (by omega)
    replace w0 := m0
    clear m0 e0
    obtain ⟨p1, e1, m1, b1⟩ := OwnV.markW (k := 1 + 4 * l0.length) w1 (by omega)
    rw [e1, ob]
    simp only [gV1_s, gI_i]
    replace wA := wA.but b1 (by omega)
    replace w0 := w0.but b1 (by omega)
    replace wg := wg.but b1 (by omega)
    replace wG := wG.but b1 (by omega)
    replace w1 := m1
    clear m1 e1
    rw [if_neg (by simp; omega)]
    unfold Jn.laws_FnExactChangesOf_0
    dsimp only
    generalize tidy HG [iv .i64 ((1 + 4 * l0.length : Nat) : Int)] p0 = F0 at wA w0 w1 wg wG b0 b1 ⊢
    generalize tidy F0 [iv .i64 ((1 + 4 * l0.length + 4 * l1.length : Nat) : Int)] p1 = F1 at wA w0 w1 wg wG b0 b1 ⊢
    clear b0 b1
    rw [loadN_2 wG.now.1 wG.now.2]
    simp only [gx0, gx1, ob, gI_i, ln0, ln1, Nat.zero_add, Nat.reduceAdd, if_true]
    rw [loadN_2 wA.now.1 wA.now.2]
    simp only [gx0, gx1, ob, gI_i, ln0, ln1, Nat.zero_add, Nat.reduceAdd, if_true]
    rw [frzVs_cons wg.now.frz (frzVs_cons frzV_agf frzVs_nil), ob, norm_nil, pc (p_eqGR hmm) rfl]
    simp only [gV1_s, gB_b, vcase_b, decide_true, Bool.and_self, Bool.not_true, Bool.false_eq_true, if_false]
    obtain ⟨pg, eg, mg, bg⟩ := r_markGR (c := c) (k := 1) wg (by omega)
    rw [show (1 : Int) = ((1 : Nat) : Int) from rfl, eg, ob]
    simp only [gV1_s, gI_i]
    replace wA := wA.but bg (by omega)
    replace w0 := w0.but bg (by omega)
    replace w1 := w1.but bg (by omega)
    replace wG := wG.but bg (by omega)
    replace wg := mg
    clear mg eg
    generalize tidy F1 [iv .i64 ((1 + 10 * m.length : Nat) : Int)] pg = G at wA wg wG bg ⊢
    rw [loadN_2 wG.now.1 wG.now.2]
    simp only [gx0, gx1, ob, gI_i, ln0, ln1, Nat.zero_add, Nat.reduceAdd, if_true]
    rw [frzVs_cons wg.now.frz (frzVs_cons frzV_iv frzVs_nil), ob, norm_nil, pc (p_heldGR (by omega)) rfl]
    simp only [gV1_s, gI_i, vcase_b]
    rw [if_neg (by simp; omega), if_neg (by simp)]
    rw [p_toRowS hlim0]
    simp only [ob, gV1_s, gF_f]
    rw [p_toRowS hlim1]
    simp only [ob, gV1_s, gF_f]
    obtain ⟨y', k5, e5, w5⟩ := hfs 0
    rw [NewC.p (by omega) e5 w5]
    simp only [ob, gVA_a, gx0, gx1, gI_i, gF_f, ln0, ln1, Nat.zero_add, Nat.reduceAdd, if_true]
    rw [st2_new]
    have uK : Up G ((G.new 0 [.int .i64 0, .sl none 0]).put G.n (.rw 0 [.int .i64 c, .fs (chs m)])) := up_st
    have wK : Sep (At G.n (.rw 0 [.int .i64 c, .fs (chs m)])) G.n (G.n + 1) ((G.new 0 [.int .i64 0, .sl none 0]).put G.n (.rw 0 [.int .i64 c, .fs (chs m)])) := Sep.at (by rw [n_st]; omega) g_st
    replace wA := wA.up uK
    replace wg := wg.up uK
    replace wG := wG.up uK
    generalize (G.new 0 [.int .i64 0, .sl none 0]).put G.n (.rw 0 [.int .i64 c, .fs (chs m)]) = K at wA wg wG wK ⊢
    rw [loadN_2 wK.now.1 wK.now.2]
    simp only [gx0, gx1, ob, gI_i, ln0, ln1, Nat.zero_add, Nat.reduceAdd, if_true]
    rw [loadN_2 wA.now.1 wA.now.2]
    simp only [gx0, gx1, ob, gI_i, ln0, ln1, Nat.zero_add, Nat.reduceAdd, if_true]
    rw [frzVs_cons frzV_agf (frzVs_cons frzV_agf frzVs_nil), ob, norm_nil, pc (p_eqGR hmm) rfl]
    simp only [gV1_s, gB_b, vcase_b, decide_true, Bool.and_self, Bool.not_true, Bool.false_eq_true, if_false]
    rw [loadN_2 wG.now.1 wG.now.2]
    simp only [gx0, gx1, ob, gI_i, ln0, ln1, Nat.zero_add, Nat.reduceAdd, if_true]
    rw [frzVs_cons wg.now.frz (frzVs_cons frzV_iv frzVs_nil), ob, norm_nil, pc (p_heldGR (by omega)) rfl]
    simp only [gV1_s, gI_i, vcase_b]
    rw [if_neg (by simp; omega), if_neg (by simp)]
end Vm
