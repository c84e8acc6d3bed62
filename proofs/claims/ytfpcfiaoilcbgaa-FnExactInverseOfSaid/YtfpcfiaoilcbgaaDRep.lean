/-
  Live values of any depth: what they are once frozen, and which blocks they lie in.
-/
import Derived.Test.YtfpcfiaoilcbgaaDSep
set_option linter.unusedVariables false
set_option maxRecDepth 100000
set_option linter.unusedSimpArgs false
set_option linter.unusedSectionVars false
namespace Vm
open Go
/-- a cell that leads nowhere, and is not frozen -/
def Sc : S → Prop
  | .int _ _ => True
  | .bool _ => True
  | .str _ => True
  | _ => False
theorem Sc.cl {s : S} (h : Sc s) : Cl s := by cases s <;> first | exact h.elim | exact cl_i | exact cl_b | exact cl_s
theorem Sc.sca {s : S} (h : Sc s) : scaS s = true := by cases s <;> first | exact h.elim | rfl
theorem Sc.no {s : S} (h : Sc s) : isNo s = false := by cases s <;> first | exact h.elim | rfl
inductive RepL (R : S → S → List Nat → Prop) : List S → List S → List Nat → Prop
  | nil : RepL R [] [] []
  | cons {y f : S} {bs : List Nat} {ys fs : List S} {bss : List Nat} : R y f bs → RepL R ys fs bss → RepL R (y :: ys) (f :: fs) (bs ++ bss)
def Rep (h : H) : Nat → S → S → List Nat → Prop
  | 0 => fun y f bs => (Sc y ∧ f = y ∨ y = .sl none 0 ∧ f = .fs []) ∧ bs = []
  | d + 1 => fun y f bs => ((Sc y ∧ f = y ∨ y = .sl none 0 ∧ f = .fs []) ∧ bs = []) ∨ ∃ b z cs rows bss, y = .sl (some (b, 0)) rows.length ∧ f = .fs rows ∧ bs = b :: bss ∧ b < h.n ∧ 0 < z ∧ h.g b = .rw z cs ∧ (∀ r ∈ rows, r.length = z) ∧ RepL (Rep h d) cs rows.flatten bss
section
variable {R R' : S → S → List Nat → Prop}
theorem RepL.mono {cs fs : List S} {bss : List Nat} (w : RepL R cs fs bss) (hr : ∀ y f bs, (∀ b ∈ bs, b ∈ bss) → R y f bs → R' y f bs) : RepL R' cs fs bss := by
  induction w with
  | nil => exact .nil
  | @cons y f bs ys fs bss h1 h2 ih => exact .cons (hr _ _ _ (fun b hb => by simp [hb]) h1) (ih fun y f bs hb => hr y f bs fun b hh => by simp [hb b hh])
theorem RepL.len {cs fs : List S} {bss : List Nat} (w : RepL R cs fs bss) : cs.length = fs.length := by
  induction w with
  | nil => rfl
  | cons h1 h2 ih => simp [ih]
theorem RepL.append {cs fs cs' fs' : List S} {bss bss' : List Nat} (w : RepL R cs fs bss) (w' : RepL R cs' fs' bss') : RepL R (cs ++ cs') (fs ++ fs') (bss ++ bss') := by
  induction w with
  | nil => exact w'
  | cons h1 h2 ih => rw [List.cons_append, List.cons_append, List.append_assoc]; exact .cons h1 ih
theorem RepL.split : ∀ {fs fs' : List S} {cs : List S} {bss : List Nat}, RepL R cs (fs ++ fs') bss → ∃ a a' b b', cs = a ++ a' ∧ bss = b ++ b' ∧ RepL R a fs b ∧ RepL R a' fs' b'
  | [], fs', cs, bss, w => ⟨[], cs, [], bss, rfl, rfl, .nil, w⟩
  | f :: fs, fs', cs, bss, w => by
    cases w with
    | @cons y f bs ys fs bss h1 h2 =>
      obtain ⟨a, a', b, b', rfl, rfl, w1, w2⟩ := RepL.split h2
      exact ⟨y :: a, a', bs ++ b, b', rfl, by simp, .cons h1 w1, w2⟩
end
section
variable {h h' : H}
theorem Rep.sc {d : Nat} {s : S} (hs : Sc s) : Rep h d s s [] := by
  cases d with
  | zero => exact ⟨.inl ⟨hs, rfl⟩, rfl⟩
  | succ d => exact .inl ⟨.inl ⟨hs, rfl⟩, rfl⟩
theorem Rep.nil {d : Nat} : Rep h d (.sl none 0) (.fs []) [] := by
  cases d with
  | zero => exact ⟨.inr ⟨rfl, rfl⟩, rfl⟩
  | succ d => exact .inl ⟨.inr ⟨rfl, rfl⟩, rfl⟩
theorem Rep.sl {d b z : Nat} {cs : List S} {rows : List (List S)} {bss : List Nat} (hb : b < h.n) (hz : 0 < z) (hg : h.g b = .rw z cs) (hr : ∀ r ∈ rows, r.length = z) (w : RepL (Rep h d) cs rows.flatten bss) : Rep h (d + 1) (.sl (some (b, 0)) rows.length) (.fs rows) (b :: bss) :=
  .inr ⟨b, z, cs, rows, bss, rfl, rfl, rfl, hb, hz, hg, hr, w⟩
theorem RepL.sc {d : Nat} : ∀ {l : List S}, (∀ s ∈ l, Sc s) → RepL (Rep h d) l l []
  | [], _ => .nil
  | s :: l, hl => RepL.cons (bs := []) (Rep.sc (hl s (by simp))) (RepL.sc fun s hs => hl s (by simp [hs]))
theorem Rep.of_sc {d : Nat} {y f : S} {bs : List Nat} (w : Rep h d y f bs) (hf : Sc f) : y = f ∧ bs = [] := by
  cases d with
  | zero =>
    obtain ⟨⟨h1, rfl⟩ | ⟨rfl, rfl⟩, rfl⟩ := w
    · exact ⟨rfl, rfl⟩
    · exact hf.elim
  | succ d =>
    obtain ⟨⟨h1, rfl⟩ | ⟨rfl, rfl⟩, rfl⟩ | ⟨b, z, cs, rows, bss, rfl, rfl, rfl, h1⟩ := w
    · exact ⟨rfl, rfl⟩
    · exact hf.elim
    · exact hf.elim
theorem RepL.of_sc {d : Nat} : ∀ {cs fs : List S} {bss : List Nat}, RepL (Rep h d) cs fs bss → (∀ s ∈ fs, Sc s) → cs = fs ∧ bss = []
  | _, _, _, .nil, _ => ⟨rfl, rfl⟩
  | _, _, _, .cons h1 h2, hs => by
    obtain ⟨rfl, rfl⟩ := Rep.of_sc h1 (hs _ (by simp))
    obtain ⟨rfl, rfl⟩ := RepL.of_sc h2 fun s hs' => hs s (by simp [hs'])
    exact ⟨rfl, rfl⟩
theorem Rep.frame : ∀ {d : Nat} {y f : S} {bs : List Nat}, Rep h d y f bs → (∀ b ∈ bs, b < h'.n ∧ h'.g b = h.g b) → Rep h' d y f bs
  | 0, y, f, bs, w, _ => w
  | d + 1, y, f, bs, w, hb => by
    rcases w with w | ⟨b, z, cs, rows, bss, rfl, rfl, rfl, h1, h2, h3, h4, h5⟩
    · exact .inl w
    · have := hb b (by simp)
      exact .inr ⟨b, z, cs, rows, bss, rfl, rfl, rfl, this.1, h2, this.2.trans h3, h4, h5.mono fun y f bs hs w => Rep.frame w fun b' hb' => hb b' (by simp [hs b' hb'])⟩
theorem RepL.frame {d : Nat} {cs fs : List S} {bss : List Nat} (w : RepL (Rep h d) cs fs bss) (hb : ∀ b ∈ bss, b < h'.n ∧ h'.g b = h.g b) : RepL (Rep h' d) cs fs bss :=
  w.mono fun y f bs hs w => w.frame fun b hbb => hb b (hs b hbb)
theorem Rep.lift : ∀ {d : Nat} {y f : S} {bs : List Nat}, Rep h d y f bs → Rep h (d + 1) y f bs
  | 0, y, f, bs, w => .inl w
  | d + 1, y, f, bs, w => by
    rcases w with w | ⟨b, z, cs, rows, bss, rfl, rfl, rfl, h1, h2, h3, h4, h5⟩
    · exact .inl w
    · exact .inr ⟨b, z, cs, rows, bss, rfl, rfl, rfl, h1, h2, h3, h4, h5.mono fun y f bs hs w => w.lift⟩
theorem Rep.lifts {d k : Nat} {y f : S} {bs : List Nat} (w : Rep h d y f bs) (hd : d ≤ k) : Rep h k y f bs := by
  obtain ⟨j, rfl⟩ := Nat.exists_eq_add_of_le hd
  induction j with
  | zero => exact w
  | succ j ih => exact (ih (by omega)).lift
theorem RepL.lifts {d k : Nat} {cs fs : List S} {bss : List Nat} (w : RepL (Rep h d) cs fs bss) (hd : d ≤ k) : RepL (Rep h k) cs fs bss := w.mono fun y f bs _ w => w.lifts hd
theorem Rep.lt : ∀ {d : Nat} {y f : S} {bs : List Nat}, Rep h d y f bs → ∀ b ∈ bs, b < h.n
  | 0, y, f, bs, w => by obtain ⟨_, rfl⟩ := w; simp
  | d + 1, y, f, bs, w => by
    rcases w with ⟨_, rfl⟩ | ⟨b, z, cs, rows, bss, rfl, rfl, rfl, h1, h2, h3, h4, h5⟩
    · simp
    · intro c hc
      rcases List.mem_cons.1 hc with rfl | hc
      · exact h1
      · clear h3 h4
        generalize rows.flatten = fl at h5
        induction h5 with
        | nil => simp at hc
        | cons w1 w2 ih =>
          rcases List.mem_append.1 hc with hc | hc
          · exact w1.lt _ hc
          · exact ih (by simp [hc]) hc
theorem RepL.lt {d : Nat} {cs fs : List S} {bss : List Nat} (w : RepL (Rep h d) cs fs bss) : ∀ b ∈ bss, b < h.n := by
  induction w with
  | nil => simp
  | cons w1 w2 ih =>
    intro c hc
    rcases List.mem_append.1 hc with hc | hc
    · exact w1.lt _ hc
    · exact ih _ hc
theorem Rep.sca {d : Nat} {y f : S} {bs : List Nat} (w : Rep h d y f bs) : scaS y = true := by
  cases d with
  | zero =>
    obtain ⟨⟨h1, rfl⟩ | ⟨rfl, rfl⟩, rfl⟩ := w
    · exact h1.sca
    · rfl
  | succ d =>
    obtain ⟨⟨h1, rfl⟩ | ⟨rfl, rfl⟩, rfl⟩ | ⟨b, z, cs, rows, bss, rfl, rfl, rfl, h1⟩ := w
    · exact h1.sca
    · rfl
    · rfl
theorem Rep.isNo {d : Nat} {y f : S} {bs : List Nat} (w : Rep h d y f bs) : isNo y = false := by
  cases d with
  | zero =>
    obtain ⟨⟨h1, rfl⟩ | ⟨rfl, rfl⟩, rfl⟩ := w
    · exact h1.no
    · rfl
  | succ d =>
    obtain ⟨⟨h1, rfl⟩ | ⟨rfl, rfl⟩, rfl⟩ | ⟨b, z, cs, rows, bss, rfl, rfl, rfl, h1⟩ := w
    · exact h1.no
    · rfl
    · rfl
/-- what it is once frozen -/
theorem Rep.frz : ∀ {d k : Nat} {y f : S} {bs : List Nat}, Rep h d y f bs → d ≤ k → frzS h k y = some f
  | 0, k, y, f, bs, w, _ => by
    obtain ⟨⟨h1, rfl⟩ | ⟨rfl, rfl⟩, rfl⟩ := w
    · exact h1.cl h k
    · exact frz_n
  | d + 1, 0, y, f, bs, w, hk => by omega
  | d + 1, k + 1, y, f, bs, w, hk => by
    rcases w with ⟨⟨h1, rfl⟩ | ⟨rfl, rfl⟩, rfl⟩ | ⟨b, z, cs, rows, bss, rfl, rfl, rfl, h1, h2, h3, h4, h5⟩
    · exact h1.cl h (k + 1)
    · exact frz_n
    · have hl := flat_len h4
      have hc := h5.len
      have hm : mapO (frzS h k) cs = some rows.flatten := by
        clear h3 h4 hl hc
        generalize rows.flatten = fl at h5
        induction h5 with
        | nil => rfl
        | cons w1 w2 ih => simp only [mapO, Rep.frz w1 (show d ≤ k by omega), ih, Option.bind_some]
      simp only [frzS]
      split
      · rename_i h0; rw [List.eq_nil_of_length_eq_zero h0]
      · rw [h3]
        simp only
        rw [if_pos ⟨h2, by omega⟩, List.drop_zero, List.take_of_length_le (by omega), hm]
        simp [chunk_rows h4]
theorem RepL.mapO {d k : Nat} {cs fs : List S} {bss : List Nat} (w : RepL (Rep h d) cs fs bss) (hd : d ≤ k) : Vm.mapO (frzS h k) cs = some fs := by
  induction w with
  | nil => rfl
  | cons w1 w2 ih => simp only [Vm.mapO, w1.frz hd, ih, Option.bind_some]
end
/-- bytes -/
theorem bys_sc {l : List UInt8} : ∀ s ∈ (bys l).flatten, Sc s := by
  rw [bys_flat]
  intro s hs
  obtain ⟨c, _, rfl⟩ := List.mem_map.1 hs
  trivial
theorem Rep.of_bys {h : H} {d : Nat} {y : S} {l : List UInt8} {bs : List Nat} (w : Rep h (d + 1) y (.fs (bys l)) bs) : (l = [] ∧ ∃ o, y = .sl o 0) ∨ ∃ b, BysW h (.s y) l b ∧ bs = [b] := by
  rcases w with ⟨⟨h1, rfl⟩ | ⟨rfl, h2⟩, rfl⟩ | ⟨b, z, cs, rows, bss, rfl, h0, rfl, h1, h2, h3, h4, h5⟩
  · exact h1.elim
  · injection h2 with h2
    exact .inl ⟨List.eq_nil_of_length_eq_zero (by simpa using congrArg List.length h2), _, rfl⟩
  · injection h0 with h0
    subst h0
    obtain ⟨rfl, rfl⟩ := h5.of_sc bys_sc
    by_cases hl : l = []
    · subst hl; exact .inl ⟨rfl, _, rfl⟩
    · refine .inr ⟨b, ⟨by simp, h1, ?_⟩, rfl⟩
      have hh : (bys l) ≠ [] := by simp [bys, hl]
      have h6 := h4 _ (List.head_mem hh)
      have h7 : ((bys l).head hh).length = 1 := bys_row _ (List.head_mem hh)
      rw [h3, bys_flat, ← h6, h7]
theorem Own.rep {h : H} {d : Nat} {y : S} {l : List UInt8} {ob : Option Nat} (h1 : Own h (.s y) l ob) : Rep h (d + 1) y (.fs (bys l)) ob.toList := by
  cases ob with
  | none => obtain ⟨h1, rfl⟩ := h1; cases h1; exact Rep.nil
  | some b =>
    have hv := h1.v
    injection hv with hv
    subst hv
    have := Rep.sl (d := d) (h := h) (b := b) (z := 1) (rows := bys l) (bss := []) h1.n (by omega) (by rw [bys_flat]; exact h1.g) bys_row (RepL.sc (by exact bys_sc))
    rwa [bys_len] at this
/-- a value of one's own in a stretch of blocks -/
def OwnF (d : Nat) (y f : S) (lo hi : Nat) (h : H) : Prop := ∃ bs, Rep h d y f bs ∧ bs.Nodup ∧ ∀ b ∈ bs, lo ≤ b ∧ b < hi
theorem OwnF.sep {d : Nat} {y f : S} {lo hi : Nat} {h : H} (w : OwnF d y f lo hi h) (hn : hi ≤ h.n) : Sep (OwnF d y f lo hi) lo hi h := ⟨hn, fun h' hn' hg => by
  obtain ⟨bs, h1, h2, h3⟩ := w
  exact ⟨bs, h1.frame fun b hb => ⟨by have := h3 b hb; omega, hg b (h3 b hb).1 (h3 b hb).2⟩, h2, h3⟩⟩
theorem OwnF.frz {d : Nat} {y f : S} {lo hi : Nat} {h : H} (w : OwnF d y f lo hi h) (hd : d ≤ 8 := by omega) : frzV h (.s y) = some (.s f) := by
  obtain ⟨bs, h1, _⟩ := w
  simp only [frzV, h1.frz hd, Vm.ob]
theorem OwnB.f {d : Nat} {y : S} {l : List UInt8} {lo hi : Nat} {h : H} (w : OwnB (.s y) l lo hi h) : OwnF (d + 1) y (.fs (bys l)) lo hi h := by
  obtain ⟨ob, h1, h2⟩ := w
  refine ⟨ob.toList, h1.rep, ?_, fun b hb => h2 b (by simpa using hb)⟩
  cases ob <;> simp
/-- marked bytes -/
theorem Rep.mark {h : H} {d : Nat} {y : S} {l : List UInt8} {bs : List Nat} {k : Nat} (w : Rep h (d + 1) y (.fs (bys l)) bs) (hl : k + l.length < 2 ^ 62) :
    ∃ h', call Ev Fn.laws_markByteS [.s y, iv .i64 k] h = some (iv .i64 ((k + l.length : Nat) : Int), h') ∧ Rep h' (d + 1) y (.fs (bys (marks k l.length))) bs ∧ h'.n = h.n ∧ ∀ c, c ∉ bs → h'.g c = h.g c ∧ h'.v c = h.v c := by
  rcases w.of_bys with ⟨rfl, o, rfl⟩ | ⟨b, w1, rfl⟩
  · refine ⟨h, ?_, w, rfl, fun _ _ => ⟨rfl, rfl⟩⟩
    rw [eq_laws_markByteS, eq_laws_markByteS_l0]
    simp only [lenV, Option.bind_some, gV1_s, gI_i, vcase_b]
    simp
  · obtain ⟨h', e1, e2, e3, e4⟩ := r_mark (k := k) (ob := some b) w1 hl
    exact ⟨h', e1, Own.rep (ob := some b) e2, e3, fun c hc => e4 c (by simpa using fun hh => hc (by simp [hh]))⟩

/-! loops that mark the rows of a slice -/
section
variable {α : Type} (cs : α → List S) (mk : Nat → α → α) (sz : α → Nat)
def mkAll : Nat → List α → List α
  | _, [] => []
  | k, a :: xs => mk k a :: mkAll (k + sz a) xs
def szAll : List α → Nat
  | [] => 0
  | a :: xs => sz a + szAll xs
theorem mkAll_len : ∀ (k : Nat) (xs : List α), (mkAll mk sz k xs).length = xs.length
  | _, [] => rfl
  | k, a :: xs => by simp [mkAll, mkAll_len]
/-- one round: the row in its place is marked -/
def MarkStep (z b d : Nat) (L : Nat → Nat → H → Option LOut) : Prop := ∀ (i k : Nat) (a : α) (h : H) (pre ys post : List S) (bs : List Nat), pre.length = i * z → ys.length = z → k + sz a < 2 ^ 62 → b < h.n →
  h.g b = .rw z (pre ++ ys ++ post) → RepL (Rep h d) ys (cs a) bs → bs.Nodup → b ∉ bs →
  ∃ h' ys', L k i h = L (k + sz a) (i + 1) h' ∧ h'.n = h.n ∧ ys'.length = z ∧ h'.g b = .rw z (pre ++ ys' ++ post) ∧ RepL (Rep h' d) ys' (cs (mk k a)) bs ∧ ∀ c, c ≠ b → c ∉ bs → h'.g c = h.g c ∧ h'.v c = h.v c
variable {cs mk sz}
theorem mark_loop {z b d : Nat} {L : Nat → Nat → H → Option LOut} {n : Nat} {fin : Nat → List V} (step : ∀ (i k : Nat) (a : α) (h : H) (pre ys post : List S) (bs : List Nat), i < n → pre.length = i * z → ys.length = z → k + sz a < 2 ^ 62 → b < h.n →
    h.g b = .rw z (pre ++ ys ++ post) → RepL (Rep h d) ys (cs a) bs → bs.Nodup → b ∉ bs →
    ∃ h' ys', L k i h = L (k + sz a) (i + 1) h' ∧ h'.n = h.n ∧ ys'.length = z ∧ h'.g b = .rw z (pre ++ ys' ++ post) ∧ RepL (Rep h' d) ys' (cs (mk k a)) bs ∧ ∀ c, c ≠ b → c ∉ bs → h'.g c = h.g c ∧ h'.v c = h.v c)
    (last : ∀ k h, L k n h = some (.done (fin k) h)) :
    ∀ (xs : List α) (i k : Nat) (h : H) (pre ys : List S) (bs : List Nat), (∀ a ∈ xs, (cs a).length = z) → i + xs.length = n → pre.length = i * z → k + szAll sz xs < 2 ^ 62 → b < h.n → h.g b = .rw z (pre ++ ys) → RepL (Rep h d) ys (xs.map cs).flatten bs → bs.Nodup → b ∉ bs →
    ∃ h' ys', L k i h = some (.done (fin (k + szAll sz xs)) h') ∧ h'.n = h.n ∧ h'.g b = .rw z (pre ++ ys') ∧ RepL (Rep h' d) ys' ((mkAll mk sz k xs).map cs).flatten bs ∧ ∀ c, c ≠ b → c ∉ bs → h'.g c = h.g c ∧ h'.v c = h.v c
  | [], i, k, h, pre, ys, bs, hz, hi, hp, hk, hb, hg, w, hd, hn => by
    obtain rfl : i = n := by simpa using hi
    refine ⟨h, ys, ?_, rfl, hg, ?_, fun _ _ _ => ⟨rfl, rfl⟩⟩
    · rw [last]; rfl
    · exact w
  | a :: xs, i, k, h, pre, ys, bs, hz, hi, hp, hk, hb, hg, w, hd, hn => by
    simp only [List.map_cons, List.flatten_cons] at w
    obtain ⟨y1, y2, b1, b2, rfl, rfl, w1, w2⟩ := w.split
    have hza := hz a (by simp)
    simp only [szAll] at hk
    simp only [List.length_cons] at hi
    have hd' := List.nodup_append.1 hd
    obtain ⟨h1, ys1, e1, n1, l1, g1, r1, o1⟩ := step i k a h pre y1 y2 b1 (by omega) hp (w1.len.trans hza) (by omega) hb (by rw [hg, List.append_assoc]) w1 hd'.1 (fun hh => hn (by simp [hh]))
    have w2' : RepL (Rep h1 d) y2 (xs.map cs).flatten b2 := w2.frame fun c hc => by
      have hcb : c ≠ b := fun hh => hn (by simp [← hh, hc])
      exact ⟨by rw [n1]; exact w2.lt c hc, (o1 c hcb fun hh => hd'.2.2 c hh c hc rfl).1⟩
    obtain ⟨h2, ys2, e2, n2, g2, r2, o2⟩ := mark_loop step last xs (i + 1) (k + sz a) h1 (pre ++ ys1) y2 b2 (fun a ha => hz a (by simp [ha])) (by omega) (by rw [List.length_append, hp, l1, Nat.succ_mul]) (by omega) (by rw [n1]; exact hb) g1 w2' hd'.2.1 (fun hh => hn (by simp [hh]))
    refine ⟨h2, ys1 ++ ys2, ?_, by rw [n2, n1], by rw [g2, List.append_assoc], ?_, fun c hc hcb => ?_⟩
    · rw [e1, e2]; simp only [szAll]; rw [Nat.add_assoc]
    · simp only [mkAll, List.map_cons, List.flatten_cons]
      refine (r1.frame fun c hc => ?_).append r2
      have hcb : c ≠ b := fun hh => hn (by simp [← hh, hc])
      exact ⟨by rw [n2]; exact r1.lt c hc, (o2 c hcb fun hh => hd'.2.2 c hc c hh rfl).1⟩
    · have a1 := o1 c hc fun hh => hcb (by simp [hh])
      have a2 := o2 c hc fun hh => hcb (by simp [hh])
      exact ⟨a2.1.trans a1.1, a2.2.trans a1.2⟩
/-- a whole slice is marked -/
theorem Rep.marks {z d : Nat} {y : S} {xs : List α} {bs : List Nat} {h : H} {k : Nat} {Lv : V → Nat → Nat → H → Option LOut} {fin : Nat → List V} (hz0 : 0 < z) (hz : ∀ a, (cs a).length = z) (w : Rep h (d + 1) y (.fs (xs.map cs)) bs) (hd : bs.Nodup) (hk : k + szAll sz xs < 2 ^ 62)
    (step : ∀ (b i k : Nat) (a : α) (h : H) (pre ys post : List S) (bs : List Nat), i < xs.length → pre.length = i * z → ys.length = z → k + sz a < 2 ^ 62 → b < h.n →
      h.g b = .rw z (pre ++ ys ++ post) → RepL (Rep h d) ys (cs a) bs → bs.Nodup → b ∉ bs →
      ∃ h' ys', Lv (sv b 0 xs.length) k i h = Lv (sv b 0 xs.length) (k + sz a) (i + 1) h' ∧ h'.n = h.n ∧ ys'.length = z ∧ h'.g b = .rw z (pre ++ ys' ++ post) ∧ RepL (Rep h' d) ys' (cs (mk k a)) bs ∧ ∀ c, c ≠ b → c ∉ bs → h'.g c = h.g c ∧ h'.v c = h.v c)
    (last : ∀ o k h, Lv (.s (.sl o xs.length)) k xs.length h = some (.done (fin k) h)) :
    ∃ h', Lv (.s y) k 0 h = some (.done (fin (k + szAll sz xs)) h') ∧ Rep h' (d + 1) y (.fs ((mkAll mk sz k xs).map cs)) bs ∧ h'.n = h.n ∧ ∀ c, c ∉ bs → h'.g c = h.g c ∧ h'.v c = h.v c := by
  have base : xs = [] → ∀ o, y = .sl o 0 → ∃ h', Lv (.s y) k 0 h = some (.done (fin (k + szAll sz xs)) h') ∧ Rep h' (d + 1) y (.fs ((mkAll mk sz k xs).map cs)) bs ∧ h'.n = h.n ∧ ∀ c, c ∉ bs → h'.g c = h.g c ∧ h'.v c = h.v c := by
    rintro rfl o rfl
    exact ⟨h, last o k h, w, rfl, fun _ _ => ⟨rfl, rfl⟩⟩
  rcases w with ⟨⟨h1, h2⟩ | ⟨h1, h2⟩, h3⟩ | ⟨b, z', ys, rows, bss, h1, h0, h2, h3, h4, h5, h6, h7⟩
  · rw [← h2] at h1; exact h1.elim
  · injection h2 with h2
    exact base (List.eq_nil_of_length_eq_zero (by simpa using congrArg List.length h2)) none h1
  · injection h0 with h0
    by_cases has : xs = []
    · refine base has (some (b, 0)) ?_
      rw [h1, ← h0, has]; rfl
    · have hzz : z' = z := by
        obtain ⟨a, xs', rfl⟩ := List.exists_cons_of_ne_nil has
        have := h6 (cs a) (by rw [← h0]; simp)
        rw [← this, hz]
      subst hzz
      subst h0
      subst h2
      have hlen : (xs.map cs).length = xs.length := by simp
      rw [hlen] at h1
      subst h1
      have hd2 := List.nodup_cons.1 hd
      obtain ⟨h', ys', e1, n1, g1, r1, o1⟩ := mark_loop (cs := cs) (mk := mk) (sz := sz) (fin := fin) (L := Lv (sv b 0 xs.length)) (n := xs.length) (step b) (fun k h => last _ k h) xs 0 k h [] ys bss (fun a _ => hz a) (by simp) (by simp) hk h3 (by simpa using h5) h7 hd2.2 hd2.1
      refine ⟨h', e1, ?_, n1, fun c hc => ?_⟩
      · have := Rep.sl (d := d) (h := h') (b := b) (z := z') (rows := (mkAll mk sz k xs).map cs) (bss := bss) (by rw [n1]; exact h3) hz0 (by simpa using g1) (fun r hr => by
          obtain ⟨a, _, rfl⟩ := List.mem_map.1 hr
          exact hz a) r1
        simpa [mkAll_len] using this
      · exact o1 c (fun hh => hc (by simp [hh])) (fun hh => hc (by simp [hh]))
end
end Vm
