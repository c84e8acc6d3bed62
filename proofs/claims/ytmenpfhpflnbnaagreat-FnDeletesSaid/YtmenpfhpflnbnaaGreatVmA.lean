/-
  What the values and the heap of the small machine stand for in a world of the model.
-/
import Derived.Test.YtmenpfhpflnbnaaGreatVm
import Derived.WalkKit
import Derived.Laws.CopyRow
import Derived.Laws.Cells
import Derived.Laws.Entries
import Derived.LoopN
set_option linter.unusedVariables false
open Array renaming getElem?_eq_some_iff->FN
open List renaming getElem?_eq_some_iff->HF,take_succ_eq_append_getElem->DP
open Option renaming bind_eq_some_iff->Hv
namespace Vm
open Go
structure BI where
 blk : Nat
 off : Nat
 e : Nat
 top : Nat
structure Rho where
 bl : List BI
 mu : Nat -> Option (Array Value)
@[reducible] def Rho.push (ρ : Rho) (i : BI) : Rho := ⟨ρ.bl ++ [i], ρ.mu⟩
inductive FzR (mu : Nat -> Option (Array Value)) : S -> Value -> Prop
 | bool (b : Bool) : FzR mu (.bool b) (.bool b)
 | int (k : IntKind) (n : Int) : FzR mu (.int k n) (.int k n)
 | str (s : ByteArray) : FzR mu (.str s) (.string s)
 | nil : FzR mu (.ptr none) (.pointer none)
 | nofn : FzR mu .nofn .nilFunc
 | fn (f : Nat) : FzR mu (.fn f []) (.func (.func f) #[] #[])
 | fs0 (a : Option Addr) (cap : Nat) : FzR mu (.fs []) (.slice a 0 cap)
 | fs {rows : List (List S)} {blk off cap z : Nat} {cells : Array Value} {ys : Nat -> Value} (hm : mu blk = some cells) (h0 : rows ≠ []) (hz : ∀ r ∈ rows, r.length = z) (hc : rows.length <= cap)
   (h1 : ∀ j s, rows.flatten[j]? = some s -> cells[off + j]? = some (ys j)) (h2 : ∀ j s, rows.flatten[j]? = some s -> FzR mu s (ys j)) : FzR mu (.fs rows) (.slice (some ⟨blk, off, none⟩) rows.length cap)
 | fp {row : List S} {blk off o : Nat} {cells : Array Value} {ys : Nat -> Value} (hm : mu blk = some cells)
   (h1 : ∀ j s, row[j]? = some s -> cells[off + j]? = some (ys j)) (h2 : ∀ j s, row[j]? = some s -> FzR mu s (ys j)) : FzR mu (.fp row o) (.pointer (some ⟨blk, off + o, none⟩))
theorem FzR.mono {mu mu' : Nat -> Option (Array Value)} (hl : ∀ k a, mu k = some a -> mu' k = some a) {s : S} {x : Value} (h : FzR mu s x) : FzR mu' s x := by
 induction h with
 | bool b => exact .bool b
 | int k n => exact .int k n
 | str s => exact .str s
 | nil => exact .nil
 | nofn => exact .nofn
 | fn f => exact .fn f
 | fs0 a cap => exact .fs0 a cap
 | fs hm h0 hz hc h1 h2 ih => exact .fs (hl _ _ hm) h0 hz hc h1 ih
 | fp hm h1 h2 ih => exact .fp (hl _ _ hm) h1 ih
def CR (ρ : Rho) : List (Nat × Nat) -> List Value -> Prop
 | [], [] => True
 | (b, o) :: r, v :: l => (∃ i, ρ.bl[b]? = some i /\ v = .pointer (some ⟨i.blk, i.off + o, none⟩)) /\ CR ρ r l
 | _, _ => False
def SR (ρ : Rho) : S -> Value -> Prop
 | .no, _ => False
 | .bool b, x => x = .bool b
 | .int k n, x => x = .int k n
 | .str s, x => x = .string s
 | .ptr none, x => x = .pointer none
 | .ptr (some (b, o)), x => ∃ i, ρ.bl[b]? = some i /\ x = .pointer (some ⟨i.blk, i.off + o, none⟩)
 | .sl none n, x => n = 0 /\ x = .slice none 0 0
 | .sl (some (b, o)) n, x => ∃ i a cap, ρ.bl[b]? = some i /\ x = .slice (some a) n cap /\ n <= cap /\ (cap ≠ 0 -> a = ⟨i.blk, i.off + o, none⟩) /\ (i.e ≠ 0 -> cap ≠ 0 -> i.off + o + cap * i.e <= i.top)
 | .fn f cap, x => ∃ xs : Array Value, x = .func (.func f) #[] xs /\ CR ρ cap xs.toList
 | .nofn, x => x = .nilFunc
 | .fs rows, x => FzR ρ.mu (.fs rows) x
 | .fp row o, x => FzR ρ.mu (.fp row o) x
 | .mp (some b), x => ∃ i, ρ.bl[b]? = some i /\ x = .map (some i.blk)
 | .mp none, x => x = .map none
def SRs (ρ : Rho) : List S -> List Value -> Prop
 | [], [] => True
 | s :: r, x :: l => SR ρ s x /\ SRs ρ r l
 | _, _ => False
def AR (ρ : Rho) : A -> Value -> Prop
 | .s x, v => (isNo x = false -> SR ρ x v)
 | .agg cs, v => ∃ xs : Array Value, v = .agg xs /\ SRs ρ cs xs.toList
def ARs (ρ : Rho) : List A -> List Value -> Prop
 | [], [] => True
 | s :: r, x :: l => AR ρ s x /\ ARs ρ r l
 | _, _ => False
def VR (ρ : Rho) : V -> Value -> Prop
 | .s x, v => (isNo x = false -> SR ρ x v)
 | .agg cs, v => ∃ xs : Array Value, v = .agg xs /\ SRs ρ cs xs.toList
 | .tup vs, v => ∃ xs : Array Value, v = .tuple xs /\ ARs ρ vs xs.toList
def VRs (ρ : Rho) : List V -> List Value -> Prop
 | [], [] => True
 | s :: r, x :: l => VR ρ s x /\ VRs ρ r l
 | _, _ => False
def Le (ρ ρ' : Rho) : Prop := (∀ (b : Nat) (i : BI), ρ.bl[b]? = some i -> ρ'.bl[b]? = some i) /\ ∀ k a, ρ.mu k = some a -> ρ'.mu k = some a
theorem Le.refl (ρ : Rho) : Le ρ ρ := ⟨fun _ _ h => h, fun _ _ h => h⟩
theorem Le.trans {a b c : Rho} (h : Le a b) (g : Le b c) : Le a c := ⟨fun i x hx => g.1 i x (h.1 i x hx), fun i x hx => g.2 i x (h.2 i x hx)⟩
theorem Le.push (ρ : Rho) (i : BI) : Le ρ (ρ.push i) := ⟨fun b x h => by
 have hb : b < ρ.bl.length := (HF.1 h).1;show (ρ.bl ++ [i])[b]? = _;rw [List.getElem?_append_left hb]; exact h, fun _ _ h => h⟩
theorem CR.mono {ρ ρ' : Rho} (hl : Le ρ ρ') : ∀ {c : List (Nat × Nat)} {l : List Value}, CR ρ c l -> CR ρ' c l
 | [], [], _ => trivial
 | (b, o) :: r, v :: l, ⟨⟨i, h1, h2⟩, h3⟩ => ⟨⟨i, hl.1 _ _ h1, h2⟩, CR.mono hl h3⟩
 | [], _ :: _, h => h.elim
 | _ :: _, [], h => h.elim
theorem SR.mono {ρ ρ' : Rho} (hl : Le ρ ρ') {s : S} {x : Value} (h : SR ρ s x) : SR ρ' s x := by
 cases s with
 | no => exact h
 | bool b => exact h
 | int k n => exact h
 | str s => exact h
 | nofn => exact h
 | ptr a => cases a with
  | none => exact h
  | some p => obtain ⟨i, h1, h2⟩ := h; exact ⟨i, hl.1 _ _ h1, h2⟩
 | sl a n => cases a with
  | none => exact h
  | some p => obtain ⟨i, o, c, h1, h2⟩ := h; exact ⟨i, o, c, hl.1 _ _ h1, h2⟩
 | fn f c => obtain ⟨xs, h1, h2⟩ := h; exact ⟨xs, h1, h2.mono hl⟩
 | fs rows => exact FzR.mono hl.2 h
 | fp row o => exact FzR.mono hl.2 h
 | mp b => cases b with
  | none => exact h
  | some b => obtain ⟨i, h1, h2⟩ := h; exact ⟨i, hl.1 _ _ h1, h2⟩
theorem SRs.mono {ρ ρ' : Rho} (hl : Le ρ ρ') : ∀ {c : List S} {l : List Value}, SRs ρ c l -> SRs ρ' c l
 | [], [], _ => trivial
 | _ :: _, _ :: _, ⟨h1, h3⟩ => ⟨h1.mono hl, SRs.mono hl h3⟩
 | [], _ :: _, h => h.elim
 | _ :: _, [], h => h.elim
theorem AR.mono {ρ ρ' : Rho} (hl : Le ρ ρ') {s : A} {x : Value} (h : AR ρ s x) : AR ρ' s x := by
 cases s with
 | s x => exact fun hn => (h hn).mono hl
 | agg cs => obtain ⟨xs, h1, h2⟩ := h; exact ⟨xs, h1, h2.mono hl⟩
theorem ARs.mono {ρ ρ' : Rho} (hl : Le ρ ρ') : ∀ {c : List A} {l : List Value}, ARs ρ c l -> ARs ρ' c l
 | [], [], _ => trivial
 | _ :: _, _ :: _, ⟨h1, h3⟩ => ⟨h1.mono hl, ARs.mono hl h3⟩
 | [], _ :: _, h => h.elim
 | _ :: _, [], h => h.elim
theorem VR.mono {ρ ρ' : Rho} (hl : Le ρ ρ') {s : V} {x : Value} (h : VR ρ s x) : VR ρ' s x := by
 cases s with
 | s x => exact fun hn => (h hn).mono hl
 | agg cs => obtain ⟨xs, h1, h2⟩ := h; exact ⟨xs, h1, h2.mono hl⟩
 | tup vs => obtain ⟨xs, h1, h2⟩ := h; exact ⟨xs, h1, h2.mono hl⟩
theorem SR.one {ρ : Rho} {s : S} {x : Value} (h : SR ρ s x) : x.oneCell' = true := by
 cases s with
 | no => exact h.elim
 | bool b => cases h; rfl
 | int k n => cases h; rfl
 | str s => cases h; rfl
 | nofn => cases h; rfl
 | ptr a => cases a with
  | none => cases h; rfl
  | some p => obtain ⟨i, h1, rfl⟩ := h; rfl
 | sl a n => cases a with
  | none => obtain ⟨_, rfl⟩ := h; rfl
  | some p => obtain ⟨i, o, c, h1, rfl, _⟩ := h; rfl
 | fn f c => obtain ⟨xs, rfl, h2⟩ := h; rfl
 | fs rows => cases (show FzR ρ.mu (.fs rows) x from h) <;> rfl
 | fp row o => cases (show FzR ρ.mu (.fp row o) x from h); rfl
 | mp b => cases b with
  | none => cases h; rfl
  | some b => obtain ⟨i, h1, rfl⟩ := h; rfl
theorem SR.cells {ρ : Rho} {s : S} {x : Value} (h : SR ρ s x) : x.cells = #[x] := by
 have := h.one
 cases x <;> first | rfl | (simp [Value.oneCell'] at this)
theorem SRs.length {ρ : Rho} : ∀ {c : List S} {l : List Value}, SRs ρ c l -> l.length = c.length
 | [], [], _ => rfl
 | _ :: _, _ :: _, ⟨_, h⟩ => by simp [h.length]
 | [], _ :: _, h => h.elim
 | _ :: _, [], h => h.elim
theorem SRs.one {ρ : Rho} : ∀ {c : List S} {l : List Value}, SRs ρ c l -> ∀ v ∈ l, v.oneCell' = true
 | [], [], _, v, hv => by simp at hv
 | _ :: _, _ :: _, ⟨h1, h2⟩, v, hv => by
  rcases List.mem_cons.1 hv with rfl | hv
  · exact h1.one
  · exact h2.one v hv
 | [], _ :: _, h, _, _ => h.elim
 | _ :: _, [], h, _, _ => h.elim
theorem SRs.get {ρ : Rho} : ∀ {c : List S} {l : List Value}, SRs ρ c l -> ∀ {j : Nat} {s : S}, c[j]? = some s -> ∃ x, l[j]? = some x /\ SR ρ s x
 | [], [], _, j, s, hj => by simp at hj
 | s :: _, x :: _, ⟨h1, h2⟩, 0, s', hj => by simp at hj; subst hj; exact ⟨x, rfl, h1⟩
 | s :: _, x :: _, ⟨h1, h2⟩, j + 1, s', hj => by simp at hj ⊢; exact h2.get hj
 | [], _ :: _, h, _, _, _ => h.elim
 | _ :: _, [], h, _, _, _ => h.elim
theorem SRs.of_get {ρ : Rho} : ∀ {c : List S} {l : List Value}, l.length = c.length -> (∀ (j : Nat) (s : S), c[j]? = some s -> ∃ x, l[j]? = some x /\ SR ρ s x) -> SRs ρ c l
 | [], [], _, _ => trivial
 | s :: r, x :: l, hl, h => by
  refine ⟨?_, SRs.of_get (by simpa using hl) fun j s hj => ?_⟩
  ·obtain ⟨y, hy, hs⟩ := h 0 s rfl
   simp at hy; subst hy; exact hs
  ·obtain ⟨y, hy, hs⟩ := h (j + 1) s (by simpa using hj)
   exact ⟨y, by simpa using hy, hs⟩
 | [], _ :: _, hl, _ => by simp at hl
 | _ :: _, [], hl, _ => by simp at hl
theorem SRs.append {ρ : Rho} : ∀ {c : List S} {l : List Value} {c' : List S} {l' : List Value}, SRs ρ c l -> SRs ρ c' l' -> SRs ρ (c ++ c') (l ++ l')
 | [], [], _, _, _, h => h
 | _ :: _, _ :: _, _, _, ⟨h1, h3⟩, h => ⟨h1, h3.append h⟩
 | [], _ :: _, _, _, h, _ => h.elim
 | _ :: _, [], _, _, h, _ => h.elim
theorem SRs.take {ρ : Rho} : ∀ {c : List S} {l : List Value} (n : Nat), SRs ρ c l -> SRs ρ (c.take n) (l.take n)
 | [], [], n, h => by simpa using h
 | _ :: _, _ :: _, 0, h => by simp [SRs]
 | _ :: _, _ :: _, n + 1, ⟨h1, h2⟩ => by simp only [List.take_succ_cons]; exact ⟨h1, h2.take n⟩
 | [], _ :: _, _, h => h.elim
 | _ :: _, [], _, h => h.elim
theorem SRs.drop {ρ : Rho} : ∀ {c : List S} {l : List Value} (n : Nat), SRs ρ c l -> SRs ρ (c.drop n) (l.drop n)
 | [], [], n, h => by simpa using h
 | _ :: _, _ :: _, 0, h => h
 | _ :: _, _ :: _, n + 1, ⟨h1, h2⟩ => by simp only [List.drop_succ_cons]; exact h2.drop n
 | [], _ :: _, _, h => h.elim
 | _ :: _, [], _, h => h.elim
theorem VR.cells {ρ : Rho} {v : V} {x : Value} {cs : List S} (h : VR ρ v x) (hc : cellsOf v = some cs) : SRs ρ cs x.cells.toList := by
 cases v with
 | s s =>
  cases s with
  | no => simp [cellsOf] at hc
  | _ =>
   simp [cellsOf] at hc; subst hc;have h' := h rfl;rw [h'.cells];exact ⟨h', trivial⟩
 | agg l =>
  simp [cellsOf] at hc; subst hc;obtain ⟨xs, rfl, h⟩ := h;exact h
 | tup vs => simp [cellsOf] at hc
section
variable {R : Type}
theorem Tc (z : Nat) (v i : V) (k : V -> Option R) : Qd z v i k = (zi z v i).bind k := by
 unfold Qd
 split
 ·rename_i rows kk j
  unfold QB;simp only [zi]
  split
  ·cases h : rows[j.toNat]? with
   | none => rfl
   | some r =>
    simp only [Option.bind_some]
    split <;> rfl
  · rfl
 · rfl
theorem qy (z : Nat) (hp : H) (x : V) (lo hi : Option V) (k : V -> Option R) : slK z hp x lo hi k = (slS z hp x lo hi).bind k := by
 unfold slK
 split
 ·unfold slF
  simp only [slS, Option.bind_assoc]
  congr 1; funext h
  congr 1; funext l
  split <;> rfl
 · rfl
theorem qp (z : Nat) (h : H) (p v : V) (k : H -> Option R) : stK z h p v k = (stV z h p v).bind k := by
 unfold stK stV
 split
 ·rename_i x
  split
  ·unfold j5 vC
   split
   ·rename_i b o
    by_cases hb : b < h.n
    ·rw [if_pos hb]
     cases hx : isNo x with
     | true =>
      rw [if_neg (by simp)]
      split
      · split <;> rfl
      · rfl
     | false =>
      rw [if_pos ⟨hb, rfl⟩]
      split
      · split <;> rfl
      · rfl
    · rw [if_neg hb, if_neg (fun hh => hb hh.1)]; rfl
   · rfl
  · rfl
 ·unfold j4 vB
  split
  ·split
   ·split
    · split <;> rfl
    · rfl
   · rfl
  · rfl
 · rfl
theorem UA (v : V) (k : List S -> Option R) : X1 v k = (cellsOf v).bind k := by
 unfold X1 cellsOf
 cases v with
 | s x => cases x <;> rfl
 | agg cs => rfl
 | tup vs => rfl
theorem Q0Y {k : IntKind} {x : S} {q : Int -> Option R} {r : R} (h : gI k x q = some r) : ∃ n, x = .int k n /\ q n = some r := by
 unfold gI at h
 split at h
 ·split at h
  · rename_i hk; subst hk; exact ⟨_, rfl, h⟩
  · cases h
 · cases h
theorem BU {l : LK} {x : S} {q : S -> Option R} {r : R} (h : tyS l x q = some r) : q x = some r := by
 unfold tyS at h
 split at h
 · obtain ⟨n, rfl, h2⟩ := Q0Y h; exact h2
 ·unfold gB at h
  split at h
  · exact h
  · cases h
 ·unfold gS at h
  split at h
  · exact h
  · cases h
 · exact h
 ·unfold gF at h
  split at h
  · exact h
  · cases h
theorem BW : ∀ {ls : List LK} {cs : List S} {j : Nat} {acc : List S} {q : List S -> Option R} {r : R}, tyL ls cs j acc q = some r -> acc = cs.take j -> q cs = some r
 | [], cs, j, acc, q, r, h, ha => by
  simp only [tyL] at h
  split at h
  ·rename_i hl
   rw [ha, <- hl, List.take_length] at h; exact h
  · cases h
 | l :: ls, cs, j, acc, q, r, h, ha => by
  simp only [tyL, Hv] at h;obtain ⟨x, h1, h2⟩ := h;refine BW (BU h2) ?_;obtain ⟨hlt, he⟩ := HF.1 h1;rw [DP hlt, he, ha]
theorem va {t : List LK × Bool} {a : A} {q : A -> Option R} {r : R} (h : tyA t a q = some r) : q a = some r := by
 unfold tyA at h
 split at h
 ·unfold gA1 at h
  split at h
  · exact BU h
  · cases h
 ·unfold gAA at h
  split at h
  · exact BW h rfl
  · cases h
 · cases h
theorem TO : ∀ {ts : List (List LK × Bool)} {as : List A} {j : Nat} {acc : List A} {q : List A -> Option R} {r : R}, MQ ts as j acc q = some r -> acc = as.take j -> q as = some r
 | [], as, j, acc, q, r, h, ha => by
  simp only [MQ] at h
  split at h
  ·rename_i hl
   rw [ha, <- hl, List.take_length] at h; exact h
  · cases h
 | t :: ts, as, j, acc, q, r, h, ha => by
  simp only [MQ, Hv] at h;obtain ⟨x, h1, h2⟩ := h;refine TO (va h2) ?_;obtain ⟨hlt, he⟩ := HF.1 h1;rw [DP hlt, he, ha]
theorem XM {t : VT} {v : V} {q : V -> Option R} {r : R} (h : tyV t v q = some r) : q v = some r := by
 unfold tyV at h
 split at h
 · exact h
 ·unfold gV1 at h
  split at h
  · exact BU h
  · cases h
 ·unfold gVA at h
  split at h
  · exact BW h rfl
  · cases h
 ·unfold gVT at h
  split at h
  · exact TO h rfl
  · cases h
theorem ud {t : VT} {ti : TI} {h : H} {a : V} {k : V -> Option R} {r : R} (hk : ldK t ti h a k = some r) : ldT ti h a k = some r := by
 have key : ∀ {b : V}, ldT ti h b (fun v => tyV t v k) = some r -> ldT ti h b k = some r := by
  intro b hb;unfold ldT at hb ⊢
  revert hb
  cases ti.agg
  ·simp only [cond_false, Hv]
   rintro ⟨x, h1, h2⟩
   exact ⟨x, h1, XM h2⟩
  ·simp only [cond_true, Hv]
   rintro ⟨x, h1, h2⟩
   exact ⟨x, h1, XM h2⟩
 unfold ldK at hk
 split at hk
 · exact key hk
 · exact hk
end
def IO (w' w : World) : Prop := w'.os = w.os /\ w'.tape = w.tape /\ w'.output = w.output
theorem IO.trans {a b c : World} (h : IO a b) (g : IO b c) : IO a c := ⟨h.1.trans g.1, h.2.1.trans g.2.1, h.2.2.trans g.2.2⟩
def FzW (mu : Nat -> Option (Array Value)) (w : World) : Prop := ∀ k a, mu k = some a -> ∃ c el fr, w.heap[k]? = some (.cells c el fr) /\ ∀ (j : Nat) y, a[j]? = some y -> c[j]? = some y
theorem FzW.heap {mu : Nat -> Option (Array Value)} {w w' : World} (h : FzW mu w) (hw : w'.heap = w.heap) : FzW mu w' := fun k a hk => by rw [hw]; exact h k a hk
theorem FzW.cell {mu : Nat -> Option (Array Value)} {w : World} (h : FzW mu w) {k j : Nat} {a : Array Value} {y : Value} (hk : mu k = some a) (hj : a[j]? = some y) : w.cell? ⟨k, j, none⟩ = some y := by
 obtain ⟨c, el, fr, h1, h2⟩ := h k a hk;unfold World.cell?; simp [h1, h2 j y hj]
structure St where
 w : World
 mu : Nat -> Option (Array Value)
def PSR : S -> Value -> Prop
 | .bool b, x => x = .bool b
 | .int k n, x => x = .int k n
 | .str s, x => x = .string s
 | _, _ => False
def WU : List S -> List Value -> Prop
 | [], [] => True
 | s :: r, x :: l => PSR s x /\ WU r l
 | _, _ => False
def PAR : A -> Value -> Prop
 | .s x, v => PSR x v
 | .agg cs, v => ∃ xs : Array Value, v = .agg xs /\ WU cs xs.toList
def EsR : List (List S × A) -> List MapEntry -> Prop
 | [], [] => True
 | e :: r, m :: l => (∃ xs : Array Value, m.key = .agg xs /\ WU e.1 xs.toList) /\ PAR e.2 m.val /\ EsR r l
 | _, _ => False
theorem PSR.sr {ρ : Rho} {s : S} {x : Value} (h : PSR s x) : SR ρ s x := by cases s <;> first | exact h.elim | exact h
theorem WU.sr {ρ : Rho} : ∀ {c : List S} {l : List Value}, WU c l -> SRs ρ c l
 | [], [], _ => trivial
 | _ :: _, _ :: _, ⟨h1, h2⟩ => ⟨h1.sr, WU.sr h2⟩
 | [], _ :: _, h => h.elim
 | _ :: _, [], h => h.elim
theorem PAR.ar {ρ : Rho} {a : A} {x : Value} (h : PAR a x) : AR ρ a x := by
 cases a with
 | s s => exact fun _ => PSR.sr h
 | agg cs => obtain ⟨xs, h1, h2⟩ := h; exact ⟨xs, h1, h2.sr⟩
theorem SR.ps {ρ : Rho} {s : S} {x : Value} (h : SR ρ s x) (hp : plS s = true) : PSR s x := by cases s <;> first | exact h | (simp [plS] at hp; done)
theorem SRs.ps {ρ : Rho} : ∀ {c : List S} {l : List Value}, SRs ρ c l -> c.all plS = true -> WU c l
 | [], [], _, _ => trivial
 | _ :: _, _ :: _, ⟨h1, h2⟩, hp => by
  simp only [List.all_cons, Bool.and_eq_true] at hp;exact ⟨h1.ps hp.1, SRs.ps h2 hp.2⟩
 | [], _ :: _, h, _ => h.elim
 | _ :: _, [], h, _ => h.elim
theorem AR.ps {ρ : Rho} {a : A} {x : Value} (h : AR ρ a x) (hp : plA a = true) : PAR a x := by
 cases a with
 | s s => exact (h (by cases s <;> first | rfl | (simp [plA, plS] at hp; done))).ps hp
 | agg cs => obtain ⟨xs, h1, h2⟩ := h; exact ⟨xs, h1, h2.ps hp⟩
theorem EsR.length : ∀ {es : List (List S × A)} {l : List MapEntry}, EsR es l -> l.length = es.length
 | [], [], _ => rfl
 | _ :: _, _ :: _, ⟨_, _, h⟩ => by simp [EsR.length h]
 | [], _ :: _, h => h.elim
 | _ :: _, [], h => h.elim
theorem EsR.snoc : ∀ {es : List (List S × A)} {l : List MapEntry} {e : List S × A} {m : MapEntry}, EsR es l -> (∃ xs : Array Value, m.key = .agg xs /\ WU e.1 xs.toList) -> PAR e.2 m.val -> EsR (es ++ [e]) (l ++ [m])
 | [], [], _, _, _, h1, h2 => ⟨h1, h2, trivial⟩
 | _ :: _, _ :: _, _, _, ⟨a, b, h⟩, h1, h2 => ⟨a, b, EsR.snoc h h1 h2⟩
 | [], _ :: _, _, _, h, _, _ => h.elim
 | _ :: _, [], _, _, h, _, _ => h.elim
theorem EsR.set : ∀ {es : List (List S × A)} {l : List MapEntry} {e : List S × A} {m : MapEntry} (i : Nat), EsR es l -> (∃ xs : Array Value, m.key = .agg xs /\ WU e.1 xs.toList) -> PAR e.2 m.val -> EsR (es.set i e) (l.set i m)
 | [], [], _, _, _, _, _, _ => trivial
 | _ :: _, _ :: _, _, _, 0, ⟨a, b, h⟩, h1, h2 => ⟨h1, h2, h⟩
 | _ :: _, _ :: _, _, _, i + 1, ⟨a, b, h⟩, h1, h2 => ⟨a, b, EsR.set i h h1 h2⟩
 | [], _ :: _, _, _, _, h, _, _ => h.elim
 | _ :: _, [], _, _, _, h, _, _ => h.elim
structure Rel (W0 : St) (base : Nat) (ρ : Rho) (h : H) (w : World) : Prop where
 io : IO w W0.w
 len : ρ.bl.length = h.n
 bas : base <= w.heap.size
 old : ∀ (i : Nat), i < base -> w.heap[i]? = W0.w.heap[i]?
 low : ∀ k, k < base -> ρ.mu k = W0.mu k
 rw : ∀ (b : Nat) (i : BI) (e : Nat) (cs : List S), ρ.bl[b]? = some i -> h.g b = .rw e cs -> base <= i.blk /\ i.e = e /\ ∃ c el fr, w.heap[i.blk]? = some (.cells c el fr) /\ (fr = (0, 0) \/ c.size <= fr.1) /\ c.size = i.top /\ i.off + cs.length <= c.size /\ ∀ (j : Nat) (s : S), cs[j]? = some s -> ∃ y, c[i.off + j]? = some y /\ SR ρ s y
 fz : FzW ρ.mu w
 mp : ∀ (b : Nat) (i : BI) (es : List (List S × A)), ρ.bl[b]? = some i -> h.g b = .mp es -> base <= i.blk /\ ∃ ents clock, w.heap[i.blk]? = some (.map ents clock) /\ EsR es ents.toList
 sep0 : ∀ (b : Nat) (i : BI), ρ.bl[b]? = some i -> h.g b ≠ .dead -> ρ.mu i.blk = none
 inj0 : ∀ (b b' : Nat) (i i' : BI), ρ.bl[b]? = some i -> ρ.bl[b']? = some i' -> h.g b ≠ .dead -> h.g b' ≠ .dead -> b ≠ b' -> i.blk ≠ i'.blk
theorem Blk.live {x : Blk} {e : Nat} {cs : List S} (h : x = .rw e cs) : x ≠ .dead := by rw [h]; exact fun hh => by cases hh
theorem Blk.liveM {x : Blk} {es : List (List S × A)} (h : x = .mp es) : x ≠ .dead := by rw [h]; exact fun hh => by cases hh
section
variable {W0 : St} {base : Nat} {ρ : Rho} {h : H} {w : World}
theorem Rel.sep (r : Rel W0 base ρ h w) (b : Nat) (i : BI) (e : Nat) (cs : List S) (h1 : ρ.bl[b]? = some i) (h2 : h.g b = .rw e cs) : ρ.mu i.blk = none := r.sep0 b i h1 (Blk.live h2)
theorem Rel.liv (r : Rel W0 base ρ h w) {b : Nat} {i : BI} (h1 : ρ.bl[b]? = some i) (h2 : h.g b ≠ .dead) : base <= i.blk /\ i.blk < w.heap.size := by
 cases hg : h.g b with
 | dead => exact absurd hg h2
 | rw e cs => obtain ⟨a1, _, c, el, fr, a3, _⟩ := r.rw b i e cs h1 hg; exact ⟨a1, (FN.1 a3).1⟩
 | mp es => obtain ⟨a1, ents, cl, a3, _⟩ := r.mp b i es h1 hg; exact ⟨a1, (FN.1 a3).1⟩
end
def Frm (ρ : Rho) (h h' : H) (w w' : World) : Prop :=
 h.n <= h'.n /\ (∀ b, h.v b <= h'.v b) /\ (∀ b, b < h.n -> h'.v b = h.v b -> h'.g b = h.g b) /\
 ∀ (b : Nat) (i : BI), ρ.bl[b]? = some i -> h.g b ≠ .dead -> h'.v b = h.v b -> w'.heap[i.blk]? = w.heap[i.blk]?
theorem Frm.refl (ρ : Rho) (h : H) (w : World) : Frm ρ h h w w := ⟨Nat.le_refl _, fun _ => Nat.le_refl _, fun _ _ _ => rfl, fun _ _ _ _ _ => rfl⟩
theorem Frm.trans {ρ ρ' : Rho} {h h' h'' : H} {w w' w'' : World} (hl : Le ρ ρ') (hn : ρ.bl.length = h.n) (a : Frm ρ h h' w w') (b : Frm ρ' h' h'' w' w'') : Frm ρ h h'' w w'' := by
 obtain ⟨a1, a2, a3, a4⟩ := a;obtain ⟨b1, b2, b3, b4⟩ := b;refine ⟨Nat.le_trans a1 b1, fun i => Nat.le_trans (a2 i) (b2 i), fun i hi hv => ?_, fun i x hx hg hv => ?_⟩
 ·have e1 : h'.v i = h.v i := by have := a2 i; have := b2 i; omega
  have e2 : h''.v i = h'.v i := by omega
  rw [b3 i (by omega) e2, a3 i hi e1]
 ·have e1 : h'.v i = h.v i := by have := a2 i; have := b2 i; omega
  have e2 : h''.v i = h'.v i := by omega
  have hi : i < h.n := by rw [<- hn]; exact (HF.1 hx).1
  rw [b4 i x (hl.1 _ _ hx) (by rw [a3 i hi e1]; exact hg) e2]
  exact a4 i x hx hg e1
end Vm
