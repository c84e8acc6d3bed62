/-
  What the laws' helpers on bytes come to: a copy, a comparison, marks written and found again.
-/
import Derived.Test.YtfmkfefblbophaaEqs
import Derived.Test.YtfmkfefblbophaaDb
set_option linter.unusedVariables false
set_option maxRecDepth 100000
set_option linter.unusedSimpArgs false
namespace Vm
open Go

/-- all blocks but these hold what they held -/
def Off (h h' : H) (bs : List Nat) : Prop := h.n ≤ h'.n ∧ ∀ b, b < h.n → b ∉ bs → h'.g b = h.g b
theorem HExt.off {h h' : H} (x : HExt h h') (bs : List Nat) : Off h h' bs := ⟨x.1, fun b hb _ => (x.2 b hb).1⟩
theorem Off.trans {a b c : H} {bs : List Nat} (x : Off a b bs) (y : Off b c bs) : Off a c bs := ⟨Nat.le_trans x.1 y.1, fun i hi hm => (y.2 i (Nat.lt_of_lt_of_le hi x.1) hm).trans (x.2 i hi hm)⟩
theorem Off.refl (a : H) (bs : List Nat) : Off a a bs := ⟨Nat.le_refl _, fun _ _ _ => rfl⟩
theorem BysW.off {h h' : H} {bs : List Nat} (x : Off h h' bs) {v : V} {l : List UInt8} {b : Nat} (hb : BysW h v l b) (hm : b ∉ bs) : BysW h' v l b :=
  ⟨hb.v, Nat.lt_of_lt_of_le hb.n x.1, by rw [x.2 b hb.n hm]; exact hb.g⟩
theorem Off.cells {h h' : H} {bs : List Nat} (x : Off h h' bs) {b : Nat} (hb : b < h.n) (hm : b ∉ bs) : h'.cells b = h.cells b := by
  unfold H.cells
  rw [if_pos hb, if_pos (Nat.lt_of_lt_of_le hb x.1), x.2 b hb hm]

theorem mkSl_bytes {h : H} {n : Nat} (hn : n ≤ lim) : mkSl 1 [.int .u8 0] h (iv .i64 n) (iv .i64 n) = some (sv h.n 0 n, h.new 1 ((List.replicate n (0 : UInt8)).map cell8)) := by
  simp only [mkSl]
  rw [if_pos ⟨by omega, trivial, by omega, by omega, rfl⟩]
  simp [cell8]
theorem c_toByteS {h : H} {v : V} {l : List UInt8} (hv : Bys h v l) (hl : l.length ≤ lim) : ∃ h' w b, call Ev Fn.laws_toByteS [v] h = some (w, h') ∧ BysW h' w l b ∧ HExt h h' ∧ h.n ≤ b := by
  have hl' : l.length < 2 ^ 62 := by unfold lim at hl; omega
  have loop : ∀ (k i : Nat) (hh : H) (w : V) (m : List UInt8), i + k = l.length → m.length = l.length → (∀ j, j < i → m[j]? = l[j]?) → HExt h hh → BysW hh w m h.n →
      ∃ h', Lp.laws_toByteS 0 [v, w, iv .i64 i] hh = some (.done [w] h') ∧ HExt h h' ∧ BysW h' w l h.n := by
    intro k
    induction k with
    | zero =>
      intro i hh w m hi hm hj hx hw
      rw [eq_laws_toByteS_l0, (hv.mono hx).len, Option.bind_some, bin_lss, Option.bind_some, vcase_neg (by omega)]
      refine ⟨hh, rfl, hx, ?_⟩
      have : m = l := List.ext_getElem? fun j => by
        by_cases hjl : j < i
        · exact hj j hjl
        · rw [List.getElem?_eq_none (by omega), List.getElem?_eq_none (by omega)]
      rw [← this]; exact hw
    | succ k ih =>
      intro i hh w m hi hm hj hx hw
      rw [eq_laws_toByteS_l0, (hv.mono hx).len, Option.bind_some, bin_lss, Option.bind_some, vcase_pos (by omega), (hv.mono hx).get (by omega) (by omega)]
      obtain ⟨p, h1, e1, e2, w1, n1, x1, _⟩ := hw.set (k := .i64) (i := (i : Int)) (by omega) (by omega) (l.getD i 0) (n := bt l i) (by simp [bt])
      rw [e1, Option.bind_some, e2, Option.bind_some, w64 (by omega) (by omega), show (i : Int) + 1 = ((i + 1 : Nat) : Int) from by omega]
      refine ih (i + 1) h1 w _ (by omega) (by simpa using hm) (fun j hji => ?_) (x1 h hx (Nat.le_refl _)) w1
      simp only [Int.toNat_natCast]
      by_cases hjl : j = i
      · subst hjl
        rw [List.getElem?_set_self (by omega), List.getElem?_eq_getElem (by omega)]; simp [List.getD, show j < l.length by omega]
      · rw [List.getElem?_set_ne (by omega)]; exact hj j (by omega)
  rw [eq_laws_toByteS, hv.len, Option.bind_some, mkSl_bytes hl, Option.bind_some]
  obtain ⟨h', e, x, w⟩ := loop l.length 0 _ (sv h.n 0 l.length) (List.replicate l.length 0) (by omega) (by simp) (fun j hj => by omega) (HExt.refl h).new (BysW.newly h _ (by simp))
  rw [show iv .i64 0 = iv .i64 ((0 : Nat) : Int) from rfl, e, Option.bind_some]
  exact ⟨h', _, h.n, rfl, w, x, Nat.le_refl _⟩

theorem bt_ext {l m : List UInt8} (hl : l.length = m.length) (h : ∀ i : Nat, i < l.length → bt l i = bt m i) : l = m := by
  refine List.ext_getElem hl fun i h1 h2 => ?_
  have := h i h1
  simp only [bt, Int.toNat_natCast, List.getD, List.getElem?_eq_getElem h1, List.getElem?_eq_getElem h2, Option.getD_some] at this
  exact UInt8.toNat_inj.1 (by omega)
theorem c_eqByteS {h : H} {x y : V} {l m : List UInt8} (hx : Bys h x l) (hy : Bys h y m) (hl : l.length < 2 ^ 62) : call Ev Fn.laws_eqByteS [x, y] h = some (bv (decide (l = m)), h) := by
  rw [eq_laws_eqByteS, hx.len, Option.bind_some, hy.len, Option.bind_some, bin_neq, Option.bind_some]
  by_cases hlm : l.length = m.length
  case neg =>
    rw [vcase_pos (by omega)]
    rw [show decide (l = m) = false from by simp; intro e; exact hlm (by rw [e])]
  rw [vcase_neg (by omega)]
  have loop : ∀ (k i : Nat), i + k = l.length → (∀ j : Nat, j < i → bt l j = bt m j) → Lp.laws_eqByteS 0 [x, y, iv .i64 i] h = some (if l = m then .done [] h else .ret (bv false) h) := by
    intro k
    induction k with
    | zero =>
      intro i hi hj
      rw [eq_laws_eqByteS_l0, hx.len, Option.bind_some, bin_lss, Option.bind_some, vcase_neg (by omega), if_pos (bt_ext hlm fun j hjl => hj j (by omega))]
    | succ k ih =>
      intro i hi hj
      rw [eq_laws_eqByteS_l0, hx.len, Option.bind_some, bin_lss, Option.bind_some, vcase_pos (by omega), hx.get (by omega) (by omega), hy.get (by omega) (by omega), bin_neq, Option.bind_some]
      by_cases hb : bt l i = bt m i
      · rw [vcase_neg (by simpa using hb), w64 (by omega) (by omega), show (i : Int) + 1 = ((i + 1 : Nat) : Int) from by omega]
        refine ih (i + 1) (by omega) fun j hji => ?_
        by_cases hje : j = i
        · subst hje; exact hb
        · exact hj j (by omega)
      · rw [vcase_pos hb, if_neg (fun e => hb (by rw [e]))]
  rw [show iv .i64 0 = iv .i64 ((0 : Nat) : Int) from rfl, loop l.length 0 (by omega) (fun j hj => by omega), Option.bind_some]
  by_cases he : l = m <;> simp [he, lcase]

/-- bytes that are one's own: none at all, or a block -/
def Own (h : H) (v : V) (l : List UInt8) : Option Nat → Prop
  | none => v = .s (.sl none 0) ∧ l = []
  | some b => BysW h v l b
theorem Own.r {h : H} {v : V} {l : List UInt8} {ob : Option Nat} (x : Own h v l ob) : Bys h v l := by
  cases ob with
  | none => obtain ⟨rfl, rfl⟩ := x; exact Bys.nil h
  | some b => exact BysW.r x
theorem Own.off {h h' : H} {bs : List Nat} (o : Off h h' bs) {v : V} {l : List UInt8} {ob : Option Nat} (x : Own h v l ob) (hm : ∀ b, ob = some b → b ∉ bs) : Own h' v l ob := by
  cases ob with
  | none => exact x
  | some b => exact BysW.off o x (hm b rfl)
theorem Own.mono {h h' : H} (o : HExt h h') {v : V} {l : List UInt8} {ob : Option Nat} (x : Own h v l ob) : Own h' v l ob := x.off (o.off []) (by simp)
def marks (k : Nat) (n : Nat) : List UInt8 := (List.range n).map fun i => UInt8.ofNat ((k + i) % 256)
theorem marks_len (k n : Nat) : (marks k n).length = n := by simp [marks]
theorem marks_get {k n i : Nat} (h : i < n) : (marks k n)[i]? = some (UInt8.ofNat ((k + i) % 256)) := by simp [marks, h]
theorem wrap8 (k : Nat) : IntKind.u8.wrap (k : Int) = ((UInt8.ofNat (k % 256)).toNat : Int) := by
  simp [IntKind.wrap, IntKind.signed, IntKind.bits]
theorem c_mark {h : H} {v : V} {l : List UInt8} {ob : Option Nat} {k : Nat} (hv : Own h v l ob) (hl : k + l.length < 2 ^ 62) :
    ∃ h', call Ev Fn.laws_markByteS [v, iv .i64 k] h = some (iv .i64 ((k + l.length : Nat) : Int), h') ∧ Own h' v (marks k l.length) ob ∧ Off h h' ob.toList ∧ h'.n = h.n := by
  cases ob with
  | none =>
    obtain ⟨rfl, rfl⟩ := hv
    refine ⟨h, ?_, ⟨rfl, rfl⟩, Off.refl _ _, rfl⟩
    rw [eq_laws_markByteS, eq_laws_markByteS_l0]
    rfl
  | some b =>
    have loop : ∀ (q i : Nat) (hh : H) (m : List UInt8), i + q = l.length → m.length = l.length → (∀ j, j < i → m[j]? = some (UInt8.ofNat ((k + j) % 256))) → Off h hh [b] → hh.n = h.n → BysW hh v m b →
        ∃ h', Lp.laws_markByteS 0 [v, iv .i64 ((k + i : Nat) : Int), iv .i64 i] hh = some (.done [iv .i64 ((k + l.length : Nat) : Int)] h') ∧ Off h h' [b] ∧ h'.n = h.n ∧ BysW h' v (marks k l.length) b := by
      intro q
      induction q with
      | zero =>
        intro i hh m hi hm hj ho hn hw
        rw [eq_laws_markByteS_l0, hw.r.len, Option.bind_some, bin_lss, Option.bind_some, vcase_neg (by omega)]
        refine ⟨hh, by rw [show k + i = k + l.length from by omega], ho, hn, ?_⟩
        have : m = marks k l.length := List.ext_getElem? fun j => by
          by_cases hjl : j < i
          · rw [hj j hjl, marks_get (by omega)]
          · rw [List.getElem?_eq_none (by omega), List.getElem?_eq_none (by rw [marks_len]; omega)]
        rw [← this]; exact hw
      | succ q ih =>
        intro i hh m hi hm hj ho hn hw
        obtain ⟨p, h1, e1, e2, w1, n1, x1, o1⟩ := hw.set (k := .i64) (i := (i : Int)) (by omega) (by omega) (UInt8.ofNat ((k + i) % 256)) (n := IntKind.u8.wrap ((k + i : Nat) : Int)) (wrap8 _)
        rw [eq_laws_markByteS_l0, hw.r.len, Option.bind_some, bin_lss, Option.bind_some, vcase_pos (by omega), e1, Option.bind_some, e2, Option.bind_some, w64 (by omega) (by omega), w64 (by omega) (by omega),
          show ((k + i : Nat) : Int) + 1 = ((k + (i + 1) : Nat) : Int) from by omega, show (i : Int) + 1 = ((i + 1 : Nat) : Int) from by omega]
        refine ih (i + 1) h1 _ (by omega) (by simpa using hm) (fun j hji => ?_) (ho.trans ⟨by omega, fun b' _ hb' => o1 b' (by simpa using hb')⟩) (by omega) w1
        simp only [Int.toNat_natCast]
        by_cases hjl : j = i
        · subst hjl; rw [List.getElem?_set_self (by omega)]
        · rw [List.getElem?_set_ne (by omega)]; exact hj j (by omega)
    obtain ⟨h', e, o, n, w⟩ := loop l.length 0 h l (by omega) rfl (fun j hj => by omega) (Off.refl _ _) rfl hv
    rw [eq_laws_markByteS, show iv .i64 0 = iv .i64 ((0 : Nat) : Int) from rfl, show iv .i64 (k : Int) = iv .i64 ((k + 0 : Nat) : Int) from rfl, e, Option.bind_some]
    exact ⟨h', rfl, w, o, n⟩
theorem c_held {h : H} {v : V} {k n : Nat} (hv : Bys h v (marks k n)) (hl : k + n < 2 ^ 62) : call Ev Fn.laws_heldByteS [v, iv .i64 k] h = some (iv .i64 ((k + n : Nat) : Int), h) := by
  have hlen := marks_len k n
  have loop : ∀ (q i : Nat), i + q = n → Lp.laws_heldByteS 0 [v, iv .i64 ((k + i : Nat) : Int), iv .i64 i] h = some (.done [iv .i64 ((k + n : Nat) : Int)] h) := by
    intro q
    induction q with
    | zero =>
      intro i hi
      rw [eq_laws_heldByteS_l0, hv.len, Option.bind_some, bin_lss, Option.bind_some, vcase_neg (by omega), show k + i = k + n from by omega]
    | succ q ih =>
      intro i hi
      have hb : bt (marks k n) i = IntKind.u8.wrap ((k + i : Nat) : Int) := by
        rw [wrap8]
        simp only [bt, Int.toNat_natCast, List.getD, marks_get (show i < n by omega), Option.getD_some]
      rw [eq_laws_heldByteS_l0, hv.len, Option.bind_some, bin_lss, Option.bind_some, vcase_pos (by omega), hv.get (by omega) (by omega), bin_neq, Option.bind_some, hb, vcase_bv, if_neg (by simp), w64 (by omega) (by omega), w64 (by omega) (by omega),
          show ((k + i : Nat) : Int) + 1 = ((k + (i + 1) : Nat) : Int) from by omega, show (i : Int) + 1 = ((i + 1 : Nat) : Int) from by omega]
      exact ih (i + 1) (by omega)
  rw [eq_laws_heldByteS, show iv .i64 0 = iv .i64 ((0 : Nat) : Int) from rfl, show iv .i64 (k : Int) = iv .i64 ((k + 0 : Nat) : Int) from rfl, loop n 0 (by omega), Option.bind_some]
  rfl
end Vm
