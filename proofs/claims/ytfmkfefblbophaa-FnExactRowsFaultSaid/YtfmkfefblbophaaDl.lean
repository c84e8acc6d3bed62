/-
  Laws of the small machine's operations, for reading what a piece of code comes to.
-/
import Derived.Test.YtfmkfefblbophaaVmN
set_option linter.unusedVariables false
set_option maxRecDepth 100000
set_option linter.unusedSimpArgs false
namespace Vm
open Go

/-- a new block that was written k times -/
def H.nw (h : H) (e : Nat) (cs : List S) (k : Nat) : H := ⟨h.n + 1, fun i => if i = h.n then .rw e cs else h.g i, fun i => if i = h.n then h.v i + k else h.v i⟩
theorem nw_zero (h : H) (e : Nat) (cs : List S) : h.new e cs = h.nw e cs 0 := by
  unfold H.new H.nw
  congr 1
  funext i; split <;> rfl
theorem nw_n (h : H) (e : Nat) (cs : List S) (k : Nat) : (h.nw e cs k).n = h.n + 1 := id rfl
theorem put_n (h : H) (b : Nat) (x : Blk) : (h.put b x).n = h.n := id rfl
theorem nw_g (h : H) (e : Nat) (cs : List S) (k : Nat) : (h.nw e cs k).g h.n = .rw e cs := by simp [H.nw]
theorem nw_g' {h : H} {e : Nat} {cs : List S} {k b : Nat} (hb : b < h.n) : (h.nw e cs k).g b = h.g b := by
  have : b ≠ h.n := by omega
  simp [H.nw, this]
theorem nw_cells (h : H) (e : Nat) (cs : List S) (k : Nat) : (h.nw e cs k).cells h.n = cs := by simp [H.cells, nw_n, nw_g, Blk.cells]
theorem nw_cells' {h : H} {e : Nat} {cs : List S} {k b : Nat} (hb : b < h.n) : (h.nw e cs k).cells b = h.cells b := by
  unfold H.cells
  rw [nw_g' hb, nw_n, if_pos (by omega), if_pos hb]
theorem nw_put (h : H) (e e' : Nat) (cs cs' : List S) (k : Nat) : (h.nw e cs k).put h.n (.rw e' cs') = h.nw e' cs' (k + 1) := by
  unfold H.put H.nw
  simp only [H.mk.injEq, true_and]
  constructor <;> funext i <;> (by_cases hi : i = h.n <;> simp [hi, Nat.add_assoc])
theorem nw_put' {h : H} {e : Nat} {cs : List S} {k b : Nat} {x : Blk} (hb : b < h.n) : (h.nw e cs k).put b x = (h.put b x).nw e cs k := by
  unfold H.put H.nw
  have h1 : b ≠ h.n := by omega
  have h2 : h.n ≠ b := by omega
  simp only [H.mk.injEq, true_and]
  constructor <;> funext i <;> (by_cases hi : i = h.n <;> by_cases hi2 : i = b <;> simp_all)

theorem HExt.refl (h : H) : HExt h h := ⟨Nat.le_refl _, fun _ _ => ⟨rfl, rfl⟩⟩
theorem HExt.trans {a b c : H} (x : HExt a b) (y : HExt b c) : HExt a c := ⟨Nat.le_trans x.1 y.1, fun i hi => by
  have h1 := x.2 i hi
  have h2 := y.2 i (Nat.lt_of_lt_of_le hi x.1)
  exact ⟨h2.1.trans h1.1, h2.2.trans h1.2⟩⟩
theorem HExt.nw (h : H) (e : Nat) (cs : List S) (k : Nat) : HExt h (h.nw e cs k) := ⟨by simp [nw_n], fun b hb => by
  have : b ≠ h.n := by omega
  simp [H.nw, this]⟩
theorem HExt.cells {h h' : H} (x : HExt h h') {b : Nat} (hb : b < h.n) : h'.cells b = h.cells b := by
  unfold H.cells
  rw [if_pos hb, if_pos (Nat.lt_of_lt_of_le hb x.1), (x.2 b hb).1]
theorem HExt.up {a b : H} (x : HExt a b) {e : Nat} {cs : List S} {k : Nat} : HExt a (b.nw e cs k) := x.trans (HExt.nw _ _ _ _)
theorem no_int {k : IntKind} {n : Int} : isNo (.int k n) = false := id rfl
theorem no_str {s : ByteArray} : isNo (.str s) = false := id rfl
theorem no_bool {b : Bool} : isNo (.bool b) = false := id rfl
theorem no_sl {a : Option (Nat × Nat)} {n : Nat} : isNo (.sl a n) = false := id rfl
theorem no_ptr {a : Option (Nat × Nat)} : isNo (.ptr a) = false := id rfl
theorem hchk_of {R : Type} {h h' : H} {x : Option R} (hx : HExt h h') : hchk h h' x = x := by unfold hchk; rw [if_pos hx]

/-! reading -/
theorem load1_nw {h : H} {e : Nat} {cs : List S} {k b o : Nat} (hb : b = h.n) : load1 (h.nw e cs k) (pv b o) = cs[o]? := by subst hb; simp [load1, nw_cells]
theorem load1_nw' {h : H} {e : Nat} {cs : List S} {k b o : Nat} (hb : b < h.n) : load1 (h.nw e cs k) (pv b o) = load1 h (pv b o) := by simp [load1, nw_cells' hb]
theorem HExt.load1 {h h' : H} (x : HExt h h') {b o : Nat} (hb : b < h.n) : Vm.load1 h' (pv b o) = Vm.load1 h (pv b o) := by simp [Vm.load1, x.cells hb]
theorem loadN_nw {h : H} {e : Nat} {cs : List S} {k n b o : Nat} (hb : b = h.n) : loadN n (h.nw e cs k) (pv b o) = if o + n ≤ cs.length then some ((cs.drop o).take n) else none := by
  subst hb
  simp [loadN, nw_cells, nw_n]
theorem loadN_nw' {h : H} {e : Nat} {cs : List S} {k n b o : Nat} (hb : b < h.n) : loadN n (h.nw e cs k) (pv b o) = loadN n h (pv b o) := by
  simp [loadN, nw_cells' hb, nw_n, hb, show b < h.n + 1 by omega]
theorem HExt.loadN {h h' : H} (x : HExt h h') {n b o : Nat} (hb : b < h.n) : Vm.loadN n h' (pv b o) = Vm.loadN n h (pv b o) := by
  have := x.1
  simp [Vm.loadN, x.cells hb, hb, show b < h'.n by omega]
theorem loadN_all {h : H} {e : Nat} {cs : List S} {k n b : Nat} (hb : b = h.n) (hn : cs.length = n) : loadN n (h.nw e cs k) (pv b 0) = some cs := by
  rw [loadN_nw hb, if_pos (by omega)]; simp [← hn]
theorem loadN_of {h : H} {cs : List S} {n b : Nat} (hb : b < h.n) (hc : h.cells b = cs) (hn : cs.length = n) : loadN n h (pv b 0) = some cs := by
  simp [loadN, hb, hc, ← hn]
theorem st1_nw {h : H} {e : Nat} {cs : List S} {k b o : Nat} {x : S} (hb : b = h.n) (hx : isNo x = false) (ho : o < cs.length) : stV 1 (h.nw e cs k) (pv b o) (.s x) = some (h.nw e (cs.set o x) (k + 1)) := by
  subst hb
  simp [stV, put1, nw_n, hx, nw_g, ho, nw_put]
theorem stN_nw {h : H} {e : Nat} {cs xs : List S} {k b o n : Nat} (hb : b = h.n) (hx : xs.length = n) (ho : o + n ≤ cs.length) : stV n (h.nw e cs k) (pv b o) (.agg xs) = some (h.nw e (setAt cs o xs) (k + 1)) := by
  subst hb
  simp [stV, putN, nw_n, hx, nw_g, ho, nw_put]
theorem stN_all {h : H} {e : Nat} {cs xs : List S} {k b n : Nat} (hb : b = h.n) (hx : xs.length = n) (hc : cs.length = n) : stV n (h.nw e cs k) (pv b 0) (.agg xs) = some (h.nw e xs (k + 1)) := by
  rw [stN_nw hb hx (by omega)]
  congr 2
  simp [setAt, hx, ← hc]
theorem st_nw' {h : H} {e : Nat} {cs : List S} {k z b o : Nat} {x : V} (hb : b < h.n) : stV z (h.nw e cs k) (pv b o) x = (stV z h (pv b o) x).map fun h' => h'.nw e cs k := by
  cases x with
  | s x =>
    simp only [stV]
    by_cases hz : z = 1
    · rw [if_pos hz, if_pos hz]
      simp only [put1, nw_n, show (b < h.n + 1) = (b < h.n) from by simp; omega, nw_g' hb]
      split
      · split
        · split
          · simp [nw_put' hb]
          · rfl
        · rfl
      · rfl
    · rw [if_neg hz, if_neg hz]; rfl
  | agg xs =>
    simp only [stV, putN, nw_n, show (b < h.n + 1) = (b < h.n) from by simp; omega, nw_g' hb]
    split
    · split
      · split
        · simp [nw_put' hb]
        · rfl
      · rfl
    · rfl
  | tup xs => rfl

/-! whole numbers -/
theorem w64 {n : Int} (h1 : -9223372036854775808 ≤ n) (h2 : n < 9223372036854775808) : IntKind.i64.wrap n = n := by
  simp [IntKind.wrap, IntKind.signed, IntKind.bits]; split <;> omega
theorem w8 {n : Int} (h1 : 0 ≤ n) (h2 : n < 256) : IntKind.u8.wrap n = n := by
  simp [IntKind.wrap, IntKind.signed, IntKind.bits]; omega
theorem wf64 {n : Int} (h : (Lit.int .i64 n).wf = true) : -9223372036854775808 ≤ n ∧ n < 9223372036854775808 := by
  simp [Lit.wf, IntKind.min, IntKind.max, IntKind.signed, IntKind.bits] at h; omega
theorem wf8 {n : Int} (h : (Lit.int .u8 n).wf = true) : 0 ≤ n ∧ n < 256 := by
  simp [Lit.wf, IntKind.min, IntKind.max, IntKind.signed, IntKind.bits] at h; omega
theorem vcase_bv {R : Type} {b : Bool} {x y : Option R} : vcase (bv b) x y = if b = true then x else y := by cases b <;> rfl
theorem gcase_bv {R : Type} {b : Bool} {x y z : Option R} : gcase (bv b) x y z = if b = true then x else y := by cases b <;> rfl
theorem gcase_v {R : Type} {b : Bool} {x y z : Option R} : gcase (bv b) x y z = vcase (bv b) x y := by cases b <;> rfl
theorem vcase_d {R : Type} {p : Prop} [Decidable p] {x y : Option R} : vcase (bv (decide p)) x y = if p then x else y := by by_cases hp : p <;> simp [hp, vcase]
theorem gcase_d {R : Type} {p : Prop} [Decidable p] {x y z : Option R} : gcase (bv (decide p)) x y z = if p then x else y := by by_cases hp : p <;> simp [hp, gcase]
theorem vcase_pos {R : Type} {p : Prop} [Decidable p] {x y : Option R} (hp : p) : vcase (bv (decide p)) x y = x := by simp [hp, vcase]
theorem vcase_neg {R : Type} {p : Prop} [Decidable p] {x y : Option R} (hp : ¬ p) : vcase (bv (decide p)) x y = y := by simp [hp, vcase]
theorem gcase_pos {R : Type} {p : Prop} [Decidable p] {x y z : Option R} (hp : p) : gcase (bv (decide p)) x y z = x := by simp [hp, gcase]
theorem gcase_neg {R : Type} {p : Prop} [Decidable p] {x y z : Option R} (hp : ¬ p) : gcase (bv (decide p)) x y z = y := by simp [hp, gcase]
section
variable {E : Env} {t : Nat} {k : IntKind} {a b : Int}
theorem bin_lss : bin E .lss t (iv k a) (iv k b) = some (bv (decide (a < b))) := by simp [bin, binI]
theorem bin_leq : bin E .leq t (iv k a) (iv k b) = some (bv (decide (a ≤ b))) := by simp [bin, binI]
theorem bin_gtr : bin E .gtr t (iv k a) (iv k b) = some (bv (decide (b < a))) := by simp [bin, binI]
theorem bin_geq : bin E .geq t (iv k a) (iv k b) = some (bv (decide (b ≤ a))) := by simp [bin, binI]
theorem bin_eql : bin E .eql t (iv k a) (iv k b) = some (bv (decide (a = b))) := by simp [bin, binI]; rfl
theorem bin_neq : bin E .neq t (iv k a) (iv k b) = some (bv (decide (a ≠ b))) := by simp [bin, binI]; rfl
theorem bin_add : bin E .add t (iv k a) (iv k b) = some (iv k (k.wrap (a + b))) := by simp [bin, binI]
theorem bin_sub : bin E .sub t (iv k a) (iv k b) = some (iv k (k.wrap (a - b))) := by simp [bin, binI]
theorem bin_mul : bin E .mul t (iv k a) (iv k b) = some (iv k (k.wrap (a * b))) := by simp [bin, binI]
end
theorem bin_eqb {E : Env} {t : Nat} {ti : TI} (ht : E.ty t = some ti) (hd : ti.d = .bool) {a b : Bool} : bin E .neq t (bv a) (bv b) = some (bv (!(a == b))) := by
  simp [bin, eqT, ht, hd]
theorem not_bv {b : Bool} : unNot (bv b) = some (bv (!b)) := rfl
theorem lenStr {s : ByteArray} : lenV .str (.s (.str s)) = some (iv .i64 s.size) := rfl
theorem lenSl {e n : Nat} {a : Option (Nat × Nat)} : lenV (.sl e) (.s (.sl a n)) = some (iv .i64 n) := rfl
/-- the byte of a string at a place -/
def sby (s : ByteArray) (i : Int) : Int := ((s.get! i.toNat).toNat : Int)
theorem idxStr_of {s : ByteArray} {k : IntKind} {i : Int} (h0 : 0 ≤ i) (h1 : i < (s.size : Int)) : idxStr (.s (.str s)) (iv k i) = some (iv .u8 (sby s i)) := by
  simp only [idxStr]; rw [if_pos ⟨h0, h1⟩]; rfl
theorem str_drop {s : ByteArray} {i : Nat} (h : i < s.size) : s.data.toList.drop i = s.get! i :: s.data.toList.drop (i + 1) := by
  have h' : i < s.data.toList.length := by simpa using h
  rw [List.drop_eq_getElem_cons h']
  congr 1
  have h2 : i < s.data.size := h
  simp only [ByteArray.get!, Array.getElem_toList]
  exact (getElem!_pos s.data i h2).symm
theorem str_drop_all {s : ByteArray} {i : Nat} (h : s.size ≤ i) : s.data.toList.drop i = [] := List.drop_of_length_le (by simpa using h)
theorem padd_pv {m b o : Nat} : padd m (pv b o) = some (pv b (o + m)) := rfl
theorem notNil_pv {b o : Nat} : notNil (pv b o) = some (pv b o) := rfl
end Vm
