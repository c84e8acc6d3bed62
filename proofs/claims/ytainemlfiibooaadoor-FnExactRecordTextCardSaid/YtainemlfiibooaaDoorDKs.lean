/-
  Small numbers in digits: what both ways come to.
-/
import Derived.Test.YtainemlfiibooaaDoorDm
import Derived.Test.YtainemlfiibooaaDoorDIn
set_option linter.unusedVariables false
set_option maxRecDepth 100000
set_option linter.unusedSimpArgs false
namespace Vm
open Go
theorem cvStr_w {h : H} {v : V} {l : List UInt8} {b : Nat} (w : BysW h v l b) (hl : l.length ≤ lim) : cvStr h v = some (.s (.str ⟨l.toArray⟩)) := by
  obtain ⟨rfl, w2, w3⟩ := w
  have h1 : cellsS 1 h (sv b 0 l.length) = some (l.map cell8) := by
    have hc : h.cells b = l.map cell8 := by unfold H.cells; rw [if_pos w2, w3]; rfl
    simp only [cellsS, hc]
    rw [if_pos ⟨w2, by simp⟩, List.drop_zero, List.take_of_length_le (by simp)]
  simp only [cvStr, h1, Option.bind_some, bytesS_map]
  rw [if_pos hl]
theorem bin_rem {t : Nat} {a b : Int} (ha : 0 ≤ a) (hb : 0 < b) : bin Ev .rem t (iv .i64 a) (iv .i64 b) = some (iv .i64 (a % b)) := by
  simp only [bin, binI, if_true]
  rw [if_neg (by omega), Int.tmod_eq_emod_of_nonneg ha]
theorem bin_quo {t : Nat} {a b : Int} (ha : 0 ≤ a) (hb : 0 < b) (h : a < 9223372036854775808) : bin Ev .quo t (iv .i64 a) (iv .i64 b) = some (iv .i64 (a / b)) := by
  have h1 : a / b ≤ a := Int.ediv_le_self _ ha
  have h2 : 0 ≤ a / b := Int.ediv_nonneg ha (by omega)
  simp only [bin, binI, if_true]
  rw [if_neg (by omega), Int.tdiv_eq_ediv_of_nonneg ha, w64 (by omega) (by omega)]
theorem add_str {t : Nat} {a b : ByteArray} (h : a.size + b.size ≤ lim) : bin Ev .add t (.s (.str a)) (.s (.str b)) = some (.s (.str (a ++ b))) := by
  simp only [bin, binB]
  rw [if_pos h]
/-- a number below a hundred, in digits -/
def dg (k : Nat) : ByteArray := if k < 10 then ⟨#[UInt8.ofNat (48 + k)]⟩ else ⟨#[UInt8.ofNat (48 + k / 10), UInt8.ofNat (48 + k % 10)]⟩
theorem dg_size (k : Nat) : (dg k).size ≤ 2 := by
  unfold dg; split <;> simp [ByteArray.size]
theorem dig10 : ∀ k : Fin 10, (⟨#[48, 49, 50, 51, 52, 53, 54, 55, 56, 57, 97, 98, 99, 100, 101, 102, 103, 104, 105, 106, 107, 108, 109, 110, 111, 112, 113, 114, 115, 116, 117, 118, 119, 120, 121, 122]⟩ : ByteArray).extract k.1 (k.1 + 1) = dg k.1 := by decide +kernel
theorem dig100 : ∀ k : Fin 100, 10 ≤ k.1 → (⟨#[48, 48, 48, 49, 48, 50, 48, 51, 48, 52, 48, 53, 48, 54, 48, 55, 48, 56, 48, 57, 49, 48, 49, 49, 49, 50, 49, 51, 49, 52, 49, 53, 49, 54, 49, 55, 49, 56, 49, 57, 50, 48, 50, 49, 50, 50, 50, 51, 50, 52, 50, 53, 50, 54, 50, 55, 50, 56, 50, 57, 51, 48, 51, 49, 51, 50, 51, 51, 51, 52, 51, 53, 51, 54, 51, 55, 51, 56, 51, 57, 52, 48, 52, 49, 52, 50, 52, 51, 52, 52, 52, 53, 52, 54, 52, 55, 52, 56, 52, 57, 53, 48, 53, 49, 53, 50, 53, 51, 53, 52, 53, 53, 53, 54, 53, 55, 53, 56, 53, 57, 54, 48, 54, 49, 54, 50, 54, 51, 54, 52, 54, 53, 54, 54, 54, 55, 54, 56, 54, 57, 55, 48, 55, 49, 55, 50, 55, 51, 55, 52, 55, 53, 55, 54, 55, 55, 55, 56, 55, 57, 56, 48, 56, 49, 56, 50, 56, 51, 56, 52, 56, 53, 56, 54, 56, 55, 56, 56, 56, 57, 57, 48, 57, 49, 57, 50, 57, 51, 57, 52, 57, 53, 57, 54, 57, 55, 57, 56, 57, 57]⟩ : ByteArray).extract (k.1 * 2) (k.1 * 2 + 2) = dg k.1 := by decide +kernel
theorem dgapp : ∀ k : Fin 100, 10 ≤ k.1 → dg (k.1 / 10) ++ ⟨#[UInt8.ofNat (48 + k.1 % 10)]⟩ = dg k.1 := by decide +kernel
theorem sl_str {s : ByteArray} {i j : Nat} (h1 : i ≤ j) (h2 : j ≤ s.size) : slStr (.s (.str s)) (some (iv .i64 (i : Int))) (some (iv .i64 (j : Int))) = some (.s (.str (s.extract i j))) := by
  simp only [slStr, bnd]
  rw [if_pos (by omega)]
  simp only [Option.bind_some, Int.toNat_natCast]
  rw [if_pos (by omega)]
  simp only [Option.bind_some, Int.toNat_natCast]
theorem p_small {k : Nat} (hk : k < 100) : pureV (call Ev) Fn.strconv_small [iv .i64 (k : Int)] = some (.s (.str (dg k))) := by
  rw [pu_strconv_small, vcase_b]
  by_cases h : k < 10
  · rw [if_pos (by simp; omega), w64 (by omega) (by omega), show (k : Int) + 1 = ((k + 1 : Nat) : Int) from by omega, sl_str (by omega) (by show k + 1 ≤ 36; omega)]
    simp only [ob, gV1_s, gS_s]
    rw [dig10 ⟨k, h⟩]
  · rw [if_neg (by simp; omega), w64 (n := (k : Int) * 2) (by omega) (by omega), w64 (by omega) (by omega), show (k : Int) * 2 + 2 = ((k * 2 + 2 : Nat) : Int) from by omega, show (k : Int) * 2 = ((k * 2 : Nat) : Int) from by omega, sl_str (by omega) (by show k * 2 + 2 ≤ 200; omega)]
    simp only [ob, gV1_s, gS_s]
    rw [dig100 ⟨k, hk⟩ (by simp; omega)]
theorem p_FormatInt {k : Nat} (hk : k < 100) : pureV (call Ev) Fn.strconv_FormatInt_1 [iv .i64 (k : Int), iv .i64 10] = some (.s (.str (dg k))) := by
  rw [pu_strconv_FormatInt_1, vcase_b, if_pos (by simp), vcase_b, if_pos (by simp), vcase_b, if_pos (by simp; omega), pc (p_small hk) rfl]
  simp only [gV1_s, gS_s]
theorem p_digits {k : Nat} (hk : k < 100) : pureV (call Ev) Fn.impl_digits [iv .i64 (k : Int)] = some (.s (.str (dg k))) := by
  have e : pureV (call Ev) Fn.strconv_FormatInt_0 [iv .i64 (k : Int), iv .i64 10] = some (.s (.str (dg k))) := by
    rw [pu_strconv_FormatInt_0, pc (p_FormatInt hk) rfl]
    simp only [gV1_s, gS_s]
  rw [pu_impl_digits, pc e rfl]
  simp only [gV1_s, gS_s]
theorem one8 {n : Nat} (h : n < 256) : BysW ((D 0).new 1 [.int .u8 (n : Int)]) (sv 0 0 1) [UInt8.ofNat n] 0 := by
  refine ⟨rfl, by simp, ?_⟩
  have : ([UInt8.ofNat n].map cell8) = [S.int .u8 (n : Int)] := by
    simp only [List.map_cons, List.map_nil, cell8]
    congr 2
    simp; omega
  rw [this]
  exact new_g (D 0) _ _
theorem one_str {n : Nat} (h : n < 256) : cvStr ((D 0).new 1 [.int .u8 (n : Int)]) (sv 0 0 1) = some (.s (.str ⟨#[UInt8.ofNat n]⟩)) := cvStr_w (one8 h) (by unfold lim; simp)
theorem p_l1Digits1 {k : Nat} (hk : k < 10) : pureV (call Ev) Fn.spec_l1Digits [iv .i64 (k : Int)] = some (.s (.str (dg k))) := by
  rw [pu_spec_l1Digits, vcase_b, if_neg (by simp), vcase_b, if_pos (by simp; omega), w64 (by omega) (by omega), show (48 : Int) + k = ((48 + k : Nat) : Int) from by omega, w8 (by omega) (by omega), one_str (by omega)]
  simp only [ob, gV1_s, gS_s]
  unfold dg
  rw [if_pos hk]
theorem p_l1Digits {k : Nat} (hk : k < 100) : pureV (call Ev) Fn.spec_l1Digits [iv .i64 (k : Int)] = some (.s (.str (dg k))) := by
  by_cases h : k < 10
  · exact p_l1Digits1 h
  rw [pu_spec_l1Digits, vcase_b, if_neg (by simp), vcase_b, if_neg (by simp; omega), bin_quo (by omega) (by omega) (by omega), ob]
  simp only [gV1_s, gI_i]
  rw [bin_rem (by omega) (by omega), ob]
  simp only [gV1_s, gI_i]
  rw [w64 (by omega) (by omega), show (48 : Int) + (k : Int) % 10 = ((48 + k % 10 : Nat) : Int) from by omega, w8 (by omega) (by omega), hchk_of (HExt.refl (D 0)).new, one_str (by omega)]
  simp only [ob, gV1_s, gS_s]
  rw [hchk_of (HExt.refl (D 0)).new, show (k : Int) / 10 = ((k / 10 : Nat) : Int) from by omega, pc (p_l1Digits1 (k := k / 10) (by omega)) rfl]
  simp only [gV1_s, gS_s]
  rw [add_str (by have := dg_size (k / 10); rw [show (⟨#[UInt8.ofNat (48 + k % 10)]⟩ : ByteArray).size = 1 from rfl]; unfold lim; omega), ob]
  simp only [gV1_s, gS_s]
  rw [dgapp ⟨k, hk⟩ (by simp; omega)]
theorem app_size (a b : ByteArray) : (a ++ b).size = a.size + b.size := by simp
theorem s47 : (⟨#[47]⟩ : ByteArray).size = 1 := rfl
theorem p_eqText (c : Int) (s : ByteArray) : pureV (call Ev) Fn.laws_eqTextResult [.agg [.int .i64 c, .str s], .agg [.int .i64 c, .str s]] = some (bv true) := by
  rw [pu_laws_eqTextResult, vcase_b, if_neg (by simp), vcase_b, if_neg (by simp)]
end Vm
