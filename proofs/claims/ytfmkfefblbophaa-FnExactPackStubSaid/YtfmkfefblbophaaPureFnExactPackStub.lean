/- The program's PackStub returns what the reference's returns, for all arguments; its answer is its own memory. No condition. -/
import Derived.Test.YtfmkfefblbophaaPFnExactPackStubx2
namespace Go.Proofs.Ytfmkfefblbophaa.Pure
open Go.RowKit Go.Proofs.Ytfmkfefblbophaa.PFnExactPackStub Go.Proofs.YtfmkfefblbophaaW.PrintWords Go.Proofs.YtfmkfefblbophaaW.PrintLast

theorem wr1 {i : Int} (h0 : 0 ≤ i) (h : i < 1000000000000) : wrap64 (i + 1) = i + 1 := by
  unfold wrap64
  omega

/-- the bytes that marking from m on lays -/
def marks (m : Int) : Nat → List Int
  | 0 => []
  | n + 1 => (m % 256) :: marks (m + 1) n

theorem marks_len (n : Nat) : ∀ m, (marks m n).length = n := by
  induction n with
  | zero => intro m; rfl
  | succ n ih => intro m; simp [marks, ih]

theorem marks_get (n : Nat) : ∀ (m : Int) (i : Nat), i < n → (marks m n).getD i 0 = (m + i) % 256 := by
  induction n with
  | zero => intro m i h; omega
  | succ n ih =>
    intro m i h
    cases i with
    | zero => simp [marks]
    | succ i =>
      simp only [marks, List.getD_cons_succ]
      rw [ih (m + 1) i (by omega)]
      congr 1
      omega

theorem eqb_l (xs : List Int) (hn : xs.length ≤ 1000000000) (d : Nat) : ∀ (k : Nat) (i : Int), 0 ≤ i → i ≤ xs.length → (xs.length : Int) - i = d → d < k →
    laws_eqByteS.l0 k xs xs i = some true := by
  induction d with
  | zero =>
    intro k i h0 h1 hd hk
    obtain ⟨k, rfl⟩ : ∃ m, k = m + 1 := ⟨k - 1, by omega⟩
    simp only [laws_eqByteS.l0]; rw [if_neg (by omega)]
  | succ d ih =>
    intro k i h0 h1 hd hk
    obtain ⟨k, rfl⟩ : ∃ m, k = m + 1 := ⟨k - 1, by omega⟩
    simp only [laws_eqByteS.l0]
    rw [if_pos (by omega), if_pos h0, if_pos (by omega), if_pos trivial, wr1 h0 (by omega)]
    exact ih k (i + 1) (by omega) (by omega) (by omega) (by omega)

theorem eqb_same (xs : List Int) (hn : xs.length ≤ 1000000000) (k : Nat) (hk : xs.length < k) : laws_eqByteS.f k xs xs = some true := by
  unfold laws_eqByteS.f
  rw [if_pos rfl]
  exact eqb_l xs hn xs.length k 0 (by omega) (by omega) (by omega) hk

theorem mark_l (d : Nat) : ∀ (k : Nat) (xs : List Int) (m i : Int), 0 ≤ i → i ≤ xs.length → (xs.length : Int) - i = d → d < k → xs.length ≤ 1000000000 → 0 ≤ m → m ≤ 1000000000000 - 2000000000 + i →
    laws_markByteS.l0 k xs m i = some (m + d, xs.take i.toNat ++ marks m d) := by
  induction d with
  | zero =>
    intro k xs m i h0 h1 hd hk hn hm0 hm
    obtain ⟨k, rfl⟩ : ∃ m, k = m + 1 := ⟨k - 1, by omega⟩
    simp only [laws_markByteS.l0]; rw [if_neg (by omega)]
    have e : i.toNat = xs.length := by omega
    rw [e, List.take_length]
    simp [marks]
  | succ d ih =>
    intro k xs m i h0 h1 hd hk hn hm0 hm
    obtain ⟨k, rfl⟩ : ∃ m, k = m + 1 := ⟨k - 1, by omega⟩
    simp only [laws_markByteS.l0]
    rw [if_pos (by omega), if_pos h0, wr1 h0 (by omega), wr1 hm0 (by omega)]
    rw [ih k _ (m + 1) (i + 1) (by omega) (by simp; omega) (by simp; omega) (by omega) (by simpa using hn) (by omega) (by omega)]
    congr 1
    refine Prod.ext_iff.mpr ⟨by simp only []; omega, ?_⟩
    simp only [marks]
    have e : (i + 1).toNat = i.toNat + 1 := by omega
    rw [e, List.take_succ_eq_append_getElem (by simp; omega), List.getElem_set_self, List.take_set_of_le (Nat.le_refl _), List.append_assoc]
    rfl

theorem mark_all (xs : List Int) (hn : xs.length ≤ 1000000000) (m : Int) (hm0 : 0 ≤ m) (hm : m ≤ 900000000000) (k : Nat) (hk : xs.length < k) :
    laws_markByteS.f k xs m = some (m + xs.length, marks m xs.length) := by
  unfold laws_markByteS.f
  rw [mark_l xs.length k xs m 0 (by omega) (by omega) (by omega) hk hn hm0 (by omega)]
  simp

theorem held_l (xs : List Int) (hn : xs.length ≤ 1000000000) (m0 : Int) (hm0 : 0 ≤ m0) (hm : m0 ≤ 900000000000) (hx : ∀ i : Nat, i < xs.length → xs.getD i 0 = (m0 + i) % 256) (d : Nat) : ∀ (k : Nat) (i : Int), 0 ≤ i → i ≤ xs.length → (xs.length : Int) - i = d → d < k →
    laws_heldByteS.l0 k xs (m0 + i) i = some (m0 + xs.length) := by
  induction d with
  | zero =>
    intro k i h0 h1 hd hk
    obtain ⟨k, rfl⟩ : ∃ m, k = m + 1 := ⟨k - 1, by omega⟩
    simp only [laws_heldByteS.l0]; rw [if_neg (by omega)]
    congr 1; omega
  | succ d ih =>
    intro k i h0 h1 hd hk
    obtain ⟨k, rfl⟩ : ∃ m, k = m + 1 := ⟨k - 1, by omega⟩
    simp only [laws_heldByteS.l0]
    have hr : rd xs i = (m0 + i) % 256 := by
      unfold rd
      rw [hx i.toNat (by omega)]
      congr 1; omega
    rw [if_pos (by omega), if_pos h0, if_pos hr, wr1 (by omega) (by omega), wr1 h0 (by omega)]
    have e : m0 + i + 1 = m0 + (i + 1) := by omega
    rw [e]
    exact ih k (i + 1) (by omega) (by omega) (by omega) (by omega)

theorem held_all (n : Nat) (hn : n ≤ 1000000000) (m : Int) (hm0 : 0 ≤ m) (hm : m ≤ 900000000000) (k : Nat) (hk : n < k) :
    laws_heldByteS.f k (marks m n) m = some (m + n) := by
  unfold laws_heldByteS.f
  have h := held_l (marks m n) (by rw [marks_len]; exact hn) m hm0 hm (by intro i hi; rw [marks_len] at hi; exact marks_get n m i hi) n k 0 (by omega) (by omega) (by rw [marks_len]; omega) hk
  rw [marks_len] at h
  simpa using h

theorem stub_same (a b : Int) : ∃ c xs, spec_PackStub.f a b = some (c, xs) ∧ impl_PackStub.f a b = some (c, xs) ∧ xs.length ≤ 3 := by
  unfold spec_PackStub.f impl_PackStub.f spec_l1Place.f spec_l1In.f impl_in.f spec_l1Stub.f impl_stub.f
  by_cases h1 : a ≥ 0
  · by_cases h2 : a ≤ 11
    · by_cases h3 : b ≥ 0
      · by_cases h4 : b ≤ 15
        · exact ⟨0, [1, a % 256, b % 256], by simp [h1, h2, h3, h4], by simp [h1, h2, h3, h4], by simp⟩
        · exact ⟨3, [], by simp [h1, h2, h3, h4], by simp [h1, h2, h3, h4], by simp⟩
      · exact ⟨3, [], by simp [h1, h2, h3], by simp [h1, h2, h3], by simp⟩
    · exact ⟨3, [], by simp [h1, h2], by simp [h1, h2], by simp⟩
  · exact ⟨3, [], by simp [h1], by simp [h1], by simp⟩

theorem FnExactPackStub : laws_FnExactPackStub.Pure := by
  intro a b _ _
  obtain ⟨c, xs, hs, hi, hn⟩ := stub_same a b
  refine ⟨xs.length + 1, ?_⟩
  unfold laws_FnExactPackStub.f
  have he : laws_eqBytesResult.f (xs.length + 1) c xs c xs = some true := by
    unfold laws_eqBytesResult.f; rw [if_pos rfl, eqb_same xs (by omega) _ (by omega)]; rfl
  have hm : laws_markBytesResult.f (xs.length + 1) c xs 1 = some ((1 : Int) + (xs.length : Int), marks 1 xs.length) := by
    unfold laws_markBytesResult.f; rw [mark_all xs (by omega) 1 (by omega) (by omega) _ (by omega)]; rfl
  have hh : laws_heldBytesResult.f (xs.length + 1) c (marks 1 xs.length) 1 = some ((1 : Int) + (xs.length : Int)) := by
    unfold laws_heldBytesResult.f; rw [held_all xs.length (by omega) 1 (by omega) (by omega) _ (by omega)]; simp only [Option.bind_some]; rw [if_neg (by omega)]
  simp only [hs, hi, he, hm, hh, Option.bind_some, if_true]
  rw [if_neg (by omega)]
  first | rfl | rw [if_neg (by omega)]

end Go.Proofs.Ytfmkfefblbophaa.Pure
