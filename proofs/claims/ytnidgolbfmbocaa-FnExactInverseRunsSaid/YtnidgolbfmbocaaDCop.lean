/-
  Bytes copied into bytes that are one's own.
-/
import Derived.Test.YtnidgolbfmbocaaDRes
set_option linter.unusedVariables false
set_option maxRecDepth 100000
set_option linter.unusedSimpArgs false
namespace Vm
open Go

/-- bytes with others laid over them -/
def lay (out : List UInt8) (a : Nat) (m : List UInt8) : List UInt8 := out.take a ++ m ++ out.drop (a + m.length)
theorem lay_len {out m : List UInt8} {a : Nat} (h : a + m.length ≤ out.length) : (lay out a m).length = out.length := by
  unfold lay
  simp only [List.length_append, List.length_take, List.length_drop]; omega
theorem lay_get {out m : List UInt8} {a j : Nat} (hj : j < a) (h : a + m.length ≤ out.length) : (lay out a m)[j]? = out[j]? := by
  unfold lay
  rw [List.append_assoc, List.getElem?_append_left (by rw [List.length_take]; omega), List.getElem?_take, if_pos hj]
theorem setAt_lay {out m : List UInt8} {a : Nat} : setAt (out.map cell8) a (m.map cell8) = (lay out a m).map cell8 := by
  unfold setAt lay
  simp [List.map_take, List.map_drop]
/-- a cut of one's own bytes, from a place on -/
theorem slK_w {R : Type} {h : H} {N b a : Nat} {out : List UInt8} {kd : IntKind} {k : V → Option R} (w : BysW h (sv b 0 N) out b) (ha : a ≤ out.length) : slK 1 h (sv b 0 N) (some (iv kd (a : Int))) none k = k (sv b a (out.length - a)) := by
  have hN := w.len
  subst hN
  have hok : okE h 1 b = true := by simp [okE, w.n, w.g]
  simp only [slK, slS, Option.bind_some, bnd_of ha, hok, if_true, Nat.zero_add, Nat.mul_one]
theorem copS_w {h : H} {N b a n : Nat} {out m : List UInt8} (w : BysW h (sv b 0 N) out b) (hn : a + n ≤ out.length) (hm : m.length ≤ n) : copS 1 h (sv b a n) (lv (bys m)) = some (iv .i64 m.length, h.put b (.rw 1 ((lay out a m).map cell8))) := by
  have hb := w.n
  have hg := w.g
  simp only [copS, cellsS_by, Option.bind_some, lenS, bys_len, if_pos hb, hg, Nat.mul_one]
  rw [if_pos (by simpa using hn), show Nat.min m.length n = m.length from Nat.min_eq_left hm, List.take_of_length_le (by simp), setAt_lay]
theorem lay_w {h : H} {N b a : Nat} {out m : List UInt8} (w : BysW h (sv b 0 N) out b) (hm : a + m.length ≤ out.length) : BysW (h.put b (.rw 1 ((lay out a m).map cell8))) (sv b 0 N) (lay out a m) b :=
  ⟨by rw [w.v, lay_len hm], w.n, put_g _ _ _⟩
end Vm
