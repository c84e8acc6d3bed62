/-
  A copy of bytes, as a call whose answer is frozen.
-/
import Derived.Test.YtainemlfiibooaaDoorDByt
set_option linter.unusedVariables false
set_option maxRecDepth 100000
set_option linter.unusedSimpArgs false
namespace Vm
open Go

theorem p_toByteS {l : List UInt8} (hl : l.length ≤ lim) : pureV (call Ev) Fn.laws_toByteS [lv (bys l)] = some (lv (bys l)) := by
  have hl' := hl
  unfold lim at hl'
  rw [pu_laws_toByteS, bys_len, mkSl_of (z := 1) (zero := [.int .u8 0]) hl (by omega) rfl, Option.bind_some]
  obtain ⟨h', e1, e2, e3, _⟩ := fill_rows (z := 1) (n := l.length) (b := 0) (rows := bys l) (L := fun i h => Lp.laws_toByteS 0 [lv (bys l), sv 0 0 l.length, iv .i64 i] h) (fin := [sv 0 0 l.length]) (by simp) bys_row
    (fun i h r hr hi hb => by
      rw [bys_get hi] at hr; cases hr
      refine ⟨iv .u8 (bt l i), [lv (bys l), sv 0 0 l.length, iv .i64 ((i + 1 : Nat) : Int)], .inl ⟨_, rfl, rfl, rfl⟩, ?_⟩
      show Lp.laws_toByteS 0 _ h = _
      rw [eq_laws_toByteS_l0, vcase_b, if_pos (by simp; omega), idxF_by (by omega) (by omega)]
      simp only [List.getElem?_cons_zero, Option.bind_some, gI_i]
      rw [idxK_sv hi, w64 (by omega) (by omega), show (i : Int) + 1 = ((i + 1 : Nat) : Int) from by omega])
    (fun h => by
      show Lp.laws_toByteS 0 _ h = _
      rw [eq_laws_toByteS_l0, vcase_b, if_neg (by simp), tidy_self])
    ((D 0).new 1 ((List.replicate l.length [.int .u8 0]).flatten)) _ (by simp) (by exact new_g (D 0) _ _) (repl_len rfl)
  rw [D_n]
  rw [e1]
  simp only [Option.bind_some, lcase_done, List.getElem?_cons_zero]
  have := frzV_sv (h := h') (b := 0) (z := 1) (rows := bys l) (by rw [e2]; simp) (by omega) e3 bys_row bys_cl
  rwa [bys_len] at this
end Vm
