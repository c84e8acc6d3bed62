/-
  What the functions on operations come to.
-/
import Derived.Test.YtfmkfefblbophaaDRow
set_option linter.unusedVariables false
set_option maxRecDepth 100000
set_option linter.unusedSimpArgs false
namespace Vm
open Go

structure OpD where
  kind : Int
  tx : Int
  row : RowD
  mark : Int
abbrev OpD.cs (o : OpD) : List S := [.int .i64 o.kind, .int .i64 o.tx, .int .i64 o.row.tab, .int .i64 o.row.key, .int .i64 o.row.val, .str o.row.text, .int .i64 o.mark]
def noText (s : ByteArray) : Bool := s.toList == (⟨#[]⟩ : ByteArray).toList
theorem nt (s : ByteArray) : (s.toList == (⟨#[]⟩ : ByteArray).toList) = noText s := id rfl
def onRow (k : Int) : Bool := inB k 2 4
def noRow (r : RowD) : Bool := r.tab == 0 && (r.key == 0 && (r.val == 0 && (noText r.text && true)))
def formB (o : OpD) : Bool := inB o.kind 1 9 && (o.kind == 6 || o.mark == 0) && (!(o.kind == 1 || o.kind == 9) || o.tx == 0) && (if o.kind = 4 then o.row.val == 0 && noText o.row.text else onRow o.kind || noRow o.row)
def opF (o : OpD) : Int := if formB o then (if (o.kind == 1 || o.kind == 9 || inB o.tx 1 99) && inB o.mark 0 7 then (if onRow o.kind then rowF o.row else 0) else 3) else 1
theorem p_l10Row (k : Int) : pureV (call Ev) Fn.spec_l10Row [iv .i64 k] = some (bv (onRow k)) := by
  rw [pu_spec_l10Row, pc (p_l1In _ _ _) rfl]; rfl
theorem p_onRow (k : Int) : pureV (call Ev) Fn.impl_onRow [iv .i64 k] = some (bv (onRow k)) := by
  rw [pu_impl_onRow]
  unfold onRow inB
  by_cases h2 : k = 2
  · subst h2; rfl
  by_cases h3 : k = 3
  · subst h3; rfl
  by_cases h4 : k = 4
  · subst h4; rfl
  by_cases a : 2 ≤ k <;> by_cases b : k ≤ 4 <;> simp [h2, h3, h4, a, b] <;> omega
theorem p_isTx (k : Int) : pureV (call Ev) Fn.impl_isTx [iv .i64 k] = some (bv (inB k 1 99)) := by
  rw [pu_impl_isTx, pc (p_in _ _ _) rfl]; rfl
theorem p_l10Form (o : OpD) : pureV (call Ev) Fn.spec_l10Form [fv o.cs 0] = some (bv (formB o)) := by
  rw [pu_spec_l10Form]
  simp only [Jn.spec_l10Form_0, pcallS, p_l1In, p_l10Row, Option.bind_some, sca_v, sca_b, cond_true, gV1_s, gB_b, vcase_b, nt]
  unfold formB noRow
  cases noText o.row.text <;> cases onRow o.kind <;> cases inB o.kind 1 9 <;> simp <;> (repeat' split) <;> simp_all
theorem p_l10Op (o : OpD) (hs : o.row.text.size ≤ maxLen) : pureV (call Ev) Fn.spec_l10Op [fv o.cs 0] = some (iv .i64 (opF o)) := by
  rw [pu_spec_l10Op, pc (p_l10Form o) rfl]
  simp only [Jn.spec_l10Op_0, pcallS, p_l1In, p_l10Row, p_l1Fault _ hs, Option.bind_some, sca_v, sca_i, sca_b, cond_true, gV1_s, gB_b, vcase_b, gI_i]
  unfold opF
  cases onRow o.kind <;> cases formB o <;> cases inB o.tx 1 99 <;> cases inB o.mark 0 7 <;> simp <;> (repeat' split) <;> simp_all
theorem p_spec_OpFault (o : OpD) (hs : o.row.text.size ≤ maxLen) : pureV (call Ev) Fn.spec_OpFault [.agg o.cs] = some (iv .i64 (opF o)) := by
  rw [pu_spec_OpFault, pc (p_l10Op o hs) rfl]; simp
theorem p_OpFault (o : OpD) (hs : o.row.text.size ≤ maxLen) : pureV (call Ev) Fn.impl_OpFault [.agg o.cs] = some (iv .i64 (opF o)) := by
  rw [pu_impl_OpFault]
  simp only [Jn.impl_OpFault_3, Jn.impl_OpFault_2, Jn.impl_OpFault_1, Jn.impl_OpFault_0, pcallS, p_in, p_onRow, p_isTx, p_RowFault _ hs, Option.bind_some, sca_v, sca_i, sca_b, cond_true, gV1_s, gB_b, vcase_b, gI_i, nt]
  unfold opF formB noRow
  by_cases h4 : o.kind = 4
  · simp [h4, show onRow 4 = true from rfl, show inB 4 1 9 = true from rfl]
    cases noText o.row.text <;> cases inB o.tx 1 99 <;> cases inB o.mark 0 7 <;> by_cases hv : o.row.val = 0 <;> by_cases hm : o.mark = 0 <;> simp [hv, hm]
  cases noText o.row.text <;> cases onRow o.kind <;> cases inB o.kind 1 9 <;> cases inB o.tx 1 99 <;> cases inB o.mark 0 7 <;> simp [h4] <;> (repeat' split) <;> simp_all
end Vm
