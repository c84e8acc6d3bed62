/-
  What each function, and each round of each loop, comes to in the small machine. Written by a program (gen3.py).
-/
import Derived.Test.YtfpcfiaoilcbgaaDoorEnv
set_option linter.unusedVariables false
set_option maxRecDepth 100000
namespace Vm
open Go

theorem pu_spec_l1In (a0 : Int) (a1 : Int) (a2 : Int) : pureV (call Ev) Fn.spec_l1In [iv .i64 a0, iv .i64 a1, iv .i64 a2] =
  vcase (bv (decide (a0 ≥ a1)))
  (some (bv (decide (a0 ≤ a2))))
  (some (bv false)) := by
  rw [pure_eq]; kernel_rfl

theorem pu_spec_l1Digits (a0 : Int) : pureV (call Ev) Fn.spec_l1Digits [iv .i64 a0] =
  vcase (bv (decide (a0 < 0)))
  (pcallS (call Ev) Fn.spec_l1Digits [iv .i64 (IntKind.i64.wrap (-a0))] fun v102 =>
  gV1 v102 fun x103 =>
  gS x103 fun y104 =>
  (bin Ev .add 9 (.s (.str (⟨#[45]⟩))) (.s (.str y104))).bind fun b105 =>
  gV1 b105 fun x106 =>
  gS x106 fun y107 =>
  some (.s (.str y107)))
  (vcase (bv (decide (a0 < 10)))
  ((cvStr ((D 0).new 1 [.int .u8 (IntKind.u8.wrap (IntKind.i64.wrap (48 + a0)))]) (sv 0 0 1)).bind fun v109 =>
  gV1 v109 fun x110 =>
  gS x110 fun y111 =>
  some (.s (.str y111)))
  ((bin Ev .quo 2 (iv .i64 a0) (iv .i64 10)).bind fun b112 =>
  gV1 b112 fun x113 =>
  gI .i64 x113 fun i114 =>
  (bin Ev .rem 2 (iv .i64 a0) (iv .i64 10)).bind fun b115 =>
  gV1 b115 fun x116 =>
  gI .i64 x116 fun i117 =>
  hchk (D 0) ((D 0).new 1 [.int .u8 (IntKind.u8.wrap (IntKind.i64.wrap (48 + i117)))]) (
  (cvStr ((D 0).new 1 [.int .u8 (IntKind.u8.wrap (IntKind.i64.wrap (48 + i117)))]) (sv 0 0 1)).bind fun v118 =>
  gV1 v118 fun x119 =>
  gS x119 fun y120 =>
  hchk (D 0) ((D 0).new 1 [.int .u8 (IntKind.u8.wrap (IntKind.i64.wrap (48 + i117)))]) (
  pcallS (call Ev) Fn.spec_l1Digits [iv .i64 i114] fun v121 =>
  gV1 v121 fun x122 =>
  gS x122 fun y123 =>
  (bin Ev .add 9 (.s (.str y123)) (.s (.str y120))).bind fun b124 =>
  gV1 b124 fun x125 =>
  gS x125 fun y126 =>
  some (.s (.str y126)))))) := by
  rw [pure_eq]; kernel_rfl

noncomputable def Jn.spec_KeyText_0 (q124 : Bool) (a0_0 : Int) (a0_1 : Int) : Option (V) :=
  vcase (bv q124)
  (some (.agg [.int .i64 3, .str (⟨#[]⟩)]))
  (pcallS (call Ev) Fn.spec_l1Digits [iv .i64 a0_0] fun v126 =>
  gV1 v126 fun x127 =>
  gS x127 fun y128 =>
  hchk (((D 0).new 0 [.int .i64 a0_0, .int .i64 a0_1]).new 0 [.int .i64 0, .str (⟨#[]⟩)]) (((D 0).new 0 [.int .i64 a0_0, .int .i64 a0_1]).new 0 [.int .i64 0, .str (⟨#[]⟩)]) (
  (bin Ev .add 9 (.s (.str y128)) (.s (.str (⟨#[47]⟩)))).bind fun b129 =>
  gV1 b129 fun x130 =>
  gS x130 fun y131 =>
  pcallS (call Ev) Fn.spec_l1Digits [iv .i64 a0_1] fun v132 =>
  gV1 v132 fun x133 =>
  gS x133 fun y134 =>
  hchk (((D 0).new 0 [.int .i64 a0_0, .int .i64 a0_1]).new 0 [.int .i64 0, .str (⟨#[]⟩)]) (((D 0).new 0 [.int .i64 a0_0, .int .i64 a0_1]).new 0 [.int .i64 0, .str (⟨#[]⟩)]) (
  (bin Ev .add 9 (.s (.str y131)) (.s (.str y134))).bind fun b135 =>
  gV1 b135 fun x136 =>
  gS x136 fun y137 =>
  some (.agg [.int .i64 0, .str y137]))))

theorem pu_spec_KeyText (a0_0 : Int) (a0_1 : Int) : pureV (call Ev) Fn.spec_KeyText [.agg [.int .i64 a0_0, .int .i64 a0_1]] =
  pcallS (call Ev) Fn.spec_l1In [iv .i64 a0_0, iv .i64 0, iv .i64 3] fun v101 =>
  gV1 v101 fun x102 =>
  gB x102 fun q103 =>
  vcase (bv (!q103))
  (Jn.spec_KeyText_0 true a0_0 a0_1)
  (pcallS (call Ev) Fn.spec_l1In [iv .i64 a0_1, iv .i64 1, iv .i64 99] fun v106 =>
  gV1 v106 fun x107 =>
  gB x107 fun q108 =>
  Jn.spec_KeyText_0 (!q108) a0_0 a0_1) := by
  rw [pure_eq]; kernel_rfl

theorem pu_laws_toKey (a0_0 : Int) (a0_1 : Int) : pureV (call Ev) Fn.laws_toKey [.agg [.int .i64 a0_0, .int .i64 a0_1]] =
  some (.agg [.int .i64 a0_0, .int .i64 a0_1]) := by
  rw [pure_eq]; kernel_rfl

theorem pu_impl_in (a0 : Int) (a1 : Int) (a2 : Int) : pureV (call Ev) Fn.impl_in [iv .i64 a0, iv .i64 a1, iv .i64 a2] =
  vcase (bv (decide (a0 ≥ a1)))
  (some (bv (decide (a0 ≤ a2))))
  (some (bv false)) := by
  rw [pure_eq]; kernel_rfl

theorem pu_impl_isKey (a0 : Int) (a1 : Int) : pureV (call Ev) Fn.impl_isKey [iv .i64 a0, iv .i64 a1] =
  pcallS (call Ev) Fn.impl_in [iv .i64 a0, iv .i64 0, iv .i64 3] fun v101 =>
  gV1 v101 fun x102 =>
  gB x102 fun q103 =>
  vcase (bv q103)
  (pcallS (call Ev) Fn.impl_in [iv .i64 a1, iv .i64 1, iv .i64 99] fun v105 =>
  gV1 v105 fun x106 =>
  gB x106 fun q107 =>
  some (bv q107))
  (some (bv false)) := by
  rw [pure_eq]; kernel_rfl

theorem pu_strconv_small (a0 : Int) : pureV (call Ev) Fn.strconv_small [iv .i64 a0] =
  vcase (bv (decide (a0 < 10)))
  ((slStr (.s (.str (⟨#[48, 49, 50, 51, 52, 53, 54, 55, 56, 57, 97, 98, 99, 100, 101, 102, 103, 104, 105, 106, 107, 108, 109, 110, 111, 112, 113, 114, 115, 116, 117, 118, 119, 120, 121, 122]⟩))) (some (iv .i64 a0)) (some (iv .i64 (IntKind.i64.wrap (a0 + 1))))).bind fun v102 =>
  gV1 v102 fun x103 =>
  gS x103 fun y104 =>
  some (.s (.str y104)))
  ((slStr (.s (.str (⟨#[48, 48, 48, 49, 48, 50, 48, 51, 48, 52, 48, 53, 48, 54, 48, 55, 48, 56, 48, 57, 49, 48, 49, 49, 49, 50, 49, 51, 49, 52, 49, 53, 49, 54, 49, 55, 49, 56, 49, 57, 50, 48, 50, 49, 50, 50, 50, 51, 50, 52, 50, 53, 50, 54, 50, 55, 50, 56, 50, 57, 51, 48, 51, 49, 51, 50, 51, 51, 51, 52, 51, 53, 51, 54, 51, 55, 51, 56, 51, 57, 52, 48, 52, 49, 52, 50, 52, 51, 52, 52, 52, 53, 52, 54, 52, 55, 52, 56, 52, 57, 53, 48, 53, 49, 53, 50, 53, 51, 53, 52, 53, 53, 53, 54, 53, 55, 53, 56, 53, 57, 54, 48, 54, 49, 54, 50, 54, 51, 54, 52, 54, 53, 54, 54, 54, 55, 54, 56, 54, 57, 55, 48, 55, 49, 55, 50, 55, 51, 55, 52, 55, 53, 55, 54, 55, 55, 55, 56, 55, 57, 56, 48, 56, 49, 56, 50, 56, 51, 56, 52, 56, 53, 56, 54, 56, 55, 56, 56, 56, 57, 57, 48, 57, 49, 57, 50, 57, 51, 57, 52, 57, 53, 57, 54, 57, 55, 57, 56, 57, 57]⟩))) (some (iv .i64 (IntKind.i64.wrap (a0 * 2)))) (some (iv .i64 (IntKind.i64.wrap ((IntKind.i64.wrap (a0 * 2)) + 2))))).bind fun v105 =>
  gV1 v105 fun x106 =>
  gS x106 fun y107 =>
  some (.s (.str y107))) := by
  rw [pure_eq]; kernel_rfl

noncomputable def Jn.strconv_formatBase10_0 (i172 : Int) (i173 : Int) (h174 : H) (w109 : V) : Option (V × H) :=
  vcase (bv (decide (i172 ≥ 2)))
  ((bin Ev .rem 81 (iv .u32 i173) (iv .u32 100)).bind fun b176 =>
  gV1 b176 fun x177 =>
  gI .u32 x177 fun i178 =>
  (bin Ev .quo 81 (iv .u32 i173) (iv .u32 100)).bind fun b179 =>
  gV1 b179 fun x180 =>
  gI .u32 x180 fun i181 =>
  (idxStr (.s (.str (⟨#[48, 48, 48, 49, 48, 50, 48, 51, 48, 52, 48, 53, 48, 54, 48, 55, 48, 56, 48, 57, 49, 48, 49, 49, 49, 50, 49, 51, 49, 52, 49, 53, 49, 54, 49, 55, 49, 56, 49, 57, 50, 48, 50, 49, 50, 50, 50, 51, 50, 52, 50, 53, 50, 54, 50, 55, 50, 56, 50, 57, 51, 48, 51, 49, 51, 50, 51, 51, 51, 52, 51, 53, 51, 54, 51, 55, 51, 56, 51, 57, 52, 48, 52, 49, 52, 50, 52, 51, 52, 52, 52, 53, 52, 54, 52, 55, 52, 56, 52, 57, 53, 48, 53, 49, 53, 50, 53, 51, 53, 52, 53, 53, 53, 54, 53, 55, 53, 56, 53, 57, 54, 48, 54, 49, 54, 50, 54, 51, 54, 52, 54, 53, 54, 54, 54, 55, 54, 56, 54, 57, 55, 48, 55, 49, 55, 50, 55, 51, 55, 52, 55, 53, 55, 54, 55, 55, 55, 56, 55, 57, 56, 48, 56, 49, 56, 50, 56, 51, 56, 52, 56, 53, 56, 54, 56, 55, 56, 56, 56, 57, 57, 48, 57, 49, 57, 50, 57, 51, 57, 52, 57, 53, 57, 54, 57, 55, 57, 56, 57, 57]⟩))) (iv .u32 (IntKind.u32.wrap ((IntKind.u32.wrap (i178 * 2)) + 1)))).bind fun v182 =>
  gV1 v182 fun x183 =>
  gI .u8 x183 fun i184 =>
  idxK 1 w109 (iv .i64 (IntKind.i64.wrap (i172 - 1))) fun v185 =>
  (idxStr (.s (.str (⟨#[48, 48, 48, 49, 48, 50, 48, 51, 48, 52, 48, 53, 48, 54, 48, 55, 48, 56, 48, 57, 49, 48, 49, 49, 49, 50, 49, 51, 49, 52, 49, 53, 49, 54, 49, 55, 49, 56, 49, 57, 50, 48, 50, 49, 50, 50, 50, 51, 50, 52, 50, 53, 50, 54, 50, 55, 50, 56, 50, 57, 51, 48, 51, 49, 51, 50, 51, 51, 51, 52, 51, 53, 51, 54, 51, 55, 51, 56, 51, 57, 52, 48, 52, 49, 52, 50, 52, 51, 52, 52, 52, 53, 52, 54, 52, 55, 52, 56, 52, 57, 53, 48, 53, 49, 53, 50, 53, 51, 53, 52, 53, 53, 53, 54, 53, 55, 53, 56, 53, 57, 54, 48, 54, 49, 54, 50, 54, 51, 54, 52, 54, 53, 54, 54, 54, 55, 54, 56, 54, 57, 55, 48, 55, 49, 55, 50, 55, 51, 55, 52, 55, 53, 55, 54, 55, 55, 55, 56, 55, 57, 56, 48, 56, 49, 56, 50, 56, 51, 56, 52, 56, 53, 56, 54, 56, 55, 56, 56, 56, 57, 57, 48, 57, 49, 57, 50, 57, 51, 57, 52, 57, 53, 57, 54, 57, 55, 57, 56, 57, 57]⟩))) (iv .u32 (IntKind.u32.wrap (i178 * 2)))).bind fun v186 =>
  gV1 v186 fun x187 =>
  gI .u8 x187 fun i188 =>
  stK 1 h174 v185 (iv .u8 i184) fun h189 =>
  idxK 1 w109 (iv .i64 (IntKind.i64.wrap (i172 - 2))) fun v190 =>
  stK 1 h189 v190 (iv .u8 i188) fun h191 =>
  vcase (bv (decide ((IntKind.i64.wrap (i172 - 2)) > 0)))
  (idxK 1 w109 (iv .i64 0) fun v193 =>
  stK 1 h191 v193 (iv .u8 (IntKind.u8.wrap (IntKind.u32.wrap (48 + i181)))) fun h194 =>
  some (.tup [], h194))
  (some (.tup [], h191)))
  (vcase (bv (decide (i172 > 0)))
  (idxK 1 w109 (iv .i64 0) fun v196 =>
  stK 1 h174 v196 (iv .u8 (IntKind.u8.wrap (IntKind.u32.wrap (48 + i173)))) fun h197 =>
  some (.tup [], h197))
  (some (.tup [], h174)))

theorem eq_strconv_formatBase10 (a0 : V) (a1 : Int) (h : H) : call Ev Fn.strconv_formatBase10 [a0, iv .u64 a1] h =
  (lenV (.sl 5) a0).bind fun v101 =>
  gV1 v101 fun x102 =>
  gI .i64 x102 fun i103 =>
  (Lp.strconv_formatBase10 0 [a0, iv .u64 a1, iv .i64 i103] h).bind fun o104 => lcase o104 (fun l105 h106 =>
  (l105[0]?).bind fun w109 =>
  (l105[1]?).bind fun w110 =>
  gV1 w110 fun x111 =>
  gI .u64 x111 fun i112 =>
  (l105[2]?).bind fun w113 =>
  gV1 w113 fun x114 =>
  gI .i64 x114 fun i115 =>
  vcase (bv (decide (i115 ≥ 4)))
  ((bin Ev .rem 81 (iv .u32 (IntKind.u32.wrap i112)) (iv .u32 10000)).bind fun b117 =>
  gV1 b117 fun x118 =>
  gI .u32 x118 fun i119 =>
  (bin Ev .quo 81 (iv .u32 (IntKind.u32.wrap i112)) (iv .u32 10000)).bind fun b120 =>
  gV1 b120 fun x121 =>
  gI .u32 x121 fun i122 =>
  (bin Ev .quo 81 (iv .u32 i119) (iv .u32 100)).bind fun b123 =>
  gV1 b123 fun x124 =>
  gI .u32 x124 fun i125 =>
  (bin Ev .rem 81 (iv .u32 i119) (iv .u32 100)).bind fun b126 =>
  gV1 b126 fun x127 =>
  gI .u32 x127 fun i128 =>
  (idxStr (.s (.str (⟨#[48, 48, 48, 49, 48, 50, 48, 51, 48, 52, 48, 53, 48, 54, 48, 55, 48, 56, 48, 57, 49, 48, 49, 49, 49, 50, 49, 51, 49, 52, 49, 53, 49, 54, 49, 55, 49, 56, 49, 57, 50, 48, 50, 49, 50, 50, 50, 51, 50, 52, 50, 53, 50, 54, 50, 55, 50, 56, 50, 57, 51, 48, 51, 49, 51, 50, 51, 51, 51, 52, 51, 53, 51, 54, 51, 55, 51, 56, 51, 57, 52, 48, 52, 49, 52, 50, 52, 51, 52, 52, 52, 53, 52, 54, 52, 55, 52, 56, 52, 57, 53, 48, 53, 49, 53, 50, 53, 51, 53, 52, 53, 53, 53, 54, 53, 55, 53, 56, 53, 57, 54, 48, 54, 49, 54, 50, 54, 51, 54, 52, 54, 53, 54, 54, 54, 55, 54, 56, 54, 57, 55, 48, 55, 49, 55, 50, 55, 51, 55, 52, 55, 53, 55, 54, 55, 55, 55, 56, 55, 57, 56, 48, 56, 49, 56, 50, 56, 51, 56, 52, 56, 53, 56, 54, 56, 55, 56, 56, 56, 57, 57, 48, 57, 49, 57, 50, 57, 51, 57, 52, 57, 53, 57, 54, 57, 55, 57, 56, 57, 57]⟩))) (iv .u32 (IntKind.u32.wrap ((IntKind.u32.wrap (i128 * 2)) + 1)))).bind fun v129 =>
  gV1 v129 fun x130 =>
  gI .u8 x130 fun i131 =>
  idxK 1 w109 (iv .i64 (IntKind.i64.wrap (i115 - 1))) fun v132 =>
  (idxStr (.s (.str (⟨#[48, 48, 48, 49, 48, 50, 48, 51, 48, 52, 48, 53, 48, 54, 48, 55, 48, 56, 48, 57, 49, 48, 49, 49, 49, 50, 49, 51, 49, 52, 49, 53, 49, 54, 49, 55, 49, 56, 49, 57, 50, 48, 50, 49, 50, 50, 50, 51, 50, 52, 50, 53, 50, 54, 50, 55, 50, 56, 50, 57, 51, 48, 51, 49, 51, 50, 51, 51, 51, 52, 51, 53, 51, 54, 51, 55, 51, 56, 51, 57, 52, 48, 52, 49, 52, 50, 52, 51, 52, 52, 52, 53, 52, 54, 52, 55, 52, 56, 52, 57, 53, 48, 53, 49, 53, 50, 53, 51, 53, 52, 53, 53, 53, 54, 53, 55, 53, 56, 53, 57, 54, 48, 54, 49, 54, 50, 54, 51, 54, 52, 54, 53, 54, 54, 54, 55, 54, 56, 54, 57, 55, 48, 55, 49, 55, 50, 55, 51, 55, 52, 55, 53, 55, 54, 55, 55, 55, 56, 55, 57, 56, 48, 56, 49, 56, 50, 56, 51, 56, 52, 56, 53, 56, 54, 56, 55, 56, 56, 56, 57, 57, 48, 57, 49, 57, 50, 57, 51, 57, 52, 57, 53, 57, 54, 57, 55, 57, 56, 57, 57]⟩))) (iv .u32 (IntKind.u32.wrap (i128 * 2)))).bind fun v133 =>
  gV1 v133 fun x134 =>
  gI .u8 x134 fun i135 =>
  stK 1 h106 v132 (iv .u8 i131) fun h136 =>
  idxK 1 w109 (iv .i64 (IntKind.i64.wrap (i115 - 2))) fun v137 =>
  stK 1 h136 v137 (iv .u8 i135) fun h138 =>
  (idxStr (.s (.str (⟨#[48, 48, 48, 49, 48, 50, 48, 51, 48, 52, 48, 53, 48, 54, 48, 55, 48, 56, 48, 57, 49, 48, 49, 49, 49, 50, 49, 51, 49, 52, 49, 53, 49, 54, 49, 55, 49, 56, 49, 57, 50, 48, 50, 49, 50, 50, 50, 51, 50, 52, 50, 53, 50, 54, 50, 55, 50, 56, 50, 57, 51, 48, 51, 49, 51, 50, 51, 51, 51, 52, 51, 53, 51, 54, 51, 55, 51, 56, 51, 57, 52, 48, 52, 49, 52, 50, 52, 51, 52, 52, 52, 53, 52, 54, 52, 55, 52, 56, 52, 57, 53, 48, 53, 49, 53, 50, 53, 51, 53, 52, 53, 53, 53, 54, 53, 55, 53, 56, 53, 57, 54, 48, 54, 49, 54, 50, 54, 51, 54, 52, 54, 53, 54, 54, 54, 55, 54, 56, 54, 57, 55, 48, 55, 49, 55, 50, 55, 51, 55, 52, 55, 53, 55, 54, 55, 55, 55, 56, 55, 57, 56, 48, 56, 49, 56, 50, 56, 51, 56, 52, 56, 53, 56, 54, 56, 55, 56, 56, 56, 57, 57, 48, 57, 49, 57, 50, 57, 51, 57, 52, 57, 53, 57, 54, 57, 55, 57, 56, 57, 57]⟩))) (iv .u32 (IntKind.u32.wrap ((IntKind.u32.wrap (i125 * 2)) + 1)))).bind fun v139 =>
  gV1 v139 fun x140 =>
  gI .u8 x140 fun i141 =>
  idxK 1 w109 (iv .i64 (IntKind.i64.wrap (i115 - 3))) fun v142 =>
  (idxStr (.s (.str (⟨#[48, 48, 48, 49, 48, 50, 48, 51, 48, 52, 48, 53, 48, 54, 48, 55, 48, 56, 48, 57, 49, 48, 49, 49, 49, 50, 49, 51, 49, 52, 49, 53, 49, 54, 49, 55, 49, 56, 49, 57, 50, 48, 50, 49, 50, 50, 50, 51, 50, 52, 50, 53, 50, 54, 50, 55, 50, 56, 50, 57, 51, 48, 51, 49, 51, 50, 51, 51, 51, 52, 51, 53, 51, 54, 51, 55, 51, 56, 51, 57, 52, 48, 52, 49, 52, 50, 52, 51, 52, 52, 52, 53, 52, 54, 52, 55, 52, 56, 52, 57, 53, 48, 53, 49, 53, 50, 53, 51, 53, 52, 53, 53, 53, 54, 53, 55, 53, 56, 53, 57, 54, 48, 54, 49, 54, 50, 54, 51, 54, 52, 54, 53, 54, 54, 54, 55, 54, 56, 54, 57, 55, 48, 55, 49, 55, 50, 55, 51, 55, 52, 55, 53, 55, 54, 55, 55, 55, 56, 55, 57, 56, 48, 56, 49, 56, 50, 56, 51, 56, 52, 56, 53, 56, 54, 56, 55, 56, 56, 56, 57, 57, 48, 57, 49, 57, 50, 57, 51, 57, 52, 57, 53, 57, 54, 57, 55, 57, 56, 57, 57]⟩))) (iv .u32 (IntKind.u32.wrap (i125 * 2)))).bind fun v143 =>
  gV1 v143 fun x144 =>
  gI .u8 x144 fun i145 =>
  stK 1 h138 v142 (iv .u8 i141) fun h146 =>
  idxK 1 w109 (iv .i64 (IntKind.i64.wrap (i115 - 4))) fun v147 =>
  stK 1 h146 v147 (iv .u8 i145) fun h148 =>
  Jn.strconv_formatBase10_0 (IntKind.i64.wrap (i115 - 4)) i122 h148 w109)
  (Jn.strconv_formatBase10_0 i115 (IntKind.u32.wrap i112) h106 w109)) (fun v107 h108 =>
  some (v107, h108)) := by
  rw [call_eq]; kernel_rfl

theorem eq_strconv_formatBase10_l0 (s0 : V) (s1 : Int) (s4 : Int) (h : H) : Lp.strconv_formatBase10 0 [s0, iv .u64 s1, iv .i64 s4] h =
  vcase (bv (decide (s4 ≥ 8)))
  ((bin Ev .rem 72 (iv .u64 s1) (iv .u64 100000000)).bind fun b203 =>
  gV1 b203 fun x204 =>
  gI .u64 x204 fun i205 =>
  (bin Ev .quo 72 (iv .u64 s1) (iv .u64 100000000)).bind fun b206 =>
  gV1 b206 fun x207 =>
  gI .u64 x207 fun i208 =>
  (bin Ev .quo 81 (iv .u32 (IntKind.u32.wrap i205)) (iv .u32 10000)).bind fun b209 =>
  gV1 b209 fun x210 =>
  gI .u32 x210 fun i211 =>
  (bin Ev .rem 81 (iv .u32 (IntKind.u32.wrap i205)) (iv .u32 10000)).bind fun b212 =>
  gV1 b212 fun x213 =>
  gI .u32 x213 fun i214 =>
  (bin Ev .quo 81 (iv .u32 i214) (iv .u32 100)).bind fun b215 =>
  gV1 b215 fun x216 =>
  gI .u32 x216 fun i217 =>
  (bin Ev .rem 81 (iv .u32 i214) (iv .u32 100)).bind fun b218 =>
  gV1 b218 fun x219 =>
  gI .u32 x219 fun i220 =>
  (bin Ev .quo 81 (iv .u32 i211) (iv .u32 100)).bind fun b221 =>
  gV1 b221 fun x222 =>
  gI .u32 x222 fun i223 =>
  (bin Ev .rem 81 (iv .u32 i211) (iv .u32 100)).bind fun b224 =>
  gV1 b224 fun x225 =>
  gI .u32 x225 fun i226 =>
  (idxStr (.s (.str (⟨#[48, 48, 48, 49, 48, 50, 48, 51, 48, 52, 48, 53, 48, 54, 48, 55, 48, 56, 48, 57, 49, 48, 49, 49, 49, 50, 49, 51, 49, 52, 49, 53, 49, 54, 49, 55, 49, 56, 49, 57, 50, 48, 50, 49, 50, 50, 50, 51, 50, 52, 50, 53, 50, 54, 50, 55, 50, 56, 50, 57, 51, 48, 51, 49, 51, 50, 51, 51, 51, 52, 51, 53, 51, 54, 51, 55, 51, 56, 51, 57, 52, 48, 52, 49, 52, 50, 52, 51, 52, 52, 52, 53, 52, 54, 52, 55, 52, 56, 52, 57, 53, 48, 53, 49, 53, 50, 53, 51, 53, 52, 53, 53, 53, 54, 53, 55, 53, 56, 53, 57, 54, 48, 54, 49, 54, 50, 54, 51, 54, 52, 54, 53, 54, 54, 54, 55, 54, 56, 54, 57, 55, 48, 55, 49, 55, 50, 55, 51, 55, 52, 55, 53, 55, 54, 55, 55, 55, 56, 55, 57, 56, 48, 56, 49, 56, 50, 56, 51, 56, 52, 56, 53, 56, 54, 56, 55, 56, 56, 56, 57, 57, 48, 57, 49, 57, 50, 57, 51, 57, 52, 57, 53, 57, 54, 57, 55, 57, 56, 57, 57]⟩))) (iv .u32 (IntKind.u32.wrap ((IntKind.u32.wrap (i220 * 2)) + 1)))).bind fun v227 =>
  gV1 v227 fun x228 =>
  gI .u8 x228 fun i229 =>
  idxK 1 s0 (iv .i64 (IntKind.i64.wrap (s4 - 1))) fun v230 =>
  (idxStr (.s (.str (⟨#[48, 48, 48, 49, 48, 50, 48, 51, 48, 52, 48, 53, 48, 54, 48, 55, 48, 56, 48, 57, 49, 48, 49, 49, 49, 50, 49, 51, 49, 52, 49, 53, 49, 54, 49, 55, 49, 56, 49, 57, 50, 48, 50, 49, 50, 50, 50, 51, 50, 52, 50, 53, 50, 54, 50, 55, 50, 56, 50, 57, 51, 48, 51, 49, 51, 50, 51, 51, 51, 52, 51, 53, 51, 54, 51, 55, 51, 56, 51, 57, 52, 48, 52, 49, 52, 50, 52, 51, 52, 52, 52, 53, 52, 54, 52, 55, 52, 56, 52, 57, 53, 48, 53, 49, 53, 50, 53, 51, 53, 52, 53, 53, 53, 54, 53, 55, 53, 56, 53, 57, 54, 48, 54, 49, 54, 50, 54, 51, 54, 52, 54, 53, 54, 54, 54, 55, 54, 56, 54, 57, 55, 48, 55, 49, 55, 50, 55, 51, 55, 52, 55, 53, 55, 54, 55, 55, 55, 56, 55, 57, 56, 48, 56, 49, 56, 50, 56, 51, 56, 52, 56, 53, 56, 54, 56, 55, 56, 56, 56, 57, 57, 48, 57, 49, 57, 50, 57, 51, 57, 52, 57, 53, 57, 54, 57, 55, 57, 56, 57, 57]⟩))) (iv .u32 (IntKind.u32.wrap (i220 * 2)))).bind fun v231 =>
  gV1 v231 fun x232 =>
  gI .u8 x232 fun i233 =>
  stK 1 h v230 (iv .u8 i229) fun h234 =>
  idxK 1 s0 (iv .i64 (IntKind.i64.wrap (s4 - 2))) fun v235 =>
  stK 1 h234 v235 (iv .u8 i233) fun h236 =>
  (idxStr (.s (.str (⟨#[48, 48, 48, 49, 48, 50, 48, 51, 48, 52, 48, 53, 48, 54, 48, 55, 48, 56, 48, 57, 49, 48, 49, 49, 49, 50, 49, 51, 49, 52, 49, 53, 49, 54, 49, 55, 49, 56, 49, 57, 50, 48, 50, 49, 50, 50, 50, 51, 50, 52, 50, 53, 50, 54, 50, 55, 50, 56, 50, 57, 51, 48, 51, 49, 51, 50, 51, 51, 51, 52, 51, 53, 51, 54, 51, 55, 51, 56, 51, 57, 52, 48, 52, 49, 52, 50, 52, 51, 52, 52, 52, 53, 52, 54, 52, 55, 52, 56, 52, 57, 53, 48, 53, 49, 53, 50, 53, 51, 53, 52, 53, 53, 53, 54, 53, 55, 53, 56, 53, 57, 54, 48, 54, 49, 54, 50, 54, 51, 54, 52, 54, 53, 54, 54, 54, 55, 54, 56, 54, 57, 55, 48, 55, 49, 55, 50, 55, 51, 55, 52, 55, 53, 55, 54, 55, 55, 55, 56, 55, 57, 56, 48, 56, 49, 56, 50, 56, 51, 56, 52, 56, 53, 56, 54, 56, 55, 56, 56, 56, 57, 57, 48, 57, 49, 57, 50, 57, 51, 57, 52, 57, 53, 57, 54, 57, 55, 57, 56, 57, 57]⟩))) (iv .u32 (IntKind.u32.wrap ((IntKind.u32.wrap (i217 * 2)) + 1)))).bind fun v237 =>
  gV1 v237 fun x238 =>
  gI .u8 x238 fun i239 =>
  idxK 1 s0 (iv .i64 (IntKind.i64.wrap (s4 - 3))) fun v240 =>
  (idxStr (.s (.str (⟨#[48, 48, 48, 49, 48, 50, 48, 51, 48, 52, 48, 53, 48, 54, 48, 55, 48, 56, 48, 57, 49, 48, 49, 49, 49, 50, 49, 51, 49, 52, 49, 53, 49, 54, 49, 55, 49, 56, 49, 57, 50, 48, 50, 49, 50, 50, 50, 51, 50, 52, 50, 53, 50, 54, 50, 55, 50, 56, 50, 57, 51, 48, 51, 49, 51, 50, 51, 51, 51, 52, 51, 53, 51, 54, 51, 55, 51, 56, 51, 57, 52, 48, 52, 49, 52, 50, 52, 51, 52, 52, 52, 53, 52, 54, 52, 55, 52, 56, 52, 57, 53, 48, 53, 49, 53, 50, 53, 51, 53, 52, 53, 53, 53, 54, 53, 55, 53, 56, 53, 57, 54, 48, 54, 49, 54, 50, 54, 51, 54, 52, 54, 53, 54, 54, 54, 55, 54, 56, 54, 57, 55, 48, 55, 49, 55, 50, 55, 51, 55, 52, 55, 53, 55, 54, 55, 55, 55, 56, 55, 57, 56, 48, 56, 49, 56, 50, 56, 51, 56, 52, 56, 53, 56, 54, 56, 55, 56, 56, 56, 57, 57, 48, 57, 49, 57, 50, 57, 51, 57, 52, 57, 53, 57, 54, 57, 55, 57, 56, 57, 57]⟩))) (iv .u32 (IntKind.u32.wrap (i217 * 2)))).bind fun v241 =>
  gV1 v241 fun x242 =>
  gI .u8 x242 fun i243 =>
  stK 1 h236 v240 (iv .u8 i239) fun h244 =>
  idxK 1 s0 (iv .i64 (IntKind.i64.wrap (s4 - 4))) fun v245 =>
  stK 1 h244 v245 (iv .u8 i243) fun h246 =>
  (idxStr (.s (.str (⟨#[48, 48, 48, 49, 48, 50, 48, 51, 48, 52, 48, 53, 48, 54, 48, 55, 48, 56, 48, 57, 49, 48, 49, 49, 49, 50, 49, 51, 49, 52, 49, 53, 49, 54, 49, 55, 49, 56, 49, 57, 50, 48, 50, 49, 50, 50, 50, 51, 50, 52, 50, 53, 50, 54, 50, 55, 50, 56, 50, 57, 51, 48, 51, 49, 51, 50, 51, 51, 51, 52, 51, 53, 51, 54, 51, 55, 51, 56, 51, 57, 52, 48, 52, 49, 52, 50, 52, 51, 52, 52, 52, 53, 52, 54, 52, 55, 52, 56, 52, 57, 53, 48, 53, 49, 53, 50, 53, 51, 53, 52, 53, 53, 53, 54, 53, 55, 53, 56, 53, 57, 54, 48, 54, 49, 54, 50, 54, 51, 54, 52, 54, 53, 54, 54, 54, 55, 54, 56, 54, 57, 55, 48, 55, 49, 55, 50, 55, 51, 55, 52, 55, 53, 55, 54, 55, 55, 55, 56, 55, 57, 56, 48, 56, 49, 56, 50, 56, 51, 56, 52, 56, 53, 56, 54, 56, 55, 56, 56, 56, 57, 57, 48, 57, 49, 57, 50, 57, 51, 57, 52, 57, 53, 57, 54, 57, 55, 57, 56, 57, 57]⟩))) (iv .u32 (IntKind.u32.wrap ((IntKind.u32.wrap (i226 * 2)) + 1)))).bind fun v247 =>
  gV1 v247 fun x248 =>
  gI .u8 x248 fun i249 =>
  idxK 1 s0 (iv .i64 (IntKind.i64.wrap (s4 - 5))) fun v250 =>
  (idxStr (.s (.str (⟨#[48, 48, 48, 49, 48, 50, 48, 51, 48, 52, 48, 53, 48, 54, 48, 55, 48, 56, 48, 57, 49, 48, 49, 49, 49, 50, 49, 51, 49, 52, 49, 53, 49, 54, 49, 55, 49, 56, 49, 57, 50, 48, 50, 49, 50, 50, 50, 51, 50, 52, 50, 53, 50, 54, 50, 55, 50, 56, 50, 57, 51, 48, 51, 49, 51, 50, 51, 51, 51, 52, 51, 53, 51, 54, 51, 55, 51, 56, 51, 57, 52, 48, 52, 49, 52, 50, 52, 51, 52, 52, 52, 53, 52, 54, 52, 55, 52, 56, 52, 57, 53, 48, 53, 49, 53, 50, 53, 51, 53, 52, 53, 53, 53, 54, 53, 55, 53, 56, 53, 57, 54, 48, 54, 49, 54, 50, 54, 51, 54, 52, 54, 53, 54, 54, 54, 55, 54, 56, 54, 57, 55, 48, 55, 49, 55, 50, 55, 51, 55, 52, 55, 53, 55, 54, 55, 55, 55, 56, 55, 57, 56, 48, 56, 49, 56, 50, 56, 51, 56, 52, 56, 53, 56, 54, 56, 55, 56, 56, 56, 57, 57, 48, 57, 49, 57, 50, 57, 51, 57, 52, 57, 53, 57, 54, 57, 55, 57, 56, 57, 57]⟩))) (iv .u32 (IntKind.u32.wrap (i226 * 2)))).bind fun v251 =>
  gV1 v251 fun x252 =>
  gI .u8 x252 fun i253 =>
  stK 1 h246 v250 (iv .u8 i249) fun h254 =>
  idxK 1 s0 (iv .i64 (IntKind.i64.wrap (s4 - 6))) fun v255 =>
  stK 1 h254 v255 (iv .u8 i253) fun h256 =>
  (idxStr (.s (.str (⟨#[48, 48, 48, 49, 48, 50, 48, 51, 48, 52, 48, 53, 48, 54, 48, 55, 48, 56, 48, 57, 49, 48, 49, 49, 49, 50, 49, 51, 49, 52, 49, 53, 49, 54, 49, 55, 49, 56, 49, 57, 50, 48, 50, 49, 50, 50, 50, 51, 50, 52, 50, 53, 50, 54, 50, 55, 50, 56, 50, 57, 51, 48, 51, 49, 51, 50, 51, 51, 51, 52, 51, 53, 51, 54, 51, 55, 51, 56, 51, 57, 52, 48, 52, 49, 52, 50, 52, 51, 52, 52, 52, 53, 52, 54, 52, 55, 52, 56, 52, 57, 53, 48, 53, 49, 53, 50, 53, 51, 53, 52, 53, 53, 53, 54, 53, 55, 53, 56, 53, 57, 54, 48, 54, 49, 54, 50, 54, 51, 54, 52, 54, 53, 54, 54, 54, 55, 54, 56, 54, 57, 55, 48, 55, 49, 55, 50, 55, 51, 55, 52, 55, 53, 55, 54, 55, 55, 55, 56, 55, 57, 56, 48, 56, 49, 56, 50, 56, 51, 56, 52, 56, 53, 56, 54, 56, 55, 56, 56, 56, 57, 57, 48, 57, 49, 57, 50, 57, 51, 57, 52, 57, 53, 57, 54, 57, 55, 57, 56, 57, 57]⟩))) (iv .u32 (IntKind.u32.wrap ((IntKind.u32.wrap (i223 * 2)) + 1)))).bind fun v257 =>
  gV1 v257 fun x258 =>
  gI .u8 x258 fun i259 =>
  idxK 1 s0 (iv .i64 (IntKind.i64.wrap (s4 - 7))) fun v260 =>
  (idxStr (.s (.str (⟨#[48, 48, 48, 49, 48, 50, 48, 51, 48, 52, 48, 53, 48, 54, 48, 55, 48, 56, 48, 57, 49, 48, 49, 49, 49, 50, 49, 51, 49, 52, 49, 53, 49, 54, 49, 55, 49, 56, 49, 57, 50, 48, 50, 49, 50, 50, 50, 51, 50, 52, 50, 53, 50, 54, 50, 55, 50, 56, 50, 57, 51, 48, 51, 49, 51, 50, 51, 51, 51, 52, 51, 53, 51, 54, 51, 55, 51, 56, 51, 57, 52, 48, 52, 49, 52, 50, 52, 51, 52, 52, 52, 53, 52, 54, 52, 55, 52, 56, 52, 57, 53, 48, 53, 49, 53, 50, 53, 51, 53, 52, 53, 53, 53, 54, 53, 55, 53, 56, 53, 57, 54, 48, 54, 49, 54, 50, 54, 51, 54, 52, 54, 53, 54, 54, 54, 55, 54, 56, 54, 57, 55, 48, 55, 49, 55, 50, 55, 51, 55, 52, 55, 53, 55, 54, 55, 55, 55, 56, 55, 57, 56, 48, 56, 49, 56, 50, 56, 51, 56, 52, 56, 53, 56, 54, 56, 55, 56, 56, 56, 57, 57, 48, 57, 49, 57, 50, 57, 51, 57, 52, 57, 53, 57, 54, 57, 55, 57, 56, 57, 57]⟩))) (iv .u32 (IntKind.u32.wrap (i223 * 2)))).bind fun v261 =>
  gV1 v261 fun x262 =>
  gI .u8 x262 fun i263 =>
  stK 1 h256 v260 (iv .u8 i259) fun h264 =>
  idxK 1 s0 (iv .i64 (IntKind.i64.wrap (s4 - 8))) fun v265 =>
  stK 1 h264 v265 (iv .u8 i263) fun h266 =>
  Lp.strconv_formatBase10 0 [s0, iv .u64 i208, iv .i64 (IntKind.i64.wrap (s4 - 8))] (tidy h [s0, iv .u64 i208, iv .i64 (IntKind.i64.wrap (s4 - 8))] h266))
  (some (.done [s0, iv .u64 s1, iv .i64 s4] (tidy h [s0, iv .u64 s1, iv .i64 s4] h))) := by
  unfold Lp.strconv_formatBase10; rw [loop_eq]; kernel_rfl

theorem pu_strconv_isPowerOfTwo (a0 : Int) : pureV (call Ev) Fn.strconv_isPowerOfTwo [iv .i64 a0] =
  (bin Ev .and 3 (iv .i64 a0) (iv .i64 (IntKind.i64.wrap (a0 - 1)))).bind fun b101 =>
  gV1 b101 fun x102 =>
  gI .i64 x102 fun i103 =>
  some (bv (i103 == 0)) := by
  rw [pure_eq]; kernel_rfl

theorem pu_bits_TrailingZeros (a0 : Int) : pureV (call Ev) Fn.bits_TrailingZeros [iv .u64 a0] =
  pcallS (call Ev) 61 [iv .u64 a0] fun v102 =>
  gV1 v102 fun x103 =>
  gI .i64 x103 fun i104 =>
  some (iv .i64 i104) := by
  rw [pure_eq]; kernel_rfl

theorem pu_strconv_FormatInt_1 (a0 : Int) (a1 : Int) : pureV (call Ev) Fn.strconv_FormatInt_1 [iv .i64 a0, iv .i64 a1] =
  vcase (bv (a1 == 10))
  (vcase (bv (decide (0 ≤ a0)))
  (vcase (bv (decide (a0 < 100)))
  (pcallS (call Ev) Fn.strconv_small [iv .i64 a0] fun v106 =>
  gV1 v106 fun x107 =>
  gS x107 fun y108 =>
  some (.s (.str y108)))
  (vcase (bv (decide (a0 < 0)))
  (pcallS (call Ev) 45 [iv .u64 (IntKind.u64.wrap (-(IntKind.u64.wrap a0)))] fun v110 =>
  gV1 v110 fun x111 =>
  gI .i64 x111 fun i112 =>
  (none))
  (pcallS (call Ev) 45 [iv .u64 (IntKind.u64.wrap a0)] fun v113 =>
  gV1 v113 fun x114 =>
  gI .i64 x114 fun i115 =>
  (none))))
  (vcase (bv (decide (a0 < 0)))
  (pcallS (call Ev) 45 [iv .u64 (IntKind.u64.wrap (-(IntKind.u64.wrap a0)))] fun v118 =>
  gV1 v118 fun x119 =>
  gI .i64 x119 fun i120 =>
  (none))
  (pcallS (call Ev) 45 [iv .u64 (IntKind.u64.wrap a0)] fun v121 =>
  gV1 v121 fun x122 =>
  gI .i64 x122 fun i123 =>
  (none))))
  ((call Ev Fn.strconv_formatBits [.s (.sl none 0), iv .u64 (IntKind.u64.wrap a0), iv .i64 a1, bv (decide (a0 < 0)), bv false] (D 0)).bind fun p124 =>
  gVT p124.1 fun u125 =>
  (u125[0]?).bind fun t126 =>
  gA1 t126 fun x127 =>
  (u125[1]?).bind fun t128 =>
  gA1 t128 fun x129 =>
  gS x129 fun y130 =>
  if u125.length = 2 then
  some (.s (.str y130))
  else none) := by
  rw [pure_eq]; kernel_rfl

theorem pu_strconv_FormatInt_0 (a0 : Int) (a1 : Int) : pureV (call Ev) Fn.strconv_FormatInt_0 [iv .i64 a0, iv .i64 a1] =
  pcallS (call Ev) Fn.strconv_FormatInt_1 [iv .i64 a0, iv .i64 a1] fun v101 =>
  gV1 v101 fun x102 =>
  gS x102 fun y103 =>
  some (.s (.str y103)) := by
  rw [pure_eq]; kernel_rfl

theorem pu_impl_digits (a0 : Int) : pureV (call Ev) Fn.impl_digits [iv .i64 a0] =
  pcallS (call Ev) Fn.strconv_FormatInt_0 [iv .i64 a0, iv .i64 10] fun v101 =>
  gV1 v101 fun x102 =>
  gS x102 fun y103 =>
  some (.s (.str y103)) := by
  rw [pure_eq]; kernel_rfl

theorem pu_impl_keyText (a0_0 : Int) (a0_1 : Int) : pureV (call Ev) Fn.impl_keyText [.agg [.int .i64 a0_0, .int .i64 a0_1]] =
  pcallS (call Ev) Fn.impl_digits [iv .i64 a0_0] fun v101 =>
  gV1 v101 fun x102 =>
  gS x102 fun y103 =>
  hchk ((D 0).new 0 [.int .i64 a0_0, .int .i64 a0_1]) ((D 0).new 0 [.int .i64 a0_0, .int .i64 a0_1]) (
  (bin Ev .add 9 (.s (.str y103)) (.s (.str (⟨#[47]⟩)))).bind fun b104 =>
  gV1 b104 fun x105 =>
  gS x105 fun y106 =>
  pcallS (call Ev) Fn.impl_digits [iv .i64 a0_1] fun v107 =>
  gV1 v107 fun x108 =>
  gS x108 fun y109 =>
  hchk ((D 0).new 0 [.int .i64 a0_0, .int .i64 a0_1]) ((D 0).new 0 [.int .i64 a0_0, .int .i64 a0_1]) (
  (bin Ev .add 9 (.s (.str y106)) (.s (.str y109))).bind fun b110 =>
  gV1 b110 fun x111 =>
  gS x111 fun y112 =>
  some (.s (.str y112)))) := by
  rw [pure_eq]; kernel_rfl

theorem pu_impl_KeyText (a0_0 : Int) (a0_1 : Int) : pureV (call Ev) Fn.impl_KeyText [.agg [.int .i64 a0_0, .int .i64 a0_1]] =
  pcallS (call Ev) Fn.impl_isKey [iv .i64 a0_0, iv .i64 a0_1] fun v101 =>
  gV1 v101 fun x102 =>
  gB x102 fun q103 =>
  vcase (bv (!q103))
  (some (.agg [.int .i64 3, .str (⟨#[]⟩)]))
  (pcallS (call Ev) Fn.impl_keyText [.agg [.int .i64 a0_0, .int .i64 a0_1]] fun v105 =>
  gV1 v105 fun x106 =>
  gS x106 fun y107 =>
  some (.agg [.int .i64 0, .str y107])) := by
  rw [pure_eq]; kernel_rfl

theorem pu_laws_eqTextResult (a0_0 : Int) (a0_1 : ByteArray) (a1_0 : Int) (a1_1 : ByteArray) : pureV (call Ev) Fn.laws_eqTextResult [.agg [.int .i64 a0_0, .str a0_1], .agg [.int .i64 a1_0, .str a1_1]] =
  vcase (bv (a0_0 != a1_0))
  (some (bv false))
  (vcase (bv (!((a0_1 : ByteArray).toList == (a1_1 : ByteArray).toList)))
  (some (bv false))
  (some (bv true))) := by
  rw [pure_eq]; kernel_rfl

theorem pu_laws_FnExactKeyText (a0_0 : Int) (a0_1 : Int) : pureV (call Ev) Fn.laws_FnExactKeyText [.agg [.int .i64 a0_0, .int .i64 a0_1]] =
  pcallS (call Ev) Fn.laws_toKey [.agg [.int .i64 a0_0, .int .i64 a0_1]] fun v101 =>
  gVA v101 fun c102 =>
  (c102[0]?).bind fun x103 =>
  gI .i64 x103 fun i104 =>
  (c102[1]?).bind fun x105 =>
  gI .i64 x105 fun i106 =>
  if c102.length = 2 then
  pcallS (call Ev) Fn.spec_KeyText [.agg [.int .i64 i104, .int .i64 i106]] fun v107 =>
  gVA v107 fun c108 =>
  (c108[0]?).bind fun x109 =>
  gI .i64 x109 fun i110 =>
  (c108[1]?).bind fun x111 =>
  gS x111 fun y112 =>
  if c108.length = 2 then
  pcallS (call Ev) Fn.laws_toKey [.agg [.int .i64 a0_0, .int .i64 a0_1]] fun v113 =>
  gVA v113 fun c114 =>
  (c114[0]?).bind fun x115 =>
  gI .i64 x115 fun i116 =>
  (c114[1]?).bind fun x117 =>
  gI .i64 x117 fun i118 =>
  if c114.length = 2 then
  pcallS (call Ev) Fn.impl_KeyText [.agg [.int .i64 i116, .int .i64 i118]] fun v119 =>
  gVA v119 fun c120 =>
  (c120[0]?).bind fun x121 =>
  gI .i64 x121 fun i122 =>
  (c120[1]?).bind fun x123 =>
  gS x123 fun y124 =>
  if c120.length = 2 then
  pcallS (call Ev) Fn.laws_eqTextResult [.agg [.int .i64 i122, .str y124], .agg [.int .i64 i110, .str y112]] fun v125 =>
  gV1 v125 fun x126 =>
  gB x126 fun q127 =>
  vcase (bv (!q127))
  (some (bv false))
  (some (bv true))
  else none
  else none
  else none
  else none := by
  rw [pure_eq]; kernel_rfl

theorem pu_laws_szRow (a0_0 : Int) (a0_1 : Int) (a0_2 : Int) (a0_3 : ByteArray) (a1 : Int) : pureV (call Ev) Fn.laws_szRow [.agg [.int .i64 a0_0, .int .i64 a0_1, .int .i64 a0_2, .str a0_3], iv .i64 a1] =
  vcase (bv (decide ((IntKind.i64.wrap (a1 - ((a0_3 : ByteArray).size : Int))) < 0)))
  (some (iv .i64 (-1)))
  (some (iv .i64 (IntKind.i64.wrap (a1 - ((a0_3 : ByteArray).size : Int))))) := by
  rw [pure_eq]; kernel_rfl

theorem pu_spec_l1Text (a0 : ByteArray) : pureV (call Ev) Fn.spec_l1Text [.s (.str a0)] =
  (Lp.spec_l1Text 0 [.s (.str a0), iv .i64 0] (D 0)).bind fun o101 => lcase o101 (fun l102 h103 =>
  (l102[0]?).bind fun w106 =>
  gV1 w106 fun x107 =>
  gS x107 fun y108 =>
  some (bv (decide (((y108 : ByteArray).size : Int) ≤ 8)))) (fun v104 h105 =>
  frzV h105 v104) := by
  rw [pure_eq]; kernel_rfl

theorem eq_spec_l1Text_l0 (s0 : ByteArray) (s3 : Int) (h : H) : Lp.spec_l1Text 0 [.s (.str s0), iv .i64 s3] h =
  vcase (bv (decide (s3 < ((s0 : ByteArray).size : Int))))
  ((idxStr (.s (.str s0)) (iv .i64 s3)).bind fun v203 =>
  gV1 v203 fun x204 =>
  gI .u8 x204 fun i205 =>
  vcase (bv (decide (i205 < 97)))
  (some (.ret (bv false) h))
  ((idxStr (.s (.str s0)) (iv .i64 s3)).bind fun v208 =>
  gV1 v208 fun x209 =>
  gI .u8 x209 fun i210 =>
  vcase (bv (decide (i210 > 122)))
  (some (.ret (bv false) h))
  (Lp.spec_l1Text 0 [.s (.str s0), iv .i64 (IntKind.i64.wrap (s3 + 1))] (tidy h [.s (.str s0), iv .i64 (IntKind.i64.wrap (s3 + 1))] h))))
  (some (.done [.s (.str s0)] (tidy h [.s (.str s0)] h))) := by
  unfold Lp.spec_l1Text; rw [loop_eq]; kernel_rfl

theorem pu_spec_l1Fault (a0_0 : Int) (a0_1 : Int) (a0_2 : Int) (a0_3 : ByteArray) : pureV (call Ev) Fn.spec_l1Fault [fv [.int .i64 a0_0, .int .i64 a0_1, .int .i64 a0_2, .str a0_3] 0] =
  pcallS (call Ev) Fn.spec_l1In [iv .i64 a0_0, iv .i64 0, iv .i64 3] fun v101 =>
  gV1 v101 fun x102 =>
  gB x102 fun q103 =>
  vcase (bv (!q103))
  (some (iv .i64 3))
  (pcallS (call Ev) Fn.spec_l1In [iv .i64 a0_1, iv .i64 1, iv .i64 99] fun v106 =>
  gV1 v106 fun x107 =>
  gB x107 fun q108 =>
  vcase (bv (!q108))
  (some (iv .i64 3))
  (pcallS (call Ev) Fn.spec_l1In [iv .i64 a0_2, iv .i64 0, iv .i64 999] fun v114 =>
  gV1 v114 fun x115 =>
  gB x115 fun q116 =>
  vcase (bv (!q116))
  (some (iv .i64 3))
  (pcallS (call Ev) Fn.spec_l1Text [.s (.str a0_3)] fun v120 =>
  gV1 v120 fun x121 =>
  gB x121 fun q122 =>
  vcase (bv (!q122))
  (some (iv .i64 5))
  (some (iv .i64 0))))) := by
  rw [pure_eq]; kernel_rfl

theorem pu_spec_l1RowText (a0_0 : Int) (a0_1 : Int) (a0_2 : Int) (a0_3 : ByteArray) : pureV (call Ev) Fn.spec_l1RowText [fv [.int .i64 a0_0, .int .i64 a0_1, .int .i64 a0_2, .str a0_3] 0] =
  pcallS (call Ev) Fn.spec_l1Digits [iv .i64 a0_0] fun v101 =>
  gV1 v101 fun x102 =>
  gS x102 fun y103 =>
  hchk (D 0) (D 0) (
  (bin Ev .add 9 (.s (.str y103)) (.s (.str (⟨#[32]⟩)))).bind fun b104 =>
  gV1 b104 fun x105 =>
  gS x105 fun y106 =>
  pcallS (call Ev) Fn.spec_l1Digits [iv .i64 a0_1] fun v107 =>
  gV1 v107 fun x108 =>
  gS x108 fun y109 =>
  hchk (D 0) (D 0) (
  (bin Ev .add 9 (.s (.str y106)) (.s (.str y109))).bind fun b110 =>
  gV1 b110 fun x111 =>
  gS x111 fun y112 =>
  (bin Ev .add 9 (.s (.str y112)) (.s (.str (⟨#[32]⟩)))).bind fun b113 =>
  gV1 b113 fun x114 =>
  gS x114 fun y115 =>
  pcallS (call Ev) Fn.spec_l1Digits [iv .i64 a0_2] fun v116 =>
  gV1 v116 fun x117 =>
  gS x117 fun y118 =>
  hchk (D 0) (D 0) (
  (bin Ev .add 9 (.s (.str y115)) (.s (.str y118))).bind fun b119 =>
  gV1 b119 fun x120 =>
  gS x120 fun y121 =>
  vcase (bv (!((a0_3 : ByteArray).toList == ((⟨#[]⟩) : ByteArray).toList)))
  ((bin Ev .add 9 (.s (.str y121)) (.s (.str (⟨#[32]⟩)))).bind fun b123 =>
  gV1 b123 fun x124 =>
  gS x124 fun y125 =>
  (bin Ev .add 9 (.s (.str y125)) (.s (.str a0_3))).bind fun b126 =>
  gV1 b126 fun x127 =>
  gS x127 fun y128 =>
  some (.s (.str y128)))
  (some (.s (.str y121)))))) := by
  rw [pure_eq]; kernel_rfl

theorem pu_spec_RowText (a0_0 : Int) (a0_1 : Int) (a0_2 : Int) (a0_3 : ByteArray) : pureV (call Ev) Fn.spec_RowText [.agg [.int .i64 a0_0, .int .i64 a0_1, .int .i64 a0_2, .str a0_3]] =
  pcallS (call Ev) Fn.spec_l1Fault [fv [.int .i64 a0_0, .int .i64 a0_1, .int .i64 a0_2, .str a0_3] 0] fun v101 =>
  gV1 v101 fun x102 =>
  gI .i64 x102 fun i103 =>
  vcase (bv (i103 != 0))
  (some (.agg [.int .i64 i103, .str (⟨#[]⟩)]))
  (pcallS (call Ev) Fn.spec_l1RowText [fv [.int .i64 a0_0, .int .i64 a0_1, .int .i64 a0_2, .str a0_3] 0] fun v105 =>
  gV1 v105 fun x106 =>
  gS x106 fun y107 =>
  some (.agg [.int .i64 0, .str y107])) := by
  rw [pure_eq]; kernel_rfl

theorem pu_laws_toRow (a0_0 : Int) (a0_1 : Int) (a0_2 : Int) (a0_3 : ByteArray) : pureV (call Ev) Fn.laws_toRow [.agg [.int .i64 a0_0, .int .i64 a0_1, .int .i64 a0_2, .str a0_3]] =
  some (.agg [.int .i64 a0_0, .int .i64 a0_1, .int .i64 a0_2, .str a0_3]) := by
  rw [pure_eq]; kernel_rfl

theorem pu_impl_RowFault (a0_0 : Int) (a0_1 : Int) (a0_2 : Int) (a0_3 : ByteArray) : pureV (call Ev) Fn.impl_RowFault [.agg [.int .i64 a0_0, .int .i64 a0_1, .int .i64 a0_2, .str a0_3]] =
  pcallS (call Ev) Fn.impl_in [iv .i64 a0_0, iv .i64 0, iv .i64 3] fun v101 =>
  gV1 v101 fun x102 =>
  gB x102 fun q103 =>
  vcase (bv (!q103))
  (some (iv .i64 3))
  (pcallS (call Ev) Fn.impl_in [iv .i64 a0_1, iv .i64 1, iv .i64 99] fun v106 =>
  gV1 v106 fun x107 =>
  gB x107 fun q108 =>
  vcase (bv (!q108))
  (some (iv .i64 3))
  (pcallS (call Ev) Fn.impl_in [iv .i64 a0_2, iv .i64 0, iv .i64 999] fun v114 =>
  gV1 v114 fun x115 =>
  gB x115 fun q116 =>
  vcase (bv (!q116))
  (some (iv .i64 3))
  (vcase (bv (decide (((a0_3 : ByteArray).size : Int) > 8)))
  (some (iv .i64 5))
  ((Lp.impl_RowFault 0 [pv 0 0, iv .i64 ((a0_3 : ByteArray).size : Int), iv .i64 0] ((D 0).new 0 [.int .i64 a0_0, .int .i64 a0_1, .int .i64 a0_2, .str a0_3])).bind fun o121 => lcase o121 (fun l122 h123 =>
  some (iv .i64 0)) (fun v124 h125 =>
  frzV h125 v124))))) := by
  rw [pure_eq]; kernel_rfl

theorem eq_impl_RowFault_l0 (s1 : V) (s26 : Int) (s27 : Int) (h : H) : Lp.impl_RowFault 0 [s1, iv .i64 s26, iv .i64 s27] h =
  vcase (bv (decide (s27 < s26)))
  ((padd 3 s1).bind fun v203 =>
  ldK (.one (.s)) ⟨1, 16, [.str ⟨#[]⟩], false, .str, false⟩ h v203 fun v204 =>
  gV1 v204 fun x205 =>
  gS x205 fun y206 =>
  (idxStr (.s (.str y206)) (iv .i64 s27)).bind fun v207 =>
  gV1 v207 fun x208 =>
  gI .u8 x208 fun i209 =>
  vcase (bv (decide (i209 < 97)))
  (some (.ret (iv .i64 5) h))
  ((padd 3 s1).bind fun v212 =>
  ldK (.one (.s)) ⟨1, 16, [.str ⟨#[]⟩], false, .str, false⟩ h v212 fun v213 =>
  gV1 v213 fun x214 =>
  gS x214 fun y215 =>
  (idxStr (.s (.str y215)) (iv .i64 s27)).bind fun v216 =>
  gV1 v216 fun x217 =>
  gI .u8 x217 fun i218 =>
  vcase (bv (decide (i218 > 122)))
  (some (.ret (iv .i64 5) h))
  (Lp.impl_RowFault 0 [s1, iv .i64 s26, iv .i64 (IntKind.i64.wrap (s27 + 1))] (tidy h [s1, iv .i64 s26, iv .i64 (IntKind.i64.wrap (s27 + 1))] h))))
  (some (.done [] (tidy h [] h))) := by
  unfold Lp.impl_RowFault; rw [loop_eq]; kernel_rfl

theorem pu_impl_rowText (a0_0 : Int) (a0_1 : Int) (a0_2 : Int) (a0_3 : ByteArray) : pureV (call Ev) Fn.impl_rowText [.agg [.int .i64 a0_0, .int .i64 a0_1, .int .i64 a0_2, .str a0_3]] =
  pcallS (call Ev) Fn.impl_digits [iv .i64 a0_0] fun v101 =>
  gV1 v101 fun x102 =>
  gS x102 fun y103 =>
  hchk ((D 0).new 0 [.int .i64 a0_0, .int .i64 a0_1, .int .i64 a0_2, .str a0_3]) ((D 0).new 0 [.int .i64 a0_0, .int .i64 a0_1, .int .i64 a0_2, .str a0_3]) (
  (bin Ev .add 9 (.s (.str y103)) (.s (.str (⟨#[32]⟩)))).bind fun b104 =>
  gV1 b104 fun x105 =>
  gS x105 fun y106 =>
  pcallS (call Ev) Fn.impl_digits [iv .i64 a0_1] fun v107 =>
  gV1 v107 fun x108 =>
  gS x108 fun y109 =>
  hchk ((D 0).new 0 [.int .i64 a0_0, .int .i64 a0_1, .int .i64 a0_2, .str a0_3]) ((D 0).new 0 [.int .i64 a0_0, .int .i64 a0_1, .int .i64 a0_2, .str a0_3]) (
  (bin Ev .add 9 (.s (.str y106)) (.s (.str y109))).bind fun b110 =>
  gV1 b110 fun x111 =>
  gS x111 fun y112 =>
  (bin Ev .add 9 (.s (.str y112)) (.s (.str (⟨#[32]⟩)))).bind fun b113 =>
  gV1 b113 fun x114 =>
  gS x114 fun y115 =>
  pcallS (call Ev) Fn.impl_digits [iv .i64 a0_2] fun v116 =>
  gV1 v116 fun x117 =>
  gS x117 fun y118 =>
  hchk ((D 0).new 0 [.int .i64 a0_0, .int .i64 a0_1, .int .i64 a0_2, .str a0_3]) ((D 0).new 0 [.int .i64 a0_0, .int .i64 a0_1, .int .i64 a0_2, .str a0_3]) (
  (bin Ev .add 9 (.s (.str y115)) (.s (.str y118))).bind fun b119 =>
  gV1 b119 fun x120 =>
  gS x120 fun y121 =>
  vcase (bv (!((a0_3 : ByteArray).toList == ((⟨#[]⟩) : ByteArray).toList)))
  ((bin Ev .add 9 (.s (.str (⟨#[32]⟩))) (.s (.str a0_3))).bind fun b123 =>
  gV1 b123 fun x124 =>
  gS x124 fun y125 =>
  (bin Ev .add 9 (.s (.str y121)) (.s (.str y125))).bind fun b126 =>
  gV1 b126 fun x127 =>
  gS x127 fun y128 =>
  some (.s (.str y128)))
  (some (.s (.str y121)))))) := by
  rw [pure_eq]; kernel_rfl

theorem pu_impl_RowText (a0_0 : Int) (a0_1 : Int) (a0_2 : Int) (a0_3 : ByteArray) : pureV (call Ev) Fn.impl_RowText [.agg [.int .i64 a0_0, .int .i64 a0_1, .int .i64 a0_2, .str a0_3]] =
  pcallS (call Ev) Fn.impl_RowFault [.agg [.int .i64 a0_0, .int .i64 a0_1, .int .i64 a0_2, .str a0_3]] fun v101 =>
  gV1 v101 fun x102 =>
  gI .i64 x102 fun i103 =>
  vcase (bv (i103 != 0))
  (some (.agg [.int .i64 i103, .str (⟨#[]⟩)]))
  (pcallS (call Ev) Fn.impl_rowText [.agg [.int .i64 a0_0, .int .i64 a0_1, .int .i64 a0_2, .str a0_3]] fun v105 =>
  gV1 v105 fun x106 =>
  gS x106 fun y107 =>
  some (.agg [.int .i64 0, .str y107])) := by
  rw [pure_eq]; kernel_rfl

theorem pu_laws_FnExactRowText (a0_0 : Int) (a0_1 : Int) (a0_2 : Int) (a0_3 : ByteArray) : pureV (call Ev) Fn.laws_FnExactRowText [.agg [.int .i64 a0_0, .int .i64 a0_1, .int .i64 a0_2, .str a0_3]] =
  pcallS (call Ev) Fn.laws_szRow [.agg [.int .i64 a0_0, .int .i64 a0_1, .int .i64 a0_2, .str a0_3], iv .i64 1048576] fun v101 =>
  gV1 v101 fun x102 =>
  gI .i64 x102 fun i103 =>
  vcase (bv (decide (i103 < 0)))
  (some (bv true))
  (pcallS (call Ev) Fn.laws_toRow [.agg [.int .i64 a0_0, .int .i64 a0_1, .int .i64 a0_2, .str a0_3]] fun v105 =>
  gVA v105 fun c106 =>
  (c106[0]?).bind fun x107 =>
  gI .i64 x107 fun i108 =>
  (c106[1]?).bind fun x109 =>
  gI .i64 x109 fun i110 =>
  (c106[2]?).bind fun x111 =>
  gI .i64 x111 fun i112 =>
  (c106[3]?).bind fun x113 =>
  gS x113 fun y114 =>
  if c106.length = 4 then
  pcallS (call Ev) Fn.spec_RowText [.agg [.int .i64 i108, .int .i64 i110, .int .i64 i112, .str y114]] fun v115 =>
  gVA v115 fun c116 =>
  (c116[0]?).bind fun x117 =>
  gI .i64 x117 fun i118 =>
  (c116[1]?).bind fun x119 =>
  gS x119 fun y120 =>
  if c116.length = 2 then
  pcallS (call Ev) Fn.laws_toRow [.agg [.int .i64 a0_0, .int .i64 a0_1, .int .i64 a0_2, .str a0_3]] fun v121 =>
  gVA v121 fun c122 =>
  (c122[0]?).bind fun x123 =>
  gI .i64 x123 fun i124 =>
  (c122[1]?).bind fun x125 =>
  gI .i64 x125 fun i126 =>
  (c122[2]?).bind fun x127 =>
  gI .i64 x127 fun i128 =>
  (c122[3]?).bind fun x129 =>
  gS x129 fun y130 =>
  if c122.length = 4 then
  pcallS (call Ev) Fn.impl_RowText [.agg [.int .i64 i124, .int .i64 i126, .int .i64 i128, .str y130]] fun v131 =>
  gVA v131 fun c132 =>
  (c132[0]?).bind fun x133 =>
  gI .i64 x133 fun i134 =>
  (c132[1]?).bind fun x135 =>
  gS x135 fun y136 =>
  if c132.length = 2 then
  pcallS (call Ev) Fn.laws_eqTextResult [.agg [.int .i64 i134, .str y136], .agg [.int .i64 i118, .str y120]] fun v137 =>
  gV1 v137 fun x138 =>
  gB x138 fun q139 =>
  vcase (bv (!q139))
  (some (bv false))
  (some (bv true))
  else none
  else none
  else none
  else none) := by
  rw [pure_eq]; kernel_rfl

noncomputable def Jn.spec_l1Number_0 (q135 : Bool) (a0 : ByteArray) : Option (V) :=
  vcase (bv q135)
  (some (iv .i64 (-1)))
  (vcase (bv (decide (((a0 : ByteArray).size : Int) > 1)))
  ((idxStr (.s (.str a0)) (iv .i64 0)).bind fun v139 =>
  gV1 v139 fun x140 =>
  gI .u8 x140 fun i141 =>
  vcase (bv (i141 == 48))
  (some (iv .i64 (-1)))
  ((Lp.spec_l1Number 0 [.s (.str a0), iv .i64 0, iv .i64 0] (D 0)).bind fun o148 => lcase o148 (fun l149 h150 =>
  (l149[0]?).bind fun w153 =>
  gV1 w153 fun x154 =>
  gI .i64 x154 fun i155 =>
  some (iv .i64 i155)) (fun v151 h152 =>
  frzV h152 v151)))
  ((Lp.spec_l1Number 0 [.s (.str a0), iv .i64 0, iv .i64 0] (D 0)).bind fun o157 => lcase o157 (fun l158 h159 =>
  (l158[0]?).bind fun w162 =>
  gV1 w162 fun x163 =>
  gI .i64 x163 fun i164 =>
  some (iv .i64 i164)) (fun v160 h161 =>
  frzV h161 v160)))

theorem pu_spec_l1Number (a0 : ByteArray) : pureV (call Ev) Fn.spec_l1Number [.s (.str a0)] =
  vcase (bv (decide (((a0 : ByteArray).size : Int) < 1)))
  (Jn.spec_l1Number_0 true a0)
  (Jn.spec_l1Number_0 (decide (((a0 : ByteArray).size : Int) > 4)) a0) := by
  rw [pure_eq]; kernel_rfl

theorem eq_spec_l1Number_l0 (s0 : ByteArray) (s3 : Int) (s4 : Int) (h : H) : Lp.spec_l1Number 0 [.s (.str s0), iv .i64 s3, iv .i64 s4] h =
  vcase (bv (decide (s4 < ((s0 : ByteArray).size : Int))))
  ((idxStr (.s (.str s0)) (iv .i64 s4)).bind fun v203 =>
  gV1 v203 fun x204 =>
  gI .u8 x204 fun i205 =>
  vcase (bv (decide (i205 < 48)))
  (some (.ret (iv .i64 (-1)) h))
  ((idxStr (.s (.str s0)) (iv .i64 s4)).bind fun v208 =>
  gV1 v208 fun x209 =>
  gI .u8 x209 fun i210 =>
  vcase (bv (decide (i210 > 57)))
  (some (.ret (iv .i64 (-1)) h))
  ((idxStr (.s (.str s0)) (iv .i64 s4)).bind fun v214 =>
  gV1 v214 fun x215 =>
  gI .u8 x215 fun i216 =>
  Lp.spec_l1Number 0 [.s (.str s0), iv .i64 (IntKind.i64.wrap ((IntKind.i64.wrap (s3 * 10)) + (IntKind.i64.wrap (IntKind.u8.wrap (i216 - 48))))), iv .i64 (IntKind.i64.wrap (s4 + 1))] (tidy h [.s (.str s0), iv .i64 (IntKind.i64.wrap ((IntKind.i64.wrap (s3 * 10)) + (IntKind.i64.wrap (IntKind.u8.wrap (i216 - 48))))), iv .i64 (IntKind.i64.wrap (s4 + 1))] h))))
  (some (.done [iv .i64 s3] (tidy h [iv .i64 s3] h))) := by
  unfold Lp.spec_l1Number; rw [loop_eq]; kernel_rfl

end Vm
