/-
  What each function, and each round of each loop, comes to in the small machine. Written by a program (gen3.py).
-/
import Derived.Test.YtpdoloemacmbaaaDoorEnv
set_option linter.unusedVariables false
set_option maxRecDepth 100000
namespace Vm
open Go

theorem pu_strconv_FormatInt_1 (a0 : Int) (a1 : Int) : pureV (call Ev) Fn.strconv_FormatInt_1 [iv .i64 a0, iv .i64 a1] =
  vcase (bv (a1 == 10))
  (vcase (bv (decide (0 ≤ a0)))
  (vcase (bv (decide (a0 < 100)))
  (pcallS (call Ev) Fn.strconv_small [iv .i64 a0] fun v106 =>
  gV1 v106 fun x107 =>
  gS x107 fun y108 =>
  some (.s (.str y108)))
  (vcase (bv (decide (a0 < 0)))
  (pcallS (call Ev) 85 [iv .u64 (IntKind.u64.wrap (-(IntKind.u64.wrap a0)))] fun v110 =>
  gV1 v110 fun x111 =>
  gI .i64 x111 fun i112 =>
  (none))
  (pcallS (call Ev) 85 [iv .u64 (IntKind.u64.wrap a0)] fun v113 =>
  gV1 v113 fun x114 =>
  gI .i64 x114 fun i115 =>
  (none))))
  (vcase (bv (decide (a0 < 0)))
  (pcallS (call Ev) 85 [iv .u64 (IntKind.u64.wrap (-(IntKind.u64.wrap a0)))] fun v118 =>
  gV1 v118 fun x119 =>
  gI .i64 x119 fun i120 =>
  (none))
  (pcallS (call Ev) 85 [iv .u64 (IntKind.u64.wrap a0)] fun v121 =>
  gV1 v121 fun x122 =>
  gI .i64 x122 fun i123 =>
  (none))))
  ((call Ev Fn.strconv_formatBits [.s (.sl none 0), iv .u64 (IntKind.u64.wrap a0), iv .i64 a1, bv (decide (a0 < 0)), bv false] (D 0)).bind fun p124 =>
  gVT p124.1 fun u125 =>
  (u125[0]?).bind fun t126 =>
  gA1 t126 fun x127 =>
  (u125[1]?).bind fun t128 =>
  gA1 t128 fun x129 =>
  gS x129 fun y130 =>
  if u125.length = 2 then
  some (.s (.str y130))
  else none) := by
  rw [pure_eq]; kernel_rfl

theorem pu_strconv_FormatInt_0 (a0 : Int) (a1 : Int) : pureV (call Ev) Fn.strconv_FormatInt_0 [iv .i64 a0, iv .i64 a1] =
  pcallS (call Ev) Fn.strconv_FormatInt_1 [iv .i64 a0, iv .i64 a1] fun v101 =>
  gV1 v101 fun x102 =>
  gS x102 fun y103 =>
  some (.s (.str y103)) := by
  rw [pure_eq]; kernel_rfl

theorem pu_impl_digits (a0 : Int) : pureV (call Ev) Fn.impl_digits [iv .i64 a0] =
  pcallS (call Ev) Fn.strconv_FormatInt_0 [iv .i64 a0, iv .i64 10] fun v101 =>
  gV1 v101 fun x102 =>
  gS x102 fun y103 =>
  some (.s (.str y103)) := by
  rw [pure_eq]; kernel_rfl

theorem pu_impl_keyText (a0_0 : Int) (a0_1 : Int) : pureV (call Ev) Fn.impl_keyText [.agg [.int .i64 a0_0, .int .i64 a0_1]] =
  pcallS (call Ev) Fn.impl_digits [iv .i64 a0_0] fun v101 =>
  gV1 v101 fun x102 =>
  gS x102 fun y103 =>
  hchk ((D 0).new 0 [.int .i64 a0_0, .int .i64 a0_1]) ((D 0).new 0 [.int .i64 a0_0, .int .i64 a0_1]) (
  (bin Ev .add 9 (.s (.str y103)) (.s (.str (⟨#[47]⟩)))).bind fun b104 =>
  gV1 b104 fun x105 =>
  gS x105 fun y106 =>
  pcallS (call Ev) Fn.impl_digits [iv .i64 a0_1] fun v107 =>
  gV1 v107 fun x108 =>
  gS x108 fun y109 =>
  hchk ((D 0).new 0 [.int .i64 a0_0, .int .i64 a0_1]) ((D 0).new 0 [.int .i64 a0_0, .int .i64 a0_1]) (
  (bin Ev .add 9 (.s (.str y106)) (.s (.str y109))).bind fun b110 =>
  gV1 b110 fun x111 =>
  gS x111 fun y112 =>
  some (.s (.str y112)))) := by
  rw [pure_eq]; kernel_rfl

theorem pu_impl_KeyText (a0_0 : Int) (a0_1 : Int) : pureV (call Ev) Fn.impl_KeyText [.agg [.int .i64 a0_0, .int .i64 a0_1]] =
  pcallS (call Ev) Fn.impl_isKey [iv .i64 a0_0, iv .i64 a0_1] fun v101 =>
  gV1 v101 fun x102 =>
  gB x102 fun q103 =>
  vcase (bv (!q103))
  (some (.agg [.int .i64 3, .str (⟨#[]⟩)]))
  (pcallS (call Ev) Fn.impl_keyText [.agg [.int .i64 a0_0, .int .i64 a0_1]] fun v105 =>
  gV1 v105 fun x106 =>
  gS x106 fun y107 =>
  some (.agg [.int .i64 0, .str y107])) := by
  rw [pure_eq]; kernel_rfl

theorem pu_spec_l1Digits (a0 : Int) : pureV (call Ev) Fn.spec_l1Digits [iv .i64 a0] =
  vcase (bv (decide (a0 < 0)))
  (pcallS (call Ev) Fn.spec_l1Digits [iv .i64 (IntKind.i64.wrap (-a0))] fun v102 =>
  gV1 v102 fun x103 =>
  gS x103 fun y104 =>
  (bin Ev .add 9 (.s (.str (⟨#[45]⟩))) (.s (.str y104))).bind fun b105 =>
  gV1 b105 fun x106 =>
  gS x106 fun y107 =>
  some (.s (.str y107)))
  (vcase (bv (decide (a0 < 10)))
  ((cvStr ((D 0).new 1 [.int .u8 (IntKind.u8.wrap (IntKind.i64.wrap (48 + a0)))]) (sv 0 0 1)).bind fun v109 =>
  gV1 v109 fun x110 =>
  gS x110 fun y111 =>
  some (.s (.str y111)))
  ((bin Ev .quo 2 (iv .i64 a0) (iv .i64 10)).bind fun b112 =>
  gV1 b112 fun x113 =>
  gI .i64 x113 fun i114 =>
  (bin Ev .rem 2 (iv .i64 a0) (iv .i64 10)).bind fun b115 =>
  gV1 b115 fun x116 =>
  gI .i64 x116 fun i117 =>
  hchk (D 0) ((D 0).new 1 [.int .u8 (IntKind.u8.wrap (IntKind.i64.wrap (48 + i117)))]) (
  (cvStr ((D 0).new 1 [.int .u8 (IntKind.u8.wrap (IntKind.i64.wrap (48 + i117)))]) (sv 0 0 1)).bind fun v118 =>
  gV1 v118 fun x119 =>
  gS x119 fun y120 =>
  hchk (D 0) ((D 0).new 1 [.int .u8 (IntKind.u8.wrap (IntKind.i64.wrap (48 + i117)))]) (
  pcallS (call Ev) Fn.spec_l1Digits [iv .i64 i114] fun v121 =>
  gV1 v121 fun x122 =>
  gS x122 fun y123 =>
  (bin Ev .add 9 (.s (.str y123)) (.s (.str y120))).bind fun b124 =>
  gV1 b124 fun x125 =>
  gS x125 fun y126 =>
  some (.s (.str y126)))))) := by
  rw [pure_eq]; kernel_rfl

noncomputable def Jn.spec_KeyText_0 (q124 : Bool) (a0_0 : Int) (a0_1 : Int) : Option (V) :=
  vcase (bv q124)
  (some (.agg [.int .i64 3, .str (⟨#[]⟩)]))
  (pcallS (call Ev) Fn.spec_l1Digits [iv .i64 a0_0] fun v126 =>
  gV1 v126 fun x127 =>
  gS x127 fun y128 =>
  hchk (((D 0).new 0 [.int .i64 a0_0, .int .i64 a0_1]).new 0 [.int .i64 0, .str (⟨#[]⟩)]) (((D 0).new 0 [.int .i64 a0_0, .int .i64 a0_1]).new 0 [.int .i64 0, .str (⟨#[]⟩)]) (
  (bin Ev .add 9 (.s (.str y128)) (.s (.str (⟨#[47]⟩)))).bind fun b129 =>
  gV1 b129 fun x130 =>
  gS x130 fun y131 =>
  pcallS (call Ev) Fn.spec_l1Digits [iv .i64 a0_1] fun v132 =>
  gV1 v132 fun x133 =>
  gS x133 fun y134 =>
  hchk (((D 0).new 0 [.int .i64 a0_0, .int .i64 a0_1]).new 0 [.int .i64 0, .str (⟨#[]⟩)]) (((D 0).new 0 [.int .i64 a0_0, .int .i64 a0_1]).new 0 [.int .i64 0, .str (⟨#[]⟩)]) (
  (bin Ev .add 9 (.s (.str y131)) (.s (.str y134))).bind fun b135 =>
  gV1 b135 fun x136 =>
  gS x136 fun y137 =>
  some (.agg [.int .i64 0, .str y137]))))

theorem pu_spec_KeyText (a0_0 : Int) (a0_1 : Int) : pureV (call Ev) Fn.spec_KeyText [.agg [.int .i64 a0_0, .int .i64 a0_1]] =
  pcallS (call Ev) Fn.spec_l1In [iv .i64 a0_0, iv .i64 0, iv .i64 3] fun v101 =>
  gV1 v101 fun x102 =>
  gB x102 fun q103 =>
  vcase (bv (!q103))
  (Jn.spec_KeyText_0 true a0_0 a0_1)
  (pcallS (call Ev) Fn.spec_l1In [iv .i64 a0_1, iv .i64 1, iv .i64 99] fun v106 =>
  gV1 v106 fun x107 =>
  gB x107 fun q108 =>
  Jn.spec_KeyText_0 (!q108) a0_0 a0_1) := by
  rw [pure_eq]; kernel_rfl

noncomputable def Jn.laws_FnTables_0 (q254 : Bool) (w255 : V) (w256 : V) (w257 : V) (w258 : V) (w259 : V) (w260 : V) (w261 : V) (w262 : V) (q263 : Bool) (a0 : List (List S)) (q113 : Bool) (i115 : Int) (i117 : Int) (i119 : Int) (y121 : ByteArray) (q123 : Bool) (i125 : Int) (i127 : Int) (i129 : Int) (y131 : ByteArray) (i150 : Int) (i152 : Int) (i156 : Int) (z158 : List (List S)) (i134 : Int) (z109 : List (List S)) : Option (V) :=
  vcase (bv q263)
  (some (bv false))
  (pcallS (call Ev) Fn.spec_DrawKeyText [lv a0] fun v265 =>
  gVA v265 fun c266 =>
  (c266[0]?).bind fun x267 =>
  gI .i64 x267 fun i268 =>
  (c266[1]?).bind fun x269 =>
  gI .i64 x269 fun i270 =>
  if c266.length = 2 then
  pcallS (call Ev) Fn.impl_KeyText [.agg [.int .i64 i268, .int .i64 i270]] fun v271 =>
  gVA v271 fun c272 =>
  (c272[0]?).bind fun x273 =>
  gI .i64 x273 fun i274 =>
  (c272[1]?).bind fun x275 =>
  gS x275 fun y276 =>
  if c272.length = 2 then
  hchk (((((((((D 0).new 0 [.bool false, .int .i64 0, .int .i64 0, .int .i64 0, .str (⟨#[]⟩), .bool false, .int .i64 0, .int .i64 0, .int .i64 0, .str (⟨#[]⟩)]).put 0 (.rw 0 [.bool q113, .int .i64 i115, .int .i64 i117, .int .i64 i119, .str y121, .bool q123, .int .i64 i125, .int .i64 i127, .int .i64 i129, .str y131])).new 0 [.int .i64 0, .int .i64 0]).put 1 (.rw 0 [.int .i64 i150, .int .i64 i152])).new 0 [.int .i64 0, .sl none 0]).put 2 (.rw 0 [.int .i64 i156, .fs z158])).new 0 [.int .i64 0, .int .i64 0]).put 3 (.rw 0 [.int .i64 i268, .int .i64 i270])) (((((((((D 0).new 0 [.bool false, .int .i64 0, .int .i64 0, .int .i64 0, .str (⟨#[]⟩), .bool false, .int .i64 0, .int .i64 0, .int .i64 0, .str (⟨#[]⟩)]).put 0 (.rw 0 [.bool q113, .int .i64 i115, .int .i64 i117, .int .i64 i119, .str y121, .bool q123, .int .i64 i125, .int .i64 i127, .int .i64 i129, .str y131])).new 0 [.int .i64 0, .int .i64 0]).put 1 (.rw 0 [.int .i64 i150, .int .i64 i152])).new 0 [.int .i64 0, .sl none 0]).put 2 (.rw 0 [.int .i64 i156, .fs z158])).new 0 [.int .i64 0, .int .i64 0]).put 3 (.rw 0 [.int .i64 i268, .int .i64 i270])) (
  pcallS (call Ev) Fn.spec_KeyText [.agg [.int .i64 i268, .int .i64 i270]] fun v277 =>
  gVA v277 fun c278 =>
  (c278[0]?).bind fun x279 =>
  gI .i64 x279 fun i280 =>
  (c278[1]?).bind fun x281 =>
  gS x281 fun y282 =>
  if c278.length = 2 then
  hchk (((((((((D 0).new 0 [.bool false, .int .i64 0, .int .i64 0, .int .i64 0, .str (⟨#[]⟩), .bool false, .int .i64 0, .int .i64 0, .int .i64 0, .str (⟨#[]⟩)]).put 0 (.rw 0 [.bool q113, .int .i64 i115, .int .i64 i117, .int .i64 i119, .str y121, .bool q123, .int .i64 i125, .int .i64 i127, .int .i64 i129, .str y131])).new 0 [.int .i64 0, .int .i64 0]).put 1 (.rw 0 [.int .i64 i150, .int .i64 i152])).new 0 [.int .i64 0, .sl none 0]).put 2 (.rw 0 [.int .i64 i156, .fs z158])).new 0 [.int .i64 0, .int .i64 0]).put 3 (.rw 0 [.int .i64 i268, .int .i64 i270])) (((((((((D 0).new 0 [.bool false, .int .i64 0, .int .i64 0, .int .i64 0, .str (⟨#[]⟩), .bool false, .int .i64 0, .int .i64 0, .int .i64 0, .str (⟨#[]⟩)]).put 0 (.rw 0 [.bool q113, .int .i64 i115, .int .i64 i117, .int .i64 i119, .str y121, .bool q123, .int .i64 i125, .int .i64 i127, .int .i64 i129, .str y131])).new 0 [.int .i64 0, .int .i64 0]).put 1 (.rw 0 [.int .i64 i150, .int .i64 i152])).new 0 [.int .i64 0, .sl none 0]).put 2 (.rw 0 [.int .i64 i156, .fs z158])).new 0 [.int .i64 0, .int .i64 0]).put 3 (.rw 0 [.int .i64 i268, .int .i64 i270])) (
  vcase (bv (!(((i274 : Int) == i280) && (((y276 : ByteArray).toList == (y282 : ByteArray).toList) && true))))
  (some (bv false))
  (vcase (bv (i134 != 0))
  (some (bv true))
  (vcase (bv (!q123))
  (some (bv true))
  (vcase (bv (i125 == 0))
  (some (bv true))
  (pcallS (call Ev) Fn.impl_LongestIn [lv z109, iv .i64 i125] fun v294 =>
  gVA v294 fun c295 =>
  (c295[0]?).bind fun x296 =>
  gI .i64 x296 fun i297 =>
  (c295[1]?).bind fun x298 =>
  gI .i64 x298 fun i299 =>
  if c295.length = 2 then
  vcase (bv (i297 == 0))
  (some (bv (decide (((y131 : ByteArray).size : Int) ≤ i299))))
  (some (bv false))
  else none)))))
  else none)
  else none
  else none)

noncomputable def Jn.laws_FnTables_1 (q197 : Bool) (w198 : V) (w199 : V) (w200 : V) (w201 : V) (w202 : V) (w203 : V) (q204 : Bool) (q113 : Bool) (i115 : Int) (i117 : Int) (i119 : Int) (y121 : ByteArray) (q123 : Bool) (i125 : Int) (i127 : Int) (i129 : Int) (y131 : ByteArray) (i150 : Int) (i152 : Int) (i156 : Int) (z158 : List (List S)) (z143 : List (List S)) (a0 : List (List S)) (i134 : Int) (z109 : List (List S)) : Option (V) :=
  vcase (bv q204)
  (hchk (((((((D 0).new 0 [.bool false, .int .i64 0, .int .i64 0, .int .i64 0, .str (⟨#[]⟩), .bool false, .int .i64 0, .int .i64 0, .int .i64 0, .str (⟨#[]⟩)]).put 0 (.rw 0 [.bool q113, .int .i64 i115, .int .i64 i117, .int .i64 i119, .str y121, .bool q123, .int .i64 i125, .int .i64 i127, .int .i64 i129, .str y131])).new 0 [.int .i64 0, .int .i64 0]).put 1 (.rw 0 [.int .i64 i150, .int .i64 i152])).new 0 [.int .i64 0, .sl none 0]).put 2 (.rw 0 [.int .i64 i156, .fs z158])) (((((((D 0).new 0 [.bool false, .int .i64 0, .int .i64 0, .int .i64 0, .str (⟨#[]⟩), .bool false, .int .i64 0, .int .i64 0, .int .i64 0, .str (⟨#[]⟩)]).put 0 (.rw 0 [.bool q113, .int .i64 i115, .int .i64 i117, .int .i64 i119, .str y121, .bool q123, .int .i64 i125, .int .i64 i127, .int .i64 i129, .str y131])).new 0 [.int .i64 0, .int .i64 0]).put 1 (.rw 0 [.int .i64 i150, .int .i64 i152])).new 0 [.int .i64 0, .sl none 0]).put 2 (.rw 0 [.int .i64 i156, .fs z158])) (
  Jn.laws_FnTables_0 true (.tup []) (.tup []) (.tup []) (.tup []) (.tup []) (.tup []) (.tup []) (.tup []) true a0 q113 i115 i117 i119 y121 q123 i125 i127 i129 y131 i150 i152 i156 z158 i134 z109))
  ((pureV (call Ev) Fn.spec_TablesIn [lv z143]).bind fun v207 =>
  gVA v207 fun c208 =>
  (c208[0]?).bind fun x209 =>
  gI .i64 x209 fun i210 =>
  (c208[1]?).bind fun x211 =>
  gF x211 fun z212 =>
  if c208.length = 2 then
  hchk (((((((D 0).new 0 [.bool false, .int .i64 0, .int .i64 0, .int .i64 0, .str (⟨#[]⟩), .bool false, .int .i64 0, .int .i64 0, .int .i64 0, .str (⟨#[]⟩)]).put 0 (.rw 0 [.bool q113, .int .i64 i115, .int .i64 i117, .int .i64 i119, .str y121, .bool q123, .int .i64 i125, .int .i64 i127, .int .i64 i129, .str y131])).new 0 [.int .i64 0, .int .i64 0]).put 1 (.rw 0 [.int .i64 i150, .int .i64 i152])).new 0 [.int .i64 0, .sl none 0]).put 2 (.rw 0 [.int .i64 i156, .fs z158])) (((((((D 0).new 0 [.bool false, .int .i64 0, .int .i64 0, .int .i64 0, .str (⟨#[]⟩), .bool false, .int .i64 0, .int .i64 0, .int .i64 0, .str (⟨#[]⟩)]).put 0 (.rw 0 [.bool q113, .int .i64 i115, .int .i64 i117, .int .i64 i119, .str y121, .bool q123, .int .i64 i125, .int .i64 i127, .int .i64 i129, .str y131])).new 0 [.int .i64 0, .int .i64 0]).put 1 (.rw 0 [.int .i64 i150, .int .i64 i152])).new 0 [.int .i64 0, .sl none 0]).put 2 (.rw 0 [.int .i64 i156, .fs z158])) (
  Jn.laws_FnTables_0 false (pv 2 1) (lv z143) (lv z158) (iv .i64 (z158.length : Int)) (.agg [.int .i64 i210, .fs z212]) (lv z212) (iv .i64 (z212.length : Int)) (bv ((z158.length : Int) != (z212.length : Int))) ((z158.length : Int) != (z212.length : Int)) a0 q113 i115 i117 i119 y121 q123 i125 i127 i129 y131 i150 i152 i156 z158 i134 z109)
  else none)

noncomputable def Jn.laws_FnTables_2 (q177 : Bool) (w178 : V) (w179 : V) (w180 : V) (w181 : V) (w182 : V) (w183 : V) (w184 : V) (q185 : Bool) (q113 : Bool) (i115 : Int) (i117 : Int) (i119 : Int) (y121 : ByteArray) (q123 : Bool) (i125 : Int) (i127 : Int) (i129 : Int) (y131 : ByteArray) (i150 : Int) (i152 : Int) (i156 : Int) (z158 : List (List S)) (z143 : List (List S)) (a0 : List (List S)) (i134 : Int) (z109 : List (List S)) : Option (V) :=
  vcase (bv q185)
  (hchk (((((((D 0).new 0 [.bool false, .int .i64 0, .int .i64 0, .int .i64 0, .str (⟨#[]⟩), .bool false, .int .i64 0, .int .i64 0, .int .i64 0, .str (⟨#[]⟩)]).put 0 (.rw 0 [.bool q113, .int .i64 i115, .int .i64 i117, .int .i64 i119, .str y121, .bool q123, .int .i64 i125, .int .i64 i127, .int .i64 i129, .str y131])).new 0 [.int .i64 0, .int .i64 0]).put 1 (.rw 0 [.int .i64 i150, .int .i64 i152])).new 0 [.int .i64 0, .sl none 0]).put 2 (.rw 0 [.int .i64 i156, .fs z158])) (((((((D 0).new 0 [.bool false, .int .i64 0, .int .i64 0, .int .i64 0, .str (⟨#[]⟩), .bool false, .int .i64 0, .int .i64 0, .int .i64 0, .str (⟨#[]⟩)]).put 0 (.rw 0 [.bool q113, .int .i64 i115, .int .i64 i117, .int .i64 i119, .str y121, .bool q123, .int .i64 i125, .int .i64 i127, .int .i64 i129, .str y131])).new 0 [.int .i64 0, .int .i64 0]).put 1 (.rw 0 [.int .i64 i150, .int .i64 i152])).new 0 [.int .i64 0, .sl none 0]).put 2 (.rw 0 [.int .i64 i156, .fs z158])) (
  Jn.laws_FnTables_1 true (.tup []) (.tup []) (.tup []) (.tup []) (.tup []) (.tup []) true q113 i115 i117 i119 y121 q123 i125 i127 i129 y131 i150 i152 i156 z158 z143 a0 i134 z109))
  ((pureV (call Ev) Fn.spec_TablesIn [lv z143]).bind fun v188 =>
  gVA v188 fun c189 =>
  (c189[0]?).bind fun x190 =>
  gI .i64 x190 fun i191 =>
  (c189[1]?).bind fun x192 =>
  gF x192 fun z193 =>
  if c189.length = 2 then
  hchk (((((((D 0).new 0 [.bool false, .int .i64 0, .int .i64 0, .int .i64 0, .str (⟨#[]⟩), .bool false, .int .i64 0, .int .i64 0, .int .i64 0, .str (⟨#[]⟩)]).put 0 (.rw 0 [.bool q113, .int .i64 i115, .int .i64 i117, .int .i64 i119, .str y121, .bool q123, .int .i64 i125, .int .i64 i127, .int .i64 i129, .str y131])).new 0 [.int .i64 0, .int .i64 0]).put 1 (.rw 0 [.int .i64 i150, .int .i64 i152])).new 0 [.int .i64 0, .sl none 0]).put 2 (.rw 0 [.int .i64 i156, .fs z158])) (((((((D 0).new 0 [.bool false, .int .i64 0, .int .i64 0, .int .i64 0, .str (⟨#[]⟩), .bool false, .int .i64 0, .int .i64 0, .int .i64 0, .str (⟨#[]⟩)]).put 0 (.rw 0 [.bool q113, .int .i64 i115, .int .i64 i117, .int .i64 i119, .str y121, .bool q123, .int .i64 i125, .int .i64 i127, .int .i64 i129, .str y131])).new 0 [.int .i64 0, .int .i64 0]).put 1 (.rw 0 [.int .i64 i150, .int .i64 i152])).new 0 [.int .i64 0, .sl none 0]).put 2 (.rw 0 [.int .i64 i156, .fs z158])) (
  Jn.laws_FnTables_1 false (pv 2 0) (iv .i64 i156) (lv z143) (.agg [.int .i64 i191, .fs z193]) (iv .i64 i191) (bv (i156 != i191)) (i156 != i191) q113 i115 i117 i119 y121 q123 i125 i127 i129 y131 i150 i152 i156 z158 z143 a0 i134 z109)
  else none)

theorem pu_laws_FnTables (a0 : List (List S)) : pureV (call Ev) Fn.laws_FnTables [lv a0] =
  pcallS (call Ev) Fn.laws_lwBig [lv a0] fun v101 =>
  gV1 v101 fun x102 =>
  gB x102 fun q103 =>
  vcase (bv q103)
  (some (bv true))
  ((pureV (call Ev) Fn.spec_DrawMayBe [lv a0]).bind fun v105 =>
  gVT v105 fun u106 =>
  (u106[0]?).bind fun t107 =>
  gA1 t107 fun x108 =>
  gF x108 fun z109 =>
  (u106[1]?).bind fun t110 =>
  gAA t110 fun c111 =>
  (c111[0]?).bind fun x112 =>
  gB x112 fun q113 =>
  (c111[1]?).bind fun x114 =>
  gI .i64 x114 fun i115 =>
  (c111[2]?).bind fun x116 =>
  gI .i64 x116 fun i117 =>
  (c111[3]?).bind fun x118 =>
  gI .i64 x118 fun i119 =>
  (c111[4]?).bind fun x120 =>
  gS x120 fun y121 =>
  (c111[5]?).bind fun x122 =>
  gB x122 fun q123 =>
  (c111[6]?).bind fun x124 =>
  gI .i64 x124 fun i125 =>
  (c111[7]?).bind fun x126 =>
  gI .i64 x126 fun i127 =>
  (c111[8]?).bind fun x128 =>
  gI .i64 x128 fun i129 =>
  (c111[9]?).bind fun x130 =>
  gS x130 fun y131 =>
  if c111.length = 10 then
  if u106.length = 2 then
  pcallS (call Ev) Fn.impl_MayBe [lv z109, .agg [.bool q113, .int .i64 i115, .int .i64 i117, .int .i64 i119, .str y121, .bool q123, .int .i64 i125, .int .i64 i127, .int .i64 i129, .str y131]] fun v132 =>
  gV1 v132 fun x133 =>
  gI .i64 x133 fun i134 =>
  pcallS (call Ev) Fn.spec_MayBe [lv z109, .agg [.bool q113, .int .i64 i115, .int .i64 i117, .int .i64 i119, .str y121, .bool q123, .int .i64 i125, .int .i64 i127, .int .i64 i129, .str y131]] fun v135 =>
  gV1 v135 fun x136 =>
  gI .i64 x136 fun i137 =>
  vcase (bv (i134 != i137))
  (some (bv false))
  ((pureV (call Ev) Fn.spec_DrawLongestIn [lv a0]).bind fun v139 =>
  gVT v139 fun u140 =>
  (u140[0]?).bind fun t141 =>
  gA1 t141 fun x142 =>
  gF x142 fun z143 =>
  (u140[1]?).bind fun t144 =>
  gA1 t144 fun x145 =>
  gI .i64 x145 fun i146 =>
  if u140.length = 2 then
  pcallS (call Ev) Fn.impl_LongestIn [lv z143, iv .i64 i146] fun v147 =>
  gVA v147 fun c148 =>
  (c148[0]?).bind fun x149 =>
  gI .i64 x149 fun i150 =>
  (c148[1]?).bind fun x151 =>
  gI .i64 x151 fun i152 =>
  if c148.length = 2 then
  (pureV (call Ev) Fn.impl_TablesIn [lv z143]).bind fun v153 =>
  gVA v153 fun c154 =>
  (c154[0]?).bind fun x155 =>
  gI .i64 x155 fun i156 =>
  (c154[1]?).bind fun x157 =>
  gF x157 fun z158 =>
  if c154.length = 2 then
  pcallS (call Ev) Fn.spec_LongestIn [lv z143, iv .i64 i146] fun v159 =>
  gVA v159 fun c160 =>
  (c160[0]?).bind fun x161 =>
  gI .i64 x161 fun i162 =>
  (c160[1]?).bind fun x163 =>
  gI .i64 x163 fun i164 =>
  if c160.length = 2 then
  hchk (((((((D 0).new 0 [.bool false, .int .i64 0, .int .i64 0, .int .i64 0, .str (⟨#[]⟩), .bool false, .int .i64 0, .int .i64 0, .int .i64 0, .str (⟨#[]⟩)]).put 0 (.rw 0 [.bool q113, .int .i64 i115, .int .i64 i117, .int .i64 i119, .str y121, .bool q123, .int .i64 i125, .int .i64 i127, .int .i64 i129, .str y131])).new 0 [.int .i64 0, .int .i64 0]).put 1 (.rw 0 [.int .i64 i150, .int .i64 i152])).new 0 [.int .i64 0, .sl none 0]).put 2 (.rw 0 [.int .i64 i156, .fs z158])) (((((((D 0).new 0 [.bool false, .int .i64 0, .int .i64 0, .int .i64 0, .str (⟨#[]⟩), .bool false, .int .i64 0, .int .i64 0, .int .i64 0, .str (⟨#[]⟩)]).put 0 (.rw 0 [.bool q113, .int .i64 i115, .int .i64 i117, .int .i64 i119, .str y121, .bool q123, .int .i64 i125, .int .i64 i127, .int .i64 i129, .str y131])).new 0 [.int .i64 0, .int .i64 0]).put 1 (.rw 0 [.int .i64 i150, .int .i64 i152])).new 0 [.int .i64 0, .sl none 0]).put 2 (.rw 0 [.int .i64 i156, .fs z158])) (
  vcase (bv (i150 != i162))
  (hchk (((((((D 0).new 0 [.bool false, .int .i64 0, .int .i64 0, .int .i64 0, .str (⟨#[]⟩), .bool false, .int .i64 0, .int .i64 0, .int .i64 0, .str (⟨#[]⟩)]).put 0 (.rw 0 [.bool q113, .int .i64 i115, .int .i64 i117, .int .i64 i119, .str y121, .bool q123, .int .i64 i125, .int .i64 i127, .int .i64 i129, .str y131])).new 0 [.int .i64 0, .int .i64 0]).put 1 (.rw 0 [.int .i64 i150, .int .i64 i152])).new 0 [.int .i64 0, .sl none 0]).put 2 (.rw 0 [.int .i64 i156, .fs z158])) (((((((D 0).new 0 [.bool false, .int .i64 0, .int .i64 0, .int .i64 0, .str (⟨#[]⟩), .bool false, .int .i64 0, .int .i64 0, .int .i64 0, .str (⟨#[]⟩)]).put 0 (.rw 0 [.bool q113, .int .i64 i115, .int .i64 i117, .int .i64 i119, .str y121, .bool q123, .int .i64 i125, .int .i64 i127, .int .i64 i129, .str y131])).new 0 [.int .i64 0, .int .i64 0]).put 1 (.rw 0 [.int .i64 i150, .int .i64 i152])).new 0 [.int .i64 0, .sl none 0]).put 2 (.rw 0 [.int .i64 i156, .fs z158])) (
  Jn.laws_FnTables_2 true (.tup []) (.tup []) (.tup []) (.tup []) (.tup []) (.tup []) (.tup []) true q113 i115 i117 i119 y121 q123 i125 i127 i129 y131 i150 i152 i156 z158 z143 a0 i134 z109))
  (pcallS (call Ev) Fn.spec_LongestIn [lv z143, iv .i64 i146] fun v167 =>
  gVA v167 fun c168 =>
  (c168[0]?).bind fun x169 =>
  gI .i64 x169 fun i170 =>
  (c168[1]?).bind fun x171 =>
  gI .i64 x171 fun i172 =>
  if c168.length = 2 then
  hchk (((((((D 0).new 0 [.bool false, .int .i64 0, .int .i64 0, .int .i64 0, .str (⟨#[]⟩), .bool false, .int .i64 0, .int .i64 0, .int .i64 0, .str (⟨#[]⟩)]).put 0 (.rw 0 [.bool q113, .int .i64 i115, .int .i64 i117, .int .i64 i119, .str y121, .bool q123, .int .i64 i125, .int .i64 i127, .int .i64 i129, .str y131])).new 0 [.int .i64 0, .int .i64 0]).put 1 (.rw 0 [.int .i64 i150, .int .i64 i152])).new 0 [.int .i64 0, .sl none 0]).put 2 (.rw 0 [.int .i64 i156, .fs z158])) (((((((D 0).new 0 [.bool false, .int .i64 0, .int .i64 0, .int .i64 0, .str (⟨#[]⟩), .bool false, .int .i64 0, .int .i64 0, .int .i64 0, .str (⟨#[]⟩)]).put 0 (.rw 0 [.bool q113, .int .i64 i115, .int .i64 i117, .int .i64 i119, .str y121, .bool q123, .int .i64 i125, .int .i64 i127, .int .i64 i129, .str y131])).new 0 [.int .i64 0, .int .i64 0]).put 1 (.rw 0 [.int .i64 i150, .int .i64 i152])).new 0 [.int .i64 0, .sl none 0]).put 2 (.rw 0 [.int .i64 i156, .fs z158])) (
  Jn.laws_FnTables_2 false (pv 1 1) (iv .i64 i152) (lv z143) (iv .i64 i146) (.agg [.int .i64 i170, .int .i64 i172]) (iv .i64 i172) (bv (i152 != i172)) (i152 != i172) q113 i115 i117 i119 y121 q123 i125 i127 i129 y131 i150 i152 i156 z158 z143 a0 i134 z109)
  else none))
  else none
  else none
  else none
  else none)
  else none
  else none) := by
  rw [pure_eq]; kernel_rfl

end Vm
