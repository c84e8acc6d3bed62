/-
  What each function, and each round of each loop, comes to in the small machine. Written by a program (gen3.py).
-/
import Derived.Test.YtfmkfefblbophaaEnv
set_option linter.unusedVariables false
set_option maxRecDepth 100000
namespace Vm
open Go

theorem pu_laws_toRowS (a0 : List (List S)) : pureV (call Ev) Fn.laws_toRowS [lv a0] =
  (mkSl 4 [.int .i64 0, .int .i64 0, .int .i64 0, .str ⟨#[]⟩] (D 0) (iv .i64 (a0.length : Int)) (iv .i64 (a0.length : Int))).bind fun p101 =>
  (Lp.laws_toRowS 0 [lv a0, p101.1, iv .i64 0] p101.2).bind fun o102 => lcase o102 (fun l103 h104 =>
  (l103[0]?).bind fun w107 =>
  frzV h104 w107) (fun v105 h106 =>
  frzV h106 v105) := by
  rw [pure_eq]; kernel_rfl

theorem eq_laws_toRowS_l0 (s0 : List (List S)) (s3 : V) (s4 : Int) (h : H) : Lp.laws_toRowS 0 [lv s0, s3, iv .i64 s4] h =
  vcase (bv (decide (s4 < (s0.length : Int))))
  (idxF 4 s0 s4 fun r203 =>
  (rowN 4 r203 0).bind fun c204 =>
  (c204[0]?).bind fun x205 =>
  gI .i64 x205 fun i206 =>
  (c204[1]?).bind fun x207 =>
  gI .i64 x207 fun i208 =>
  (c204[2]?).bind fun x209 =>
  gI .i64 x209 fun i210 =>
  (c204[3]?).bind fun x211 =>
  gS x211 fun y212 =>
  if c204.length = 4 then
  pcallS (call Ev) Fn.laws_toRow [.agg [.int .i64 i206, .int .i64 i208, .int .i64 i210, .str y212]] fun v213 =>
  gVA v213 fun c214 =>
  (c214[0]?).bind fun x215 =>
  gI .i64 x215 fun i216 =>
  (c214[1]?).bind fun x217 =>
  gI .i64 x217 fun i218 =>
  (c214[2]?).bind fun x219 =>
  gI .i64 x219 fun i220 =>
  (c214[3]?).bind fun x221 =>
  gS x221 fun y222 =>
  if c214.length = 4 then
  idxK 4 s3 (iv .i64 s4) fun v223 =>
  stK 4 h v223 (.agg [.int .i64 i216, .int .i64 i218, .int .i64 i220, .str y222]) fun h224 =>
  Lp.laws_toRowS 0 [lv s0, s3, iv .i64 (IntKind.i64.wrap (s4 + 1))] (tidy h [lv s0, s3, iv .i64 (IntKind.i64.wrap (s4 + 1))] h224)
  else none
  else none)
  (some (.done [s3] (tidy h [s3] h))) := by
  unfold Lp.laws_toRowS; rw [loop_eq]; kernel_rfl

theorem pu_impl_RowsFault (a0 : List (List S)) : pureV (call Ev) Fn.impl_RowsFault [lv a0] =
  vcase (bv (decide ((a0.length : Int) > 60)))
  (some (iv .i64 2))
  ((Lp.impl_RowsFault 0 [lv a0, lv a0, iv .i64 (a0.length : Int), iv .i64 0] (D 0)).bind fun o102 => lcase o102 (fun l103 h104 =>
  some (iv .i64 0)) (fun v105 h106 =>
  frzV h106 v105)) := by
  rw [pure_eq]; kernel_rfl

theorem eq_impl_RowsFault_l0 (s0 : List (List S)) (s9 : List (List S)) (s10 : Int) (s11 : Int) (h : H) : Lp.impl_RowsFault 0 [lv s0, lv s9, iv .i64 s10, iv .i64 s11] h =
  vcase (bv (decide (s11 < s10)))
  (idxF 4 s9 s11 fun r203 =>
  (rowN 4 r203 0).bind fun c204 =>
  (c204[0]?).bind fun x205 =>
  gI .i64 x205 fun i206 =>
  (c204[1]?).bind fun x207 =>
  gI .i64 x207 fun i208 =>
  (c204[2]?).bind fun x209 =>
  gI .i64 x209 fun i210 =>
  (c204[3]?).bind fun x211 =>
  gS x211 fun y212 =>
  if c204.length = 4 then
  stK 4 (h.new 0 [.int .i64 0, .int .i64 0, .int .i64 0, .str (⟨#[]⟩)]) (pv h.n 0) (.agg [.int .i64 i206, .int .i64 i208, .int .i64 i210, .str y212]) fun h213 =>
  (loadN 4 h213 (pv h.n 0)).bind fun c214 =>
  (c214[0]?).bind fun x215 =>
  gI .i64 x215 fun i216 =>
  (c214[1]?).bind fun x217 =>
  gI .i64 x217 fun i218 =>
  (c214[2]?).bind fun x219 =>
  gI .i64 x219 fun i220 =>
  (c214[3]?).bind fun x221 =>
  gS x221 fun y222 =>
  if c214.length = 4 then
  pcallS (call Ev) Fn.impl_RowFault [.agg [.int .i64 i216, .int .i64 i218, .int .i64 i220, .str y222]] fun v223 =>
  gV1 v223 fun x224 =>
  gI .i64 x224 fun i225 =>
  vcase (bv (i225 != 0))
  (some (.ret (iv .i64 i225) h213))
  (vcase (bv (decide (s11 > 0)))
  (idxF 4 s0 (IntKind.i64.wrap (s11 - 1)) fun r228 =>
  (rowN 4 r228 0).bind fun c229 =>
  (c229[0]?).bind fun x230 =>
  gI .i64 x230 fun i231 =>
  (c229[1]?).bind fun x232 =>
  gI .i64 x232 fun i233 =>
  (c229[2]?).bind fun x234 =>
  gI .i64 x234 fun i235 =>
  (c229[3]?).bind fun x236 =>
  gS x236 fun y237 =>
  if c229.length = 4 then
  (loadN 4 h213 (pv h.n 0)).bind fun c238 =>
  (c238[0]?).bind fun x239 =>
  gI .i64 x239 fun i240 =>
  (c238[1]?).bind fun x241 =>
  gI .i64 x241 fun i242 =>
  (c238[2]?).bind fun x243 =>
  gI .i64 x243 fun i244 =>
  (c238[3]?).bind fun x245 =>
  gS x245 fun y246 =>
  if c238.length = 4 then
  pcallS (call Ev) Fn.impl_IsBefore [.agg [.int .i64 i231, .int .i64 i233, .int .i64 i235, .str y237], .agg [.int .i64 i240, .int .i64 i242, .int .i64 i244, .str y246]] fun v247 =>
  gV1 v247 fun x248 =>
  gB x248 fun q249 =>
  hchk h213 h213 (
  vcase (bv (!q249))
  (some (.ret (iv .i64 1) h213))
  (Lp.impl_RowsFault 0 [lv s0, lv s9, iv .i64 s10, iv .i64 (IntKind.i64.wrap (s11 + 1))] (tidy h [lv s0, lv s9, iv .i64 s10, iv .i64 (IntKind.i64.wrap (s11 + 1))] h213)))
  else none
  else none)
  (hchk h213 h213 (
  Lp.impl_RowsFault 0 [lv s0, lv s9, iv .i64 s10, iv .i64 (IntKind.i64.wrap (s11 + 1))] (tidy h [lv s0, lv s9, iv .i64 s10, iv .i64 (IntKind.i64.wrap (s11 + 1))] h213))))
  else none
  else none)
  (some (.done [] (tidy h [] h))) := by
  unfold Lp.impl_RowsFault; rw [loop_eq]; kernel_rfl

theorem pu_laws_eqRowS (a0 : List (List S)) (a1 : List (List S)) : pureV (call Ev) Fn.laws_eqRowS [lv a0, lv a1] =
  vcase (bv ((a0.length : Int) != (a1.length : Int)))
  (some (bv false))
  ((Lp.laws_eqRowS 0 [lv a0, lv a1, iv .i64 0] (D 0)).bind fun o102 => lcase o102 (fun l103 h104 =>
  some (bv true)) (fun v105 h106 =>
  frzV h106 v105)) := by
  rw [pure_eq]; kernel_rfl

theorem eq_laws_eqRowS_l0 (s0 : List (List S)) (s1 : List (List S)) (s5 : Int) (h : H) : Lp.laws_eqRowS 0 [lv s0, lv s1, iv .i64 s5] h =
  vcase (bv (decide (s5 < (s0.length : Int))))
  (idxF 4 s0 s5 fun r203 =>
  (rowN 4 r203 0).bind fun c204 =>
  (c204[0]?).bind fun x205 =>
  gI .i64 x205 fun i206 =>
  (c204[1]?).bind fun x207 =>
  gI .i64 x207 fun i208 =>
  (c204[2]?).bind fun x209 =>
  gI .i64 x209 fun i210 =>
  (c204[3]?).bind fun x211 =>
  gS x211 fun y212 =>
  if c204.length = 4 then
  idxF 4 s1 s5 fun r213 =>
  (rowN 4 r213 0).bind fun c214 =>
  (c214[0]?).bind fun x215 =>
  gI .i64 x215 fun i216 =>
  (c214[1]?).bind fun x217 =>
  gI .i64 x217 fun i218 =>
  (c214[2]?).bind fun x219 =>
  gI .i64 x219 fun i220 =>
  (c214[3]?).bind fun x221 =>
  gS x221 fun y222 =>
  if c214.length = 4 then
  pcallS (call Ev) Fn.laws_eqRow [.agg [.int .i64 i206, .int .i64 i208, .int .i64 i210, .str y212], .agg [.int .i64 i216, .int .i64 i218, .int .i64 i220, .str y222]] fun v223 =>
  gV1 v223 fun x224 =>
  gB x224 fun q225 =>
  hchk h h (
  vcase (bv (!q225))
  (some (.ret (bv false) h))
  (Lp.laws_eqRowS 0 [lv s0, lv s1, iv .i64 (IntKind.i64.wrap (s5 + 1))] (tidy h [lv s0, lv s1, iv .i64 (IntKind.i64.wrap (s5 + 1))] h)))
  else none
  else none)
  (some (.done [] (tidy h [] h))) := by
  unfold Lp.laws_eqRowS; rw [loop_eq]; kernel_rfl

theorem pu_laws_FnExactRowsFault (a0 : List (List S)) : pureV (call Ev) Fn.laws_FnExactRowsFault [lv a0] =
  pcallS (call Ev) Fn.laws_szRowS [lv a0, iv .i64 1048576] fun v101 =>
  gV1 v101 fun x102 =>
  gI .i64 x102 fun i103 =>
  vcase (bv (decide (i103 < 0)))
  (some (bv true))
  ((pureV (call Ev) Fn.laws_toRowS [lv a0]).bind fun v105 =>
  gV1 v105 fun x106 =>
  gF x106 fun z107 =>
  pcallS (call Ev) Fn.spec_RowsFault [lv z107] fun v108 =>
  gV1 v108 fun x109 =>
  gI .i64 x109 fun i110 =>
  (pureV (call Ev) Fn.laws_toRowS [lv a0]).bind fun v111 =>
  gV1 v111 fun x112 =>
  gF x112 fun z113 =>
  pcallS (call Ev) Fn.impl_RowsFault [lv z113] fun v114 =>
  gV1 v114 fun x115 =>
  gI .i64 x115 fun i116 =>
  vcase (bv (i116 != i110))
  (some (bv false))
  ((pureV (call Ev) Fn.laws_toRowS [lv a0]).bind fun v118 =>
  gV1 v118 fun x119 =>
  gF x119 fun z120 =>
  pcallS (call Ev) Fn.laws_eqRowS [lv z113, lv z120] fun v121 =>
  gV1 v121 fun x122 =>
  gB x122 fun q123 =>
  vcase (bv (!q123))
  (some (bv false))
  (some (bv true)))) := by
  rw [pure_eq]; kernel_rfl

theorem pu_spec_l2Free (a0 : List (List S)) : pureV (call Ev) Fn.spec_l2Free [lv a0] =
  pcallS (call Ev) Fn.spec_l2Count [lv a0] fun v101 =>
  gV1 v101 fun x102 =>
  gI .i64 x102 fun i103 =>
  (Lp.spec_l2Free 0 [lv a0, iv .i64 (IntKind.i64.wrap (62 - (IntKind.i64.wrap (2 * i103)))), iv .i64 0] (D 0)).bind fun o104 => lcase o104 (fun l105 h106 =>
  (l105[0]?).bind fun w109 =>
  gV1 w109 fun x110 =>
  gI .i64 x110 fun i111 =>
  some (iv .i64 i111)) (fun v107 h108 =>
  frzV h108 v107) := by
  rw [pure_eq]; kernel_rfl

theorem eq_spec_l2Free_l0 (s0 : List (List S)) (s3 : Int) (s4 : Int) (h : H) : Lp.spec_l2Free 0 [lv s0, iv .i64 s3, iv .i64 s4] h =
  pcallS (call Ev) Fn.spec_l2Count [lv s0] fun v201 =>
  gV1 v201 fun x202 =>
  gI .i64 x202 fun i203 =>
  vcase (bv (decide (s4 < i203)))
  (pcallS (call Ev) Fn.spec_l2Size [lv s0, iv .i64 s4] fun v206 =>
  gV1 v206 fun x207 =>
  gI .i64 x207 fun i208 =>
  Lp.spec_l2Free 0 [lv s0, iv .i64 (IntKind.i64.wrap (s3 - i208)), iv .i64 (IntKind.i64.wrap (s4 + 1))] (tidy h [lv s0, iv .i64 (IntKind.i64.wrap (s3 - i208)), iv .i64 (IntKind.i64.wrap (s4 + 1))] h))
  (some (.done [iv .i64 s3] (tidy h [iv .i64 s3] h))) := by
  unfold Lp.spec_l2Free; rw [loop_eq]; kernel_rfl

theorem pu_spec_FreeIn (a0 : List (List S)) : pureV (call Ev) Fn.spec_FreeIn [lv a0] =
  pcallS (call Ev) Fn.spec_l2Fault [lv a0] fun v101 =>
  gV1 v101 fun x102 =>
  gI .i64 x102 fun i103 =>
  vcase (bv (i103 != 0))
  (some (.agg [.int .i64 i103, .int .i64 0]))
  (pcallS (call Ev) Fn.spec_l2Free [lv a0] fun v105 =>
  gV1 v105 fun x106 =>
  gI .i64 x106 fun i107 =>
  some (.agg [.int .i64 0, .int .i64 i107])) := by
  rw [pure_eq]; kernel_rfl

theorem pu_impl_freeIn (a0 : List (List S)) : pureV (call Ev) Fn.impl_freeIn [lv a0] =
  pcallS (call Ev) Fn.impl_slots [lv a0] fun v101 =>
  gV1 v101 fun x102 =>
  gI .i64 x102 fun i103 =>
  pcallS (call Ev) Fn.impl_slots [lv a0] fun v104 =>
  gV1 v104 fun x105 =>
  gI .i64 x105 fun i106 =>
  (Lp.impl_freeIn 0 [lv a0, iv .i64 (IntKind.i64.wrap (62 - (IntKind.i64.wrap (2 * i103)))), iv .i64 i106, iv .i64 0] (D 0)).bind fun o107 => lcase o107 (fun l108 h109 =>
  (l108[0]?).bind fun w112 =>
  gV1 w112 fun x113 =>
  gI .i64 x113 fun i114 =>
  some (iv .i64 i114)) (fun v110 h111 =>
  frzV h111 v110) := by
  rw [pure_eq]; kernel_rfl

theorem eq_impl_freeIn_l0 (s0 : List (List S)) (s3 : Int) (s12 : Int) (s13 : Int) (h : H) : Lp.impl_freeIn 0 [lv s0, iv .i64 s3, iv .i64 s12, iv .i64 s13] h =
  vcase (bv (decide (s13 < s12)))
  (pcallS (call Ev) Fn.impl_spot [lv s0, iv .i64 s13] fun v203 =>
  gVT v203 fun u204 =>
  (u204[0]?).bind fun t205 =>
  gA1 t205 fun x206 =>
  gI .i64 x206 fun i207 =>
  (u204[1]?).bind fun t208 =>
  gA1 t208 fun x209 =>
  gI .i64 x209 fun i210 =>
  if u204.length = 2 then
  Lp.impl_freeIn 0 [lv s0, iv .i64 (IntKind.i64.wrap (s3 - i210)), iv .i64 s12, iv .i64 (IntKind.i64.wrap (s13 + 1))] (tidy h [lv s0, iv .i64 (IntKind.i64.wrap (s3 - i210)), iv .i64 s12, iv .i64 (IntKind.i64.wrap (s13 + 1))] h)
  else none)
  (some (.done [iv .i64 s3] (tidy h [iv .i64 s3] h))) := by
  unfold Lp.impl_freeIn; rw [loop_eq]; kernel_rfl

theorem pu_impl_FreeIn (a0 : List (List S)) : pureV (call Ev) Fn.impl_FreeIn [lv a0] =
  pcallS (call Ev) Fn.impl_PageFault [lv a0] fun v101 =>
  gV1 v101 fun x102 =>
  gI .i64 x102 fun i103 =>
  vcase (bv (i103 != 0))
  (some (.agg [.int .i64 i103, .int .i64 0]))
  (pcallS (call Ev) Fn.impl_freeIn [lv a0] fun v105 =>
  gV1 v105 fun x106 =>
  gI .i64 x106 fun i107 =>
  some (.agg [.int .i64 0, .int .i64 i107])) := by
  rw [pure_eq]; kernel_rfl

theorem pu_laws_eqIntResult (a0_0 : Int) (a0_1 : Int) (a1_0 : Int) (a1_1 : Int) : pureV (call Ev) Fn.laws_eqIntResult [.agg [.int .i64 a0_0, .int .i64 a0_1], .agg [.int .i64 a1_0, .int .i64 a1_1]] =
  vcase (bv (a0_0 != a1_0))
  (some (bv false))
  (vcase (bv (a0_1 != a1_1))
  (some (bv false))
  (some (bv true))) := by
  rw [pure_eq]; kernel_rfl

theorem pu_laws_FnExactFreeIn (a0 : List (List S)) : pureV (call Ev) Fn.laws_FnExactFreeIn [lv a0] =
  vcase (bv (decide ((a0.length : Int) > 1048576)))
  (some (bv true))
  ((pureV (call Ev) Fn.laws_toByteS [lv a0]).bind fun v102 =>
  gV1 v102 fun x103 =>
  gF x103 fun z104 =>
  pcallS (call Ev) Fn.spec_FreeIn [lv z104] fun v105 =>
  gVA v105 fun c106 =>
  (c106[0]?).bind fun x107 =>
  gI .i64 x107 fun i108 =>
  (c106[1]?).bind fun x109 =>
  gI .i64 x109 fun i110 =>
  if c106.length = 2 then
  (pureV (call Ev) Fn.laws_toByteS [lv a0]).bind fun v111 =>
  gV1 v111 fun x112 =>
  gF x112 fun z113 =>
  pcallS (call Ev) Fn.impl_FreeIn [lv z113] fun v114 =>
  gVA v114 fun c115 =>
  (c115[0]?).bind fun x116 =>
  gI .i64 x116 fun i117 =>
  (c115[1]?).bind fun x118 =>
  gI .i64 x118 fun i119 =>
  if c115.length = 2 then
  pcallS (call Ev) Fn.laws_eqIntResult [.agg [.int .i64 i117, .int .i64 i119], .agg [.int .i64 i108, .int .i64 i110]] fun v120 =>
  gV1 v120 fun x121 =>
  gB x121 fun q122 =>
  vcase (bv (!q122))
  (some (bv false))
  ((pureV (call Ev) Fn.laws_toByteS [lv a0]).bind fun v124 =>
  gV1 v124 fun x125 =>
  gF x125 fun z126 =>
  pcallS (call Ev) Fn.laws_eqByteS [lv z113, lv z126] fun v127 =>
  gV1 v127 fun x128 =>
  gB x128 fun q129 =>
  vcase (bv (!q129))
  (some (bv false))
  (some (bv true)))
  else none
  else none) := by
  rw [pure_eq]; kernel_rfl

end Vm
