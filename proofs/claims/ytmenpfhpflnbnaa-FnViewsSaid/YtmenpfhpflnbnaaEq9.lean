/-
  What each function, and each round of each loop, comes to in the small machine. Written by a program (gen3.py).
-/
import Derived.Test.YtmenpfhpflnbnaaEnv
set_option linter.unusedVariables false
set_option maxRecDepth 100000
namespace Vm
open Go

noncomputable def Jn.spec_l2Put_0 (i125 : Int) (i126 : Int) (a0 : List (List S)) (a1 : List (List S)) (n : Nat) (i103 : Int) : Option (V × H) :=
  pcallS (call Ev) Fn.spec_l2Free [lv a0] fun v127 =>
  gV1 v127 fun x128 =>
  gI .i64 x128 fun i129 =>
  vcase (bv (decide (i129 < (IntKind.i64.wrap ((a1.length : Int) + i126)))))
  (some (.tup [.s (.sl none 0), .s (.int .i64 0), .s (.int .i64 9)], (D n)))
  (pcallS (call Ev) Fn.spec_l2Low [lv a0] fun v131 =>
  gV1 v131 fun x132 =>
  gI .i64 x132 fun i133 =>
  vcase (bv (decide ((IntKind.i64.wrap (i133 - (a1.length : Int))) < (IntKind.i64.wrap (2 + (IntKind.i64.wrap (2 * i125)))))))
  (some (.tup [.s (.sl none 0), .s (.int .i64 0), .s (.int .i64 8)], (D n)))
  (pcallF (call Ev) Fn.spec_l2Copy true [lv a0] (D n) fun v135 h136 =>
  idxK 1 v135 (iv .i64 0) fun v137 =>
  stK 1 h136 v137 (iv .u8 (IntKind.u8.wrap i125)) fun h138 =>
  idxK 1 v135 (iv .i64 1) fun v139 =>
  stK 1 h138 v139 (iv .u8 (IntKind.u8.wrap (IntKind.i64.wrap (i133 - (a1.length : Int))))) fun h140 =>
  (call Ev Fn.spec_l2Stand [v135, iv .i64 i103, iv .i64 (IntKind.i64.wrap (i133 - (a1.length : Int))), lv a1] h140).bind fun p141 =>
  (V.toA v135).bind fun t142 =>
  some (.tup [t142, .s (.int .i64 i103), .s (.int .i64 0)], tidy h140 [p141.1] p141.2)))

theorem eq_spec_l2Put (a0 : List (List S)) (a1 : List (List S)) (n : Nat) : call Ev Fn.spec_l2Put [lv a0, lv a1] (D n) =
  pcallS (call Ev) Fn.spec_l2Empty [lv a0] fun v101 =>
  gV1 v101 fun x102 =>
  gI .i64 x102 fun i103 =>
  pcallS (call Ev) Fn.spec_l2Count [lv a0] fun v104 =>
  gV1 v104 fun x105 =>
  gI .i64 x105 fun i106 =>
  vcase (bv (i103 == i106))
  (vcase (bv (decide (i106 ≥ 16)))
  (some (.tup [.s (.sl none 0), .s (.int .i64 0), .s (.int .i64 2)], (D n)))
  (Jn.spec_l2Put_0 (IntKind.i64.wrap (i106 + 1)) 2 a0 a1 n i103))
  (Jn.spec_l2Put_0 i106 0 a0 a1 n i103) := by
  rw [call_eq]; kernel_rfl

theorem pu_spec_l1Stub (a0 : Int) (a1 : Int) : pureV (call Ev) Fn.spec_l1Stub [iv .i64 a0, iv .i64 a1] =
  some (lv [[.int .u8 1], [.int .u8 (IntKind.u8.wrap a0)], [.int .u8 (IntKind.u8.wrap a1)]]) := by
  rw [pure_eq]; kernel_rfl

theorem eq_spec_l1Cell (a0 : Int) (a1_0 : Int) (a1_1 : Int) (a1_2 : Int) (a1_3 : ByteArray) (n : Nat) : call Ev Fn.spec_l1Cell [iv .i64 a0, fv [.int .i64 a1_0, .int .i64 a1_1, .int .i64 a1_2, .str a1_3] 0] (D n) =
  (bin Ev .quo 2 (iv .i64 a1_2) (iv .i64 256)).bind fun b101 =>
  gV1 b101 fun x102 =>
  gI .i64 x102 fun i103 =>
  (bin Ev .rem 2 (iv .i64 a1_2) (iv .i64 256)).bind fun b104 =>
  gV1 b104 fun x105 =>
  gI .i64 x105 fun i106 =>
  hchk (D n) ((D n).new 1 [.int .u8 (IntKind.u8.wrap a0), .int .u8 (IntKind.u8.wrap a1_0), .int .u8 (IntKind.u8.wrap a1_1), .int .u8 (IntKind.u8.wrap i103), .int .u8 (IntKind.u8.wrap i106), .int .u8 (IntKind.u8.wrap ((a1_3 : ByteArray).size : Int))]) (
  (cvBytes ((D n).new 1 [.int .u8 (IntKind.u8.wrap a0), .int .u8 (IntKind.u8.wrap a1_0), .int .u8 (IntKind.u8.wrap a1_1), .int .u8 (IntKind.u8.wrap i103), .int .u8 (IntKind.u8.wrap i106), .int .u8 (IntKind.u8.wrap ((a1_3 : ByteArray).size : Int))]) (.s (.str a1_3))).bind fun p107 =>
  (appS 1 p107.2 (sv ((D n).n) 0 6) p107.1).bind fun p108 =>
  some (p108.1, p108.2)) := by
  rw [call_eq]; kernel_rfl

theorem eq_spec_l2New (a0 : Int) (n : Nat) : call Ev Fn.spec_l2New [iv .u8 a0] (D n) =
  (mkSl 1 [.int .u8 0] (D n) (iv .i64 64) (iv .i64 64)).bind fun p101 =>
  (Lp.spec_l2New 0 [iv .u8 a0, p101.1, iv .i64 0] p101.2).bind fun o102 => lcase o102 (fun l103 h104 =>
  (l103[0]?).bind fun w107 =>
  idxK 1 w107 (iv .i64 0) fun v108 =>
  stK 1 h104 v108 (iv .u8 0) fun h109 =>
  idxK 1 w107 (iv .i64 1) fun v110 =>
  stK 1 h109 v110 (iv .u8 64) fun h111 =>
  some (w107, h111)) (fun v105 h106 =>
  some (v105, h106)) := by
  rw [call_eq]; kernel_rfl

theorem eq_spec_l2New_l0 (s0 : Int) (s3 : V) (s4 : Int) (h : H) : Lp.spec_l2New 0 [iv .u8 s0, s3, iv .i64 s4] h =
  vcase (bv (decide (s4 < 64)))
  (idxK 1 s3 (iv .i64 s4) fun v203 =>
  stK 1 h v203 (iv .u8 s0) fun h204 =>
  Lp.spec_l2New 0 [iv .u8 s0, s3, iv .i64 (IntKind.i64.wrap (s4 + 1))] (tidy h [iv .u8 s0, s3, iv .i64 (IntKind.i64.wrap (s4 + 1))] h204))
  (some (.done [s3] (tidy h [s3] h))) := by
  unfold Lp.spec_l2New; rw [loop_eq]; kernel_rfl

theorem eq_spec_l1Pick (a0_b a0_o : Nat) (a1 : V) (h : H) : call Ev Fn.spec_l1Pick [pv a0_b a0_o, a1] h =
  (lenV (.sl 2) a1).bind fun v101 =>
  gV1 v101 fun x102 =>
  gI .i64 x102 fun i103 =>
  (call Ev Fn.spec_l1Next [pv a0_b a0_o, iv .i64 i103] h).bind fun p104 =>
  gV1 p104.1 fun x105 =>
  gI .i64 x105 fun i106 =>
  idxK 1 a1 (iv .i64 i106) fun v107 =>
  ldK (.one (.i .i64)) ⟨1, 8, [.int .i64 0], false, .int .i64, false⟩ (tidy h [p104.1] p104.2) v107 fun v108 =>
  gV1 v108 fun x109 =>
  gI .i64 x109 fun i110 =>
  some (iv .i64 i110, tidy h [p104.1] p104.2) := by
  rw [call_eq]; kernel_rfl

theorem eq_spec_l1Draw (a0_b a0_o : Nat) (h : H) : call Ev Fn.spec_l1Draw [pv a0_b a0_o] h =
  (call Ev Fn.spec_l1Next [pv a0_b a0_o, iv .i64 3] (h.new 0 [.int .i64 0, .int .i64 0, .int .i64 0, .str (⟨#[]⟩)])).bind fun p101 =>
  gV1 p101.1 fun x102 =>
  gI .i64 x102 fun i103 =>
  (call Ev Fn.spec_l1Next [pv a0_b a0_o, iv .i64 6] (tidy (h.new 0 [.int .i64 0, .int .i64 0, .int .i64 0, .str (⟨#[]⟩)]) [p101.1] p101.2)).bind fun p104 =>
  gV1 p104.1 fun x105 =>
  gI .i64 x105 fun i106 =>
  (call Ev Fn.spec_l1Next [pv a0_b a0_o, iv .i64 9] (tidy (tidy (h.new 0 [.int .i64 0, .int .i64 0, .int .i64 0, .str (⟨#[]⟩)]) [p101.1] p101.2) [p104.1] p104.2)).bind fun p107 =>
  gV1 p107.1 fun x108 =>
  gI .i64 x108 fun i109 =>
  (call Ev Fn.spec_l1Pick [pv a0_b a0_o, sv ((tidy (tidy (tidy (h.new 0 [.int .i64 0, .int .i64 0, .int .i64 0, .str (⟨#[]⟩)]) [p101.1] p101.2) [p104.1] p104.2) [p107.1] p107.2).n) 0 3] ((tidy (tidy (tidy (h.new 0 [.int .i64 0, .int .i64 0, .int .i64 0, .str (⟨#[]⟩)]) [p101.1] p101.2) [p104.1] p104.2) [p107.1] p107.2).new 1 [.int .i64 i109, .int .i64 300, .int .i64 999])).bind fun p110 =>
  gV1 p110.1 fun x111 =>
  gI .i64 x111 fun i112 =>
  (call Ev Fn.spec_l1Next [pv a0_b a0_o, iv .i64 4] ((tidy ((tidy (tidy (tidy (h.new 0 [.int .i64 0, .int .i64 0, .int .i64 0, .str (⟨#[]⟩)]) [p101.1] p101.2) [p104.1] p104.2) [p107.1] p107.2).new 1 [.int .i64 i109, .int .i64 300, .int .i64 999]) [p110.1] p110.2).new 1 [.str (⟨#[]⟩), .str (⟨#[97]⟩), .str (⟨#[97, 98, 99]⟩), .str (⟨#[97, 98, 99, 100, 101, 102, 103, 104]⟩)])).bind fun p113 =>
  gV1 p113.1 fun x114 =>
  gI .i64 x114 fun i115 =>
  idxK 1 (sv ((tidy ((tidy (tidy (tidy (h.new 0 [.int .i64 0, .int .i64 0, .int .i64 0, .str (⟨#[]⟩)]) [p101.1] p101.2) [p104.1] p104.2) [p107.1] p107.2).new 1 [.int .i64 i109, .int .i64 300, .int .i64 999]) [p110.1] p110.2).n) 0 4) (iv .i64 i115) fun v116 =>
  ldK (.one (.s)) ⟨1, 16, [.str ⟨#[]⟩], false, .str, false⟩ (tidy ((tidy ((tidy (tidy (tidy (h.new 0 [.int .i64 0, .int .i64 0, .int .i64 0, .str (⟨#[]⟩)]) [p101.1] p101.2) [p104.1] p104.2) [p107.1] p107.2).new 1 [.int .i64 i109, .int .i64 300, .int .i64 999]) [p110.1] p110.2).new 1 [.str (⟨#[]⟩), .str (⟨#[97]⟩), .str (⟨#[97, 98, 99]⟩), .str (⟨#[97, 98, 99, 100, 101, 102, 103, 104]⟩)]) [p113.1] p113.2) v116 fun v117 =>
  gV1 v117 fun x118 =>
  gS x118 fun y119 =>
  stK 4 (tidy ((tidy ((tidy (tidy (tidy (h.new 0 [.int .i64 0, .int .i64 0, .int .i64 0, .str (⟨#[]⟩)]) [p101.1] p101.2) [p104.1] p104.2) [p107.1] p107.2).new 1 [.int .i64 i109, .int .i64 300, .int .i64 999]) [p110.1] p110.2).new 1 [.str (⟨#[]⟩), .str (⟨#[97]⟩), .str (⟨#[97, 98, 99]⟩), .str (⟨#[97, 98, 99, 100, 101, 102, 103, 104]⟩)]) [p113.1] p113.2) (pv h.n 0) (.agg [.int .i64 i103, .int .i64 (IntKind.i64.wrap (1 + i106)), .int .i64 i112, .str y119]) fun h120 =>
  (loadN 4 h120 (pv h.n 0)).bind fun c121 =>
  some (.agg c121, h120) := by
  rw [call_eq]; kernel_rfl

theorem pu_spec_l6At (a0 : List (List S)) (a1 : Int) (a2 : Int) : pureV (call Ev) Fn.spec_l6At [lv a0, iv .i64 a1, iv .i64 a2] =
  (Lp.spec_l6At 0 [lv a0, iv .i64 a1, iv .i64 a2, iv .i64 0] (D 0)).bind fun o101 => lcase o101 (fun l102 h103 =>
  some (iv .i64 (-1))) (fun v104 h105 =>
  frzV h105 v104) := by
  rw [pure_eq]; kernel_rfl

theorem eq_spec_l6At_l0 (s0 : List (List S)) (s1 : Int) (s2 : Int) (s7 : Int) (h : H) : Lp.spec_l6At 0 [lv s0, iv .i64 s1, iv .i64 s2, iv .i64 s7] h =
  vcase (bv (decide (s7 < (s0.length : Int))))
  (idxF 4 s0 s7 fun r203 =>
  (r203[0]?).bind fun x204 =>
  gI .i64 x204 fun i205 =>
  vcase (bv (i205 == s1))
  (idxF 4 s0 s7 fun r207 =>
  (r207[1]?).bind fun x208 =>
  gI .i64 x208 fun i209 =>
  vcase (bv (i209 == s2))
  (some (.ret (iv .i64 s7) h))
  (Lp.spec_l6At 0 [lv s0, iv .i64 s1, iv .i64 s2, iv .i64 (IntKind.i64.wrap (s7 + 1))] (tidy h [lv s0, iv .i64 s1, iv .i64 s2, iv .i64 (IntKind.i64.wrap (s7 + 1))] h)))
  (Lp.spec_l6At 0 [lv s0, iv .i64 s1, iv .i64 s2, iv .i64 (IntKind.i64.wrap (s7 + 1))] (tidy h [lv s0, iv .i64 s1, iv .i64 s2, iv .i64 (IntKind.i64.wrap (s7 + 1))] h)))
  (some (.done [] (tidy h [] h))) := by
  unfold Lp.spec_l6At; rw [loop_eq]; kernel_rfl

theorem eq_spec_l6DrawRows (a0_b a0_o : Nat) (h : H) : call Ev Fn.spec_l6DrawRows [pv a0_b a0_o] h =
  (call Ev Fn.spec_l1Next [pv a0_b a0_o, iv .i64 7] (h.new 4 [])).bind fun p101 =>
  gV1 p101.1 fun x102 =>
  gI .i64 x102 fun i103 =>
  (Lp.spec_l6DrawRows 0 [pv a0_b a0_o, sv h.n 0 0, iv .i64 i103] (tidy (h.new 4 []) [p101.1] p101.2)).bind fun o104 => lcase o104 (fun l105 h106 =>
  (l105[0]?).bind fun w109 =>
  some (w109, h106)) (fun v107 h108 =>
  some (v107, h108)) := by
  rw [call_eq]; kernel_rfl

theorem eq_spec_l6DrawRows_l0 (s0 : V) (s3 : V) (s4 : Int) (h : H) : Lp.spec_l6DrawRows 0 [s0, s3, iv .i64 s4] h =
  vcase (bv (decide (s4 > 0)))
  ((call Ev Fn.spec_l1Draw [s0] h).bind fun p203 =>
  gVA p203.1 fun c204 =>
  (c204[0]?).bind fun x205 =>
  gI .i64 x205 fun i206 =>
  (c204[1]?).bind fun x207 =>
  gI .i64 x207 fun i208 =>
  (c204[2]?).bind fun x209 =>
  gI .i64 x209 fun i210 =>
  (c204[3]?).bind fun x211 =>
  gS x211 fun y212 =>
  if c204.length = 4 then
  stK 4 ((tidy h [p203.1] p203.2).new 0 [.int .i64 0, .int .i64 0, .int .i64 0, .str (⟨#[]⟩)]) (pv ((tidy h [p203.1] p203.2).n) 0) (.agg [.int .i64 i206, .int .i64 i208, .int .i64 i210, .str y212]) fun h213 =>
  (load1 h213 (pv ((tidy h [p203.1] p203.2).n) 0)).bind fun x214 =>
  gI .i64 x214 fun i215 =>
  (load1 h213 (pv ((tidy h [p203.1] p203.2).n) 1)).bind fun x216 =>
  gI .i64 x216 fun i217 =>
  (frzVs h213 [s3, iv .i64 i215, iv .i64 i217]).bind fun l218 =>
  pcallS (call Ev) Fn.spec_l6At (normVs [] l218) fun v219 =>
  gV1 v219 fun x220 =>
  gI .i64 x220 fun i221 =>
  vcase (bv (decide (i221 < 0)))
  ((loadN 4 h213 (pv ((tidy h [p203.1] p203.2).n) 0)).bind fun c223 =>
  (c223[0]?).bind fun x224 =>
  gI .i64 x224 fun i225 =>
  (c223[1]?).bind fun x226 =>
  gI .i64 x226 fun i227 =>
  (c223[2]?).bind fun x228 =>
  gI .i64 x228 fun i229 =>
  (c223[3]?).bind fun x230 =>
  gS x230 fun y231 =>
  if c223.length = 4 then
  bif ([s3, .agg [.int .i64 i225, .int .i64 i227, .int .i64 i229, .str y231]].all offV) then
  (frzVs h213 [s3, .agg [.int .i64 i225, .int .i64 i227, .int .i64 i229, .str y231]]).bind fun l232 =>
  (pureV (call Ev) Fn.spec_l6Put (normVs [] l232)).bind fun v233 =>
  gV1 v233 fun x234 =>
  gF x234 fun z235 =>
  Lp.spec_l6DrawRows 0 [s0, lv z235, iv .i64 (IntKind.i64.wrap (s4 - 1))] (tidy h [s0, lv z235, iv .i64 (IntKind.i64.wrap (s4 - 1))] h213)
  else none
  else none)
  (Lp.spec_l6DrawRows 0 [s0, s3, iv .i64 (IntKind.i64.wrap (s4 - 1))] (tidy h [s0, s3, iv .i64 (IntKind.i64.wrap (s4 - 1))] h213))
  else none)
  (some (.done [s3] (tidy h [s3] h))) := by
  unfold Lp.spec_l6DrawRows; rw [loop_eq]; kernel_rfl

theorem eq_spec_l1Chance (a0_b a0_o : Nat) (a1 : Int) (h : H) : call Ev Fn.spec_l1Chance [pv a0_b a0_o, iv .i64 a1] h =
  (call Ev Fn.spec_l1Next [pv a0_b a0_o, iv .i64 a1] h).bind fun p101 =>
  gV1 p101.1 fun x102 =>
  gI .i64 x102 fun i103 =>
  some (bv (i103 == 0), tidy h [p101.1] p101.2) := by
  rw [call_eq]; kernel_rfl

theorem eq_spec_l6Pages (a0_b a0_o : Nat) (h : H) : call Ev Fn.spec_l6Pages [pv a0_b a0_o] h =
  pcallF (call Ev) Fn.spec_l2New true [iv .u8 0] h fun v101 h102 =>
  pcallF (call Ev) Fn.spec_l2New true [iv .u8 0] h102 fun v103 h104 =>
  cellsK v101 fun c105 =>
  if c105.length = 1 ∧ 0 + 1 ≤ ([.sl none 0, .sl none 0] : List S).length then
  cellsK v103 fun c106 =>
  if c106.length = 1 ∧ 1 + 1 ≤ (setAt ([.sl none 0, .sl none 0] : List S) 0 c105).length then
  (call Ev Fn.spec_l6DrawRows [pv a0_b a0_o] (h104.new 1 (setAt (setAt ([.sl none 0, .sl none 0] : List S) 0 c105) 1 c106))).bind fun p107 =>
  (Lp.spec_l6Pages 0 [pv a0_b a0_o, sv h104.n 0 2, p107.1, iv .i64 0] (tidy (h104.new 1 (setAt (setAt ([.sl none 0, .sl none 0] : List S) 0 c105) 1 c106)) [p107.1] p107.2)).bind fun o108 => lcase o108 (fun l109 h110 =>
  (l109[0]?).bind fun w113 =>
  some (w113, h110)) (fun v111 h112 =>
  some (v111, h112))
  else none
  else none := by
  rw [call_eq]; kernel_rfl

theorem eq_spec_l6Pages_l0 (s0 : V) (s3 : V) (s4 : V) (s5 : Int) (h : H) : Lp.spec_l6Pages 0 [s0, s3, s4, iv .i64 s5] h =
  (lenV (.sl 29) s4).bind fun v201 =>
  gV1 v201 fun x202 =>
  gI .i64 x202 fun i203 =>
  vcase (bv (decide (s5 < i203)))
  ((call Ev Fn.spec_l1Chance [s0, iv .i64 3] h).bind fun p206 =>
  gV1 p206.1 fun x207 =>
  gB x207 fun q208 =>
  vcase (bv q208)
  (idxK 1 s3 (iv .i64 1) fun v210 =>
  ldK (.one (.f)) ⟨1, 24, [.sl none 0], false, .sl 5, false⟩ (tidy h [p206.1] p206.2) v210 fun v211 =>
  idxK 4 s4 (iv .i64 s5) fun v212 =>
  bif ([iv .i64 2, v212].all offV) then
  (frzVs (tidy h [p206.1] p206.2) [iv .i64 2, v212]).bind fun l213 =>
  (pureV (call Ev) Fn.spec_l1Cell (normVs [0, 4] l213)).bind fun v214 =>
  gV1 v214 fun x215 =>
  gF x215 fun z216 =>
  hchk (tidy h [p206.1] p206.2) (tidy h [p206.1] p206.2) (
  (frzVs (tidy h [p206.1] p206.2) [v211, lv z216]).bind fun l217 =>
  pcallF (call Ev) Fn.spec_l2Put ([v211, lv z216].all offV) (normVs [] l217) (tidy h [p206.1] p206.2) fun v218 h219 =>
  gVT v218 fun u220 =>
  (u220[0]?).bind fun t221 =>
  gA1 t221 fun x222 =>
  (u220[1]?).bind fun t223 =>
  gA1 t223 fun x224 =>
  gI .i64 x224 fun i225 =>
  (u220[2]?).bind fun t226 =>
  gA1 t226 fun x227 =>
  gI .i64 x227 fun i228 =>
  if u220.length = 3 then
  hchk (tidy h [p206.1] p206.2) h219 (
  vcase (bv (i228 == 0))
  (idxK 1 s3 (iv .i64 0) fun v230 =>
  ldK (.one (.f)) ⟨1, 24, [.sl none 0], false, .sl 5, false⟩ h219 v230 fun v231 =>
  (pureV (call Ev) Fn.spec_l1Stub [iv .i64 1, iv .i64 i225]).bind fun v232 =>
  gV1 v232 fun x233 =>
  gF x233 fun z234 =>
  hchk h219 h219 (
  (frzVs h219 [v231, lv z234]).bind fun l235 =>
  pcallF (call Ev) Fn.spec_l2Put ([v231, lv z234].all offV) (normVs [] l235) h219 fun v236 h237 =>
  gVT v236 fun u238 =>
  (u238[0]?).bind fun t239 =>
  gA1 t239 fun x240 =>
  (u238[1]?).bind fun t241 =>
  gA1 t241 fun x242 =>
  gI .i64 x242 fun i243 =>
  (u238[2]?).bind fun t244 =>
  gA1 t244 fun x245 =>
  gI .i64 x245 fun i246 =>
  if u238.length = 3 then
  hchk h219 h237 (
  vcase (bv (i246 == 0))
  (idxK 1 s3 (iv .i64 1) fun v248 =>
  stK 1 h237 v248 (.s x222) fun h249 =>
  idxK 1 s3 (iv .i64 0) fun v250 =>
  stK 1 h249 v250 (.s x240) fun h251 =>
  Lp.spec_l6Pages 0 [s0, s3, s4, iv .i64 (IntKind.i64.wrap (s5 + 1))] (tidy h [s0, s3, s4, iv .i64 (IntKind.i64.wrap (s5 + 1))] h251))
  (Lp.spec_l6Pages 0 [s0, s3, s4, iv .i64 (IntKind.i64.wrap (s5 + 1))] (tidy h [s0, s3, s4, iv .i64 (IntKind.i64.wrap (s5 + 1))] h237)))
  else none))
  (Lp.spec_l6Pages 0 [s0, s3, s4, iv .i64 (IntKind.i64.wrap (s5 + 1))] (tidy h [s0, s3, s4, iv .i64 (IntKind.i64.wrap (s5 + 1))] h219)))
  else none)
  else none)
  ((call Ev Fn.spec_l1Next [s0, iv .i64 2] (tidy h [p206.1] p206.2)).bind fun p252 =>
  gV1 p252.1 fun x253 =>
  gI .i64 x253 fun i254 =>
  idxK 1 s3 (iv .i64 i254) fun v255 =>
  ldK (.one (.f)) ⟨1, 24, [.sl none 0], false, .sl 5, false⟩ (tidy (tidy h [p206.1] p206.2) [p252.1] p252.2) v255 fun v256 =>
  idxK 4 s4 (iv .i64 s5) fun v257 =>
  bif ([iv .i64 0, v257].all offV) then
  (frzVs (tidy (tidy h [p206.1] p206.2) [p252.1] p252.2) [iv .i64 0, v257]).bind fun l258 =>
  (pureV (call Ev) Fn.spec_l1Cell (normVs [0, 4] l258)).bind fun v259 =>
  gV1 v259 fun x260 =>
  gF x260 fun z261 =>
  hchk (tidy (tidy h [p206.1] p206.2) [p252.1] p252.2) (tidy (tidy h [p206.1] p206.2) [p252.1] p252.2) (
  (frzVs (tidy (tidy h [p206.1] p206.2) [p252.1] p252.2) [v256, lv z261]).bind fun l262 =>
  pcallF (call Ev) Fn.spec_l2Put ([v256, lv z261].all offV) (normVs [] l262) (tidy (tidy h [p206.1] p206.2) [p252.1] p252.2) fun v263 h264 =>
  gVT v263 fun u265 =>
  (u265[0]?).bind fun t266 =>
  gA1 t266 fun x267 =>
  (u265[1]?).bind fun t268 =>
  gA1 t268 fun x269 =>
  gI .i64 x269 fun i270 =>
  (u265[2]?).bind fun t271 =>
  gA1 t271 fun x272 =>
  gI .i64 x272 fun i273 =>
  if u265.length = 3 then
  hchk (tidy (tidy h [p206.1] p206.2) [p252.1] p252.2) h264 (
  vcase (bv (i273 == 0))
  (idxK 1 s3 (iv .i64 i254) fun v275 =>
  stK 1 h264 v275 (.s x267) fun h276 =>
  Lp.spec_l6Pages 0 [s0, s3, s4, iv .i64 (IntKind.i64.wrap (s5 + 1))] (tidy h [s0, s3, s4, iv .i64 (IntKind.i64.wrap (s5 + 1))] h276))
  (Lp.spec_l6Pages 0 [s0, s3, s4, iv .i64 (IntKind.i64.wrap (s5 + 1))] (tidy h [s0, s3, s4, iv .i64 (IntKind.i64.wrap (s5 + 1))] h264)))
  else none)
  else none))
  (some (.done [s3] (tidy h [s3] h))) := by
  unfold Lp.spec_l6Pages; rw [loop_eq]; kernel_rfl

theorem eq_spec_l1Some (a0_b a0_o : Nat) (a1 : Int) (h : H) : call Ev Fn.spec_l1Some [pv a0_b a0_o, iv .i64 a1] h =
  (Lp.spec_l1Some 0 [pv a0_b a0_o, iv .i64 a1, sv h.n 0 0] (h.new 1 [])).bind fun o101 => lcase o101 (fun l102 h103 =>
  (l102[0]?).bind fun w106 =>
  some (w106, h103)) (fun v104 h105 =>
  some (v104, h105)) := by
  rw [call_eq]; kernel_rfl

theorem eq_spec_l1Some_l0 (s0 : V) (s1 : Int) (s5 : V) (h : H) : Lp.spec_l1Some 0 [s0, iv .i64 s1, s5] h =
  vcase (bv (decide (s1 > 0)))
  ((call Ev Fn.spec_l1Next [s0, iv .i64 256] h).bind fun p203 =>
  gV1 p203.1 fun x204 =>
  gI .i64 x204 fun i205 =>
  (appS 1 ((tidy h [p203.1] p203.2).new 1 [.int .u8 (IntKind.u8.wrap i205)]) s5 (sv ((tidy h [p203.1] p203.2).n) 0 1)).bind fun p206 =>
  Lp.spec_l1Some 0 [s0, iv .i64 (IntKind.i64.wrap (s1 - 1)), p206.1] (tidy h [s0, iv .i64 (IntKind.i64.wrap (s1 - 1)), p206.1] p206.2))
  (some (.done [s5] (tidy h [s5] h))) := by
  unfold Lp.spec_l1Some; rw [loop_eq]; kernel_rfl

theorem eq_spec_l2Set (a0 : List (List S)) (a1 : Int) (a2 : List (List S)) (n : Nat) : call Ev Fn.spec_l2Set [lv a0, iv .i64 a1, lv a2] (D n) =
  pcallS (call Ev) Fn.spec_l2Size [lv a0, iv .i64 a1] fun v101 =>
  gV1 v101 fun x102 =>
  gI .i64 x102 fun i103 =>
  pcallF (call Ev) Fn.spec_l2Copy true [lv a0] (D n) fun v104 h105 =>
  vcase (bv (decide ((a2.length : Int) ≤ i103)))
  (pcallS (call Ev) Fn.spec_l2Place [lv a0, iv .i64 a1] fun v107 =>
  gV1 v107 fun x108 =>
  gI .i64 x108 fun i109 =>
  (call Ev Fn.spec_l2Stand [v104, iv .i64 a1, iv .i64 (IntKind.i64.wrap ((IntKind.i64.wrap (i109 + i103)) - (a2.length : Int))), lv a2] h105).bind fun p110 =>
  (V.toA v104).bind fun t111 =>
  some (.tup [t111, .s (.int .i64 0)], tidy h105 [p110.1] p110.2))
  (pcallS (call Ev) Fn.spec_l2Free [lv a0] fun v112 =>
  gV1 v112 fun x113 =>
  gI .i64 x113 fun i114 =>
  vcase (bv (decide ((IntKind.i64.wrap (i114 + i103)) < (a2.length : Int))))
  (some (.tup [.s (.sl none 0), .s (.int .i64 9)], h105))
  (pcallS (call Ev) Fn.spec_l2Low [lv a0] fun v116 =>
  gV1 v116 fun x117 =>
  gI .i64 x117 fun i118 =>
  pcallS (call Ev) Fn.spec_l2Count [lv a0] fun v119 =>
  gV1 v119 fun x120 =>
  gI .i64 x120 fun i121 =>
  vcase (bv (decide ((IntKind.i64.wrap (i118 - (a2.length : Int))) < (IntKind.i64.wrap (2 + (IntKind.i64.wrap (2 * i121)))))))
  (some (.tup [.s (.sl none 0), .s (.int .i64 8)], h105))
  (idxK 1 v104 (iv .i64 1) fun v123 =>
  stK 1 h105 v123 (iv .u8 (IntKind.u8.wrap (IntKind.i64.wrap (i118 - (a2.length : Int))))) fun h124 =>
  (call Ev Fn.spec_l2Stand [v104, iv .i64 a1, iv .i64 (IntKind.i64.wrap (i118 - (a2.length : Int))), lv a2] h124).bind fun p125 =>
  (V.toA v104).bind fun t126 =>
  some (.tup [t126, .s (.int .i64 0)], tidy h124 [p125.1] p125.2)))) := by
  rw [call_eq]; kernel_rfl

theorem eq_spec_l2Compact (a0 : List (List S)) (n : Nat) : call Ev Fn.spec_l2Compact [lv a0] (D n) =
  pcallS (call Ev) Fn.spec_l2Count [lv a0] fun v101 =>
  gV1 v101 fun x102 =>
  gI .i64 x102 fun i103 =>
  (mkSl 1 [.int .u8 0] (D n) (iv .i64 64) (iv .i64 64)).bind fun p104 =>
  slF 1 a0 none (some (iv .i64 (IntKind.i64.wrap (2 + (IntKind.i64.wrap (2 * i103)))))) fun z105 =>
  (copS 1 p104.2 p104.1 (lv z105)).bind fun p106 =>
  gV1 p106.1 fun x107 =>
  gI .i64 x107 fun i108 =>
  (Lp.spec_l2Compact 0 [lv a0, iv .i64 i103, p104.1, iv .i64 64, iv .i64 0] p106.2).bind fun o109 => lcase o109 (fun l110 h111 =>
  (l110[0]?).bind fun w114 =>
  (l110[1]?).bind fun w115 =>
  gV1 w115 fun x116 =>
  gI .i64 x116 fun i117 =>
  idxK 1 w114 (iv .i64 1) fun v118 =>
  stK 1 h111 v118 (iv .u8 (IntKind.u8.wrap i117)) fun h119 =>
  some (w114, h119)) (fun v112 h113 =>
  some (v112, h113)) := by
  rw [call_eq]; kernel_rfl

theorem eq_spec_l2Compact_l0 (s0 : List (List S)) (s3 : Int) (s4 : V) (s5 : Int) (s6 : Int) (h : H) : Lp.spec_l2Compact 0 [lv s0, iv .i64 s3, s4, iv .i64 s5, iv .i64 s6] h =
  vcase (bv (decide (s6 < s3)))
  (pcallS (call Ev) Fn.spec_l2Size [lv s0, iv .i64 s6] fun v203 =>
  gV1 v203 fun x204 =>
  gI .i64 x204 fun i205 =>
  vcase (bv (i205 == 0))
  (Lp.spec_l2Compact 0 [lv s0, iv .i64 s3, s4, iv .i64 s5, iv .i64 (IntKind.i64.wrap (s6 + 1))] (tidy h [lv s0, iv .i64 s3, s4, iv .i64 s5, iv .i64 (IntKind.i64.wrap (s6 + 1))] h))
  ((pureV (call Ev) Fn.spec_l2Cell [lv s0, iv .i64 s6]).bind fun v207 =>
  gV1 v207 fun x208 =>
  gF x208 fun z209 =>
  (call Ev Fn.spec_l2Stand [s4, iv .i64 s6, iv .i64 (IntKind.i64.wrap (s5 - (z209.length : Int))), lv z209] h).bind fun p210 =>
  Lp.spec_l2Compact 0 [lv s0, iv .i64 s3, s4, iv .i64 (IntKind.i64.wrap (s5 - (z209.length : Int))), iv .i64 (IntKind.i64.wrap (s6 + 1))] (tidy h [lv s0, iv .i64 s3, s4, iv .i64 (IntKind.i64.wrap (s5 - (z209.length : Int))), iv .i64 (IntKind.i64.wrap (s6 + 1))] (tidy h [p210.1] p210.2))))
  (some (.done [s4, iv .i64 s5] (tidy h [s4, iv .i64 s5] h))) := by
  unfold Lp.spec_l2Compact; rw [loop_eq]; kernel_rfl

theorem eq_spec_l2Right (a0_b a0_o : Nat) (h : H) : call Ev Fn.spec_l2Right [pv a0_b a0_o] h =
  (call Ev Fn.spec_l1Pick [pv a0_b a0_o, sv h.n 0 3] (h.new 1 [.int .i64 0, .int .i64 0, .int .i64 7])).bind fun p101 =>
  gV1 p101.1 fun x102 =>
  gI .i64 x102 fun i103 =>
  pcallF (call Ev) Fn.spec_l2New true [iv .u8 (IntKind.u8.wrap i103)] (tidy (h.new 1 [.int .i64 0, .int .i64 0, .int .i64 7]) [p101.1] p101.2) fun v104 h105 =>
  (call Ev Fn.spec_l1Next [pv a0_b a0_o, iv .i64 14] h105).bind fun p106 =>
  gV1 p106.1 fun x107 =>
  gI .i64 x107 fun i108 =>
  (Lp.spec_l2Right 0 [pv a0_b a0_o, v104, iv .i64 i108] (tidy h105 [p106.1] p106.2)).bind fun o109 => lcase o109 (fun l110 h111 =>
  (l110[0]?).bind fun w114 =>
  some (w114, h111)) (fun v112 h113 =>
  some (v112, h113)) := by
  rw [call_eq]; kernel_rfl

theorem eq_spec_l2Right_l0 (s0 : V) (s3 : V) (s4 : Int) (h : H) : Lp.spec_l2Right 0 [s0, s3, iv .i64 s4] h =
  vcase (bv (decide (s4 > 0)))
  ((call Ev Fn.spec_l1Next [s0, iv .i64 14] h).bind fun p203 =>
  gV1 p203.1 fun x204 =>
  gI .i64 x204 fun i205 =>
  (call Ev Fn.spec_l1Some [s0, iv .i64 (IntKind.i64.wrap (1 + i205))] (tidy h [p203.1] p203.2)).bind fun p206 =>
  (call Ev Fn.spec_l1Next [s0, iv .i64 5] (tidy (tidy h [p203.1] p203.2) [p206.1] p206.2)).bind fun p207 =>
  gV1 p207.1 fun x208 =>
  gI .i64 x208 fun i209 =>
  vcase (bv (i209 == 0))
  ((call Ev Fn.spec_l1Next [s0, iv .i64 6] (tidy (tidy (tidy h [p203.1] p203.2) [p206.1] p206.2) [p207.1] p207.2)).bind fun p212 =>
  gV1 p212.1 fun x213 =>
  gI .i64 x213 fun i214 =>
  (frzVs (tidy (tidy (tidy (tidy h [p203.1] p203.2) [p206.1] p206.2) [p207.1] p207.2) [p212.1] p212.2) [s3, iv .i64 i214]).bind fun l215 =>
  pcallS (call Ev) Fn.spec_l2Has (normVs [] l215) fun v216 =>
  gV1 v216 fun x217 =>
  gB x217 fun q218 =>
  vcase (bv q218)
  ((frzVs (tidy (tidy (tidy (tidy h [p203.1] p203.2) [p206.1] p206.2) [p207.1] p207.2) [p212.1] p212.2) [s3, iv .i64 i214]).bind fun l220 =>
  pcallF (call Ev) Fn.spec_l2Drop ([s3, iv .i64 i214].all offV) (normVs [] l220) (tidy (tidy (tidy (tidy h [p203.1] p203.2) [p206.1] p206.2) [p207.1] p207.2) [p212.1] p212.2) fun v221 h222 =>
  Lp.spec_l2Right 0 [s0, v221, iv .i64 (IntKind.i64.wrap (s4 - 1))] (tidy h [s0, v221, iv .i64 (IntKind.i64.wrap (s4 - 1))] h222))
  (Lp.spec_l2Right 0 [s0, s3, iv .i64 (IntKind.i64.wrap (s4 - 1))] (tidy h [s0, s3, iv .i64 (IntKind.i64.wrap (s4 - 1))] (tidy (tidy (tidy (tidy h [p203.1] p203.2) [p206.1] p206.2) [p207.1] p207.2) [p212.1] p212.2))))
  (vcase (bv (i209 == 1))
  ((call Ev Fn.spec_l1Next [s0, iv .i64 6] (tidy (tidy (tidy h [p203.1] p203.2) [p206.1] p206.2) [p207.1] p207.2)).bind fun p224 =>
  gV1 p224.1 fun x225 =>
  gI .i64 x225 fun i226 =>
  (frzVs (tidy (tidy (tidy (tidy h [p203.1] p203.2) [p206.1] p206.2) [p207.1] p207.2) [p224.1] p224.2) [s3, iv .i64 i226]).bind fun l227 =>
  pcallS (call Ev) Fn.spec_l2Has (normVs [] l227) fun v228 =>
  gV1 v228 fun x229 =>
  gB x229 fun q230 =>
  vcase (bv q230)
  ((frzVs (tidy (tidy (tidy (tidy h [p203.1] p203.2) [p206.1] p206.2) [p207.1] p207.2) [p224.1] p224.2) [s3, iv .i64 i226, p206.1]).bind fun l232 =>
  pcallF (call Ev) Fn.spec_l2Set ([s3, iv .i64 i226, p206.1].all offV) (normVs [] l232) (tidy (tidy (tidy (tidy h [p203.1] p203.2) [p206.1] p206.2) [p207.1] p207.2) [p224.1] p224.2) fun v233 h234 =>
  gVT v233 fun u235 =>
  (u235[0]?).bind fun t236 =>
  gA1 t236 fun x237 =>
  (u235[1]?).bind fun t238 =>
  gA1 t238 fun x239 =>
  gI .i64 x239 fun i240 =>
  if u235.length = 2 then
  vcase (bv (i240 == 0))
  (Lp.spec_l2Right 0 [s0, .s x237, iv .i64 (IntKind.i64.wrap (s4 - 1))] (tidy h [s0, .s x237, iv .i64 (IntKind.i64.wrap (s4 - 1))] h234))
  (Lp.spec_l2Right 0 [s0, s3, iv .i64 (IntKind.i64.wrap (s4 - 1))] (tidy h [s0, s3, iv .i64 (IntKind.i64.wrap (s4 - 1))] h234))
  else none)
  (Lp.spec_l2Right 0 [s0, s3, iv .i64 (IntKind.i64.wrap (s4 - 1))] (tidy h [s0, s3, iv .i64 (IntKind.i64.wrap (s4 - 1))] (tidy (tidy (tidy (tidy h [p203.1] p203.2) [p206.1] p206.2) [p207.1] p207.2) [p224.1] p224.2))))
  (vcase (bv (i209 == 2))
  ((call Ev Fn.spec_l1Chance [s0, iv .i64 3] (tidy (tidy (tidy h [p203.1] p203.2) [p206.1] p206.2) [p207.1] p207.2)).bind fun p243 =>
  gV1 p243.1 fun x244 =>
  gB x244 fun q245 =>
  vcase (bv q245)
  ((frzVs (tidy (tidy (tidy (tidy h [p203.1] p203.2) [p206.1] p206.2) [p207.1] p207.2) [p243.1] p243.2) [s3]).bind fun l247 =>
  pcallF (call Ev) Fn.spec_l2Compact ([s3].all offV) (normVs [] l247) (tidy (tidy (tidy (tidy h [p203.1] p203.2) [p206.1] p206.2) [p207.1] p207.2) [p243.1] p243.2) fun v248 h249 =>
  Lp.spec_l2Right 0 [s0, v248, iv .i64 (IntKind.i64.wrap (s4 - 1))] (tidy h [s0, v248, iv .i64 (IntKind.i64.wrap (s4 - 1))] h249))
  (Lp.spec_l2Right 0 [s0, s3, iv .i64 (IntKind.i64.wrap (s4 - 1))] (tidy h [s0, s3, iv .i64 (IntKind.i64.wrap (s4 - 1))] (tidy (tidy (tidy (tidy h [p203.1] p203.2) [p206.1] p206.2) [p207.1] p207.2) [p243.1] p243.2))))
  ((frzVs (tidy (tidy (tidy h [p203.1] p203.2) [p206.1] p206.2) [p207.1] p207.2) [s3, p206.1]).bind fun l250 =>
  pcallF (call Ev) Fn.spec_l2Put ([s3, p206.1].all offV) (normVs [] l250) (tidy (tidy (tidy h [p203.1] p203.2) [p206.1] p206.2) [p207.1] p207.2) fun v251 h252 =>
  gVT v251 fun u253 =>
  (u253[0]?).bind fun t254 =>
  gA1 t254 fun x255 =>
  (u253[1]?).bind fun t256 =>
  gA1 t256 fun x257 =>
  gI .i64 x257 fun i258 =>
  (u253[2]?).bind fun t259 =>
  gA1 t259 fun x260 =>
  gI .i64 x260 fun i261 =>
  if u253.length = 3 then
  vcase (bv (i261 == 0))
  (Lp.spec_l2Right 0 [s0, .s x255, iv .i64 (IntKind.i64.wrap (s4 - 1))] (tidy h [s0, .s x255, iv .i64 (IntKind.i64.wrap (s4 - 1))] h252))
  (Lp.spec_l2Right 0 [s0, s3, iv .i64 (IntKind.i64.wrap (s4 - 1))] (tidy h [s0, s3, iv .i64 (IntKind.i64.wrap (s4 - 1))] h252))
  else none))))
  (some (.done [s3] (tidy h [s3] h))) := by
  unfold Lp.spec_l2Right; rw [loop_eq]; kernel_rfl

theorem eq_spec_l2Bent (a0_b a0_o : Nat) (h : H) : call Ev Fn.spec_l2Bent [pv a0_b a0_o] h =
  (call Ev Fn.spec_l2Right [pv a0_b a0_o] h).bind fun p101 =>
  (call Ev Fn.spec_l1Next [pv a0_b a0_o, iv .i64 12] (tidy h [p101.1] p101.2)).bind fun p102 =>
  gV1 p102.1 fun x103 =>
  gI .i64 x103 fun i104 =>
  vcase (bv (i104 == 0))
  (slK 1 (tidy (tidy h [p101.1] p101.2) [p102.1] p102.2) p101.1 (some (iv .i64 1)) none fun v107 =>
  some (v107, tidy (tidy h [p101.1] p101.2) [p102.1] p102.2))
  (vcase (bv (i104 == 1))
  ((call Ev Fn.spec_l1Next [pv a0_b a0_o, iv .i64 12] (tidy (tidy h [p101.1] p101.2) [p102.1] p102.2)).bind fun p109 =>
  gV1 p109.1 fun x110 =>
  gI .i64 x110 fun i111 =>
  (call Ev Fn.spec_l1Next [pv a0_b a0_o, iv .i64 70] (tidy (tidy (tidy h [p101.1] p101.2) [p102.1] p102.2) [p109.1] p109.2)).bind fun p112 =>
  gV1 p112.1 fun x113 =>
  gI .i64 x113 fun i114 =>
  idxK 1 p101.1 (iv .i64 i111) fun v115 =>
  stK 1 (tidy (tidy (tidy (tidy h [p101.1] p101.2) [p102.1] p102.2) [p109.1] p109.2) [p112.1] p112.2) v115 (iv .u8 (IntKind.u8.wrap i114)) fun h116 =>
  some (p101.1, h116))
  (some (p101.1, tidy (tidy h [p101.1] p101.2) [p102.1] p102.2))) := by
  rw [call_eq]; kernel_rfl

theorem eq_spec_l6Bent (a0_b a0_o : Nat) (h : H) : call Ev Fn.spec_l6Bent [pv a0_b a0_o] h =
  (call Ev Fn.spec_l6Pages [pv a0_b a0_o] h).bind fun p101 =>
  (call Ev Fn.spec_l1Next [pv a0_b a0_o, iv .i64 14] (tidy h [p101.1] p101.2)).bind fun p102 =>
  gV1 p102.1 fun x103 =>
  gI .i64 x103 fun i104 =>
  vcase (bv (i104 == 0))
  ((call Ev Fn.spec_l2Bent [pv a0_b a0_o] (tidy (tidy h [p101.1] p101.2) [p102.1] p102.2)).bind fun p107 =>
  idxK 1 p101.1 (iv .i64 0) fun v108 =>
  stK 1 (tidy (tidy (tidy h [p101.1] p101.2) [p102.1] p102.2) [p107.1] p107.2) v108 p107.1 fun h109 =>
  some (p101.1, h109))
  (vcase (bv (i104 == 1))
  ((mkSl 1 [.sl none 0] (tidy (tidy h [p101.1] p101.2) [p102.1] p102.2) (iv .i64 13) (iv .i64 13)).bind fun p111 =>
  some (p111.1, p111.2))
  (vcase (bv (i104 == 2))
  (idxK 1 p101.1 (iv .i64 0) fun v113 =>
  ldK (.one (.f)) ⟨1, 24, [.sl none 0], false, .sl 5, false⟩ ((tidy (tidy h [p101.1] p101.2) [p102.1] p102.2).put a0_b .dead) v113 fun v114 =>
  (call Ev Fn.spec_l1Next [pv a0_b a0_o, iv .i64 2] (tidy (tidy h [p101.1] p101.2) [p102.1] p102.2)).bind fun p115 =>
  gV1 p115.1 fun x116 =>
  gI .i64 x116 fun i117 =>
  hchk ((tidy (tidy h [p101.1] p101.2) [p102.1] p102.2).put a0_b .dead) (tidy (tidy (tidy h [p101.1] p101.2) [p102.1] p102.2) [p115.1] p115.2) (
  (call Ev Fn.spec_l1Next [pv a0_b a0_o, iv .i64 3] (tidy (tidy (tidy h [p101.1] p101.2) [p102.1] p102.2) [p115.1] p115.2)).bind fun p118 =>
  gV1 p118.1 fun x119 =>
  gI .i64 x119 fun i120 =>
  hchk ((tidy (tidy h [p101.1] p101.2) [p102.1] p102.2).put a0_b .dead) (tidy (tidy (tidy (tidy h [p101.1] p101.2) [p102.1] p102.2) [p115.1] p115.2) [p118.1] p118.2) (
  (pureV (call Ev) Fn.spec_l1Stub [iv .i64 i117, iv .i64 i120]).bind fun v121 =>
  gV1 v121 fun x122 =>
  gF x122 fun z123 =>
  hchk ((tidy (tidy h [p101.1] p101.2) [p102.1] p102.2).put a0_b .dead) (tidy (tidy (tidy (tidy h [p101.1] p101.2) [p102.1] p102.2) [p115.1] p115.2) [p118.1] p118.2) (
  (frzVs (tidy (tidy (tidy (tidy h [p101.1] p101.2) [p102.1] p102.2) [p115.1] p115.2) [p118.1] p118.2) [v114, lv z123]).bind fun l124 =>
  pcallF (call Ev) Fn.spec_l2Put ([v114, lv z123].all offV) (normVs [] l124) (tidy (tidy (tidy (tidy h [p101.1] p101.2) [p102.1] p102.2) [p115.1] p115.2) [p118.1] p118.2) fun v125 h126 =>
  gVT v125 fun u127 =>
  (u127[0]?).bind fun t128 =>
  gA1 t128 fun x129 =>
  (u127[1]?).bind fun t130 =>
  gA1 t130 fun x131 =>
  gI .i64 x131 fun i132 =>
  (u127[2]?).bind fun t133 =>
  gA1 t133 fun x134 =>
  gI .i64 x134 fun i135 =>
  if u127.length = 3 then
  hchk ((tidy (tidy h [p101.1] p101.2) [p102.1] p102.2).put a0_b .dead) h126 (
  vcase (bv (i135 == 0))
  (idxK 1 p101.1 (iv .i64 0) fun v137 =>
  stK 1 h126 v137 (.s x129) fun h138 =>
  some (p101.1, h138))
  (some (p101.1, h126)))
  else none))))
  (vcase (bv (i104 == 3))
  ((call Ev Fn.spec_l1Draw [pv a0_b a0_o] (tidy (tidy h [p101.1] p101.2) [p102.1] p102.2)).bind fun p140 =>
  gVA p140.1 fun c141 =>
  (c141[0]?).bind fun x142 =>
  gI .i64 x142 fun i143 =>
  (c141[1]?).bind fun x144 =>
  gI .i64 x144 fun i145 =>
  (c141[2]?).bind fun x146 =>
  gI .i64 x146 fun i147 =>
  (c141[3]?).bind fun x148 =>
  gS x148 fun y149 =>
  if c141.length = 4 then
  stK 4 ((tidy (tidy (tidy h [p101.1] p101.2) [p102.1] p102.2) [p140.1] p140.2).new 0 [.int .i64 0, .int .i64 0, .int .i64 0, .str (⟨#[]⟩)]) (pv ((tidy (tidy (tidy h [p101.1] p101.2) [p102.1] p102.2) [p140.1] p140.2).n) 0) (.agg [.int .i64 i143, .int .i64 i145, .int .i64 i147, .str y149]) fun h150 =>
  idxK 1 p101.1 (iv .i64 1) fun v151 =>
  ldK (.one (.f)) ⟨1, 24, [.sl none 0], false, .sl 5, false⟩ h150 v151 fun v152 =>
  (frzVs h150 [iv .i64 0, pv ((tidy (tidy (tidy h [p101.1] p101.2) [p102.1] p102.2) [p140.1] p140.2).n) 0]).bind fun l153 =>
  pcallF (call Ev) Fn.spec_l1Cell false (normVs [0, 4] l153) h150 fun v154 h155 =>
  hchk h150 h155 (
  bif scaV v154 then
  (frzVs h155 [v152, v154]).bind fun l156 =>
  pcallF (call Ev) Fn.spec_l2Put ([v152, v154].all offV) (normVs [] l156) h155 fun v157 h158 =>
  gVT v157 fun u159 =>
  (u159[0]?).bind fun t160 =>
  gA1 t160 fun x161 =>
  (u159[1]?).bind fun t162 =>
  gA1 t162 fun x163 =>
  gI .i64 x163 fun i164 =>
  (u159[2]?).bind fun t165 =>
  gA1 t165 fun x166 =>
  gI .i64 x166 fun i167 =>
  if u159.length = 3 then
  hchk h150 h158 (
  bif scaV (.tup [.s x161, .s (.int .i64 i164), .s (.int .i64 i167)]) then
  vcase (bv (i167 == 0))
  (idxK 1 p101.1 (iv .i64 1) fun v169 =>
  stK 1 h158 v169 (.s x161) fun h170 =>
  some (p101.1, h170))
  (some (p101.1, h158))
  else none)
  else none
  else none)
  else none)
  (some (p101.1, tidy (tidy h [p101.1] p101.2) [p102.1] p102.2))))) := by
  rw [call_eq]; kernel_rfl

theorem eq_spec_l1Source (a0 : List (List S)) (n : Nat) : call Ev Fn.spec_l1Source [lv a0] (D n) =
  some (pv ((D n).n) 0, (D n).new 0 [.fs a0, .int .i64 0]) := by
  rw [call_eq]; kernel_rfl

theorem pu_spec_DrawRowsIn (a0 : List (List S)) : pureV (call Ev) Fn.spec_DrawRowsIn [lv a0] =
  pcallF (call Ev) Fn.spec_l1Source true [lv a0] (D 0) fun v101 h102 =>
  (call Ev Fn.spec_l6Bent [v101] h102).bind fun p103 =>
  frzV (tidy h102 [p103.1] p103.2) p103.1 := by
  rw [pure_eq]; kernel_rfl

theorem pu_impl_SlotIn (a0 : List (List S)) (a1 : Int) : pureV (call Ev) Fn.impl_SlotIn [lv a0, iv .i64 a1] =
  pcallS (call Ev) Fn.impl_PageFault [lv a0] fun v101 =>
  gV1 v101 fun x102 =>
  gI .i64 x102 fun i103 =>
  vcase (bv (i103 != 0))
  (some (.agg [.int .i64 i103, .fs []]))
  (pcallS (call Ev) Fn.impl_hasSlot [lv a0, iv .i64 a1] fun v105 =>
  gV1 v105 fun x106 =>
  gB x106 fun q107 =>
  vcase (bv (!q107))
  (some (.agg [.int .i64 4, .fs []]))
  ((pureV (call Ev) Fn.impl_cellAt [lv a0, iv .i64 a1]).bind fun v109 =>
  gV1 v109 fun x110 =>
  gF x110 fun z111 =>
  (pureV (call Ev) Fn.impl_copied [lv z111]).bind fun v112 =>
  gV1 v112 fun x113 =>
  gF x113 fun z114 =>
  some (.agg [.int .i64 0, .fs z114]))) := by
  rw [pure_eq]; kernel_rfl

theorem pu_spec_DrawFindRow (a0 : List (List S)) : pureV (call Ev) Fn.spec_DrawFindRow [lv a0] =
  pcallF (call Ev) Fn.spec_l1Source true [lv a0] (D 0) fun v101 h102 =>
  (call Ev Fn.spec_l6Bent [v101] h102).bind fun p103 =>
  (call Ev Fn.spec_l1Pick [v101, sv ((tidy h102 [p103.1] p103.2).n) 0 4] ((tidy h102 [p103.1] p103.2).new 1 [.int .i64 0, .int .i64 1, .int .i64 2, .int .i64 4])).bind fun p104 =>
  gV1 p104.1 fun x105 =>
  gI .i64 x105 fun i106 =>
  (call Ev Fn.spec_l1Next [v101, iv .i64 6] (tidy ((tidy h102 [p103.1] p103.2).new 1 [.int .i64 0, .int .i64 1, .int .i64 2, .int .i64 4]) [p104.1] p104.2)).bind fun p107 =>
  gV1 p107.1 fun x108 =>
  gI .i64 x108 fun i109 =>
  (call Ev Fn.spec_l1Next [v101, iv .i64 6] (tidy (tidy ((tidy h102 [p103.1] p103.2).new 1 [.int .i64 0, .int .i64 1, .int .i64 2, .int .i64 4]) [p104.1] p104.2) [p107.1] p107.2)).bind fun p110 =>
  gV1 p110.1 fun x111 =>
  gI .i64 x111 fun i112 =>
  (call Ev Fn.spec_l1Pick [v101, sv ((tidy (tidy (tidy ((tidy h102 [p103.1] p103.2).new 1 [.int .i64 0, .int .i64 1, .int .i64 2, .int .i64 4]) [p104.1] p104.2) [p107.1] p107.2) [p110.1] p110.2).n) 0 3] ((tidy (tidy (tidy ((tidy h102 [p103.1] p103.2).new 1 [.int .i64 0, .int .i64 1, .int .i64 2, .int .i64 4]) [p104.1] p104.2) [p107.1] p107.2) [p110.1] p110.2).new 1 [.int .i64 (IntKind.i64.wrap (1 + i109)), .int .i64 (IntKind.i64.wrap (1 + i112)), .int .i64 0])).bind fun p113 =>
  gV1 p113.1 fun x114 =>
  gI .i64 x114 fun i115 =>
  (V.toA p103.1).bind fun t116 =>
  frzV (tidy ((tidy (tidy (tidy ((tidy h102 [p103.1] p103.2).new 1 [.int .i64 0, .int .i64 1, .int .i64 2, .int .i64 4]) [p104.1] p104.2) [p107.1] p107.2) [p110.1] p110.2).new 1 [.int .i64 (IntKind.i64.wrap (1 + i109)), .int .i64 (IntKind.i64.wrap (1 + i112)), .int .i64 0]) [p113.1] p113.2) (.tup [t116, .s (.int .i64 i106), .s (.int .i64 i115)]) := by
  rw [pure_eq]; kernel_rfl

theorem pu_impl_RowsFault (a0 : List (List S)) : pureV (call Ev) Fn.impl_RowsFault [lv a0] =
  vcase (bv (decide ((a0.length : Int) > 60)))
  (some (iv .i64 2))
  ((Lp.impl_RowsFault 0 [lv a0, lv a0, iv .i64 (a0.length : Int), iv .i64 0] (D 0)).bind fun o102 => lcase o102 (fun l103 h104 =>
  some (iv .i64 0)) (fun v105 h106 =>
  frzV h106 v105)) := by
  rw [pure_eq]; kernel_rfl

theorem eq_impl_RowsFault_l0 (s0 : List (List S)) (s9 : List (List S)) (s10 : Int) (s11 : Int) (h : H) : Lp.impl_RowsFault 0 [lv s0, lv s9, iv .i64 s10, iv .i64 s11] h =
  vcase (bv (decide (s11 < s10)))
  (idxF 4 s9 s11 fun r203 =>
  (rowN 4 r203 0).bind fun c204 =>
  (c204[0]?).bind fun x205 =>
  gI .i64 x205 fun i206 =>
  (c204[1]?).bind fun x207 =>
  gI .i64 x207 fun i208 =>
  (c204[2]?).bind fun x209 =>
  gI .i64 x209 fun i210 =>
  (c204[3]?).bind fun x211 =>
  gS x211 fun y212 =>
  if c204.length = 4 then
  stK 4 (h.new 0 [.int .i64 0, .int .i64 0, .int .i64 0, .str (⟨#[]⟩)]) (pv h.n 0) (.agg [.int .i64 i206, .int .i64 i208, .int .i64 i210, .str y212]) fun h213 =>
  (loadN 4 h213 (pv h.n 0)).bind fun c214 =>
  (c214[0]?).bind fun x215 =>
  gI .i64 x215 fun i216 =>
  (c214[1]?).bind fun x217 =>
  gI .i64 x217 fun i218 =>
  (c214[2]?).bind fun x219 =>
  gI .i64 x219 fun i220 =>
  (c214[3]?).bind fun x221 =>
  gS x221 fun y222 =>
  if c214.length = 4 then
  pcallS (call Ev) Fn.impl_RowFault [.agg [.int .i64 i216, .int .i64 i218, .int .i64 i220, .str y222]] fun v223 =>
  gV1 v223 fun x224 =>
  gI .i64 x224 fun i225 =>
  vcase (bv (i225 != 0))
  (some (.ret (iv .i64 i225) h213))
  (vcase (bv (decide (s11 > 0)))
  (idxF 4 s0 (IntKind.i64.wrap (s11 - 1)) fun r228 =>
  (rowN 4 r228 0).bind fun c229 =>
  (c229[0]?).bind fun x230 =>
  gI .i64 x230 fun i231 =>
  (c229[1]?).bind fun x232 =>
  gI .i64 x232 fun i233 =>
  (c229[2]?).bind fun x234 =>
  gI .i64 x234 fun i235 =>
  (c229[3]?).bind fun x236 =>
  gS x236 fun y237 =>
  if c229.length = 4 then
  (loadN 4 h213 (pv h.n 0)).bind fun c238 =>
  (c238[0]?).bind fun x239 =>
  gI .i64 x239 fun i240 =>
  (c238[1]?).bind fun x241 =>
  gI .i64 x241 fun i242 =>
  (c238[2]?).bind fun x243 =>
  gI .i64 x243 fun i244 =>
  (c238[3]?).bind fun x245 =>
  gS x245 fun y246 =>
  if c238.length = 4 then
  pcallS (call Ev) Fn.impl_IsBefore [.agg [.int .i64 i231, .int .i64 i233, .int .i64 i235, .str y237], .agg [.int .i64 i240, .int .i64 i242, .int .i64 i244, .str y246]] fun v247 =>
  gV1 v247 fun x248 =>
  gB x248 fun q249 =>
  hchk h213 h213 (
  vcase (bv (!q249))
  (some (.ret (iv .i64 1) h213))
  (Lp.impl_RowsFault 0 [lv s0, lv s9, iv .i64 s10, iv .i64 (IntKind.i64.wrap (s11 + 1))] (tidy h [lv s0, lv s9, iv .i64 s10, iv .i64 (IntKind.i64.wrap (s11 + 1))] h213)))
  else none
  else none)
  (hchk h213 h213 (
  Lp.impl_RowsFault 0 [lv s0, lv s9, iv .i64 s10, iv .i64 (IntKind.i64.wrap (s11 + 1))] (tidy h [lv s0, lv s9, iv .i64 s10, iv .i64 (IntKind.i64.wrap (s11 + 1))] h213))))
  else none
  else none)
  (some (.done [] (tidy h [] h))) := by
  unfold Lp.impl_RowsFault; rw [loop_eq]; kernel_rfl

theorem pu_laws_lwRows (a0 : List (List S)) (a1 : List (List S)) : pureV (call Ev) Fn.laws_lwRows [lv a0, lv a1] =
  vcase (bv ((a0.length : Int) != (a1.length : Int)))
  (some (bv false))
  ((Lp.laws_lwRows 0 [lv a0, lv a1, iv .i64 0] (D 0)).bind fun o102 => lcase o102 (fun l103 h104 =>
  some (bv true)) (fun v105 h106 =>
  frzV h106 v105)) := by
  rw [pure_eq]; kernel_rfl

theorem eq_laws_lwRows_l0 (s0 : List (List S)) (s1 : List (List S)) (s5 : Int) (h : H) : Lp.laws_lwRows 0 [lv s0, lv s1, iv .i64 s5] h =
  vcase (bv (decide (s5 < (s0.length : Int))))
  (idxF 4 s0 s5 fun r203 =>
  (rowN 4 r203 0).bind fun c204 =>
  (c204[0]?).bind fun x205 =>
  gI .i64 x205 fun i206 =>
  (c204[1]?).bind fun x207 =>
  gI .i64 x207 fun i208 =>
  (c204[2]?).bind fun x209 =>
  gI .i64 x209 fun i210 =>
  (c204[3]?).bind fun x211 =>
  gS x211 fun y212 =>
  if c204.length = 4 then
  idxF 4 s1 s5 fun r213 =>
  (rowN 4 r213 0).bind fun c214 =>
  (c214[0]?).bind fun x215 =>
  gI .i64 x215 fun i216 =>
  (c214[1]?).bind fun x217 =>
  gI .i64 x217 fun i218 =>
  (c214[2]?).bind fun x219 =>
  gI .i64 x219 fun i220 =>
  (c214[3]?).bind fun x221 =>
  gS x221 fun y222 =>
  if c214.length = 4 then
  vcase (bv (!(((i206 : Int) == i216) && (((i208 : Int) == i218) && (((i210 : Int) == i220) && (((y212 : ByteArray).toList == (y222 : ByteArray).toList) && true))))))
  (some (.ret (bv false) h))
  (Lp.laws_lwRows 0 [lv s0, lv s1, iv .i64 (IntKind.i64.wrap (s5 + 1))] (tidy h [lv s0, lv s1, iv .i64 (IntKind.i64.wrap (s5 + 1))] h))
  else none
  else none)
  (some (.done [] (tidy h [] h))) := by
  unfold Lp.laws_lwRows; rw [loop_eq]; kernel_rfl

end Vm
