/-
  What each function, and each round of each loop, comes to in the small machine. Written by a program (gen3.py).
-/
import Derived.Test.YtpdoloemacmbaaaEnv
set_option linter.unusedVariables false
set_option maxRecDepth 100000
namespace Vm
open Go

theorem pu_laws_lwBig (a0 : List (List S)) : pureV (call Ev) Fn.laws_lwBig [lv a0] =
  some (bv (decide ((a0.length : Int) > 1048576))) := by
  rw [pure_eq]; kernel_rfl

theorem eq_spec_l1Source (a0 : List (List S)) (n : Nat) : call Ev Fn.spec_l1Source [lv a0] (D n) =
  some (pv ((D n).n) 0, (D n).new 0 [.fs a0, .int .i64 0]) := by
  rw [call_eq]; kernel_rfl

theorem eq_spec_l1Next (a0_b a0_o : Nat) (a1 : Int) (h : H) : call Ev Fn.spec_l1Next [pv a0_b a0_o, iv .i64 a1] h =
  (load1 h (pv a0_b (a0_o + 1))).bind fun x101 =>
  gI .i64 x101 fun i102 =>
  stK 1 h (pv a0_b (a0_o + 1)) (iv .i64 (IntKind.i64.wrap (i102 + 1))) fun h103 =>
  vcase (bv (decide (a1 < 1)))
  (some (iv .i64 0, h103))
  ((load1 h103 (pv a0_b (a0_o + 1))).bind fun x105 =>
  gI .i64 x105 fun i106 =>
  (load1 h103 (pv a0_b (a0_o + 0))).bind fun x107 =>
  (lenV (.sl 5) (.s x107)).bind fun v108 =>
  gV1 v108 fun x109 =>
  gI .i64 x109 fun i110 =>
  vcase (bv (i110 == 0))
  ((bin Ev .rem 2 (iv .i64 (IntKind.i64.wrap ((IntKind.i64.wrap (i106 - 1)) * 7))) (iv .i64 a1)).bind fun b112 =>
  gV1 b112 fun x113 =>
  gI .i64 x113 fun i114 =>
  some (iv .i64 i114, h103))
  ((load1 h103 (pv a0_b (a0_o + 0))).bind fun x115 =>
  (bin Ev .rem 2 (iv .i64 (IntKind.i64.wrap (i106 - 1))) (iv .i64 i110)).bind fun b116 =>
  gV1 b116 fun x117 =>
  gI .i64 x117 fun i118 =>
  idxK 1 (.s x115) (iv .i64 i118) fun v119 =>
  ldK (.one (.i .u8)) ⟨1, 1, [.int .u8 0], false, .int .u8, false⟩ h103 v119 fun v120 =>
  gV1 v120 fun x121 =>
  gI .u8 x121 fun i122 =>
  (bin Ev .quo 2 (iv .i64 (IntKind.i64.wrap (i106 - 1))) (iv .i64 i110)).bind fun b123 =>
  gV1 b123 fun x124 =>
  gI .i64 x124 fun i125 =>
  vcase (bv (decide (a1 > 200)))
  ((load1 h103 (pv a0_b (a0_o + 0))).bind fun x127 =>
  (bin Ev .rem 2 (iv .i64 (IntKind.i64.wrap ((IntKind.i64.wrap (i106 - 1)) + 1))) (iv .i64 i110)).bind fun b128 =>
  gV1 b128 fun x129 =>
  gI .i64 x129 fun i130 =>
  idxK 1 (.s x127) (iv .i64 i130) fun v131 =>
  ldK (.one (.i .u8)) ⟨1, 1, [.int .u8 0], false, .int .u8, false⟩ h103 v131 fun v132 =>
  gV1 v132 fun x133 =>
  gI .u8 x133 fun i134 =>
  (bin Ev .rem 2 (iv .i64 (IntKind.i64.wrap ((IntKind.i64.wrap ((IntKind.i64.wrap ((IntKind.i64.wrap ((IntKind.i64.wrap i122) + (IntKind.i64.wrap (i125 * 37)))) * 251)) + (IntKind.i64.wrap ((IntKind.i64.wrap i134) * 13)))) + (IntKind.i64.wrap (i106 - 1))))) (iv .i64 a1)).bind fun b135 =>
  gV1 b135 fun x136 =>
  gI .i64 x136 fun i137 =>
  some (iv .i64 i137, h103))
  ((bin Ev .rem 2 (iv .i64 (IntKind.i64.wrap ((IntKind.i64.wrap i122) + (IntKind.i64.wrap (i125 * 37))))) (iv .i64 a1)).bind fun b138 =>
  gV1 b138 fun x139 =>
  gI .i64 x139 fun i140 =>
  some (iv .i64 i140, h103)))) := by
  rw [call_eq]; kernel_rfl

theorem eq_spec_l1Pick (a0_b a0_o : Nat) (a1 : V) (h : H) : call Ev Fn.spec_l1Pick [pv a0_b a0_o, a1] h =
  (lenV (.sl 2) a1).bind fun v101 =>
  gV1 v101 fun x102 =>
  gI .i64 x102 fun i103 =>
  (call Ev Fn.spec_l1Next [pv a0_b a0_o, iv .i64 i103] h).bind fun p104 =>
  gV1 p104.1 fun x105 =>
  gI .i64 x105 fun i106 =>
  idxK 1 a1 (iv .i64 i106) fun v107 =>
  ldK (.one (.i .i64)) ⟨1, 8, [.int .i64 0], false, .int .i64, false⟩ (tidy h [p104.1] p104.2) v107 fun v108 =>
  gV1 v108 fun x109 =>
  gI .i64 x109 fun i110 =>
  some (iv .i64 i110, tidy h [p104.1] p104.2) := by
  rw [call_eq]; kernel_rfl

theorem eq_spec_l1Draw (a0_b a0_o : Nat) (h : H) : call Ev Fn.spec_l1Draw [pv a0_b a0_o] h =
  (call Ev Fn.spec_l1Next [pv a0_b a0_o, iv .i64 3] (h.new 0 [.int .i64 0, .int .i64 0, .int .i64 0, .str (⟨#[]⟩)])).bind fun p101 =>
  gV1 p101.1 fun x102 =>
  gI .i64 x102 fun i103 =>
  (call Ev Fn.spec_l1Next [pv a0_b a0_o, iv .i64 6] (tidy (h.new 0 [.int .i64 0, .int .i64 0, .int .i64 0, .str (⟨#[]⟩)]) [p101.1] p101.2)).bind fun p104 =>
  gV1 p104.1 fun x105 =>
  gI .i64 x105 fun i106 =>
  (call Ev Fn.spec_l1Next [pv a0_b a0_o, iv .i64 9] (tidy (tidy (h.new 0 [.int .i64 0, .int .i64 0, .int .i64 0, .str (⟨#[]⟩)]) [p101.1] p101.2) [p104.1] p104.2)).bind fun p107 =>
  gV1 p107.1 fun x108 =>
  gI .i64 x108 fun i109 =>
  (call Ev Fn.spec_l1Pick [pv a0_b a0_o, sv ((tidy (tidy (tidy (h.new 0 [.int .i64 0, .int .i64 0, .int .i64 0, .str (⟨#[]⟩)]) [p101.1] p101.2) [p104.1] p104.2) [p107.1] p107.2).n) 0 3] ((tidy (tidy (tidy (h.new 0 [.int .i64 0, .int .i64 0, .int .i64 0, .str (⟨#[]⟩)]) [p101.1] p101.2) [p104.1] p104.2) [p107.1] p107.2).new 1 [.int .i64 i109, .int .i64 300, .int .i64 999])).bind fun p110 =>
  gV1 p110.1 fun x111 =>
  gI .i64 x111 fun i112 =>
  (call Ev Fn.spec_l1Next [pv a0_b a0_o, iv .i64 4] ((tidy ((tidy (tidy (tidy (h.new 0 [.int .i64 0, .int .i64 0, .int .i64 0, .str (⟨#[]⟩)]) [p101.1] p101.2) [p104.1] p104.2) [p107.1] p107.2).new 1 [.int .i64 i109, .int .i64 300, .int .i64 999]) [p110.1] p110.2).new 1 [.str (⟨#[]⟩), .str (⟨#[97]⟩), .str (⟨#[97, 98, 99]⟩), .str (⟨#[97, 98, 99, 100, 101, 102, 103, 104]⟩)])).bind fun p113 =>
  gV1 p113.1 fun x114 =>
  gI .i64 x114 fun i115 =>
  idxK 1 (sv ((tidy ((tidy (tidy (tidy (h.new 0 [.int .i64 0, .int .i64 0, .int .i64 0, .str (⟨#[]⟩)]) [p101.1] p101.2) [p104.1] p104.2) [p107.1] p107.2).new 1 [.int .i64 i109, .int .i64 300, .int .i64 999]) [p110.1] p110.2).n) 0 4) (iv .i64 i115) fun v116 =>
  ldK (.one (.s)) ⟨1, 16, [.str ⟨#[]⟩], false, .str, false⟩ (tidy ((tidy ((tidy (tidy (tidy (h.new 0 [.int .i64 0, .int .i64 0, .int .i64 0, .str (⟨#[]⟩)]) [p101.1] p101.2) [p104.1] p104.2) [p107.1] p107.2).new 1 [.int .i64 i109, .int .i64 300, .int .i64 999]) [p110.1] p110.2).new 1 [.str (⟨#[]⟩), .str (⟨#[97]⟩), .str (⟨#[97, 98, 99]⟩), .str (⟨#[97, 98, 99, 100, 101, 102, 103, 104]⟩)]) [p113.1] p113.2) v116 fun v117 =>
  gV1 v117 fun x118 =>
  gS x118 fun y119 =>
  stK 4 (tidy ((tidy ((tidy (tidy (tidy (h.new 0 [.int .i64 0, .int .i64 0, .int .i64 0, .str (⟨#[]⟩)]) [p101.1] p101.2) [p104.1] p104.2) [p107.1] p107.2).new 1 [.int .i64 i109, .int .i64 300, .int .i64 999]) [p110.1] p110.2).new 1 [.str (⟨#[]⟩), .str (⟨#[97]⟩), .str (⟨#[97, 98, 99]⟩), .str (⟨#[97, 98, 99, 100, 101, 102, 103, 104]⟩)]) [p113.1] p113.2) (pv h.n 0) (.agg [.int .i64 i103, .int .i64 (IntKind.i64.wrap (1 + i106)), .int .i64 i112, .str y119]) fun h120 =>
  (loadN 4 h120 (pv h.n 0)).bind fun c121 =>
  some (.agg c121, h120) := by
  rw [call_eq]; kernel_rfl

theorem pu_spec_l6At (a0 : List (List S)) (a1 : Int) (a2 : Int) : pureV (call Ev) Fn.spec_l6At [lv a0, iv .i64 a1, iv .i64 a2] =
  (Lp.spec_l6At 0 [lv a0, iv .i64 a1, iv .i64 a2, iv .i64 0] (D 0)).bind fun o101 => lcase o101 (fun l102 h103 =>
  some (iv .i64 (-1))) (fun v104 h105 =>
  frzV h105 v104) := by
  rw [pure_eq]; kernel_rfl

theorem eq_spec_l6At_l0 (s0 : List (List S)) (s1 : Int) (s2 : Int) (s7 : Int) (h : H) : Lp.spec_l6At 0 [lv s0, iv .i64 s1, iv .i64 s2, iv .i64 s7] h =
  vcase (bv (decide (s7 < (s0.length : Int))))
  (idxF 4 s0 s7 fun r203 =>
  (r203[0]?).bind fun x204 =>
  gI .i64 x204 fun i205 =>
  vcase (bv (i205 == s1))
  (idxF 4 s0 s7 fun r207 =>
  (r207[1]?).bind fun x208 =>
  gI .i64 x208 fun i209 =>
  vcase (bv (i209 == s2))
  (some (.ret (iv .i64 s7) h))
  (Lp.spec_l6At 0 [lv s0, iv .i64 s1, iv .i64 s2, iv .i64 (IntKind.i64.wrap (s7 + 1))] (tidy h [lv s0, iv .i64 s1, iv .i64 s2, iv .i64 (IntKind.i64.wrap (s7 + 1))] h)))
  (Lp.spec_l6At 0 [lv s0, iv .i64 s1, iv .i64 s2, iv .i64 (IntKind.i64.wrap (s7 + 1))] (tidy h [lv s0, iv .i64 s1, iv .i64 s2, iv .i64 (IntKind.i64.wrap (s7 + 1))] h)))
  (some (.done [] (tidy h [] h))) := by
  unfold Lp.spec_l6At; rw [loop_eq]; kernel_rfl

theorem pu_spec_l1Before (a0_0 : Int) (a0_1 : Int) (a0_2 : Int) (a0_3 : ByteArray) (a1_0 : Int) (a1_1 : Int) (a1_2 : Int) (a1_3 : ByteArray) : pureV (call Ev) Fn.spec_l1Before [fv [.int .i64 a0_0, .int .i64 a0_1, .int .i64 a0_2, .str a0_3] 0, fv [.int .i64 a1_0, .int .i64 a1_1, .int .i64 a1_2, .str a1_3] 0] =
  vcase (bv (decide (a0_0 < a1_0)))
  (some (bv true))
  (vcase (bv (a0_0 == a1_0))
  (some (bv (decide (a0_1 < a1_1))))
  (some (bv false))) := by
  rw [pure_eq]; kernel_rfl

theorem eq_spec_l6Put (a0 : List (List S)) (a1_0 : Int) (a1_1 : Int) (a1_2 : Int) (a1_3 : ByteArray) (n : Nat) : call Ev Fn.spec_l6Put [lv a0, .agg [.int .i64 a1_0, .int .i64 a1_1, .int .i64 a1_2, .str a1_3]] (D n) =
  (Lp.spec_l6Put 0 [lv a0, pv ((D n).n) 0, iv .i64 0] ((D n).new 0 [.int .i64 a1_0, .int .i64 a1_1, .int .i64 a1_2, .str a1_3])).bind fun o101 => lcase o101 (fun l102 h103 =>
  (l102[0]?).bind fun w106 =>
  gV1 w106 fun x107 =>
  gF x107 fun z108 =>
  (l102[1]?).bind fun w109 =>
  (l102[2]?).bind fun w110 =>
  gV1 w110 fun x111 =>
  gI .i64 x111 fun i112 =>
  slF 4 z108 none (some (iv .i64 i112)) fun z113 =>
  (appS 4 (h103.new 4 []) (sv h103.n 0 0) (lv z113)).bind fun p114 =>
  ldK (.agg [.i .i64, .i .i64, .i .i64, .s]) ⟨4, 40, [.int .i64 0, .int .i64 0, .int .i64 0, .str ⟨#[]⟩], true, .st [(0, 2), (1, 2), (2, 2), (3, 9)], true⟩ p114.2 w109 fun v115 =>
  gVA v115 fun c116 =>
  (c116[0]?).bind fun x117 =>
  gI .i64 x117 fun i118 =>
  (c116[1]?).bind fun x119 =>
  gI .i64 x119 fun i120 =>
  (c116[2]?).bind fun x121 =>
  gI .i64 x121 fun i122 =>
  (c116[3]?).bind fun x123 =>
  gS x123 fun y124 =>
  if c116.length = 4 then
  slF 4 z108 (some (iv .i64 i112)) none fun z125 =>
  hchk p114.2 (p114.2.new 4 [.int .i64 i118, .int .i64 i120, .int .i64 i122, .str y124]) (
  (appS 4 (p114.2.new 4 [.int .i64 i118, .int .i64 i120, .int .i64 i122, .str y124]) p114.1 (sv p114.2.n 0 1)).bind fun p126 =>
  (appS 4 p126.2 p126.1 (lv z125)).bind fun p127 =>
  some (p127.1, p127.2))
  else none) (fun v104 h105 =>
  some (v104, h105)) := by
  rw [call_eq]; kernel_rfl

theorem eq_spec_l6Put_l0 (s0 : List (List S)) (s3 : V) (s5 : Int) (h : H) : Lp.spec_l6Put 0 [lv s0, s3, iv .i64 s5] h =
  vcase (bv (decide (s5 < (s0.length : Int))))
  (idxF 4 s0 s5 fun r202 =>
  (frzVs h [fv r202 0, s3]).bind fun l203 =>
  pcallS (call Ev) Fn.spec_l1Before (normVs [4, 4] l203) fun v204 =>
  gV1 v204 fun x205 =>
  gB x205 fun q206 =>
  vcase (bv q206)
  (Lp.spec_l6Put 0 [lv s0, s3, iv .i64 (IntKind.i64.wrap (s5 + 1))] (tidy h [lv s0, s3, iv .i64 (IntKind.i64.wrap (s5 + 1))] h))
  (some (.done [lv s0, s3, iv .i64 s5] (tidy h [lv s0, s3, iv .i64 s5] h))))
  (some (.done [lv s0, s3, iv .i64 s5] (tidy h [lv s0, s3, iv .i64 s5] h))) := by
  unfold Lp.spec_l6Put; rw [loop_eq]; kernel_rfl

theorem eq_spec_l6DrawRows (a0_b a0_o : Nat) (h : H) : call Ev Fn.spec_l6DrawRows [pv a0_b a0_o] h =
  (call Ev Fn.spec_l1Next [pv a0_b a0_o, iv .i64 7] (h.new 4 [])).bind fun p101 =>
  gV1 p101.1 fun x102 =>
  gI .i64 x102 fun i103 =>
  (Lp.spec_l6DrawRows 0 [pv a0_b a0_o, sv h.n 0 0, iv .i64 i103] (tidy (h.new 4 []) [p101.1] p101.2)).bind fun o104 => lcase o104 (fun l105 h106 =>
  (l105[0]?).bind fun w109 =>
  some (w109, h106)) (fun v107 h108 =>
  some (v107, h108)) := by
  rw [call_eq]; kernel_rfl

theorem eq_spec_l6DrawRows_l0 (s0 : V) (s3 : V) (s4 : Int) (h : H) : Lp.spec_l6DrawRows 0 [s0, s3, iv .i64 s4] h =
  vcase (bv (decide (s4 > 0)))
  ((call Ev Fn.spec_l1Draw [s0] h).bind fun p203 =>
  gVA p203.1 fun c204 =>
  (c204[0]?).bind fun x205 =>
  gI .i64 x205 fun i206 =>
  (c204[1]?).bind fun x207 =>
  gI .i64 x207 fun i208 =>
  (c204[2]?).bind fun x209 =>
  gI .i64 x209 fun i210 =>
  (c204[3]?).bind fun x211 =>
  gS x211 fun y212 =>
  if c204.length = 4 then
  stK 4 ((tidy h [p203.1] p203.2).new 0 [.int .i64 0, .int .i64 0, .int .i64 0, .str (⟨#[]⟩)]) (pv ((tidy h [p203.1] p203.2).n) 0) (.agg [.int .i64 i206, .int .i64 i208, .int .i64 i210, .str y212]) fun h213 =>
  (load1 h213 (pv ((tidy h [p203.1] p203.2).n) 0)).bind fun x214 =>
  gI .i64 x214 fun i215 =>
  (load1 h213 (pv ((tidy h [p203.1] p203.2).n) 1)).bind fun x216 =>
  gI .i64 x216 fun i217 =>
  (frzVs h213 [s3, iv .i64 i215, iv .i64 i217]).bind fun l218 =>
  pcallS (call Ev) Fn.spec_l6At (normVs [] l218) fun v219 =>
  gV1 v219 fun x220 =>
  gI .i64 x220 fun i221 =>
  vcase (bv (decide (i221 < 0)))
  ((loadN 4 h213 (pv ((tidy h [p203.1] p203.2).n) 0)).bind fun c223 =>
  (c223[0]?).bind fun x224 =>
  gI .i64 x224 fun i225 =>
  (c223[1]?).bind fun x226 =>
  gI .i64 x226 fun i227 =>
  (c223[2]?).bind fun x228 =>
  gI .i64 x228 fun i229 =>
  (c223[3]?).bind fun x230 =>
  gS x230 fun y231 =>
  if c223.length = 4 then
  (frzVs h213 [s3, .agg [.int .i64 i225, .int .i64 i227, .int .i64 i229, .str y231]]).bind fun l232 =>
  pcallF (call Ev) Fn.spec_l6Put ([s3, .agg [.int .i64 i225, .int .i64 i227, .int .i64 i229, .str y231]].all offV) (normVs [] l232) h213 fun v233 h234 =>
  Lp.spec_l6DrawRows 0 [s0, v233, iv .i64 (IntKind.i64.wrap (s4 - 1))] (tidy h [s0, v233, iv .i64 (IntKind.i64.wrap (s4 - 1))] h234)
  else none)
  (Lp.spec_l6DrawRows 0 [s0, s3, iv .i64 (IntKind.i64.wrap (s4 - 1))] (tidy h [s0, s3, iv .i64 (IntKind.i64.wrap (s4 - 1))] h213))
  else none)
  (some (.done [s3] (tidy h [s3] h))) := by
  unfold Lp.spec_l6DrawRows; rw [loop_eq]; kernel_rfl

theorem eq_spec_l1Bent (a0_b a0_o : Nat) (h : H) : call Ev Fn.spec_l1Bent [pv a0_b a0_o] h =
  (call Ev Fn.spec_l1Draw [pv a0_b a0_o] (h.new 0 [.int .i64 0, .int .i64 0, .int .i64 0, .str (⟨#[]⟩)])).bind fun p101 =>
  gVA p101.1 fun c102 =>
  (c102[0]?).bind fun x103 =>
  gI .i64 x103 fun i104 =>
  (c102[1]?).bind fun x105 =>
  gI .i64 x105 fun i106 =>
  (c102[2]?).bind fun x107 =>
  gI .i64 x107 fun i108 =>
  (c102[3]?).bind fun x109 =>
  gS x109 fun y110 =>
  if c102.length = 4 then
  stK 4 ((tidy (h.new 0 [.int .i64 0, .int .i64 0, .int .i64 0, .str (⟨#[]⟩)]) [p101.1] p101.2).new 0 [.int .i64 0, .int .i64 0, .int .i64 0, .str (⟨#[]⟩)]) (pv ((tidy (h.new 0 [.int .i64 0, .int .i64 0, .int .i64 0, .str (⟨#[]⟩)]) [p101.1] p101.2).n) 0) (.agg [.int .i64 i104, .int .i64 i106, .int .i64 i108, .str y110]) fun h111 =>
  (call Ev Fn.spec_l1Next [pv a0_b a0_o, iv .i64 12] h111).bind fun p112 =>
  gV1 p112.1 fun x113 =>
  gI .i64 x113 fun i114 =>
  vcase (bv (i114 == 0))
  ((call Ev Fn.spec_l1Pick [pv a0_b a0_o, sv ((tidy h111 [p112.1] p112.2).n) 0 3] ((tidy h111 [p112.1] p112.2).new 1 [.int .i64 (-1), .int .i64 3, .int .i64 4])).bind fun p117 =>
  gV1 p117.1 fun x118 =>
  gI .i64 x118 fun i119 =>
  stK 1 (tidy ((tidy h111 [p112.1] p112.2).new 1 [.int .i64 (-1), .int .i64 3, .int .i64 4]) [p117.1] p117.2) (pv ((tidy (h.new 0 [.int .i64 0, .int .i64 0, .int .i64 0, .str (⟨#[]⟩)]) [p101.1] p101.2).n) 0) (iv .i64 i119) fun h120 =>
  (loadN 4 h120 (pv ((tidy (h.new 0 [.int .i64 0, .int .i64 0, .int .i64 0, .str (⟨#[]⟩)]) [p101.1] p101.2).n) 0)).bind fun c140 =>
  (c140[0]?).bind fun x141 =>
  gI .i64 x141 fun i142 =>
  (c140[1]?).bind fun x143 =>
  gI .i64 x143 fun i144 =>
  (c140[2]?).bind fun x145 =>
  gI .i64 x145 fun i146 =>
  (c140[3]?).bind fun x147 =>
  gS x147 fun y148 =>
  if c140.length = 4 then
  stK 4 h120 (pv h.n 0) (.agg [.int .i64 i142, .int .i64 i144, .int .i64 i146, .str y148]) fun h149 =>
  (loadN 4 h149 (pv h.n 0)).bind fun c150 =>
  some (.agg c150, h149)
  else none)
  (vcase (bv (i114 == 1))
  ((call Ev Fn.spec_l1Pick [pv a0_b a0_o, sv ((tidy h111 [p112.1] p112.2).n) 0 3] ((tidy h111 [p112.1] p112.2).new 1 [.int .i64 0, .int .i64 99, .int .i64 100])).bind fun p122 =>
  gV1 p122.1 fun x123 =>
  gI .i64 x123 fun i124 =>
  stK 1 (tidy ((tidy h111 [p112.1] p112.2).new 1 [.int .i64 0, .int .i64 99, .int .i64 100]) [p122.1] p122.2) (pv ((tidy (h.new 0 [.int .i64 0, .int .i64 0, .int .i64 0, .str (⟨#[]⟩)]) [p101.1] p101.2).n) 1) (iv .i64 i124) fun h125 =>
  (loadN 4 h125 (pv ((tidy (h.new 0 [.int .i64 0, .int .i64 0, .int .i64 0, .str (⟨#[]⟩)]) [p101.1] p101.2).n) 0)).bind fun c151 =>
  (c151[0]?).bind fun x152 =>
  gI .i64 x152 fun i153 =>
  (c151[1]?).bind fun x154 =>
  gI .i64 x154 fun i155 =>
  (c151[2]?).bind fun x156 =>
  gI .i64 x156 fun i157 =>
  (c151[3]?).bind fun x158 =>
  gS x158 fun y159 =>
  if c151.length = 4 then
  stK 4 h125 (pv h.n 0) (.agg [.int .i64 i153, .int .i64 i155, .int .i64 i157, .str y159]) fun h160 =>
  (loadN 4 h160 (pv h.n 0)).bind fun c161 =>
  some (.agg c161, h160)
  else none)
  (vcase (bv (i114 == 2))
  ((call Ev Fn.spec_l1Pick [pv a0_b a0_o, sv ((tidy h111 [p112.1] p112.2).n) 0 2] ((tidy h111 [p112.1] p112.2).new 1 [.int .i64 (-1), .int .i64 1000])).bind fun p127 =>
  gV1 p127.1 fun x128 =>
  gI .i64 x128 fun i129 =>
  stK 1 (tidy ((tidy h111 [p112.1] p112.2).new 1 [.int .i64 (-1), .int .i64 1000]) [p127.1] p127.2) (pv ((tidy (h.new 0 [.int .i64 0, .int .i64 0, .int .i64 0, .str (⟨#[]⟩)]) [p101.1] p101.2).n) 2) (iv .i64 i129) fun h130 =>
  (loadN 4 h130 (pv ((tidy (h.new 0 [.int .i64 0, .int .i64 0, .int .i64 0, .str (⟨#[]⟩)]) [p101.1] p101.2).n) 0)).bind fun c162 =>
  (c162[0]?).bind fun x163 =>
  gI .i64 x163 fun i164 =>
  (c162[1]?).bind fun x165 =>
  gI .i64 x165 fun i166 =>
  (c162[2]?).bind fun x167 =>
  gI .i64 x167 fun i168 =>
  (c162[3]?).bind fun x169 =>
  gS x169 fun y170 =>
  if c162.length = 4 then
  stK 4 h130 (pv h.n 0) (.agg [.int .i64 i164, .int .i64 i166, .int .i64 i168, .str y170]) fun h171 =>
  (loadN 4 h171 (pv h.n 0)).bind fun c172 =>
  some (.agg c172, h171)
  else none)
  (vcase (bv (i114 == 3))
  ((call Ev Fn.spec_l1Next [pv a0_b a0_o, iv .i64 3] ((tidy h111 [p112.1] p112.2).new 1 [.str (⟨#[65]⟩), .str (⟨#[97, 98, 99, 100, 101, 102, 103, 104, 105]⟩), .str (⟨#[97, 32, 98]⟩)])).bind fun p132 =>
  gV1 p132.1 fun x133 =>
  gI .i64 x133 fun i134 =>
  idxK 1 (sv ((tidy h111 [p112.1] p112.2).n) 0 3) (iv .i64 i134) fun v135 =>
  ldK (.one (.s)) ⟨1, 16, [.str ⟨#[]⟩], false, .str, false⟩ (tidy ((tidy h111 [p112.1] p112.2).new 1 [.str (⟨#[65]⟩), .str (⟨#[97, 98, 99, 100, 101, 102, 103, 104, 105]⟩), .str (⟨#[97, 32, 98]⟩)]) [p132.1] p132.2) v135 fun v136 =>
  gV1 v136 fun x137 =>
  gS x137 fun y138 =>
  stK 1 (tidy ((tidy h111 [p112.1] p112.2).new 1 [.str (⟨#[65]⟩), .str (⟨#[97, 98, 99, 100, 101, 102, 103, 104, 105]⟩), .str (⟨#[97, 32, 98]⟩)]) [p132.1] p132.2) (pv ((tidy (h.new 0 [.int .i64 0, .int .i64 0, .int .i64 0, .str (⟨#[]⟩)]) [p101.1] p101.2).n) 3) (.s (.str y138)) fun h139 =>
  (loadN 4 h139 (pv ((tidy (h.new 0 [.int .i64 0, .int .i64 0, .int .i64 0, .str (⟨#[]⟩)]) [p101.1] p101.2).n) 0)).bind fun c173 =>
  (c173[0]?).bind fun x174 =>
  gI .i64 x174 fun i175 =>
  (c173[1]?).bind fun x176 =>
  gI .i64 x176 fun i177 =>
  (c173[2]?).bind fun x178 =>
  gI .i64 x178 fun i179 =>
  (c173[3]?).bind fun x180 =>
  gS x180 fun y181 =>
  if c173.length = 4 then
  stK 4 h139 (pv h.n 0) (.agg [.int .i64 i175, .int .i64 i177, .int .i64 i179, .str y181]) fun h182 =>
  (loadN 4 h182 (pv h.n 0)).bind fun c183 =>
  some (.agg c183, h182)
  else none)
  ((loadN 4 (tidy h111 [p112.1] p112.2) (pv ((tidy (h.new 0 [.int .i64 0, .int .i64 0, .int .i64 0, .str (⟨#[]⟩)]) [p101.1] p101.2).n) 0)).bind fun c184 =>
  (c184[0]?).bind fun x185 =>
  gI .i64 x185 fun i186 =>
  (c184[1]?).bind fun x187 =>
  gI .i64 x187 fun i188 =>
  (c184[2]?).bind fun x189 =>
  gI .i64 x189 fun i190 =>
  (c184[3]?).bind fun x191 =>
  gS x191 fun y192 =>
  if c184.length = 4 then
  stK 4 (tidy h111 [p112.1] p112.2) (pv h.n 0) (.agg [.int .i64 i186, .int .i64 i188, .int .i64 i190, .str y192]) fun h193 =>
  (loadN 4 h193 (pv h.n 0)).bind fun c194 =>
  some (.agg c194, h193)
  else none))))
  else none := by
  rw [call_eq]; kernel_rfl

theorem eq_spec_l6BentRows (a0_b a0_o : Nat) (h : H) : call Ev Fn.spec_l6BentRows [pv a0_b a0_o] h =
  (call Ev Fn.spec_l6DrawRows [pv a0_b a0_o] h).bind fun p101 =>
  (call Ev Fn.spec_l1Next [pv a0_b a0_o, iv .i64 10] (tidy h [p101.1] p101.2)).bind fun p102 =>
  gV1 p102.1 fun x103 =>
  gI .i64 x103 fun i104 =>
  vcase (bv (i104 == 0))
  ((call Ev Fn.spec_l1Bent [pv a0_b a0_o] (tidy (tidy h [p101.1] p101.2) [p102.1] p102.2)).bind fun p107 =>
  gVA p107.1 fun c108 =>
  (c108[0]?).bind fun x109 =>
  gI .i64 x109 fun i110 =>
  (c108[1]?).bind fun x111 =>
  gI .i64 x111 fun i112 =>
  (c108[2]?).bind fun x113 =>
  gI .i64 x113 fun i114 =>
  (c108[3]?).bind fun x115 =>
  gS x115 fun y116 =>
  if c108.length = 4 then
  (appS 4 ((tidy (tidy (tidy h [p101.1] p101.2) [p102.1] p102.2) [p107.1] p107.2).new 4 [.int .i64 i110, .int .i64 i112, .int .i64 i114, .str y116]) p101.1 (sv ((tidy (tidy (tidy h [p101.1] p101.2) [p102.1] p102.2) [p107.1] p107.2).n) 0 1)).bind fun p117 =>
  some (p117.1, p117.2)
  else none)
  (vcase (bv (i104 == 1))
  ((mkSl 4 [.int .i64 0, .int .i64 0, .int .i64 0, .str ⟨#[]⟩] (tidy (tidy h [p101.1] p101.2) [p102.1] p102.2) (iv .i64 61) (iv .i64 61)).bind fun p119 =>
  some (p119.1, p119.2))
  (some (p101.1, tidy (tidy h [p101.1] p101.2) [p102.1] p102.2))) := by
  rw [call_eq]; kernel_rfl

theorem eq_spec_l1Chance (a0_b a0_o : Nat) (a1 : Int) (h : H) : call Ev Fn.spec_l1Chance [pv a0_b a0_o, iv .i64 a1] h =
  (call Ev Fn.spec_l1Next [pv a0_b a0_o, iv .i64 a1] h).bind fun p101 =>
  gV1 p101.1 fun x102 =>
  gI .i64 x102 fun i103 =>
  some (bv (i103 == 0), tidy h [p101.1] p101.2) := by
  rw [call_eq]; kernel_rfl

noncomputable def Jn.spec_DrawChangesOf_0 (q133 : Bool) (h102 : H) (p103 : V × H) (p104 : V × H) (v101 : V) : Option (V × H) :=
  vcase (bv q133)
  (slK 4 ((tidy (tidy h102 [p103.1] p103.2) [p104.1] p104.2).new 4 []) p103.1 (some (iv .i64 1)) none fun v135 =>
  (appS 4 ((tidy (tidy h102 [p103.1] p103.2) [p104.1] p104.2).new 4 []) (sv ((tidy (tidy h102 [p103.1] p103.2) [p104.1] p104.2).n) 0 0) v135).bind fun p136 =>
  (lenV (.sl 39) p136.1).bind fun v137 =>
  gV1 v137 fun x138 =>
  gI .i64 x138 fun i139 =>
  vcase (bv (decide (i139 > 0)))
  ((call Ev Fn.spec_l1Next [v101, iv .i64 9] p136.2).bind fun p141 =>
  gV1 p141.1 fun x142 =>
  gI .i64 x142 fun i143 =>
  idxK 4 p136.1 (iv .i64 0) fun v144 =>
  (padd 2 v144).bind fun v145 =>
  stK 1 (tidy p136.2 [p141.1] p141.2) v145 (iv .i64 i143) fun h146 =>
  (V.toA p103.1).bind fun t147 =>
  (V.toA p136.1).bind fun t148 =>
  some (.tup [t147, t148], h146))
  ((V.toA p103.1).bind fun t149 =>
  (V.toA p136.1).bind fun t150 =>
  some (.tup [t149, t150], p136.2)))
  ((call Ev Fn.spec_l6BentRows [v101] (tidy (tidy h102 [p103.1] p103.2) [p104.1] p104.2)).bind fun p151 =>
  (V.toA p103.1).bind fun t152 =>
  (V.toA p151.1).bind fun t153 =>
  some (.tup [t152, t153], tidy (tidy (tidy h102 [p103.1] p103.2) [p104.1] p104.2) [p151.1] p151.2))

theorem eq_spec_DrawChangesOf (a0 : List (List S)) (n : Nat) : call Ev Fn.spec_DrawChangesOf [lv a0] (D n) =
  pcallF (call Ev) Fn.spec_l1Source true [lv a0] (D n) fun v101 h102 =>
  (call Ev Fn.spec_l6BentRows [v101] h102).bind fun p103 =>
  (call Ev Fn.spec_l1Chance [v101, iv .i64 2] (tidy h102 [p103.1] p103.2)).bind fun p104 =>
  gV1 p104.1 fun x105 =>
  gB x105 fun q106 =>
  vcase (bv q106)
  ((lenV (.sl 39) p103.1).bind fun v108 =>
  gV1 v108 fun x109 =>
  gI .i64 x109 fun i110 =>
  Jn.spec_DrawChangesOf_0 (decide (i110 > 0)) h102 p103 p104 v101)
  (Jn.spec_DrawChangesOf_0 false h102 p103 p104 v101) := by
  rw [call_eq]; kernel_rfl

theorem pu_impl_in (a0 : Int) (a1 : Int) (a2 : Int) : pureV (call Ev) Fn.impl_in [iv .i64 a0, iv .i64 a1, iv .i64 a2] =
  vcase (bv (decide (a0 ≥ a1)))
  (some (bv (decide (a0 ≤ a2))))
  (some (bv false)) := by
  rw [pure_eq]; kernel_rfl

theorem pu_impl_RowFault (a0_0 : Int) (a0_1 : Int) (a0_2 : Int) (a0_3 : ByteArray) : pureV (call Ev) Fn.impl_RowFault [.agg [.int .i64 a0_0, .int .i64 a0_1, .int .i64 a0_2, .str a0_3]] =
  pcallS (call Ev) Fn.impl_in [iv .i64 a0_0, iv .i64 0, iv .i64 3] fun v101 =>
  gV1 v101 fun x102 =>
  gB x102 fun q103 =>
  vcase (bv (!q103))
  (some (iv .i64 3))
  (pcallS (call Ev) Fn.impl_in [iv .i64 a0_1, iv .i64 1, iv .i64 99] fun v106 =>
  gV1 v106 fun x107 =>
  gB x107 fun q108 =>
  vcase (bv (!q108))
  (some (iv .i64 3))
  (pcallS (call Ev) Fn.impl_in [iv .i64 a0_2, iv .i64 0, iv .i64 999] fun v114 =>
  gV1 v114 fun x115 =>
  gB x115 fun q116 =>
  vcase (bv (!q116))
  (some (iv .i64 3))
  (vcase (bv (decide (((a0_3 : ByteArray).size : Int) > 8)))
  (some (iv .i64 5))
  ((Lp.impl_RowFault 0 [pv 0 0, iv .i64 ((a0_3 : ByteArray).size : Int), iv .i64 0] ((D 0).new 0 [.int .i64 a0_0, .int .i64 a0_1, .int .i64 a0_2, .str a0_3])).bind fun o121 => lcase o121 (fun l122 h123 =>
  some (iv .i64 0)) (fun v124 h125 =>
  frzV h125 v124))))) := by
  rw [pure_eq]; kernel_rfl

theorem eq_impl_RowFault_l0 (s1 : V) (s26 : Int) (s27 : Int) (h : H) : Lp.impl_RowFault 0 [s1, iv .i64 s26, iv .i64 s27] h =
  vcase (bv (decide (s27 < s26)))
  ((padd 3 s1).bind fun v203 =>
  ldK (.one (.s)) ⟨1, 16, [.str ⟨#[]⟩], false, .str, false⟩ h v203 fun v204 =>
  gV1 v204 fun x205 =>
  gS x205 fun y206 =>
  (idxStr (.s (.str y206)) (iv .i64 s27)).bind fun v207 =>
  gV1 v207 fun x208 =>
  gI .u8 x208 fun i209 =>
  vcase (bv (decide (i209 < 97)))
  (some (.ret (iv .i64 5) h))
  ((padd 3 s1).bind fun v212 =>
  ldK (.one (.s)) ⟨1, 16, [.str ⟨#[]⟩], false, .str, false⟩ h v212 fun v213 =>
  gV1 v213 fun x214 =>
  gS x214 fun y215 =>
  (idxStr (.s (.str y215)) (iv .i64 s27)).bind fun v216 =>
  gV1 v216 fun x217 =>
  gI .u8 x217 fun i218 =>
  vcase (bv (decide (i218 > 122)))
  (some (.ret (iv .i64 5) h))
  (Lp.impl_RowFault 0 [s1, iv .i64 s26, iv .i64 (IntKind.i64.wrap (s27 + 1))] (tidy h [s1, iv .i64 s26, iv .i64 (IntKind.i64.wrap (s27 + 1))] h))))
  (some (.done [] (tidy h [] h))) := by
  unfold Lp.impl_RowFault; rw [loop_eq]; kernel_rfl

theorem pu_impl_IsBefore (a0_0 : Int) (a0_1 : Int) (a0_2 : Int) (a0_3 : ByteArray) (a1_0 : Int) (a1_1 : Int) (a1_2 : Int) (a1_3 : ByteArray) : pureV (call Ev) Fn.impl_IsBefore [.agg [.int .i64 a0_0, .int .i64 a0_1, .int .i64 a0_2, .str a0_3], .agg [.int .i64 a1_0, .int .i64 a1_1, .int .i64 a1_2, .str a1_3]] =
  vcase (bv (decide (a0_0 < a1_0)))
  (some (bv true))
  (vcase (bv (a0_0 == a1_0))
  (some (bv (decide (a0_1 < a1_1))))
  (some (bv false))) := by
  rw [pure_eq]; kernel_rfl

theorem pu_impl_RowsFault (a0 : List (List S)) : pureV (call Ev) Fn.impl_RowsFault [lv a0] =
  vcase (bv (decide ((a0.length : Int) > 60)))
  (some (iv .i64 2))
  ((Lp.impl_RowsFault 0 [lv a0, lv a0, iv .i64 (a0.length : Int), iv .i64 0] (D 0)).bind fun o102 => lcase o102 (fun l103 h104 =>
  some (iv .i64 0)) (fun v105 h106 =>
  frzV h106 v105)) := by
  rw [pure_eq]; kernel_rfl

theorem eq_impl_RowsFault_l0 (s0 : List (List S)) (s9 : List (List S)) (s10 : Int) (s11 : Int) (h : H) : Lp.impl_RowsFault 0 [lv s0, lv s9, iv .i64 s10, iv .i64 s11] h =
  vcase (bv (decide (s11 < s10)))
  (idxF 4 s9 s11 fun r203 =>
  (rowN 4 r203 0).bind fun c204 =>
  (c204[0]?).bind fun x205 =>
  gI .i64 x205 fun i206 =>
  (c204[1]?).bind fun x207 =>
  gI .i64 x207 fun i208 =>
  (c204[2]?).bind fun x209 =>
  gI .i64 x209 fun i210 =>
  (c204[3]?).bind fun x211 =>
  gS x211 fun y212 =>
  if c204.length = 4 then
  stK 4 (h.new 0 [.int .i64 0, .int .i64 0, .int .i64 0, .str (⟨#[]⟩)]) (pv h.n 0) (.agg [.int .i64 i206, .int .i64 i208, .int .i64 i210, .str y212]) fun h213 =>
  (loadN 4 h213 (pv h.n 0)).bind fun c214 =>
  (c214[0]?).bind fun x215 =>
  gI .i64 x215 fun i216 =>
  (c214[1]?).bind fun x217 =>
  gI .i64 x217 fun i218 =>
  (c214[2]?).bind fun x219 =>
  gI .i64 x219 fun i220 =>
  (c214[3]?).bind fun x221 =>
  gS x221 fun y222 =>
  if c214.length = 4 then
  pcallS (call Ev) Fn.impl_RowFault [.agg [.int .i64 i216, .int .i64 i218, .int .i64 i220, .str y222]] fun v223 =>
  gV1 v223 fun x224 =>
  gI .i64 x224 fun i225 =>
  vcase (bv (i225 != 0))
  (some (.ret (iv .i64 i225) h213))
  (vcase (bv (decide (s11 > 0)))
  (idxF 4 s0 (IntKind.i64.wrap (s11 - 1)) fun r228 =>
  (rowN 4 r228 0).bind fun c229 =>
  (c229[0]?).bind fun x230 =>
  gI .i64 x230 fun i231 =>
  (c229[1]?).bind fun x232 =>
  gI .i64 x232 fun i233 =>
  (c229[2]?).bind fun x234 =>
  gI .i64 x234 fun i235 =>
  (c229[3]?).bind fun x236 =>
  gS x236 fun y237 =>
  if c229.length = 4 then
  (loadN 4 h213 (pv h.n 0)).bind fun c238 =>
  (c238[0]?).bind fun x239 =>
  gI .i64 x239 fun i240 =>
  (c238[1]?).bind fun x241 =>
  gI .i64 x241 fun i242 =>
  (c238[2]?).bind fun x243 =>
  gI .i64 x243 fun i244 =>
  (c238[3]?).bind fun x245 =>
  gS x245 fun y246 =>
  if c238.length = 4 then
  pcallS (call Ev) Fn.impl_IsBefore [.agg [.int .i64 i231, .int .i64 i233, .int .i64 i235, .str y237], .agg [.int .i64 i240, .int .i64 i242, .int .i64 i244, .str y246]] fun v247 =>
  gV1 v247 fun x248 =>
  gB x248 fun q249 =>
  hchk h213 h213 (
  vcase (bv (!q249))
  (some (.ret (iv .i64 1) h213))
  (Lp.impl_RowsFault 0 [lv s0, lv s9, iv .i64 s10, iv .i64 (IntKind.i64.wrap (s11 + 1))] (tidy h [lv s0, lv s9, iv .i64 s10, iv .i64 (IntKind.i64.wrap (s11 + 1))] h213)))
  else none
  else none)
  (hchk h213 h213 (
  Lp.impl_RowsFault 0 [lv s0, lv s9, iv .i64 s10, iv .i64 (IntKind.i64.wrap (s11 + 1))] (tidy h [lv s0, lv s9, iv .i64 s10, iv .i64 (IntKind.i64.wrap (s11 + 1))] h213))))
  else none
  else none)
  (some (.done [] (tidy h [] h))) := by
  unfold Lp.impl_RowsFault; rw [loop_eq]; kernel_rfl

theorem pu_impl_order (a0_0 : Int) (a0_1 : Int) (a0_2 : Int) (a0_3 : ByteArray) (a1_0 : Int) (a1_1 : Int) (a1_2 : Int) (a1_3 : ByteArray) : pureV (call Ev) Fn.impl_order [.agg [.int .i64 a0_0, .int .i64 a0_1, .int .i64 a0_2, .str a0_3], .agg [.int .i64 a1_0, .int .i64 a1_1, .int .i64 a1_2, .str a1_3]] =
  pcallS (call Ev) Fn.impl_IsBefore [.agg [.int .i64 a0_0, .int .i64 a0_1, .int .i64 a0_2, .str a0_3], .agg [.int .i64 a1_0, .int .i64 a1_1, .int .i64 a1_2, .str a1_3]] fun v102 =>
  gV1 v102 fun x103 =>
  gB x103 fun q104 =>
  vcase (bv q104)
  (some (iv .i64 (-1)))
  (pcallS (call Ev) Fn.impl_IsBefore [.agg [.int .i64 a1_0, .int .i64 a1_1, .int .i64 a1_2, .str a1_3], .agg [.int .i64 a0_0, .int .i64 a0_1, .int .i64 a0_2, .str a0_3]] fun v106 =>
  gV1 v106 fun x107 =>
  gB x107 fun q108 =>
  vcase (bv q108)
  (some (iv .i64 1))
  (some (iv .i64 0))) := by
  rw [pure_eq]; kernel_rfl

theorem eq_impl_between (a0 : List (List S)) (a1 : List (List S)) (n : Nat) : call Ev Fn.impl_between [lv a0, lv a1] (D n) =
  (Lp.impl_between 0 [lv a0, lv a1, .s (.sl none 0)] (D n)).bind fun o101 => lcase o101 (fun l102 h103 =>
  (l102[0]?).bind fun w106 =>
  some (w106, h103)) (fun v104 h105 =>
  some (v104, h105)) := by
  rw [call_eq]; kernel_rfl

noncomputable def Jn.impl_between_l0_0 (q790 : Bool) (h759 : H) (h : H) (s5 : V) (w744 : V) (v760 : V) : Option (LOut) :=
  vcase (bv q790)
  ((loadN 10 h759 (pv h.n 0)).bind fun c792 =>
  (c792[0]?).bind fun x793 =>
  gB x793 fun q794 =>
  (c792[1]?).bind fun x795 =>
  gI .i64 x795 fun i796 =>
  (c792[2]?).bind fun x797 =>
  gI .i64 x797 fun i798 =>
  (c792[3]?).bind fun x799 =>
  gI .i64 x799 fun i800 =>
  (c792[4]?).bind fun x801 =>
  gS x801 fun y802 =>
  (c792[5]?).bind fun x803 =>
  gB x803 fun q804 =>
  (c792[6]?).bind fun x805 =>
  gI .i64 x805 fun i806 =>
  (c792[7]?).bind fun x807 =>
  gI .i64 x807 fun i808 =>
  (c792[8]?).bind fun x809 =>
  gI .i64 x809 fun i810 =>
  (c792[9]?).bind fun x811 =>
  gS x811 fun y812 =>
  if c792.length = 10 then
  (appS 10 (h759.new 10 [.bool q794, .int .i64 i796, .int .i64 i798, .int .i64 i800, .str y802, .bool q804, .int .i64 i806, .int .i64 i808, .int .i64 i810, .str y812]) s5 (sv h759.n 0 1)).bind fun p813 =>
  Lp.impl_between 0 [w744, v760, p813.1] (tidy h [w744, v760, p813.1] p813.2)
  else none)
  (Lp.impl_between 0 [w744, v760, s5] (tidy h [w744, v760, s5] h759))

noncomputable def Jn.impl_between_l0_1 (q768 : Bool) (h759 : H) (h : H) (s5 : V) (w744 : V) (v760 : V) : Option (LOut) :=
  vcase (bv q768)
  (Jn.impl_between_l0_0 true h759 h s5 w744 v760)
  ((loadN 4 h759 (pv h.n 1)).bind fun c771 =>
  (c771[0]?).bind fun x772 =>
  gI .i64 x772 fun i773 =>
  (c771[1]?).bind fun x774 =>
  gI .i64 x774 fun i775 =>
  (c771[2]?).bind fun x776 =>
  gI .i64 x776 fun i777 =>
  (c771[3]?).bind fun x778 =>
  gS x778 fun y779 =>
  if c771.length = 4 then
  (loadN 4 h759 (pv h.n 6)).bind fun c780 =>
  (c780[0]?).bind fun x781 =>
  gI .i64 x781 fun i782 =>
  (c780[1]?).bind fun x783 =>
  gI .i64 x783 fun i784 =>
  (c780[2]?).bind fun x785 =>
  gI .i64 x785 fun i786 =>
  (c780[3]?).bind fun x787 =>
  gS x787 fun y788 =>
  if c780.length = 4 then
  Jn.impl_between_l0_0 (!(((i773 : Int) == i782) && (((i775 : Int) == i784) && (((i777 : Int) == i786) && (((y779 : ByteArray).toList == (y788 : ByteArray).toList) && true))))) h759 h s5 w744 v760
  else none
  else none)

noncomputable def Jn.impl_between_l0_2 (w744 : V) (h745 : H) (i728 : Int) (s1 : V) (h : H) (s5 : V) : Option (LOut) :=
  vcase (bv (decide (i728 ≥ 0)))
  (idxK 4 s1 (iv .i64 0) fun v747 =>
  ldK (.agg [.i .i64, .i .i64, .i .i64, .s]) ⟨4, 40, [.int .i64 0, .int .i64 0, .int .i64 0, .str ⟨#[]⟩], true, .st [(0, 2), (1, 2), (2, 2), (3, 9)], true⟩ (h745.put h.n .dead) v747 fun v748 =>
  gVA v748 fun c749 =>
  (c749[0]?).bind fun x750 =>
  gI .i64 x750 fun i751 =>
  (c749[1]?).bind fun x752 =>
  gI .i64 x752 fun i753 =>
  (c749[2]?).bind fun x754 =>
  gI .i64 x754 fun i755 =>
  (c749[3]?).bind fun x756 =>
  gS x756 fun y757 =>
  if c749.length = 4 then
  stK 1 h745 (pv h.n 5) (bv true) fun h758 =>
  hchk (h745.put h.n .dead) h758 (
  stK 4 h758 (pv h.n 6) (.agg [.int .i64 i751, .int .i64 i753, .int .i64 i755, .str y757]) fun h759 =>
  hchk (h745.put h.n .dead) h759 (
  slK 4 h759 s1 (some (iv .i64 1)) none fun v760 =>
  (load1 h759 (pv h.n 0)).bind fun x761 =>
  gB x761 fun q762 =>
  vcase (bv (!q762))
  (Jn.impl_between_l0_1 true h759 h s5 w744 v760)
  ((load1 h759 (pv h.n 5)).bind fun x765 =>
  gB x765 fun q766 =>
  Jn.impl_between_l0_1 (!q766) h759 h s5 w744 v760)))
  else none)
  ((load1 h745 (pv h.n 0)).bind fun x814 =>
  gB x814 fun q815 =>
  vcase (bv (!q815))
  (Jn.impl_between_l0_1 true h745 h s5 w744 s1)
  ((load1 h745 (pv h.n 5)).bind fun x818 =>
  gB x818 fun q819 =>
  Jn.impl_between_l0_1 (!q819) h745 h s5 w744 s1))

noncomputable def Jn.impl_between_l0_3 (i728 : Int) (s0 : V) (h : H) (s1 : V) (s5 : V) : Option (LOut) :=
  vcase (bv (decide (i728 ≤ 0)))
  (idxK 4 s0 (iv .i64 0) fun v730 =>
  ldK (.agg [.i .i64, .i .i64, .i .i64, .s]) ⟨4, 40, [.int .i64 0, .int .i64 0, .int .i64 0, .str ⟨#[]⟩], true, .st [(0, 2), (1, 2), (2, 2), (3, 9)], true⟩ ((h.new 0 [.bool false, .int .i64 0, .int .i64 0, .int .i64 0, .str (⟨#[]⟩), .bool false, .int .i64 0, .int .i64 0, .int .i64 0, .str (⟨#[]⟩)]).put h.n .dead) v730 fun v731 =>
  gVA v731 fun c732 =>
  (c732[0]?).bind fun x733 =>
  gI .i64 x733 fun i734 =>
  (c732[1]?).bind fun x735 =>
  gI .i64 x735 fun i736 =>
  (c732[2]?).bind fun x737 =>
  gI .i64 x737 fun i738 =>
  (c732[3]?).bind fun x739 =>
  gS x739 fun y740 =>
  if c732.length = 4 then
  stK 1 (h.new 0 [.bool false, .int .i64 0, .int .i64 0, .int .i64 0, .str (⟨#[]⟩), .bool false, .int .i64 0, .int .i64 0, .int .i64 0, .str (⟨#[]⟩)]) (pv h.n 0) (bv true) fun h741 =>
  hchk ((h.new 0 [.bool false, .int .i64 0, .int .i64 0, .int .i64 0, .str (⟨#[]⟩), .bool false, .int .i64 0, .int .i64 0, .int .i64 0, .str (⟨#[]⟩)]).put h.n .dead) h741 (
  stK 4 h741 (pv h.n 1) (.agg [.int .i64 i734, .int .i64 i736, .int .i64 i738, .str y740]) fun h742 =>
  hchk ((h.new 0 [.bool false, .int .i64 0, .int .i64 0, .int .i64 0, .str (⟨#[]⟩), .bool false, .int .i64 0, .int .i64 0, .int .i64 0, .str (⟨#[]⟩)]).put h.n .dead) h742 (
  slK 4 h742 s0 (some (iv .i64 1)) none fun v743 =>
  Jn.impl_between_l0_2 v743 h742 i728 s1 h s5))
  else none)
  (Jn.impl_between_l0_2 s0 (h.new 0 [.bool false, .int .i64 0, .int .i64 0, .int .i64 0, .str (⟨#[]⟩), .bool false, .int .i64 0, .int .i64 0, .int .i64 0, .str (⟨#[]⟩)]) i728 s1 h s5)

noncomputable def Jn.impl_between_l0_4 (q691 : Bool) (s0 : V) (s1 : V) (h : H) (s5 : V) : Option (LOut) :=
  vcase (bv q691)
  ((lenV (.sl 39) s0).bind fun v695 =>
  gV1 v695 fun x696 =>
  gI .i64 x696 fun i697 =>
  vcase (bv (i697 == 0))
  (Jn.impl_between_l0_3 1 s0 h s1 s5)
  ((lenV (.sl 39) s1).bind fun v699 =>
  gV1 v699 fun x700 =>
  gI .i64 x700 fun i701 =>
  vcase (bv (i701 == 0))
  (Jn.impl_between_l0_3 (-1) s0 h s1 s5)
  (idxK 4 s0 (iv .i64 0) fun v703 =>
  ldK (.agg [.i .i64, .i .i64, .i .i64, .s]) ⟨4, 40, [.int .i64 0, .int .i64 0, .int .i64 0, .str ⟨#[]⟩], true, .st [(0, 2), (1, 2), (2, 2), (3, 9)], true⟩ h v703 fun v704 =>
  gVA v704 fun c705 =>
  (c705[0]?).bind fun x706 =>
  gI .i64 x706 fun i707 =>
  (c705[1]?).bind fun x708 =>
  gI .i64 x708 fun i709 =>
  (c705[2]?).bind fun x710 =>
  gI .i64 x710 fun i711 =>
  (c705[3]?).bind fun x712 =>
  gS x712 fun y713 =>
  if c705.length = 4 then
  idxK 4 s1 (iv .i64 0) fun v714 =>
  ldK (.agg [.i .i64, .i .i64, .i .i64, .s]) ⟨4, 40, [.int .i64 0, .int .i64 0, .int .i64 0, .str ⟨#[]⟩], true, .st [(0, 2), (1, 2), (2, 2), (3, 9)], true⟩ h v714 fun v715 =>
  gVA v715 fun c716 =>
  (c716[0]?).bind fun x717 =>
  gI .i64 x717 fun i718 =>
  (c716[1]?).bind fun x719 =>
  gI .i64 x719 fun i720 =>
  (c716[2]?).bind fun x721 =>
  gI .i64 x721 fun i722 =>
  (c716[3]?).bind fun x723 =>
  gS x723 fun y724 =>
  if c716.length = 4 then
  pcallS (call Ev) Fn.impl_order [.agg [.int .i64 i707, .int .i64 i709, .int .i64 i711, .str y713], .agg [.int .i64 i718, .int .i64 i720, .int .i64 i722, .str y724]] fun v725 =>
  gV1 v725 fun x726 =>
  gI .i64 x726 fun i727 =>
  hchk h h (
  Jn.impl_between_l0_3 i727 s0 h s1 s5)
  else none
  else none)))
  (some (.done [s5] (tidy h [s5] h)))

theorem eq_impl_between_l0 (s0 : V) (s1 : V) (s5 : V) (h : H) : Lp.impl_between 0 [s0, s1, s5] h =
  (lenV (.sl 39) s0).bind fun v201 =>
  gV1 v201 fun x202 =>
  gI .i64 x202 fun i203 =>
  vcase (bv (decide (i203 > 0)))
  (Jn.impl_between_l0_4 true s0 s1 h s5)
  ((lenV (.sl 39) s1).bind fun v206 =>
  gV1 v206 fun x207 =>
  gI .i64 x207 fun i208 =>
  Jn.impl_between_l0_4 (decide (i208 > 0)) s0 s1 h s5) := by
  unfold Lp.impl_between; rw [loop_eq]; kernel_rfl

theorem eq_impl_ChangesOf (a0 : List (List S)) (a1 : List (List S)) (n : Nat) : call Ev Fn.impl_ChangesOf [lv a0, lv a1] (D n) =
  pcallS (call Ev) Fn.impl_RowsFault [lv a0] fun v101 =>
  gV1 v101 fun x102 =>
  gI .i64 x102 fun i103 =>
  vcase (bv (i103 != 0))
  (stK 2 ((D n).new 0 [.int .i64 0, .sl none 0]) (pv ((D n).n) 0) (.agg [.int .i64 i103, .sl none 0]) fun h105 =>
  (loadN 2 h105 (pv ((D n).n) 0)).bind fun c106 =>
  some (.agg c106, h105))
  (pcallS (call Ev) Fn.impl_RowsFault [lv a1] fun v107 =>
  gV1 v107 fun x108 =>
  gI .i64 x108 fun i109 =>
  vcase (bv (i109 != 0))
  (stK 2 ((D n).new 0 [.int .i64 0, .sl none 0]) (pv ((D n).n) 0) (.agg [.int .i64 i109, .sl none 0]) fun h111 =>
  (loadN 2 h111 (pv ((D n).n) 0)).bind fun c112 =>
  some (.agg c112, h111))
  (pcallF (call Ev) Fn.impl_between true [lv a0, lv a1] ((D n).new 0 [.int .i64 0, .sl none 0]) fun v113 h114 =>
  cellsK v113 fun c115 =>
  if c115.length = 1 ∧ 1 + 1 ≤ ([.int .i64 0, .sl none 0] : List S).length then
  ((setAt ([.int .i64 0, .sl none 0] : List S) 1 c115)[0]?).bind fun x116 =>
  gI .i64 x116 fun i117 =>
  ((setAt ([.int .i64 0, .sl none 0] : List S) 1 c115)[1]?).bind fun x118 =>
  if (setAt ([.int .i64 0, .sl none 0] : List S) 1 c115).length = 2 then
  stK 2 h114 (pv ((D n).n) 0) (.agg [.int .i64 i117, x118]) fun h119 =>
  (loadN 2 h119 (pv ((D n).n) 0)).bind fun c120 =>
  some (.agg c120, h119)
  else none
  else none)) := by
  rw [call_eq]; kernel_rfl

theorem pu_spec_l1In (a0 : Int) (a1 : Int) (a2 : Int) : pureV (call Ev) Fn.spec_l1In [iv .i64 a0, iv .i64 a1, iv .i64 a2] =
  vcase (bv (decide (a0 ≥ a1)))
  (some (bv (decide (a0 ≤ a2))))
  (some (bv false)) := by
  rw [pure_eq]; kernel_rfl

theorem pu_spec_l1Text (a0 : ByteArray) : pureV (call Ev) Fn.spec_l1Text [.s (.str a0)] =
  (Lp.spec_l1Text 0 [.s (.str a0), iv .i64 0] (D 0)).bind fun o101 => lcase o101 (fun l102 h103 =>
  (l102[0]?).bind fun w106 =>
  gV1 w106 fun x107 =>
  gS x107 fun y108 =>
  some (bv (decide (((y108 : ByteArray).size : Int) ≤ 8)))) (fun v104 h105 =>
  frzV h105 v104) := by
  rw [pure_eq]; kernel_rfl

theorem eq_spec_l1Text_l0 (s0 : ByteArray) (s3 : Int) (h : H) : Lp.spec_l1Text 0 [.s (.str s0), iv .i64 s3] h =
  vcase (bv (decide (s3 < ((s0 : ByteArray).size : Int))))
  ((idxStr (.s (.str s0)) (iv .i64 s3)).bind fun v203 =>
  gV1 v203 fun x204 =>
  gI .u8 x204 fun i205 =>
  vcase (bv (decide (i205 < 97)))
  (some (.ret (bv false) h))
  ((idxStr (.s (.str s0)) (iv .i64 s3)).bind fun v208 =>
  gV1 v208 fun x209 =>
  gI .u8 x209 fun i210 =>
  vcase (bv (decide (i210 > 122)))
  (some (.ret (bv false) h))
  (Lp.spec_l1Text 0 [.s (.str s0), iv .i64 (IntKind.i64.wrap (s3 + 1))] (tidy h [.s (.str s0), iv .i64 (IntKind.i64.wrap (s3 + 1))] h))))
  (some (.done [.s (.str s0)] (tidy h [.s (.str s0)] h))) := by
  unfold Lp.spec_l1Text; rw [loop_eq]; kernel_rfl

theorem pu_spec_l1Fault (a0_0 : Int) (a0_1 : Int) (a0_2 : Int) (a0_3 : ByteArray) : pureV (call Ev) Fn.spec_l1Fault [fv [.int .i64 a0_0, .int .i64 a0_1, .int .i64 a0_2, .str a0_3] 0] =
  pcallS (call Ev) Fn.spec_l1In [iv .i64 a0_0, iv .i64 0, iv .i64 3] fun v101 =>
  gV1 v101 fun x102 =>
  gB x102 fun q103 =>
  vcase (bv (!q103))
  (some (iv .i64 3))
  (pcallS (call Ev) Fn.spec_l1In [iv .i64 a0_1, iv .i64 1, iv .i64 99] fun v106 =>
  gV1 v106 fun x107 =>
  gB x107 fun q108 =>
  vcase (bv (!q108))
  (some (iv .i64 3))
  (pcallS (call Ev) Fn.spec_l1In [iv .i64 a0_2, iv .i64 0, iv .i64 999] fun v114 =>
  gV1 v114 fun x115 =>
  gB x115 fun q116 =>
  vcase (bv (!q116))
  (some (iv .i64 3))
  (pcallS (call Ev) Fn.spec_l1Text [.s (.str a0_3)] fun v120 =>
  gV1 v120 fun x121 =>
  gB x121 fun q122 =>
  vcase (bv (!q122))
  (some (iv .i64 5))
  (some (iv .i64 0))))) := by
  rw [pure_eq]; kernel_rfl

theorem pu_spec_l6Rows (a0 : List (List S)) : pureV (call Ev) Fn.spec_l6Rows [lv a0] =
  vcase (bv (decide ((a0.length : Int) > 60)))
  (some (iv .i64 2))
  ((Lp.spec_l6Rows 0 [lv a0, iv .i64 0] (D 0)).bind fun o102 => lcase o102 (fun l103 h104 =>
  some (iv .i64 0)) (fun v105 h106 =>
  frzV h106 v105)) := by
  rw [pure_eq]; kernel_rfl

theorem eq_spec_l6Rows_l0 (s0 : List (List S)) (s3 : Int) (h : H) : Lp.spec_l6Rows 0 [lv s0, iv .i64 s3] h =
  vcase (bv (decide (s3 < (s0.length : Int))))
  (idxF 4 s0 s3 fun r203 =>
  pcallS (call Ev) Fn.spec_l1Fault [normV 4 (fv r203 0)] fun v204 =>
  gV1 v204 fun x205 =>
  gI .i64 x205 fun i206 =>
  vcase (bv (i206 != 0))
  (some (.ret (iv .i64 i206) h))
  (vcase (bv (decide (s3 > 0)))
  (idxF 4 s0 (IntKind.i64.wrap (s3 - 1)) fun r209 =>
  idxF 4 s0 s3 fun r210 =>
  pcallS (call Ev) Fn.spec_l1Before [normV 4 (fv r209 0), normV 4 (fv r210 0)] fun v211 =>
  gV1 v211 fun x212 =>
  gB x212 fun q213 =>
  hchk h h (
  vcase (bv (!q213))
  (some (.ret (iv .i64 1) h))
  (Lp.spec_l6Rows 0 [lv s0, iv .i64 (IntKind.i64.wrap (s3 + 1))] (tidy h [lv s0, iv .i64 (IntKind.i64.wrap (s3 + 1))] h))))
  (hchk h h (
  Lp.spec_l6Rows 0 [lv s0, iv .i64 (IntKind.i64.wrap (s3 + 1))] (tidy h [lv s0, iv .i64 (IntKind.i64.wrap (s3 + 1))] h)))))
  (some (.done [] (tidy h [] h))) := by
  unfold Lp.spec_l6Rows; rw [loop_eq]; kernel_rfl

end Vm
