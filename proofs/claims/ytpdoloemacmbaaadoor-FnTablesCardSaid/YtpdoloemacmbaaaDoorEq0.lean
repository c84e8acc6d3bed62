/-
  What each function, and each round of each loop, comes to in the small machine. Written by a program (gen3.py).
-/
import Derived.Test.YtpdoloemacmbaaaDoorEnv
set_option linter.unusedVariables false
set_option maxRecDepth 100000
namespace Vm
open Go

theorem pu_laws_lwBig (a0 : List (List S)) : pureV (call Ev) Fn.laws_lwBig [lv a0] =
  some (bv (decide ((a0.length : Int) > 1048576))) := by
  rw [pure_eq]; kernel_rfl

theorem eq_spec_l1Source (a0 : List (List S)) (n : Nat) : call Ev Fn.spec_l1Source [lv a0] (D n) =
  some (pv ((D n).n) 0, (D n).new 0 [.fs a0, .int .i64 0]) := by
  rw [call_eq]; kernel_rfl

theorem eq_spec_l1Next (a0_b a0_o : Nat) (a1 : Int) (h : H) : call Ev Fn.spec_l1Next [pv a0_b a0_o, iv .i64 a1] h =
  (load1 h (pv a0_b (a0_o + 1))).bind fun x101 =>
  gI .i64 x101 fun i102 =>
  stK 1 h (pv a0_b (a0_o + 1)) (iv .i64 (IntKind.i64.wrap (i102 + 1))) fun h103 =>
  vcase (bv (decide (a1 < 1)))
  (some (iv .i64 0, h103))
  ((load1 h103 (pv a0_b (a0_o + 1))).bind fun x105 =>
  gI .i64 x105 fun i106 =>
  (load1 h103 (pv a0_b (a0_o + 0))).bind fun x107 =>
  (lenV (.sl 5) (.s x107)).bind fun v108 =>
  gV1 v108 fun x109 =>
  gI .i64 x109 fun i110 =>
  vcase (bv (i110 == 0))
  ((bin Ev .rem 2 (iv .i64 (IntKind.i64.wrap ((IntKind.i64.wrap (i106 - 1)) * 7))) (iv .i64 a1)).bind fun b112 =>
  gV1 b112 fun x113 =>
  gI .i64 x113 fun i114 =>
  some (iv .i64 i114, h103))
  ((load1 h103 (pv a0_b (a0_o + 0))).bind fun x115 =>
  (bin Ev .rem 2 (iv .i64 (IntKind.i64.wrap (i106 - 1))) (iv .i64 i110)).bind fun b116 =>
  gV1 b116 fun x117 =>
  gI .i64 x117 fun i118 =>
  idxK 1 (.s x115) (iv .i64 i118) fun v119 =>
  ldK (.one (.i .u8)) ⟨1, 1, [.int .u8 0], false, .int .u8, false⟩ h103 v119 fun v120 =>
  gV1 v120 fun x121 =>
  gI .u8 x121 fun i122 =>
  (bin Ev .quo 2 (iv .i64 (IntKind.i64.wrap (i106 - 1))) (iv .i64 i110)).bind fun b123 =>
  gV1 b123 fun x124 =>
  gI .i64 x124 fun i125 =>
  vcase (bv (decide (a1 > 200)))
  ((load1 h103 (pv a0_b (a0_o + 0))).bind fun x127 =>
  (bin Ev .rem 2 (iv .i64 (IntKind.i64.wrap ((IntKind.i64.wrap (i106 - 1)) + 1))) (iv .i64 i110)).bind fun b128 =>
  gV1 b128 fun x129 =>
  gI .i64 x129 fun i130 =>
  idxK 1 (.s x127) (iv .i64 i130) fun v131 =>
  ldK (.one (.i .u8)) ⟨1, 1, [.int .u8 0], false, .int .u8, false⟩ h103 v131 fun v132 =>
  gV1 v132 fun x133 =>
  gI .u8 x133 fun i134 =>
  (bin Ev .rem 2 (iv .i64 (IntKind.i64.wrap ((IntKind.i64.wrap ((IntKind.i64.wrap ((IntKind.i64.wrap ((IntKind.i64.wrap i122) + (IntKind.i64.wrap (i125 * 37)))) * 251)) + (IntKind.i64.wrap ((IntKind.i64.wrap i134) * 13)))) + (IntKind.i64.wrap (i106 - 1))))) (iv .i64 a1)).bind fun b135 =>
  gV1 b135 fun x136 =>
  gI .i64 x136 fun i137 =>
  some (iv .i64 i137, h103))
  ((bin Ev .rem 2 (iv .i64 (IntKind.i64.wrap ((IntKind.i64.wrap i122) + (IntKind.i64.wrap (i125 * 37))))) (iv .i64 a1)).bind fun b138 =>
  gV1 b138 fun x139 =>
  gI .i64 x139 fun i140 =>
  some (iv .i64 i140, h103)))) := by
  rw [call_eq]; kernel_rfl

theorem eq_spec_l1Pick (a0_b a0_o : Nat) (a1 : V) (h : H) : call Ev Fn.spec_l1Pick [pv a0_b a0_o, a1] h =
  (lenV (.sl 2) a1).bind fun v101 =>
  gV1 v101 fun x102 =>
  gI .i64 x102 fun i103 =>
  (call Ev Fn.spec_l1Next [pv a0_b a0_o, iv .i64 i103] h).bind fun p104 =>
  gV1 p104.1 fun x105 =>
  gI .i64 x105 fun i106 =>
  idxK 1 a1 (iv .i64 i106) fun v107 =>
  ldK (.one (.i .i64)) ⟨1, 8, [.int .i64 0], false, .int .i64, false⟩ (tidy h [p104.1] p104.2) v107 fun v108 =>
  gV1 v108 fun x109 =>
  gI .i64 x109 fun i110 =>
  some (iv .i64 i110, tidy h [p104.1] p104.2) := by
  rw [call_eq]; kernel_rfl

theorem eq_spec_l1Draw (a0_b a0_o : Nat) (h : H) : call Ev Fn.spec_l1Draw [pv a0_b a0_o] h =
  (call Ev Fn.spec_l1Next [pv a0_b a0_o, iv .i64 3] (h.new 0 [.int .i64 0, .int .i64 0, .int .i64 0, .str (⟨#[]⟩)])).bind fun p101 =>
  gV1 p101.1 fun x102 =>
  gI .i64 x102 fun i103 =>
  (call Ev Fn.spec_l1Next [pv a0_b a0_o, iv .i64 6] (tidy (h.new 0 [.int .i64 0, .int .i64 0, .int .i64 0, .str (⟨#[]⟩)]) [p101.1] p101.2)).bind fun p104 =>
  gV1 p104.1 fun x105 =>
  gI .i64 x105 fun i106 =>
  (call Ev Fn.spec_l1Next [pv a0_b a0_o, iv .i64 9] (tidy (tidy (h.new 0 [.int .i64 0, .int .i64 0, .int .i64 0, .str (⟨#[]⟩)]) [p101.1] p101.2) [p104.1] p104.2)).bind fun p107 =>
  gV1 p107.1 fun x108 =>
  gI .i64 x108 fun i109 =>
  (call Ev Fn.spec_l1Pick [pv a0_b a0_o, sv ((tidy (tidy (tidy (h.new 0 [.int .i64 0, .int .i64 0, .int .i64 0, .str (⟨#[]⟩)]) [p101.1] p101.2) [p104.1] p104.2) [p107.1] p107.2).n) 0 3] ((tidy (tidy (tidy (h.new 0 [.int .i64 0, .int .i64 0, .int .i64 0, .str (⟨#[]⟩)]) [p101.1] p101.2) [p104.1] p104.2) [p107.1] p107.2).new 1 [.int .i64 i109, .int .i64 300, .int .i64 999])).bind fun p110 =>
  gV1 p110.1 fun x111 =>
  gI .i64 x111 fun i112 =>
  (call Ev Fn.spec_l1Next [pv a0_b a0_o, iv .i64 4] ((tidy ((tidy (tidy (tidy (h.new 0 [.int .i64 0, .int .i64 0, .int .i64 0, .str (⟨#[]⟩)]) [p101.1] p101.2) [p104.1] p104.2) [p107.1] p107.2).new 1 [.int .i64 i109, .int .i64 300, .int .i64 999]) [p110.1] p110.2).new 1 [.str (⟨#[]⟩), .str (⟨#[97]⟩), .str (⟨#[97, 98, 99]⟩), .str (⟨#[97, 98, 99, 100, 101, 102, 103, 104]⟩)])).bind fun p113 =>
  gV1 p113.1 fun x114 =>
  gI .i64 x114 fun i115 =>
  idxK 1 (sv ((tidy ((tidy (tidy (tidy (h.new 0 [.int .i64 0, .int .i64 0, .int .i64 0, .str (⟨#[]⟩)]) [p101.1] p101.2) [p104.1] p104.2) [p107.1] p107.2).new 1 [.int .i64 i109, .int .i64 300, .int .i64 999]) [p110.1] p110.2).n) 0 4) (iv .i64 i115) fun v116 =>
  ldK (.one (.s)) ⟨1, 16, [.str ⟨#[]⟩], false, .str, false⟩ (tidy ((tidy ((tidy (tidy (tidy (h.new 0 [.int .i64 0, .int .i64 0, .int .i64 0, .str (⟨#[]⟩)]) [p101.1] p101.2) [p104.1] p104.2) [p107.1] p107.2).new 1 [.int .i64 i109, .int .i64 300, .int .i64 999]) [p110.1] p110.2).new 1 [.str (⟨#[]⟩), .str (⟨#[97]⟩), .str (⟨#[97, 98, 99]⟩), .str (⟨#[97, 98, 99, 100, 101, 102, 103, 104]⟩)]) [p113.1] p113.2) v116 fun v117 =>
  gV1 v117 fun x118 =>
  gS x118 fun y119 =>
  stK 4 (tidy ((tidy ((tidy (tidy (tidy (h.new 0 [.int .i64 0, .int .i64 0, .int .i64 0, .str (⟨#[]⟩)]) [p101.1] p101.2) [p104.1] p104.2) [p107.1] p107.2).new 1 [.int .i64 i109, .int .i64 300, .int .i64 999]) [p110.1] p110.2).new 1 [.str (⟨#[]⟩), .str (⟨#[97]⟩), .str (⟨#[97, 98, 99]⟩), .str (⟨#[97, 98, 99, 100, 101, 102, 103, 104]⟩)]) [p113.1] p113.2) (pv h.n 0) (.agg [.int .i64 i103, .int .i64 (IntKind.i64.wrap (1 + i106)), .int .i64 i112, .str y119]) fun h120 =>
  (loadN 4 h120 (pv h.n 0)).bind fun c121 =>
  some (.agg c121, h120) := by
  rw [call_eq]; kernel_rfl

theorem eq_spec_l1Bent (a0_b a0_o : Nat) (h : H) : call Ev Fn.spec_l1Bent [pv a0_b a0_o] h =
  (call Ev Fn.spec_l1Draw [pv a0_b a0_o] (h.new 0 [.int .i64 0, .int .i64 0, .int .i64 0, .str (⟨#[]⟩)])).bind fun p101 =>
  gVA p101.1 fun c102 =>
  (c102[0]?).bind fun x103 =>
  gI .i64 x103 fun i104 =>
  (c102[1]?).bind fun x105 =>
  gI .i64 x105 fun i106 =>
  (c102[2]?).bind fun x107 =>
  gI .i64 x107 fun i108 =>
  (c102[3]?).bind fun x109 =>
  gS x109 fun y110 =>
  if c102.length = 4 then
  stK 4 ((tidy (h.new 0 [.int .i64 0, .int .i64 0, .int .i64 0, .str (⟨#[]⟩)]) [p101.1] p101.2).new 0 [.int .i64 0, .int .i64 0, .int .i64 0, .str (⟨#[]⟩)]) (pv ((tidy (h.new 0 [.int .i64 0, .int .i64 0, .int .i64 0, .str (⟨#[]⟩)]) [p101.1] p101.2).n) 0) (.agg [.int .i64 i104, .int .i64 i106, .int .i64 i108, .str y110]) fun h111 =>
  (call Ev Fn.spec_l1Next [pv a0_b a0_o, iv .i64 12] h111).bind fun p112 =>
  gV1 p112.1 fun x113 =>
  gI .i64 x113 fun i114 =>
  vcase (bv (i114 == 0))
  ((call Ev Fn.spec_l1Pick [pv a0_b a0_o, sv ((tidy h111 [p112.1] p112.2).n) 0 3] ((tidy h111 [p112.1] p112.2).new 1 [.int .i64 (-1), .int .i64 3, .int .i64 4])).bind fun p117 =>
  gV1 p117.1 fun x118 =>
  gI .i64 x118 fun i119 =>
  stK 1 (tidy ((tidy h111 [p112.1] p112.2).new 1 [.int .i64 (-1), .int .i64 3, .int .i64 4]) [p117.1] p117.2) (pv ((tidy (h.new 0 [.int .i64 0, .int .i64 0, .int .i64 0, .str (⟨#[]⟩)]) [p101.1] p101.2).n) 0) (iv .i64 i119) fun h120 =>
  (loadN 4 h120 (pv ((tidy (h.new 0 [.int .i64 0, .int .i64 0, .int .i64 0, .str (⟨#[]⟩)]) [p101.1] p101.2).n) 0)).bind fun c140 =>
  (c140[0]?).bind fun x141 =>
  gI .i64 x141 fun i142 =>
  (c140[1]?).bind fun x143 =>
  gI .i64 x143 fun i144 =>
  (c140[2]?).bind fun x145 =>
  gI .i64 x145 fun i146 =>
  (c140[3]?).bind fun x147 =>
  gS x147 fun y148 =>
  if c140.length = 4 then
  stK 4 h120 (pv h.n 0) (.agg [.int .i64 i142, .int .i64 i144, .int .i64 i146, .str y148]) fun h149 =>
  (loadN 4 h149 (pv h.n 0)).bind fun c150 =>
  some (.agg c150, h149)
  else none)
  (vcase (bv (i114 == 1))
  ((call Ev Fn.spec_l1Pick [pv a0_b a0_o, sv ((tidy h111 [p112.1] p112.2).n) 0 3] ((tidy h111 [p112.1] p112.2).new 1 [.int .i64 0, .int .i64 99, .int .i64 100])).bind fun p122 =>
  gV1 p122.1 fun x123 =>
  gI .i64 x123 fun i124 =>
  stK 1 (tidy ((tidy h111 [p112.1] p112.2).new 1 [.int .i64 0, .int .i64 99, .int .i64 100]) [p122.1] p122.2) (pv ((tidy (h.new 0 [.int .i64 0, .int .i64 0, .int .i64 0, .str (⟨#[]⟩)]) [p101.1] p101.2).n) 1) (iv .i64 i124) fun h125 =>
  (loadN 4 h125 (pv ((tidy (h.new 0 [.int .i64 0, .int .i64 0, .int .i64 0, .str (⟨#[]⟩)]) [p101.1] p101.2).n) 0)).bind fun c151 =>
  (c151[0]?).bind fun x152 =>
  gI .i64 x152 fun i153 =>
  (c151[1]?).bind fun x154 =>
  gI .i64 x154 fun i155 =>
  (c151[2]?).bind fun x156 =>
  gI .i64 x156 fun i157 =>
  (c151[3]?).bind fun x158 =>
  gS x158 fun y159 =>
  if c151.length = 4 then
  stK 4 h125 (pv h.n 0) (.agg [.int .i64 i153, .int .i64 i155, .int .i64 i157, .str y159]) fun h160 =>
  (loadN 4 h160 (pv h.n 0)).bind fun c161 =>
  some (.agg c161, h160)
  else none)
  (vcase (bv (i114 == 2))
  ((call Ev Fn.spec_l1Pick [pv a0_b a0_o, sv ((tidy h111 [p112.1] p112.2).n) 0 2] ((tidy h111 [p112.1] p112.2).new 1 [.int .i64 (-1), .int .i64 1000])).bind fun p127 =>
  gV1 p127.1 fun x128 =>
  gI .i64 x128 fun i129 =>
  stK 1 (tidy ((tidy h111 [p112.1] p112.2).new 1 [.int .i64 (-1), .int .i64 1000]) [p127.1] p127.2) (pv ((tidy (h.new 0 [.int .i64 0, .int .i64 0, .int .i64 0, .str (⟨#[]⟩)]) [p101.1] p101.2).n) 2) (iv .i64 i129) fun h130 =>
  (loadN 4 h130 (pv ((tidy (h.new 0 [.int .i64 0, .int .i64 0, .int .i64 0, .str (⟨#[]⟩)]) [p101.1] p101.2).n) 0)).bind fun c162 =>
  (c162[0]?).bind fun x163 =>
  gI .i64 x163 fun i164 =>
  (c162[1]?).bind fun x165 =>
  gI .i64 x165 fun i166 =>
  (c162[2]?).bind fun x167 =>
  gI .i64 x167 fun i168 =>
  (c162[3]?).bind fun x169 =>
  gS x169 fun y170 =>
  if c162.length = 4 then
  stK 4 h130 (pv h.n 0) (.agg [.int .i64 i164, .int .i64 i166, .int .i64 i168, .str y170]) fun h171 =>
  (loadN 4 h171 (pv h.n 0)).bind fun c172 =>
  some (.agg c172, h171)
  else none)
  (vcase (bv (i114 == 3))
  ((call Ev Fn.spec_l1Next [pv a0_b a0_o, iv .i64 3] ((tidy h111 [p112.1] p112.2).new 1 [.str (⟨#[65]⟩), .str (⟨#[97, 98, 99, 100, 101, 102, 103, 104, 105]⟩), .str (⟨#[97, 32, 98]⟩)])).bind fun p132 =>
  gV1 p132.1 fun x133 =>
  gI .i64 x133 fun i134 =>
  idxK 1 (sv ((tidy h111 [p112.1] p112.2).n) 0 3) (iv .i64 i134) fun v135 =>
  ldK (.one (.s)) ⟨1, 16, [.str ⟨#[]⟩], false, .str, false⟩ (tidy ((tidy h111 [p112.1] p112.2).new 1 [.str (⟨#[65]⟩), .str (⟨#[97, 98, 99, 100, 101, 102, 103, 104, 105]⟩), .str (⟨#[97, 32, 98]⟩)]) [p132.1] p132.2) v135 fun v136 =>
  gV1 v136 fun x137 =>
  gS x137 fun y138 =>
  stK 1 (tidy ((tidy h111 [p112.1] p112.2).new 1 [.str (⟨#[65]⟩), .str (⟨#[97, 98, 99, 100, 101, 102, 103, 104, 105]⟩), .str (⟨#[97, 32, 98]⟩)]) [p132.1] p132.2) (pv ((tidy (h.new 0 [.int .i64 0, .int .i64 0, .int .i64 0, .str (⟨#[]⟩)]) [p101.1] p101.2).n) 3) (.s (.str y138)) fun h139 =>
  (loadN 4 h139 (pv ((tidy (h.new 0 [.int .i64 0, .int .i64 0, .int .i64 0, .str (⟨#[]⟩)]) [p101.1] p101.2).n) 0)).bind fun c173 =>
  (c173[0]?).bind fun x174 =>
  gI .i64 x174 fun i175 =>
  (c173[1]?).bind fun x176 =>
  gI .i64 x176 fun i177 =>
  (c173[2]?).bind fun x178 =>
  gI .i64 x178 fun i179 =>
  (c173[3]?).bind fun x180 =>
  gS x180 fun y181 =>
  if c173.length = 4 then
  stK 4 h139 (pv h.n 0) (.agg [.int .i64 i175, .int .i64 i177, .int .i64 i179, .str y181]) fun h182 =>
  (loadN 4 h182 (pv h.n 0)).bind fun c183 =>
  some (.agg c183, h182)
  else none)
  ((loadN 4 (tidy h111 [p112.1] p112.2) (pv ((tidy (h.new 0 [.int .i64 0, .int .i64 0, .int .i64 0, .str (⟨#[]⟩)]) [p101.1] p101.2).n) 0)).bind fun c184 =>
  (c184[0]?).bind fun x185 =>
  gI .i64 x185 fun i186 =>
  (c184[1]?).bind fun x187 =>
  gI .i64 x187 fun i188 =>
  (c184[2]?).bind fun x189 =>
  gI .i64 x189 fun i190 =>
  (c184[3]?).bind fun x191 =>
  gS x191 fun y192 =>
  if c184.length = 4 then
  stK 4 (tidy h111 [p112.1] p112.2) (pv h.n 0) (.agg [.int .i64 i186, .int .i64 i188, .int .i64 i190, .str y192]) fun h193 =>
  (loadN 4 h193 (pv h.n 0)).bind fun c194 =>
  some (.agg c194, h193)
  else none))))
  else none := by
  rw [call_eq]; kernel_rfl

theorem eq_spec_l1Chance (a0_b a0_o : Nat) (a1 : Int) (h : H) : call Ev Fn.spec_l1Chance [pv a0_b a0_o, iv .i64 a1] h =
  (call Ev Fn.spec_l1Next [pv a0_b a0_o, iv .i64 a1] h).bind fun p101 =>
  gV1 p101.1 fun x102 =>
  gI .i64 x102 fun i103 =>
  some (bv (i103 == 0), tidy h [p101.1] p101.2) := by
  rw [call_eq]; kernel_rfl

theorem pu_spec_l6At (a0 : List (List S)) (a1 : Int) (a2 : Int) : pureV (call Ev) Fn.spec_l6At [lv a0, iv .i64 a1, iv .i64 a2] =
  (Lp.spec_l6At 0 [lv a0, iv .i64 a1, iv .i64 a2, iv .i64 0] (D 0)).bind fun o101 => lcase o101 (fun l102 h103 =>
  some (iv .i64 (-1))) (fun v104 h105 =>
  frzV h105 v104) := by
  rw [pure_eq]; kernel_rfl

theorem eq_spec_l6At_l0 (s0 : List (List S)) (s1 : Int) (s2 : Int) (s7 : Int) (h : H) : Lp.spec_l6At 0 [lv s0, iv .i64 s1, iv .i64 s2, iv .i64 s7] h =
  vcase (bv (decide (s7 < (s0.length : Int))))
  (idxF 4 s0 s7 fun r203 =>
  (r203[0]?).bind fun x204 =>
  gI .i64 x204 fun i205 =>
  vcase (bv (i205 == s1))
  (idxF 4 s0 s7 fun r207 =>
  (r207[1]?).bind fun x208 =>
  gI .i64 x208 fun i209 =>
  vcase (bv (i209 == s2))
  (some (.ret (iv .i64 s7) h))
  (Lp.spec_l6At 0 [lv s0, iv .i64 s1, iv .i64 s2, iv .i64 (IntKind.i64.wrap (s7 + 1))] (tidy h [lv s0, iv .i64 s1, iv .i64 s2, iv .i64 (IntKind.i64.wrap (s7 + 1))] h)))
  (Lp.spec_l6At 0 [lv s0, iv .i64 s1, iv .i64 s2, iv .i64 (IntKind.i64.wrap (s7 + 1))] (tidy h [lv s0, iv .i64 s1, iv .i64 s2, iv .i64 (IntKind.i64.wrap (s7 + 1))] h)))
  (some (.done [] (tidy h [] h))) := by
  unfold Lp.spec_l6At; rw [loop_eq]; kernel_rfl

theorem pu_spec_l1Before (a0_0 : Int) (a0_1 : Int) (a0_2 : Int) (a0_3 : ByteArray) (a1_0 : Int) (a1_1 : Int) (a1_2 : Int) (a1_3 : ByteArray) : pureV (call Ev) Fn.spec_l1Before [fv [.int .i64 a0_0, .int .i64 a0_1, .int .i64 a0_2, .str a0_3] 0, fv [.int .i64 a1_0, .int .i64 a1_1, .int .i64 a1_2, .str a1_3] 0] =
  vcase (bv (decide (a0_0 < a1_0)))
  (some (bv true))
  (vcase (bv (a0_0 == a1_0))
  (some (bv (decide (a0_1 < a1_1))))
  (some (bv false))) := by
  rw [pure_eq]; kernel_rfl

theorem eq_spec_l6Put (a0 : List (List S)) (a1_0 : Int) (a1_1 : Int) (a1_2 : Int) (a1_3 : ByteArray) (n : Nat) : call Ev Fn.spec_l6Put [lv a0, .agg [.int .i64 a1_0, .int .i64 a1_1, .int .i64 a1_2, .str a1_3]] (D n) =
  (Lp.spec_l6Put 0 [lv a0, pv ((D n).n) 0, iv .i64 0] ((D n).new 0 [.int .i64 a1_0, .int .i64 a1_1, .int .i64 a1_2, .str a1_3])).bind fun o101 => lcase o101 (fun l102 h103 =>
  (l102[0]?).bind fun w106 =>
  gV1 w106 fun x107 =>
  gF x107 fun z108 =>
  (l102[1]?).bind fun w109 =>
  (l102[2]?).bind fun w110 =>
  gV1 w110 fun x111 =>
  gI .i64 x111 fun i112 =>
  slF 4 z108 none (some (iv .i64 i112)) fun z113 =>
  (appS 4 (h103.new 4 []) (sv h103.n 0 0) (lv z113)).bind fun p114 =>
  ldK (.agg [.i .i64, .i .i64, .i .i64, .s]) ⟨4, 40, [.int .i64 0, .int .i64 0, .int .i64 0, .str ⟨#[]⟩], true, .st [(0, 2), (1, 2), (2, 2), (3, 9)], true⟩ p114.2 w109 fun v115 =>
  gVA v115 fun c116 =>
  (c116[0]?).bind fun x117 =>
  gI .i64 x117 fun i118 =>
  (c116[1]?).bind fun x119 =>
  gI .i64 x119 fun i120 =>
  (c116[2]?).bind fun x121 =>
  gI .i64 x121 fun i122 =>
  (c116[3]?).bind fun x123 =>
  gS x123 fun y124 =>
  if c116.length = 4 then
  slF 4 z108 (some (iv .i64 i112)) none fun z125 =>
  hchk p114.2 (p114.2.new 4 [.int .i64 i118, .int .i64 i120, .int .i64 i122, .str y124]) (
  (appS 4 (p114.2.new 4 [.int .i64 i118, .int .i64 i120, .int .i64 i122, .str y124]) p114.1 (sv p114.2.n 0 1)).bind fun p126 =>
  (appS 4 p126.2 p126.1 (lv z125)).bind fun p127 =>
  some (p127.1, p127.2))
  else none) (fun v104 h105 =>
  some (v104, h105)) := by
  rw [call_eq]; kernel_rfl

theorem eq_spec_l6Put_l0 (s0 : List (List S)) (s3 : V) (s5 : Int) (h : H) : Lp.spec_l6Put 0 [lv s0, s3, iv .i64 s5] h =
  vcase (bv (decide (s5 < (s0.length : Int))))
  (idxF 4 s0 s5 fun r202 =>
  (frzVs h [fv r202 0, s3]).bind fun l203 =>
  pcallS (call Ev) Fn.spec_l1Before (normVs [4, 4] l203) fun v204 =>
  gV1 v204 fun x205 =>
  gB x205 fun q206 =>
  vcase (bv q206)
  (Lp.spec_l6Put 0 [lv s0, s3, iv .i64 (IntKind.i64.wrap (s5 + 1))] (tidy h [lv s0, s3, iv .i64 (IntKind.i64.wrap (s5 + 1))] h))
  (some (.done [lv s0, s3, iv .i64 s5] (tidy h [lv s0, s3, iv .i64 s5] h))))
  (some (.done [lv s0, s3, iv .i64 s5] (tidy h [lv s0, s3, iv .i64 s5] h))) := by
  unfold Lp.spec_l6Put; rw [loop_eq]; kernel_rfl

theorem eq_spec_l6DrawRows (a0_b a0_o : Nat) (h : H) : call Ev Fn.spec_l6DrawRows [pv a0_b a0_o] h =
  (call Ev Fn.spec_l1Next [pv a0_b a0_o, iv .i64 7] (h.new 4 [])).bind fun p101 =>
  gV1 p101.1 fun x102 =>
  gI .i64 x102 fun i103 =>
  (Lp.spec_l6DrawRows 0 [pv a0_b a0_o, sv h.n 0 0, iv .i64 i103] (tidy (h.new 4 []) [p101.1] p101.2)).bind fun o104 => lcase o104 (fun l105 h106 =>
  (l105[0]?).bind fun w109 =>
  some (w109, h106)) (fun v107 h108 =>
  some (v107, h108)) := by
  rw [call_eq]; kernel_rfl

theorem eq_spec_l6DrawRows_l0 (s0 : V) (s3 : V) (s4 : Int) (h : H) : Lp.spec_l6DrawRows 0 [s0, s3, iv .i64 s4] h =
  vcase (bv (decide (s4 > 0)))
  ((call Ev Fn.spec_l1Draw [s0] h).bind fun p203 =>
  gVA p203.1 fun c204 =>
  (c204[0]?).bind fun x205 =>
  gI .i64 x205 fun i206 =>
  (c204[1]?).bind fun x207 =>
  gI .i64 x207 fun i208 =>
  (c204[2]?).bind fun x209 =>
  gI .i64 x209 fun i210 =>
  (c204[3]?).bind fun x211 =>
  gS x211 fun y212 =>
  if c204.length = 4 then
  stK 4 ((tidy h [p203.1] p203.2).new 0 [.int .i64 0, .int .i64 0, .int .i64 0, .str (⟨#[]⟩)]) (pv ((tidy h [p203.1] p203.2).n) 0) (.agg [.int .i64 i206, .int .i64 i208, .int .i64 i210, .str y212]) fun h213 =>
  (load1 h213 (pv ((tidy h [p203.1] p203.2).n) 0)).bind fun x214 =>
  gI .i64 x214 fun i215 =>
  (load1 h213 (pv ((tidy h [p203.1] p203.2).n) 1)).bind fun x216 =>
  gI .i64 x216 fun i217 =>
  (frzVs h213 [s3, iv .i64 i215, iv .i64 i217]).bind fun l218 =>
  pcallS (call Ev) Fn.spec_l6At (normVs [] l218) fun v219 =>
  gV1 v219 fun x220 =>
  gI .i64 x220 fun i221 =>
  vcase (bv (decide (i221 < 0)))
  ((loadN 4 h213 (pv ((tidy h [p203.1] p203.2).n) 0)).bind fun c223 =>
  (c223[0]?).bind fun x224 =>
  gI .i64 x224 fun i225 =>
  (c223[1]?).bind fun x226 =>
  gI .i64 x226 fun i227 =>
  (c223[2]?).bind fun x228 =>
  gI .i64 x228 fun i229 =>
  (c223[3]?).bind fun x230 =>
  gS x230 fun y231 =>
  if c223.length = 4 then
  (frzVs h213 [s3, .agg [.int .i64 i225, .int .i64 i227, .int .i64 i229, .str y231]]).bind fun l232 =>
  pcallF (call Ev) Fn.spec_l6Put ([s3, .agg [.int .i64 i225, .int .i64 i227, .int .i64 i229, .str y231]].all offV) (normVs [] l232) h213 fun v233 h234 =>
  Lp.spec_l6DrawRows 0 [s0, v233, iv .i64 (IntKind.i64.wrap (s4 - 1))] (tidy h [s0, v233, iv .i64 (IntKind.i64.wrap (s4 - 1))] h234)
  else none)
  (Lp.spec_l6DrawRows 0 [s0, s3, iv .i64 (IntKind.i64.wrap (s4 - 1))] (tidy h [s0, s3, iv .i64 (IntKind.i64.wrap (s4 - 1))] h213))
  else none)
  (some (.done [s3] (tidy h [s3] h))) := by
  unfold Lp.spec_l6DrawRows; rw [loop_eq]; kernel_rfl

theorem eq_spec_l6BentRows (a0_b a0_o : Nat) (h : H) : call Ev Fn.spec_l6BentRows [pv a0_b a0_o] h =
  (call Ev Fn.spec_l6DrawRows [pv a0_b a0_o] h).bind fun p101 =>
  (call Ev Fn.spec_l1Next [pv a0_b a0_o, iv .i64 10] (tidy h [p101.1] p101.2)).bind fun p102 =>
  gV1 p102.1 fun x103 =>
  gI .i64 x103 fun i104 =>
  vcase (bv (i104 == 0))
  ((call Ev Fn.spec_l1Bent [pv a0_b a0_o] (tidy (tidy h [p101.1] p101.2) [p102.1] p102.2)).bind fun p107 =>
  gVA p107.1 fun c108 =>
  (c108[0]?).bind fun x109 =>
  gI .i64 x109 fun i110 =>
  (c108[1]?).bind fun x111 =>
  gI .i64 x111 fun i112 =>
  (c108[2]?).bind fun x113 =>
  gI .i64 x113 fun i114 =>
  (c108[3]?).bind fun x115 =>
  gS x115 fun y116 =>
  if c108.length = 4 then
  (appS 4 ((tidy (tidy (tidy h [p101.1] p101.2) [p102.1] p102.2) [p107.1] p107.2).new 4 [.int .i64 i110, .int .i64 i112, .int .i64 i114, .str y116]) p101.1 (sv ((tidy (tidy (tidy h [p101.1] p101.2) [p102.1] p102.2) [p107.1] p107.2).n) 0 1)).bind fun p117 =>
  some (p117.1, p117.2)
  else none)
  (vcase (bv (i104 == 1))
  ((mkSl 4 [.int .i64 0, .int .i64 0, .int .i64 0, .str ⟨#[]⟩] (tidy (tidy h [p101.1] p101.2) [p102.1] p102.2) (iv .i64 61) (iv .i64 61)).bind fun p119 =>
  some (p119.1, p119.2))
  (some (p101.1, tidy (tidy h [p101.1] p101.2) [p102.1] p102.2))) := by
  rw [call_eq]; kernel_rfl

theorem eq_spec_l8Rows (a0_b a0_o : Nat) (h : H) : call Ev Fn.spec_l8Rows [pv a0_b a0_o] h =
  (call Ev Fn.spec_l1Next [pv a0_b a0_o, iv .i64 6] (h.new 4 [.int .i64 0, .int .i64 1, .int .i64 8, .str (⟨#[]⟩), .int .i64 0, .int .i64 2, .int .i64 3, .str (⟨#[]⟩)])).bind fun p101 =>
  gV1 p101.1 fun x102 =>
  gI .i64 x102 fun i103 =>
  (Lp.spec_l8Rows 0 [pv a0_b a0_o, sv h.n 0 2, iv .i64 i103] (tidy (h.new 4 [.int .i64 0, .int .i64 1, .int .i64 8, .str (⟨#[]⟩), .int .i64 0, .int .i64 2, .int .i64 3, .str (⟨#[]⟩)]) [p101.1] p101.2)).bind fun o104 => lcase o104 (fun l105 h106 =>
  (l105[0]?).bind fun w109 =>
  some (w109, h106)) (fun v107 h108 =>
  some (v107, h108)) := by
  rw [call_eq]; kernel_rfl

noncomputable def Jn.spec_l8Rows_l0_0 (h295 : H) (h : H) (p203 : V × H) (s3 : V) (s0 : V) (s4 : Int) : Option (LOut) :=
  (load1 h295 (pv ((tidy h [p203.1] p203.2).n) 0)).bind fun x296 =>
  gI .i64 x296 fun i297 =>
  (load1 h295 (pv ((tidy h [p203.1] p203.2).n) 1)).bind fun x298 =>
  gI .i64 x298 fun i299 =>
  (frzVs h295 [s3, iv .i64 i297, iv .i64 i299]).bind fun l300 =>
  pcallS (call Ev) Fn.spec_l6At (normVs [] l300) fun v301 =>
  gV1 v301 fun x302 =>
  gI .i64 x302 fun i303 =>
  vcase (bv (decide (i303 < 0)))
  ((loadN 4 h295 (pv ((tidy h [p203.1] p203.2).n) 0)).bind fun c305 =>
  (c305[0]?).bind fun x306 =>
  gI .i64 x306 fun i307 =>
  (c305[1]?).bind fun x308 =>
  gI .i64 x308 fun i309 =>
  (c305[2]?).bind fun x310 =>
  gI .i64 x310 fun i311 =>
  (c305[3]?).bind fun x312 =>
  gS x312 fun y313 =>
  if c305.length = 4 then
  (frzVs h295 [s3, .agg [.int .i64 i307, .int .i64 i309, .int .i64 i311, .str y313]]).bind fun l314 =>
  pcallF (call Ev) Fn.spec_l6Put ([s3, .agg [.int .i64 i307, .int .i64 i309, .int .i64 i311, .str y313]].all offV) (normVs [] l314) h295 fun v315 h316 =>
  Lp.spec_l8Rows 0 [s0, v315, iv .i64 (IntKind.i64.wrap (s4 - 1))] (tidy h [s0, v315, iv .i64 (IntKind.i64.wrap (s4 - 1))] h316)
  else none)
  (Lp.spec_l8Rows 0 [s0, s3, iv .i64 (IntKind.i64.wrap (s4 - 1))] (tidy h [s0, s3, iv .i64 (IntKind.i64.wrap (s4 - 1))] h295))

noncomputable def Jn.spec_l8Rows_l0_1 (q292 : Bool) (h217 : H) (h : H) (p203 : V × H) (s3 : V) (s0 : V) (s4 : Int) : Option (LOut) :=
  vcase (bv q292)
  (stK 1 h217 (pv ((tidy h [p203.1] p203.2).n) 3) (.s (.str (⟨#[]⟩))) fun h294 =>
  Jn.spec_l8Rows_l0_0 h294 h p203 s3 s0 s4)
  (Jn.spec_l8Rows_l0_0 h217 h p203 s3 s0 s4)

theorem eq_spec_l8Rows_l0 (s0 : V) (s3 : V) (s4 : Int) (h : H) : Lp.spec_l8Rows 0 [s0, s3, iv .i64 s4] h =
  vcase (bv (decide (s4 > 0)))
  ((call Ev Fn.spec_l1Draw [s0] h).bind fun p203 =>
  gVA p203.1 fun c204 =>
  (c204[0]?).bind fun x205 =>
  gI .i64 x205 fun i206 =>
  (c204[1]?).bind fun x207 =>
  gI .i64 x207 fun i208 =>
  (c204[2]?).bind fun x209 =>
  gI .i64 x209 fun i210 =>
  (c204[3]?).bind fun x211 =>
  gS x211 fun y212 =>
  if c204.length = 4 then
  stK 4 ((tidy h [p203.1] p203.2).new 0 [.int .i64 0, .int .i64 0, .int .i64 0, .str (⟨#[]⟩)]) (pv ((tidy h [p203.1] p203.2).n) 0) (.agg [.int .i64 i206, .int .i64 i208, .int .i64 i210, .str y212]) fun h213 =>
  (call Ev Fn.spec_l1Next [s0, iv .i64 2] h213).bind fun p214 =>
  gV1 p214.1 fun x215 =>
  gI .i64 x215 fun i216 =>
  stK 1 (tidy h213 [p214.1] p214.2) (pv ((tidy h [p203.1] p203.2).n) 0) (iv .i64 (IntKind.i64.wrap (1 + i216))) fun h217 =>
  (load1 h217 (pv ((tidy h [p203.1] p203.2).n) 0)).bind fun x218 =>
  gI .i64 x218 fun i219 =>
  vcase (bv (i219 == 2))
  ((load1 h217 (pv ((tidy h [p203.1] p203.2).n) 3)).bind fun x221 =>
  gS x221 fun y222 =>
  Jn.spec_l8Rows_l0_1 (decide (((y222 : ByteArray).size : Int) > 3)) h217 h p203 s3 s0 s4)
  (Jn.spec_l8Rows_l0_1 false h217 h p203 s3 s0 s4)
  else none)
  (some (.done [s3] (tidy h [s3] h))) := by
  unfold Lp.spec_l8Rows; rw [loop_eq]; kernel_rfl

theorem eq_spec_l8Bent (a0_b a0_o : Nat) (h : H) : call Ev Fn.spec_l8Bent [pv a0_b a0_o] h =
  (call Ev Fn.spec_l1Chance [pv a0_b a0_o, iv .i64 6] h).bind fun p101 =>
  gV1 p101.1 fun x102 =>
  gB x102 fun q103 =>
  vcase (bv q103)
  ((call Ev Fn.spec_l6BentRows [pv a0_b a0_o] (tidy h [p101.1] p101.2)).bind fun p105 =>
  some (p105.1, tidy (tidy h [p101.1] p101.2) [p105.1] p105.2))
  ((call Ev Fn.spec_l8Rows [pv a0_b a0_o] (tidy h [p101.1] p101.2)).bind fun p106 =>
  some (p106.1, tidy (tidy h [p101.1] p101.2) [p106.1] p106.2)) := by
  rw [call_eq]; kernel_rfl

noncomputable def Jn.spec_l8Change_0 (h254 : H) (h215 : H) (h : H) : Option (V × H) :=
  (loadN 10 h254 (pv h215.n 0)).bind fun c255 =>
  (c255[0]?).bind fun x256 =>
  gB x256 fun q257 =>
  (c255[1]?).bind fun x258 =>
  gI .i64 x258 fun i259 =>
  (c255[2]?).bind fun x260 =>
  gI .i64 x260 fun i261 =>
  (c255[3]?).bind fun x262 =>
  gI .i64 x262 fun i263 =>
  (c255[4]?).bind fun x264 =>
  gS x264 fun y265 =>
  (c255[5]?).bind fun x266 =>
  gB x266 fun q267 =>
  (c255[6]?).bind fun x268 =>
  gI .i64 x268 fun i269 =>
  (c255[7]?).bind fun x270 =>
  gI .i64 x270 fun i271 =>
  (c255[8]?).bind fun x272 =>
  gI .i64 x272 fun i273 =>
  (c255[9]?).bind fun x274 =>
  gS x274 fun y275 =>
  if c255.length = 10 then
  stK 10 h254 (pv h.n 0) (.agg [.bool q257, .int .i64 i259, .int .i64 i261, .int .i64 i263, .str y265, .bool q267, .int .i64 i269, .int .i64 i271, .int .i64 i273, .str y275]) fun h276 =>
  (loadN 10 h276 (pv h.n 0)).bind fun c277 =>
  some (.agg c277, h276)
  else none

noncomputable def Jn.spec_l8Change_1 (h215 : H) (h : H) (p101 : V × H) (a1 : V) (a0_b : Nat) (a0_o : Nat) : Option (V × H) :=
  (loadN 4 h215 (pv ((tidy (h.new 0 [.bool false, .int .i64 0, .int .i64 0, .int .i64 0, .str (⟨#[]⟩), .bool false, .int .i64 0, .int .i64 0, .int .i64 0, .str (⟨#[]⟩)]) [p101.1] p101.2).n) 0)).bind fun c216 =>
  (c216[0]?).bind fun x217 =>
  gI .i64 x217 fun i218 =>
  (c216[1]?).bind fun x219 =>
  gI .i64 x219 fun i220 =>
  (c216[2]?).bind fun x221 =>
  gI .i64 x221 fun i222 =>
  (c216[3]?).bind fun x223 =>
  gS x223 fun y224 =>
  if c216.length = 4 then
  stK 10 (h215.new 0 [.bool false, .int .i64 0, .int .i64 0, .int .i64 0, .str (⟨#[]⟩), .bool false, .int .i64 0, .int .i64 0, .int .i64 0, .str (⟨#[]⟩)]) (pv h215.n 0) (.agg [.bool false, .int .i64 0, .int .i64 0, .int .i64 0, .str (⟨#[]⟩), .bool true, .int .i64 i218, .int .i64 i220, .int .i64 i222, .str y224]) fun h225 =>
  (load1 h225 (pv ((tidy (h.new 0 [.bool false, .int .i64 0, .int .i64 0, .int .i64 0, .str (⟨#[]⟩), .bool false, .int .i64 0, .int .i64 0, .int .i64 0, .str (⟨#[]⟩)]) [p101.1] p101.2).n) 0)).bind fun x226 =>
  gI .i64 x226 fun i227 =>
  (load1 h225 (pv ((tidy (h.new 0 [.bool false, .int .i64 0, .int .i64 0, .int .i64 0, .str (⟨#[]⟩), .bool false, .int .i64 0, .int .i64 0, .int .i64 0, .str (⟨#[]⟩)]) [p101.1] p101.2).n) 1)).bind fun x228 =>
  gI .i64 x228 fun i229 =>
  (frzVs h225 [a1, iv .i64 i227, iv .i64 i229]).bind fun l230 =>
  pcallS (call Ev) Fn.spec_l6At (normVs [] l230) fun v231 =>
  gV1 v231 fun x232 =>
  gI .i64 x232 fun i233 =>
  vcase (bv (decide (i233 ≥ 0)))
  (stK 1 h225 (pv h215.n 0) (bv true) fun h235 =>
  idxK 4 a1 (iv .i64 i233) fun v236 =>
  ldK (.agg [.i .i64, .i .i64, .i .i64, .s]) ⟨4, 40, [.int .i64 0, .int .i64 0, .int .i64 0, .str ⟨#[]⟩], true, .st [(0, 2), (1, 2), (2, 2), (3, 9)], true⟩ h235 v236 fun v237 =>
  gVA v237 fun c238 =>
  (c238[0]?).bind fun x239 =>
  gI .i64 x239 fun i240 =>
  (c238[1]?).bind fun x241 =>
  gI .i64 x241 fun i242 =>
  (c238[2]?).bind fun x243 =>
  gI .i64 x243 fun i244 =>
  (c238[3]?).bind fun x245 =>
  gS x245 fun y246 =>
  if c238.length = 4 then
  stK 4 h235 (pv h215.n 1) (.agg [.int .i64 i240, .int .i64 i242, .int .i64 i244, .str y246]) fun h247 =>
  (call Ev Fn.spec_l1Chance [pv a0_b a0_o, iv .i64 3] h247).bind fun p248 =>
  gV1 p248.1 fun x249 =>
  gB x249 fun q250 =>
  vcase (bv q250)
  (stK 1 (tidy h247 [p248.1] p248.2) (pv h215.n 5) (bv false) fun h252 =>
  stK 4 h252 (pv h215.n 6) (.agg [.int .i64 0, .int .i64 0, .int .i64 0, .str (⟨#[]⟩)]) fun h253 =>
  Jn.spec_l8Change_0 h253 h215 h)
  (Jn.spec_l8Change_0 (tidy h247 [p248.1] p248.2) h215 h)
  else none)
  (Jn.spec_l8Change_0 h225 h215 h)
  else none

theorem eq_spec_l8Change (a0_b a0_o : Nat) (a1 : V) (h : H) : call Ev Fn.spec_l8Change [pv a0_b a0_o, a1] h =
  (call Ev Fn.spec_l1Draw [pv a0_b a0_o] (h.new 0 [.bool false, .int .i64 0, .int .i64 0, .int .i64 0, .str (⟨#[]⟩), .bool false, .int .i64 0, .int .i64 0, .int .i64 0, .str (⟨#[]⟩)])).bind fun p101 =>
  gVA p101.1 fun c102 =>
  (c102[0]?).bind fun x103 =>
  gI .i64 x103 fun i104 =>
  (c102[1]?).bind fun x105 =>
  gI .i64 x105 fun i106 =>
  (c102[2]?).bind fun x107 =>
  gI .i64 x107 fun i108 =>
  (c102[3]?).bind fun x109 =>
  gS x109 fun y110 =>
  if c102.length = 4 then
  stK 4 ((tidy (h.new 0 [.bool false, .int .i64 0, .int .i64 0, .int .i64 0, .str (⟨#[]⟩), .bool false, .int .i64 0, .int .i64 0, .int .i64 0, .str (⟨#[]⟩)]) [p101.1] p101.2).new 0 [.int .i64 0, .int .i64 0, .int .i64 0, .str (⟨#[]⟩)]) (pv ((tidy (h.new 0 [.bool false, .int .i64 0, .int .i64 0, .int .i64 0, .str (⟨#[]⟩), .bool false, .int .i64 0, .int .i64 0, .int .i64 0, .str (⟨#[]⟩)]) [p101.1] p101.2).n) 0) (.agg [.int .i64 i104, .int .i64 i106, .int .i64 i108, .str y110]) fun h111 =>
  (call Ev Fn.spec_l1Next [pv a0_b a0_o, iv .i64 5] h111).bind fun p112 =>
  gV1 p112.1 fun x113 =>
  gI .i64 x113 fun i114 =>
  vcase (bv (i114 == 0))
  ((call Ev Fn.spec_l1Pick [pv a0_b a0_o, sv ((tidy h111 [p112.1] p112.2).n) 0 4] ((tidy h111 [p112.1] p112.2).new 1 [.int .i64 1, .int .i64 2, .int .i64 3, .int .i64 4])).bind fun p117 =>
  gV1 p117.1 fun x118 =>
  gI .i64 x118 fun i119 =>
  (call Ev Fn.spec_l1Pick [pv a0_b a0_o, sv ((tidy ((tidy h111 [p112.1] p112.2).new 1 [.int .i64 1, .int .i64 2, .int .i64 3, .int .i64 4]) [p117.1] p117.2).n) 0 4] ((tidy ((tidy h111 [p112.1] p112.2).new 1 [.int .i64 1, .int .i64 2, .int .i64 3, .int .i64 4]) [p117.1] p117.2).new 1 [.int .i64 8, .int .i64 3, .int .i64 0, .int .i64 9])).bind fun p120 =>
  gV1 p120.1 fun x121 =>
  gI .i64 x121 fun i122 =>
  stK 4 (tidy ((tidy ((tidy h111 [p112.1] p112.2).new 1 [.int .i64 1, .int .i64 2, .int .i64 3, .int .i64 4]) [p117.1] p117.2).new 1 [.int .i64 8, .int .i64 3, .int .i64 0, .int .i64 9]) [p120.1] p120.2) (pv ((tidy (h.new 0 [.bool false, .int .i64 0, .int .i64 0, .int .i64 0, .str (⟨#[]⟩), .bool false, .int .i64 0, .int .i64 0, .int .i64 0, .str (⟨#[]⟩)]) [p101.1] p101.2).n) 0) (.agg [.int .i64 0, .int .i64 i119, .int .i64 i122, .str (⟨#[]⟩)]) fun h123 =>
  Jn.spec_l8Change_1 h123 h p101 a1 a0_b a0_o)
  (vcase (bv (i114 == 1))
  (stK 1 (tidy h111 [p112.1] p112.2) (pv ((tidy (h.new 0 [.bool false, .int .i64 0, .int .i64 0, .int .i64 0, .str (⟨#[]⟩), .bool false, .int .i64 0, .int .i64 0, .int .i64 0, .str (⟨#[]⟩)]) [p101.1] p101.2).n) 0) (iv .i64 3) fun h125 =>
  Jn.spec_l8Change_1 h125 h p101 a1 a0_b a0_o)
  ((call Ev Fn.spec_l1Next [pv a0_b a0_o, iv .i64 2] (tidy h111 [p112.1] p112.2)).bind fun p126 =>
  gV1 p126.1 fun x127 =>
  gI .i64 x127 fun i128 =>
  stK 1 (tidy (tidy h111 [p112.1] p112.2) [p126.1] p126.2) (pv ((tidy (h.new 0 [.bool false, .int .i64 0, .int .i64 0, .int .i64 0, .str (⟨#[]⟩), .bool false, .int .i64 0, .int .i64 0, .int .i64 0, .str (⟨#[]⟩)]) [p101.1] p101.2).n) 0) (iv .i64 (IntKind.i64.wrap (1 + i128))) fun h129 =>
  Jn.spec_l8Change_1 h129 h p101 a1 a0_b a0_o))
  else none := by
  rw [call_eq]; kernel_rfl

noncomputable def Jn.spec_DrawMayBe_0 (h166 : H) (h102 : H) (p103 : V × H) (p104 : V × H) : Option (V) :=
  (loadN 10 h166 (pv ((tidy (tidy h102 [p103.1] p103.2) [p104.1] p104.2).n) 0)).bind fun c167 =>
  (c167[0]?).bind fun x168 =>
  gB x168 fun q169 =>
  (c167[1]?).bind fun x170 =>
  gI .i64 x170 fun i171 =>
  (c167[2]?).bind fun x172 =>
  gI .i64 x172 fun i173 =>
  (c167[3]?).bind fun x174 =>
  gI .i64 x174 fun i175 =>
  (c167[4]?).bind fun x176 =>
  gS x176 fun y177 =>
  (c167[5]?).bind fun x178 =>
  gB x178 fun q179 =>
  (c167[6]?).bind fun x180 =>
  gI .i64 x180 fun i181 =>
  (c167[7]?).bind fun x182 =>
  gI .i64 x182 fun i183 =>
  (c167[8]?).bind fun x184 =>
  gI .i64 x184 fun i185 =>
  (c167[9]?).bind fun x186 =>
  gS x186 fun y187 =>
  if c167.length = 10 then
  stK 10 h166 (pv 0 0) (.agg [.bool q169, .int .i64 i171, .int .i64 i173, .int .i64 i175, .str y177, .bool q179, .int .i64 i181, .int .i64 i183, .int .i64 i185, .str y187]) fun h188 =>
  (V.toA p103.1).bind fun t189 =>
  (loadN 10 h188 (pv 0 0)).bind fun c190 =>
  frzV h188 (.tup [t189, .agg c190])
  else none

theorem pu_spec_DrawMayBe (a0 : List (List S)) : pureV (call Ev) Fn.spec_DrawMayBe [lv a0] =
  pcallF (call Ev) Fn.spec_l1Source true [lv a0] ((D 0).new 0 [.bool false, .int .i64 0, .int .i64 0, .int .i64 0, .str (⟨#[]⟩), .bool false, .int .i64 0, .int .i64 0, .int .i64 0, .str (⟨#[]⟩)]) fun v101 h102 =>
  (call Ev Fn.spec_l8Bent [v101] h102).bind fun p103 =>
  (call Ev Fn.spec_l8Change [v101, p103.1] (tidy h102 [p103.1] p103.2)).bind fun p104 =>
  gVA p104.1 fun c105 =>
  (c105[0]?).bind fun x106 =>
  gB x106 fun q107 =>
  (c105[1]?).bind fun x108 =>
  gI .i64 x108 fun i109 =>
  (c105[2]?).bind fun x110 =>
  gI .i64 x110 fun i111 =>
  (c105[3]?).bind fun x112 =>
  gI .i64 x112 fun i113 =>
  (c105[4]?).bind fun x114 =>
  gS x114 fun y115 =>
  (c105[5]?).bind fun x116 =>
  gB x116 fun q117 =>
  (c105[6]?).bind fun x118 =>
  gI .i64 x118 fun i119 =>
  (c105[7]?).bind fun x120 =>
  gI .i64 x120 fun i121 =>
  (c105[8]?).bind fun x122 =>
  gI .i64 x122 fun i123 =>
  (c105[9]?).bind fun x124 =>
  gS x124 fun y125 =>
  if c105.length = 10 then
  stK 10 ((tidy (tidy h102 [p103.1] p103.2) [p104.1] p104.2).new 0 [.bool false, .int .i64 0, .int .i64 0, .int .i64 0, .str (⟨#[]⟩), .bool false, .int .i64 0, .int .i64 0, .int .i64 0, .str (⟨#[]⟩)]) (pv ((tidy (tidy h102 [p103.1] p103.2) [p104.1] p104.2).n) 0) (.agg [.bool q107, .int .i64 i109, .int .i64 i111, .int .i64 i113, .str y115, .bool q117, .int .i64 i119, .int .i64 i121, .int .i64 i123, .str y125]) fun h126 =>
  (call Ev Fn.spec_l1Chance [v101, iv .i64 10] h126).bind fun p127 =>
  gV1 p127.1 fun x128 =>
  gB x128 fun q129 =>
  vcase (bv q129)
  ((call Ev Fn.spec_l1Bent [v101] (tidy h126 [p127.1] p127.2)).bind fun p131 =>
  gVA p131.1 fun c132 =>
  (c132[0]?).bind fun x133 =>
  gI .i64 x133 fun i134 =>
  (c132[1]?).bind fun x135 =>
  gI .i64 x135 fun i136 =>
  (c132[2]?).bind fun x137 =>
  gI .i64 x137 fun i138 =>
  (c132[3]?).bind fun x139 =>
  gS x139 fun y140 =>
  if c132.length = 4 then
  stK 4 (tidy (tidy h126 [p127.1] p127.2) [p131.1] p131.2) (pv ((tidy (tidy h102 [p103.1] p103.2) [p104.1] p104.2).n) 6) (.agg [.int .i64 i134, .int .i64 i136, .int .i64 i138, .str y140]) fun h141 =>
  Jn.spec_DrawMayBe_0 h141 h102 p103 p104
  else none)
  (Jn.spec_DrawMayBe_0 (tidy h126 [p127.1] p127.2) h102 p103 p104)
  else none := by
  rw [pure_eq]; kernel_rfl

theorem pu_impl_IsBefore (a0_0 : Int) (a0_1 : Int) (a0_2 : Int) (a0_3 : ByteArray) (a1_0 : Int) (a1_1 : Int) (a1_2 : Int) (a1_3 : ByteArray) : pureV (call Ev) Fn.impl_IsBefore [.agg [.int .i64 a0_0, .int .i64 a0_1, .int .i64 a0_2, .str a0_3], .agg [.int .i64 a1_0, .int .i64 a1_1, .int .i64 a1_2, .str a1_3]] =
  vcase (bv (decide (a0_0 < a1_0)))
  (some (bv true))
  (vcase (bv (a0_0 == a1_0))
  (some (bv (decide (a0_1 < a1_1))))
  (some (bv false))) := by
  rw [pure_eq]; kernel_rfl

theorem pu_impl_in (a0 : Int) (a1 : Int) (a2 : Int) : pureV (call Ev) Fn.impl_in [iv .i64 a0, iv .i64 a1, iv .i64 a2] =
  vcase (bv (decide (a0 ≥ a1)))
  (some (bv (decide (a0 ≤ a2))))
  (some (bv false)) := by
  rw [pure_eq]; kernel_rfl

theorem pu_impl_RowFault (a0_0 : Int) (a0_1 : Int) (a0_2 : Int) (a0_3 : ByteArray) : pureV (call Ev) Fn.impl_RowFault [.agg [.int .i64 a0_0, .int .i64 a0_1, .int .i64 a0_2, .str a0_3]] =
  pcallS (call Ev) Fn.impl_in [iv .i64 a0_0, iv .i64 0, iv .i64 3] fun v101 =>
  gV1 v101 fun x102 =>
  gB x102 fun q103 =>
  vcase (bv (!q103))
  (some (iv .i64 3))
  (pcallS (call Ev) Fn.impl_in [iv .i64 a0_1, iv .i64 1, iv .i64 99] fun v106 =>
  gV1 v106 fun x107 =>
  gB x107 fun q108 =>
  vcase (bv (!q108))
  (some (iv .i64 3))
  (pcallS (call Ev) Fn.impl_in [iv .i64 a0_2, iv .i64 0, iv .i64 999] fun v114 =>
  gV1 v114 fun x115 =>
  gB x115 fun q116 =>
  vcase (bv (!q116))
  (some (iv .i64 3))
  (vcase (bv (decide (((a0_3 : ByteArray).size : Int) > 8)))
  (some (iv .i64 5))
  ((Lp.impl_RowFault 0 [pv 0 0, iv .i64 ((a0_3 : ByteArray).size : Int), iv .i64 0] ((D 0).new 0 [.int .i64 a0_0, .int .i64 a0_1, .int .i64 a0_2, .str a0_3])).bind fun o121 => lcase o121 (fun l122 h123 =>
  some (iv .i64 0)) (fun v124 h125 =>
  frzV h125 v124))))) := by
  rw [pure_eq]; kernel_rfl

theorem eq_impl_RowFault_l0 (s1 : V) (s26 : Int) (s27 : Int) (h : H) : Lp.impl_RowFault 0 [s1, iv .i64 s26, iv .i64 s27] h =
  vcase (bv (decide (s27 < s26)))
  ((padd 3 s1).bind fun v203 =>
  ldK (.one (.s)) ⟨1, 16, [.str ⟨#[]⟩], false, .str, false⟩ h v203 fun v204 =>
  gV1 v204 fun x205 =>
  gS x205 fun y206 =>
  (idxStr (.s (.str y206)) (iv .i64 s27)).bind fun v207 =>
  gV1 v207 fun x208 =>
  gI .u8 x208 fun i209 =>
  vcase (bv (decide (i209 < 97)))
  (some (.ret (iv .i64 5) h))
  ((padd 3 s1).bind fun v212 =>
  ldK (.one (.s)) ⟨1, 16, [.str ⟨#[]⟩], false, .str, false⟩ h v212 fun v213 =>
  gV1 v213 fun x214 =>
  gS x214 fun y215 =>
  (idxStr (.s (.str y215)) (iv .i64 s27)).bind fun v216 =>
  gV1 v216 fun x217 =>
  gI .u8 x217 fun i218 =>
  vcase (bv (decide (i218 > 122)))
  (some (.ret (iv .i64 5) h))
  (Lp.impl_RowFault 0 [s1, iv .i64 s26, iv .i64 (IntKind.i64.wrap (s27 + 1))] (tidy h [s1, iv .i64 s26, iv .i64 (IntKind.i64.wrap (s27 + 1))] h))))
  (some (.done [] (tidy h [] h))) := by
  unfold Lp.impl_RowFault; rw [loop_eq]; kernel_rfl

theorem pu_impl_RowsFault (a0 : List (List S)) : pureV (call Ev) Fn.impl_RowsFault [lv a0] =
  vcase (bv (decide ((a0.length : Int) > 60)))
  (some (iv .i64 2))
  ((Lp.impl_RowsFault 0 [lv a0, lv a0, iv .i64 (a0.length : Int), iv .i64 0] (D 0)).bind fun o102 => lcase o102 (fun l103 h104 =>
  some (iv .i64 0)) (fun v105 h106 =>
  frzV h106 v105)) := by
  rw [pure_eq]; kernel_rfl

theorem eq_impl_RowsFault_l0 (s0 : List (List S)) (s9 : List (List S)) (s10 : Int) (s11 : Int) (h : H) : Lp.impl_RowsFault 0 [lv s0, lv s9, iv .i64 s10, iv .i64 s11] h =
  vcase (bv (decide (s11 < s10)))
  (idxF 4 s9 s11 fun r203 =>
  (rowN 4 r203 0).bind fun c204 =>
  (c204[0]?).bind fun x205 =>
  gI .i64 x205 fun i206 =>
  (c204[1]?).bind fun x207 =>
  gI .i64 x207 fun i208 =>
  (c204[2]?).bind fun x209 =>
  gI .i64 x209 fun i210 =>
  (c204[3]?).bind fun x211 =>
  gS x211 fun y212 =>
  if c204.length = 4 then
  stK 4 (h.new 0 [.int .i64 0, .int .i64 0, .int .i64 0, .str (⟨#[]⟩)]) (pv h.n 0) (.agg [.int .i64 i206, .int .i64 i208, .int .i64 i210, .str y212]) fun h213 =>
  (loadN 4 h213 (pv h.n 0)).bind fun c214 =>
  (c214[0]?).bind fun x215 =>
  gI .i64 x215 fun i216 =>
  (c214[1]?).bind fun x217 =>
  gI .i64 x217 fun i218 =>
  (c214[2]?).bind fun x219 =>
  gI .i64 x219 fun i220 =>
  (c214[3]?).bind fun x221 =>
  gS x221 fun y222 =>
  if c214.length = 4 then
  pcallS (call Ev) Fn.impl_RowFault [.agg [.int .i64 i216, .int .i64 i218, .int .i64 i220, .str y222]] fun v223 =>
  gV1 v223 fun x224 =>
  gI .i64 x224 fun i225 =>
  vcase (bv (i225 != 0))
  (some (.ret (iv .i64 i225) h213))
  (vcase (bv (decide (s11 > 0)))
  (idxF 4 s0 (IntKind.i64.wrap (s11 - 1)) fun r228 =>
  (rowN 4 r228 0).bind fun c229 =>
  (c229[0]?).bind fun x230 =>
  gI .i64 x230 fun i231 =>
  (c229[1]?).bind fun x232 =>
  gI .i64 x232 fun i233 =>
  (c229[2]?).bind fun x234 =>
  gI .i64 x234 fun i235 =>
  (c229[3]?).bind fun x236 =>
  gS x236 fun y237 =>
  if c229.length = 4 then
  (loadN 4 h213 (pv h.n 0)).bind fun c238 =>
  (c238[0]?).bind fun x239 =>
  gI .i64 x239 fun i240 =>
  (c238[1]?).bind fun x241 =>
  gI .i64 x241 fun i242 =>
  (c238[2]?).bind fun x243 =>
  gI .i64 x243 fun i244 =>
  (c238[3]?).bind fun x245 =>
  gS x245 fun y246 =>
  if c238.length = 4 then
  pcallS (call Ev) Fn.impl_IsBefore [.agg [.int .i64 i231, .int .i64 i233, .int .i64 i235, .str y237], .agg [.int .i64 i240, .int .i64 i242, .int .i64 i244, .str y246]] fun v247 =>
  gV1 v247 fun x248 =>
  gB x248 fun q249 =>
  hchk h213 h213 (
  vcase (bv (!q249))
  (some (.ret (iv .i64 1) h213))
  (Lp.impl_RowsFault 0 [lv s0, lv s9, iv .i64 s10, iv .i64 (IntKind.i64.wrap (s11 + 1))] (tidy h [lv s0, lv s9, iv .i64 s10, iv .i64 (IntKind.i64.wrap (s11 + 1))] h213)))
  else none
  else none)
  (hchk h213 h213 (
  Lp.impl_RowsFault 0 [lv s0, lv s9, iv .i64 s10, iv .i64 (IntKind.i64.wrap (s11 + 1))] (tidy h [lv s0, lv s9, iv .i64 s10, iv .i64 (IntKind.i64.wrap (s11 + 1))] h213))))
  else none
  else none)
  (some (.done [] (tidy h [] h))) := by
  unfold Lp.impl_RowsFault; rw [loop_eq]; kernel_rfl

theorem pu_impl_order (a0_0 : Int) (a0_1 : Int) (a0_2 : Int) (a0_3 : ByteArray) (a1_0 : Int) (a1_1 : Int) (a1_2 : Int) (a1_3 : ByteArray) : pureV (call Ev) Fn.impl_order [.agg [.int .i64 a0_0, .int .i64 a0_1, .int .i64 a0_2, .str a0_3], .agg [.int .i64 a1_0, .int .i64 a1_1, .int .i64 a1_2, .str a1_3]] =
  pcallS (call Ev) Fn.impl_IsBefore [.agg [.int .i64 a0_0, .int .i64 a0_1, .int .i64 a0_2, .str a0_3], .agg [.int .i64 a1_0, .int .i64 a1_1, .int .i64 a1_2, .str a1_3]] fun v102 =>
  gV1 v102 fun x103 =>
  gB x103 fun q104 =>
  vcase (bv q104)
  (some (iv .i64 (-1)))
  (pcallS (call Ev) Fn.impl_IsBefore [.agg [.int .i64 a1_0, .int .i64 a1_1, .int .i64 a1_2, .str a1_3], .agg [.int .i64 a0_0, .int .i64 a0_1, .int .i64 a0_2, .str a0_3]] fun v106 =>
  gV1 v106 fun x107 =>
  gB x107 fun q108 =>
  vcase (bv q108)
  (some (iv .i64 1))
  (some (iv .i64 0))) := by
  rw [pure_eq]; kernel_rfl

end Vm
