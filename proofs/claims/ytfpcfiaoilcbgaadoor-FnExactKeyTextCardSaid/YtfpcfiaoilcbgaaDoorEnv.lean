/-
  The types and the functions that the small machine asks for, and that they are the program's. Written by a program (gen3.py).
-/
import Derived.Test.YtfpcfiaoilcbgaaDoorVmR
import Derived.Test.YtfpcfiaoilcbgaaDoorProg
import Derived.KernelRfl
set_option linter.unusedVariables false
set_option maxRecDepth 100000
namespace Vm
open Go
namespace Fn
abbrev spec_l1In : Nat := 17
abbrev spec_l1Digits : Nat := 18
abbrev spec_KeyText : Nat := 6
abbrev laws_toKey : Nat := 7
abbrev impl_in : Nat := 30
abbrev impl_isKey : Nat := 19
abbrev strconv_small : Nat := 44
abbrev strconv_formatBase10 : Nat := 46
abbrev strconv_isPowerOfTwo : Nat := 56
abbrev bits_TrailingZeros : Nat := 57
abbrev strconv_formatBits : Nat := 47
abbrev strconv_FormatInt_1 : Nat := 39
abbrev strconv_FormatInt_0 : Nat := 35
abbrev impl_digits : Nat := 31
abbrev impl_keyText : Nat := 20
abbrev impl_KeyText : Nat := 8
abbrev laws_eqTextResult : Nat := 9
abbrev laws_FnExactKeyText : Nat := 3
abbrev laws_szRow : Nat := 10
abbrev spec_l1Text : Nat := 32
abbrev spec_l1Fault : Nat := 21
abbrev spec_l1RowText : Nat := 22
abbrev spec_RowText : Nat := 11
abbrev laws_toRow : Nat := 12
abbrev impl_RowFault : Nat := 23
abbrev impl_rowText : Nat := 24
abbrev impl_RowText : Nat := 13
abbrev laws_FnExactRowText : Nat := 4
abbrev spec_l1Number : Nat := 33
abbrev spec_l1Words : Nat := 25
abbrev spec_l1Cut : Nat := 26
abbrev spec_ParseRow : Nat := 14
abbrev utf8_RuneCountInString : Nat := 40
abbrev utf8_DecodeRuneInString : Nat := 41
abbrev strings_explode : Nat := 36
abbrev strings_Index : Nat := 38
abbrev strings_Count : Nat := 37
abbrev strings_genSplit : Nat := 34
abbrev strings_Split : Nat := 27
abbrev impl_number : Nat := 28
abbrev impl_ParseRow : Nat := 15
abbrev laws_eqRow : Nat := 29
abbrev laws_eqRowResult : Nat := 16
abbrev laws_FnExactParseRow : Nat := 5
end Fn
def tab {α : Type} : List (Nat × α) → Nat → Option α
  | [], _ => none
  | (i, x) :: r, d => bif Nat.beq i d then some x else tab r d
theorem tab_mem {α : Type} {l : List (Nat × α)} {d : Nat} {x : α} (h : tab l d = some x) : (d, x) ∈ l := by
  induction l with
  | nil => simp [tab] at h
  | cons p r ih =>
    obtain ⟨i, y⟩ := p
    simp only [tab] at h
    by_cases hi : i = d
    · subst hi; simp at h; subst h; simp
    · rw [show Nat.beq i d = false from by
        cases hb : Nat.beq i d with
        | false => rfl
        | true => exact absurd (Nat.eq_of_beq_eq_true hb) hi] at h
      exact List.mem_cons_of_mem _ (ih h)
noncomputable def tyTab : List (Nat × TI) := [(2, ⟨1, 8, [.int .i64 0], false, .int .i64, false⟩),
  (3, ⟨1, 8, [.int .i64 0], false, .int .i64, false⟩),
  (4, ⟨1, 1, [.bool false], false, .bool, false⟩),
  (5, ⟨1, 1, [.int .u8 0], false, .int .u8, false⟩),
  (9, ⟨1, 16, [.str ⟨#[]⟩], false, .str, false⟩),
  (21, ⟨1, 4, [.int .i32 0], false, .int .i32, false⟩),
  (23, ⟨2, 16, [.int .i64 0, .int .i64 0], true, .st [(0, 2), (1, 2)], true⟩),
  (25, ⟨2, 24, [.int .i64 0, .str ⟨#[]⟩], true, .st [(0, 2), (1, 9)], true⟩),
  (27, ⟨2, 16, [.int .i64 0, .int .i64 0], true, .st [(0, 2), (1, 2)], true⟩),
  (32, ⟨4, 40, [.int .i64 0, .int .i64 0, .int .i64 0, .str ⟨#[]⟩], true, .st [(0, 2), (1, 2), (2, 2), (3, 9)], true⟩),
  (35, ⟨4, 40, [.int .i64 0, .int .i64 0, .int .i64 0, .str ⟨#[]⟩], true, .st [(0, 2), (1, 2), (2, 2), (3, 9)], true⟩),
  (39, ⟨5, 48, [.int .i64 0, .int .i64 0, .int .i64 0, .int .i64 0, .str ⟨#[]⟩], true, .st [(0, 2), (1, 35)], true⟩),
  (48, ⟨1, 8, [.ptr none], false, .ptr, false⟩),
  (54, ⟨1, 24, [.sl none 0], false, .sl 9, false⟩),
  (60, ⟨1, 24, [.sl none 0], false, .sl 5, false⟩),
  (71, ⟨24, 24, [.int .u8 0, .int .u8 0, .int .u8 0, .int .u8 0, .int .u8 0, .int .u8 0, .int .u8 0, .int .u8 0, .int .u8 0, .int .u8 0, .int .u8 0, .int .u8 0, .int .u8 0, .int .u8 0, .int .u8 0, .int .u8 0, .int .u8 0, .int .u8 0, .int .u8 0, .int .u8 0, .int .u8 0, .int .u8 0, .int .u8 0, .int .u8 0], true, .arr 24 5, false⟩),
  (72, ⟨1, 8, [.int .u64 0], false, .int .u64, false⟩),
  (78, ⟨1, 8, [.int .u64 0], false, .int .u64, false⟩),
  (81, ⟨1, 4, [.int .u32 0], false, .int .u32, false⟩)]
noncomputable def fnTab : List (Nat × Func) := [(17, Go.Proofs.Tryd.f17), (18, Go.Proofs.Tryd.f18), (6, Go.Proofs.Tryd.f6), (7, Go.Proofs.Tryd.f7), (30, Go.Proofs.Tryd.f30), (19, Go.Proofs.Tryd.f19), (44, Go.Proofs.Tryd.f44), (46, Go.Proofs.Tryd.f46), (56, Go.Proofs.Tryd.f56), (57, Go.Proofs.Tryd.f57), (39, Go.Proofs.Tryd.f39), (35, Go.Proofs.Tryd.f35), (31, Go.Proofs.Tryd.f31), (20, Go.Proofs.Tryd.f20), (8, Go.Proofs.Tryd.f8), (9, Go.Proofs.Tryd.f9), (3, Go.Proofs.Tryd.f3), (10, Go.Proofs.Tryd.f10), (32, Go.Proofs.Tryd.f32), (21, Go.Proofs.Tryd.f21), (22, Go.Proofs.Tryd.f22), (11, Go.Proofs.Tryd.f11), (12, Go.Proofs.Tryd.f12), (23, Go.Proofs.Tryd.f23), (24, Go.Proofs.Tryd.f24), (13, Go.Proofs.Tryd.f13), (4, Go.Proofs.Tryd.f4), (33, Go.Proofs.Tryd.f33), (25, Go.Proofs.Tryd.f25), (26, Go.Proofs.Tryd.f26), (14, Go.Proofs.Tryd.f14), (41, Go.Proofs.Tryd.f41), (36, Go.Proofs.Tryd.f36), (38, Go.Proofs.Tryd.f38), (37, Go.Proofs.Tryd.f37), (27, Go.Proofs.Tryd.f27), (28, Go.Proofs.Tryd.f28), (15, Go.Proofs.Tryd.f15), (29, Go.Proofs.Tryd.f29), (16, Go.Proofs.Tryd.f16), (5, Go.Proofs.Tryd.f5)]
def keepTab : List (Nat × List Nat) := [(23000, [1, 26, 27]),
  (26000, [0, 1, 5, 6, 7]),
  (28000, [0, 4, 25, 26]),
  (32000, [0, 3]),
  (33000, [0, 3, 4]),
  (34000, [0, 1, 2, 3, 9, 10]),
  (36000, [0, 1, 6, 7]),
  (37000, [0, 1, 5]),
  (40000, [2]),
  (46000, [0, 1, 4]),
  (47000, [0, 1, 3, 4, 10, 11, 12, 13, 14, 15, 16]),
  (47002, [0, 1, 3, 4, 10, 11, 12, 13, 17])]
def aftTab : List (Nat × List Nat) := [(23000, []),
  (26000, [5]),
  (28000, [4]),
  (32000, [0]),
  (33000, [3]),
  (34000, [0, 9, 10]),
  (36000, [0, 1, 6]),
  (37000, [4]),
  (40000, [2]),
  (46000, [0, 1, 4]),
  (47000, [0, 1, 3, 4, 10, 11, 12, 13]),
  (47002, [0, 1, 3, 4, 10, 11, 12, 13])]
def killTab : List (Nat × List Nat) := [(25006, [2])]
def schedTab : List (Nat × List (Nat × Nat)) := [(6003, [(0, 0), (1, 0), (4, 0), (5, 0), (2, 1), (3, 0), (6, 1), (7, 0), (8, 0), (9, 2)]),
  (18005, [(0, 0), (1, 0), (3, 0), (4, 0), (5, 0), (6, 0), (7, 8), (8, 8), (2, 7), (9, 3), (10, 3)]),
  (20001, [(0, 0), (1, 0), (4, 0), (5, 0), (2, 1), (3, 0), (6, 1), (7, 0), (8, 0)]),
  (22001, [(0, 0), (1, 0), (2, 0), (3, 0), (6, 0), (7, 0), (8, 0), (9, 0), (13, 0), (14, 0), (15, 0), (16, 0), (4, 1), (5, 0), (10, 1), (11, 0), (12, 0), (17, 1), (18, 0), (19, 0)]),
  (24001, [(0, 0), (1, 0), (4, 0), (5, 0), (9, 0), (10, 0), (2, 1), (3, 0), (6, 1), (7, 0), (8, 0), (11, 1), (12, 0), (13, 0)]),
  (25003, [(0, 0), (1, 0), (2, 0), (4, 0), (5, 0), (6, 0), (8, 0), (9, 0), (10, 0), (3, 5), (7, 5), (11, 5), (12, 3), (13, 6), (14, 2)]),
  (25006, [(0, 0), (1, 1), (2, 0), (3, 0), (4, 0), (5, 0), (6, 0), (7, 0), (8, 1), (9, 0)]),
  (25007, [(0, 0), (1, 1), (2, 3), (3, 2), (4, 2)]),
  (46007, [(0, 0), (1, 0), (2, 0), (6, 0), (7, 0), (8, 0), (11, 0), (3, 3), (4, 3), (5, 3), (9, 3), (10, 3), (12, 2), (13, 2), (14, 2)]),
  (46008, [(0, 0), (1, 0), (2, 0), (6, 0), (7, 0), (8, 0), (11, 0), (3, 3), (4, 3), (5, 3), (9, 3), (10, 3), (12, 2), (13, 2), (14, 2)]),
  (46009, [(0, 0), (1, 0), (2, 0), (6, 0), (7, 0), (8, 0), (11, 0), (3, 3), (4, 3), (5, 3), (9, 3), (10, 3), (12, 2), (13, 2), (14, 2)]),
  (46010, [(0, 0), (1, 0), (2, 0), (6, 0), (7, 0), (8, 0), (11, 0), (3, 3), (4, 3), (5, 3), (9, 3), (10, 3), (12, 2), (13, 2), (14, 2)]),
  (46017, [(0, 0), (1, 0), (2, 0), (6, 0), (7, 0), (8, 0), (11, 0), (3, 3), (4, 3), (5, 3), (9, 3), (10, 3), (12, 2), (13, 2), (14, 2)]),
  (46018, [(0, 0), (1, 0), (2, 0), (6, 0), (7, 0), (8, 0), (11, 0), (3, 3), (4, 3), (5, 3), (9, 3), (10, 3), (12, 2), (13, 2), (14, 2)]),
  (46023, [(0, 0), (1, 0), (2, 0), (6, 0), (7, 0), (8, 0), (11, 0), (3, 3), (4, 3), (5, 3), (9, 3), (10, 3), (12, 2), (13, 2), (14, 2)])]
def modeTab : List (Nat × Nat) := [(3006, 1),
  (3007, 1),
  (3009, 1),
  (3010, 1),
  (3013, 1),
  (4008, 1),
  (4012, 1),
  (4013, 1),
  (4015, 1),
  (4016, 1),
  (4019, 1),
  (5009, 1),
  (5011, 1),
  (5014, 1),
  (6005, 1),
  (6010, 1),
  (6016, 1),
  (6020, 1),
  (8007, 1),
  (8011, 1),
  (11004, 1),
  (11009, 1),
  (13005, 1),
  (13011, 1),
  (14007, 3),
  (14008, 1),
  (15012, 3),
  (15026, 1),
  (15033, 1),
  (15040, 1),
  (15076, 1),
  (16014, 1),
  (18007, 1),
  (18018, 1),
  (19006, 1),
  (19009, 1),
  (20005, 1),
  (20009, 1),
  (21007, 1),
  (21014, 1),
  (21022, 1),
  (21029, 1),
  (22008, 1),
  (22014, 1),
  (22021, 1),
  (23006, 1),
  (23011, 1),
  (23017, 1),
  (24006, 1),
  (24010, 1),
  (24015, 1),
  (25017, 1),
  (25021, 1),
  (25025, 1),
  (25035, 1),
  (25043, 1),
  (27007, 3),
  (31004, 1),
  (34018, 3),
  (34023, 1),
  (34039, 1),
  (35007, 1),
  (36011, 1),
  (36030, 1),
  (37011, 1),
  (37019, 1),
  (37022, 1),
  (38007, 1),
  (39019, 1),
  (39027, 1),
  (41016, 1),
  (47034, 1),
  (47037, 1),
  (57005, 1),
  (57007, 1)]
def pszTab : List (Nat × List Nat) := [(21, [4]),
  (22, [4])]
def vtTab : List (Nat × VT) := [(2, .one (.i .i64)),
  (3, .one (.i .i64)),
  (4, .one (.b)),
  (5, .one (.i .u8)),
  (9, .one (.s)),
  (21, .one (.i .i32)),
  (23, .agg [.i .i64, .i .i64]),
  (25, .agg [.i .i64, .s]),
  (27, .agg [.i .i64, .i .i64]),
  (32, .agg [.i .i64, .i .i64, .i .i64, .s]),
  (35, .agg [.i .i64, .i .i64, .i .i64, .s]),
  (39, .agg [.i .i64, .i .i64, .i .i64, .i .i64, .s]),
  (52, .tup [([.i .i64, .i .i64, .i .i64, .s], true), ([.b], false)]),
  (57, .tup [([.i .i64], false), ([.b], false)]),
  (67, .tup [([.i .i32], false), ([.i .i64], false)]),
  (72, .one (.i .u64)),
  (75, .tup [([.x], false), ([.s], false)]),
  (78, .one (.i .u64)),
  (81, .one (.i .u32))]
def vfTab : List (Nat × VT) := [(2, .one (.i .i64)),
  (3, .one (.i .i64)),
  (4, .one (.b)),
  (5, .one (.i .u8)),
  (9, .one (.s)),
  (21, .one (.i .i32)),
  (23, .agg [.i .i64, .i .i64]),
  (25, .agg [.i .i64, .s]),
  (27, .agg [.i .i64, .i .i64]),
  (32, .agg [.i .i64, .i .i64, .i .i64, .s]),
  (35, .agg [.i .i64, .i .i64, .i .i64, .s]),
  (39, .agg [.i .i64, .i .i64, .i .i64, .i .i64, .s]),
  (54, .one (.f)),
  (60, .one (.f)),
  (71, .agg [.i .u8, .i .u8, .i .u8, .i .u8, .i .u8, .i .u8, .i .u8, .i .u8, .i .u8, .i .u8, .i .u8, .i .u8, .i .u8, .i .u8, .i .u8, .i .u8, .i .u8, .i .u8, .i .u8, .i .u8, .i .u8, .i .u8, .i .u8, .i .u8]),
  (72, .one (.i .u64)),
  (78, .one (.i .u64)),
  (81, .one (.i .u32))]
def rtTab : List (Nat × VT) := [(17, .one (.b)),
  (18, .one (.s)),
  (6, .agg [.i .i64, .s]),
  (7, .agg [.i .i64, .i .i64]),
  (30, .one (.b)),
  (19, .one (.b)),
  (44, .one (.s)),
  (56, .one (.b)),
  (57, .one (.i .i64)),
  (39, .one (.s)),
  (35, .one (.s)),
  (31, .one (.s)),
  (20, .one (.s)),
  (8, .agg [.i .i64, .s]),
  (9, .one (.b)),
  (3, .one (.b)),
  (10, .one (.i .i64)),
  (32, .one (.b)),
  (21, .one (.i .i64)),
  (22, .one (.s)),
  (11, .agg [.i .i64, .s]),
  (12, .agg [.i .i64, .i .i64, .i .i64, .s]),
  (23, .one (.i .i64)),
  (24, .one (.s)),
  (13, .agg [.i .i64, .s]),
  (4, .one (.b)),
  (33, .one (.i .i64)),
  (25, .tup [([.i .i64, .i .i64, .i .i64, .s], true), ([.b], false)]),
  (26, .one (.f)),
  (14, .agg [.i .i64, .i .i64, .i .i64, .i .i64, .s]),
  (41, .tup [([.i .i32], false), ([.i .i64], false)]),
  (36, .one (.f)),
  (38, .one (.i .i64)),
  (37, .one (.i .i64)),
  (27, .one (.f)),
  (28, .tup [([.i .i64], false), ([.b], false)]),
  (15, .agg [.i .i64, .i .i64, .i .i64, .i .i64, .s]),
  (29, .one (.b)),
  (16, .one (.b)),
  (5, .one (.b))]
def stTab : List (Nat × VT) := [(46001, .one (.i .u64)),
  (46004, .one (.i .i64)),
  (32000, .one (.s)),
  (33003, .one (.i .i64)),
  (36000, .one (.s)),
  (36001, .one (.i .i64)),
  (37004, .one (.i .i64)),
  (28004, .one (.i .i64))]
noncomputable def Ev : Env where
  fn := tab fnTab
  ty := tab tyTab
  keep := fun f i => (tab keepTab (f * 1000 + i)).getD []
  aft := fun f i => (tab aftTab (f * 1000 + i)).getD []
  sched := fun f i => (tab schedTab (f * 1000 + i)).getD []
  kills := fun f i => (tab killTab (f * 1000 + i)).getD []
  mode := fun f i => (tab modeTab (f * 1000 + i)).getD 0
  psz := fun f => (tab pszTab f).getD []
  vt := fun t => (tab vtTab t).getD .any
  vf := fun t => (tab vfTab t).getD .any
  rt := fun f => (tab rtTab f).getD .any
  st := fun f i => (tab stTab (f * 1000 + i)).getD .any
namespace Lp
noncomputable def strconv_formatBase10 (id : Nat) (l : List V) (h : H) : Option LOut := loop Ev Fn.strconv_formatBase10 Go.Proofs.Tryd.f46 id (lbody Go.Proofs.Tryd.f46 id) l h
noncomputable def spec_l1Text (id : Nat) (l : List V) (h : H) : Option LOut := loop Ev Fn.spec_l1Text Go.Proofs.Tryd.f32 id (lbody Go.Proofs.Tryd.f32 id) l h
noncomputable def impl_RowFault (id : Nat) (l : List V) (h : H) : Option LOut := loop Ev Fn.impl_RowFault Go.Proofs.Tryd.f23 id (lbody Go.Proofs.Tryd.f23 id) l h
noncomputable def spec_l1Number (id : Nat) (l : List V) (h : H) : Option LOut := loop Ev Fn.spec_l1Number Go.Proofs.Tryd.f33 id (lbody Go.Proofs.Tryd.f33 id) l h
noncomputable def spec_l1Cut (id : Nat) (l : List V) (h : H) : Option LOut := loop Ev Fn.spec_l1Cut Go.Proofs.Tryd.f26 id (lbody Go.Proofs.Tryd.f26 id) l h
noncomputable def strings_explode (id : Nat) (l : List V) (h : H) : Option LOut := loop Ev Fn.strings_explode Go.Proofs.Tryd.f36 id (lbody Go.Proofs.Tryd.f36 id) l h
noncomputable def strings_Count (id : Nat) (l : List V) (h : H) : Option LOut := loop Ev Fn.strings_Count Go.Proofs.Tryd.f37 id (lbody Go.Proofs.Tryd.f37 id) l h
noncomputable def impl_number (id : Nat) (l : List V) (h : H) : Option LOut := loop Ev Fn.impl_number Go.Proofs.Tryd.f28 id (lbody Go.Proofs.Tryd.f28 id) l h
end Lp
theorem ty2 : TyOk Go.Proofs.Tryd.prog 2 ⟨1, 8, [.int .i64 0], false, .int .i64, false⟩ := ⟨by kernel_rfl, by kernel_rfl, ⟨by decide, by rfl⟩, by kernel_rfl, by kernel_rfl, by kernel_rfl⟩
theorem ty3 : TyOk Go.Proofs.Tryd.prog 3 ⟨1, 8, [.int .i64 0], false, .int .i64, false⟩ := ⟨by kernel_rfl, by kernel_rfl, ⟨by decide, by rfl⟩, by kernel_rfl, by kernel_rfl, by kernel_rfl⟩
theorem ty4 : TyOk Go.Proofs.Tryd.prog 4 ⟨1, 1, [.bool false], false, .bool, false⟩ := ⟨by kernel_rfl, by kernel_rfl, ⟨by decide, by rfl⟩, by kernel_rfl, by kernel_rfl, by kernel_rfl⟩
theorem ty5 : TyOk Go.Proofs.Tryd.prog 5 ⟨1, 1, [.int .u8 0], false, .int .u8, false⟩ := ⟨by kernel_rfl, by kernel_rfl, ⟨by decide, by rfl⟩, by kernel_rfl, by kernel_rfl, by kernel_rfl⟩
theorem ty9 : TyOk Go.Proofs.Tryd.prog 9 ⟨1, 16, [.str ⟨#[]⟩], false, .str, false⟩ := ⟨by kernel_rfl, by kernel_rfl, ⟨by decide, by rfl⟩, by kernel_rfl, by kernel_rfl, by kernel_rfl⟩
theorem ty21 : TyOk Go.Proofs.Tryd.prog 21 ⟨1, 4, [.int .i32 0], false, .int .i32, false⟩ := ⟨by kernel_rfl, by kernel_rfl, ⟨by decide, by rfl⟩, by kernel_rfl, by kernel_rfl, by kernel_rfl⟩
theorem ty23 : TyOk Go.Proofs.Tryd.prog 23 ⟨2, 16, [.int .i64 0, .int .i64 0], true, .st [(0, 2), (1, 2)], true⟩ := ⟨by kernel_rfl, by kernel_rfl, ⟨by decide, by rfl⟩, by kernel_rfl, by kernel_rfl, by kernel_rfl⟩
theorem ty25 : TyOk Go.Proofs.Tryd.prog 25 ⟨2, 24, [.int .i64 0, .str ⟨#[]⟩], true, .st [(0, 2), (1, 9)], true⟩ := ⟨by kernel_rfl, by kernel_rfl, ⟨by decide, by rfl⟩, by kernel_rfl, by kernel_rfl, by kernel_rfl⟩
theorem ty27 : TyOk Go.Proofs.Tryd.prog 27 ⟨2, 16, [.int .i64 0, .int .i64 0], true, .st [(0, 2), (1, 2)], true⟩ := ⟨by kernel_rfl, by kernel_rfl, ⟨by decide, by rfl⟩, by kernel_rfl, by kernel_rfl, by kernel_rfl⟩
theorem ty32 : TyOk Go.Proofs.Tryd.prog 32 ⟨4, 40, [.int .i64 0, .int .i64 0, .int .i64 0, .str ⟨#[]⟩], true, .st [(0, 2), (1, 2), (2, 2), (3, 9)], true⟩ := ⟨by kernel_rfl, by kernel_rfl, ⟨by decide, by rfl⟩, by kernel_rfl, by kernel_rfl, by kernel_rfl⟩
theorem ty35 : TyOk Go.Proofs.Tryd.prog 35 ⟨4, 40, [.int .i64 0, .int .i64 0, .int .i64 0, .str ⟨#[]⟩], true, .st [(0, 2), (1, 2), (2, 2), (3, 9)], true⟩ := ⟨by kernel_rfl, by kernel_rfl, ⟨by decide, by rfl⟩, by kernel_rfl, by kernel_rfl, by kernel_rfl⟩
theorem ty39 : TyOk Go.Proofs.Tryd.prog 39 ⟨5, 48, [.int .i64 0, .int .i64 0, .int .i64 0, .int .i64 0, .str ⟨#[]⟩], true, .st [(0, 2), (1, 35)], true⟩ := ⟨by kernel_rfl, by kernel_rfl, ⟨by decide, by rfl⟩, by kernel_rfl, by kernel_rfl, by kernel_rfl⟩
theorem ty48 : TyOk Go.Proofs.Tryd.prog 48 ⟨1, 8, [.ptr none], false, .ptr, false⟩ := ⟨by kernel_rfl, by kernel_rfl, ⟨by decide, by rfl⟩, by kernel_rfl, by kernel_rfl, by kernel_rfl⟩
theorem ty54 : TyOk Go.Proofs.Tryd.prog 54 ⟨1, 24, [.sl none 0], false, .sl 9, false⟩ := ⟨by kernel_rfl, by kernel_rfl, ⟨by decide, by rfl⟩, by kernel_rfl, by kernel_rfl, by kernel_rfl⟩
theorem ty60 : TyOk Go.Proofs.Tryd.prog 60 ⟨1, 24, [.sl none 0], false, .sl 5, false⟩ := ⟨by kernel_rfl, by kernel_rfl, ⟨by decide, by rfl⟩, by kernel_rfl, by kernel_rfl, by kernel_rfl⟩
theorem ty71 : TyOk Go.Proofs.Tryd.prog 71 ⟨24, 24, [.int .u8 0, .int .u8 0, .int .u8 0, .int .u8 0, .int .u8 0, .int .u8 0, .int .u8 0, .int .u8 0, .int .u8 0, .int .u8 0, .int .u8 0, .int .u8 0, .int .u8 0, .int .u8 0, .int .u8 0, .int .u8 0, .int .u8 0, .int .u8 0, .int .u8 0, .int .u8 0, .int .u8 0, .int .u8 0, .int .u8 0, .int .u8 0], true, .arr 24 5, false⟩ := ⟨by kernel_rfl, by kernel_rfl, ⟨by decide, by rfl⟩, by kernel_rfl, by kernel_rfl, by kernel_rfl⟩
theorem ty72 : TyOk Go.Proofs.Tryd.prog 72 ⟨1, 8, [.int .u64 0], false, .int .u64, false⟩ := ⟨by kernel_rfl, by kernel_rfl, ⟨by decide, by rfl⟩, by kernel_rfl, by kernel_rfl, by kernel_rfl⟩
theorem ty78 : TyOk Go.Proofs.Tryd.prog 78 ⟨1, 8, [.int .u64 0], false, .int .u64, false⟩ := ⟨by kernel_rfl, by kernel_rfl, ⟨by decide, by rfl⟩, by kernel_rfl, by kernel_rfl, by kernel_rfl⟩
theorem ty81 : TyOk Go.Proofs.Tryd.prog 81 ⟨1, 4, [.int .u32 0], false, .int .u32, false⟩ := ⟨by kernel_rfl, by kernel_rfl, ⟨by decide, by rfl⟩, by kernel_rfl, by kernel_rfl, by kernel_rfl⟩
def FnOk (f : Nat) (fn : Func) : Prop := Go.Proofs.Tryd.prog.funcs[f]? = some fn ∧ (fn.name == "runtime.NumGoroutine") = false ∧ ∀ c, fn.body = some c → wfCode Ev f fn.ntmps c = true
noncomputable def wfB (f : Nat) (fn : Func) : Bool := match fn.body with | none => true | some c => wfCode Ev f fn.ntmps c
theorem FnOk.of {f : Nat} {fn : Func} (h1 : Go.Proofs.Tryd.prog.funcs[f]? = some fn) (h2 : (fn.name == "runtime.NumGoroutine") = false) (h3 : wfB f fn = true) : FnOk f fn := ⟨h1, h2, fun c hc => by unfold wfB at h3; rw [hc] at h3; exact h3⟩
theorem fok17 : FnOk 17 Go.Proofs.Tryd.f17 := .of Go.Proofs.Tryd.func17 (by kernel_rfl) (by kernel_rfl)
theorem fok18 : FnOk 18 Go.Proofs.Tryd.f18 := .of Go.Proofs.Tryd.func18 (by kernel_rfl) (by kernel_rfl)
theorem fok6 : FnOk 6 Go.Proofs.Tryd.f6 := .of Go.Proofs.Tryd.func6 (by kernel_rfl) (by kernel_rfl)
theorem fok7 : FnOk 7 Go.Proofs.Tryd.f7 := .of Go.Proofs.Tryd.func7 (by kernel_rfl) (by kernel_rfl)
theorem fok30 : FnOk 30 Go.Proofs.Tryd.f30 := .of Go.Proofs.Tryd.func30 (by kernel_rfl) (by kernel_rfl)
theorem fok19 : FnOk 19 Go.Proofs.Tryd.f19 := .of Go.Proofs.Tryd.func19 (by kernel_rfl) (by kernel_rfl)
theorem fok44 : FnOk 44 Go.Proofs.Tryd.f44 := .of Go.Proofs.Tryd.func44 (by kernel_rfl) (by kernel_rfl)
theorem fok46 : FnOk 46 Go.Proofs.Tryd.f46 := .of Go.Proofs.Tryd.func46 (by kernel_rfl) (by kernel_rfl)
theorem fok56 : FnOk 56 Go.Proofs.Tryd.f56 := .of Go.Proofs.Tryd.func56 (by kernel_rfl) (by kernel_rfl)
theorem fok57 : FnOk 57 Go.Proofs.Tryd.f57 := .of Go.Proofs.Tryd.func57 (by kernel_rfl) (by kernel_rfl)
theorem fok39 : FnOk 39 Go.Proofs.Tryd.f39 := .of Go.Proofs.Tryd.func39 (by kernel_rfl) (by kernel_rfl)
theorem fok35 : FnOk 35 Go.Proofs.Tryd.f35 := .of Go.Proofs.Tryd.func35 (by kernel_rfl) (by kernel_rfl)
theorem fok31 : FnOk 31 Go.Proofs.Tryd.f31 := .of Go.Proofs.Tryd.func31 (by kernel_rfl) (by kernel_rfl)
theorem fok20 : FnOk 20 Go.Proofs.Tryd.f20 := .of Go.Proofs.Tryd.func20 (by kernel_rfl) (by kernel_rfl)
theorem fok8 : FnOk 8 Go.Proofs.Tryd.f8 := .of Go.Proofs.Tryd.func8 (by kernel_rfl) (by kernel_rfl)
theorem fok9 : FnOk 9 Go.Proofs.Tryd.f9 := .of Go.Proofs.Tryd.func9 (by kernel_rfl) (by kernel_rfl)
theorem fok3 : FnOk 3 Go.Proofs.Tryd.f3 := .of Go.Proofs.Tryd.func3 (by kernel_rfl) (by kernel_rfl)
theorem fok10 : FnOk 10 Go.Proofs.Tryd.f10 := .of Go.Proofs.Tryd.func10 (by kernel_rfl) (by kernel_rfl)
theorem fok32 : FnOk 32 Go.Proofs.Tryd.f32 := .of Go.Proofs.Tryd.func32 (by kernel_rfl) (by kernel_rfl)
theorem fok21 : FnOk 21 Go.Proofs.Tryd.f21 := .of Go.Proofs.Tryd.func21 (by kernel_rfl) (by kernel_rfl)
theorem fok22 : FnOk 22 Go.Proofs.Tryd.f22 := .of Go.Proofs.Tryd.func22 (by kernel_rfl) (by kernel_rfl)
theorem fok11 : FnOk 11 Go.Proofs.Tryd.f11 := .of Go.Proofs.Tryd.func11 (by kernel_rfl) (by kernel_rfl)
theorem fok12 : FnOk 12 Go.Proofs.Tryd.f12 := .of Go.Proofs.Tryd.func12 (by kernel_rfl) (by kernel_rfl)
theorem fok23 : FnOk 23 Go.Proofs.Tryd.f23 := .of Go.Proofs.Tryd.func23 (by kernel_rfl) (by kernel_rfl)
theorem fok24 : FnOk 24 Go.Proofs.Tryd.f24 := .of Go.Proofs.Tryd.func24 (by kernel_rfl) (by kernel_rfl)
theorem fok13 : FnOk 13 Go.Proofs.Tryd.f13 := .of Go.Proofs.Tryd.func13 (by kernel_rfl) (by kernel_rfl)
theorem fok4 : FnOk 4 Go.Proofs.Tryd.f4 := .of Go.Proofs.Tryd.func4 (by kernel_rfl) (by kernel_rfl)
theorem fok33 : FnOk 33 Go.Proofs.Tryd.f33 := .of Go.Proofs.Tryd.func33 (by kernel_rfl) (by kernel_rfl)
theorem fok25 : FnOk 25 Go.Proofs.Tryd.f25 := .of Go.Proofs.Tryd.func25 (by kernel_rfl) (by kernel_rfl)
theorem fok26 : FnOk 26 Go.Proofs.Tryd.f26 := .of Go.Proofs.Tryd.func26 (by kernel_rfl) (by kernel_rfl)
theorem fok14 : FnOk 14 Go.Proofs.Tryd.f14 := .of Go.Proofs.Tryd.func14 (by kernel_rfl) (by kernel_rfl)
theorem fok41 : FnOk 41 Go.Proofs.Tryd.f41 := .of Go.Proofs.Tryd.func41 (by kernel_rfl) (by kernel_rfl)
theorem fok36 : FnOk 36 Go.Proofs.Tryd.f36 := .of Go.Proofs.Tryd.func36 (by kernel_rfl) (by kernel_rfl)
theorem fok38 : FnOk 38 Go.Proofs.Tryd.f38 := .of Go.Proofs.Tryd.func38 (by kernel_rfl) (by kernel_rfl)
theorem fok37 : FnOk 37 Go.Proofs.Tryd.f37 := .of Go.Proofs.Tryd.func37 (by kernel_rfl) (by kernel_rfl)
theorem fok27 : FnOk 27 Go.Proofs.Tryd.f27 := .of Go.Proofs.Tryd.func27 (by kernel_rfl) (by kernel_rfl)
theorem fok28 : FnOk 28 Go.Proofs.Tryd.f28 := .of Go.Proofs.Tryd.func28 (by kernel_rfl) (by kernel_rfl)
theorem fok15 : FnOk 15 Go.Proofs.Tryd.f15 := .of Go.Proofs.Tryd.func15 (by kernel_rfl) (by kernel_rfl)
theorem fok29 : FnOk 29 Go.Proofs.Tryd.f29 := .of Go.Proofs.Tryd.func29 (by kernel_rfl) (by kernel_rfl)
theorem fok16 : FnOk 16 Go.Proofs.Tryd.f16 := .of Go.Proofs.Tryd.func16 (by kernel_rfl) (by kernel_rfl)
theorem fok5 : FnOk 5 Go.Proofs.Tryd.f5 := .of Go.Proofs.Tryd.func5 (by kernel_rfl) (by kernel_rfl)
theorem all_cons {α : Type} {Q : Nat → α → Prop} {i : Nat} {x : α} {l : List (Nat × α)} (h : Q i x) (hl : ∀ d y, (d, y) ∈ l → Q d y) : ∀ d y, (d, y) ∈ (i, x) :: l → Q d y := by
  intro d y hm
  rcases List.mem_cons.1 hm with hm | hm
  · cases hm; exact h
  · exact hl d y hm
theorem all_nil {α : Type} {Q : Nat → α → Prop} : ∀ d y, (d, y) ∈ ([] : List (Nat × α)) → Q d y := fun _ _ h => by cases h
theorem ty_all : ∀ d y, (d, y) ∈ tyTab → TyOk Go.Proofs.Tryd.prog d y := all_cons ty2 (all_cons ty3 (all_cons ty4 (all_cons ty5 (all_cons ty9 (all_cons ty21 (all_cons ty23 (all_cons ty25 (all_cons ty27 (all_cons ty32 (all_cons ty35 (all_cons ty39 (all_cons ty48 (all_cons ty54 (all_cons ty60 (all_cons ty71 (all_cons ty72 (all_cons ty78 (all_cons ty81 (all_nil)))))))))))))))))))
theorem fn_all : ∀ d y, (d, y) ∈ fnTab → FnOk d y := all_cons fok17 (all_cons fok18 (all_cons fok6 (all_cons fok7 (all_cons fok30 (all_cons fok19 (all_cons fok44 (all_cons fok46 (all_cons fok56 (all_cons fok57 (all_cons fok39 (all_cons fok35 (all_cons fok31 (all_cons fok20 (all_cons fok8 (all_cons fok9 (all_cons fok3 (all_cons fok10 (all_cons fok32 (all_cons fok21 (all_cons fok22 (all_cons fok11 (all_cons fok12 (all_cons fok23 (all_cons fok24 (all_cons fok13 (all_cons fok4 (all_cons fok33 (all_cons fok25 (all_cons fok26 (all_cons fok14 (all_cons fok41 (all_cons fok36 (all_cons fok38 (all_cons fok37 (all_cons fok27 (all_cons fok28 (all_cons fok15 (all_cons fok29 (all_cons fok16 (all_cons fok5 (all_nil)))))))))))))))))))))))))))))))))))))))))
theorem Ev_ok : EnvOk Go.Proofs.Tryd.prog Ev := ⟨by kernel_rfl, fun t ti h => ty_all t ti (tab_mem h), fun f fn h => fn_all f fn (tab_mem h)⟩
end Vm
