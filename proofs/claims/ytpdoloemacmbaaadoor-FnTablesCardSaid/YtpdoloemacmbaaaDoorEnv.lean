/-
  The types and the functions that the small machine asks for, and that they are the program's. Written by a program (gen3.py).
-/
import Derived.Test.YtpdoloemacmbaaaDoorVmR
import Derived.Test.YtpdoloemacmbaaaDoorProg
import Derived.KernelRfl
set_option linter.unusedVariables false
set_option maxRecDepth 100000
namespace Vm
open Go
namespace Fn
abbrev laws_lwBig : Nat := 5
abbrev spec_l1Source : Nat := 26
abbrev spec_l1Next : Nat := 29
abbrev spec_l1Pick : Nat := 30
abbrev spec_l1Draw : Nat := 27
abbrev spec_l1Bent : Nat := 36
abbrev spec_l1Chance : Nat := 41
abbrev spec_l6At : Nat := 61
abbrev spec_l1Before : Nat := 65
abbrev spec_l6Put : Nat := 73
abbrev spec_l6DrawRows : Nat := 72
abbrev spec_l6BentRows : Nat := 59
abbrev spec_l8Rows : Nat := 60
abbrev spec_l8Bent : Nat := 39
abbrev spec_l8Change : Nat := 40
abbrev spec_DrawMayBe : Nat := 15
abbrev impl_IsBefore : Nat := 11
abbrev impl_in : Nat := 38
abbrev impl_RowFault : Nat := 14
abbrev impl_RowsFault : Nat := 42
abbrev impl_order : Nat := 62
abbrev impl_changeFault : Nat := 43
abbrev impl_longest : Nat := 48
abbrev impl_Change_key : Nat := 63
abbrev impl_tableMayBe : Nat := 64
abbrev impl_mayBe : Nat := 44
abbrev impl_MayBe : Nat := 16
abbrev spec_l1In : Nat := 49
abbrev spec_l1Text : Nat := 58
abbrev spec_l1Fault : Nat := 37
abbrev spec_l6Rows : Nat := 45
abbrev spec_l6Change : Nat := 46
abbrev spec_l8Longest : Nat := 50
abbrev spec_l6Key : Nat := 66
abbrev spec_l8Catalog : Nat := 67
abbrev spec_l8May : Nat := 47
abbrev spec_MayBe : Nat := 17
abbrev spec_DrawLongestIn : Nat := 18
abbrev impl_LongestIn : Nat := 19
abbrev impl_TablesIn : Nat := 20
abbrev spec_LongestIn : Nat := 21
abbrev spec_l8Tables : Nat := 51
abbrev spec_TablesIn : Nat := 22
abbrev spec_DrawKeyText : Nat := 23
abbrev impl_isKey : Nat := 52
abbrev strconv_small : Nat := 84
abbrev strconv_formatBase10 : Nat := 86
abbrev strconv_isPowerOfTwo : Nat := 93
abbrev bits_TrailingZeros : Nat := 94
abbrev strconv_formatBits : Nat := 87
abbrev strconv_FormatInt_1 : Nat := 78
abbrev strconv_FormatInt_0 : Nat := 71
abbrev impl_digits : Nat := 56
abbrev impl_keyText : Nat := 53
abbrev impl_KeyText : Nat := 24
abbrev spec_l1Digits : Nat := 54
abbrev spec_KeyText : Nat := 25
abbrev laws_FnTables : Nat := 4
end Fn
def tab {α : Type} : List (Nat × α) → Nat → Option α
  | [], _ => none
  | (i, x) :: r, d => bif Nat.beq i d then some x else tab r d
theorem tab_mem {α : Type} {l : List (Nat × α)} {d : Nat} {x : α} (h : tab l d = some x) : (d, x) ∈ l := by
  induction l with
  | nil => simp [tab] at h
  | cons p r ih =>
    obtain ⟨i, y⟩ := p
    simp only [tab] at h
    by_cases hi : i = d
    · subst hi; simp at h; subst h; simp
    · rw [show Nat.beq i d = false from by
        cases hb : Nat.beq i d with
        | false => rfl
        | true => exact absurd (Nat.eq_of_beq_eq_true hb) hi] at h
      exact List.mem_cons_of_mem _ (ih h)
noncomputable def tyTab : List (Nat × TI) := [(2, ⟨1, 8, [.int .i64 0], false, .int .i64, false⟩),
  (3, ⟨1, 8, [.int .i64 0], false, .int .i64, false⟩),
  (4, ⟨1, 1, [.bool false], false, .bool, false⟩),
  (5, ⟨1, 1, [.int .u8 0], false, .int .u8, false⟩),
  (9, ⟨1, 16, [.str ⟨#[]⟩], false, .str, false⟩),
  (22, ⟨1, 24, [.sl none 0], false, .sl 5, false⟩),
  (26, ⟨4, 40, [.int .i64 0, .int .i64 0, .int .i64 0, .str ⟨#[]⟩], true, .st [(0, 2), (1, 2), (2, 2), (3, 9)], true⟩),
  (31, ⟨2, 24, [.int .i64 0, .str ⟨#[]⟩], true, .st [(0, 2), (1, 9)], true⟩),
  (38, ⟨1, 24, [.sl none 0], false, .sl 26, false⟩),
  (40, ⟨10, 96, [.bool false, .int .i64 0, .int .i64 0, .int .i64 0, .str ⟨#[]⟩, .bool false, .int .i64 0, .int .i64 0, .int .i64 0, .str ⟨#[]⟩], true, .st [(0, 4), (1, 26), (5, 4), (6, 26)], true⟩),
  (47, ⟨2, 16, [.int .i64 0, .int .i64 0], true, .st [(0, 2), (1, 2)], true⟩),
  (50, ⟨2, 32, [.int .i64 0, .sl none 0], true, .st [(0, 2), (1, 38)], false⟩),
  (53, ⟨2, 16, [.int .i64 0, .int .i64 0], true, .st [(0, 2), (1, 2)], true⟩),
  (56, ⟨1, 8, [.ptr none], false, .ptr, false⟩),
  (60, ⟨1, 8, [.ptr none], false, .ptr, false⟩),
  (63, ⟨1, 24, [.sl none 0], false, .sl 9, false⟩),
  (79, ⟨1, 8, [.ptr none], false, .ptr, false⟩),
  (88, ⟨2, 32, [.sl none 0, .int .i64 0], true, .st [(0, 22), (1, 2)], false⟩),
  (89, ⟨1, 24, [.sl none 0], false, .sl 2, false⟩),
  (108, ⟨1, 8, [.int .u64 0], false, .int .u64, false⟩),
  (110, ⟨24, 24, [.int .u8 0, .int .u8 0, .int .u8 0, .int .u8 0, .int .u8 0, .int .u8 0, .int .u8 0, .int .u8 0, .int .u8 0, .int .u8 0, .int .u8 0, .int .u8 0, .int .u8 0, .int .u8 0, .int .u8 0, .int .u8 0, .int .u8 0, .int .u8 0, .int .u8 0, .int .u8 0, .int .u8 0, .int .u8 0, .int .u8 0, .int .u8 0], true, .arr 24 5, false⟩),
  (111, ⟨1, 8, [.int .u64 0], false, .int .u64, false⟩),
  (120, ⟨1, 4, [.int .u32 0], false, .int .u32, false⟩)]
noncomputable def fnTab : List (Nat × Func) := [(5, Go.Proofs.Tryd.f5), (26, Go.Proofs.Tryd.f26), (29, Go.Proofs.Tryd.f29), (30, Go.Proofs.Tryd.f30), (27, Go.Proofs.Tryd.f27), (36, Go.Proofs.Tryd.f36), (41, Go.Proofs.Tryd.f41), (61, Go.Proofs.Tryd.f61), (65, Go.Proofs.Tryd.f65), (73, Go.Proofs.Tryd.f73), (72, Go.Proofs.Tryd.f72), (59, Go.Proofs.Tryd.f59), (60, Go.Proofs.Tryd.f60), (39, Go.Proofs.Tryd.f39), (40, Go.Proofs.Tryd.f40), (15, Go.Proofs.Tryd.f15), (11, Go.Proofs.Tryd.f11), (38, Go.Proofs.Tryd.f38), (14, Go.Proofs.Tryd.f14), (42, Go.Proofs.Tryd.f42), (62, Go.Proofs.Tryd.f62), (43, Go.Proofs.Tryd.f43), (48, Go.Proofs.Tryd.f48), (63, Go.Proofs.Tryd.f63), (64, Go.Proofs.Tryd.f64), (44, Go.Proofs.Tryd.f44), (16, Go.Proofs.Tryd.f16), (49, Go.Proofs.Tryd.f49), (58, Go.Proofs.Tryd.f58), (37, Go.Proofs.Tryd.f37), (45, Go.Proofs.Tryd.f45), (46, Go.Proofs.Tryd.f46), (50, Go.Proofs.Tryd.f50), (66, Go.Proofs.Tryd.f66), (67, Go.Proofs.Tryd.f67), (47, Go.Proofs.Tryd.f47), (17, Go.Proofs.Tryd.f17), (18, Go.Proofs.Tryd.f18), (19, Go.Proofs.Tryd.f19), (20, Go.Proofs.Tryd.f20), (21, Go.Proofs.Tryd.f21), (51, Go.Proofs.Tryd.f51), (22, Go.Proofs.Tryd.f22), (23, Go.Proofs.Tryd.f23), (52, Go.Proofs.Tryd.f52), (84, Go.Proofs.Tryd.f84), (86, Go.Proofs.Tryd.f86), (93, Go.Proofs.Tryd.f93), (94, Go.Proofs.Tryd.f94), (78, Go.Proofs.Tryd.f78), (71, Go.Proofs.Tryd.f71), (56, Go.Proofs.Tryd.f56), (53, Go.Proofs.Tryd.f53), (24, Go.Proofs.Tryd.f24), (54, Go.Proofs.Tryd.f54), (25, Go.Proofs.Tryd.f25), (4, Go.Proofs.Tryd.f4)]
def keepTab : List (Nat × List Nat) := [(14000, [1, 26, 27]),
  (20000, [2, 4, 13, 14, 15]),
  (42000, [0, 9, 10, 11]),
  (45000, [0, 3]),
  (48000, [1, 8, 9, 10]),
  (51000, [0, 3, 4]),
  (58000, [0, 3]),
  (60000, [0, 3, 4]),
  (61000, [0, 1, 2, 7]),
  (64000, [3, 28, 29, 30]),
  (67000, [0, 1, 6, 7]),
  (72000, [0, 3, 4]),
  (73000, [0, 3, 5]),
  (86000, [0, 1, 4]),
  (87000, [0, 1, 3, 4, 10, 11, 12, 13, 14, 15, 16]),
  (87002, [0, 1, 3, 4, 10, 11, 12, 13, 17])]
def aftTab : List (Nat × List Nat) := [(14000, []),
  (20000, [2, 4]),
  (42000, []),
  (45000, []),
  (48000, []),
  (51000, [3]),
  (58000, [0]),
  (60000, [3]),
  (61000, []),
  (64000, []),
  (67000, []),
  (72000, [3]),
  (73000, [0, 3, 5]),
  (86000, [0, 1, 4]),
  (87000, [0, 1, 3, 4, 10, 11, 12, 13]),
  (87002, [0, 1, 3, 4, 10, 11, 12, 13])]
def killTab : List (Nat × List Nat) := []
def schedTab : List (Nat × List (Nat × Nat)) := [(4010, [(0, 0), (1, 0), (2, 0), (3, 0), (4, 1), (5, 0), (6, 0), (7, 0), (8, 0), (9, 0), (10, 0), (11, 0), (12, 1), (13, 0), (14, 0), (15, 0), (16, 0), (17, 0), (18, 0), (19, 0), (20, 1), (21, 3), (22, 3), (23, 3), (24, 3), (25, 3), (28, 3), (26, 4), (27, 3), (29, 1), (30, 3), (31, 3), (32, 3), (33, 3)]),
  (4013, [(0, 0), (2, 0), (1, 1), (3, 1), (4, 0)]),
  (15006, [(0, 0), (1, 0), (2, 0), (3, 2)]),
  (25003, [(0, 0), (1, 0), (4, 0), (5, 0), (2, 1), (3, 0), (6, 1), (7, 0), (8, 0), (9, 2)]),
  (29008, [(0, 0), (1, 0), (2, 0), (3, 0), (4, 0), (5, 0), (6, 0), (7, 0), (8, 0), (9, 0), (10, 0), (11, 0), (12, 0), (13, 0), (14, 0), (15, 0)]),
  (29010, [(0, 0), (1, 0), (2, 0), (3, 0), (4, 0), (5, 0), (6, 0), (7, 0), (8, 0), (9, 0), (10, 0), (11, 0), (12, 0), (13, 0), (14, 0), (15, 0), (16, 0), (17, 0)]),
  (42009, [(0, 0), (1, 0), (2, 0), (3, 0), (4, 0), (5, 0), (6, 0), (7, 0), (8, 0), (9, 1), (10, 0), (11, 0)]),
  (45009, [(0, 0), (1, 0), (2, 0), (3, 0), (4, 0), (5, 0), (6, 0), (7, 0), (8, 0), (9, 0), (10, 1), (11, 0), (12, 0)]),
  (46001, [(0, 0), (1, 0), (2, 0), (3, 0), (4, 0), (5, 0), (6, 0), (7, 0), (8, 0), (9, 0), (10, 0), (11, 0), (12, 0), (13, 0), (14, 0), (15, 0), (16, 0), (17, 0), (18, 0), (19, 0), (20, 0), (21, 0), (22, 0), (23, 0), (24, 0), (25, 0), (26, 0), (27, 0), (28, 0), (29, 0), (30, 0), (31, 0), (32, 0), (33, 0), (34, 0), (35, 0), (36, 0), (37, 0), (38, 0), (39, 0), (40, 0), (41, 0), (42, 0), (43, 0), (44, 0), (45, 0), (46, 0), (47, 0), (48, 0), (49, 0)]),
  (53001, [(0, 0), (1, 0), (4, 0), (5, 0), (2, 1), (3, 0), (6, 1), (7, 0), (8, 0)]),
  (54005, [(0, 0), (1, 0), (3, 0), (4, 0), (5, 0), (6, 0), (7, 8), (8, 8), (2, 7), (9, 3), (10, 3)]),
  (64006, [(0, 0), (1, 0), (2, 0), (3, 1), (4, 0), (5, 0), (6, 0), (7, 0), (8, 0), (9, 0), (10, 0), (11, 0), (12, 0), (13, 0), (14, 0), (15, 0), (16, 0), (17, 0), (18, 0), (19, 0), (20, 0), (21, 0), (22, 0), (23, 0), (24, 0)]),
  (65001, [(0, 0), (1, 0), (2, 0), (3, 0), (4, 0), (5, 0), (6, 0), (7, 0), (8, 0), (9, 0), (10, 0), (11, 0), (12, 0), (13, 0), (14, 0), (15, 0), (16, 0), (17, 0), (18, 0), (19, 0), (20, 0), (21, 0), (22, 0), (23, 0), (24, 0), (25, 0), (26, 0), (27, 0), (28, 0), (29, 0), (30, 0), (31, 0)]),
  (66002, [(0, 0), (1, 0), (2, 0), (3, 0), (4, 0), (5, 0), (6, 0), (7, 0), (8, 0), (9, 0), (10, 0), (11, 0)]),
  (66003, [(0, 0), (1, 0), (2, 0), (3, 0), (4, 0), (5, 0), (6, 0), (7, 0), (8, 0), (9, 0), (10, 0), (11, 0)]),
  (67007, [(0, 0), (1, 0), (2, 0), (3, 0), (4, 0), (5, 0), (6, 0), (7, 0), (8, 0), (9, 0), (10, 0), (11, 0), (12, 0), (13, 0), (14, 0), (15, 0), (16, 0), (17, 0), (18, 0), (19, 0), (20, 0), (21, 0), (22, 0), (23, 0), (24, 0), (25, 0), (26, 0), (27, 0), (28, 0), (29, 0), (30, 0), (31, 0), (32, 0), (33, 0), (34, 0), (35, 0)]),
  (73005, [(0, 0), (1, 0), (4, 3), (5, 3), (6, 3), (2, 1), (3, 2), (7, 2), (8, 2)]),
  (86007, [(0, 0), (1, 0), (2, 0), (6, 0), (7, 0), (8, 0), (11, 0), (3, 3), (4, 3), (5, 3), (9, 3), (10, 3), (12, 2), (13, 2), (14, 2)]),
  (86008, [(0, 0), (1, 0), (2, 0), (6, 0), (7, 0), (8, 0), (11, 0), (3, 3), (4, 3), (5, 3), (9, 3), (10, 3), (12, 2), (13, 2), (14, 2)]),
  (86009, [(0, 0), (1, 0), (2, 0), (6, 0), (7, 0), (8, 0), (11, 0), (3, 3), (4, 3), (5, 3), (9, 3), (10, 3), (12, 2), (13, 2), (14, 2)]),
  (86010, [(0, 0), (1, 0), (2, 0), (6, 0), (7, 0), (8, 0), (11, 0), (3, 3), (4, 3), (5, 3), (9, 3), (10, 3), (12, 2), (13, 2), (14, 2)]),
  (86017, [(0, 0), (1, 0), (2, 0), (6, 0), (7, 0), (8, 0), (11, 0), (3, 3), (4, 3), (5, 3), (9, 3), (10, 3), (12, 2), (13, 2), (14, 2)]),
  (86018, [(0, 0), (1, 0), (2, 0), (6, 0), (7, 0), (8, 0), (11, 0), (3, 3), (4, 3), (5, 3), (9, 3), (10, 3), (12, 2), (13, 2), (14, 2)]),
  (86023, [(0, 0), (1, 0), (2, 0), (6, 0), (7, 0), (8, 0), (11, 0), (3, 3), (4, 3), (5, 3), (9, 3), (10, 3), (12, 2), (13, 2), (14, 2)])]
def modeTab : List (Nat × Nat) := [(4013, 1),
  (4016, 3),
  (4021, 1),
  (4025, 1),
  (4029, 3),
  (4034, 1),
  (4036, 3),
  (4041, 1),
  (4049, 1),
  (4057, 3),
  (4066, 3),
  (4072, 1),
  (4074, 1),
  (4076, 1),
  (4095, 1),
  (14006, 1),
  (14011, 1),
  (14017, 1),
  (15008, 2),
  (16008, 1),
  (16013, 1),
  (16019, 1),
  (17008, 1),
  (17012, 1),
  (17017, 1),
  (18006, 2),
  (19009, 1),
  (19015, 1),
  (19021, 1),
  (20008, 1),
  (21008, 1),
  (21014, 1),
  (21019, 1),
  (22005, 1),
  (22011, 3),
  (23005, 2),
  (24007, 1),
  (24011, 1),
  (25005, 1),
  (25010, 1),
  (25016, 1),
  (25020, 1),
  (37007, 1),
  (37014, 1),
  (37022, 1),
  (37029, 1),
  (40035, 1),
  (42017, 1),
  (42030, 1),
  (43024, 1),
  (43032, 1),
  (43040, 1),
  (44008, 1),
  (44013, 1),
  (44022, 1),
  (45017, 1),
  (45031, 1),
  (46061, 1),
  (46072, 1),
  (47010, 1),
  (47017, 1),
  (47025, 1),
  (50008, 1),
  (52006, 1),
  (52009, 1),
  (53005, 1),
  (53009, 1),
  (54007, 1),
  (54018, 1),
  (56004, 1),
  (60036, 1),
  (60040, 2),
  (62008, 1),
  (62012, 1),
  (64013, 1),
  (64037, 1),
  (67010, 1),
  (67019, 1),
  (71007, 1),
  (72020, 1),
  (72024, 2),
  (73015, 1),
  (78019, 1),
  (78027, 1),
  (87034, 1),
  (87037, 1),
  (94005, 1),
  (94007, 1)]
def pszTab : List (Nat × List Nat) := [(29, [2, 0]),
  (30, [2, 0]),
  (27, [2]),
  (36, [2]),
  (41, [2, 0]),
  (65, [4, 4]),
  (72, [2]),
  (59, [2]),
  (60, [2]),
  (39, [2]),
  (40, [2, 0]),
  (37, [4]),
  (46, [10]),
  (66, [10]),
  (67, [0, 10]),
  (47, [0, 10])]
def vtTab : List (Nat × VT) := [(2, .one (.i .i64)),
  (3, .one (.i .i64)),
  (4, .one (.b)),
  (5, .one (.i .u8)),
  (9, .one (.s)),
  (26, .agg [.i .i64, .i .i64, .i .i64, .s]),
  (31, .agg [.i .i64, .s]),
  (40, .agg [.b, .i .i64, .i .i64, .i .i64, .s, .b, .i .i64, .i .i64, .i .i64, .s]),
  (41, .tup [([.x], false), ([.b, .i .i64, .i .i64, .i .i64, .s, .b, .i .i64, .i .i64, .i .i64, .s], true)]),
  (44, .tup [([.x], false), ([.i .i64], false)]),
  (47, .agg [.i .i64, .i .i64]),
  (50, .agg [.i .i64, .x]),
  (53, .agg [.i .i64, .i .i64]),
  (65, .tup [([.i .i64], false), ([.b], false)]),
  (88, .agg [.x, .i .i64]),
  (97, .tup [([.i .i64], false), ([.i .i64], false)]),
  (108, .one (.i .u64)),
  (111, .one (.i .u64)),
  (114, .tup [([.x], false), ([.s], false)]),
  (120, .one (.i .u32))]
def vfTab : List (Nat × VT) := [(2, .one (.i .i64)),
  (3, .one (.i .i64)),
  (4, .one (.b)),
  (5, .one (.i .u8)),
  (9, .one (.s)),
  (22, .one (.f)),
  (26, .agg [.i .i64, .i .i64, .i .i64, .s]),
  (31, .agg [.i .i64, .s]),
  (38, .one (.f)),
  (40, .agg [.b, .i .i64, .i .i64, .i .i64, .s, .b, .i .i64, .i .i64, .i .i64, .s]),
  (47, .agg [.i .i64, .i .i64]),
  (50, .agg [.i .i64, .f]),
  (53, .agg [.i .i64, .i .i64]),
  (63, .one (.f)),
  (88, .agg [.f, .i .i64]),
  (89, .one (.f)),
  (108, .one (.i .u64)),
  (110, .agg [.i .u8, .i .u8, .i .u8, .i .u8, .i .u8, .i .u8, .i .u8, .i .u8, .i .u8, .i .u8, .i .u8, .i .u8, .i .u8, .i .u8, .i .u8, .i .u8, .i .u8, .i .u8, .i .u8, .i .u8, .i .u8, .i .u8, .i .u8, .i .u8]),
  (111, .one (.i .u64)),
  (120, .one (.i .u32))]
def rtTab : List (Nat × VT) := [(5, .one (.b)),
  (29, .one (.i .i64)),
  (30, .one (.i .i64)),
  (27, .agg [.i .i64, .i .i64, .i .i64, .s]),
  (36, .agg [.i .i64, .i .i64, .i .i64, .s]),
  (41, .one (.b)),
  (61, .one (.i .i64)),
  (65, .one (.b)),
  (73, .one (.f)),
  (72, .one (.f)),
  (59, .one (.f)),
  (60, .one (.f)),
  (39, .one (.f)),
  (40, .agg [.b, .i .i64, .i .i64, .i .i64, .s, .b, .i .i64, .i .i64, .i .i64, .s]),
  (15, .tup [([.f], false), ([.b, .i .i64, .i .i64, .i .i64, .s, .b, .i .i64, .i .i64, .i .i64, .s], true)]),
  (11, .one (.b)),
  (38, .one (.b)),
  (14, .one (.i .i64)),
  (42, .one (.i .i64)),
  (62, .one (.i .i64)),
  (43, .one (.i .i64)),
  (48, .tup [([.i .i64], false), ([.b], false)]),
  (63, .agg [.i .i64, .i .i64, .i .i64, .s]),
  (64, .one (.i .i64)),
  (44, .one (.i .i64)),
  (16, .one (.i .i64)),
  (49, .one (.b)),
  (58, .one (.b)),
  (37, .one (.i .i64)),
  (45, .one (.i .i64)),
  (46, .one (.i .i64)),
  (50, .one (.i .i64)),
  (66, .tup [([.i .i64], false), ([.i .i64], false)]),
  (67, .one (.i .i64)),
  (47, .one (.i .i64)),
  (17, .one (.i .i64)),
  (18, .tup [([.f], false), ([.i .i64], false)]),
  (19, .agg [.i .i64, .i .i64]),
  (20, .agg [.i .i64, .f]),
  (21, .agg [.i .i64, .i .i64]),
  (51, .one (.f)),
  (22, .agg [.i .i64, .f]),
  (23, .agg [.i .i64, .i .i64]),
  (52, .one (.b)),
  (84, .one (.s)),
  (93, .one (.b)),
  (94, .one (.i .i64)),
  (78, .one (.s)),
  (71, .one (.s)),
  (56, .one (.s)),
  (53, .one (.s)),
  (24, .agg [.i .i64, .s]),
  (54, .one (.s)),
  (25, .agg [.i .i64, .s]),
  (4, .one (.b))]
def stTab : List (Nat × VT) := [(73000, .one (.f)),
  (73005, .one (.i .i64)),
  (58000, .one (.s)),
  (86001, .one (.i .u64)),
  (86004, .one (.i .i64))]
noncomputable def Ev : Env where
  fn := tab fnTab
  ty := tab tyTab
  keep := fun f i => (tab keepTab (f * 1000 + i)).getD []
  aft := fun f i => (tab aftTab (f * 1000 + i)).getD []
  sched := fun f i => (tab schedTab (f * 1000 + i)).getD []
  kills := fun f i => (tab killTab (f * 1000 + i)).getD []
  mode := fun f i => (tab modeTab (f * 1000 + i)).getD 0
  psz := fun f => (tab pszTab f).getD []
  vt := fun t => (tab vtTab t).getD .any
  vf := fun t => (tab vfTab t).getD .any
  rt := fun f => (tab rtTab f).getD .any
  st := fun f i => (tab stTab (f * 1000 + i)).getD .any
namespace Lp
noncomputable def spec_l6At (id : Nat) (l : List V) (h : H) : Option LOut := loop Ev Fn.spec_l6At Go.Proofs.Tryd.f61 id (lbody Go.Proofs.Tryd.f61 id) l h
noncomputable def spec_l6Put (id : Nat) (l : List V) (h : H) : Option LOut := loop Ev Fn.spec_l6Put Go.Proofs.Tryd.f73 id (lbody Go.Proofs.Tryd.f73 id) l h
noncomputable def spec_l6DrawRows (id : Nat) (l : List V) (h : H) : Option LOut := loop Ev Fn.spec_l6DrawRows Go.Proofs.Tryd.f72 id (lbody Go.Proofs.Tryd.f72 id) l h
noncomputable def spec_l8Rows (id : Nat) (l : List V) (h : H) : Option LOut := loop Ev Fn.spec_l8Rows Go.Proofs.Tryd.f60 id (lbody Go.Proofs.Tryd.f60 id) l h
noncomputable def impl_RowFault (id : Nat) (l : List V) (h : H) : Option LOut := loop Ev Fn.impl_RowFault Go.Proofs.Tryd.f14 id (lbody Go.Proofs.Tryd.f14 id) l h
noncomputable def impl_RowsFault (id : Nat) (l : List V) (h : H) : Option LOut := loop Ev Fn.impl_RowsFault Go.Proofs.Tryd.f42 id (lbody Go.Proofs.Tryd.f42 id) l h
noncomputable def impl_longest (id : Nat) (l : List V) (h : H) : Option LOut := loop Ev Fn.impl_longest Go.Proofs.Tryd.f48 id (lbody Go.Proofs.Tryd.f48 id) l h
noncomputable def impl_tableMayBe (id : Nat) (l : List V) (h : H) : Option LOut := loop Ev Fn.impl_tableMayBe Go.Proofs.Tryd.f64 id (lbody Go.Proofs.Tryd.f64 id) l h
noncomputable def spec_l1Text (id : Nat) (l : List V) (h : H) : Option LOut := loop Ev Fn.spec_l1Text Go.Proofs.Tryd.f58 id (lbody Go.Proofs.Tryd.f58 id) l h
noncomputable def spec_l6Rows (id : Nat) (l : List V) (h : H) : Option LOut := loop Ev Fn.spec_l6Rows Go.Proofs.Tryd.f45 id (lbody Go.Proofs.Tryd.f45 id) l h
noncomputable def spec_l8Catalog (id : Nat) (l : List V) (h : H) : Option LOut := loop Ev Fn.spec_l8Catalog Go.Proofs.Tryd.f67 id (lbody Go.Proofs.Tryd.f67 id) l h
noncomputable def impl_TablesIn (id : Nat) (l : List V) (h : H) : Option LOut := loop Ev Fn.impl_TablesIn Go.Proofs.Tryd.f20 id (lbody Go.Proofs.Tryd.f20 id) l h
noncomputable def spec_l8Tables (id : Nat) (l : List V) (h : H) : Option LOut := loop Ev Fn.spec_l8Tables Go.Proofs.Tryd.f51 id (lbody Go.Proofs.Tryd.f51 id) l h
noncomputable def strconv_formatBase10 (id : Nat) (l : List V) (h : H) : Option LOut := loop Ev Fn.strconv_formatBase10 Go.Proofs.Tryd.f86 id (lbody Go.Proofs.Tryd.f86 id) l h
end Lp
theorem ty2 : TyOk Go.Proofs.Tryd.prog 2 ⟨1, 8, [.int .i64 0], false, .int .i64, false⟩ := ⟨by kernel_rfl, by kernel_rfl, ⟨by decide, by rfl⟩, by kernel_rfl, by kernel_rfl, by kernel_rfl⟩
theorem ty3 : TyOk Go.Proofs.Tryd.prog 3 ⟨1, 8, [.int .i64 0], false, .int .i64, false⟩ := ⟨by kernel_rfl, by kernel_rfl, ⟨by decide, by rfl⟩, by kernel_rfl, by kernel_rfl, by kernel_rfl⟩
theorem ty4 : TyOk Go.Proofs.Tryd.prog 4 ⟨1, 1, [.bool false], false, .bool, false⟩ := ⟨by kernel_rfl, by kernel_rfl, ⟨by decide, by rfl⟩, by kernel_rfl, by kernel_rfl, by kernel_rfl⟩
theorem ty5 : TyOk Go.Proofs.Tryd.prog 5 ⟨1, 1, [.int .u8 0], false, .int .u8, false⟩ := ⟨by kernel_rfl, by kernel_rfl, ⟨by decide, by rfl⟩, by kernel_rfl, by kernel_rfl, by kernel_rfl⟩
theorem ty9 : TyOk Go.Proofs.Tryd.prog 9 ⟨1, 16, [.str ⟨#[]⟩], false, .str, false⟩ := ⟨by kernel_rfl, by kernel_rfl, ⟨by decide, by rfl⟩, by kernel_rfl, by kernel_rfl, by kernel_rfl⟩
theorem ty22 : TyOk Go.Proofs.Tryd.prog 22 ⟨1, 24, [.sl none 0], false, .sl 5, false⟩ := ⟨by kernel_rfl, by kernel_rfl, ⟨by decide, by rfl⟩, by kernel_rfl, by kernel_rfl, by kernel_rfl⟩
theorem ty26 : TyOk Go.Proofs.Tryd.prog 26 ⟨4, 40, [.int .i64 0, .int .i64 0, .int .i64 0, .str ⟨#[]⟩], true, .st [(0, 2), (1, 2), (2, 2), (3, 9)], true⟩ := ⟨by kernel_rfl, by kernel_rfl, ⟨by decide, by rfl⟩, by kernel_rfl, by kernel_rfl, by kernel_rfl⟩
theorem ty31 : TyOk Go.Proofs.Tryd.prog 31 ⟨2, 24, [.int .i64 0, .str ⟨#[]⟩], true, .st [(0, 2), (1, 9)], true⟩ := ⟨by kernel_rfl, by kernel_rfl, ⟨by decide, by rfl⟩, by kernel_rfl, by kernel_rfl, by kernel_rfl⟩
theorem ty38 : TyOk Go.Proofs.Tryd.prog 38 ⟨1, 24, [.sl none 0], false, .sl 26, false⟩ := ⟨by kernel_rfl, by kernel_rfl, ⟨by decide, by rfl⟩, by kernel_rfl, by kernel_rfl, by kernel_rfl⟩
theorem ty40 : TyOk Go.Proofs.Tryd.prog 40 ⟨10, 96, [.bool false, .int .i64 0, .int .i64 0, .int .i64 0, .str ⟨#[]⟩, .bool false, .int .i64 0, .int .i64 0, .int .i64 0, .str ⟨#[]⟩], true, .st [(0, 4), (1, 26), (5, 4), (6, 26)], true⟩ := ⟨by kernel_rfl, by kernel_rfl, ⟨by decide, by rfl⟩, by kernel_rfl, by kernel_rfl, by kernel_rfl⟩
theorem ty47 : TyOk Go.Proofs.Tryd.prog 47 ⟨2, 16, [.int .i64 0, .int .i64 0], true, .st [(0, 2), (1, 2)], true⟩ := ⟨by kernel_rfl, by kernel_rfl, ⟨by decide, by rfl⟩, by kernel_rfl, by kernel_rfl, by kernel_rfl⟩
theorem ty50 : TyOk Go.Proofs.Tryd.prog 50 ⟨2, 32, [.int .i64 0, .sl none 0], true, .st [(0, 2), (1, 38)], false⟩ := ⟨by kernel_rfl, by kernel_rfl, ⟨by decide, by rfl⟩, by kernel_rfl, by kernel_rfl, by kernel_rfl⟩
theorem ty53 : TyOk Go.Proofs.Tryd.prog 53 ⟨2, 16, [.int .i64 0, .int .i64 0], true, .st [(0, 2), (1, 2)], true⟩ := ⟨by kernel_rfl, by kernel_rfl, ⟨by decide, by rfl⟩, by kernel_rfl, by kernel_rfl, by kernel_rfl⟩
theorem ty56 : TyOk Go.Proofs.Tryd.prog 56 ⟨1, 8, [.ptr none], false, .ptr, false⟩ := ⟨by kernel_rfl, by kernel_rfl, ⟨by decide, by rfl⟩, by kernel_rfl, by kernel_rfl, by kernel_rfl⟩
theorem ty60 : TyOk Go.Proofs.Tryd.prog 60 ⟨1, 8, [.ptr none], false, .ptr, false⟩ := ⟨by kernel_rfl, by kernel_rfl, ⟨by decide, by rfl⟩, by kernel_rfl, by kernel_rfl, by kernel_rfl⟩
theorem ty63 : TyOk Go.Proofs.Tryd.prog 63 ⟨1, 24, [.sl none 0], false, .sl 9, false⟩ := ⟨by kernel_rfl, by kernel_rfl, ⟨by decide, by rfl⟩, by kernel_rfl, by kernel_rfl, by kernel_rfl⟩
theorem ty79 : TyOk Go.Proofs.Tryd.prog 79 ⟨1, 8, [.ptr none], false, .ptr, false⟩ := ⟨by kernel_rfl, by kernel_rfl, ⟨by decide, by rfl⟩, by kernel_rfl, by kernel_rfl, by kernel_rfl⟩
theorem ty88 : TyOk Go.Proofs.Tryd.prog 88 ⟨2, 32, [.sl none 0, .int .i64 0], true, .st [(0, 22), (1, 2)], false⟩ := ⟨by kernel_rfl, by kernel_rfl, ⟨by decide, by rfl⟩, by kernel_rfl, by kernel_rfl, by kernel_rfl⟩
theorem ty89 : TyOk Go.Proofs.Tryd.prog 89 ⟨1, 24, [.sl none 0], false, .sl 2, false⟩ := ⟨by kernel_rfl, by kernel_rfl, ⟨by decide, by rfl⟩, by kernel_rfl, by kernel_rfl, by kernel_rfl⟩
theorem ty108 : TyOk Go.Proofs.Tryd.prog 108 ⟨1, 8, [.int .u64 0], false, .int .u64, false⟩ := ⟨by kernel_rfl, by kernel_rfl, ⟨by decide, by rfl⟩, by kernel_rfl, by kernel_rfl, by kernel_rfl⟩
theorem ty110 : TyOk Go.Proofs.Tryd.prog 110 ⟨24, 24, [.int .u8 0, .int .u8 0, .int .u8 0, .int .u8 0, .int .u8 0, .int .u8 0, .int .u8 0, .int .u8 0, .int .u8 0, .int .u8 0, .int .u8 0, .int .u8 0, .int .u8 0, .int .u8 0, .int .u8 0, .int .u8 0, .int .u8 0, .int .u8 0, .int .u8 0, .int .u8 0, .int .u8 0, .int .u8 0, .int .u8 0, .int .u8 0], true, .arr 24 5, false⟩ := ⟨by kernel_rfl, by kernel_rfl, ⟨by decide, by rfl⟩, by kernel_rfl, by kernel_rfl, by kernel_rfl⟩
theorem ty111 : TyOk Go.Proofs.Tryd.prog 111 ⟨1, 8, [.int .u64 0], false, .int .u64, false⟩ := ⟨by kernel_rfl, by kernel_rfl, ⟨by decide, by rfl⟩, by kernel_rfl, by kernel_rfl, by kernel_rfl⟩
theorem ty120 : TyOk Go.Proofs.Tryd.prog 120 ⟨1, 4, [.int .u32 0], false, .int .u32, false⟩ := ⟨by kernel_rfl, by kernel_rfl, ⟨by decide, by rfl⟩, by kernel_rfl, by kernel_rfl, by kernel_rfl⟩
def FnOk (f : Nat) (fn : Func) : Prop := Go.Proofs.Tryd.prog.funcs[f]? = some fn ∧ (fn.name == "runtime.NumGoroutine") = false ∧ ∀ c, fn.body = some c → wfCode Ev f fn.ntmps c = true
noncomputable def wfB (f : Nat) (fn : Func) : Bool := match fn.body with | none => true | some c => wfCode Ev f fn.ntmps c
theorem FnOk.of {f : Nat} {fn : Func} (h1 : Go.Proofs.Tryd.prog.funcs[f]? = some fn) (h2 : (fn.name == "runtime.NumGoroutine") = false) (h3 : wfB f fn = true) : FnOk f fn := ⟨h1, h2, fun c hc => by unfold wfB at h3; rw [hc] at h3; exact h3⟩
theorem fok5 : FnOk 5 Go.Proofs.Tryd.f5 := .of Go.Proofs.Tryd.func5 (by kernel_rfl) (by kernel_rfl)
theorem fok26 : FnOk 26 Go.Proofs.Tryd.f26 := .of Go.Proofs.Tryd.func26 (by kernel_rfl) (by kernel_rfl)
theorem fok29 : FnOk 29 Go.Proofs.Tryd.f29 := .of Go.Proofs.Tryd.func29 (by kernel_rfl) (by kernel_rfl)
theorem fok30 : FnOk 30 Go.Proofs.Tryd.f30 := .of Go.Proofs.Tryd.func30 (by kernel_rfl) (by kernel_rfl)
theorem fok27 : FnOk 27 Go.Proofs.Tryd.f27 := .of Go.Proofs.Tryd.func27 (by kernel_rfl) (by kernel_rfl)
theorem fok36 : FnOk 36 Go.Proofs.Tryd.f36 := .of Go.Proofs.Tryd.func36 (by kernel_rfl) (by kernel_rfl)
theorem fok41 : FnOk 41 Go.Proofs.Tryd.f41 := .of Go.Proofs.Tryd.func41 (by kernel_rfl) (by kernel_rfl)
theorem fok61 : FnOk 61 Go.Proofs.Tryd.f61 := .of Go.Proofs.Tryd.func61 (by kernel_rfl) (by kernel_rfl)
theorem fok65 : FnOk 65 Go.Proofs.Tryd.f65 := .of Go.Proofs.Tryd.func65 (by kernel_rfl) (by kernel_rfl)
theorem fok73 : FnOk 73 Go.Proofs.Tryd.f73 := .of Go.Proofs.Tryd.func73 (by kernel_rfl) (by kernel_rfl)
theorem fok72 : FnOk 72 Go.Proofs.Tryd.f72 := .of Go.Proofs.Tryd.func72 (by kernel_rfl) (by kernel_rfl)
theorem fok59 : FnOk 59 Go.Proofs.Tryd.f59 := .of Go.Proofs.Tryd.func59 (by kernel_rfl) (by kernel_rfl)
theorem fok60 : FnOk 60 Go.Proofs.Tryd.f60 := .of Go.Proofs.Tryd.func60 (by kernel_rfl) (by kernel_rfl)
theorem fok39 : FnOk 39 Go.Proofs.Tryd.f39 := .of Go.Proofs.Tryd.func39 (by kernel_rfl) (by kernel_rfl)
theorem fok40 : FnOk 40 Go.Proofs.Tryd.f40 := .of Go.Proofs.Tryd.func40 (by kernel_rfl) (by kernel_rfl)
theorem fok15 : FnOk 15 Go.Proofs.Tryd.f15 := .of Go.Proofs.Tryd.func15 (by kernel_rfl) (by kernel_rfl)
theorem fok11 : FnOk 11 Go.Proofs.Tryd.f11 := .of Go.Proofs.Tryd.func11 (by kernel_rfl) (by kernel_rfl)
theorem fok38 : FnOk 38 Go.Proofs.Tryd.f38 := .of Go.Proofs.Tryd.func38 (by kernel_rfl) (by kernel_rfl)
theorem fok14 : FnOk 14 Go.Proofs.Tryd.f14 := .of Go.Proofs.Tryd.func14 (by kernel_rfl) (by kernel_rfl)
theorem fok42 : FnOk 42 Go.Proofs.Tryd.f42 := .of Go.Proofs.Tryd.func42 (by kernel_rfl) (by kernel_rfl)
theorem fok62 : FnOk 62 Go.Proofs.Tryd.f62 := .of Go.Proofs.Tryd.func62 (by kernel_rfl) (by kernel_rfl)
theorem fok43 : FnOk 43 Go.Proofs.Tryd.f43 := .of Go.Proofs.Tryd.func43 (by kernel_rfl) (by kernel_rfl)
theorem fok48 : FnOk 48 Go.Proofs.Tryd.f48 := .of Go.Proofs.Tryd.func48 (by kernel_rfl) (by kernel_rfl)
theorem fok63 : FnOk 63 Go.Proofs.Tryd.f63 := .of Go.Proofs.Tryd.func63 (by kernel_rfl) (by kernel_rfl)
theorem fok64 : FnOk 64 Go.Proofs.Tryd.f64 := .of Go.Proofs.Tryd.func64 (by kernel_rfl) (by kernel_rfl)
theorem fok44 : FnOk 44 Go.Proofs.Tryd.f44 := .of Go.Proofs.Tryd.func44 (by kernel_rfl) (by kernel_rfl)
theorem fok16 : FnOk 16 Go.Proofs.Tryd.f16 := .of Go.Proofs.Tryd.func16 (by kernel_rfl) (by kernel_rfl)
theorem fok49 : FnOk 49 Go.Proofs.Tryd.f49 := .of Go.Proofs.Tryd.func49 (by kernel_rfl) (by kernel_rfl)
theorem fok58 : FnOk 58 Go.Proofs.Tryd.f58 := .of Go.Proofs.Tryd.func58 (by kernel_rfl) (by kernel_rfl)
theorem fok37 : FnOk 37 Go.Proofs.Tryd.f37 := .of Go.Proofs.Tryd.func37 (by kernel_rfl) (by kernel_rfl)
theorem fok45 : FnOk 45 Go.Proofs.Tryd.f45 := .of Go.Proofs.Tryd.func45 (by kernel_rfl) (by kernel_rfl)
theorem fok46 : FnOk 46 Go.Proofs.Tryd.f46 := .of Go.Proofs.Tryd.func46 (by kernel_rfl) (by kernel_rfl)
theorem fok50 : FnOk 50 Go.Proofs.Tryd.f50 := .of Go.Proofs.Tryd.func50 (by kernel_rfl) (by kernel_rfl)
theorem fok66 : FnOk 66 Go.Proofs.Tryd.f66 := .of Go.Proofs.Tryd.func66 (by kernel_rfl) (by kernel_rfl)
theorem fok67 : FnOk 67 Go.Proofs.Tryd.f67 := .of Go.Proofs.Tryd.func67 (by kernel_rfl) (by kernel_rfl)
theorem fok47 : FnOk 47 Go.Proofs.Tryd.f47 := .of Go.Proofs.Tryd.func47 (by kernel_rfl) (by kernel_rfl)
theorem fok17 : FnOk 17 Go.Proofs.Tryd.f17 := .of Go.Proofs.Tryd.func17 (by kernel_rfl) (by kernel_rfl)
theorem fok18 : FnOk 18 Go.Proofs.Tryd.f18 := .of Go.Proofs.Tryd.func18 (by kernel_rfl) (by kernel_rfl)
theorem fok19 : FnOk 19 Go.Proofs.Tryd.f19 := .of Go.Proofs.Tryd.func19 (by kernel_rfl) (by kernel_rfl)
theorem fok20 : FnOk 20 Go.Proofs.Tryd.f20 := .of Go.Proofs.Tryd.func20 (by kernel_rfl) (by kernel_rfl)
theorem fok21 : FnOk 21 Go.Proofs.Tryd.f21 := .of Go.Proofs.Tryd.func21 (by kernel_rfl) (by kernel_rfl)
theorem fok51 : FnOk 51 Go.Proofs.Tryd.f51 := .of Go.Proofs.Tryd.func51 (by kernel_rfl) (by kernel_rfl)
theorem fok22 : FnOk 22 Go.Proofs.Tryd.f22 := .of Go.Proofs.Tryd.func22 (by kernel_rfl) (by kernel_rfl)
theorem fok23 : FnOk 23 Go.Proofs.Tryd.f23 := .of Go.Proofs.Tryd.func23 (by kernel_rfl) (by kernel_rfl)
theorem fok52 : FnOk 52 Go.Proofs.Tryd.f52 := .of Go.Proofs.Tryd.func52 (by kernel_rfl) (by kernel_rfl)
theorem fok84 : FnOk 84 Go.Proofs.Tryd.f84 := .of Go.Proofs.Tryd.func84 (by kernel_rfl) (by kernel_rfl)
theorem fok86 : FnOk 86 Go.Proofs.Tryd.f86 := .of Go.Proofs.Tryd.func86 (by kernel_rfl) (by kernel_rfl)
theorem fok93 : FnOk 93 Go.Proofs.Tryd.f93 := .of Go.Proofs.Tryd.func93 (by kernel_rfl) (by kernel_rfl)
theorem fok94 : FnOk 94 Go.Proofs.Tryd.f94 := .of Go.Proofs.Tryd.func94 (by kernel_rfl) (by kernel_rfl)
theorem fok78 : FnOk 78 Go.Proofs.Tryd.f78 := .of Go.Proofs.Tryd.func78 (by kernel_rfl) (by kernel_rfl)
theorem fok71 : FnOk 71 Go.Proofs.Tryd.f71 := .of Go.Proofs.Tryd.func71 (by kernel_rfl) (by kernel_rfl)
theorem fok56 : FnOk 56 Go.Proofs.Tryd.f56 := .of Go.Proofs.Tryd.func56 (by kernel_rfl) (by kernel_rfl)
theorem fok53 : FnOk 53 Go.Proofs.Tryd.f53 := .of Go.Proofs.Tryd.func53 (by kernel_rfl) (by kernel_rfl)
theorem fok24 : FnOk 24 Go.Proofs.Tryd.f24 := .of Go.Proofs.Tryd.func24 (by kernel_rfl) (by kernel_rfl)
theorem fok54 : FnOk 54 Go.Proofs.Tryd.f54 := .of Go.Proofs.Tryd.func54 (by kernel_rfl) (by kernel_rfl)
theorem fok25 : FnOk 25 Go.Proofs.Tryd.f25 := .of Go.Proofs.Tryd.func25 (by kernel_rfl) (by kernel_rfl)
theorem fok4 : FnOk 4 Go.Proofs.Tryd.f4 := .of Go.Proofs.Tryd.func4 (by kernel_rfl) (by kernel_rfl)
theorem all_cons {α : Type} {Q : Nat → α → Prop} {i : Nat} {x : α} {l : List (Nat × α)} (h : Q i x) (hl : ∀ d y, (d, y) ∈ l → Q d y) : ∀ d y, (d, y) ∈ (i, x) :: l → Q d y := by
  intro d y hm
  rcases List.mem_cons.1 hm with hm | hm
  · cases hm; exact h
  · exact hl d y hm
theorem all_nil {α : Type} {Q : Nat → α → Prop} : ∀ d y, (d, y) ∈ ([] : List (Nat × α)) → Q d y := fun _ _ h => by cases h
theorem ty_all : ∀ d y, (d, y) ∈ tyTab → TyOk Go.Proofs.Tryd.prog d y := all_cons ty2 (all_cons ty3 (all_cons ty4 (all_cons ty5 (all_cons ty9 (all_cons ty22 (all_cons ty26 (all_cons ty31 (all_cons ty38 (all_cons ty40 (all_cons ty47 (all_cons ty50 (all_cons ty53 (all_cons ty56 (all_cons ty60 (all_cons ty63 (all_cons ty79 (all_cons ty88 (all_cons ty89 (all_cons ty108 (all_cons ty110 (all_cons ty111 (all_cons ty120 (all_nil)))))))))))))))))))))))
theorem fn_all : ∀ d y, (d, y) ∈ fnTab → FnOk d y := all_cons fok5 (all_cons fok26 (all_cons fok29 (all_cons fok30 (all_cons fok27 (all_cons fok36 (all_cons fok41 (all_cons fok61 (all_cons fok65 (all_cons fok73 (all_cons fok72 (all_cons fok59 (all_cons fok60 (all_cons fok39 (all_cons fok40 (all_cons fok15 (all_cons fok11 (all_cons fok38 (all_cons fok14 (all_cons fok42 (all_cons fok62 (all_cons fok43 (all_cons fok48 (all_cons fok63 (all_cons fok64 (all_cons fok44 (all_cons fok16 (all_cons fok49 (all_cons fok58 (all_cons fok37 (all_cons fok45 (all_cons fok46 (all_cons fok50 (all_cons fok66 (all_cons fok67 (all_cons fok47 (all_cons fok17 (all_cons fok18 (all_cons fok19 (all_cons fok20 (all_cons fok21 (all_cons fok51 (all_cons fok22 (all_cons fok23 (all_cons fok52 (all_cons fok84 (all_cons fok86 (all_cons fok93 (all_cons fok94 (all_cons fok78 (all_cons fok71 (all_cons fok56 (all_cons fok53 (all_cons fok24 (all_cons fok54 (all_cons fok25 (all_cons fok4 (all_nil)))))))))))))))))))))))))))))))))))))))))))))))))))))))))
theorem Ev_ok : EnvOk Go.Proofs.Tryd.prog Ev := ⟨by kernel_rfl, fun t ti h => ty_all t ti (tab_mem h), fun f fn h => fn_all f fn (tab_mem h)⟩
end Vm
