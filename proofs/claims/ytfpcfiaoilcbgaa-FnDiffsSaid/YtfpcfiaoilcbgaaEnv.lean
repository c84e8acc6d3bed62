/-
  The types and the functions that the small machine asks for, and that they are the program's. Written by a program (gen3.py).
-/
import Derived.Test.YtfpcfiaoilcbgaaVmR
import Derived.Test.YtfpcfiaoilcbgaaProg
import Derived.KernelRfl
set_option linter.unusedVariables false
set_option maxRecDepth 100000
namespace Vm
open Go
namespace Fn
abbrev laws_szRow : Nat := 66
abbrev laws_szRowS : Nat := 12
abbrev spec_l1In : Nat := 68
abbrev spec_l1Text : Nat := 148
abbrev spec_l1Fault : Nat := 128
abbrev spec_l1Before : Nat := 129
abbrev spec_l6Rows : Nat := 67
abbrev spec_l6At : Nat := 130
abbrev spec_l8Longest : Nat := 69
abbrev spec_LongestIn : Nat := 13
abbrev laws_toRow : Nat := 70
abbrev laws_toRowS : Nat := 14
abbrev impl_in : Nat := 72
abbrev impl_RowFault : Nat := 131
abbrev impl_IsBefore : Nat := 132
abbrev impl_RowsFault : Nat := 71
abbrev impl_longest : Nat := 73
abbrev impl_LongestIn : Nat := 15
abbrev laws_eqIntResult : Nat := 16
abbrev laws_eqRow : Nat := 74
abbrev laws_eqRowS : Nat := 17
abbrev laws_FnExactLongestIn : Nat := 3
abbrev spec_l8Tables : Nat := 75
abbrev spec_TablesIn : Nat := 18
abbrev impl_TablesIn : Nat := 19
abbrev laws_eqRowsResult : Nat := 20
abbrev laws_markText : Nat := 76
abbrev laws_markRowS : Nat := 21
abbrev laws_markRowsResult : Nat := 22
abbrev laws_heldRowS : Nat := 77
abbrev laws_heldRowsResult : Nat := 23
abbrev laws_FnExactTablesIn : Nat := 4
abbrev laws_szChange : Nat := 24
abbrev spec_l6Change : Nat := 78
abbrev spec_l6Key : Nat := 133
abbrev spec_l8Catalog : Nat := 134
abbrev spec_l8May : Nat := 79
abbrev spec_MayBe : Nat := 25
abbrev laws_toChange : Nat := 26
abbrev impl_order : Nat := 135
abbrev impl_changeFault : Nat := 80
abbrev impl_Change_key : Nat := 98
abbrev impl_tableMayBe : Nat := 136
abbrev impl_mayBe : Nat := 81
abbrev impl_MayBe : Nat := 27
abbrev laws_FnExactMayBe : Nat := 5
abbrev laws_szChangeS : Nat := 28
abbrev spec_l9Change : Nat := 82
abbrev spec_l10Inverse : Nat := 83
abbrev spec_InverseOf : Nat := 29
abbrev laws_toChangeS : Nat := 30
abbrev impl_singleFault : Nat := 84
abbrev impl_inverse : Nat := 85
abbrev impl_InverseOf : Nat := 31
abbrev laws_eqChange : Nat := 86
abbrev laws_eqChangeS : Nat := 33
abbrev laws_eqChangesResult : Nat := 32
abbrev laws_markChangeS : Nat := 34
abbrev laws_markChangesResult : Nat := 35
abbrev laws_heldChangeS : Nat := 87
abbrev laws_heldChangesResult : Nat := 36
abbrev laws_FnExactInverseOf : Nat := 6
abbrev spec_l6Put : Nat := 137
abbrev spec_l6Changes : Nat := 88
abbrev spec_ChangesOf : Nat := 37
abbrev impl_between : Nat := 89
abbrev impl_ChangesOf : Nat := 38
abbrev laws_FnExactChangesOf : Nat := 7
abbrev spec_l6Do : Nat := 90
abbrev spec_ApplyChanges : Nat := 39
abbrev slices_Clone_impl_Row_impl_Row : Nat := 91
abbrev slices_BinarySearchFunc_impl_Row_impl_Row_impl_Row : Nat := 138
abbrev impl_Change_fitsTo : Nat := 92
abbrev impl_changed : Nat := 93
abbrev impl_ApplyChanges : Nat := 40
abbrev laws_FnExactApplyChanges : Nat := 8
abbrev spec_l9Ahead : Nat := 139
abbrev spec_l9List : Nat := 94
abbrev spec_l9Fold : Nat := 95
abbrev spec_FoldChange : Nat := 41
abbrev impl_foldedFault : Nat := 96
abbrev slices_BinarySearchFunc_impl_Change_impl_Change_impl_Row : Nat := 97
abbrev impl_keyOrder : Nat := 99
abbrev slices_Clone_impl_Change_impl_Change : Nat := 100
abbrev slices_Reverse_impl_Change_impl_Change : Nat := 156
abbrev slices_rotateLeft_impl_Change : Nat := 149
abbrev slices_rotateRight_impl_Change : Nat := 141
abbrev slices_Insert_impl_Change_impl_Change : Nat := 101
abbrev slices_Delete_impl_Change_impl_Change : Nat := 102
abbrev impl_FoldChange : Nat := 42
abbrev laws_FnExactFoldChange : Nat := 9
abbrev laws_szByteS : Nat := 103
abbrev laws_szByteSS : Nat := 43
abbrev laws_szEdit : Nat := 104
abbrev laws_szEditS : Nat := 44
abbrev spec_l7Bad : Nat := 105
abbrev spec_l2Copy : Nat := 107
abbrev spec_l7Copy : Nat := 106
abbrev spec_ApplyEdits : Nat := 45
abbrev laws_toByteS : Nat := 108
abbrev laws_toByteSS : Nat := 46
abbrev laws_toEdit : Nat := 109
abbrev laws_toEditS : Nat := 47
abbrev impl_copied : Nat := 111
abbrev impl_copies : Nat := 110
abbrev impl_ownEdits : Nat := 112
abbrev impl_ApplyEdits : Nat := 48
abbrev laws_eqByteS : Nat := 113
abbrev laws_eqByteSS : Nat := 50
abbrev laws_eqEdit : Nat := 114
abbrev laws_eqEditS : Nat := 51
abbrev laws_eqEditsResult : Nat := 49
abbrev laws_markByteS : Nat := 115
abbrev laws_markByteSS : Nat := 52
abbrev laws_markEditS : Nat := 53
abbrev laws_markEditsResult : Nat := 54
abbrev laws_heldByteS : Nat := 142
abbrev laws_heldEditS : Nat := 116
abbrev laws_heldByteSS : Nat := 117
abbrev laws_heldEditsResult : Nat := 55
abbrev laws_FnExactApplyEdits : Nat := 10
abbrev laws_lwBig : Nat := 56
abbrev spec_l1Source : Nat := 118
abbrev spec_l1Next : Nat := 144
abbrev spec_l1Chance : Nat := 120
abbrev spec_l1Pick : Nat := 145
abbrev spec_l1Some : Nat := 146
abbrev spec_l2New : Nat := 150
abbrev spec_l2Count : Nat := 157
abbrev spec_l2Size : Nat := 158
abbrev spec_l2Has : Nat := 151
abbrev spec_l2Drop : Nat := 152
abbrev spec_l2Stand : Nat := 159
abbrev spec_l2Place : Nat := 160
abbrev spec_l2Free : Nat := 161
abbrev spec_l2Low : Nat := 162
abbrev spec_l2Set : Nat := 153
abbrev spec_l2Cell : Nat := 163
abbrev spec_l2Compact : Nat := 154
abbrev spec_l2Empty : Nat := 164
abbrev spec_l2Put : Nat := 155
abbrev spec_l2Right : Nat := 143
abbrev spec_l3Two : Nat := 119
abbrev spec_DrawDiffBytes : Nat := 57
abbrev impl_diff : Nat := 121
abbrev impl_DiffBytes : Nat := 58
abbrev spec_l3Diff : Nat := 122
abbrev spec_DiffBytes : Nat := 59
abbrev impl_RunsFault : Nat := 63
abbrev impl_applied : Nat := 123
abbrev impl_ApplyRuns : Nat := 60
abbrev impl_InverseRuns : Nat := 61
abbrev spec_l2Bent : Nat := 124
abbrev spec_l3Bent : Nat := 125
abbrev spec_DrawApplyRuns : Nat := 62
abbrev laws_lwSame : Nat := 64
abbrev spec_l3Fault : Nat := 147
abbrev spec_l3Asked : Nat := 126
abbrev spec_l3Apply : Nat := 127
abbrev spec_ApplyRuns : Nat := 65
abbrev laws_FnDiffs : Nat := 11
end Fn
def tab {α : Type} : List (Nat × α) → Nat → Option α
  | [], _ => none
  | (i, x) :: r, d => bif Nat.beq i d then some x else tab r d
theorem tab_mem {α : Type} {l : List (Nat × α)} {d : Nat} {x : α} (h : tab l d = some x) : (d, x) ∈ l := by
  induction l with
  | nil => simp [tab] at h
  | cons p r ih =>
    obtain ⟨i, y⟩ := p
    simp only [tab] at h
    by_cases hi : i = d
    · subst hi; simp at h; subst h; simp
    · rw [show Nat.beq i d = false from by
        cases hb : Nat.beq i d with
        | false => rfl
        | true => exact absurd (Nat.eq_of_beq_eq_true hb) hi] at h
      exact List.mem_cons_of_mem _ (ih h)
noncomputable def tyTab : List (Nat × TI) := [(2, ⟨1, 8, [.int .i64 0], false, .int .i64, false⟩),
  (3, ⟨1, 8, [.int .i64 0], false, .int .i64, false⟩),
  (4, ⟨1, 1, [.bool false], false, .bool, false⟩),
  (5, ⟨1, 1, [.int .u8 0], false, .int .u8, false⟩),
  (9, ⟨1, 16, [.str ⟨#[]⟩], false, .str, false⟩),
  (22, ⟨1, 24, [.sl none 0], false, .sl 40, false⟩),
  (25, ⟨2, 16, [.int .i64 0, .int .i64 0], true, .st [(0, 2), (1, 2)], true⟩),
  (27, ⟨1, 24, [.sl none 0], false, .sl 45, false⟩),
  (33, ⟨2, 32, [.int .i64 0, .sl none 0], true, .st [(0, 2), (1, 27)], false⟩),
  (40, ⟨4, 40, [.int .i64 0, .int .i64 0, .int .i64 0, .str ⟨#[]⟩], true, .st [(0, 2), (1, 2), (2, 2), (3, 9)], true⟩),
  (42, ⟨10, 96, [.bool false, .int .i64 0, .int .i64 0, .int .i64 0, .str ⟨#[]⟩, .bool false, .int .i64 0, .int .i64 0, .int .i64 0, .str ⟨#[]⟩], true, .st [(0, 4), (1, 40), (5, 4), (6, 40)], true⟩),
  (45, ⟨4, 40, [.int .i64 0, .int .i64 0, .int .i64 0, .str ⟨#[]⟩], true, .st [(0, 2), (1, 2), (2, 2), (3, 9)], true⟩),
  (47, ⟨10, 96, [.bool false, .int .i64 0, .int .i64 0, .int .i64 0, .str ⟨#[]⟩, .bool false, .int .i64 0, .int .i64 0, .int .i64 0, .str ⟨#[]⟩], true, .st [(0, 4), (1, 45), (5, 4), (6, 45)], true⟩),
  (50, ⟨1, 24, [.sl none 0], false, .sl 42, false⟩),
  (52, ⟨1, 24, [.sl none 0], false, .sl 47, false⟩),
  (54, ⟨2, 32, [.int .i64 0, .sl none 0], true, .st [(0, 2), (1, 52)], false⟩),
  (68, ⟨1, 24, [.sl none 0], false, .sl 84, false⟩),
  (69, ⟨1, 24, [.sl none 0], false, .sl 135, false⟩),
  (72, ⟨1, 24, [.sl none 0], false, .sl 138, false⟩),
  (74, ⟨3, 56, [.int .i64 0, .sl none 0, .sl none 0], true, .st [(0, 2), (1, 72), (2, 68)], false⟩),
  (84, ⟨1, 24, [.sl none 0], false, .sl 5, false⟩),
  (88, ⟨1, 24, [.sl none 0], false, .sl 97, false⟩),
  (90, ⟨2, 32, [.int .i64 0, .sl none 0], true, .st [(0, 2), (1, 88)], false⟩),
  (93, ⟨2, 32, [.int .i64 0, .sl none 0], true, .st [(0, 2), (1, 84)], false⟩),
  (97, ⟨2, 32, [.int .i64 0, .sl none 0], true, .st [(0, 2), (1, 84)], false⟩),
  (113, ⟨1, 8, [.ptr none], false, .ptr, false⟩),
  (129, ⟨1, 8, [.nofn], false, .other, false⟩),
  (135, ⟨2, 32, [.int .i64 0, .sl none 0], true, .st [(0, 2), (1, 84)], false⟩),
  (138, ⟨2, 32, [.int .i64 0, .sl none 0], true, .st [(0, 2), (1, 84)], false⟩),
  (143, ⟨1, 8, [.ptr none], false, .ptr, false⟩),
  (153, ⟨1, 8, [.ptr none], false, .ptr, false⟩),
  (159, ⟨1, 8, [.nofn], false, .other, false⟩),
  (163, ⟨1, 8, [.int .u64 0], false, .int .u64, false⟩),
  (166, ⟨2, 32, [.sl none 0, .int .i64 0], true, .st [(0, 84), (1, 2)], false⟩),
  (179, ⟨1, 24, [.sl none 0], false, .sl 2, false⟩)]
noncomputable def fnTab : List (Nat × Func) := [(66, Go.Proofs.Try.f66), (12, Go.Proofs.Try.f12), (68, Go.Proofs.Try.f68), (148, Go.Proofs.Try.f148), (128, Go.Proofs.Try.f128), (129, Go.Proofs.Try.f129), (67, Go.Proofs.Try.f67), (130, Go.Proofs.Try.f130), (69, Go.Proofs.Try.f69), (13, Go.Proofs.Try.f13), (70, Go.Proofs.Try.f70), (14, Go.Proofs.Try.f14), (72, Go.Proofs.Try.f72), (131, Go.Proofs.Try.f131), (132, Go.Proofs.Try.f132), (71, Go.Proofs.Try.f71), (73, Go.Proofs.Try.f73), (15, Go.Proofs.Try.f15), (16, Go.Proofs.Try.f16), (74, Go.Proofs.Try.f74), (17, Go.Proofs.Try.f17), (3, Go.Proofs.Try.f3), (75, Go.Proofs.Try.f75), (18, Go.Proofs.Try.f18), (19, Go.Proofs.Try.f19), (20, Go.Proofs.Try.f20), (76, Go.Proofs.Try.f76), (21, Go.Proofs.Try.f21), (22, Go.Proofs.Try.f22), (77, Go.Proofs.Try.f77), (23, Go.Proofs.Try.f23), (4, Go.Proofs.Try.f4), (24, Go.Proofs.Try.f24), (78, Go.Proofs.Try.f78), (133, Go.Proofs.Try.f133), (134, Go.Proofs.Try.f134), (79, Go.Proofs.Try.f79), (25, Go.Proofs.Try.f25), (26, Go.Proofs.Try.f26), (135, Go.Proofs.Try.f135), (80, Go.Proofs.Try.f80), (98, Go.Proofs.Try.f98), (136, Go.Proofs.Try.f136), (81, Go.Proofs.Try.f81), (27, Go.Proofs.Try.f27), (5, Go.Proofs.Try.f5), (28, Go.Proofs.Try.f28), (82, Go.Proofs.Try.f82), (83, Go.Proofs.Try.f83), (29, Go.Proofs.Try.f29), (30, Go.Proofs.Try.f30), (84, Go.Proofs.Try.f84), (85, Go.Proofs.Try.f85), (31, Go.Proofs.Try.f31), (86, Go.Proofs.Try.f86), (33, Go.Proofs.Try.f33), (32, Go.Proofs.Try.f32), (34, Go.Proofs.Try.f34), (35, Go.Proofs.Try.f35), (87, Go.Proofs.Try.f87), (36, Go.Proofs.Try.f36), (6, Go.Proofs.Try.f6), (137, Go.Proofs.Try.f137), (88, Go.Proofs.Try.f88), (37, Go.Proofs.Try.f37), (89, Go.Proofs.Try.f89), (38, Go.Proofs.Try.f38), (7, Go.Proofs.Try.f7), (90, Go.Proofs.Try.f90), (39, Go.Proofs.Try.f39), (91, Go.Proofs.Try.f91), (138, Go.Proofs.Try.f138), (92, Go.Proofs.Try.f92), (93, Go.Proofs.Try.f93), (40, Go.Proofs.Try.f40), (8, Go.Proofs.Try.f8), (139, Go.Proofs.Try.f139), (94, Go.Proofs.Try.f94), (95, Go.Proofs.Try.f95), (41, Go.Proofs.Try.f41), (96, Go.Proofs.Try.f96), (97, Go.Proofs.Try.f97), (99, Go.Proofs.Try.f99), (100, Go.Proofs.Try.f100), (156, Go.Proofs.Try.f156), (149, Go.Proofs.Try.f149), (141, Go.Proofs.Try.f141), (42, Go.Proofs.Try.f42), (9, Go.Proofs.Try.f9), (103, Go.Proofs.Try.f103), (43, Go.Proofs.Try.f43), (104, Go.Proofs.Try.f104), (44, Go.Proofs.Try.f44), (105, Go.Proofs.Try.f105), (107, Go.Proofs.Try.f107), (106, Go.Proofs.Try.f106), (45, Go.Proofs.Try.f45), (108, Go.Proofs.Try.f108), (46, Go.Proofs.Try.f46), (109, Go.Proofs.Try.f109), (47, Go.Proofs.Try.f47), (111, Go.Proofs.Try.f111), (110, Go.Proofs.Try.f110), (112, Go.Proofs.Try.f112), (48, Go.Proofs.Try.f48), (113, Go.Proofs.Try.f113), (50, Go.Proofs.Try.f50), (114, Go.Proofs.Try.f114), (51, Go.Proofs.Try.f51), (49, Go.Proofs.Try.f49), (115, Go.Proofs.Try.f115), (52, Go.Proofs.Try.f52), (53, Go.Proofs.Try.f53), (54, Go.Proofs.Try.f54), (142, Go.Proofs.Try.f142), (116, Go.Proofs.Try.f116), (117, Go.Proofs.Try.f117), (55, Go.Proofs.Try.f55), (10, Go.Proofs.Try.f10), (56, Go.Proofs.Try.f56), (118, Go.Proofs.Try.f118), (144, Go.Proofs.Try.f144), (120, Go.Proofs.Try.f120), (145, Go.Proofs.Try.f145), (146, Go.Proofs.Try.f146), (150, Go.Proofs.Try.f150), (157, Go.Proofs.Try.f157), (158, Go.Proofs.Try.f158), (151, Go.Proofs.Try.f151), (152, Go.Proofs.Try.f152), (159, Go.Proofs.Try.f159), (160, Go.Proofs.Try.f160), (161, Go.Proofs.Try.f161), (162, Go.Proofs.Try.f162), (153, Go.Proofs.Try.f153), (163, Go.Proofs.Try.f163), (154, Go.Proofs.Try.f154), (164, Go.Proofs.Try.f164), (155, Go.Proofs.Try.f155), (143, Go.Proofs.Try.f143), (119, Go.Proofs.Try.f119), (57, Go.Proofs.Try.f57), (121, Go.Proofs.Try.f121), (58, Go.Proofs.Try.f58), (122, Go.Proofs.Try.f122), (59, Go.Proofs.Try.f59), (63, Go.Proofs.Try.f63), (123, Go.Proofs.Try.f123), (60, Go.Proofs.Try.f60), (61, Go.Proofs.Try.f61), (124, Go.Proofs.Try.f124), (125, Go.Proofs.Try.f125), (62, Go.Proofs.Try.f62), (64, Go.Proofs.Try.f64), (147, Go.Proofs.Try.f147), (126, Go.Proofs.Try.f126), (127, Go.Proofs.Try.f127), (65, Go.Proofs.Try.f65), (11, Go.Proofs.Try.f11)]
def keepTab : List (Nat × List Nat) := [(11000, [0, 3, 4, 5, 6, 7, 8, 9, 10]),
  (11002, [0, 3, 4, 5, 6, 7, 8, 9, 11, 12]),
  (12000, [0, 1, 5]),
  (14000, [0, 3, 4]),
  (17000, [0, 1, 5]),
  (19000, [2, 4, 13, 14, 15]),
  (21000, [0, 1, 5]),
  (28000, [0, 1, 5]),
  (29000, [0, 2, 3]),
  (30000, [0, 3, 4]),
  (31000, [0, 2, 10, 11, 12]),
  (33000, [0, 1, 5]),
  (34000, [0, 1, 5]),
  (39000, [1, 4, 6, 7]),
  (40000, [4, 6, 18, 19, 20]),
  (43000, [0, 1, 5]),
  (44000, [0, 1, 5]),
  (45000, [1, 4, 5, 6]),
  (46000, [0, 3, 4]),
  (47000, [0, 3, 4]),
  (48000, [1, 4, 5, 14, 15, 16]),
  (50000, [0, 1, 5]),
  (51000, [0, 1, 5]),
  (52000, [0, 1, 5]),
  (53000, [0, 1, 5]),
  (61000, [0, 4, 6, 19, 20, 21]),
  (63000, [3, 10, 11, 12]),
  (67000, [0, 3]),
  (71000, [0, 9, 10, 11]),
  (73000, [1, 8, 9, 10]),
  (75000, [0, 3, 4]),
  (76000, [0, 3]),
  (77000, [0, 1, 5]),
  (83000, [0, 3, 4]),
  (85000, [0, 3, 4]),
  (87000, [0, 1, 5]),
  (88000, [0, 1, 5, 6]),
  (88002, [0, 1, 5, 7, 8]),
  (89000, [0, 1, 5]),
  (90000, [0, 1, 8, 9, 10]),
  (94000, [0, 3]),
  (95000, [0, 3, 6, 7, 8]),
  (96000, [0, 9, 10, 11]),
  (97000, [0, 2, 4, 8, 9, 10]),
  (106000, [0, 3, 4]),
  (108000, [0, 3, 4]),
  (110000, [3, 6, 7, 8]),
  (112000, [3, 6, 7, 8]),
  (113000, [0, 1, 5]),
  (115000, [0, 1, 5]),
  (116000, [0, 1, 5]),
  (117000, [0, 1, 5]),
  (119000, [0, 4, 5, 6]),
  (121000, [0, 1, 5, 6]),
  (121002, [0, 1, 5, 6, 7]),
  (122000, [0, 1, 5, 6, 7]),
  (123000, [5, 10, 11, 12]),
  (127000, [1, 5, 6]),
  (130000, [0, 1, 2, 7]),
  (131000, [1, 26, 27]),
  (134000, [0, 1, 6, 7]),
  (136000, [3, 28, 29, 30]),
  (137000, [0, 3, 5]),
  (138000, [0, 2, 4, 8, 9, 10]),
  (142000, [0, 1, 5]),
  (143000, [0, 3, 4]),
  (146000, [0, 1, 5]),
  (147000, [0, 3]),
  (148000, [0, 3]),
  (150000, [0, 3, 4]),
  (152000, [5]),
  (154000, [0, 3, 4, 5, 6]),
  (156000, [0, 2, 3]),
  (161000, [0, 3, 4]),
  (164000, [0, 3])]
def aftTab : List (Nat × List Nat) := [(11000, [0, 3, 4, 5, 6, 7, 8, 9]),
  (11002, [0, 3, 4, 5, 6, 7, 8, 9, 11]),
  (12000, [1]),
  (14000, [3]),
  (17000, []),
  (19000, [2, 4]),
  (21000, [1]),
  (28000, [1]),
  (29000, [0, 2]),
  (30000, [3]),
  (31000, [0, 2]),
  (33000, []),
  (34000, [1]),
  (39000, [4, 6]),
  (40000, [4, 6]),
  (43000, [1]),
  (44000, [1]),
  (45000, [4, 5]),
  (46000, [3]),
  (47000, [3]),
  (48000, [1, 4, 5]),
  (50000, []),
  (51000, []),
  (52000, [1]),
  (53000, [1]),
  (61000, [4, 6]),
  (63000, []),
  (67000, []),
  (71000, []),
  (73000, []),
  (75000, [3]),
  (76000, [3]),
  (77000, [1]),
  (83000, [3]),
  (85000, [3]),
  (87000, [1]),
  (88000, [0, 1, 5]),
  (88002, [7]),
  (89000, [5]),
  (90000, [1, 9]),
  (94000, []),
  (95000, [3, 6, 7]),
  (96000, []),
  (97000, [0, 2, 4, 8, 9]),
  (106000, [3]),
  (108000, [3]),
  (110000, [3]),
  (112000, [3]),
  (113000, []),
  (115000, [1]),
  (116000, [1]),
  (117000, [1]),
  (119000, [4, 5]),
  (121000, [5]),
  (121002, [0, 1, 5, 6, 7]),
  (122000, [5]),
  (123000, [5]),
  (127000, [5]),
  (130000, []),
  (131000, []),
  (134000, []),
  (136000, []),
  (137000, [0, 3, 5]),
  (138000, [0, 2, 4, 8, 9]),
  (142000, [1]),
  (143000, [3]),
  (146000, [5]),
  (147000, []),
  (148000, [0]),
  (150000, [3]),
  (152000, [5]),
  (154000, [4, 5]),
  (156000, []),
  (161000, [3]),
  (164000, [0])]
def killTab : List (Nat × List Nat) := [(42014, [10]),
  (89011, [7]),
  (89014, [7])]
def schedTab : List (Nat × List (Nat × Nat)) := [(5008, [(0, 0), (2, 0), (1, 1), (3, 1), (4, 1), (5, 1)]),
  (9008, [(0, 0), (2, 0), (1, 5), (3, 5), (4, 5), (5, 6), (6, 2)]),
  (9027, [(0, 0), (2, 0), (1, 5), (3, 5), (4, 5), (5, 6), (6, 2)]),
  (11006, [(0, 0), (1, 0), (4, 0), (5, 0), (2, 1), (3, 1), (6, 1), (7, 1)]),
  (11019, [(0, 0), (1, 0), (2, 0), (3, 0), (4, 0), (5, 0), (6, 0), (7, 0), (8, 0)]),
  (11023, [(0, 0), (1, 0), (2, 1), (3, 0), (4, 0), (5, 0), (6, 0), (7, 0), (8, 0), (9, 0), (10, 0), (11, 0), (12, 0), (13, 1), (14, 0), (15, 0), (16, 0), (17, 0), (18, 0), (19, 0), (20, 0), (21, 0), (22, 0), (23, 0), (24, 1), (25, 0), (26, 0), (27, 0), (28, 0), (29, 0), (30, 0), (31, 0), (32, 0), (33, 0), (34, 0), (35, 0), (36, 1), (37, 3), (38, 3), (39, 3), (40, 3), (41, 3), (43, 3), (44, 3), (42, 4), (45, 1), (46, 3), (47, 1), (48, 3), (49, 3)]),
  (17006, [(0, 0), (1, 0), (2, 0), (3, 0), (4, 0), (5, 0), (6, 0), (7, 0), (8, 1), (9, 0)]),
  (33006, [(0, 0), (1, 0), (2, 0), (3, 0), (4, 0), (5, 0), (6, 0), (7, 0), (8, 1), (9, 0)]),
  (42014, [(0, 0), (1, 0), (2, 0), (3, 0), (4, 0), (5, 1), (6, 0), (7, 1)]),
  (45008, [(0, 0), (1, 0), (2, 0), (3, 0), (4, 0), (5, 0), (6, 0), (7, 0), (8, 0), (9, 0), (10, 0), (11, 0), (12, 0), (13, 0), (14, 1), (15, 0), (16, 0)]),
  (45012, [(0, 0), (1, 0), (2, 0), (3, 0), (4, 0), (5, 0), (6, 0), (7, 0)]),
  (45013, [(0, 0), (1, 0), (2, 0), (3, 0), (4, 0), (5, 0), (6, 1), (7, 1), (8, 2), (9, 2), (10, 2)]),
  (45014, [(0, 0), (1, 0), (2, 0), (3, 0), (4, 0), (5, 0), (6, 0), (7, 0), (8, 0), (9, 0), (10, 1), (11, 0), (12, 2)]),
  (45015, [(0, 0), (1, 0), (2, 0), (3, 0), (4, 0), (5, 0), (6, 0), (7, 0), (8, 0), (9, 0), (10, 1), (11, 0), (12, 1), (13, 2), (14, 2), (15, 2)]),
  (48013, [(0, 0), (1, 0), (2, 0), (3, 0), (4, 0), (5, 1), (6, 0), (7, 2)]),
  (50006, [(0, 0), (1, 0), (2, 0), (3, 0), (4, 0), (5, 0), (6, 0), (7, 0), (8, 1), (9, 0)]),
  (51006, [(0, 0), (1, 0), (2, 0), (3, 0), (4, 0), (5, 0), (6, 0), (7, 0), (8, 1), (9, 0)]),
  (57004, [(0, 0), (1, 0), (2, 0), (3, 0), (4, 0)]),
  (61010, [(0, 0), (1, 0), (2, 0), (3, 0), (4, 0), (5, 0), (6, 0), (7, 0), (8, 0), (9, 0), (10, 0), (11, 0), (12, 0), (13, 1), (14, 0), (15, 1), (16, 2), (17, 2)]),
  (67009, [(0, 0), (1, 0), (2, 0), (3, 0), (4, 0), (5, 0), (6, 0), (7, 0), (8, 0), (9, 0), (10, 1), (11, 0), (12, 0)]),
  (71009, [(0, 0), (1, 0), (2, 0), (3, 0), (4, 0), (5, 0), (6, 0), (7, 0), (8, 0), (9, 1), (10, 0), (11, 0)]),
  (77013, [(0, 0), (1, 0), (2, 0), (3, 0), (4, 0), (5, 0), (6, 1), (7, 0)]),
  (78001, [(0, 0), (1, 0), (2, 0), (3, 0), (4, 0), (5, 0), (6, 0), (7, 0), (8, 0), (9, 0), (10, 0), (11, 0), (12, 0), (13, 0), (14, 0), (15, 0), (16, 0), (17, 0), (18, 0), (19, 0), (20, 0), (21, 0), (22, 0), (23, 0), (24, 0), (25, 0), (26, 0), (27, 0), (28, 0), (29, 0), (30, 0), (31, 0), (32, 0), (33, 0), (34, 0), (35, 0), (36, 0), (37, 0), (38, 0), (39, 0), (40, 0), (41, 0), (42, 0), (43, 0), (44, 0), (45, 0), (46, 0), (47, 0), (48, 0), (49, 0)]),
  (82004, [(0, 0), (1, 0), (2, 0), (3, 0), (4, 0), (5, 0), (6, 0), (7, 0), (8, 0), (9, 0), (10, 0), (11, 0), (12, 0), (13, 0), (14, 0), (15, 0), (16, 0), (17, 0), (18, 0), (19, 0), (20, 0)]),
  (87016, [(0, 0), (1, 0), (2, 0), (3, 0), (4, 0), (5, 0), (6, 0), (7, 1), (8, 0)]),
  (87031, [(0, 0), (1, 0), (2, 0), (3, 0), (4, 0), (5, 0), (6, 0), (7, 1), (8, 0)]),
  (88005, [(0, 0), (1, 0), (2, 0), (3, 0), (4, 0), (5, 0), (6, 0), (7, 0), (8, 0), (9, 0), (10, 0), (11, 1), (12, 0)]),
  (88011, [(0, 0), (1, 0), (2, 0), (3, 0), (4, 0), (5, 0), (6, 0), (7, 0), (8, 0), (9, 0), (10, 0), (11, 1), (12, 0)]),
  (88012, [(0, 0), (1, 0), (2, 0), (3, 0), (4, 0), (5, 0), (6, 0), (7, 0), (8, 0), (9, 0), (10, 0), (11, 1), (12, 0)]),
  (88013, [(0, 0), (1, 0), (2, 0), (3, 0), (4, 0), (5, 0), (6, 0), (7, 0), (8, 0), (9, 0), (10, 0), (11, 0), (12, 0), (13, 0), (14, 0), (15, 0), (16, 0)]),
  (89004, [(0, 0), (1, 0), (2, 0), (3, 0), (4, 0), (5, 0), (6, 1), (7, 0)]),
  (89011, [(0, 0), (1, 0), (2, 0), (3, 0), (4, 1), (5, 0), (6, 1)]),
  (89014, [(0, 0), (1, 0), (2, 0), (3, 0), (4, 1), (5, 0), (6, 1)]),
  (90003, [(0, 0), (1, 0), (2, 0), (3, 0), (4, 0), (5, 0), (6, 0), (7, 0), (8, 0), (9, 0), (10, 0), (11, 0), (12, 0), (13, 0), (14, 0), (15, 0), (16, 0), (17, 0), (18, 0), (19, 0), (20, 0), (21, 0)]),
  (92002, [(0, 0), (1, 0), (2, 0), (3, 0), (4, 0), (5, 0), (6, 0), (7, 0), (8, 0), (9, 0), (10, 0), (11, 0), (12, 0), (13, 0), (14, 0), (15, 0), (16, 0), (17, 0)]),
  (94009, [(0, 0), (1, 0), (2, 0), (3, 0), (4, 0), (5, 0), (6, 0), (7, 0), (8, 0), (9, 0), (10, 1), (11, 0), (12, 0)]),
  (96009, [(0, 0), (1, 0), (2, 0), (3, 0), (4, 0), (5, 0), (6, 0), (7, 0), (9, 0), (8, 1), (10, 1), (11, 1), (12, 0), (13, 0)]),
  (97005, [(0, 0), (1, 0), (2, 0), (3, 0), (4, 0), (5, 0), (6, 1), (7, 0)]),
  (97008, [(0, 0), (1, 0), (2, 0), (3, 0), (4, 0), (5, 0), (6, 0), (7, 0), (8, 0), (9, 0), (10, 0), (11, 1), (12, 0), (13, 0), (14, 0), (15, 0)]),
  (99001, [(0, 0), (2, 0), (1, 1), (3, 1), (4, 0)]),
  (101011, [(0, 0), (1, 0), (2, 0), (3, 0), (4, 0), (5, 0), (6, 0), (7, 0), (8, 2)]),
  (101015, [(0, 0), (1, 0), (2, 0), (3, 0), (4, 0), (5, 0), (6, 0), (7, 0), (8, 2)]),
  (102005, [(0, 0), (1, 0), (2, 0), (3, 0), (4, 0), (5, 0), (6, 2), (7, 2)]),
  (112005, [(0, 0), (1, 0), (2, 0), (3, 0), (4, 0), (5, 1), (6, 0), (7, 1), (8, 2), (9, 2)]),
  (113006, [(0, 0), (1, 0), (2, 0), (3, 0), (4, 0), (5, 0), (6, 0), (7, 0), (8, 0)]),
  (121005, [(0, 0), (1, 0), (2, 0), (3, 0), (4, 0), (5, 0), (6, 0), (7, 0), (8, 0)]),
  (121007, [(0, 0), (1, 0), (2, 0), (3, 0), (4, 0), (5, 0), (6, 0), (7, 0), (8, 0), (9, 0), (10, 0), (11, 0), (12, 0)]),
  (122006, [(0, 0), (1, 0), (2, 0), (3, 0), (4, 0), (5, 0), (6, 0), (7, 0), (8, 0)]),
  (122012, [(1, 0), (2, 0), (3, 0), (4, 0), (5, 0), (6, 0), (7, 0), (8, 0), (0, 3), (9, 1), (10, 2), (11, 2), (12, 2), (13, 2)]),
  (123005, [(0, 0), (1, 0), (2, 0), (3, 0), (4, 0), (5, 0), (6, 2)]),
  (127005, [(0, 0), (1, 0), (2, 0), (3, 0), (4, 0), (5, 0), (6, 0), (7, 0), (8, 0), (9, 0), (10, 0), (11, 0), (12, 2)]),
  (129001, [(0, 0), (1, 0), (2, 0), (3, 0), (4, 0), (5, 0), (6, 0), (7, 0), (8, 0), (9, 0), (10, 0), (11, 0), (12, 0), (13, 0), (14, 0), (15, 0), (16, 0), (17, 0), (18, 0), (19, 0), (20, 0), (21, 0), (22, 0), (23, 0), (24, 0), (25, 0), (26, 0), (27, 0), (28, 0), (29, 0), (30, 0), (31, 0)]),
  (133002, [(0, 0), (1, 0), (2, 0), (3, 0), (4, 0), (5, 0), (6, 0), (7, 0), (8, 0), (9, 0), (10, 0), (11, 0)]),
  (133003, [(0, 0), (1, 0), (2, 0), (3, 0), (4, 0), (5, 0), (6, 0), (7, 0), (8, 0), (9, 0), (10, 0), (11, 0)]),
  (134007, [(0, 0), (1, 0), (2, 0), (3, 0), (4, 0), (5, 0), (6, 0), (7, 0), (8, 0), (9, 0), (10, 0), (11, 0), (12, 0), (13, 0), (14, 0), (15, 0), (16, 0), (17, 0), (18, 0), (19, 0), (20, 0), (21, 0), (22, 0), (23, 0), (24, 0), (25, 0), (26, 0), (27, 0), (28, 0), (29, 0), (30, 0), (31, 0), (32, 0), (33, 0), (34, 0), (35, 0)]),
  (136006, [(0, 0), (1, 0), (2, 0), (3, 1), (4, 0), (5, 0), (6, 0), (7, 0), (8, 0), (9, 0), (10, 0), (11, 0), (12, 0), (13, 0), (14, 0), (15, 0), (16, 0), (17, 0), (18, 0), (19, 0), (20, 0), (21, 0), (22, 0), (23, 0), (24, 0)]),
  (137005, [(0, 0), (1, 0), (4, 3), (5, 3), (6, 3), (2, 1), (3, 2), (7, 2), (8, 2)]),
  (138005, [(0, 0), (1, 0), (2, 0), (3, 0), (4, 0), (5, 0), (6, 1), (7, 0)]),
  (138008, [(0, 0), (1, 0), (2, 0), (3, 0), (4, 0), (5, 0), (6, 0), (7, 0), (8, 0), (9, 0), (10, 0), (11, 1), (12, 0), (13, 0), (14, 0), (15, 0)]),
  (144008, [(0, 0), (1, 0), (2, 0), (3, 0), (4, 0), (5, 0), (6, 0), (7, 0), (8, 0), (9, 0), (10, 0), (11, 0), (12, 0), (13, 0), (14, 0), (15, 0)]),
  (144010, [(0, 0), (1, 0), (2, 0), (3, 0), (4, 0), (5, 0), (6, 0), (7, 0), (8, 0), (9, 0), (10, 0), (11, 0), (12, 0), (13, 0), (14, 0), (15, 0), (16, 0), (17, 0)]),
  (147009, [(0, 0), (1, 0), (2, 0), (3, 0), (4, 0), (5, 0), (6, 0), (7, 0), (8, 0), (9, 0), (10, 0), (11, 0), (12, 0), (13, 0), (14, 0), (15, 0), (16, 0), (17, 0), (18, 0), (19, 0), (20, 0), (21, 0), (22, 0), (23, 0)]),
  (156003, [(0, 0), (1, 0), (4, 0), (5, 0), (6, 0), (7, 0), (8, 0), (9, 0), (10, 0), (11, 0), (12, 0), (2, 3), (3, 3), (13, 2), (14, 2), (15, 2)])]
def modeTab : List (Nat × Nat) := [(3011, 1),
  (3015, 3),
  (3017, 1),
  (3019, 3),
  (3022, 1),
  (3025, 1),
  (3029, 3),
  (3030, 1),
  (4013, 1),
  (4017, 3),
  (4018, 3),
  (4020, 2),
  (4022, 2),
  (4025, 1),
  (4029, 3),
  (4030, 1),
  (4040, 1),
  (4048, 1),
  (4055, 3),
  (4056, 3),
  (4059, 1),
  (4063, 1),
  (5011, 1),
  (5016, 1),
  (5020, 3),
  (5022, 1),
  (5023, 1),
  (5025, 3),
  (5028, 1),
  (5029, 1),
  (5035, 3),
  (5036, 1),
  (6013, 1),
  (6017, 3),
  (6018, 3),
  (6020, 2),
  (6022, 2),
  (6025, 1),
  (6029, 3),
  (6030, 1),
  (6040, 1),
  (6048, 1),
  (6055, 3),
  (6056, 3),
  (6059, 1),
  (6063, 1),
  (7016, 1),
  (7021, 1),
  (7025, 3),
  (7027, 3),
  (7028, 3),
  (7030, 2),
  (7032, 2),
  (7035, 2),
  (7038, 1),
  (7042, 3),
  (7043, 1),
  (7047, 3),
  (7048, 1),
  (7061, 1),
  (7069, 1),
  (7076, 3),
  (7078, 3),
  (7079, 3),
  (7082, 1),
  (7086, 1),
  (8016, 1),
  (8021, 1),
  (8025, 3),
  (8027, 3),
  (8028, 3),
  (8030, 2),
  (8032, 2),
  (8038, 1),
  (8042, 3),
  (8043, 1),
  (8047, 3),
  (8048, 1),
  (8061, 1),
  (8069, 1),
  (8076, 2),
  (8078, 2),
  (8082, 1),
  (8086, 1),
  (9015, 1),
  (9020, 1),
  (9024, 3),
  (9026, 1),
  (9027, 3),
  (9029, 2),
  (9032, 1),
  (9033, 2),
  (9036, 1),
  (9040, 3),
  (9041, 1),
  (9051, 1),
  (9059, 1),
  (9066, 3),
  (9068, 1),
  (9069, 3),
  (9072, 1),
  (9076, 1),
  (10016, 1),
  (10021, 1),
  (10025, 3),
  (10027, 3),
  (10028, 3),
  (10030, 2),
  (10032, 2),
  (10035, 2),
  (10038, 1),
  (10042, 3),
  (10043, 1),
  (10047, 3),
  (10048, 1),
  (10061, 1),
  (10069, 1),
  (10076, 3),
  (10078, 3),
  (10079, 3),
  (10082, 1),
  (10086, 1),
  (11017, 1),
  (11020, 3),
  (11025, 3),
  (11031, 3),
  (11039, 3),
  (11043, 3),
  (11047, 3),
  (11083, 3),
  (11088, 3),
  (11091, 1),
  (11102, 1),
  (11113, 1),
  (11125, 3),
  (11134, 3),
  (11136, 1),
  (12023, 1),
  (13008, 1),
  (13014, 1),
  (13019, 1),
  (14020, 1),
  (15009, 1),
  (15015, 1),
  (15021, 1),
  (17025, 1),
  (18005, 1),
  (18011, 3),
  (19008, 1),
  (20014, 1),
  (21036, 1),
  (23008, 1),
  (24008, 1),
  (24014, 1),
  (25008, 1),
  (25012, 1),
  (25017, 1),
  (26009, 1),
  (26016, 1),
  (27008, 1),
  (27013, 1),
  (27019, 1),
  (28023, 1),
  (29018, 1),
  (29024, 3),
  (30020, 1),
  (31017, 1),
  (31024, 2),
  (32014, 1),
  (33025, 1),
  (34048, 1),
  (34090, 1),
  (36008, 1),
  (37008, 1),
  (37014, 1),
  (37021, 3),
  (38008, 1),
  (38014, 1),
  (38021, 2),
  (39012, 1),
  (39029, 1),
  (39039, 2),
  (40011, 1),
  (40025, 1),
  (40032, 1),
  (40037, 2),
  (41010, 1),
  (41015, 1),
  (41023, 3),
  (42012, 1),
  (42018, 1),
  (42026, 1),
  (42027, 1),
  (42031, 2),
  (43023, 1),
  (44023, 1),
  (45011, 3),
  (45013, 2),
  (45038, 1),
  (45041, 3),
  (45047, 3),
  (45062, 2),
  (45076, 2),
  (45088, 2),
  (46020, 2),
  (47020, 2),
  (48013, 2),
  (48029, 1),
  (48050, 2),
  (48054, 2),
  (49014, 1),
  (49020, 1),
  (50025, 1),
  (51025, 1),
  (55008, 1),
  (55014, 1),
  (57008, 2),
  (58016, 3),
  (59016, 3),
  (60011, 1),
  (60018, 3),
  (61014, 1),
  (61038, 2),
  (62006, 2),
  (63021, 1),
  (63025, 1),
  (65008, 1),
  (65015, 3),
  (67017, 1),
  (67031, 1),
  (69008, 1),
  (71017, 1),
  (71030, 1),
  (77045, 1),
  (78061, 1),
  (78072, 1),
  (79010, 1),
  (79017, 1),
  (79025, 1),
  (80024, 1),
  (80032, 1),
  (80040, 1),
  (81008, 1),
  (81013, 1),
  (81022, 1),
  (82005, 1),
  (84005, 1),
  (86014, 1),
  (86025, 1),
  (87060, 1),
  (87112, 1),
  (88032, 1),
  (88039, 2),
  (88058, 1),
  (88070, 1),
  (89022, 1),
  (90013, 1),
  (90019, 1),
  (90068, 2),
  (92010, 1),
  (92011, 1),
  (93011, 1),
  (93012, 1),
  (94017, 1),
  (94031, 1),
  (95024, 1),
  (95030, 1),
  (95032, 1),
  (96017, 1),
  (96029, 1),
  (96031, 1),
  (96032, 1),
  (97030, 1),
  (97046, 1),
  (99006, 1),
  (99008, 1),
  (101067, 1),
  (104008, 1),
  (106017, 2),
  (109009, 2),
  (110014, 2),
  (112017, 2),
  (114014, 1),
  (116027, 1),
  (117017, 1),
  (119010, 2),
  (121043, 2),
  (123009, 2),
  (125013, 2),
  (126009, 1),
  (127008, 2),
  (128007, 1),
  (128014, 1),
  (128022, 1),
  (128029, 1),
  (131006, 1),
  (131011, 1),
  (131017, 1),
  (134010, 1),
  (134019, 1),
  (135008, 1),
  (135012, 1),
  (136013, 1),
  (136037, 1),
  (137015, 1),
  (138030, 1),
  (138046, 1),
  (139011, 1),
  (139016, 1),
  (143017, 2),
  (143034, 2),
  (143047, 1),
  (143050, 2),
  (143057, 1),
  (143062, 2),
  (143073, 2),
  (147025, 1),
  (147029, 1),
  (151007, 1),
  (151009, 1),
  (151013, 1),
  (152007, 2),
  (152029, 1),
  (153013, 1),
  (153015, 2),
  (153024, 1),
  (153034, 1),
  (153041, 1),
  (153047, 1),
  (154009, 1),
  (154025, 1),
  (154029, 3),
  (155013, 1),
  (155015, 1),
  (155024, 1),
  (155031, 1),
  (155041, 2),
  (161006, 1),
  (161011, 1),
  (161018, 1),
  (163008, 1),
  (163015, 1),
  (164006, 1),
  (164012, 1),
  (164016, 1)]
def pszTab : List (Nat × List Nat) := [(128, [4]),
  (129, [4, 4]),
  (78, [10]),
  (133, [10]),
  (134, [0, 10]),
  (79, [0, 10]),
  (82, [10]),
  (90, [0, 10]),
  (139, [10, 10]),
  (144, [2, 0]),
  (120, [2, 0]),
  (145, [2, 0]),
  (146, [2, 0]),
  (143, [2]),
  (119, [2]),
  (124, [2]),
  (125, [2])]
def vtTab : List (Nat × VT) := [(2, .one (.i .i64)),
  (3, .one (.i .i64)),
  (4, .one (.b)),
  (5, .one (.i .u8)),
  (9, .one (.s)),
  (25, .agg [.i .i64, .i .i64]),
  (33, .agg [.i .i64, .x]),
  (40, .agg [.i .i64, .i .i64, .i .i64, .s]),
  (42, .agg [.b, .i .i64, .i .i64, .i .i64, .s, .b, .i .i64, .i .i64, .i .i64, .s]),
  (45, .agg [.i .i64, .i .i64, .i .i64, .s]),
  (47, .agg [.b, .i .i64, .i .i64, .i .i64, .s, .b, .i .i64, .i .i64, .i .i64, .s]),
  (54, .agg [.i .i64, .x]),
  (74, .agg [.i .i64, .x, .x]),
  (86, .tup [([.x], false), ([.x], false)]),
  (90, .agg [.i .i64, .x]),
  (93, .agg [.i .i64, .x]),
  (97, .agg [.i .i64, .x]),
  (98, .tup [([.x], false), ([.x], false)]),
  (107, .tup [([.i .i64], false), ([.b], false)]),
  (119, .tup [([.x], false), ([.b], false)]),
  (124, .tup [([.x], false), ([.b], false)]),
  (126, .tup [([.i .i64], false), ([.b], false)]),
  (135, .agg [.i .i64, .x]),
  (138, .agg [.i .i64, .x]),
  (157, .tup [([.i .i64], false), ([.i .i64], false)]),
  (163, .one (.i .u64)),
  (166, .agg [.x, .i .i64]),
  (175, .tup [([.x], false), ([.i .i64], false)]),
  (177, .tup [([.x], false), ([.i .i64], false), ([.i .i64], false)])]
def vfTab : List (Nat × VT) := [(2, .one (.i .i64)),
  (3, .one (.i .i64)),
  (4, .one (.b)),
  (5, .one (.i .u8)),
  (9, .one (.s)),
  (22, .one (.f)),
  (25, .agg [.i .i64, .i .i64]),
  (27, .one (.f)),
  (33, .agg [.i .i64, .f]),
  (40, .agg [.i .i64, .i .i64, .i .i64, .s]),
  (42, .agg [.b, .i .i64, .i .i64, .i .i64, .s, .b, .i .i64, .i .i64, .i .i64, .s]),
  (45, .agg [.i .i64, .i .i64, .i .i64, .s]),
  (47, .agg [.b, .i .i64, .i .i64, .i .i64, .s, .b, .i .i64, .i .i64, .i .i64, .s]),
  (50, .one (.f)),
  (52, .one (.f)),
  (54, .agg [.i .i64, .f]),
  (68, .one (.f)),
  (69, .one (.f)),
  (72, .one (.f)),
  (74, .agg [.i .i64, .f, .f]),
  (84, .one (.f)),
  (88, .one (.f)),
  (90, .agg [.i .i64, .f]),
  (93, .agg [.i .i64, .f]),
  (97, .agg [.i .i64, .f]),
  (135, .agg [.i .i64, .f]),
  (138, .agg [.i .i64, .f]),
  (163, .one (.i .u64)),
  (166, .agg [.f, .i .i64]),
  (179, .one (.f))]
def rtTab : List (Nat × VT) := [(66, .one (.i .i64)),
  (12, .one (.i .i64)),
  (68, .one (.b)),
  (148, .one (.b)),
  (128, .one (.i .i64)),
  (129, .one (.b)),
  (67, .one (.i .i64)),
  (130, .one (.i .i64)),
  (69, .one (.i .i64)),
  (13, .agg [.i .i64, .i .i64]),
  (70, .agg [.i .i64, .i .i64, .i .i64, .s]),
  (14, .one (.f)),
  (72, .one (.b)),
  (131, .one (.i .i64)),
  (132, .one (.b)),
  (71, .one (.i .i64)),
  (73, .tup [([.i .i64], false), ([.b], false)]),
  (15, .agg [.i .i64, .i .i64]),
  (16, .one (.b)),
  (74, .one (.b)),
  (17, .one (.b)),
  (3, .one (.b)),
  (75, .one (.f)),
  (18, .agg [.i .i64, .f]),
  (19, .agg [.i .i64, .f]),
  (20, .one (.b)),
  (76, .one (.s)),
  (21, .one (.i .i64)),
  (22, .one (.i .i64)),
  (77, .one (.i .i64)),
  (23, .one (.i .i64)),
  (4, .one (.b)),
  (24, .one (.i .i64)),
  (78, .one (.i .i64)),
  (133, .tup [([.i .i64], false), ([.i .i64], false)]),
  (134, .one (.i .i64)),
  (79, .one (.i .i64)),
  (25, .one (.i .i64)),
  (26, .agg [.b, .i .i64, .i .i64, .i .i64, .s, .b, .i .i64, .i .i64, .i .i64, .s]),
  (135, .one (.i .i64)),
  (80, .one (.i .i64)),
  (98, .agg [.i .i64, .i .i64, .i .i64, .s]),
  (136, .one (.i .i64)),
  (81, .one (.i .i64)),
  (27, .one (.i .i64)),
  (5, .one (.b)),
  (28, .one (.i .i64)),
  (82, .one (.i .i64)),
  (83, .one (.f)),
  (29, .agg [.i .i64, .f]),
  (30, .one (.f)),
  (84, .one (.i .i64)),
  (85, .one (.f)),
  (31, .agg [.i .i64, .f]),
  (86, .one (.b)),
  (33, .one (.b)),
  (32, .one (.b)),
  (34, .one (.i .i64)),
  (35, .one (.i .i64)),
  (87, .one (.i .i64)),
  (36, .one (.i .i64)),
  (6, .one (.b)),
  (137, .one (.f)),
  (88, .one (.f)),
  (37, .agg [.i .i64, .f]),
  (89, .one (.f)),
  (38, .agg [.i .i64, .f]),
  (7, .one (.b)),
  (90, .tup [([.f], false), ([.b], false)]),
  (39, .agg [.i .i64, .f]),
  (91, .one (.f)),
  (138, .tup [([.i .i64], false), ([.b], false)]),
  (92, .one (.b)),
  (93, .one (.f)),
  (40, .agg [.i .i64, .f]),
  (8, .one (.b)),
  (139, .one (.b)),
  (94, .one (.i .i64)),
  (95, .tup [([.f], false), ([.b], false)]),
  (41, .agg [.i .i64, .f]),
  (96, .one (.i .i64)),
  (97, .tup [([.i .i64], false), ([.b], false)]),
  (99, .one (.i .i64)),
  (100, .one (.f)),
  (42, .agg [.i .i64, .f]),
  (9, .one (.b)),
  (103, .one (.i .i64)),
  (43, .one (.i .i64)),
  (104, .one (.i .i64)),
  (44, .one (.i .i64)),
  (105, .agg [.i .i64, .f, .f]),
  (107, .one (.f)),
  (106, .one (.f)),
  (45, .agg [.i .i64, .f, .f]),
  (108, .one (.f)),
  (46, .one (.f)),
  (109, .agg [.i .i64, .f]),
  (47, .one (.f)),
  (111, .one (.f)),
  (110, .one (.f)),
  (112, .one (.f)),
  (48, .agg [.i .i64, .f, .f]),
  (113, .one (.b)),
  (50, .one (.b)),
  (114, .one (.b)),
  (51, .one (.b)),
  (49, .one (.b)),
  (115, .one (.i .i64)),
  (52, .one (.i .i64)),
  (53, .one (.i .i64)),
  (54, .one (.i .i64)),
  (142, .one (.i .i64)),
  (116, .one (.i .i64)),
  (117, .one (.i .i64)),
  (55, .one (.i .i64)),
  (10, .one (.b)),
  (56, .one (.b)),
  (144, .one (.i .i64)),
  (120, .one (.b)),
  (145, .one (.i .i64)),
  (146, .one (.f)),
  (150, .one (.f)),
  (157, .one (.i .i64)),
  (158, .one (.i .i64)),
  (151, .one (.b)),
  (152, .one (.f)),
  (160, .one (.i .i64)),
  (161, .one (.i .i64)),
  (162, .one (.i .i64)),
  (153, .tup [([.f], false), ([.i .i64], false)]),
  (163, .one (.f)),
  (154, .one (.f)),
  (164, .one (.i .i64)),
  (155, .tup [([.f], false), ([.i .i64], false), ([.i .i64], false)]),
  (143, .one (.f)),
  (119, .tup [([.f], false), ([.f], false)]),
  (57, .tup [([.f], false), ([.f], false)]),
  (121, .one (.f)),
  (58, .agg [.i .i64, .f]),
  (122, .one (.f)),
  (59, .agg [.i .i64, .f]),
  (63, .one (.i .i64)),
  (123, .one (.f)),
  (60, .agg [.i .i64, .f]),
  (61, .agg [.i .i64, .f]),
  (124, .one (.f)),
  (125, .one (.f)),
  (62, .tup [([.f], false), ([.f], false)]),
  (64, .one (.b)),
  (147, .one (.i .i64)),
  (126, .one (.i .i64)),
  (127, .one (.f)),
  (65, .agg [.i .i64, .f]),
  (11, .one (.b))]
def stTab : List (Nat × VT) := [(12001, .one (.i .i64)),
  (148000, .one (.s)),
  (76003, .one (.s)),
  (21001, .one (.i .i64)),
  (77001, .one (.i .i64)),
  (28001, .one (.i .i64)),
  (29000, .one (.f)),
  (31000, .one (.f)),
  (34001, .one (.i .i64)),
  (87001, .one (.i .i64)),
  (137000, .one (.f)),
  (137005, .one (.i .i64)),
  (88000, .one (.f)),
  (88001, .one (.f)),
  (138000, .one (.f)),
  (138008, .one (.i .i64)),
  (138009, .one (.i .i64)),
  (95007, .one (.b)),
  (97000, .one (.f)),
  (97008, .one (.i .i64)),
  (97009, .one (.i .i64)),
  (43001, .one (.i .i64)),
  (44001, .one (.i .i64)),
  (48001, .one (.f)),
  (115001, .one (.i .i64)),
  (52001, .one (.i .i64)),
  (53001, .one (.i .i64)),
  (142001, .one (.i .i64)),
  (116001, .one (.i .i64)),
  (117001, .one (.i .i64)),
  (161003, .one (.i .i64)),
  (154005, .one (.i .i64)),
  (164000, .one (.f)),
  (121000, .one (.f)),
  (121001, .one (.f)),
  (121006, .one (.i .i64)),
  (121007, .one (.i .i64)),
  (11000, .one (.f)),
  (11009, .one (.i .i64)),
  (11011, .one (.i .i64))]
noncomputable def Ev : Env where
  fn := tab fnTab
  ty := tab tyTab
  keep := fun f i => (tab keepTab (f * 1000 + i)).getD []
  aft := fun f i => (tab aftTab (f * 1000 + i)).getD []
  sched := fun f i => (tab schedTab (f * 1000 + i)).getD []
  kills := fun f i => (tab killTab (f * 1000 + i)).getD []
  mode := fun f i => (tab modeTab (f * 1000 + i)).getD 0
  psz := fun f => (tab pszTab f).getD []
  vt := fun t => (tab vtTab t).getD .any
  vf := fun t => (tab vfTab t).getD .any
  rt := fun f => (tab rtTab f).getD .any
  st := fun f i => (tab stTab (f * 1000 + i)).getD .any
def fnK {R : Type} (v : V) (k : Nat → List (Nat × Nat) → Option R) : Option R := match v with
  | .s (.fn f caps) => k f caps
  | _ => none
namespace Lp
noncomputable def laws_szRowS (id : Nat) (l : List V) (h : H) : Option LOut := loop Ev Fn.laws_szRowS Go.Proofs.Try.f12 id (lbody Go.Proofs.Try.f12 id) l h
noncomputable def spec_l1Text (id : Nat) (l : List V) (h : H) : Option LOut := loop Ev Fn.spec_l1Text Go.Proofs.Try.f148 id (lbody Go.Proofs.Try.f148 id) l h
noncomputable def spec_l6Rows (id : Nat) (l : List V) (h : H) : Option LOut := loop Ev Fn.spec_l6Rows Go.Proofs.Try.f67 id (lbody Go.Proofs.Try.f67 id) l h
noncomputable def spec_l6At (id : Nat) (l : List V) (h : H) : Option LOut := loop Ev Fn.spec_l6At Go.Proofs.Try.f130 id (lbody Go.Proofs.Try.f130 id) l h
noncomputable def laws_toRowS (id : Nat) (l : List V) (h : H) : Option LOut := loop Ev Fn.laws_toRowS Go.Proofs.Try.f14 id (lbody Go.Proofs.Try.f14 id) l h
noncomputable def impl_RowFault (id : Nat) (l : List V) (h : H) : Option LOut := loop Ev Fn.impl_RowFault Go.Proofs.Try.f131 id (lbody Go.Proofs.Try.f131 id) l h
noncomputable def impl_RowsFault (id : Nat) (l : List V) (h : H) : Option LOut := loop Ev Fn.impl_RowsFault Go.Proofs.Try.f71 id (lbody Go.Proofs.Try.f71 id) l h
noncomputable def impl_longest (id : Nat) (l : List V) (h : H) : Option LOut := loop Ev Fn.impl_longest Go.Proofs.Try.f73 id (lbody Go.Proofs.Try.f73 id) l h
noncomputable def laws_eqRowS (id : Nat) (l : List V) (h : H) : Option LOut := loop Ev Fn.laws_eqRowS Go.Proofs.Try.f17 id (lbody Go.Proofs.Try.f17 id) l h
noncomputable def spec_l8Tables (id : Nat) (l : List V) (h : H) : Option LOut := loop Ev Fn.spec_l8Tables Go.Proofs.Try.f75 id (lbody Go.Proofs.Try.f75 id) l h
noncomputable def impl_TablesIn (id : Nat) (l : List V) (h : H) : Option LOut := loop Ev Fn.impl_TablesIn Go.Proofs.Try.f19 id (lbody Go.Proofs.Try.f19 id) l h
noncomputable def laws_markText (id : Nat) (l : List V) (h : H) : Option LOut := loop Ev Fn.laws_markText Go.Proofs.Try.f76 id (lbody Go.Proofs.Try.f76 id) l h
noncomputable def laws_markRowS (id : Nat) (l : List V) (h : H) : Option LOut := loop Ev Fn.laws_markRowS Go.Proofs.Try.f21 id (lbody Go.Proofs.Try.f21 id) l h
noncomputable def laws_heldRowS (id : Nat) (l : List V) (h : H) : Option LOut := loop Ev Fn.laws_heldRowS Go.Proofs.Try.f77 id (lbody Go.Proofs.Try.f77 id) l h
noncomputable def spec_l8Catalog (id : Nat) (l : List V) (h : H) : Option LOut := loop Ev Fn.spec_l8Catalog Go.Proofs.Try.f134 id (lbody Go.Proofs.Try.f134 id) l h
noncomputable def impl_tableMayBe (id : Nat) (l : List V) (h : H) : Option LOut := loop Ev Fn.impl_tableMayBe Go.Proofs.Try.f136 id (lbody Go.Proofs.Try.f136 id) l h
noncomputable def laws_szChangeS (id : Nat) (l : List V) (h : H) : Option LOut := loop Ev Fn.laws_szChangeS Go.Proofs.Try.f28 id (lbody Go.Proofs.Try.f28 id) l h
noncomputable def spec_l10Inverse (id : Nat) (l : List V) (h : H) : Option LOut := loop Ev Fn.spec_l10Inverse Go.Proofs.Try.f83 id (lbody Go.Proofs.Try.f83 id) l h
noncomputable def spec_InverseOf (id : Nat) (l : List V) (h : H) : Option LOut := loop Ev Fn.spec_InverseOf Go.Proofs.Try.f29 id (lbody Go.Proofs.Try.f29 id) l h
noncomputable def laws_toChangeS (id : Nat) (l : List V) (h : H) : Option LOut := loop Ev Fn.laws_toChangeS Go.Proofs.Try.f30 id (lbody Go.Proofs.Try.f30 id) l h
noncomputable def impl_inverse (id : Nat) (l : List V) (h : H) : Option LOut := loop Ev Fn.impl_inverse Go.Proofs.Try.f85 id (lbody Go.Proofs.Try.f85 id) l h
noncomputable def impl_InverseOf (id : Nat) (l : List V) (h : H) : Option LOut := loop Ev Fn.impl_InverseOf Go.Proofs.Try.f31 id (lbody Go.Proofs.Try.f31 id) l h
noncomputable def laws_eqChangeS (id : Nat) (l : List V) (h : H) : Option LOut := loop Ev Fn.laws_eqChangeS Go.Proofs.Try.f33 id (lbody Go.Proofs.Try.f33 id) l h
noncomputable def laws_markChangeS (id : Nat) (l : List V) (h : H) : Option LOut := loop Ev Fn.laws_markChangeS Go.Proofs.Try.f34 id (lbody Go.Proofs.Try.f34 id) l h
noncomputable def laws_heldChangeS (id : Nat) (l : List V) (h : H) : Option LOut := loop Ev Fn.laws_heldChangeS Go.Proofs.Try.f87 id (lbody Go.Proofs.Try.f87 id) l h
noncomputable def spec_l6Put (id : Nat) (l : List V) (h : H) : Option LOut := loop Ev Fn.spec_l6Put Go.Proofs.Try.f137 id (lbody Go.Proofs.Try.f137 id) l h
noncomputable def spec_l6Changes (id : Nat) (l : List V) (h : H) : Option LOut := loop Ev Fn.spec_l6Changes Go.Proofs.Try.f88 id (lbody Go.Proofs.Try.f88 id) l h
noncomputable def impl_between (id : Nat) (l : List V) (h : H) : Option LOut := loop Ev Fn.impl_between Go.Proofs.Try.f89 id (lbody Go.Proofs.Try.f89 id) l h
noncomputable def spec_l6Do (id : Nat) (l : List V) (h : H) : Option LOut := loop Ev Fn.spec_l6Do Go.Proofs.Try.f90 id (lbody Go.Proofs.Try.f90 id) l h
noncomputable def spec_ApplyChanges (id : Nat) (l : List V) (h : H) : Option LOut := loop Ev Fn.spec_ApplyChanges Go.Proofs.Try.f39 id (lbody Go.Proofs.Try.f39 id) l h
noncomputable def slices_BinarySearchFunc_impl_Row_impl_Row_impl_Row (id : Nat) (l : List V) (h : H) : Option LOut := loop Ev Fn.slices_BinarySearchFunc_impl_Row_impl_Row_impl_Row Go.Proofs.Try.f138 id (lbody Go.Proofs.Try.f138 id) l h
noncomputable def impl_ApplyChanges (id : Nat) (l : List V) (h : H) : Option LOut := loop Ev Fn.impl_ApplyChanges Go.Proofs.Try.f40 id (lbody Go.Proofs.Try.f40 id) l h
noncomputable def spec_l9List (id : Nat) (l : List V) (h : H) : Option LOut := loop Ev Fn.spec_l9List Go.Proofs.Try.f94 id (lbody Go.Proofs.Try.f94 id) l h
noncomputable def spec_l9Fold (id : Nat) (l : List V) (h : H) : Option LOut := loop Ev Fn.spec_l9Fold Go.Proofs.Try.f95 id (lbody Go.Proofs.Try.f95 id) l h
noncomputable def impl_foldedFault (id : Nat) (l : List V) (h : H) : Option LOut := loop Ev Fn.impl_foldedFault Go.Proofs.Try.f96 id (lbody Go.Proofs.Try.f96 id) l h
noncomputable def slices_BinarySearchFunc_impl_Change_impl_Change_impl_Row (id : Nat) (l : List V) (h : H) : Option LOut := loop Ev Fn.slices_BinarySearchFunc_impl_Change_impl_Change_impl_Row Go.Proofs.Try.f97 id (lbody Go.Proofs.Try.f97 id) l h
noncomputable def slices_Reverse_impl_Change_impl_Change (id : Nat) (l : List V) (h : H) : Option LOut := loop Ev Fn.slices_Reverse_impl_Change_impl_Change Go.Proofs.Try.f156 id (lbody Go.Proofs.Try.f156 id) l h
noncomputable def laws_szByteSS (id : Nat) (l : List V) (h : H) : Option LOut := loop Ev Fn.laws_szByteSS Go.Proofs.Try.f43 id (lbody Go.Proofs.Try.f43 id) l h
noncomputable def laws_szEditS (id : Nat) (l : List V) (h : H) : Option LOut := loop Ev Fn.laws_szEditS Go.Proofs.Try.f44 id (lbody Go.Proofs.Try.f44 id) l h
noncomputable def spec_l7Copy (id : Nat) (l : List V) (h : H) : Option LOut := loop Ev Fn.spec_l7Copy Go.Proofs.Try.f106 id (lbody Go.Proofs.Try.f106 id) l h
noncomputable def spec_ApplyEdits (id : Nat) (l : List V) (h : H) : Option LOut := loop Ev Fn.spec_ApplyEdits Go.Proofs.Try.f45 id (lbody Go.Proofs.Try.f45 id) l h
noncomputable def laws_toByteS (id : Nat) (l : List V) (h : H) : Option LOut := loop Ev Fn.laws_toByteS Go.Proofs.Try.f108 id (lbody Go.Proofs.Try.f108 id) l h
noncomputable def laws_toByteSS (id : Nat) (l : List V) (h : H) : Option LOut := loop Ev Fn.laws_toByteSS Go.Proofs.Try.f46 id (lbody Go.Proofs.Try.f46 id) l h
noncomputable def laws_toEditS (id : Nat) (l : List V) (h : H) : Option LOut := loop Ev Fn.laws_toEditS Go.Proofs.Try.f47 id (lbody Go.Proofs.Try.f47 id) l h
noncomputable def impl_copies (id : Nat) (l : List V) (h : H) : Option LOut := loop Ev Fn.impl_copies Go.Proofs.Try.f110 id (lbody Go.Proofs.Try.f110 id) l h
noncomputable def impl_ownEdits (id : Nat) (l : List V) (h : H) : Option LOut := loop Ev Fn.impl_ownEdits Go.Proofs.Try.f112 id (lbody Go.Proofs.Try.f112 id) l h
noncomputable def impl_ApplyEdits (id : Nat) (l : List V) (h : H) : Option LOut := loop Ev Fn.impl_ApplyEdits Go.Proofs.Try.f48 id (lbody Go.Proofs.Try.f48 id) l h
noncomputable def laws_eqByteS (id : Nat) (l : List V) (h : H) : Option LOut := loop Ev Fn.laws_eqByteS Go.Proofs.Try.f113 id (lbody Go.Proofs.Try.f113 id) l h
noncomputable def laws_eqByteSS (id : Nat) (l : List V) (h : H) : Option LOut := loop Ev Fn.laws_eqByteSS Go.Proofs.Try.f50 id (lbody Go.Proofs.Try.f50 id) l h
noncomputable def laws_eqEditS (id : Nat) (l : List V) (h : H) : Option LOut := loop Ev Fn.laws_eqEditS Go.Proofs.Try.f51 id (lbody Go.Proofs.Try.f51 id) l h
noncomputable def laws_markByteS (id : Nat) (l : List V) (h : H) : Option LOut := loop Ev Fn.laws_markByteS Go.Proofs.Try.f115 id (lbody Go.Proofs.Try.f115 id) l h
noncomputable def laws_markByteSS (id : Nat) (l : List V) (h : H) : Option LOut := loop Ev Fn.laws_markByteSS Go.Proofs.Try.f52 id (lbody Go.Proofs.Try.f52 id) l h
noncomputable def laws_markEditS (id : Nat) (l : List V) (h : H) : Option LOut := loop Ev Fn.laws_markEditS Go.Proofs.Try.f53 id (lbody Go.Proofs.Try.f53 id) l h
noncomputable def laws_heldByteS (id : Nat) (l : List V) (h : H) : Option LOut := loop Ev Fn.laws_heldByteS Go.Proofs.Try.f142 id (lbody Go.Proofs.Try.f142 id) l h
noncomputable def laws_heldEditS (id : Nat) (l : List V) (h : H) : Option LOut := loop Ev Fn.laws_heldEditS Go.Proofs.Try.f116 id (lbody Go.Proofs.Try.f116 id) l h
noncomputable def laws_heldByteSS (id : Nat) (l : List V) (h : H) : Option LOut := loop Ev Fn.laws_heldByteSS Go.Proofs.Try.f117 id (lbody Go.Proofs.Try.f117 id) l h
noncomputable def spec_l1Some (id : Nat) (l : List V) (h : H) : Option LOut := loop Ev Fn.spec_l1Some Go.Proofs.Try.f146 id (lbody Go.Proofs.Try.f146 id) l h
noncomputable def spec_l2New (id : Nat) (l : List V) (h : H) : Option LOut := loop Ev Fn.spec_l2New Go.Proofs.Try.f150 id (lbody Go.Proofs.Try.f150 id) l h
noncomputable def spec_l2Drop (id : Nat) (l : List V) (h : H) : Option LOut := loop Ev Fn.spec_l2Drop Go.Proofs.Try.f152 id (lbody Go.Proofs.Try.f152 id) l h
noncomputable def spec_l2Free (id : Nat) (l : List V) (h : H) : Option LOut := loop Ev Fn.spec_l2Free Go.Proofs.Try.f161 id (lbody Go.Proofs.Try.f161 id) l h
noncomputable def spec_l2Compact (id : Nat) (l : List V) (h : H) : Option LOut := loop Ev Fn.spec_l2Compact Go.Proofs.Try.f154 id (lbody Go.Proofs.Try.f154 id) l h
noncomputable def spec_l2Empty (id : Nat) (l : List V) (h : H) : Option LOut := loop Ev Fn.spec_l2Empty Go.Proofs.Try.f164 id (lbody Go.Proofs.Try.f164 id) l h
noncomputable def spec_l2Right (id : Nat) (l : List V) (h : H) : Option LOut := loop Ev Fn.spec_l2Right Go.Proofs.Try.f143 id (lbody Go.Proofs.Try.f143 id) l h
noncomputable def spec_l3Two (id : Nat) (l : List V) (h : H) : Option LOut := loop Ev Fn.spec_l3Two Go.Proofs.Try.f119 id (lbody Go.Proofs.Try.f119 id) l h
noncomputable def impl_diff (id : Nat) (l : List V) (h : H) : Option LOut := loop Ev Fn.impl_diff Go.Proofs.Try.f121 id (lbody Go.Proofs.Try.f121 id) l h
noncomputable def spec_l3Diff (id : Nat) (l : List V) (h : H) : Option LOut := loop Ev Fn.spec_l3Diff Go.Proofs.Try.f122 id (lbody Go.Proofs.Try.f122 id) l h
noncomputable def impl_RunsFault (id : Nat) (l : List V) (h : H) : Option LOut := loop Ev Fn.impl_RunsFault Go.Proofs.Try.f63 id (lbody Go.Proofs.Try.f63 id) l h
noncomputable def impl_applied (id : Nat) (l : List V) (h : H) : Option LOut := loop Ev Fn.impl_applied Go.Proofs.Try.f123 id (lbody Go.Proofs.Try.f123 id) l h
noncomputable def impl_InverseRuns (id : Nat) (l : List V) (h : H) : Option LOut := loop Ev Fn.impl_InverseRuns Go.Proofs.Try.f61 id (lbody Go.Proofs.Try.f61 id) l h
noncomputable def spec_l3Fault (id : Nat) (l : List V) (h : H) : Option LOut := loop Ev Fn.spec_l3Fault Go.Proofs.Try.f147 id (lbody Go.Proofs.Try.f147 id) l h
noncomputable def spec_l3Apply (id : Nat) (l : List V) (h : H) : Option LOut := loop Ev Fn.spec_l3Apply Go.Proofs.Try.f127 id (lbody Go.Proofs.Try.f127 id) l h
noncomputable def laws_FnDiffs (id : Nat) (l : List V) (h : H) : Option LOut := loop Ev Fn.laws_FnDiffs Go.Proofs.Try.f11 id (lbody Go.Proofs.Try.f11 id) l h
end Lp
theorem ty2 : TyOk Go.Proofs.Try.prog 2 ⟨1, 8, [.int .i64 0], false, .int .i64, false⟩ := ⟨by kernel_rfl, by kernel_rfl, ⟨by decide, by rfl⟩, by kernel_rfl, by kernel_rfl, by kernel_rfl⟩
theorem ty3 : TyOk Go.Proofs.Try.prog 3 ⟨1, 8, [.int .i64 0], false, .int .i64, false⟩ := ⟨by kernel_rfl, by kernel_rfl, ⟨by decide, by rfl⟩, by kernel_rfl, by kernel_rfl, by kernel_rfl⟩
theorem ty4 : TyOk Go.Proofs.Try.prog 4 ⟨1, 1, [.bool false], false, .bool, false⟩ := ⟨by kernel_rfl, by kernel_rfl, ⟨by decide, by rfl⟩, by kernel_rfl, by kernel_rfl, by kernel_rfl⟩
theorem ty5 : TyOk Go.Proofs.Try.prog 5 ⟨1, 1, [.int .u8 0], false, .int .u8, false⟩ := ⟨by kernel_rfl, by kernel_rfl, ⟨by decide, by rfl⟩, by kernel_rfl, by kernel_rfl, by kernel_rfl⟩
theorem ty9 : TyOk Go.Proofs.Try.prog 9 ⟨1, 16, [.str ⟨#[]⟩], false, .str, false⟩ := ⟨by kernel_rfl, by kernel_rfl, ⟨by decide, by rfl⟩, by kernel_rfl, by kernel_rfl, by kernel_rfl⟩
theorem ty22 : TyOk Go.Proofs.Try.prog 22 ⟨1, 24, [.sl none 0], false, .sl 40, false⟩ := ⟨by kernel_rfl, by kernel_rfl, ⟨by decide, by rfl⟩, by kernel_rfl, by kernel_rfl, by kernel_rfl⟩
theorem ty25 : TyOk Go.Proofs.Try.prog 25 ⟨2, 16, [.int .i64 0, .int .i64 0], true, .st [(0, 2), (1, 2)], true⟩ := ⟨by kernel_rfl, by kernel_rfl, ⟨by decide, by rfl⟩, by kernel_rfl, by kernel_rfl, by kernel_rfl⟩
theorem ty27 : TyOk Go.Proofs.Try.prog 27 ⟨1, 24, [.sl none 0], false, .sl 45, false⟩ := ⟨by kernel_rfl, by kernel_rfl, ⟨by decide, by rfl⟩, by kernel_rfl, by kernel_rfl, by kernel_rfl⟩
theorem ty33 : TyOk Go.Proofs.Try.prog 33 ⟨2, 32, [.int .i64 0, .sl none 0], true, .st [(0, 2), (1, 27)], false⟩ := ⟨by kernel_rfl, by kernel_rfl, ⟨by decide, by rfl⟩, by kernel_rfl, by kernel_rfl, by kernel_rfl⟩
theorem ty40 : TyOk Go.Proofs.Try.prog 40 ⟨4, 40, [.int .i64 0, .int .i64 0, .int .i64 0, .str ⟨#[]⟩], true, .st [(0, 2), (1, 2), (2, 2), (3, 9)], true⟩ := ⟨by kernel_rfl, by kernel_rfl, ⟨by decide, by rfl⟩, by kernel_rfl, by kernel_rfl, by kernel_rfl⟩
theorem ty42 : TyOk Go.Proofs.Try.prog 42 ⟨10, 96, [.bool false, .int .i64 0, .int .i64 0, .int .i64 0, .str ⟨#[]⟩, .bool false, .int .i64 0, .int .i64 0, .int .i64 0, .str ⟨#[]⟩], true, .st [(0, 4), (1, 40), (5, 4), (6, 40)], true⟩ := ⟨by kernel_rfl, by kernel_rfl, ⟨by decide, by rfl⟩, by kernel_rfl, by kernel_rfl, by kernel_rfl⟩
theorem ty45 : TyOk Go.Proofs.Try.prog 45 ⟨4, 40, [.int .i64 0, .int .i64 0, .int .i64 0, .str ⟨#[]⟩], true, .st [(0, 2), (1, 2), (2, 2), (3, 9)], true⟩ := ⟨by kernel_rfl, by kernel_rfl, ⟨by decide, by rfl⟩, by kernel_rfl, by kernel_rfl, by kernel_rfl⟩
theorem ty47 : TyOk Go.Proofs.Try.prog 47 ⟨10, 96, [.bool false, .int .i64 0, .int .i64 0, .int .i64 0, .str ⟨#[]⟩, .bool false, .int .i64 0, .int .i64 0, .int .i64 0, .str ⟨#[]⟩], true, .st [(0, 4), (1, 45), (5, 4), (6, 45)], true⟩ := ⟨by kernel_rfl, by kernel_rfl, ⟨by decide, by rfl⟩, by kernel_rfl, by kernel_rfl, by kernel_rfl⟩
theorem ty50 : TyOk Go.Proofs.Try.prog 50 ⟨1, 24, [.sl none 0], false, .sl 42, false⟩ := ⟨by kernel_rfl, by kernel_rfl, ⟨by decide, by rfl⟩, by kernel_rfl, by kernel_rfl, by kernel_rfl⟩
theorem ty52 : TyOk Go.Proofs.Try.prog 52 ⟨1, 24, [.sl none 0], false, .sl 47, false⟩ := ⟨by kernel_rfl, by kernel_rfl, ⟨by decide, by rfl⟩, by kernel_rfl, by kernel_rfl, by kernel_rfl⟩
theorem ty54 : TyOk Go.Proofs.Try.prog 54 ⟨2, 32, [.int .i64 0, .sl none 0], true, .st [(0, 2), (1, 52)], false⟩ := ⟨by kernel_rfl, by kernel_rfl, ⟨by decide, by rfl⟩, by kernel_rfl, by kernel_rfl, by kernel_rfl⟩
theorem ty68 : TyOk Go.Proofs.Try.prog 68 ⟨1, 24, [.sl none 0], false, .sl 84, false⟩ := ⟨by kernel_rfl, by kernel_rfl, ⟨by decide, by rfl⟩, by kernel_rfl, by kernel_rfl, by kernel_rfl⟩
theorem ty69 : TyOk Go.Proofs.Try.prog 69 ⟨1, 24, [.sl none 0], false, .sl 135, false⟩ := ⟨by kernel_rfl, by kernel_rfl, ⟨by decide, by rfl⟩, by kernel_rfl, by kernel_rfl, by kernel_rfl⟩
theorem ty72 : TyOk Go.Proofs.Try.prog 72 ⟨1, 24, [.sl none 0], false, .sl 138, false⟩ := ⟨by kernel_rfl, by kernel_rfl, ⟨by decide, by rfl⟩, by kernel_rfl, by kernel_rfl, by kernel_rfl⟩
theorem ty74 : TyOk Go.Proofs.Try.prog 74 ⟨3, 56, [.int .i64 0, .sl none 0, .sl none 0], true, .st [(0, 2), (1, 72), (2, 68)], false⟩ := ⟨by kernel_rfl, by kernel_rfl, ⟨by decide, by rfl⟩, by kernel_rfl, by kernel_rfl, by kernel_rfl⟩
theorem ty84 : TyOk Go.Proofs.Try.prog 84 ⟨1, 24, [.sl none 0], false, .sl 5, false⟩ := ⟨by kernel_rfl, by kernel_rfl, ⟨by decide, by rfl⟩, by kernel_rfl, by kernel_rfl, by kernel_rfl⟩
theorem ty88 : TyOk Go.Proofs.Try.prog 88 ⟨1, 24, [.sl none 0], false, .sl 97, false⟩ := ⟨by kernel_rfl, by kernel_rfl, ⟨by decide, by rfl⟩, by kernel_rfl, by kernel_rfl, by kernel_rfl⟩
theorem ty90 : TyOk Go.Proofs.Try.prog 90 ⟨2, 32, [.int .i64 0, .sl none 0], true, .st [(0, 2), (1, 88)], false⟩ := ⟨by kernel_rfl, by kernel_rfl, ⟨by decide, by rfl⟩, by kernel_rfl, by kernel_rfl, by kernel_rfl⟩
theorem ty93 : TyOk Go.Proofs.Try.prog 93 ⟨2, 32, [.int .i64 0, .sl none 0], true, .st [(0, 2), (1, 84)], false⟩ := ⟨by kernel_rfl, by kernel_rfl, ⟨by decide, by rfl⟩, by kernel_rfl, by kernel_rfl, by kernel_rfl⟩
theorem ty97 : TyOk Go.Proofs.Try.prog 97 ⟨2, 32, [.int .i64 0, .sl none 0], true, .st [(0, 2), (1, 84)], false⟩ := ⟨by kernel_rfl, by kernel_rfl, ⟨by decide, by rfl⟩, by kernel_rfl, by kernel_rfl, by kernel_rfl⟩
theorem ty113 : TyOk Go.Proofs.Try.prog 113 ⟨1, 8, [.ptr none], false, .ptr, false⟩ := ⟨by kernel_rfl, by kernel_rfl, ⟨by decide, by rfl⟩, by kernel_rfl, by kernel_rfl, by kernel_rfl⟩
theorem ty129 : TyOk Go.Proofs.Try.prog 129 ⟨1, 8, [.nofn], false, .other, false⟩ := ⟨by kernel_rfl, by kernel_rfl, ⟨by decide, by rfl⟩, by kernel_rfl, by kernel_rfl, by kernel_rfl⟩
theorem ty135 : TyOk Go.Proofs.Try.prog 135 ⟨2, 32, [.int .i64 0, .sl none 0], true, .st [(0, 2), (1, 84)], false⟩ := ⟨by kernel_rfl, by kernel_rfl, ⟨by decide, by rfl⟩, by kernel_rfl, by kernel_rfl, by kernel_rfl⟩
theorem ty138 : TyOk Go.Proofs.Try.prog 138 ⟨2, 32, [.int .i64 0, .sl none 0], true, .st [(0, 2), (1, 84)], false⟩ := ⟨by kernel_rfl, by kernel_rfl, ⟨by decide, by rfl⟩, by kernel_rfl, by kernel_rfl, by kernel_rfl⟩
theorem ty143 : TyOk Go.Proofs.Try.prog 143 ⟨1, 8, [.ptr none], false, .ptr, false⟩ := ⟨by kernel_rfl, by kernel_rfl, ⟨by decide, by rfl⟩, by kernel_rfl, by kernel_rfl, by kernel_rfl⟩
theorem ty153 : TyOk Go.Proofs.Try.prog 153 ⟨1, 8, [.ptr none], false, .ptr, false⟩ := ⟨by kernel_rfl, by kernel_rfl, ⟨by decide, by rfl⟩, by kernel_rfl, by kernel_rfl, by kernel_rfl⟩
theorem ty159 : TyOk Go.Proofs.Try.prog 159 ⟨1, 8, [.nofn], false, .other, false⟩ := ⟨by kernel_rfl, by kernel_rfl, ⟨by decide, by rfl⟩, by kernel_rfl, by kernel_rfl, by kernel_rfl⟩
theorem ty163 : TyOk Go.Proofs.Try.prog 163 ⟨1, 8, [.int .u64 0], false, .int .u64, false⟩ := ⟨by kernel_rfl, by kernel_rfl, ⟨by decide, by rfl⟩, by kernel_rfl, by kernel_rfl, by kernel_rfl⟩
theorem ty166 : TyOk Go.Proofs.Try.prog 166 ⟨2, 32, [.sl none 0, .int .i64 0], true, .st [(0, 84), (1, 2)], false⟩ := ⟨by kernel_rfl, by kernel_rfl, ⟨by decide, by rfl⟩, by kernel_rfl, by kernel_rfl, by kernel_rfl⟩
theorem ty179 : TyOk Go.Proofs.Try.prog 179 ⟨1, 24, [.sl none 0], false, .sl 2, false⟩ := ⟨by kernel_rfl, by kernel_rfl, ⟨by decide, by rfl⟩, by kernel_rfl, by kernel_rfl, by kernel_rfl⟩
def FnOk (f : Nat) (fn : Func) : Prop := Go.Proofs.Try.prog.funcs[f]? = some fn ∧ (fn.name == "runtime.NumGoroutine") = false ∧ ∀ c, fn.body = some c → wfCode Ev f fn.ntmps c = true
noncomputable def wfB (f : Nat) (fn : Func) : Bool := match fn.body with | none => true | some c => wfCode Ev f fn.ntmps c
theorem FnOk.of {f : Nat} {fn : Func} (h1 : Go.Proofs.Try.prog.funcs[f]? = some fn) (h2 : (fn.name == "runtime.NumGoroutine") = false) (h3 : wfB f fn = true) : FnOk f fn := ⟨h1, h2, fun c hc => by unfold wfB at h3; rw [hc] at h3; exact h3⟩
theorem fok66 : FnOk 66 Go.Proofs.Try.f66 := .of Go.Proofs.Try.func66 (by kernel_rfl) (by kernel_rfl)
theorem fok12 : FnOk 12 Go.Proofs.Try.f12 := .of Go.Proofs.Try.func12 (by kernel_rfl) (by kernel_rfl)
theorem fok68 : FnOk 68 Go.Proofs.Try.f68 := .of Go.Proofs.Try.func68 (by kernel_rfl) (by kernel_rfl)
theorem fok148 : FnOk 148 Go.Proofs.Try.f148 := .of Go.Proofs.Try.func148 (by kernel_rfl) (by kernel_rfl)
theorem fok128 : FnOk 128 Go.Proofs.Try.f128 := .of Go.Proofs.Try.func128 (by kernel_rfl) (by kernel_rfl)
theorem fok129 : FnOk 129 Go.Proofs.Try.f129 := .of Go.Proofs.Try.func129 (by kernel_rfl) (by kernel_rfl)
theorem fok67 : FnOk 67 Go.Proofs.Try.f67 := .of Go.Proofs.Try.func67 (by kernel_rfl) (by kernel_rfl)
theorem fok130 : FnOk 130 Go.Proofs.Try.f130 := .of Go.Proofs.Try.func130 (by kernel_rfl) (by kernel_rfl)
theorem fok69 : FnOk 69 Go.Proofs.Try.f69 := .of Go.Proofs.Try.func69 (by kernel_rfl) (by kernel_rfl)
theorem fok13 : FnOk 13 Go.Proofs.Try.f13 := .of Go.Proofs.Try.func13 (by kernel_rfl) (by kernel_rfl)
theorem fok70 : FnOk 70 Go.Proofs.Try.f70 := .of Go.Proofs.Try.func70 (by kernel_rfl) (by kernel_rfl)
theorem fok14 : FnOk 14 Go.Proofs.Try.f14 := .of Go.Proofs.Try.func14 (by kernel_rfl) (by kernel_rfl)
theorem fok72 : FnOk 72 Go.Proofs.Try.f72 := .of Go.Proofs.Try.func72 (by kernel_rfl) (by kernel_rfl)
theorem fok131 : FnOk 131 Go.Proofs.Try.f131 := .of Go.Proofs.Try.func131 (by kernel_rfl) (by kernel_rfl)
theorem fok132 : FnOk 132 Go.Proofs.Try.f132 := .of Go.Proofs.Try.func132 (by kernel_rfl) (by kernel_rfl)
theorem fok71 : FnOk 71 Go.Proofs.Try.f71 := .of Go.Proofs.Try.func71 (by kernel_rfl) (by kernel_rfl)
theorem fok73 : FnOk 73 Go.Proofs.Try.f73 := .of Go.Proofs.Try.func73 (by kernel_rfl) (by kernel_rfl)
theorem fok15 : FnOk 15 Go.Proofs.Try.f15 := .of Go.Proofs.Try.func15 (by kernel_rfl) (by kernel_rfl)
theorem fok16 : FnOk 16 Go.Proofs.Try.f16 := .of Go.Proofs.Try.func16 (by kernel_rfl) (by kernel_rfl)
theorem fok74 : FnOk 74 Go.Proofs.Try.f74 := .of Go.Proofs.Try.func74 (by kernel_rfl) (by kernel_rfl)
theorem fok17 : FnOk 17 Go.Proofs.Try.f17 := .of Go.Proofs.Try.func17 (by kernel_rfl) (by kernel_rfl)
theorem fok3 : FnOk 3 Go.Proofs.Try.f3 := .of Go.Proofs.Try.func3 (by kernel_rfl) (by kernel_rfl)
theorem fok75 : FnOk 75 Go.Proofs.Try.f75 := .of Go.Proofs.Try.func75 (by kernel_rfl) (by kernel_rfl)
theorem fok18 : FnOk 18 Go.Proofs.Try.f18 := .of Go.Proofs.Try.func18 (by kernel_rfl) (by kernel_rfl)
theorem fok19 : FnOk 19 Go.Proofs.Try.f19 := .of Go.Proofs.Try.func19 (by kernel_rfl) (by kernel_rfl)
theorem fok20 : FnOk 20 Go.Proofs.Try.f20 := .of Go.Proofs.Try.func20 (by kernel_rfl) (by kernel_rfl)
theorem fok76 : FnOk 76 Go.Proofs.Try.f76 := .of Go.Proofs.Try.func76 (by kernel_rfl) (by kernel_rfl)
theorem fok21 : FnOk 21 Go.Proofs.Try.f21 := .of Go.Proofs.Try.func21 (by kernel_rfl) (by kernel_rfl)
theorem fok22 : FnOk 22 Go.Proofs.Try.f22 := .of Go.Proofs.Try.func22 (by kernel_rfl) (by kernel_rfl)
theorem fok77 : FnOk 77 Go.Proofs.Try.f77 := .of Go.Proofs.Try.func77 (by kernel_rfl) (by kernel_rfl)
theorem fok23 : FnOk 23 Go.Proofs.Try.f23 := .of Go.Proofs.Try.func23 (by kernel_rfl) (by kernel_rfl)
theorem fok4 : FnOk 4 Go.Proofs.Try.f4 := .of Go.Proofs.Try.func4 (by kernel_rfl) (by kernel_rfl)
theorem fok24 : FnOk 24 Go.Proofs.Try.f24 := .of Go.Proofs.Try.func24 (by kernel_rfl) (by kernel_rfl)
theorem fok78 : FnOk 78 Go.Proofs.Try.f78 := .of Go.Proofs.Try.func78 (by kernel_rfl) (by kernel_rfl)
theorem fok133 : FnOk 133 Go.Proofs.Try.f133 := .of Go.Proofs.Try.func133 (by kernel_rfl) (by kernel_rfl)
theorem fok134 : FnOk 134 Go.Proofs.Try.f134 := .of Go.Proofs.Try.func134 (by kernel_rfl) (by kernel_rfl)
theorem fok79 : FnOk 79 Go.Proofs.Try.f79 := .of Go.Proofs.Try.func79 (by kernel_rfl) (by kernel_rfl)
theorem fok25 : FnOk 25 Go.Proofs.Try.f25 := .of Go.Proofs.Try.func25 (by kernel_rfl) (by kernel_rfl)
theorem fok26 : FnOk 26 Go.Proofs.Try.f26 := .of Go.Proofs.Try.func26 (by kernel_rfl) (by kernel_rfl)
theorem fok135 : FnOk 135 Go.Proofs.Try.f135 := .of Go.Proofs.Try.func135 (by kernel_rfl) (by kernel_rfl)
theorem fok80 : FnOk 80 Go.Proofs.Try.f80 := .of Go.Proofs.Try.func80 (by kernel_rfl) (by kernel_rfl)
theorem fok98 : FnOk 98 Go.Proofs.Try.f98 := .of Go.Proofs.Try.func98 (by kernel_rfl) (by kernel_rfl)
theorem fok136 : FnOk 136 Go.Proofs.Try.f136 := .of Go.Proofs.Try.func136 (by kernel_rfl) (by kernel_rfl)
theorem fok81 : FnOk 81 Go.Proofs.Try.f81 := .of Go.Proofs.Try.func81 (by kernel_rfl) (by kernel_rfl)
theorem fok27 : FnOk 27 Go.Proofs.Try.f27 := .of Go.Proofs.Try.func27 (by kernel_rfl) (by kernel_rfl)
theorem fok5 : FnOk 5 Go.Proofs.Try.f5 := .of Go.Proofs.Try.func5 (by kernel_rfl) (by kernel_rfl)
theorem fok28 : FnOk 28 Go.Proofs.Try.f28 := .of Go.Proofs.Try.func28 (by kernel_rfl) (by kernel_rfl)
theorem fok82 : FnOk 82 Go.Proofs.Try.f82 := .of Go.Proofs.Try.func82 (by kernel_rfl) (by kernel_rfl)
theorem fok83 : FnOk 83 Go.Proofs.Try.f83 := .of Go.Proofs.Try.func83 (by kernel_rfl) (by kernel_rfl)
theorem fok29 : FnOk 29 Go.Proofs.Try.f29 := .of Go.Proofs.Try.func29 (by kernel_rfl) (by kernel_rfl)
theorem fok30 : FnOk 30 Go.Proofs.Try.f30 := .of Go.Proofs.Try.func30 (by kernel_rfl) (by kernel_rfl)
theorem fok84 : FnOk 84 Go.Proofs.Try.f84 := .of Go.Proofs.Try.func84 (by kernel_rfl) (by kernel_rfl)
theorem fok85 : FnOk 85 Go.Proofs.Try.f85 := .of Go.Proofs.Try.func85 (by kernel_rfl) (by kernel_rfl)
theorem fok31 : FnOk 31 Go.Proofs.Try.f31 := .of Go.Proofs.Try.func31 (by kernel_rfl) (by kernel_rfl)
theorem fok86 : FnOk 86 Go.Proofs.Try.f86 := .of Go.Proofs.Try.func86 (by kernel_rfl) (by kernel_rfl)
theorem fok33 : FnOk 33 Go.Proofs.Try.f33 := .of Go.Proofs.Try.func33 (by kernel_rfl) (by kernel_rfl)
theorem fok32 : FnOk 32 Go.Proofs.Try.f32 := .of Go.Proofs.Try.func32 (by kernel_rfl) (by kernel_rfl)
theorem fok34 : FnOk 34 Go.Proofs.Try.f34 := .of Go.Proofs.Try.func34 (by kernel_rfl) (by kernel_rfl)
theorem fok35 : FnOk 35 Go.Proofs.Try.f35 := .of Go.Proofs.Try.func35 (by kernel_rfl) (by kernel_rfl)
theorem fok87 : FnOk 87 Go.Proofs.Try.f87 := .of Go.Proofs.Try.func87 (by kernel_rfl) (by kernel_rfl)
theorem fok36 : FnOk 36 Go.Proofs.Try.f36 := .of Go.Proofs.Try.func36 (by kernel_rfl) (by kernel_rfl)
theorem fok6 : FnOk 6 Go.Proofs.Try.f6 := .of Go.Proofs.Try.func6 (by kernel_rfl) (by kernel_rfl)
theorem fok137 : FnOk 137 Go.Proofs.Try.f137 := .of Go.Proofs.Try.func137 (by kernel_rfl) (by kernel_rfl)
theorem fok88 : FnOk 88 Go.Proofs.Try.f88 := .of Go.Proofs.Try.func88 (by kernel_rfl) (by kernel_rfl)
theorem fok37 : FnOk 37 Go.Proofs.Try.f37 := .of Go.Proofs.Try.func37 (by kernel_rfl) (by kernel_rfl)
theorem fok89 : FnOk 89 Go.Proofs.Try.f89 := .of Go.Proofs.Try.func89 (by kernel_rfl) (by kernel_rfl)
theorem fok38 : FnOk 38 Go.Proofs.Try.f38 := .of Go.Proofs.Try.func38 (by kernel_rfl) (by kernel_rfl)
theorem fok7 : FnOk 7 Go.Proofs.Try.f7 := .of Go.Proofs.Try.func7 (by kernel_rfl) (by kernel_rfl)
theorem fok90 : FnOk 90 Go.Proofs.Try.f90 := .of Go.Proofs.Try.func90 (by kernel_rfl) (by kernel_rfl)
theorem fok39 : FnOk 39 Go.Proofs.Try.f39 := .of Go.Proofs.Try.func39 (by kernel_rfl) (by kernel_rfl)
theorem fok91 : FnOk 91 Go.Proofs.Try.f91 := .of Go.Proofs.Try.func91 (by kernel_rfl) (by kernel_rfl)
theorem fok138 : FnOk 138 Go.Proofs.Try.f138 := .of Go.Proofs.Try.func138 (by kernel_rfl) (by kernel_rfl)
theorem fok92 : FnOk 92 Go.Proofs.Try.f92 := .of Go.Proofs.Try.func92 (by kernel_rfl) (by kernel_rfl)
theorem fok93 : FnOk 93 Go.Proofs.Try.f93 := .of Go.Proofs.Try.func93 (by kernel_rfl) (by kernel_rfl)
theorem fok40 : FnOk 40 Go.Proofs.Try.f40 := .of Go.Proofs.Try.func40 (by kernel_rfl) (by kernel_rfl)
theorem fok8 : FnOk 8 Go.Proofs.Try.f8 := .of Go.Proofs.Try.func8 (by kernel_rfl) (by kernel_rfl)
theorem fok139 : FnOk 139 Go.Proofs.Try.f139 := .of Go.Proofs.Try.func139 (by kernel_rfl) (by kernel_rfl)
theorem fok94 : FnOk 94 Go.Proofs.Try.f94 := .of Go.Proofs.Try.func94 (by kernel_rfl) (by kernel_rfl)
theorem fok95 : FnOk 95 Go.Proofs.Try.f95 := .of Go.Proofs.Try.func95 (by kernel_rfl) (by kernel_rfl)
theorem fok41 : FnOk 41 Go.Proofs.Try.f41 := .of Go.Proofs.Try.func41 (by kernel_rfl) (by kernel_rfl)
theorem fok96 : FnOk 96 Go.Proofs.Try.f96 := .of Go.Proofs.Try.func96 (by kernel_rfl) (by kernel_rfl)
theorem fok97 : FnOk 97 Go.Proofs.Try.f97 := .of Go.Proofs.Try.func97 (by kernel_rfl) (by kernel_rfl)
theorem fok99 : FnOk 99 Go.Proofs.Try.f99 := .of Go.Proofs.Try.func99 (by kernel_rfl) (by kernel_rfl)
theorem fok100 : FnOk 100 Go.Proofs.Try.f100 := .of Go.Proofs.Try.func100 (by kernel_rfl) (by kernel_rfl)
theorem fok156 : FnOk 156 Go.Proofs.Try.f156 := .of Go.Proofs.Try.func156 (by kernel_rfl) (by kernel_rfl)
theorem fok149 : FnOk 149 Go.Proofs.Try.f149 := .of Go.Proofs.Try.func149 (by kernel_rfl) (by kernel_rfl)
theorem fok141 : FnOk 141 Go.Proofs.Try.f141 := .of Go.Proofs.Try.func141 (by kernel_rfl) (by kernel_rfl)
theorem fok42 : FnOk 42 Go.Proofs.Try.f42 := .of Go.Proofs.Try.func42 (by kernel_rfl) (by kernel_rfl)
theorem fok9 : FnOk 9 Go.Proofs.Try.f9 := .of Go.Proofs.Try.func9 (by kernel_rfl) (by kernel_rfl)
theorem fok103 : FnOk 103 Go.Proofs.Try.f103 := .of Go.Proofs.Try.func103 (by kernel_rfl) (by kernel_rfl)
theorem fok43 : FnOk 43 Go.Proofs.Try.f43 := .of Go.Proofs.Try.func43 (by kernel_rfl) (by kernel_rfl)
theorem fok104 : FnOk 104 Go.Proofs.Try.f104 := .of Go.Proofs.Try.func104 (by kernel_rfl) (by kernel_rfl)
theorem fok44 : FnOk 44 Go.Proofs.Try.f44 := .of Go.Proofs.Try.func44 (by kernel_rfl) (by kernel_rfl)
theorem fok105 : FnOk 105 Go.Proofs.Try.f105 := .of Go.Proofs.Try.func105 (by kernel_rfl) (by kernel_rfl)
theorem fok107 : FnOk 107 Go.Proofs.Try.f107 := .of Go.Proofs.Try.func107 (by kernel_rfl) (by kernel_rfl)
theorem fok106 : FnOk 106 Go.Proofs.Try.f106 := .of Go.Proofs.Try.func106 (by kernel_rfl) (by kernel_rfl)
theorem fok45 : FnOk 45 Go.Proofs.Try.f45 := .of Go.Proofs.Try.func45 (by kernel_rfl) (by kernel_rfl)
theorem fok108 : FnOk 108 Go.Proofs.Try.f108 := .of Go.Proofs.Try.func108 (by kernel_rfl) (by kernel_rfl)
theorem fok46 : FnOk 46 Go.Proofs.Try.f46 := .of Go.Proofs.Try.func46 (by kernel_rfl) (by kernel_rfl)
theorem fok109 : FnOk 109 Go.Proofs.Try.f109 := .of Go.Proofs.Try.func109 (by kernel_rfl) (by kernel_rfl)
theorem fok47 : FnOk 47 Go.Proofs.Try.f47 := .of Go.Proofs.Try.func47 (by kernel_rfl) (by kernel_rfl)
theorem fok111 : FnOk 111 Go.Proofs.Try.f111 := .of Go.Proofs.Try.func111 (by kernel_rfl) (by kernel_rfl)
theorem fok110 : FnOk 110 Go.Proofs.Try.f110 := .of Go.Proofs.Try.func110 (by kernel_rfl) (by kernel_rfl)
theorem fok112 : FnOk 112 Go.Proofs.Try.f112 := .of Go.Proofs.Try.func112 (by kernel_rfl) (by kernel_rfl)
theorem fok48 : FnOk 48 Go.Proofs.Try.f48 := .of Go.Proofs.Try.func48 (by kernel_rfl) (by kernel_rfl)
theorem fok113 : FnOk 113 Go.Proofs.Try.f113 := .of Go.Proofs.Try.func113 (by kernel_rfl) (by kernel_rfl)
theorem fok50 : FnOk 50 Go.Proofs.Try.f50 := .of Go.Proofs.Try.func50 (by kernel_rfl) (by kernel_rfl)
theorem fok114 : FnOk 114 Go.Proofs.Try.f114 := .of Go.Proofs.Try.func114 (by kernel_rfl) (by kernel_rfl)
theorem fok51 : FnOk 51 Go.Proofs.Try.f51 := .of Go.Proofs.Try.func51 (by kernel_rfl) (by kernel_rfl)
theorem fok49 : FnOk 49 Go.Proofs.Try.f49 := .of Go.Proofs.Try.func49 (by kernel_rfl) (by kernel_rfl)
theorem fok115 : FnOk 115 Go.Proofs.Try.f115 := .of Go.Proofs.Try.func115 (by kernel_rfl) (by kernel_rfl)
theorem fok52 : FnOk 52 Go.Proofs.Try.f52 := .of Go.Proofs.Try.func52 (by kernel_rfl) (by kernel_rfl)
theorem fok53 : FnOk 53 Go.Proofs.Try.f53 := .of Go.Proofs.Try.func53 (by kernel_rfl) (by kernel_rfl)
theorem fok54 : FnOk 54 Go.Proofs.Try.f54 := .of Go.Proofs.Try.func54 (by kernel_rfl) (by kernel_rfl)
theorem fok142 : FnOk 142 Go.Proofs.Try.f142 := .of Go.Proofs.Try.func142 (by kernel_rfl) (by kernel_rfl)
theorem fok116 : FnOk 116 Go.Proofs.Try.f116 := .of Go.Proofs.Try.func116 (by kernel_rfl) (by kernel_rfl)
theorem fok117 : FnOk 117 Go.Proofs.Try.f117 := .of Go.Proofs.Try.func117 (by kernel_rfl) (by kernel_rfl)
theorem fok55 : FnOk 55 Go.Proofs.Try.f55 := .of Go.Proofs.Try.func55 (by kernel_rfl) (by kernel_rfl)
theorem fok10 : FnOk 10 Go.Proofs.Try.f10 := .of Go.Proofs.Try.func10 (by kernel_rfl) (by kernel_rfl)
theorem fok56 : FnOk 56 Go.Proofs.Try.f56 := .of Go.Proofs.Try.func56 (by kernel_rfl) (by kernel_rfl)
theorem fok118 : FnOk 118 Go.Proofs.Try.f118 := .of Go.Proofs.Try.func118 (by kernel_rfl) (by kernel_rfl)
theorem fok144 : FnOk 144 Go.Proofs.Try.f144 := .of Go.Proofs.Try.func144 (by kernel_rfl) (by kernel_rfl)
theorem fok120 : FnOk 120 Go.Proofs.Try.f120 := .of Go.Proofs.Try.func120 (by kernel_rfl) (by kernel_rfl)
theorem fok145 : FnOk 145 Go.Proofs.Try.f145 := .of Go.Proofs.Try.func145 (by kernel_rfl) (by kernel_rfl)
theorem fok146 : FnOk 146 Go.Proofs.Try.f146 := .of Go.Proofs.Try.func146 (by kernel_rfl) (by kernel_rfl)
theorem fok150 : FnOk 150 Go.Proofs.Try.f150 := .of Go.Proofs.Try.func150 (by kernel_rfl) (by kernel_rfl)
theorem fok157 : FnOk 157 Go.Proofs.Try.f157 := .of Go.Proofs.Try.func157 (by kernel_rfl) (by kernel_rfl)
theorem fok158 : FnOk 158 Go.Proofs.Try.f158 := .of Go.Proofs.Try.func158 (by kernel_rfl) (by kernel_rfl)
theorem fok151 : FnOk 151 Go.Proofs.Try.f151 := .of Go.Proofs.Try.func151 (by kernel_rfl) (by kernel_rfl)
theorem fok152 : FnOk 152 Go.Proofs.Try.f152 := .of Go.Proofs.Try.func152 (by kernel_rfl) (by kernel_rfl)
theorem fok159 : FnOk 159 Go.Proofs.Try.f159 := .of Go.Proofs.Try.func159 (by kernel_rfl) (by kernel_rfl)
theorem fok160 : FnOk 160 Go.Proofs.Try.f160 := .of Go.Proofs.Try.func160 (by kernel_rfl) (by kernel_rfl)
theorem fok161 : FnOk 161 Go.Proofs.Try.f161 := .of Go.Proofs.Try.func161 (by kernel_rfl) (by kernel_rfl)
theorem fok162 : FnOk 162 Go.Proofs.Try.f162 := .of Go.Proofs.Try.func162 (by kernel_rfl) (by kernel_rfl)
theorem fok153 : FnOk 153 Go.Proofs.Try.f153 := .of Go.Proofs.Try.func153 (by kernel_rfl) (by kernel_rfl)
theorem fok163 : FnOk 163 Go.Proofs.Try.f163 := .of Go.Proofs.Try.func163 (by kernel_rfl) (by kernel_rfl)
theorem fok154 : FnOk 154 Go.Proofs.Try.f154 := .of Go.Proofs.Try.func154 (by kernel_rfl) (by kernel_rfl)
theorem fok164 : FnOk 164 Go.Proofs.Try.f164 := .of Go.Proofs.Try.func164 (by kernel_rfl) (by kernel_rfl)
theorem fok155 : FnOk 155 Go.Proofs.Try.f155 := .of Go.Proofs.Try.func155 (by kernel_rfl) (by kernel_rfl)
theorem fok143 : FnOk 143 Go.Proofs.Try.f143 := .of Go.Proofs.Try.func143 (by kernel_rfl) (by kernel_rfl)
theorem fok119 : FnOk 119 Go.Proofs.Try.f119 := .of Go.Proofs.Try.func119 (by kernel_rfl) (by kernel_rfl)
theorem fok57 : FnOk 57 Go.Proofs.Try.f57 := .of Go.Proofs.Try.func57 (by kernel_rfl) (by kernel_rfl)
theorem fok121 : FnOk 121 Go.Proofs.Try.f121 := .of Go.Proofs.Try.func121 (by kernel_rfl) (by kernel_rfl)
theorem fok58 : FnOk 58 Go.Proofs.Try.f58 := .of Go.Proofs.Try.func58 (by kernel_rfl) (by kernel_rfl)
theorem fok122 : FnOk 122 Go.Proofs.Try.f122 := .of Go.Proofs.Try.func122 (by kernel_rfl) (by kernel_rfl)
theorem fok59 : FnOk 59 Go.Proofs.Try.f59 := .of Go.Proofs.Try.func59 (by kernel_rfl) (by kernel_rfl)
theorem fok63 : FnOk 63 Go.Proofs.Try.f63 := .of Go.Proofs.Try.func63 (by kernel_rfl) (by kernel_rfl)
theorem fok123 : FnOk 123 Go.Proofs.Try.f123 := .of Go.Proofs.Try.func123 (by kernel_rfl) (by kernel_rfl)
theorem fok60 : FnOk 60 Go.Proofs.Try.f60 := .of Go.Proofs.Try.func60 (by kernel_rfl) (by kernel_rfl)
theorem fok61 : FnOk 61 Go.Proofs.Try.f61 := .of Go.Proofs.Try.func61 (by kernel_rfl) (by kernel_rfl)
theorem fok124 : FnOk 124 Go.Proofs.Try.f124 := .of Go.Proofs.Try.func124 (by kernel_rfl) (by kernel_rfl)
theorem fok125 : FnOk 125 Go.Proofs.Try.f125 := .of Go.Proofs.Try.func125 (by kernel_rfl) (by kernel_rfl)
theorem fok62 : FnOk 62 Go.Proofs.Try.f62 := .of Go.Proofs.Try.func62 (by kernel_rfl) (by kernel_rfl)
theorem fok64 : FnOk 64 Go.Proofs.Try.f64 := .of Go.Proofs.Try.func64 (by kernel_rfl) (by kernel_rfl)
theorem fok147 : FnOk 147 Go.Proofs.Try.f147 := .of Go.Proofs.Try.func147 (by kernel_rfl) (by kernel_rfl)
theorem fok126 : FnOk 126 Go.Proofs.Try.f126 := .of Go.Proofs.Try.func126 (by kernel_rfl) (by kernel_rfl)
theorem fok127 : FnOk 127 Go.Proofs.Try.f127 := .of Go.Proofs.Try.func127 (by kernel_rfl) (by kernel_rfl)
theorem fok65 : FnOk 65 Go.Proofs.Try.f65 := .of Go.Proofs.Try.func65 (by kernel_rfl) (by kernel_rfl)
theorem fok11 : FnOk 11 Go.Proofs.Try.f11 := .of Go.Proofs.Try.func11 (by kernel_rfl) (by kernel_rfl)
theorem all_cons {α : Type} {Q : Nat → α → Prop} {i : Nat} {x : α} {l : List (Nat × α)} (h : Q i x) (hl : ∀ d y, (d, y) ∈ l → Q d y) : ∀ d y, (d, y) ∈ (i, x) :: l → Q d y := by
  intro d y hm
  rcases List.mem_cons.1 hm with hm | hm
  · cases hm; exact h
  · exact hl d y hm
theorem all_nil {α : Type} {Q : Nat → α → Prop} : ∀ d y, (d, y) ∈ ([] : List (Nat × α)) → Q d y := fun _ _ h => by cases h
theorem ty_all : ∀ d y, (d, y) ∈ tyTab → TyOk Go.Proofs.Try.prog d y := all_cons ty2 (all_cons ty3 (all_cons ty4 (all_cons ty5 (all_cons ty9 (all_cons ty22 (all_cons ty25 (all_cons ty27 (all_cons ty33 (all_cons ty40 (all_cons ty42 (all_cons ty45 (all_cons ty47 (all_cons ty50 (all_cons ty52 (all_cons ty54 (all_cons ty68 (all_cons ty69 (all_cons ty72 (all_cons ty74 (all_cons ty84 (all_cons ty88 (all_cons ty90 (all_cons ty93 (all_cons ty97 (all_cons ty113 (all_cons ty129 (all_cons ty135 (all_cons ty138 (all_cons ty143 (all_cons ty153 (all_cons ty159 (all_cons ty163 (all_cons ty166 (all_cons ty179 (all_nil)))))))))))))))))))))))))))))))))))
theorem fn_all : ∀ d y, (d, y) ∈ fnTab → FnOk d y := all_cons fok66 (all_cons fok12 (all_cons fok68 (all_cons fok148 (all_cons fok128 (all_cons fok129 (all_cons fok67 (all_cons fok130 (all_cons fok69 (all_cons fok13 (all_cons fok70 (all_cons fok14 (all_cons fok72 (all_cons fok131 (all_cons fok132 (all_cons fok71 (all_cons fok73 (all_cons fok15 (all_cons fok16 (all_cons fok74 (all_cons fok17 (all_cons fok3 (all_cons fok75 (all_cons fok18 (all_cons fok19 (all_cons fok20 (all_cons fok76 (all_cons fok21 (all_cons fok22 (all_cons fok77 (all_cons fok23 (all_cons fok4 (all_cons fok24 (all_cons fok78 (all_cons fok133 (all_cons fok134 (all_cons fok79 (all_cons fok25 (all_cons fok26 (all_cons fok135 (all_cons fok80 (all_cons fok98 (all_cons fok136 (all_cons fok81 (all_cons fok27 (all_cons fok5 (all_cons fok28 (all_cons fok82 (all_cons fok83 (all_cons fok29 (all_cons fok30 (all_cons fok84 (all_cons fok85 (all_cons fok31 (all_cons fok86 (all_cons fok33 (all_cons fok32 (all_cons fok34 (all_cons fok35 (all_cons fok87 (all_cons fok36 (all_cons fok6 (all_cons fok137 (all_cons fok88 (all_cons fok37 (all_cons fok89 (all_cons fok38 (all_cons fok7 (all_cons fok90 (all_cons fok39 (all_cons fok91 (all_cons fok138 (all_cons fok92 (all_cons fok93 (all_cons fok40 (all_cons fok8 (all_cons fok139 (all_cons fok94 (all_cons fok95 (all_cons fok41 (all_cons fok96 (all_cons fok97 (all_cons fok99 (all_cons fok100 (all_cons fok156 (all_cons fok149 (all_cons fok141 (all_cons fok42 (all_cons fok9 (all_cons fok103 (all_cons fok43 (all_cons fok104 (all_cons fok44 (all_cons fok105 (all_cons fok107 (all_cons fok106 (all_cons fok45 (all_cons fok108 (all_cons fok46 (all_cons fok109 (all_cons fok47 (all_cons fok111 (all_cons fok110 (all_cons fok112 (all_cons fok48 (all_cons fok113 (all_cons fok50 (all_cons fok114 (all_cons fok51 (all_cons fok49 (all_cons fok115 (all_cons fok52 (all_cons fok53 (all_cons fok54 (all_cons fok142 (all_cons fok116 (all_cons fok117 (all_cons fok55 (all_cons fok10 (all_cons fok56 (all_cons fok118 (all_cons fok144 (all_cons fok120 (all_cons fok145 (all_cons fok146 (all_cons fok150 (all_cons fok157 (all_cons fok158 (all_cons fok151 (all_cons fok152 (all_cons fok159 (all_cons fok160 (all_cons fok161 (all_cons fok162 (all_cons fok153 (all_cons fok163 (all_cons fok154 (all_cons fok164 (all_cons fok155 (all_cons fok143 (all_cons fok119 (all_cons fok57 (all_cons fok121 (all_cons fok58 (all_cons fok122 (all_cons fok59 (all_cons fok63 (all_cons fok123 (all_cons fok60 (all_cons fok61 (all_cons fok124 (all_cons fok125 (all_cons fok62 (all_cons fok64 (all_cons fok147 (all_cons fok126 (all_cons fok127 (all_cons fok65 (all_cons fok11 (all_nil)))))))))))))))))))))))))))))))))))))))))))))))))))))))))))))))))))))))))))))))))))))))))))))))))))))))))))))))))))))))))))))))))))))))))))))))))))))))))))))))
theorem Ev_ok : EnvOk Go.Proofs.Try.prog Ev := ⟨by kernel_rfl, fun t ti h => ty_all t ti (tab_mem h), fun f fn h => fn_all f fn (tab_mem h)⟩
end Vm
