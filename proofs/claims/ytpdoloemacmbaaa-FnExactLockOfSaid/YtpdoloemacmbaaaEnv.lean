/-
  The types and the functions that the small machine asks for, and that they are the program's. Written by a program (gen3.py).
-/
import Derived.Test.YtpdoloemacmbaaaVmR
import Derived.Test.YtpdoloemacmbaaaProg
import Derived.KernelRfl
set_option linter.unusedVariables false
set_option maxRecDepth 100000
namespace Vm
open Go
namespace Fn
abbrev laws_lwBig : Nat := 9
abbrev spec_l1Source : Nat := 49
abbrev spec_l1Next : Nat := 52
abbrev spec_l1Pick : Nat := 123
abbrev spec_l1Draw : Nat := 67
abbrev spec_l6At : Nat := 120
abbrev spec_l1Before : Nat := 119
abbrev spec_l6Put : Nat := 121
abbrev spec_l6DrawRows : Nat := 63
abbrev spec_l1Bent : Nat := 64
abbrev spec_l6BentRows : Nat := 50
abbrev spec_l1Chance : Nat := 51
abbrev spec_DrawChangesOf : Nat := 10
abbrev impl_in : Nat := 133
abbrev impl_RowFault : Nat := 115
abbrev impl_IsBefore : Nat := 116
abbrev impl_RowsFault : Nat := 53
abbrev impl_order : Nat := 117
abbrev impl_between : Nat := 54
abbrev impl_ChangesOf : Nat := 11
abbrev spec_l1In : Nat := 129
abbrev spec_l1Text : Nat := 159
abbrev spec_l1Fault : Nat := 118
abbrev spec_l6Rows : Nat := 55
abbrev spec_l6Changes : Nat := 56
abbrev spec_ChangesOf : Nat := 12
abbrev slices_Clone_impl_Row_impl_Row : Nat := 57
abbrev impl_changeFault : Nat := 58
abbrev impl_Change_key : Nat := 70
abbrev slices_BinarySearchFunc_impl_Row_impl_Row_impl_Row : Nat := 122
abbrev impl_Change_fitsTo : Nat := 59
abbrev impl_changed : Nat := 60
abbrev impl_ApplyChanges : Nat := 13
abbrev impl_singleFault : Nat := 61
abbrev impl_inverse : Nat := 62
abbrev impl_InverseOf : Nat := 14
abbrev spec_DrawApplyChanges : Nat := 15
abbrev laws_lwRows : Nat := 16
abbrev spec_l6Change : Nat := 65
abbrev spec_l6Key : Nat := 124
abbrev spec_l6Do : Nat := 66
abbrev spec_ApplyChanges : Nat := 17
abbrev laws_FnChanges : Nat := 3
abbrev spec_DrawFoldChange : Nat := 18
abbrev impl_foldedFault : Nat := 68
abbrev slices_BinarySearchFunc_impl_Change_impl_Change_impl_Row : Nat := 69
abbrev impl_keyOrder : Nat := 71
abbrev slices_Clone_impl_Change_impl_Change : Nat := 72
abbrev slices_Reverse_impl_Change_impl_Change : Nat := 167
abbrev slices_rotateLeft_impl_Change : Nat := 160
abbrev slices_rotateRight_impl_Change : Nat := 126
abbrev slices_Insert_impl_Change_impl_Change : Nat := 73
abbrev slices_Delete_impl_Change_impl_Change : Nat := 74
abbrev impl_FoldChange : Nat := 19
abbrev spec_l9Change : Nat := 76
abbrev spec_l9Ahead : Nat := 127
abbrev spec_l9List : Nat := 75
abbrev spec_l9Fold : Nat := 77
abbrev spec_FoldChange : Nat := 20
abbrev laws_lwChanges : Nat := 21
abbrev laws_FnFolds : Nat := 4
abbrev laws_szByteS : Nat := 78
abbrev laws_szByteSS : Nat := 22
abbrev laws_szRun : Nat := 128
abbrev laws_szRunS : Nat := 79
abbrev laws_szRecord : Nat := 23
abbrev spec_l7Bad : Nat := 80
abbrev spec_l4Runs : Nat := 83
abbrev spec_l3Fault : Nat := 130
abbrev spec_l4Fault : Nat := 81
abbrev spec_l2Copy : Nat := 131
abbrev spec_l7Copy : Nat := 82
abbrev spec_l2New : Nat := 84
abbrev spec_l3Apply : Nat := 85
abbrev spec_ApplyRecord : Nat := 24
abbrev laws_toByteS : Nat := 86
abbrev laws_toByteSS : Nat := 25
abbrev laws_toRun : Nat := 132
abbrev laws_toRunS : Nat := 87
abbrev laws_toRecord : Nat := 26
abbrev impl_isTx : Nat := 102
abbrev impl_turns : Nat := 134
abbrev impl_RunsFault : Nat := 135
abbrev impl_RecordFault : Nat := 88
abbrev slices_Clone_byte_byte : Nat := 136
abbrev impl_newPage : Nat := 137
abbrev impl_copied : Nat := 139
abbrev impl_applied : Nat := 138
abbrev impl_recorded : Nat := 89
abbrev impl_copies : Nat := 90
abbrev impl_ApplyRecord : Nat := 27
abbrev laws_eqByteS : Nat := 92
abbrev laws_eqByteSS : Nat := 29
abbrev laws_eqEdit : Nat := 140
abbrev laws_eqEditS : Nat := 91
abbrev laws_eqEditsResult : Nat := 28
abbrev laws_eqRun : Nat := 141
abbrev laws_eqRunS : Nat := 93
abbrev laws_eqRecord : Nat := 30
abbrev laws_markByteS : Nat := 94
abbrev laws_markByteSS : Nat := 31
abbrev laws_markRunS : Nat := 95
abbrev laws_markRecord : Nat := 32
abbrev laws_markEditS : Nat := 96
abbrev laws_markEditsResult : Nat := 33
abbrev laws_heldByteS : Nat := 142
abbrev laws_heldEditS : Nat := 97
abbrev laws_heldByteSS : Nat := 98
abbrev laws_heldEditsResult : Nat := 34
abbrev laws_FnExactApplyRecord : Nat := 5
abbrev laws_szRow : Nat := 110
abbrev laws_szChange : Nat := 161
abbrev laws_szChangeS : Nat := 143
abbrev laws_szInt64S : Nat := 144
abbrev laws_szKeyS : Nat := 145
abbrev laws_szTx : Nat := 99
abbrev laws_szTxS : Nat := 35
abbrev spec_l10Locks : Nat := 158
abbrev spec_l10KeyOf : Nat := 162
abbrev spec_l10Undo : Nat := 146
abbrev spec_l10Key : Nat := 106
abbrev spec_l10Marks : Nat := 147
abbrev spec_l10Lock : Nat := 107
abbrev spec_l10Apart : Nat := 148
abbrev spec_l10Count : Nat := 149
abbrev spec_l10Fault : Nat := 100
abbrev spec_TxsFault : Nat := 36
abbrev laws_toRow : Nat := 112
abbrev laws_toChange : Nat := 163
abbrev laws_toChangeS : Nat := 150
abbrev laws_toInt64S : Nat := 151
abbrev laws_toKey : Nat := 41
abbrev laws_toKeyS : Nat := 152
abbrev laws_toTx : Nat := 101
abbrev laws_toTxS : Nat := 37
abbrev impl_isKey : Nat := 108
abbrev slices_Index_impl_Key_impl_Key : Nat := 164
abbrev slices_Contains_impl_Key_impl_Key : Nat := 153
abbrev impl_Change_lock : Nat := 154
abbrev impl_txFault : Nat := 103
abbrev impl_undone : Nat := 104
abbrev impl_TxsFault : Nat := 38
abbrev laws_eqRow : Nat := 114
abbrev laws_eqChange : Nat := 165
abbrev laws_eqChangeS : Nat := 155
abbrev laws_eqInt64S : Nat := 156
abbrev laws_eqKey : Nat := 166
abbrev laws_eqKeyS : Nat := 157
abbrev laws_eqTx : Nat := 105
abbrev laws_eqTxS : Nat := 39
abbrev laws_FnExactTxsFault : Nat := 6
abbrev spec_LockOf : Nat := 40
abbrev impl_lockOf : Nat := 109
abbrev impl_LockOf : Nat := 42
abbrev laws_eqIntResult : Nat := 43
abbrev laws_FnExactLockOf : Nat := 7
abbrev laws_szRowS : Nat := 44
abbrev spec_l10Room : Nat := 111
abbrev spec_RoomOf : Nat := 45
abbrev laws_toRowS : Nat := 46
abbrev impl_keysOf : Nat := 113
abbrev impl_RoomOf : Nat := 47
abbrev laws_eqRowS : Nat := 48
abbrev laws_FnExactRoomOf : Nat := 8
end Fn
def tab {α : Type} : List (Nat × α) → Nat → Option α
  | [], _ => none
  | (i, x) :: r, d => bif Nat.beq i d then some x else tab r d
theorem tab_mem {α : Type} {l : List (Nat × α)} {d : Nat} {x : α} (h : tab l d = some x) : (d, x) ∈ l := by
  induction l with
  | nil => simp [tab] at h
  | cons p r ih =>
    obtain ⟨i, y⟩ := p
    simp only [tab] at h
    by_cases hi : i = d
    · subst hi; simp at h; subst h; simp
    · rw [show Nat.beq i d = false from by
        cases hb : Nat.beq i d with
        | false => rfl
        | true => exact absurd (Nat.eq_of_beq_eq_true hb) hi] at h
      exact List.mem_cons_of_mem _ (ih h)
noncomputable def tyTab : List (Nat × TI) := [(2, ⟨1, 8, [.int .i64 0], false, .int .i64, false⟩),
  (3, ⟨1, 8, [.int .i64 0], false, .int .i64, false⟩),
  (4, ⟨1, 1, [.bool false], false, .bool, false⟩),
  (5, ⟨1, 1, [.int .u8 0], false, .int .u8, false⟩),
  (9, ⟨1, 16, [.str ⟨#[]⟩], false, .str, false⟩),
  (22, ⟨1, 24, [.sl none 0], false, .sl 5, false⟩),
  (24, ⟨1, 24, [.sl none 0], false, .sl 39, false⟩),
  (27, ⟨1, 24, [.sl none 0], false, .sl 41, false⟩),
  (29, ⟨2, 32, [.int .i64 0, .sl none 0], true, .st [(0, 2), (1, 27)], false⟩),
  (32, ⟨2, 32, [.int .i64 0, .sl none 0], true, .st [(0, 2), (1, 24)], false⟩),
  (39, ⟨4, 40, [.int .i64 0, .int .i64 0, .int .i64 0, .str ⟨#[]⟩], true, .st [(0, 2), (1, 2), (2, 2), (3, 9)], true⟩),
  (41, ⟨10, 96, [.bool false, .int .i64 0, .int .i64 0, .int .i64 0, .str ⟨#[]⟩, .bool false, .int .i64 0, .int .i64 0, .int .i64 0, .str ⟨#[]⟩], true, .st [(0, 4), (1, 39), (5, 4), (6, 39)], true⟩),
  (46, ⟨1, 24, [.sl none 0], false, .sl 22, false⟩),
  (47, ⟨1, 24, [.sl none 0], false, .sl 175, false⟩),
  (49, ⟨4, 48, [.int .i64 0, .int .i64 0, .int .i64 0, .sl none 0], true, .st [(0, 2), (1, 2), (2, 2), (3, 47)], false⟩),
  (52, ⟨1, 24, [.sl none 0], false, .sl 182, false⟩),
  (54, ⟨3, 56, [.int .i64 0, .sl none 0, .sl none 0], true, .st [(0, 2), (1, 52), (2, 46)], false⟩),
  (57, ⟨1, 24, [.sl none 0], false, .sl 178, false⟩),
  (59, ⟨4, 48, [.int .i64 0, .int .i64 0, .int .i64 0, .sl none 0], true, .st [(0, 2), (1, 2), (2, 2), (3, 57)], false⟩),
  (67, ⟨1, 24, [.sl none 0], false, .sl 137, false⟩),
  (70, ⟨1, 24, [.sl none 0], false, .sl 140, false⟩),
  (75, ⟨2, 16, [.int .i64 0, .int .i64 0], true, .st [(0, 2), (1, 2)], true⟩),
  (77, ⟨2, 16, [.int .i64 0, .int .i64 0], true, .st [(0, 2), (1, 2)], true⟩),
  (79, ⟨2, 16, [.int .i64 0, .int .i64 0], true, .st [(0, 2), (1, 2)], true⟩),
  (83, ⟨1, 24, [.sl none 0], false, .sl 151, false⟩),
  (88, ⟨1, 8, [.ptr none], false, .ptr, false⟩),
  (102, ⟨1, 8, [.ptr none], false, .ptr, false⟩),
  (109, ⟨1, 8, [.nofn], false, .other, false⟩),
  (118, ⟨1, 8, [.ptr none], false, .ptr, false⟩),
  (133, ⟨1, 24, [.sl none 0], false, .sl 201, false⟩),
  (134, ⟨1, 24, [.sl none 0], false, .sl 2, false⟩),
  (135, ⟨1, 24, [.sl none 0], false, .sl 75, false⟩),
  (137, ⟨4, 80, [.int .i64 0, .sl none 0, .sl none 0, .sl none 0], true, .st [(0, 2), (1, 133), (2, 134), (3, 135)], false⟩),
  (138, ⟨1, 24, [.sl none 0], false, .sl 79, false⟩),
  (140, ⟨4, 80, [.int .i64 0, .sl none 0, .sl none 0, .sl none 0], true, .st [(0, 2), (1, 27), (2, 134), (3, 138)], false⟩),
  (143, ⟨1, 8, [.mp none], false, .mp 79 4, false⟩),
  (147, ⟨1, 8, [.ptr none], false, .ptr, false⟩),
  (151, ⟨4, 40, [.int .i64 0, .int .i64 0, .int .i64 0, .str ⟨#[]⟩], true, .st [(0, 2), (1, 2), (2, 2), (3, 9)], true⟩),
  (157, ⟨2, 32, [.sl none 0, .int .i64 0], true, .st [(0, 22), (1, 2)], false⟩),
  (159, ⟨1, 8, [.nofn], false, .other, false⟩),
  (161, ⟨1, 8, [.ptr none], false, .ptr, false⟩),
  (167, ⟨1, 24, [.sl none 0], false, .sl 9, false⟩),
  (170, ⟨1, 8, [.int .u64 0], false, .int .u64, false⟩),
  (175, ⟨2, 32, [.int .i64 0, .sl none 0], true, .st [(0, 2), (1, 22)], false⟩),
  (178, ⟨2, 32, [.int .i64 0, .sl none 0], true, .st [(0, 2), (1, 22)], false⟩),
  (182, ⟨2, 32, [.int .i64 0, .sl none 0], true, .st [(0, 2), (1, 22)], false⟩),
  (187, ⟨1, 8, [.ptr none], false, .ptr, false⟩),
  (201, ⟨10, 96, [.bool false, .int .i64 0, .int .i64 0, .int .i64 0, .str ⟨#[]⟩, .bool false, .int .i64 0, .int .i64 0, .int .i64 0, .str ⟨#[]⟩], true, .st [(0, 4), (1, 151), (5, 4), (6, 151)], true⟩)]
noncomputable def fnTab : List (Nat × Func) := [(9, Go.Proofs.Try.f9), (49, Go.Proofs.Try.f49), (52, Go.Proofs.Try.f52), (123, Go.Proofs.Try.f123), (67, Go.Proofs.Try.f67), (120, Go.Proofs.Try.f120), (119, Go.Proofs.Try.f119), (121, Go.Proofs.Try.f121), (63, Go.Proofs.Try.f63), (64, Go.Proofs.Try.f64), (50, Go.Proofs.Try.f50), (51, Go.Proofs.Try.f51), (10, Go.Proofs.Try.f10), (133, Go.Proofs.Try.f133), (115, Go.Proofs.Try.f115), (116, Go.Proofs.Try.f116), (53, Go.Proofs.Try.f53), (117, Go.Proofs.Try.f117), (54, Go.Proofs.Try.f54), (11, Go.Proofs.Try.f11), (129, Go.Proofs.Try.f129), (159, Go.Proofs.Try.f159), (118, Go.Proofs.Try.f118), (55, Go.Proofs.Try.f55), (56, Go.Proofs.Try.f56), (12, Go.Proofs.Try.f12), (57, Go.Proofs.Try.f57), (58, Go.Proofs.Try.f58), (70, Go.Proofs.Try.f70), (122, Go.Proofs.Try.f122), (59, Go.Proofs.Try.f59), (60, Go.Proofs.Try.f60), (13, Go.Proofs.Try.f13), (61, Go.Proofs.Try.f61), (62, Go.Proofs.Try.f62), (14, Go.Proofs.Try.f14), (15, Go.Proofs.Try.f15), (16, Go.Proofs.Try.f16), (65, Go.Proofs.Try.f65), (124, Go.Proofs.Try.f124), (66, Go.Proofs.Try.f66), (17, Go.Proofs.Try.f17), (3, Go.Proofs.Try.f3), (18, Go.Proofs.Try.f18), (68, Go.Proofs.Try.f68), (69, Go.Proofs.Try.f69), (71, Go.Proofs.Try.f71), (72, Go.Proofs.Try.f72), (167, Go.Proofs.Try.f167), (160, Go.Proofs.Try.f160), (126, Go.Proofs.Try.f126), (19, Go.Proofs.Try.f19), (76, Go.Proofs.Try.f76), (127, Go.Proofs.Try.f127), (75, Go.Proofs.Try.f75), (77, Go.Proofs.Try.f77), (20, Go.Proofs.Try.f20), (21, Go.Proofs.Try.f21), (78, Go.Proofs.Try.f78), (22, Go.Proofs.Try.f22), (128, Go.Proofs.Try.f128), (79, Go.Proofs.Try.f79), (23, Go.Proofs.Try.f23), (80, Go.Proofs.Try.f80), (83, Go.Proofs.Try.f83), (130, Go.Proofs.Try.f130), (81, Go.Proofs.Try.f81), (131, Go.Proofs.Try.f131), (82, Go.Proofs.Try.f82), (84, Go.Proofs.Try.f84), (85, Go.Proofs.Try.f85), (24, Go.Proofs.Try.f24), (86, Go.Proofs.Try.f86), (25, Go.Proofs.Try.f25), (132, Go.Proofs.Try.f132), (87, Go.Proofs.Try.f87), (26, Go.Proofs.Try.f26), (102, Go.Proofs.Try.f102), (134, Go.Proofs.Try.f134), (135, Go.Proofs.Try.f135), (88, Go.Proofs.Try.f88), (136, Go.Proofs.Try.f136), (137, Go.Proofs.Try.f137), (139, Go.Proofs.Try.f139), (138, Go.Proofs.Try.f138), (89, Go.Proofs.Try.f89), (90, Go.Proofs.Try.f90), (27, Go.Proofs.Try.f27), (92, Go.Proofs.Try.f92), (29, Go.Proofs.Try.f29), (140, Go.Proofs.Try.f140), (91, Go.Proofs.Try.f91), (28, Go.Proofs.Try.f28), (141, Go.Proofs.Try.f141), (93, Go.Proofs.Try.f93), (30, Go.Proofs.Try.f30), (94, Go.Proofs.Try.f94), (31, Go.Proofs.Try.f31), (95, Go.Proofs.Try.f95), (32, Go.Proofs.Try.f32), (96, Go.Proofs.Try.f96), (33, Go.Proofs.Try.f33), (142, Go.Proofs.Try.f142), (97, Go.Proofs.Try.f97), (98, Go.Proofs.Try.f98), (34, Go.Proofs.Try.f34), (5, Go.Proofs.Try.f5), (110, Go.Proofs.Try.f110), (161, Go.Proofs.Try.f161), (143, Go.Proofs.Try.f143), (144, Go.Proofs.Try.f144), (145, Go.Proofs.Try.f145), (99, Go.Proofs.Try.f99), (35, Go.Proofs.Try.f35), (158, Go.Proofs.Try.f158), (162, Go.Proofs.Try.f162), (146, Go.Proofs.Try.f146), (106, Go.Proofs.Try.f106), (147, Go.Proofs.Try.f147), (107, Go.Proofs.Try.f107), (148, Go.Proofs.Try.f148), (149, Go.Proofs.Try.f149), (100, Go.Proofs.Try.f100), (36, Go.Proofs.Try.f36), (112, Go.Proofs.Try.f112), (163, Go.Proofs.Try.f163), (150, Go.Proofs.Try.f150), (151, Go.Proofs.Try.f151), (41, Go.Proofs.Try.f41), (152, Go.Proofs.Try.f152), (101, Go.Proofs.Try.f101), (37, Go.Proofs.Try.f37), (108, Go.Proofs.Try.f108), (164, Go.Proofs.Try.f164), (153, Go.Proofs.Try.f153), (154, Go.Proofs.Try.f154), (103, Go.Proofs.Try.f103), (104, Go.Proofs.Try.f104), (38, Go.Proofs.Try.f38), (114, Go.Proofs.Try.f114), (165, Go.Proofs.Try.f165), (155, Go.Proofs.Try.f155), (156, Go.Proofs.Try.f156), (166, Go.Proofs.Try.f166), (157, Go.Proofs.Try.f157), (105, Go.Proofs.Try.f105), (39, Go.Proofs.Try.f39), (6, Go.Proofs.Try.f6), (40, Go.Proofs.Try.f40), (109, Go.Proofs.Try.f109), (42, Go.Proofs.Try.f42), (43, Go.Proofs.Try.f43), (7, Go.Proofs.Try.f7), (44, Go.Proofs.Try.f44), (111, Go.Proofs.Try.f111), (45, Go.Proofs.Try.f45), (46, Go.Proofs.Try.f46), (113, Go.Proofs.Try.f113), (47, Go.Proofs.Try.f47), (48, Go.Proofs.Try.f48), (8, Go.Proofs.Try.f8)]
def keepTab : List (Nat × List Nat) := [(4000, [3, 4, 5, 6, 7]),
  (4002, [3, 4, 5, 6, 8, 9]),
  (13000, [4, 6, 18, 19, 20]),
  (14000, [0, 2, 10, 11, 12]),
  (16000, [0, 1, 5]),
  (17000, [1, 4, 6, 7]),
  (21000, [0, 1, 5]),
  (22000, [0, 1, 5]),
  (24000, [0, 3, 4, 5]),
  (25000, [0, 3, 4]),
  (27000, [0, 3, 4, 14, 15, 16]),
  (29000, [0, 1, 5]),
  (31000, [0, 1, 5]),
  (35000, [0, 1, 5]),
  (37000, [0, 3, 4]),
  (38000, [0, 14, 15, 16]),
  (38002, [0, 6, 45, 46, 47]),
  (38004, [0, 6, 45, 46, 47, 52, 53, 54]),
  (39000, [0, 1, 5]),
  (44000, [0, 1, 5]),
  (46000, [0, 3, 4]),
  (48000, [0, 1, 5]),
  (53000, [0, 9, 10, 11]),
  (54000, [0, 1, 5]),
  (55000, [0, 3]),
  (56000, [0, 1, 5, 6]),
  (56002, [0, 1, 5, 7, 8]),
  (62000, [0, 3, 4]),
  (63000, [0, 3, 4]),
  (66000, [0, 1, 8, 9, 10]),
  (68000, [0, 9, 10, 11]),
  (69000, [0, 2, 4, 8, 9, 10]),
  (75000, [0, 3]),
  (77000, [0, 3, 6, 7, 8]),
  (79000, [0, 1, 5]),
  (82000, [0, 3, 4]),
  (84000, [0, 3, 4]),
  (85000, [1, 5, 6]),
  (86000, [0, 3, 4]),
  (87000, [0, 3, 4]),
  (90000, [3, 6, 7, 8]),
  (91000, [0, 1, 5]),
  (92000, [0, 1, 5]),
  (93000, [0, 1, 5]),
  (94000, [0, 1, 5]),
  (95000, [0, 1, 5]),
  (96000, [0, 1, 5]),
  (97000, [0, 1, 5]),
  (98000, [0, 1, 5]),
  (100000, [0, 3]),
  (103000, [1, 12, 13, 14]),
  (103002, [1, 6, 41, 42, 43]),
  (103004, [1, 57, 58, 59]),
  (104000, [3, 6, 7, 8]),
  (107000, [0, 3, 5]),
  (109000, [3, 7, 8, 9]),
  (111000, [0, 1, 5, 7, 8]),
  (111002, [1, 5, 7, 9]),
  (111004, [7, 10, 11]),
  (111006, [7, 10, 11, 12, 13]),
  (113000, [1, 5, 13, 14, 15]),
  (113002, [5, 26, 27, 28]),
  (113004, [5, 26, 27, 28, 33, 34, 35]),
  (115000, [1, 26, 27]),
  (120000, [0, 1, 2, 7]),
  (121000, [0, 3, 5]),
  (122000, [0, 2, 4, 8, 9, 10]),
  (130000, [0, 3]),
  (135000, [3, 10, 11, 12]),
  (137000, [0, 3, 7, 8]),
  (138000, [5, 10, 11, 12]),
  (142000, [0, 1, 5]),
  (143000, [0, 1, 5]),
  (146000, [0, 3]),
  (147000, [0, 3]),
  (147002, [0, 4]),
  (147004, [0, 4, 5]),
  (148000, [0, 3]),
  (148002, [0, 3, 4]),
  (149000, [0, 3, 4]),
  (150000, [0, 3, 4]),
  (151000, [0, 3, 4]),
  (152000, [0, 3, 4]),
  (155000, [0, 1, 5]),
  (156000, [0, 1, 5]),
  (157000, [0, 1, 5]),
  (158000, [0, 3, 5]),
  (159000, [0, 3]),
  (164000, [0, 3, 7, 8]),
  (167000, [0, 2, 3])]
def aftTab : List (Nat × List Nat) := [(4000, [3, 4, 5, 6]),
  (4002, [3, 4, 5, 6, 8]),
  (13000, [4, 6]),
  (14000, [0, 2]),
  (16000, []),
  (17000, [4, 6]),
  (21000, []),
  (22000, [1]),
  (24000, [0, 3, 4]),
  (25000, [3]),
  (27000, [0, 3, 4]),
  (29000, []),
  (31000, [1]),
  (35000, [1]),
  (37000, [3]),
  (38000, [0]),
  (38002, [0]),
  (38004, [0, 6, 45, 46, 47]),
  (39000, []),
  (44000, [1]),
  (46000, [3]),
  (48000, []),
  (53000, []),
  (54000, [5]),
  (55000, []),
  (56000, [0, 1, 5]),
  (56002, [7]),
  (62000, [3]),
  (63000, [3]),
  (66000, [1, 9]),
  (68000, []),
  (69000, [0, 2, 4, 8, 9]),
  (75000, []),
  (77000, [3, 6, 7]),
  (79000, [1]),
  (82000, [3]),
  (84000, [3]),
  (85000, [5]),
  (86000, [3]),
  (87000, [3]),
  (90000, [3]),
  (91000, []),
  (92000, []),
  (93000, []),
  (94000, [1]),
  (95000, [1]),
  (96000, [1]),
  (97000, [1]),
  (98000, [1]),
  (100000, [0]),
  (103000, [1]),
  (103002, [1]),
  (103004, []),
  (104000, [3]),
  (107000, []),
  (109000, []),
  (111000, [1, 5, 7]),
  (111002, [5, 7]),
  (111004, [10]),
  (111006, [7, 10, 11, 12]),
  (113000, [1, 5]),
  (113002, [5]),
  (113004, [5, 26, 27, 28]),
  (115000, []),
  (120000, []),
  (121000, [0, 3, 5]),
  (122000, [0, 2, 4, 8, 9]),
  (130000, []),
  (135000, []),
  (137000, [3]),
  (138000, [5]),
  (142000, [1]),
  (143000, [1]),
  (146000, []),
  (147000, [0]),
  (147002, []),
  (147004, [0, 4]),
  (148000, []),
  (148002, [0, 3]),
  (149000, [3]),
  (150000, [3]),
  (151000, [3]),
  (152000, [3]),
  (155000, []),
  (156000, []),
  (157000, []),
  (158000, []),
  (159000, [0]),
  (164000, []),
  (167000, [])]
def killTab : List (Nat × List Nat) := [(19014, [10]),
  (54011, [7]),
  (54014, [7])]
def schedTab : List (Nat × List (Nat × Nat)) := [(3006, [(0, 0), (1, 0), (4, 0), (5, 0), (2, 1), (3, 1), (6, 1), (7, 1)]),
  (3012, [(0, 0), (1, 0), (2, 0), (3, 0), (4, 0), (5, 0), (6, 0), (7, 1), (8, 0), (9, 0), (10, 0), (11, 0), (12, 0), (13, 0), (14, 0), (15, 0), (16, 0), (17, 0), (18, 0), (19, 0), (20, 0), (21, 0), (22, 0), (23, 1), (24, 0), (25, 0), (26, 0), (27, 0), (28, 0), (29, 0), (30, 0), (31, 0), (32, 1), (33, 0), (34, 0), (35, 0), (36, 0), (37, 0), (38, 0), (39, 0), (40, 1), (41, 3), (42, 3), (43, 3), (44, 3), (45, 3), (47, 3), (48, 3), (46, 4), (49, 1), (50, 3), (51, 1), (52, 3), (53, 3)]),
  (4006, [(0, 0), (1, 0), (4, 0), (5, 0), (2, 1), (3, 1), (6, 1), (7, 1)]),
  (4018, [(0, 0), (1, 0), (2, 0), (3, 0), (4, 0), (5, 0), (6, 0), (7, 0), (8, 0), (9, 0), (10, 0), (11, 0), (12, 0), (13, 0), (14, 0), (15, 0), (16, 0), (17, 0), (18, 0)]),
  (4023, [(0, 0), (1, 0), (2, 0), (3, 0), (4, 0), (5, 0), (6, 0), (7, 0), (8, 0), (9, 0), (10, 0), (11, 0), (12, 0), (13, 1), (14, 0), (15, 0), (16, 0), (17, 0), (18, 0), (19, 0), (20, 1), (21, 1), (22, 1), (23, 1), (24, 1)]),
  (5008, [(0, 0), (2, 0), (1, 5), (3, 5), (4, 5), (5, 6), (6, 2)]),
  (5016, [(0, 0), (1, 0), (2, 1), (3, 1), (4, 1)]),
  (5031, [(0, 0), (2, 0), (1, 5), (3, 5), (4, 5), (5, 6), (6, 2)]),
  (7005, [(0, 0), (2, 0), (1, 5), (3, 5), (4, 5), (5, 6), (6, 2)]),
  (16006, [(0, 0), (1, 0), (2, 0), (3, 0), (4, 0), (5, 0), (6, 0), (7, 0), (8, 0)]),
  (18014, [(0, 0), (1, 0), (2, 0), (3, 2)]),
  (19014, [(0, 0), (1, 0), (2, 0), (3, 0), (4, 0), (5, 1), (6, 0), (7, 1)]),
  (21006, [(0, 0), (1, 0), (2, 0), (3, 0), (4, 0), (5, 0), (6, 0), (7, 0), (8, 0)]),
  (24020, [(0, 0), (1, 0), (2, 1), (3, 1), (4, 2), (5, 2), (6, 2)]),
  (24021, [(0, 0), (1, 0), (2, 0), (3, 0), (4, 0), (5, 0), (6, 0), (7, 0), (8, 0), (9, 0), (10, 0), (11, 0), (12, 1), (13, 0), (14, 2)]),
  (29006, [(0, 0), (1, 0), (2, 0), (3, 0), (4, 0), (5, 0), (6, 0), (7, 0), (8, 1), (9, 0)]),
  (38008, [(0, 0), (1, 0), (2, 0), (3, 0), (4, 0), (5, 0), (6, 0), (7, 0), (8, 0), (9, 0), (10, 0), (11, 0), (12, 0)]),
  (39006, [(0, 0), (1, 0), (2, 0), (3, 0), (4, 0), (5, 0), (6, 0), (7, 0), (8, 1), (9, 0)]),
  (48006, [(0, 0), (1, 0), (2, 0), (3, 0), (4, 0), (5, 0), (6, 0), (7, 0), (8, 1), (9, 0)]),
  (52008, [(0, 0), (1, 0), (2, 0), (3, 0), (4, 0), (5, 0), (6, 0), (7, 0), (8, 0), (9, 0), (10, 0), (11, 0), (12, 0), (13, 0), (14, 0), (15, 0)]),
  (52010, [(0, 0), (1, 0), (2, 0), (3, 0), (4, 0), (5, 0), (6, 0), (7, 0), (8, 0), (9, 0), (10, 0), (11, 0), (12, 0), (13, 0), (14, 0), (15, 0), (16, 0), (17, 0)]),
  (53009, [(0, 0), (1, 0), (2, 0), (3, 0), (4, 0), (5, 0), (6, 0), (7, 0), (8, 0), (9, 1), (10, 0), (11, 0)]),
  (54004, [(0, 0), (1, 0), (2, 0), (3, 0), (4, 0), (5, 0), (6, 1), (7, 0)]),
  (54011, [(0, 0), (1, 0), (2, 0), (3, 0), (4, 1), (5, 0), (6, 1)]),
  (54014, [(0, 0), (1, 0), (2, 0), (3, 0), (4, 1), (5, 0), (6, 1)]),
  (55009, [(0, 0), (1, 0), (2, 0), (3, 0), (4, 0), (5, 0), (6, 0), (7, 0), (8, 0), (9, 0), (10, 1), (11, 0), (12, 0)]),
  (56005, [(0, 0), (1, 0), (2, 0), (3, 0), (4, 0), (5, 0), (6, 0), (7, 0), (8, 0), (9, 0), (10, 0), (11, 1), (12, 0)]),
  (56011, [(0, 0), (1, 0), (2, 0), (3, 0), (4, 0), (5, 0), (6, 0), (7, 0), (8, 0), (9, 0), (10, 0), (11, 1), (12, 0)]),
  (56012, [(0, 0), (1, 0), (2, 0), (3, 0), (4, 0), (5, 0), (6, 0), (7, 0), (8, 0), (9, 0), (10, 0), (11, 1), (12, 0)]),
  (56013, [(0, 0), (1, 0), (2, 0), (3, 0), (4, 0), (5, 0), (6, 0), (7, 0), (8, 0), (9, 0), (10, 0), (11, 0), (12, 0), (13, 0), (14, 0), (15, 0), (16, 0)]),
  (59002, [(0, 0), (1, 0), (2, 0), (3, 0), (4, 0), (5, 0), (6, 0), (7, 0), (8, 0), (9, 0), (10, 0), (11, 0), (12, 0), (13, 0), (14, 0), (15, 0), (16, 0), (17, 0)]),
  (65001, [(0, 0), (1, 0), (2, 0), (3, 0), (4, 0), (5, 0), (6, 0), (7, 0), (8, 0), (9, 0), (10, 0), (11, 0), (12, 0), (13, 0), (14, 0), (15, 0), (16, 0), (17, 0), (18, 0), (19, 0), (20, 0), (21, 0), (22, 0), (23, 0), (24, 0), (25, 0), (26, 0), (27, 0), (28, 0), (29, 0), (30, 0), (31, 0), (32, 0), (33, 0), (34, 0), (35, 0), (36, 0), (37, 0), (38, 0), (39, 0), (40, 0), (41, 0), (42, 0), (43, 0), (44, 0), (45, 0), (46, 0), (47, 0), (48, 0), (49, 0)]),
  (66003, [(0, 0), (1, 0), (2, 0), (3, 0), (4, 0), (5, 0), (6, 0), (7, 0), (8, 0), (9, 0), (10, 0), (11, 0), (12, 0), (13, 0), (14, 0), (15, 0), (16, 0), (17, 0), (18, 0), (19, 0), (20, 0), (21, 0)]),
  (68009, [(0, 0), (1, 0), (2, 0), (3, 0), (4, 0), (5, 0), (6, 0), (7, 0), (9, 0), (8, 1), (10, 1), (11, 1), (12, 0), (13, 0)]),
  (69005, [(0, 0), (1, 0), (2, 0), (3, 0), (4, 0), (5, 0), (6, 1), (7, 0)]),
  (69008, [(0, 0), (1, 0), (2, 0), (3, 0), (4, 0), (5, 0), (6, 0), (7, 0), (8, 0), (9, 0), (10, 0), (11, 1), (12, 0), (13, 0), (14, 0), (15, 0)]),
  (71001, [(0, 0), (2, 0), (1, 1), (3, 1), (4, 0)]),
  (73011, [(0, 0), (1, 0), (2, 0), (3, 0), (4, 0), (5, 0), (6, 0), (7, 0), (8, 2)]),
  (73015, [(0, 0), (1, 0), (2, 0), (3, 0), (4, 0), (5, 0), (6, 0), (7, 0), (8, 2)]),
  (74005, [(0, 0), (1, 0), (2, 0), (3, 0), (4, 0), (5, 0), (6, 2), (7, 2)]),
  (75009, [(0, 0), (1, 0), (2, 0), (3, 0), (4, 0), (5, 0), (6, 0), (7, 0), (8, 0), (9, 0), (10, 1), (11, 0), (12, 0)]),
  (76004, [(0, 0), (1, 0), (2, 0), (3, 0), (4, 0), (5, 0), (6, 0), (7, 0), (8, 0), (9, 0), (10, 0), (11, 0), (12, 0), (13, 0), (14, 0), (15, 0), (16, 0), (17, 0), (18, 0), (19, 0), (20, 0)]),
  (85005, [(0, 0), (1, 0), (2, 0), (3, 0), (4, 0), (5, 0), (6, 0), (7, 0), (8, 0), (9, 0), (10, 0), (11, 0), (12, 2)]),
  (89010, [(0, 0), (1, 0), (2, 0), (3, 0), (4, 0), (5, 0), (6, 0), (7, 0), (8, 0), (9, 0), (10, 1), (11, 0), (12, 2)]),
  (91006, [(0, 0), (1, 0), (2, 0), (3, 0), (4, 0), (5, 0), (6, 0), (7, 0), (8, 1), (9, 0)]),
  (92006, [(0, 0), (1, 0), (2, 0), (3, 0), (4, 0), (5, 0), (6, 0), (7, 0), (8, 0)]),
  (93006, [(0, 0), (1, 0), (2, 0), (3, 0), (4, 0), (5, 0), (6, 0), (7, 0), (8, 1), (9, 0)]),
  (100009, [(0, 0), (1, 0), (2, 0), (3, 0), (4, 0), (5, 0), (6, 0), (7, 0), (8, 0), (9, 0), (10, 0), (11, 0), (12, 0), (13, 0), (14, 0)]),
  (103007, [(0, 0), (1, 0), (2, 0), (3, 1), (4, 1), (5, 0)]),
  (103025, [(0, 0), (1, 0), (2, 0), (3, 0), (4, 0), (5, 1)]),
  (107004, [(0, 0), (1, 0), (2, 0), (3, 0), (4, 1)]),
  (111005, [(0, 0), (1, 0), (2, 0), (3, 0), (4, 0), (5, 0), (6, 0), (7, 0), (8, 0), (9, 0), (10, 0), (11, 0), (12, 1), (13, 2), (14, 2)]),
  (111020, [(0, 0), (1, 0), (2, 0), (3, 0), (4, 0), (5, 0), (6, 0), (7, 0), (8, 0), (9, 0)]),
  (119001, [(0, 0), (1, 0), (2, 0), (3, 0), (4, 0), (5, 0), (6, 0), (7, 0), (8, 0), (9, 0), (10, 0), (11, 0), (12, 0), (13, 0), (14, 0), (15, 0), (16, 0), (17, 0), (18, 0), (19, 0), (20, 0), (21, 0), (22, 0), (23, 0), (24, 0), (25, 0), (26, 0), (27, 0), (28, 0), (29, 0), (30, 0), (31, 0)]),
  (121005, [(0, 0), (1, 0), (4, 3), (5, 3), (6, 3), (2, 1), (3, 2), (7, 2), (8, 2)]),
  (122005, [(0, 0), (1, 0), (2, 0), (3, 0), (4, 0), (5, 0), (6, 1), (7, 0)]),
  (122008, [(0, 0), (1, 0), (2, 0), (3, 0), (4, 0), (5, 0), (6, 0), (7, 0), (8, 0), (9, 0), (10, 0), (11, 1), (12, 0), (13, 0), (14, 0), (15, 0)]),
  (124002, [(0, 0), (1, 0), (2, 0), (3, 0), (4, 0), (5, 0), (6, 0), (7, 0), (8, 0), (9, 0), (10, 0), (11, 0)]),
  (124003, [(0, 0), (1, 0), (2, 0), (3, 0), (4, 0), (5, 0), (6, 0), (7, 0), (8, 0), (9, 0), (10, 0), (11, 0)]),
  (130009, [(0, 0), (1, 0), (2, 0), (3, 0), (4, 0), (5, 0), (6, 0), (7, 0), (8, 0), (9, 0), (10, 0), (11, 0), (12, 0), (13, 0), (14, 0), (15, 0), (16, 0), (17, 0), (18, 0), (19, 0), (20, 0), (21, 0), (22, 0), (23, 0)]),
  (138005, [(0, 0), (1, 0), (2, 0), (3, 0), (4, 0), (5, 0), (6, 2)]),
  (147006, [(0, 0), (1, 0), (2, 0), (3, 0), (4, 0), (5, 0), (6, 0), (7, 0), (8, 0), (9, 0), (10, 0), (11, 0), (12, 1), (13, 0), (14, 0), (15, 0), (16, 0), (17, 0), (18, 0), (19, 0), (20, 0), (21, 0), (22, 0), (23, 0), (24, 0), (25, 0), (26, 0), (27, 0), (28, 0), (29, 0), (30, 0), (31, 0), (32, 0), (33, 0), (34, 0), (35, 0)]),
  (147016, [(0, 0), (1, 0), (2, 0), (3, 0), (4, 0), (5, 0), (6, 0), (7, 0), (8, 0), (9, 0), (10, 0), (11, 0), (12, 0), (13, 0), (14, 0)]),
  (148007, [(0, 0), (1, 0), (2, 0), (3, 0), (4, 0), (5, 0), (6, 0), (7, 0), (8, 0), (10, 0), (11, 0), (12, 0), (13, 0), (14, 0), (9, 1), (15, 0)]),
  (154001, [(0, 0), (3, 0), (1, 1), (2, 0), (4, 1), (5, 0), (6, 0), (7, 2)]),
  (155006, [(0, 0), (1, 0), (2, 0), (3, 0), (4, 0), (5, 0), (6, 0), (7, 0), (8, 1), (9, 0)]),
  (156006, [(0, 0), (1, 0), (2, 0), (3, 0), (4, 0), (5, 0), (6, 0), (7, 0), (8, 0)]),
  (157006, [(0, 0), (1, 0), (2, 0), (3, 0), (4, 0), (5, 0), (6, 0), (7, 0), (8, 1), (9, 0)]),
  (158004, [(0, 0), (1, 0), (2, 0), (3, 0), (4, 0), (5, 0), (6, 0), (7, 0), (8, 0)]),
  (164004, [(0, 0), (1, 0), (2, 0), (3, 0), (4, 0), (5, 0)]),
  (167003, [(0, 0), (1, 0), (4, 0), (5, 0), (6, 0), (7, 0), (8, 0), (9, 0), (10, 0), (11, 0), (12, 0), (2, 3), (3, 3), (13, 2), (14, 2), (15, 2)])]
def modeTab : List (Nat × Nat) := [(3013, 1),
  (3016, 3),
  (3021, 3),
  (3027, 3),
  (3035, 3),
  (3038, 3),
  (3042, 3),
  (3045, 3),
  (3050, 3),
  (3058, 1),
  (3074, 1),
  (3083, 1),
  (3091, 3),
  (3100, 3),
  (3102, 1),
  (4013, 1),
  (4016, 3),
  (4021, 3),
  (4027, 3),
  (4057, 3),
  (4096, 3),
  (4100, 3),
  (4104, 3),
  (4118, 1),
  (4125, 3),
  (4127, 1),
  (5016, 1),
  (5021, 1),
  (5025, 3),
  (5027, 3),
  (5028, 3),
  (5030, 2),
  (5032, 2),
  (5035, 2),
  (5038, 1),
  (5042, 3),
  (5043, 1),
  (5047, 3),
  (5048, 1),
  (5061, 1),
  (5069, 1),
  (5076, 3),
  (5078, 3),
  (5079, 3),
  (5082, 1),
  (5086, 1),
  (6009, 1),
  (6013, 3),
  (6014, 1),
  (6016, 3),
  (6018, 1),
  (6024, 3),
  (6025, 1),
  (7011, 1),
  (7015, 3),
  (7017, 1),
  (7018, 1),
  (7020, 3),
  (7023, 1),
  (7024, 1),
  (7027, 1),
  (7031, 3),
  (7032, 1),
  (8012, 1),
  (8017, 1),
  (8021, 3),
  (8023, 3),
  (8024, 1),
  (8026, 3),
  (8028, 3),
  (8031, 1),
  (8034, 1),
  (8038, 3),
  (8039, 1),
  (8043, 3),
  (8044, 1),
  (10008, 2),
  (11008, 1),
  (11014, 1),
  (11021, 3),
  (12008, 1),
  (12014, 1),
  (12021, 3),
  (13011, 1),
  (13025, 1),
  (13032, 1),
  (13037, 2),
  (14017, 1),
  (14024, 3),
  (15008, 2),
  (15014, 2),
  (17012, 1),
  (17029, 1),
  (17039, 2),
  (18010, 2),
  (18016, 3),
  (19012, 1),
  (19018, 1),
  (19026, 1),
  (19027, 1),
  (19031, 2),
  (20010, 1),
  (20015, 1),
  (20023, 3),
  (22023, 1),
  (23008, 1),
  (24012, 3),
  (24025, 3),
  (24026, 1),
  (24030, 3),
  (24032, 2),
  (24036, 1),
  (24045, 3),
  (24049, 3),
  (24056, 2),
  (24072, 2),
  (25020, 2),
  (26015, 2),
  (27026, 1),
  (27034, 2),
  (27042, 2),
  (28014, 1),
  (28020, 1),
  (29025, 1),
  (30024, 1),
  (34008, 1),
  (34014, 1),
  (35023, 1),
  (36004, 1),
  (37020, 3),
  (38023, 1),
  (38039, 1),
  (38066, 1),
  (39025, 1),
  (40007, 1),
  (40012, 1),
  (40017, 1),
  (42007, 1),
  (42016, 1),
  (42021, 1),
  (44023, 1),
  (45008, 1),
  (45014, 1),
  (45022, 1),
  (46020, 1),
  (47008, 1),
  (47014, 1),
  (47021, 2),
  (48025, 1),
  (53017, 1),
  (53030, 1),
  (54022, 1),
  (55017, 1),
  (55031, 1),
  (56032, 1),
  (56039, 2),
  (56058, 1),
  (56070, 1),
  (58024, 1),
  (58032, 1),
  (58040, 1),
  (59010, 1),
  (59011, 1),
  (60011, 1),
  (60012, 1),
  (61005, 1),
  (63020, 1),
  (63024, 3),
  (65061, 1),
  (65072, 1),
  (66013, 1),
  (66019, 1),
  (66068, 2),
  (68017, 1),
  (68029, 1),
  (68031, 1),
  (68032, 1),
  (69030, 1),
  (69046, 1),
  (71006, 1),
  (71008, 1),
  (73067, 1),
  (75017, 1),
  (75031, 1),
  (76005, 1),
  (77024, 1),
  (77030, 1),
  (77032, 1),
  (79023, 1),
  (81008, 1),
  (81015, 1),
  (81057, 1),
  (81065, 1),
  (81072, 1),
  (81078, 1),
  (82017, 2),
  (83004, 1),
  (85008, 2),
  (87020, 2),
  (88006, 1),
  (88011, 1),
  (88041, 1),
  (88047, 1),
  (88052, 1),
  (88058, 1),
  (89009, 1),
  (89021, 2),
  (89028, 2),
  (89041, 2),
  (90014, 2),
  (91025, 1),
  (93025, 1),
  (97027, 1),
  (98017, 1),
  (99008, 1),
  (99014, 1),
  (99020, 1),
  (100023, 1),
  (100041, 1),
  (100046, 1),
  (100051, 1),
  (100054, 1),
  (101009, 3),
  (101013, 3),
  (101017, 3),
  (102004, 1),
  (103019, 1),
  (103026, 1),
  (103027, 1),
  (103052, 1),
  (103068, 1),
  (103075, 1),
  (105014, 1),
  (105020, 1),
  (105026, 1),
  (106007, 1),
  (106013, 1),
  (107016, 1),
  (108006, 1),
  (108009, 1),
  (109016, 1),
  (115006, 1),
  (115011, 1),
  (115017, 1),
  (117008, 1),
  (117012, 1),
  (118007, 1),
  (118014, 1),
  (118022, 1),
  (118029, 1),
  (121015, 1),
  (122030, 1),
  (122046, 1),
  (127011, 1),
  (127016, 1),
  (128008, 1),
  (130025, 1),
  (130029, 1),
  (132009, 2),
  (135021, 1),
  (135025, 1),
  (138009, 2),
  (140014, 1),
  (141014, 1),
  (143023, 1),
  (146020, 1),
  (146031, 1),
  (146032, 1),
  (147041, 1),
  (147080, 1),
  (148030, 1),
  (150020, 1),
  (152020, 1),
  (153007, 1),
  (154004, 1),
  (154007, 1),
  (155025, 1),
  (157025, 1),
  (161008, 1),
  (161014, 1),
  (162007, 1),
  (163009, 1),
  (163016, 1),
  (165014, 1),
  (165025, 1)]
def pszTab : List (Nat × List Nat) := [(52, [2, 0]),
  (123, [2, 0]),
  (67, [2]),
  (119, [4, 4]),
  (63, [2]),
  (64, [2]),
  (50, [2]),
  (51, [2, 0]),
  (118, [4]),
  (65, [10]),
  (124, [10]),
  (66, [0, 10]),
  (76, [10]),
  (127, [10, 10]),
  (81, [4]),
  (158, [4, 0]),
  (162, [10]),
  (146, [4]),
  (106, [2]),
  (147, [4])]
def vtTab : List (Nat × VT) := [(2, .one (.i .i64)),
  (3, .one (.i .i64)),
  (4, .one (.b)),
  (5, .one (.i .u8)),
  (9, .one (.s)),
  (25, .tup [([.x], false), ([.x], false)]),
  (29, .agg [.i .i64, .x]),
  (32, .agg [.i .i64, .x]),
  (35, .tup [([.x], false), ([.x], false)]),
  (39, .agg [.i .i64, .i .i64, .i .i64, .s]),
  (41, .agg [.b, .i .i64, .i .i64, .i .i64, .s, .b, .i .i64, .i .i64, .i .i64, .s]),
  (49, .agg [.i .i64, .i .i64, .i .i64, .x]),
  (54, .agg [.i .i64, .x, .x]),
  (59, .agg [.i .i64, .i .i64, .i .i64, .x]),
  (75, .agg [.i .i64, .i .i64]),
  (77, .agg [.i .i64, .i .i64]),
  (79, .agg [.i .i64, .i .i64]),
  (103, .tup [([.x], false), ([.b], false)]),
  (106, .tup [([.i .i64], false), ([.b], false)]),
  (112, .tup [([.x], false), ([.b], false)]),
  (125, .tup [([.x], false), ([.i .i64], false)]),
  (137, .agg [.i .i64, .x, .x, .x]),
  (140, .agg [.i .i64, .x, .x, .x]),
  (151, .agg [.i .i64, .i .i64, .i .i64, .s]),
  (157, .agg [.x, .i .i64]),
  (168, .tup [([.i .i64], false), ([.i .i64], false)]),
  (170, .one (.i .u64)),
  (175, .agg [.i .i64, .x]),
  (178, .agg [.i .i64, .x]),
  (182, .agg [.i .i64, .x]),
  (201, .agg [.b, .i .i64, .i .i64, .i .i64, .s, .b, .i .i64, .i .i64, .i .i64, .s])]
def vfTab : List (Nat × VT) := [(2, .one (.i .i64)),
  (3, .one (.i .i64)),
  (4, .one (.b)),
  (5, .one (.i .u8)),
  (9, .one (.s)),
  (22, .one (.f)),
  (24, .one (.f)),
  (27, .one (.f)),
  (29, .agg [.i .i64, .f]),
  (32, .agg [.i .i64, .f]),
  (39, .agg [.i .i64, .i .i64, .i .i64, .s]),
  (41, .agg [.b, .i .i64, .i .i64, .i .i64, .s, .b, .i .i64, .i .i64, .i .i64, .s]),
  (46, .one (.f)),
  (47, .one (.f)),
  (49, .agg [.i .i64, .i .i64, .i .i64, .f]),
  (52, .one (.f)),
  (54, .agg [.i .i64, .f, .f]),
  (57, .one (.f)),
  (59, .agg [.i .i64, .i .i64, .i .i64, .f]),
  (67, .one (.f)),
  (70, .one (.f)),
  (75, .agg [.i .i64, .i .i64]),
  (77, .agg [.i .i64, .i .i64]),
  (79, .agg [.i .i64, .i .i64]),
  (83, .one (.f)),
  (133, .one (.f)),
  (134, .one (.f)),
  (135, .one (.f)),
  (137, .agg [.i .i64, .f, .f, .f]),
  (138, .one (.f)),
  (140, .agg [.i .i64, .f, .f, .f]),
  (151, .agg [.i .i64, .i .i64, .i .i64, .s]),
  (157, .agg [.f, .i .i64]),
  (167, .one (.f)),
  (170, .one (.i .u64)),
  (175, .agg [.i .i64, .f]),
  (178, .agg [.i .i64, .f]),
  (182, .agg [.i .i64, .f]),
  (201, .agg [.b, .i .i64, .i .i64, .i .i64, .s, .b, .i .i64, .i .i64, .i .i64, .s])]
def rtTab : List (Nat × VT) := [(9, .one (.b)),
  (52, .one (.i .i64)),
  (123, .one (.i .i64)),
  (67, .agg [.i .i64, .i .i64, .i .i64, .s]),
  (120, .one (.i .i64)),
  (119, .one (.b)),
  (121, .one (.f)),
  (63, .one (.f)),
  (64, .agg [.i .i64, .i .i64, .i .i64, .s]),
  (50, .one (.f)),
  (51, .one (.b)),
  (10, .tup [([.f], false), ([.f], false)]),
  (133, .one (.b)),
  (115, .one (.i .i64)),
  (116, .one (.b)),
  (53, .one (.i .i64)),
  (117, .one (.i .i64)),
  (54, .one (.f)),
  (11, .agg [.i .i64, .f]),
  (129, .one (.b)),
  (159, .one (.b)),
  (118, .one (.i .i64)),
  (55, .one (.i .i64)),
  (56, .one (.f)),
  (12, .agg [.i .i64, .f]),
  (57, .one (.f)),
  (58, .one (.i .i64)),
  (70, .agg [.i .i64, .i .i64, .i .i64, .s]),
  (122, .tup [([.i .i64], false), ([.b], false)]),
  (59, .one (.b)),
  (60, .one (.f)),
  (13, .agg [.i .i64, .f]),
  (61, .one (.i .i64)),
  (62, .one (.f)),
  (14, .agg [.i .i64, .f]),
  (15, .tup [([.f], false), ([.f], false)]),
  (16, .one (.b)),
  (65, .one (.i .i64)),
  (124, .tup [([.i .i64], false), ([.i .i64], false)]),
  (66, .tup [([.f], false), ([.b], false)]),
  (17, .agg [.i .i64, .f]),
  (3, .one (.b)),
  (18, .tup [([.f], false), ([.b, .i .i64, .i .i64, .i .i64, .s, .b, .i .i64, .i .i64, .i .i64, .s], true)]),
  (68, .one (.i .i64)),
  (69, .tup [([.i .i64], false), ([.b], false)]),
  (71, .one (.i .i64)),
  (72, .one (.f)),
  (19, .agg [.i .i64, .f]),
  (76, .one (.i .i64)),
  (127, .one (.b)),
  (75, .one (.i .i64)),
  (77, .tup [([.f], false), ([.b], false)]),
  (20, .agg [.i .i64, .f]),
  (21, .one (.b)),
  (78, .one (.i .i64)),
  (22, .one (.i .i64)),
  (128, .one (.i .i64)),
  (79, .one (.i .i64)),
  (23, .one (.i .i64)),
  (80, .agg [.i .i64, .f, .f]),
  (83, .one (.b)),
  (130, .one (.i .i64)),
  (81, .one (.i .i64)),
  (131, .one (.f)),
  (82, .one (.f)),
  (84, .one (.f)),
  (85, .one (.f)),
  (24, .agg [.i .i64, .f, .f]),
  (86, .one (.f)),
  (25, .one (.f)),
  (132, .agg [.i .i64, .f]),
  (87, .one (.f)),
  (26, .agg [.i .i64, .i .i64, .i .i64, .f]),
  (102, .one (.b)),
  (134, .one (.b)),
  (135, .one (.i .i64)),
  (88, .one (.i .i64)),
  (136, .one (.f)),
  (137, .one (.f)),
  (139, .one (.f)),
  (138, .one (.f)),
  (89, .tup [([.f], false), ([.i .i64], false)]),
  (90, .one (.f)),
  (27, .agg [.i .i64, .f, .f]),
  (92, .one (.b)),
  (29, .one (.b)),
  (140, .one (.b)),
  (91, .one (.b)),
  (28, .one (.b)),
  (141, .one (.b)),
  (93, .one (.b)),
  (30, .one (.b)),
  (94, .one (.i .i64)),
  (31, .one (.i .i64)),
  (95, .one (.i .i64)),
  (32, .one (.i .i64)),
  (96, .one (.i .i64)),
  (33, .one (.i .i64)),
  (142, .one (.i .i64)),
  (97, .one (.i .i64)),
  (98, .one (.i .i64)),
  (34, .one (.i .i64)),
  (5, .one (.b)),
  (110, .one (.i .i64)),
  (161, .one (.i .i64)),
  (143, .one (.i .i64)),
  (144, .one (.i .i64)),
  (145, .one (.i .i64)),
  (99, .one (.i .i64)),
  (35, .one (.i .i64)),
  (158, .one (.b)),
  (162, .agg [.i .i64, .i .i64]),
  (146, .one (.i .i64)),
  (106, .one (.b)),
  (147, .one (.i .i64)),
  (107, .one (.i .i64)),
  (148, .one (.b)),
  (149, .one (.i .i64)),
  (100, .one (.i .i64)),
  (36, .one (.i .i64)),
  (112, .agg [.i .i64, .i .i64, .i .i64, .s]),
  (163, .agg [.b, .i .i64, .i .i64, .i .i64, .s, .b, .i .i64, .i .i64, .i .i64, .s]),
  (150, .one (.f)),
  (151, .one (.f)),
  (41, .agg [.i .i64, .i .i64]),
  (152, .one (.f)),
  (101, .agg [.i .i64, .f, .f, .f]),
  (37, .one (.f)),
  (108, .one (.b)),
  (164, .one (.i .i64)),
  (153, .one (.b)),
  (154, .agg [.i .i64, .i .i64]),
  (103, .one (.i .i64)),
  (104, .one (.i .i64)),
  (38, .one (.i .i64)),
  (114, .one (.b)),
  (165, .one (.b)),
  (155, .one (.b)),
  (156, .one (.b)),
  (166, .one (.b)),
  (157, .one (.b)),
  (105, .one (.b)),
  (39, .one (.b)),
  (6, .one (.b)),
  (40, .agg [.i .i64, .i .i64]),
  (109, .one (.i .i64)),
  (42, .agg [.i .i64, .i .i64]),
  (43, .one (.b)),
  (7, .one (.b)),
  (44, .one (.i .i64)),
  (111, .one (.i .i64)),
  (45, .agg [.i .i64, .i .i64]),
  (46, .one (.f)),
  (47, .agg [.i .i64, .i .i64]),
  (48, .one (.b)),
  (8, .one (.b))]
def stTab : List (Nat × VT) := [(121000, .one (.f)),
  (121005, .one (.i .i64)),
  (159000, .one (.s)),
  (56000, .one (.f)),
  (56001, .one (.f)),
  (122000, .one (.f)),
  (122008, .one (.i .i64)),
  (122009, .one (.i .i64)),
  (14000, .one (.f)),
  (69000, .one (.f)),
  (69008, .one (.i .i64)),
  (69009, .one (.i .i64)),
  (77007, .one (.b)),
  (22001, .one (.i .i64)),
  (79001, .one (.i .i64)),
  (24000, .one (.f)),
  (27000, .one (.f)),
  (94001, .one (.i .i64)),
  (31001, .one (.i .i64)),
  (95001, .one (.i .i64)),
  (96001, .one (.i .i64)),
  (142001, .one (.i .i64)),
  (97001, .one (.i .i64)),
  (98001, .one (.i .i64)),
  (143001, .one (.i .i64)),
  (35001, .one (.i .i64)),
  (147004, .one (.i .i64)),
  (148000, .one (.f)),
  (148003, .one (.i .i64)),
  (149003, .one (.i .i64)),
  (100000, .one (.f)),
  (104003, .one (.i .i64)),
  (38000, .one (.f)),
  (38045, .one (.f)),
  (38046, .one (.i .i64)),
  (38047, .one (.i .i64)),
  (44001, .one (.i .i64)),
  (111001, .one (.f)),
  (111010, .one (.i .i64)),
  (111011, .one (.i .i64)),
  (111012, .one (.b)),
  (113001, .one (.f)),
  (113026, .one (.f)),
  (113027, .one (.i .i64)),
  (113028, .one (.i .i64))]
noncomputable def Ev : Env where
  fn := tab fnTab
  ty := tab tyTab
  keep := fun f i => (tab keepTab (f * 1000 + i)).getD []
  aft := fun f i => (tab aftTab (f * 1000 + i)).getD []
  sched := fun f i => (tab schedTab (f * 1000 + i)).getD []
  kills := fun f i => (tab killTab (f * 1000 + i)).getD []
  mode := fun f i => (tab modeTab (f * 1000 + i)).getD 0
  psz := fun f => (tab pszTab f).getD []
  vt := fun t => (tab vtTab t).getD .any
  vf := fun t => (tab vfTab t).getD .any
  rt := fun f => (tab rtTab f).getD .any
  st := fun f i => (tab stTab (f * 1000 + i)).getD .any
def fnK {R : Type} (v : V) (k : Nat → List (Nat × Nat) → Option R) : Option R := match v with
  | .s (.fn f caps) => k f caps
  | _ => none
namespace Lp
noncomputable def spec_l6At (id : Nat) (l : List V) (h : H) : Option LOut := loop Ev Fn.spec_l6At Go.Proofs.Try.f120 id (lbody Go.Proofs.Try.f120 id) l h
noncomputable def spec_l6Put (id : Nat) (l : List V) (h : H) : Option LOut := loop Ev Fn.spec_l6Put Go.Proofs.Try.f121 id (lbody Go.Proofs.Try.f121 id) l h
noncomputable def spec_l6DrawRows (id : Nat) (l : List V) (h : H) : Option LOut := loop Ev Fn.spec_l6DrawRows Go.Proofs.Try.f63 id (lbody Go.Proofs.Try.f63 id) l h
noncomputable def impl_RowFault (id : Nat) (l : List V) (h : H) : Option LOut := loop Ev Fn.impl_RowFault Go.Proofs.Try.f115 id (lbody Go.Proofs.Try.f115 id) l h
noncomputable def impl_RowsFault (id : Nat) (l : List V) (h : H) : Option LOut := loop Ev Fn.impl_RowsFault Go.Proofs.Try.f53 id (lbody Go.Proofs.Try.f53 id) l h
noncomputable def impl_between (id : Nat) (l : List V) (h : H) : Option LOut := loop Ev Fn.impl_between Go.Proofs.Try.f54 id (lbody Go.Proofs.Try.f54 id) l h
noncomputable def spec_l1Text (id : Nat) (l : List V) (h : H) : Option LOut := loop Ev Fn.spec_l1Text Go.Proofs.Try.f159 id (lbody Go.Proofs.Try.f159 id) l h
noncomputable def spec_l6Rows (id : Nat) (l : List V) (h : H) : Option LOut := loop Ev Fn.spec_l6Rows Go.Proofs.Try.f55 id (lbody Go.Proofs.Try.f55 id) l h
noncomputable def spec_l6Changes (id : Nat) (l : List V) (h : H) : Option LOut := loop Ev Fn.spec_l6Changes Go.Proofs.Try.f56 id (lbody Go.Proofs.Try.f56 id) l h
noncomputable def slices_BinarySearchFunc_impl_Row_impl_Row_impl_Row (id : Nat) (l : List V) (h : H) : Option LOut := loop Ev Fn.slices_BinarySearchFunc_impl_Row_impl_Row_impl_Row Go.Proofs.Try.f122 id (lbody Go.Proofs.Try.f122 id) l h
noncomputable def impl_ApplyChanges (id : Nat) (l : List V) (h : H) : Option LOut := loop Ev Fn.impl_ApplyChanges Go.Proofs.Try.f13 id (lbody Go.Proofs.Try.f13 id) l h
noncomputable def impl_inverse (id : Nat) (l : List V) (h : H) : Option LOut := loop Ev Fn.impl_inverse Go.Proofs.Try.f62 id (lbody Go.Proofs.Try.f62 id) l h
noncomputable def impl_InverseOf (id : Nat) (l : List V) (h : H) : Option LOut := loop Ev Fn.impl_InverseOf Go.Proofs.Try.f14 id (lbody Go.Proofs.Try.f14 id) l h
noncomputable def laws_lwRows (id : Nat) (l : List V) (h : H) : Option LOut := loop Ev Fn.laws_lwRows Go.Proofs.Try.f16 id (lbody Go.Proofs.Try.f16 id) l h
noncomputable def spec_l6Do (id : Nat) (l : List V) (h : H) : Option LOut := loop Ev Fn.spec_l6Do Go.Proofs.Try.f66 id (lbody Go.Proofs.Try.f66 id) l h
noncomputable def spec_ApplyChanges (id : Nat) (l : List V) (h : H) : Option LOut := loop Ev Fn.spec_ApplyChanges Go.Proofs.Try.f17 id (lbody Go.Proofs.Try.f17 id) l h
noncomputable def impl_foldedFault (id : Nat) (l : List V) (h : H) : Option LOut := loop Ev Fn.impl_foldedFault Go.Proofs.Try.f68 id (lbody Go.Proofs.Try.f68 id) l h
noncomputable def slices_BinarySearchFunc_impl_Change_impl_Change_impl_Row (id : Nat) (l : List V) (h : H) : Option LOut := loop Ev Fn.slices_BinarySearchFunc_impl_Change_impl_Change_impl_Row Go.Proofs.Try.f69 id (lbody Go.Proofs.Try.f69 id) l h
noncomputable def slices_Reverse_impl_Change_impl_Change (id : Nat) (l : List V) (h : H) : Option LOut := loop Ev Fn.slices_Reverse_impl_Change_impl_Change Go.Proofs.Try.f167 id (lbody Go.Proofs.Try.f167 id) l h
noncomputable def spec_l9List (id : Nat) (l : List V) (h : H) : Option LOut := loop Ev Fn.spec_l9List Go.Proofs.Try.f75 id (lbody Go.Proofs.Try.f75 id) l h
noncomputable def spec_l9Fold (id : Nat) (l : List V) (h : H) : Option LOut := loop Ev Fn.spec_l9Fold Go.Proofs.Try.f77 id (lbody Go.Proofs.Try.f77 id) l h
noncomputable def laws_lwChanges (id : Nat) (l : List V) (h : H) : Option LOut := loop Ev Fn.laws_lwChanges Go.Proofs.Try.f21 id (lbody Go.Proofs.Try.f21 id) l h
noncomputable def laws_szByteSS (id : Nat) (l : List V) (h : H) : Option LOut := loop Ev Fn.laws_szByteSS Go.Proofs.Try.f22 id (lbody Go.Proofs.Try.f22 id) l h
noncomputable def laws_szRunS (id : Nat) (l : List V) (h : H) : Option LOut := loop Ev Fn.laws_szRunS Go.Proofs.Try.f79 id (lbody Go.Proofs.Try.f79 id) l h
noncomputable def spec_l3Fault (id : Nat) (l : List V) (h : H) : Option LOut := loop Ev Fn.spec_l3Fault Go.Proofs.Try.f130 id (lbody Go.Proofs.Try.f130 id) l h
noncomputable def spec_l7Copy (id : Nat) (l : List V) (h : H) : Option LOut := loop Ev Fn.spec_l7Copy Go.Proofs.Try.f82 id (lbody Go.Proofs.Try.f82 id) l h
noncomputable def spec_l2New (id : Nat) (l : List V) (h : H) : Option LOut := loop Ev Fn.spec_l2New Go.Proofs.Try.f84 id (lbody Go.Proofs.Try.f84 id) l h
noncomputable def spec_l3Apply (id : Nat) (l : List V) (h : H) : Option LOut := loop Ev Fn.spec_l3Apply Go.Proofs.Try.f85 id (lbody Go.Proofs.Try.f85 id) l h
noncomputable def spec_ApplyRecord (id : Nat) (l : List V) (h : H) : Option LOut := loop Ev Fn.spec_ApplyRecord Go.Proofs.Try.f24 id (lbody Go.Proofs.Try.f24 id) l h
noncomputable def laws_toByteS (id : Nat) (l : List V) (h : H) : Option LOut := loop Ev Fn.laws_toByteS Go.Proofs.Try.f86 id (lbody Go.Proofs.Try.f86 id) l h
noncomputable def laws_toByteSS (id : Nat) (l : List V) (h : H) : Option LOut := loop Ev Fn.laws_toByteSS Go.Proofs.Try.f25 id (lbody Go.Proofs.Try.f25 id) l h
noncomputable def laws_toRunS (id : Nat) (l : List V) (h : H) : Option LOut := loop Ev Fn.laws_toRunS Go.Proofs.Try.f87 id (lbody Go.Proofs.Try.f87 id) l h
noncomputable def impl_RunsFault (id : Nat) (l : List V) (h : H) : Option LOut := loop Ev Fn.impl_RunsFault Go.Proofs.Try.f135 id (lbody Go.Proofs.Try.f135 id) l h
noncomputable def impl_newPage (id : Nat) (l : List V) (h : H) : Option LOut := loop Ev Fn.impl_newPage Go.Proofs.Try.f137 id (lbody Go.Proofs.Try.f137 id) l h
noncomputable def impl_applied (id : Nat) (l : List V) (h : H) : Option LOut := loop Ev Fn.impl_applied Go.Proofs.Try.f138 id (lbody Go.Proofs.Try.f138 id) l h
noncomputable def impl_copies (id : Nat) (l : List V) (h : H) : Option LOut := loop Ev Fn.impl_copies Go.Proofs.Try.f90 id (lbody Go.Proofs.Try.f90 id) l h
noncomputable def impl_ApplyRecord (id : Nat) (l : List V) (h : H) : Option LOut := loop Ev Fn.impl_ApplyRecord Go.Proofs.Try.f27 id (lbody Go.Proofs.Try.f27 id) l h
noncomputable def laws_eqByteS (id : Nat) (l : List V) (h : H) : Option LOut := loop Ev Fn.laws_eqByteS Go.Proofs.Try.f92 id (lbody Go.Proofs.Try.f92 id) l h
noncomputable def laws_eqByteSS (id : Nat) (l : List V) (h : H) : Option LOut := loop Ev Fn.laws_eqByteSS Go.Proofs.Try.f29 id (lbody Go.Proofs.Try.f29 id) l h
noncomputable def laws_eqEditS (id : Nat) (l : List V) (h : H) : Option LOut := loop Ev Fn.laws_eqEditS Go.Proofs.Try.f91 id (lbody Go.Proofs.Try.f91 id) l h
noncomputable def laws_eqRunS (id : Nat) (l : List V) (h : H) : Option LOut := loop Ev Fn.laws_eqRunS Go.Proofs.Try.f93 id (lbody Go.Proofs.Try.f93 id) l h
noncomputable def laws_markByteS (id : Nat) (l : List V) (h : H) : Option LOut := loop Ev Fn.laws_markByteS Go.Proofs.Try.f94 id (lbody Go.Proofs.Try.f94 id) l h
noncomputable def laws_markByteSS (id : Nat) (l : List V) (h : H) : Option LOut := loop Ev Fn.laws_markByteSS Go.Proofs.Try.f31 id (lbody Go.Proofs.Try.f31 id) l h
noncomputable def laws_markRunS (id : Nat) (l : List V) (h : H) : Option LOut := loop Ev Fn.laws_markRunS Go.Proofs.Try.f95 id (lbody Go.Proofs.Try.f95 id) l h
noncomputable def laws_markEditS (id : Nat) (l : List V) (h : H) : Option LOut := loop Ev Fn.laws_markEditS Go.Proofs.Try.f96 id (lbody Go.Proofs.Try.f96 id) l h
noncomputable def laws_heldByteS (id : Nat) (l : List V) (h : H) : Option LOut := loop Ev Fn.laws_heldByteS Go.Proofs.Try.f142 id (lbody Go.Proofs.Try.f142 id) l h
noncomputable def laws_heldEditS (id : Nat) (l : List V) (h : H) : Option LOut := loop Ev Fn.laws_heldEditS Go.Proofs.Try.f97 id (lbody Go.Proofs.Try.f97 id) l h
noncomputable def laws_heldByteSS (id : Nat) (l : List V) (h : H) : Option LOut := loop Ev Fn.laws_heldByteSS Go.Proofs.Try.f98 id (lbody Go.Proofs.Try.f98 id) l h
noncomputable def laws_szChangeS (id : Nat) (l : List V) (h : H) : Option LOut := loop Ev Fn.laws_szChangeS Go.Proofs.Try.f143 id (lbody Go.Proofs.Try.f143 id) l h
noncomputable def laws_szTxS (id : Nat) (l : List V) (h : H) : Option LOut := loop Ev Fn.laws_szTxS Go.Proofs.Try.f35 id (lbody Go.Proofs.Try.f35 id) l h
noncomputable def spec_l10Locks (id : Nat) (l : List V) (h : H) : Option LOut := loop Ev Fn.spec_l10Locks Go.Proofs.Try.f158 id (lbody Go.Proofs.Try.f158 id) l h
noncomputable def spec_l10Undo (id : Nat) (l : List V) (h : H) : Option LOut := loop Ev Fn.spec_l10Undo Go.Proofs.Try.f146 id (lbody Go.Proofs.Try.f146 id) l h
noncomputable def spec_l10Marks (id : Nat) (l : List V) (h : H) : Option LOut := loop Ev Fn.spec_l10Marks Go.Proofs.Try.f147 id (lbody Go.Proofs.Try.f147 id) l h
noncomputable def spec_l10Lock (id : Nat) (l : List V) (h : H) : Option LOut := loop Ev Fn.spec_l10Lock Go.Proofs.Try.f107 id (lbody Go.Proofs.Try.f107 id) l h
noncomputable def spec_l10Apart (id : Nat) (l : List V) (h : H) : Option LOut := loop Ev Fn.spec_l10Apart Go.Proofs.Try.f148 id (lbody Go.Proofs.Try.f148 id) l h
noncomputable def spec_l10Count (id : Nat) (l : List V) (h : H) : Option LOut := loop Ev Fn.spec_l10Count Go.Proofs.Try.f149 id (lbody Go.Proofs.Try.f149 id) l h
noncomputable def spec_l10Fault (id : Nat) (l : List V) (h : H) : Option LOut := loop Ev Fn.spec_l10Fault Go.Proofs.Try.f100 id (lbody Go.Proofs.Try.f100 id) l h
noncomputable def laws_toChangeS (id : Nat) (l : List V) (h : H) : Option LOut := loop Ev Fn.laws_toChangeS Go.Proofs.Try.f150 id (lbody Go.Proofs.Try.f150 id) l h
noncomputable def laws_toInt64S (id : Nat) (l : List V) (h : H) : Option LOut := loop Ev Fn.laws_toInt64S Go.Proofs.Try.f151 id (lbody Go.Proofs.Try.f151 id) l h
noncomputable def laws_toKeyS (id : Nat) (l : List V) (h : H) : Option LOut := loop Ev Fn.laws_toKeyS Go.Proofs.Try.f152 id (lbody Go.Proofs.Try.f152 id) l h
noncomputable def laws_toTxS (id : Nat) (l : List V) (h : H) : Option LOut := loop Ev Fn.laws_toTxS Go.Proofs.Try.f37 id (lbody Go.Proofs.Try.f37 id) l h
noncomputable def slices_Index_impl_Key_impl_Key (id : Nat) (l : List V) (h : H) : Option LOut := loop Ev Fn.slices_Index_impl_Key_impl_Key Go.Proofs.Try.f164 id (lbody Go.Proofs.Try.f164 id) l h
noncomputable def impl_txFault (id : Nat) (l : List V) (h : H) : Option LOut := loop Ev Fn.impl_txFault Go.Proofs.Try.f103 id (lbody Go.Proofs.Try.f103 id) l h
noncomputable def impl_undone (id : Nat) (l : List V) (h : H) : Option LOut := loop Ev Fn.impl_undone Go.Proofs.Try.f104 id (lbody Go.Proofs.Try.f104 id) l h
noncomputable def impl_TxsFault (id : Nat) (l : List V) (h : H) : Option LOut := loop Ev Fn.impl_TxsFault Go.Proofs.Try.f38 id (lbody Go.Proofs.Try.f38 id) l h
noncomputable def laws_eqChangeS (id : Nat) (l : List V) (h : H) : Option LOut := loop Ev Fn.laws_eqChangeS Go.Proofs.Try.f155 id (lbody Go.Proofs.Try.f155 id) l h
noncomputable def laws_eqInt64S (id : Nat) (l : List V) (h : H) : Option LOut := loop Ev Fn.laws_eqInt64S Go.Proofs.Try.f156 id (lbody Go.Proofs.Try.f156 id) l h
noncomputable def laws_eqKeyS (id : Nat) (l : List V) (h : H) : Option LOut := loop Ev Fn.laws_eqKeyS Go.Proofs.Try.f157 id (lbody Go.Proofs.Try.f157 id) l h
noncomputable def laws_eqTxS (id : Nat) (l : List V) (h : H) : Option LOut := loop Ev Fn.laws_eqTxS Go.Proofs.Try.f39 id (lbody Go.Proofs.Try.f39 id) l h
noncomputable def impl_lockOf (id : Nat) (l : List V) (h : H) : Option LOut := loop Ev Fn.impl_lockOf Go.Proofs.Try.f109 id (lbody Go.Proofs.Try.f109 id) l h
noncomputable def laws_szRowS (id : Nat) (l : List V) (h : H) : Option LOut := loop Ev Fn.laws_szRowS Go.Proofs.Try.f44 id (lbody Go.Proofs.Try.f44 id) l h
noncomputable def spec_l10Room (id : Nat) (l : List V) (h : H) : Option LOut := loop Ev Fn.spec_l10Room Go.Proofs.Try.f111 id (lbody Go.Proofs.Try.f111 id) l h
noncomputable def laws_toRowS (id : Nat) (l : List V) (h : H) : Option LOut := loop Ev Fn.laws_toRowS Go.Proofs.Try.f46 id (lbody Go.Proofs.Try.f46 id) l h
noncomputable def impl_keysOf (id : Nat) (l : List V) (h : H) : Option LOut := loop Ev Fn.impl_keysOf Go.Proofs.Try.f113 id (lbody Go.Proofs.Try.f113 id) l h
noncomputable def laws_eqRowS (id : Nat) (l : List V) (h : H) : Option LOut := loop Ev Fn.laws_eqRowS Go.Proofs.Try.f48 id (lbody Go.Proofs.Try.f48 id) l h
end Lp
theorem ty2 : TyOk Go.Proofs.Try.prog 2 ⟨1, 8, [.int .i64 0], false, .int .i64, false⟩ := ⟨by kernel_rfl, by kernel_rfl, ⟨by decide, by rfl⟩, by kernel_rfl, by kernel_rfl, by kernel_rfl⟩
theorem ty3 : TyOk Go.Proofs.Try.prog 3 ⟨1, 8, [.int .i64 0], false, .int .i64, false⟩ := ⟨by kernel_rfl, by kernel_rfl, ⟨by decide, by rfl⟩, by kernel_rfl, by kernel_rfl, by kernel_rfl⟩
theorem ty4 : TyOk Go.Proofs.Try.prog 4 ⟨1, 1, [.bool false], false, .bool, false⟩ := ⟨by kernel_rfl, by kernel_rfl, ⟨by decide, by rfl⟩, by kernel_rfl, by kernel_rfl, by kernel_rfl⟩
theorem ty5 : TyOk Go.Proofs.Try.prog 5 ⟨1, 1, [.int .u8 0], false, .int .u8, false⟩ := ⟨by kernel_rfl, by kernel_rfl, ⟨by decide, by rfl⟩, by kernel_rfl, by kernel_rfl, by kernel_rfl⟩
theorem ty9 : TyOk Go.Proofs.Try.prog 9 ⟨1, 16, [.str ⟨#[]⟩], false, .str, false⟩ := ⟨by kernel_rfl, by kernel_rfl, ⟨by decide, by rfl⟩, by kernel_rfl, by kernel_rfl, by kernel_rfl⟩
theorem ty22 : TyOk Go.Proofs.Try.prog 22 ⟨1, 24, [.sl none 0], false, .sl 5, false⟩ := ⟨by kernel_rfl, by kernel_rfl, ⟨by decide, by rfl⟩, by kernel_rfl, by kernel_rfl, by kernel_rfl⟩
theorem ty24 : TyOk Go.Proofs.Try.prog 24 ⟨1, 24, [.sl none 0], false, .sl 39, false⟩ := ⟨by kernel_rfl, by kernel_rfl, ⟨by decide, by rfl⟩, by kernel_rfl, by kernel_rfl, by kernel_rfl⟩
theorem ty27 : TyOk Go.Proofs.Try.prog 27 ⟨1, 24, [.sl none 0], false, .sl 41, false⟩ := ⟨by kernel_rfl, by kernel_rfl, ⟨by decide, by rfl⟩, by kernel_rfl, by kernel_rfl, by kernel_rfl⟩
theorem ty29 : TyOk Go.Proofs.Try.prog 29 ⟨2, 32, [.int .i64 0, .sl none 0], true, .st [(0, 2), (1, 27)], false⟩ := ⟨by kernel_rfl, by kernel_rfl, ⟨by decide, by rfl⟩, by kernel_rfl, by kernel_rfl, by kernel_rfl⟩
theorem ty32 : TyOk Go.Proofs.Try.prog 32 ⟨2, 32, [.int .i64 0, .sl none 0], true, .st [(0, 2), (1, 24)], false⟩ := ⟨by kernel_rfl, by kernel_rfl, ⟨by decide, by rfl⟩, by kernel_rfl, by kernel_rfl, by kernel_rfl⟩
theorem ty39 : TyOk Go.Proofs.Try.prog 39 ⟨4, 40, [.int .i64 0, .int .i64 0, .int .i64 0, .str ⟨#[]⟩], true, .st [(0, 2), (1, 2), (2, 2), (3, 9)], true⟩ := ⟨by kernel_rfl, by kernel_rfl, ⟨by decide, by rfl⟩, by kernel_rfl, by kernel_rfl, by kernel_rfl⟩
theorem ty41 : TyOk Go.Proofs.Try.prog 41 ⟨10, 96, [.bool false, .int .i64 0, .int .i64 0, .int .i64 0, .str ⟨#[]⟩, .bool false, .int .i64 0, .int .i64 0, .int .i64 0, .str ⟨#[]⟩], true, .st [(0, 4), (1, 39), (5, 4), (6, 39)], true⟩ := ⟨by kernel_rfl, by kernel_rfl, ⟨by decide, by rfl⟩, by kernel_rfl, by kernel_rfl, by kernel_rfl⟩
theorem ty46 : TyOk Go.Proofs.Try.prog 46 ⟨1, 24, [.sl none 0], false, .sl 22, false⟩ := ⟨by kernel_rfl, by kernel_rfl, ⟨by decide, by rfl⟩, by kernel_rfl, by kernel_rfl, by kernel_rfl⟩
theorem ty47 : TyOk Go.Proofs.Try.prog 47 ⟨1, 24, [.sl none 0], false, .sl 175, false⟩ := ⟨by kernel_rfl, by kernel_rfl, ⟨by decide, by rfl⟩, by kernel_rfl, by kernel_rfl, by kernel_rfl⟩
theorem ty49 : TyOk Go.Proofs.Try.prog 49 ⟨4, 48, [.int .i64 0, .int .i64 0, .int .i64 0, .sl none 0], true, .st [(0, 2), (1, 2), (2, 2), (3, 47)], false⟩ := ⟨by kernel_rfl, by kernel_rfl, ⟨by decide, by rfl⟩, by kernel_rfl, by kernel_rfl, by kernel_rfl⟩
theorem ty52 : TyOk Go.Proofs.Try.prog 52 ⟨1, 24, [.sl none 0], false, .sl 182, false⟩ := ⟨by kernel_rfl, by kernel_rfl, ⟨by decide, by rfl⟩, by kernel_rfl, by kernel_rfl, by kernel_rfl⟩
theorem ty54 : TyOk Go.Proofs.Try.prog 54 ⟨3, 56, [.int .i64 0, .sl none 0, .sl none 0], true, .st [(0, 2), (1, 52), (2, 46)], false⟩ := ⟨by kernel_rfl, by kernel_rfl, ⟨by decide, by rfl⟩, by kernel_rfl, by kernel_rfl, by kernel_rfl⟩
theorem ty57 : TyOk Go.Proofs.Try.prog 57 ⟨1, 24, [.sl none 0], false, .sl 178, false⟩ := ⟨by kernel_rfl, by kernel_rfl, ⟨by decide, by rfl⟩, by kernel_rfl, by kernel_rfl, by kernel_rfl⟩
theorem ty59 : TyOk Go.Proofs.Try.prog 59 ⟨4, 48, [.int .i64 0, .int .i64 0, .int .i64 0, .sl none 0], true, .st [(0, 2), (1, 2), (2, 2), (3, 57)], false⟩ := ⟨by kernel_rfl, by kernel_rfl, ⟨by decide, by rfl⟩, by kernel_rfl, by kernel_rfl, by kernel_rfl⟩
theorem ty67 : TyOk Go.Proofs.Try.prog 67 ⟨1, 24, [.sl none 0], false, .sl 137, false⟩ := ⟨by kernel_rfl, by kernel_rfl, ⟨by decide, by rfl⟩, by kernel_rfl, by kernel_rfl, by kernel_rfl⟩
theorem ty70 : TyOk Go.Proofs.Try.prog 70 ⟨1, 24, [.sl none 0], false, .sl 140, false⟩ := ⟨by kernel_rfl, by kernel_rfl, ⟨by decide, by rfl⟩, by kernel_rfl, by kernel_rfl, by kernel_rfl⟩
theorem ty75 : TyOk Go.Proofs.Try.prog 75 ⟨2, 16, [.int .i64 0, .int .i64 0], true, .st [(0, 2), (1, 2)], true⟩ := ⟨by kernel_rfl, by kernel_rfl, ⟨by decide, by rfl⟩, by kernel_rfl, by kernel_rfl, by kernel_rfl⟩
theorem ty77 : TyOk Go.Proofs.Try.prog 77 ⟨2, 16, [.int .i64 0, .int .i64 0], true, .st [(0, 2), (1, 2)], true⟩ := ⟨by kernel_rfl, by kernel_rfl, ⟨by decide, by rfl⟩, by kernel_rfl, by kernel_rfl, by kernel_rfl⟩
theorem ty79 : TyOk Go.Proofs.Try.prog 79 ⟨2, 16, [.int .i64 0, .int .i64 0], true, .st [(0, 2), (1, 2)], true⟩ := ⟨by kernel_rfl, by kernel_rfl, ⟨by decide, by rfl⟩, by kernel_rfl, by kernel_rfl, by kernel_rfl⟩
theorem ty83 : TyOk Go.Proofs.Try.prog 83 ⟨1, 24, [.sl none 0], false, .sl 151, false⟩ := ⟨by kernel_rfl, by kernel_rfl, ⟨by decide, by rfl⟩, by kernel_rfl, by kernel_rfl, by kernel_rfl⟩
theorem ty88 : TyOk Go.Proofs.Try.prog 88 ⟨1, 8, [.ptr none], false, .ptr, false⟩ := ⟨by kernel_rfl, by kernel_rfl, ⟨by decide, by rfl⟩, by kernel_rfl, by kernel_rfl, by kernel_rfl⟩
theorem ty102 : TyOk Go.Proofs.Try.prog 102 ⟨1, 8, [.ptr none], false, .ptr, false⟩ := ⟨by kernel_rfl, by kernel_rfl, ⟨by decide, by rfl⟩, by kernel_rfl, by kernel_rfl, by kernel_rfl⟩
theorem ty109 : TyOk Go.Proofs.Try.prog 109 ⟨1, 8, [.nofn], false, .other, false⟩ := ⟨by kernel_rfl, by kernel_rfl, ⟨by decide, by rfl⟩, by kernel_rfl, by kernel_rfl, by kernel_rfl⟩
theorem ty118 : TyOk Go.Proofs.Try.prog 118 ⟨1, 8, [.ptr none], false, .ptr, false⟩ := ⟨by kernel_rfl, by kernel_rfl, ⟨by decide, by rfl⟩, by kernel_rfl, by kernel_rfl, by kernel_rfl⟩
theorem ty133 : TyOk Go.Proofs.Try.prog 133 ⟨1, 24, [.sl none 0], false, .sl 201, false⟩ := ⟨by kernel_rfl, by kernel_rfl, ⟨by decide, by rfl⟩, by kernel_rfl, by kernel_rfl, by kernel_rfl⟩
theorem ty134 : TyOk Go.Proofs.Try.prog 134 ⟨1, 24, [.sl none 0], false, .sl 2, false⟩ := ⟨by kernel_rfl, by kernel_rfl, ⟨by decide, by rfl⟩, by kernel_rfl, by kernel_rfl, by kernel_rfl⟩
theorem ty135 : TyOk Go.Proofs.Try.prog 135 ⟨1, 24, [.sl none 0], false, .sl 75, false⟩ := ⟨by kernel_rfl, by kernel_rfl, ⟨by decide, by rfl⟩, by kernel_rfl, by kernel_rfl, by kernel_rfl⟩
theorem ty137 : TyOk Go.Proofs.Try.prog 137 ⟨4, 80, [.int .i64 0, .sl none 0, .sl none 0, .sl none 0], true, .st [(0, 2), (1, 133), (2, 134), (3, 135)], false⟩ := ⟨by kernel_rfl, by kernel_rfl, ⟨by decide, by rfl⟩, by kernel_rfl, by kernel_rfl, by kernel_rfl⟩
theorem ty138 : TyOk Go.Proofs.Try.prog 138 ⟨1, 24, [.sl none 0], false, .sl 79, false⟩ := ⟨by kernel_rfl, by kernel_rfl, ⟨by decide, by rfl⟩, by kernel_rfl, by kernel_rfl, by kernel_rfl⟩
theorem ty140 : TyOk Go.Proofs.Try.prog 140 ⟨4, 80, [.int .i64 0, .sl none 0, .sl none 0, .sl none 0], true, .st [(0, 2), (1, 27), (2, 134), (3, 138)], false⟩ := ⟨by kernel_rfl, by kernel_rfl, ⟨by decide, by rfl⟩, by kernel_rfl, by kernel_rfl, by kernel_rfl⟩
theorem ty143 : TyOk Go.Proofs.Try.prog 143 ⟨1, 8, [.mp none], false, .mp 79 4, false⟩ := ⟨by kernel_rfl, by kernel_rfl, ⟨by decide, by rfl⟩, by kernel_rfl, by kernel_rfl, by kernel_rfl⟩
theorem ty147 : TyOk Go.Proofs.Try.prog 147 ⟨1, 8, [.ptr none], false, .ptr, false⟩ := ⟨by kernel_rfl, by kernel_rfl, ⟨by decide, by rfl⟩, by kernel_rfl, by kernel_rfl, by kernel_rfl⟩
theorem ty151 : TyOk Go.Proofs.Try.prog 151 ⟨4, 40, [.int .i64 0, .int .i64 0, .int .i64 0, .str ⟨#[]⟩], true, .st [(0, 2), (1, 2), (2, 2), (3, 9)], true⟩ := ⟨by kernel_rfl, by kernel_rfl, ⟨by decide, by rfl⟩, by kernel_rfl, by kernel_rfl, by kernel_rfl⟩
theorem ty157 : TyOk Go.Proofs.Try.prog 157 ⟨2, 32, [.sl none 0, .int .i64 0], true, .st [(0, 22), (1, 2)], false⟩ := ⟨by kernel_rfl, by kernel_rfl, ⟨by decide, by rfl⟩, by kernel_rfl, by kernel_rfl, by kernel_rfl⟩
theorem ty159 : TyOk Go.Proofs.Try.prog 159 ⟨1, 8, [.nofn], false, .other, false⟩ := ⟨by kernel_rfl, by kernel_rfl, ⟨by decide, by rfl⟩, by kernel_rfl, by kernel_rfl, by kernel_rfl⟩
theorem ty161 : TyOk Go.Proofs.Try.prog 161 ⟨1, 8, [.ptr none], false, .ptr, false⟩ := ⟨by kernel_rfl, by kernel_rfl, ⟨by decide, by rfl⟩, by kernel_rfl, by kernel_rfl, by kernel_rfl⟩
theorem ty167 : TyOk Go.Proofs.Try.prog 167 ⟨1, 24, [.sl none 0], false, .sl 9, false⟩ := ⟨by kernel_rfl, by kernel_rfl, ⟨by decide, by rfl⟩, by kernel_rfl, by kernel_rfl, by kernel_rfl⟩
theorem ty170 : TyOk Go.Proofs.Try.prog 170 ⟨1, 8, [.int .u64 0], false, .int .u64, false⟩ := ⟨by kernel_rfl, by kernel_rfl, ⟨by decide, by rfl⟩, by kernel_rfl, by kernel_rfl, by kernel_rfl⟩
theorem ty175 : TyOk Go.Proofs.Try.prog 175 ⟨2, 32, [.int .i64 0, .sl none 0], true, .st [(0, 2), (1, 22)], false⟩ := ⟨by kernel_rfl, by kernel_rfl, ⟨by decide, by rfl⟩, by kernel_rfl, by kernel_rfl, by kernel_rfl⟩
theorem ty178 : TyOk Go.Proofs.Try.prog 178 ⟨2, 32, [.int .i64 0, .sl none 0], true, .st [(0, 2), (1, 22)], false⟩ := ⟨by kernel_rfl, by kernel_rfl, ⟨by decide, by rfl⟩, by kernel_rfl, by kernel_rfl, by kernel_rfl⟩
theorem ty182 : TyOk Go.Proofs.Try.prog 182 ⟨2, 32, [.int .i64 0, .sl none 0], true, .st [(0, 2), (1, 22)], false⟩ := ⟨by kernel_rfl, by kernel_rfl, ⟨by decide, by rfl⟩, by kernel_rfl, by kernel_rfl, by kernel_rfl⟩
theorem ty187 : TyOk Go.Proofs.Try.prog 187 ⟨1, 8, [.ptr none], false, .ptr, false⟩ := ⟨by kernel_rfl, by kernel_rfl, ⟨by decide, by rfl⟩, by kernel_rfl, by kernel_rfl, by kernel_rfl⟩
theorem ty201 : TyOk Go.Proofs.Try.prog 201 ⟨10, 96, [.bool false, .int .i64 0, .int .i64 0, .int .i64 0, .str ⟨#[]⟩, .bool false, .int .i64 0, .int .i64 0, .int .i64 0, .str ⟨#[]⟩], true, .st [(0, 4), (1, 151), (5, 4), (6, 151)], true⟩ := ⟨by kernel_rfl, by kernel_rfl, ⟨by decide, by rfl⟩, by kernel_rfl, by kernel_rfl, by kernel_rfl⟩
def FnOk (f : Nat) (fn : Func) : Prop := Go.Proofs.Try.prog.funcs[f]? = some fn ∧ (fn.name == "runtime.NumGoroutine") = false ∧ ∀ c, fn.body = some c → wfCode Ev f fn.ntmps c = true
noncomputable def wfB (f : Nat) (fn : Func) : Bool := match fn.body with | none => true | some c => wfCode Ev f fn.ntmps c
theorem FnOk.of {f : Nat} {fn : Func} (h1 : Go.Proofs.Try.prog.funcs[f]? = some fn) (h2 : (fn.name == "runtime.NumGoroutine") = false) (h3 : wfB f fn = true) : FnOk f fn := ⟨h1, h2, fun c hc => by unfold wfB at h3; rw [hc] at h3; exact h3⟩
theorem fok9 : FnOk 9 Go.Proofs.Try.f9 := .of Go.Proofs.Try.func9 (by kernel_rfl) (by kernel_rfl)
theorem fok49 : FnOk 49 Go.Proofs.Try.f49 := .of Go.Proofs.Try.func49 (by kernel_rfl) (by kernel_rfl)
theorem fok52 : FnOk 52 Go.Proofs.Try.f52 := .of Go.Proofs.Try.func52 (by kernel_rfl) (by kernel_rfl)
theorem fok123 : FnOk 123 Go.Proofs.Try.f123 := .of Go.Proofs.Try.func123 (by kernel_rfl) (by kernel_rfl)
theorem fok67 : FnOk 67 Go.Proofs.Try.f67 := .of Go.Proofs.Try.func67 (by kernel_rfl) (by kernel_rfl)
theorem fok120 : FnOk 120 Go.Proofs.Try.f120 := .of Go.Proofs.Try.func120 (by kernel_rfl) (by kernel_rfl)
theorem fok119 : FnOk 119 Go.Proofs.Try.f119 := .of Go.Proofs.Try.func119 (by kernel_rfl) (by kernel_rfl)
theorem fok121 : FnOk 121 Go.Proofs.Try.f121 := .of Go.Proofs.Try.func121 (by kernel_rfl) (by kernel_rfl)
theorem fok63 : FnOk 63 Go.Proofs.Try.f63 := .of Go.Proofs.Try.func63 (by kernel_rfl) (by kernel_rfl)
theorem fok64 : FnOk 64 Go.Proofs.Try.f64 := .of Go.Proofs.Try.func64 (by kernel_rfl) (by kernel_rfl)
theorem fok50 : FnOk 50 Go.Proofs.Try.f50 := .of Go.Proofs.Try.func50 (by kernel_rfl) (by kernel_rfl)
theorem fok51 : FnOk 51 Go.Proofs.Try.f51 := .of Go.Proofs.Try.func51 (by kernel_rfl) (by kernel_rfl)
theorem fok10 : FnOk 10 Go.Proofs.Try.f10 := .of Go.Proofs.Try.func10 (by kernel_rfl) (by kernel_rfl)
theorem fok133 : FnOk 133 Go.Proofs.Try.f133 := .of Go.Proofs.Try.func133 (by kernel_rfl) (by kernel_rfl)
theorem fok115 : FnOk 115 Go.Proofs.Try.f115 := .of Go.Proofs.Try.func115 (by kernel_rfl) (by kernel_rfl)
theorem fok116 : FnOk 116 Go.Proofs.Try.f116 := .of Go.Proofs.Try.func116 (by kernel_rfl) (by kernel_rfl)
theorem fok53 : FnOk 53 Go.Proofs.Try.f53 := .of Go.Proofs.Try.func53 (by kernel_rfl) (by kernel_rfl)
theorem fok117 : FnOk 117 Go.Proofs.Try.f117 := .of Go.Proofs.Try.func117 (by kernel_rfl) (by kernel_rfl)
theorem fok54 : FnOk 54 Go.Proofs.Try.f54 := .of Go.Proofs.Try.func54 (by kernel_rfl) (by kernel_rfl)
theorem fok11 : FnOk 11 Go.Proofs.Try.f11 := .of Go.Proofs.Try.func11 (by kernel_rfl) (by kernel_rfl)
theorem fok129 : FnOk 129 Go.Proofs.Try.f129 := .of Go.Proofs.Try.func129 (by kernel_rfl) (by kernel_rfl)
theorem fok159 : FnOk 159 Go.Proofs.Try.f159 := .of Go.Proofs.Try.func159 (by kernel_rfl) (by kernel_rfl)
theorem fok118 : FnOk 118 Go.Proofs.Try.f118 := .of Go.Proofs.Try.func118 (by kernel_rfl) (by kernel_rfl)
theorem fok55 : FnOk 55 Go.Proofs.Try.f55 := .of Go.Proofs.Try.func55 (by kernel_rfl) (by kernel_rfl)
theorem fok56 : FnOk 56 Go.Proofs.Try.f56 := .of Go.Proofs.Try.func56 (by kernel_rfl) (by kernel_rfl)
theorem fok12 : FnOk 12 Go.Proofs.Try.f12 := .of Go.Proofs.Try.func12 (by kernel_rfl) (by kernel_rfl)
theorem fok57 : FnOk 57 Go.Proofs.Try.f57 := .of Go.Proofs.Try.func57 (by kernel_rfl) (by kernel_rfl)
theorem fok58 : FnOk 58 Go.Proofs.Try.f58 := .of Go.Proofs.Try.func58 (by kernel_rfl) (by kernel_rfl)
theorem fok70 : FnOk 70 Go.Proofs.Try.f70 := .of Go.Proofs.Try.func70 (by kernel_rfl) (by kernel_rfl)
theorem fok122 : FnOk 122 Go.Proofs.Try.f122 := .of Go.Proofs.Try.func122 (by kernel_rfl) (by kernel_rfl)
theorem fok59 : FnOk 59 Go.Proofs.Try.f59 := .of Go.Proofs.Try.func59 (by kernel_rfl) (by kernel_rfl)
theorem fok60 : FnOk 60 Go.Proofs.Try.f60 := .of Go.Proofs.Try.func60 (by kernel_rfl) (by kernel_rfl)
theorem fok13 : FnOk 13 Go.Proofs.Try.f13 := .of Go.Proofs.Try.func13 (by kernel_rfl) (by kernel_rfl)
theorem fok61 : FnOk 61 Go.Proofs.Try.f61 := .of Go.Proofs.Try.func61 (by kernel_rfl) (by kernel_rfl)
theorem fok62 : FnOk 62 Go.Proofs.Try.f62 := .of Go.Proofs.Try.func62 (by kernel_rfl) (by kernel_rfl)
theorem fok14 : FnOk 14 Go.Proofs.Try.f14 := .of Go.Proofs.Try.func14 (by kernel_rfl) (by kernel_rfl)
theorem fok15 : FnOk 15 Go.Proofs.Try.f15 := .of Go.Proofs.Try.func15 (by kernel_rfl) (by kernel_rfl)
theorem fok16 : FnOk 16 Go.Proofs.Try.f16 := .of Go.Proofs.Try.func16 (by kernel_rfl) (by kernel_rfl)
theorem fok65 : FnOk 65 Go.Proofs.Try.f65 := .of Go.Proofs.Try.func65 (by kernel_rfl) (by kernel_rfl)
theorem fok124 : FnOk 124 Go.Proofs.Try.f124 := .of Go.Proofs.Try.func124 (by kernel_rfl) (by kernel_rfl)
theorem fok66 : FnOk 66 Go.Proofs.Try.f66 := .of Go.Proofs.Try.func66 (by kernel_rfl) (by kernel_rfl)
theorem fok17 : FnOk 17 Go.Proofs.Try.f17 := .of Go.Proofs.Try.func17 (by kernel_rfl) (by kernel_rfl)
theorem fok3 : FnOk 3 Go.Proofs.Try.f3 := .of Go.Proofs.Try.func3 (by kernel_rfl) (by kernel_rfl)
theorem fok18 : FnOk 18 Go.Proofs.Try.f18 := .of Go.Proofs.Try.func18 (by kernel_rfl) (by kernel_rfl)
theorem fok68 : FnOk 68 Go.Proofs.Try.f68 := .of Go.Proofs.Try.func68 (by kernel_rfl) (by kernel_rfl)
theorem fok69 : FnOk 69 Go.Proofs.Try.f69 := .of Go.Proofs.Try.func69 (by kernel_rfl) (by kernel_rfl)
theorem fok71 : FnOk 71 Go.Proofs.Try.f71 := .of Go.Proofs.Try.func71 (by kernel_rfl) (by kernel_rfl)
theorem fok72 : FnOk 72 Go.Proofs.Try.f72 := .of Go.Proofs.Try.func72 (by kernel_rfl) (by kernel_rfl)
theorem fok167 : FnOk 167 Go.Proofs.Try.f167 := .of Go.Proofs.Try.func167 (by kernel_rfl) (by kernel_rfl)
theorem fok160 : FnOk 160 Go.Proofs.Try.f160 := .of Go.Proofs.Try.func160 (by kernel_rfl) (by kernel_rfl)
theorem fok126 : FnOk 126 Go.Proofs.Try.f126 := .of Go.Proofs.Try.func126 (by kernel_rfl) (by kernel_rfl)
theorem fok19 : FnOk 19 Go.Proofs.Try.f19 := .of Go.Proofs.Try.func19 (by kernel_rfl) (by kernel_rfl)
theorem fok76 : FnOk 76 Go.Proofs.Try.f76 := .of Go.Proofs.Try.func76 (by kernel_rfl) (by kernel_rfl)
theorem fok127 : FnOk 127 Go.Proofs.Try.f127 := .of Go.Proofs.Try.func127 (by kernel_rfl) (by kernel_rfl)
theorem fok75 : FnOk 75 Go.Proofs.Try.f75 := .of Go.Proofs.Try.func75 (by kernel_rfl) (by kernel_rfl)
theorem fok77 : FnOk 77 Go.Proofs.Try.f77 := .of Go.Proofs.Try.func77 (by kernel_rfl) (by kernel_rfl)
theorem fok20 : FnOk 20 Go.Proofs.Try.f20 := .of Go.Proofs.Try.func20 (by kernel_rfl) (by kernel_rfl)
theorem fok21 : FnOk 21 Go.Proofs.Try.f21 := .of Go.Proofs.Try.func21 (by kernel_rfl) (by kernel_rfl)
theorem fok78 : FnOk 78 Go.Proofs.Try.f78 := .of Go.Proofs.Try.func78 (by kernel_rfl) (by kernel_rfl)
theorem fok22 : FnOk 22 Go.Proofs.Try.f22 := .of Go.Proofs.Try.func22 (by kernel_rfl) (by kernel_rfl)
theorem fok128 : FnOk 128 Go.Proofs.Try.f128 := .of Go.Proofs.Try.func128 (by kernel_rfl) (by kernel_rfl)
theorem fok79 : FnOk 79 Go.Proofs.Try.f79 := .of Go.Proofs.Try.func79 (by kernel_rfl) (by kernel_rfl)
theorem fok23 : FnOk 23 Go.Proofs.Try.f23 := .of Go.Proofs.Try.func23 (by kernel_rfl) (by kernel_rfl)
theorem fok80 : FnOk 80 Go.Proofs.Try.f80 := .of Go.Proofs.Try.func80 (by kernel_rfl) (by kernel_rfl)
theorem fok83 : FnOk 83 Go.Proofs.Try.f83 := .of Go.Proofs.Try.func83 (by kernel_rfl) (by kernel_rfl)
theorem fok130 : FnOk 130 Go.Proofs.Try.f130 := .of Go.Proofs.Try.func130 (by kernel_rfl) (by kernel_rfl)
theorem fok81 : FnOk 81 Go.Proofs.Try.f81 := .of Go.Proofs.Try.func81 (by kernel_rfl) (by kernel_rfl)
theorem fok131 : FnOk 131 Go.Proofs.Try.f131 := .of Go.Proofs.Try.func131 (by kernel_rfl) (by kernel_rfl)
theorem fok82 : FnOk 82 Go.Proofs.Try.f82 := .of Go.Proofs.Try.func82 (by kernel_rfl) (by kernel_rfl)
theorem fok84 : FnOk 84 Go.Proofs.Try.f84 := .of Go.Proofs.Try.func84 (by kernel_rfl) (by kernel_rfl)
theorem fok85 : FnOk 85 Go.Proofs.Try.f85 := .of Go.Proofs.Try.func85 (by kernel_rfl) (by kernel_rfl)
theorem fok24 : FnOk 24 Go.Proofs.Try.f24 := .of Go.Proofs.Try.func24 (by kernel_rfl) (by kernel_rfl)
theorem fok86 : FnOk 86 Go.Proofs.Try.f86 := .of Go.Proofs.Try.func86 (by kernel_rfl) (by kernel_rfl)
theorem fok25 : FnOk 25 Go.Proofs.Try.f25 := .of Go.Proofs.Try.func25 (by kernel_rfl) (by kernel_rfl)
theorem fok132 : FnOk 132 Go.Proofs.Try.f132 := .of Go.Proofs.Try.func132 (by kernel_rfl) (by kernel_rfl)
theorem fok87 : FnOk 87 Go.Proofs.Try.f87 := .of Go.Proofs.Try.func87 (by kernel_rfl) (by kernel_rfl)
theorem fok26 : FnOk 26 Go.Proofs.Try.f26 := .of Go.Proofs.Try.func26 (by kernel_rfl) (by kernel_rfl)
theorem fok102 : FnOk 102 Go.Proofs.Try.f102 := .of Go.Proofs.Try.func102 (by kernel_rfl) (by kernel_rfl)
theorem fok134 : FnOk 134 Go.Proofs.Try.f134 := .of Go.Proofs.Try.func134 (by kernel_rfl) (by kernel_rfl)
theorem fok135 : FnOk 135 Go.Proofs.Try.f135 := .of Go.Proofs.Try.func135 (by kernel_rfl) (by kernel_rfl)
theorem fok88 : FnOk 88 Go.Proofs.Try.f88 := .of Go.Proofs.Try.func88 (by kernel_rfl) (by kernel_rfl)
theorem fok136 : FnOk 136 Go.Proofs.Try.f136 := .of Go.Proofs.Try.func136 (by kernel_rfl) (by kernel_rfl)
theorem fok137 : FnOk 137 Go.Proofs.Try.f137 := .of Go.Proofs.Try.func137 (by kernel_rfl) (by kernel_rfl)
theorem fok139 : FnOk 139 Go.Proofs.Try.f139 := .of Go.Proofs.Try.func139 (by kernel_rfl) (by kernel_rfl)
theorem fok138 : FnOk 138 Go.Proofs.Try.f138 := .of Go.Proofs.Try.func138 (by kernel_rfl) (by kernel_rfl)
theorem fok89 : FnOk 89 Go.Proofs.Try.f89 := .of Go.Proofs.Try.func89 (by kernel_rfl) (by kernel_rfl)
theorem fok90 : FnOk 90 Go.Proofs.Try.f90 := .of Go.Proofs.Try.func90 (by kernel_rfl) (by kernel_rfl)
theorem fok27 : FnOk 27 Go.Proofs.Try.f27 := .of Go.Proofs.Try.func27 (by kernel_rfl) (by kernel_rfl)
theorem fok92 : FnOk 92 Go.Proofs.Try.f92 := .of Go.Proofs.Try.func92 (by kernel_rfl) (by kernel_rfl)
theorem fok29 : FnOk 29 Go.Proofs.Try.f29 := .of Go.Proofs.Try.func29 (by kernel_rfl) (by kernel_rfl)
theorem fok140 : FnOk 140 Go.Proofs.Try.f140 := .of Go.Proofs.Try.func140 (by kernel_rfl) (by kernel_rfl)
theorem fok91 : FnOk 91 Go.Proofs.Try.f91 := .of Go.Proofs.Try.func91 (by kernel_rfl) (by kernel_rfl)
theorem fok28 : FnOk 28 Go.Proofs.Try.f28 := .of Go.Proofs.Try.func28 (by kernel_rfl) (by kernel_rfl)
theorem fok141 : FnOk 141 Go.Proofs.Try.f141 := .of Go.Proofs.Try.func141 (by kernel_rfl) (by kernel_rfl)
theorem fok93 : FnOk 93 Go.Proofs.Try.f93 := .of Go.Proofs.Try.func93 (by kernel_rfl) (by kernel_rfl)
theorem fok30 : FnOk 30 Go.Proofs.Try.f30 := .of Go.Proofs.Try.func30 (by kernel_rfl) (by kernel_rfl)
theorem fok94 : FnOk 94 Go.Proofs.Try.f94 := .of Go.Proofs.Try.func94 (by kernel_rfl) (by kernel_rfl)
theorem fok31 : FnOk 31 Go.Proofs.Try.f31 := .of Go.Proofs.Try.func31 (by kernel_rfl) (by kernel_rfl)
theorem fok95 : FnOk 95 Go.Proofs.Try.f95 := .of Go.Proofs.Try.func95 (by kernel_rfl) (by kernel_rfl)
theorem fok32 : FnOk 32 Go.Proofs.Try.f32 := .of Go.Proofs.Try.func32 (by kernel_rfl) (by kernel_rfl)
theorem fok96 : FnOk 96 Go.Proofs.Try.f96 := .of Go.Proofs.Try.func96 (by kernel_rfl) (by kernel_rfl)
theorem fok33 : FnOk 33 Go.Proofs.Try.f33 := .of Go.Proofs.Try.func33 (by kernel_rfl) (by kernel_rfl)
theorem fok142 : FnOk 142 Go.Proofs.Try.f142 := .of Go.Proofs.Try.func142 (by kernel_rfl) (by kernel_rfl)
theorem fok97 : FnOk 97 Go.Proofs.Try.f97 := .of Go.Proofs.Try.func97 (by kernel_rfl) (by kernel_rfl)
theorem fok98 : FnOk 98 Go.Proofs.Try.f98 := .of Go.Proofs.Try.func98 (by kernel_rfl) (by kernel_rfl)
theorem fok34 : FnOk 34 Go.Proofs.Try.f34 := .of Go.Proofs.Try.func34 (by kernel_rfl) (by kernel_rfl)
theorem fok5 : FnOk 5 Go.Proofs.Try.f5 := .of Go.Proofs.Try.func5 (by kernel_rfl) (by kernel_rfl)
theorem fok110 : FnOk 110 Go.Proofs.Try.f110 := .of Go.Proofs.Try.func110 (by kernel_rfl) (by kernel_rfl)
theorem fok161 : FnOk 161 Go.Proofs.Try.f161 := .of Go.Proofs.Try.func161 (by kernel_rfl) (by kernel_rfl)
theorem fok143 : FnOk 143 Go.Proofs.Try.f143 := .of Go.Proofs.Try.func143 (by kernel_rfl) (by kernel_rfl)
theorem fok144 : FnOk 144 Go.Proofs.Try.f144 := .of Go.Proofs.Try.func144 (by kernel_rfl) (by kernel_rfl)
theorem fok145 : FnOk 145 Go.Proofs.Try.f145 := .of Go.Proofs.Try.func145 (by kernel_rfl) (by kernel_rfl)
theorem fok99 : FnOk 99 Go.Proofs.Try.f99 := .of Go.Proofs.Try.func99 (by kernel_rfl) (by kernel_rfl)
theorem fok35 : FnOk 35 Go.Proofs.Try.f35 := .of Go.Proofs.Try.func35 (by kernel_rfl) (by kernel_rfl)
theorem fok158 : FnOk 158 Go.Proofs.Try.f158 := .of Go.Proofs.Try.func158 (by kernel_rfl) (by kernel_rfl)
theorem fok162 : FnOk 162 Go.Proofs.Try.f162 := .of Go.Proofs.Try.func162 (by kernel_rfl) (by kernel_rfl)
theorem fok146 : FnOk 146 Go.Proofs.Try.f146 := .of Go.Proofs.Try.func146 (by kernel_rfl) (by kernel_rfl)
theorem fok106 : FnOk 106 Go.Proofs.Try.f106 := .of Go.Proofs.Try.func106 (by kernel_rfl) (by kernel_rfl)
theorem fok147 : FnOk 147 Go.Proofs.Try.f147 := .of Go.Proofs.Try.func147 (by kernel_rfl) (by kernel_rfl)
theorem fok107 : FnOk 107 Go.Proofs.Try.f107 := .of Go.Proofs.Try.func107 (by kernel_rfl) (by kernel_rfl)
theorem fok148 : FnOk 148 Go.Proofs.Try.f148 := .of Go.Proofs.Try.func148 (by kernel_rfl) (by kernel_rfl)
theorem fok149 : FnOk 149 Go.Proofs.Try.f149 := .of Go.Proofs.Try.func149 (by kernel_rfl) (by kernel_rfl)
theorem fok100 : FnOk 100 Go.Proofs.Try.f100 := .of Go.Proofs.Try.func100 (by kernel_rfl) (by kernel_rfl)
theorem fok36 : FnOk 36 Go.Proofs.Try.f36 := .of Go.Proofs.Try.func36 (by kernel_rfl) (by kernel_rfl)
theorem fok112 : FnOk 112 Go.Proofs.Try.f112 := .of Go.Proofs.Try.func112 (by kernel_rfl) (by kernel_rfl)
theorem fok163 : FnOk 163 Go.Proofs.Try.f163 := .of Go.Proofs.Try.func163 (by kernel_rfl) (by kernel_rfl)
theorem fok150 : FnOk 150 Go.Proofs.Try.f150 := .of Go.Proofs.Try.func150 (by kernel_rfl) (by kernel_rfl)
theorem fok151 : FnOk 151 Go.Proofs.Try.f151 := .of Go.Proofs.Try.func151 (by kernel_rfl) (by kernel_rfl)
theorem fok41 : FnOk 41 Go.Proofs.Try.f41 := .of Go.Proofs.Try.func41 (by kernel_rfl) (by kernel_rfl)
theorem fok152 : FnOk 152 Go.Proofs.Try.f152 := .of Go.Proofs.Try.func152 (by kernel_rfl) (by kernel_rfl)
theorem fok101 : FnOk 101 Go.Proofs.Try.f101 := .of Go.Proofs.Try.func101 (by kernel_rfl) (by kernel_rfl)
theorem fok37 : FnOk 37 Go.Proofs.Try.f37 := .of Go.Proofs.Try.func37 (by kernel_rfl) (by kernel_rfl)
theorem fok108 : FnOk 108 Go.Proofs.Try.f108 := .of Go.Proofs.Try.func108 (by kernel_rfl) (by kernel_rfl)
theorem fok164 : FnOk 164 Go.Proofs.Try.f164 := .of Go.Proofs.Try.func164 (by kernel_rfl) (by kernel_rfl)
theorem fok153 : FnOk 153 Go.Proofs.Try.f153 := .of Go.Proofs.Try.func153 (by kernel_rfl) (by kernel_rfl)
theorem fok154 : FnOk 154 Go.Proofs.Try.f154 := .of Go.Proofs.Try.func154 (by kernel_rfl) (by kernel_rfl)
theorem fok103 : FnOk 103 Go.Proofs.Try.f103 := .of Go.Proofs.Try.func103 (by kernel_rfl) (by kernel_rfl)
theorem fok104 : FnOk 104 Go.Proofs.Try.f104 := .of Go.Proofs.Try.func104 (by kernel_rfl) (by kernel_rfl)
theorem fok38 : FnOk 38 Go.Proofs.Try.f38 := .of Go.Proofs.Try.func38 (by kernel_rfl) (by kernel_rfl)
theorem fok114 : FnOk 114 Go.Proofs.Try.f114 := .of Go.Proofs.Try.func114 (by kernel_rfl) (by kernel_rfl)
theorem fok165 : FnOk 165 Go.Proofs.Try.f165 := .of Go.Proofs.Try.func165 (by kernel_rfl) (by kernel_rfl)
theorem fok155 : FnOk 155 Go.Proofs.Try.f155 := .of Go.Proofs.Try.func155 (by kernel_rfl) (by kernel_rfl)
theorem fok156 : FnOk 156 Go.Proofs.Try.f156 := .of Go.Proofs.Try.func156 (by kernel_rfl) (by kernel_rfl)
theorem fok166 : FnOk 166 Go.Proofs.Try.f166 := .of Go.Proofs.Try.func166 (by kernel_rfl) (by kernel_rfl)
theorem fok157 : FnOk 157 Go.Proofs.Try.f157 := .of Go.Proofs.Try.func157 (by kernel_rfl) (by kernel_rfl)
theorem fok105 : FnOk 105 Go.Proofs.Try.f105 := .of Go.Proofs.Try.func105 (by kernel_rfl) (by kernel_rfl)
theorem fok39 : FnOk 39 Go.Proofs.Try.f39 := .of Go.Proofs.Try.func39 (by kernel_rfl) (by kernel_rfl)
theorem fok6 : FnOk 6 Go.Proofs.Try.f6 := .of Go.Proofs.Try.func6 (by kernel_rfl) (by kernel_rfl)
theorem fok40 : FnOk 40 Go.Proofs.Try.f40 := .of Go.Proofs.Try.func40 (by kernel_rfl) (by kernel_rfl)
theorem fok109 : FnOk 109 Go.Proofs.Try.f109 := .of Go.Proofs.Try.func109 (by kernel_rfl) (by kernel_rfl)
theorem fok42 : FnOk 42 Go.Proofs.Try.f42 := .of Go.Proofs.Try.func42 (by kernel_rfl) (by kernel_rfl)
theorem fok43 : FnOk 43 Go.Proofs.Try.f43 := .of Go.Proofs.Try.func43 (by kernel_rfl) (by kernel_rfl)
theorem fok7 : FnOk 7 Go.Proofs.Try.f7 := .of Go.Proofs.Try.func7 (by kernel_rfl) (by kernel_rfl)
theorem fok44 : FnOk 44 Go.Proofs.Try.f44 := .of Go.Proofs.Try.func44 (by kernel_rfl) (by kernel_rfl)
theorem fok111 : FnOk 111 Go.Proofs.Try.f111 := .of Go.Proofs.Try.func111 (by kernel_rfl) (by kernel_rfl)
theorem fok45 : FnOk 45 Go.Proofs.Try.f45 := .of Go.Proofs.Try.func45 (by kernel_rfl) (by kernel_rfl)
theorem fok46 : FnOk 46 Go.Proofs.Try.f46 := .of Go.Proofs.Try.func46 (by kernel_rfl) (by kernel_rfl)
theorem fok113 : FnOk 113 Go.Proofs.Try.f113 := .of Go.Proofs.Try.func113 (by kernel_rfl) (by kernel_rfl)
theorem fok47 : FnOk 47 Go.Proofs.Try.f47 := .of Go.Proofs.Try.func47 (by kernel_rfl) (by kernel_rfl)
theorem fok48 : FnOk 48 Go.Proofs.Try.f48 := .of Go.Proofs.Try.func48 (by kernel_rfl) (by kernel_rfl)
theorem fok8 : FnOk 8 Go.Proofs.Try.f8 := .of Go.Proofs.Try.func8 (by kernel_rfl) (by kernel_rfl)
theorem all_cons {α : Type} {Q : Nat → α → Prop} {i : Nat} {x : α} {l : List (Nat × α)} (h : Q i x) (hl : ∀ d y, (d, y) ∈ l → Q d y) : ∀ d y, (d, y) ∈ (i, x) :: l → Q d y := by
  intro d y hm
  rcases List.mem_cons.1 hm with hm | hm
  · cases hm; exact h
  · exact hl d y hm
theorem all_nil {α : Type} {Q : Nat → α → Prop} : ∀ d y, (d, y) ∈ ([] : List (Nat × α)) → Q d y := fun _ _ h => by cases h
theorem ty_all : ∀ d y, (d, y) ∈ tyTab → TyOk Go.Proofs.Try.prog d y := all_cons ty2 (all_cons ty3 (all_cons ty4 (all_cons ty5 (all_cons ty9 (all_cons ty22 (all_cons ty24 (all_cons ty27 (all_cons ty29 (all_cons ty32 (all_cons ty39 (all_cons ty41 (all_cons ty46 (all_cons ty47 (all_cons ty49 (all_cons ty52 (all_cons ty54 (all_cons ty57 (all_cons ty59 (all_cons ty67 (all_cons ty70 (all_cons ty75 (all_cons ty77 (all_cons ty79 (all_cons ty83 (all_cons ty88 (all_cons ty102 (all_cons ty109 (all_cons ty118 (all_cons ty133 (all_cons ty134 (all_cons ty135 (all_cons ty137 (all_cons ty138 (all_cons ty140 (all_cons ty143 (all_cons ty147 (all_cons ty151 (all_cons ty157 (all_cons ty159 (all_cons ty161 (all_cons ty167 (all_cons ty170 (all_cons ty175 (all_cons ty178 (all_cons ty182 (all_cons ty187 (all_cons ty201 (all_nil))))))))))))))))))))))))))))))))))))))))))))))))
theorem fn_all : ∀ d y, (d, y) ∈ fnTab → FnOk d y := all_cons fok9 (all_cons fok49 (all_cons fok52 (all_cons fok123 (all_cons fok67 (all_cons fok120 (all_cons fok119 (all_cons fok121 (all_cons fok63 (all_cons fok64 (all_cons fok50 (all_cons fok51 (all_cons fok10 (all_cons fok133 (all_cons fok115 (all_cons fok116 (all_cons fok53 (all_cons fok117 (all_cons fok54 (all_cons fok11 (all_cons fok129 (all_cons fok159 (all_cons fok118 (all_cons fok55 (all_cons fok56 (all_cons fok12 (all_cons fok57 (all_cons fok58 (all_cons fok70 (all_cons fok122 (all_cons fok59 (all_cons fok60 (all_cons fok13 (all_cons fok61 (all_cons fok62 (all_cons fok14 (all_cons fok15 (all_cons fok16 (all_cons fok65 (all_cons fok124 (all_cons fok66 (all_cons fok17 (all_cons fok3 (all_cons fok18 (all_cons fok68 (all_cons fok69 (all_cons fok71 (all_cons fok72 (all_cons fok167 (all_cons fok160 (all_cons fok126 (all_cons fok19 (all_cons fok76 (all_cons fok127 (all_cons fok75 (all_cons fok77 (all_cons fok20 (all_cons fok21 (all_cons fok78 (all_cons fok22 (all_cons fok128 (all_cons fok79 (all_cons fok23 (all_cons fok80 (all_cons fok83 (all_cons fok130 (all_cons fok81 (all_cons fok131 (all_cons fok82 (all_cons fok84 (all_cons fok85 (all_cons fok24 (all_cons fok86 (all_cons fok25 (all_cons fok132 (all_cons fok87 (all_cons fok26 (all_cons fok102 (all_cons fok134 (all_cons fok135 (all_cons fok88 (all_cons fok136 (all_cons fok137 (all_cons fok139 (all_cons fok138 (all_cons fok89 (all_cons fok90 (all_cons fok27 (all_cons fok92 (all_cons fok29 (all_cons fok140 (all_cons fok91 (all_cons fok28 (all_cons fok141 (all_cons fok93 (all_cons fok30 (all_cons fok94 (all_cons fok31 (all_cons fok95 (all_cons fok32 (all_cons fok96 (all_cons fok33 (all_cons fok142 (all_cons fok97 (all_cons fok98 (all_cons fok34 (all_cons fok5 (all_cons fok110 (all_cons fok161 (all_cons fok143 (all_cons fok144 (all_cons fok145 (all_cons fok99 (all_cons fok35 (all_cons fok158 (all_cons fok162 (all_cons fok146 (all_cons fok106 (all_cons fok147 (all_cons fok107 (all_cons fok148 (all_cons fok149 (all_cons fok100 (all_cons fok36 (all_cons fok112 (all_cons fok163 (all_cons fok150 (all_cons fok151 (all_cons fok41 (all_cons fok152 (all_cons fok101 (all_cons fok37 (all_cons fok108 (all_cons fok164 (all_cons fok153 (all_cons fok154 (all_cons fok103 (all_cons fok104 (all_cons fok38 (all_cons fok114 (all_cons fok165 (all_cons fok155 (all_cons fok156 (all_cons fok166 (all_cons fok157 (all_cons fok105 (all_cons fok39 (all_cons fok6 (all_cons fok40 (all_cons fok109 (all_cons fok42 (all_cons fok43 (all_cons fok7 (all_cons fok44 (all_cons fok111 (all_cons fok45 (all_cons fok46 (all_cons fok113 (all_cons fok47 (all_cons fok48 (all_cons fok8 (all_nil)))))))))))))))))))))))))))))))))))))))))))))))))))))))))))))))))))))))))))))))))))))))))))))))))))))))))))))))))))))))))))))))))))))))))))))))))))))))))))))))))
theorem Ev_ok : EnvOk Go.Proofs.Try.prog Ev := ⟨by kernel_rfl, fun t ti h => ty_all t ti (tab_mem h), fun f fn h => fn_all f fn (tab_mem h)⟩
end Vm
