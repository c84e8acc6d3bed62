/-
  The types and the functions that the small machine asks for, and that they are the program's. Written by a program (gen3.py).
-/
import Derived.Test.YtnidgolbfmbocaaVmR
import Derived.Test.YtnidgolbfmbocaaProg
import Derived.KernelRfl
set_option linter.unusedVariables false
set_option maxRecDepth 100000
namespace Vm
open Go
namespace Fn
abbrev spec_l2Count : Nat := 115
abbrev spec_l2Low : Nat := 116
abbrev spec_l2Size : Nat := 119
abbrev spec_l2Place : Nat := 121
abbrev spec_l2Slot : Nat := 117
abbrev spec_l2Apart : Nat := 118
abbrev spec_l2Fault : Nat := 67
abbrev spec_l1In : Nat := 120
abbrev spec_l2Has : Nat := 68
abbrev spec_l2Cell : Nat := 69
abbrev spec_SlotIn : Nat := 15
abbrev laws_toByteS : Nat := 16
abbrev impl_slots : Nat := 77
abbrev impl_spot : Nat := 81
abbrev impl_PageFault : Nat := 39
abbrev impl_hasSlot : Nat := 70
abbrev impl_copied : Nat := 71
abbrev impl_cellAt : Nat := 72
abbrev impl_SlotIn : Nat := 17
abbrev laws_eqByteS : Nat := 19
abbrev laws_eqBytesResult : Nat := 18
abbrev laws_markByteS : Nat := 20
abbrev laws_markBytesResult : Nat := 21
abbrev laws_heldByteS : Nat := 73
abbrev laws_heldBytesResult : Nat := 22
abbrev laws_FnExactSlotIn : Nat := 3
abbrev spec_l2Bad : Nat := 74
abbrev spec_l2Copy : Nat := 114
abbrev spec_l2Drop : Nat := 75
abbrev spec_DropSlot : Nat := 23
abbrev impl_DropSlot : Nat := 24
abbrev laws_eqPageResult : Nat := 25
abbrev laws_markPageResult : Nat := 26
abbrev laws_heldPageResult : Nat := 27
abbrev laws_FnExactDropSlot : Nat := 4
abbrev spec_l2Stand : Nat := 122
abbrev spec_l2Compact : Nat := 76
abbrev spec_CompactPage : Nat := 28
abbrev impl_CompactPage : Nat := 29
abbrev laws_FnExactCompactPage : Nat := 5
abbrev spec_l2CellSize : Nat := 78
abbrev spec_l2Free : Nat := 123
abbrev spec_l2Set : Nat := 79
abbrev spec_SetSlot : Nat := 30
abbrev impl_cellFault : Nat := 80
abbrev impl_write : Nat := 82
abbrev impl_freeIn : Nat := 83
abbrev impl_SetSlot : Nat := 31
abbrev laws_FnExactSetSlot : Nat := 6
abbrev spec_l2Empty : Nat := 124
abbrev spec_l2Put : Nat := 84
abbrev spec_PutSlot : Nat := 32
abbrev impl_PutSlot : Nat := 33
abbrev laws_FnExactPutSlot : Nat := 7
abbrev laws_lwBig : Nat := 34
abbrev spec_l1Source : Nat := 85
abbrev spec_l1Next : Nat := 94
abbrev spec_l1Pick : Nat := 88
abbrev spec_l1Some : Nat := 126
abbrev spec_l2New : Nat := 130
abbrev spec_l1Chance : Nat := 131
abbrev spec_l2Right : Nat := 125
abbrev spec_l2Bent : Nat := 86
abbrev spec_l2DrawCell : Nat := 87
abbrev spec_DrawPutSlot : Nat := 35
abbrev impl_FreeIn : Nat := 36
abbrev laws_lwSame : Nat := 37
abbrev laws_lwOthers : Nat := 38
abbrev laws_FnPuts : Nat := 8
abbrev spec_DrawCompactPage : Nat := 40
abbrev spec_DrawNewPage : Nat := 41
abbrev impl_newPage : Nat := 89
abbrev impl_NewPage : Nat := 42
abbrev laws_FnCompacts : Nat := 9
abbrev spec_l2With : Nat := 90
abbrev spec_l1Later : Nat := 91
abbrev spec_DrawSetSlot : Nat := 43
abbrev spec_DrawDropSlot : Nat := 44
abbrev laws_FnSets : Nat := 10
abbrev spec_l1Draw : Nat := 92
abbrev spec_l1Cell : Nat := 93
abbrev spec_l1Stub : Nat := 95
abbrev spec_DrawUnpackCell : Nat := 45
abbrev impl_in : Nat := 98
abbrev impl_RowFault : Nat := 96
abbrev impl_UnpackCell : Nat := 46
abbrev spec_l1Place : Nat := 101
abbrev spec_l1Text : Nat := 127
abbrev spec_l1Fault : Nat := 103
abbrev spec_l1Read : Nat := 97
abbrev spec_UnpackCell : Nat := 47
abbrev impl_stub : Nat := 99
abbrev impl_PackStub : Nat := 48
abbrev impl_cell : Nat := 100
abbrev impl_PackRow : Nat := 49
abbrev spec_DrawPackStub : Nat := 50
abbrev spec_PackStub : Nat := 51
abbrev spec_l1Bent : Nat := 102
abbrev spec_DrawPackRow : Nat := 52
abbrev spec_PackRow : Nat := 53
abbrev laws_FnCells : Nat := 11
abbrev spec_l3Diff : Nat := 104
abbrev spec_DiffBytes : Nat := 54
abbrev impl_diff : Nat := 105
abbrev impl_DiffBytes : Nat := 55
abbrev laws_eqRun : Nat := 113
abbrev laws_eqRunS : Nat := 63
abbrev laws_eqRunsResult : Nat := 56
abbrev laws_markRunS : Nat := 64
abbrev laws_markRunsResult : Nat := 57
abbrev laws_heldRunS : Nat := 106
abbrev laws_heldRunsResult : Nat := 58
abbrev laws_FnExactDiffBytes : Nat := 12
abbrev laws_szByteS : Nat := 128
abbrev laws_szRun : Nat := 107
abbrev laws_szRunS : Nat := 59
abbrev spec_l3Fault : Nat := 129
abbrev spec_l3Asked : Nat := 108
abbrev spec_l3Apply : Nat := 109
abbrev spec_ApplyRuns : Nat := 60
abbrev laws_toRun : Nat := 110
abbrev laws_toRunS : Nat := 61
abbrev impl_RunsFault : Nat := 111
abbrev impl_applied : Nat := 112
abbrev impl_ApplyRuns : Nat := 62
abbrev laws_FnExactApplyRuns : Nat := 13
abbrev spec_InverseRuns : Nat := 65
abbrev impl_InverseRuns : Nat := 66
abbrev laws_FnExactInverseRuns : Nat := 14
end Fn
def tab {α : Type} : List (Nat × α) → Nat → Option α
  | [], _ => none
  | (i, x) :: r, d => bif Nat.beq i d then some x else tab r d
theorem tab_mem {α : Type} {l : List (Nat × α)} {d : Nat} {x : α} (h : tab l d = some x) : (d, x) ∈ l := by
  induction l with
  | nil => simp [tab] at h
  | cons p r ih =>
    obtain ⟨i, y⟩ := p
    simp only [tab] at h
    by_cases hi : i = d
    · subst hi; simp at h; subst h; simp
    · rw [show Nat.beq i d = false from by
        cases hb : Nat.beq i d with
        | false => rfl
        | true => exact absurd (Nat.eq_of_beq_eq_true hb) hi] at h
      exact List.mem_cons_of_mem _ (ih h)
noncomputable def tyTab : List (Nat × TI) := [(2, ⟨1, 8, [.int .i64 0], false, .int .i64, false⟩),
  (3, ⟨1, 8, [.int .i64 0], false, .int .i64, false⟩),
  (4, ⟨1, 1, [.bool false], false, .bool, false⟩),
  (5, ⟨1, 1, [.int .u8 0], false, .int .u8, false⟩),
  (9, ⟨1, 16, [.str ⟨#[]⟩], false, .str, false⟩),
  (22, ⟨1, 24, [.sl none 0], false, .sl 5, false⟩),
  (24, ⟨2, 32, [.int .i64 0, .sl none 0], true, .st [(0, 2), (1, 22)], false⟩),
  (33, ⟨3, 40, [.int .i64 0, .int .i64 0, .sl none 0], true, .st [(0, 2), (1, 2), (2, 22)], false⟩),
  (45, ⟨2, 16, [.int .i64 0, .int .i64 0], true, .st [(0, 2), (1, 2)], true⟩),
  (56, ⟨4, 40, [.int .i64 0, .int .i64 0, .int .i64 0, .str ⟨#[]⟩], true, .st [(0, 2), (1, 2), (2, 2), (3, 9)], true⟩),
  (58, ⟨8, 72, [.int .i64 0, .int .i64 0, .int .i64 0, .int .i64 0, .int .i64 0, .int .i64 0, .int .i64 0, .str ⟨#[]⟩], true, .st [(0, 2), (1, 2), (2, 2), (3, 2), (4, 56)], true⟩),
  (66, ⟨1, 24, [.sl none 0], false, .sl 116, false⟩),
  (68, ⟨2, 32, [.int .i64 0, .sl none 0], true, .st [(0, 2), (1, 66)], false⟩),
  (72, ⟨1, 24, [.sl none 0], false, .sl 113, false⟩),
  (90, ⟨1, 8, [.ptr none], false, .ptr, false⟩),
  (93, ⟨64, 64, [.bool false, .bool false, .bool false, .bool false, .bool false, .bool false, .bool false, .bool false, .bool false, .bool false, .bool false, .bool false, .bool false, .bool false, .bool false, .bool false, .bool false, .bool false, .bool false, .bool false, .bool false, .bool false, .bool false, .bool false, .bool false, .bool false, .bool false, .bool false, .bool false, .bool false, .bool false, .bool false, .bool false, .bool false, .bool false, .bool false, .bool false, .bool false, .bool false, .bool false, .bool false, .bool false, .bool false, .bool false, .bool false, .bool false, .bool false, .bool false, .bool false, .bool false, .bool false, .bool false, .bool false, .bool false, .bool false, .bool false, .bool false, .bool false, .bool false, .bool false, .bool false, .bool false, .bool false, .bool false], true, .arr 64 4, false⟩),
  (99, ⟨1, 8, [.ptr none], false, .ptr, false⟩),
  (113, ⟨2, 32, [.int .i64 0, .sl none 0], true, .st [(0, 2), (1, 22)], false⟩),
  (116, ⟨2, 32, [.int .i64 0, .sl none 0], true, .st [(0, 2), (1, 22)], false⟩),
  (124, ⟨2, 32, [.sl none 0, .int .i64 0], true, .st [(0, 22), (1, 2)], false⟩),
  (126, ⟨1, 24, [.sl none 0], false, .sl 2, false⟩),
  (127, ⟨1, 24, [.sl none 0], false, .sl 9, false⟩)]
noncomputable def fnTab : List (Nat × Func) := [(115, Go.Proofs.Try.f115), (116, Go.Proofs.Try.f116), (119, Go.Proofs.Try.f119), (121, Go.Proofs.Try.f121), (117, Go.Proofs.Try.f117), (118, Go.Proofs.Try.f118), (67, Go.Proofs.Try.f67), (120, Go.Proofs.Try.f120), (68, Go.Proofs.Try.f68), (69, Go.Proofs.Try.f69), (15, Go.Proofs.Try.f15), (16, Go.Proofs.Try.f16), (77, Go.Proofs.Try.f77), (81, Go.Proofs.Try.f81), (39, Go.Proofs.Try.f39), (70, Go.Proofs.Try.f70), (71, Go.Proofs.Try.f71), (72, Go.Proofs.Try.f72), (17, Go.Proofs.Try.f17), (19, Go.Proofs.Try.f19), (18, Go.Proofs.Try.f18), (20, Go.Proofs.Try.f20), (21, Go.Proofs.Try.f21), (73, Go.Proofs.Try.f73), (22, Go.Proofs.Try.f22), (3, Go.Proofs.Try.f3), (74, Go.Proofs.Try.f74), (114, Go.Proofs.Try.f114), (75, Go.Proofs.Try.f75), (23, Go.Proofs.Try.f23), (24, Go.Proofs.Try.f24), (25, Go.Proofs.Try.f25), (26, Go.Proofs.Try.f26), (27, Go.Proofs.Try.f27), (4, Go.Proofs.Try.f4), (122, Go.Proofs.Try.f122), (76, Go.Proofs.Try.f76), (28, Go.Proofs.Try.f28), (29, Go.Proofs.Try.f29), (5, Go.Proofs.Try.f5), (78, Go.Proofs.Try.f78), (123, Go.Proofs.Try.f123), (79, Go.Proofs.Try.f79), (30, Go.Proofs.Try.f30), (80, Go.Proofs.Try.f80), (82, Go.Proofs.Try.f82), (83, Go.Proofs.Try.f83), (31, Go.Proofs.Try.f31), (6, Go.Proofs.Try.f6), (124, Go.Proofs.Try.f124), (84, Go.Proofs.Try.f84), (32, Go.Proofs.Try.f32), (33, Go.Proofs.Try.f33), (7, Go.Proofs.Try.f7), (34, Go.Proofs.Try.f34), (85, Go.Proofs.Try.f85), (94, Go.Proofs.Try.f94), (88, Go.Proofs.Try.f88), (126, Go.Proofs.Try.f126), (130, Go.Proofs.Try.f130), (131, Go.Proofs.Try.f131), (125, Go.Proofs.Try.f125), (86, Go.Proofs.Try.f86), (87, Go.Proofs.Try.f87), (35, Go.Proofs.Try.f35), (36, Go.Proofs.Try.f36), (37, Go.Proofs.Try.f37), (38, Go.Proofs.Try.f38), (8, Go.Proofs.Try.f8), (40, Go.Proofs.Try.f40), (41, Go.Proofs.Try.f41), (89, Go.Proofs.Try.f89), (42, Go.Proofs.Try.f42), (9, Go.Proofs.Try.f9), (90, Go.Proofs.Try.f90), (91, Go.Proofs.Try.f91), (43, Go.Proofs.Try.f43), (44, Go.Proofs.Try.f44), (10, Go.Proofs.Try.f10), (92, Go.Proofs.Try.f92), (93, Go.Proofs.Try.f93), (95, Go.Proofs.Try.f95), (45, Go.Proofs.Try.f45), (98, Go.Proofs.Try.f98), (96, Go.Proofs.Try.f96), (46, Go.Proofs.Try.f46), (101, Go.Proofs.Try.f101), (127, Go.Proofs.Try.f127), (103, Go.Proofs.Try.f103), (97, Go.Proofs.Try.f97), (47, Go.Proofs.Try.f47), (99, Go.Proofs.Try.f99), (48, Go.Proofs.Try.f48), (100, Go.Proofs.Try.f100), (49, Go.Proofs.Try.f49), (50, Go.Proofs.Try.f50), (51, Go.Proofs.Try.f51), (102, Go.Proofs.Try.f102), (52, Go.Proofs.Try.f52), (53, Go.Proofs.Try.f53), (11, Go.Proofs.Try.f11), (104, Go.Proofs.Try.f104), (54, Go.Proofs.Try.f54), (105, Go.Proofs.Try.f105), (55, Go.Proofs.Try.f55), (113, Go.Proofs.Try.f113), (63, Go.Proofs.Try.f63), (56, Go.Proofs.Try.f56), (64, Go.Proofs.Try.f64), (57, Go.Proofs.Try.f57), (106, Go.Proofs.Try.f106), (58, Go.Proofs.Try.f58), (12, Go.Proofs.Try.f12), (128, Go.Proofs.Try.f128), (107, Go.Proofs.Try.f107), (59, Go.Proofs.Try.f59), (129, Go.Proofs.Try.f129), (108, Go.Proofs.Try.f108), (109, Go.Proofs.Try.f109), (60, Go.Proofs.Try.f60), (110, Go.Proofs.Try.f110), (61, Go.Proofs.Try.f61), (111, Go.Proofs.Try.f111), (112, Go.Proofs.Try.f112), (62, Go.Proofs.Try.f62), (13, Go.Proofs.Try.f13), (65, Go.Proofs.Try.f65), (66, Go.Proofs.Try.f66), (14, Go.Proofs.Try.f14)]
def keepTab : List (Nat × List Nat) := [(16000, [0, 3, 4]),
  (19000, [0, 1, 5]),
  (20000, [0, 1, 5]),
  (24000, [1, 4, 6]),
  (29000, [0, 2, 5, 6, 25, 26]),
  (33000, [0, 1, 4, 6, 7]),
  (38000, [0, 1, 2, 7]),
  (39000, [0, 3, 4, 35, 36]),
  (39002, [0, 3, 8, 66, 67]),
  (39004, [0, 3, 8, 10, 11, 12, 66, 67]),
  (59000, [0, 1, 5]),
  (61000, [0, 3, 4]),
  (63000, [0, 1, 5]),
  (64000, [0, 1, 5]),
  (65000, [0, 1, 4, 6, 7]),
  (66000, [0, 4, 6, 19, 20, 21]),
  (67000, [0, 3, 4]),
  (67002, [0, 3, 5]),
  (67004, [0, 3, 5, 6]),
  (73000, [0, 1, 5]),
  (75000, [5]),
  (76000, [0, 3, 4, 5, 6]),
  (83000, [0, 3, 12, 13]),
  (89000, [0, 3, 7, 8]),
  (96000, [1, 26, 27]),
  (104000, [0, 1, 5, 6, 7]),
  (105000, [0, 1, 5, 6]),
  (105002, [0, 1, 5, 6, 7]),
  (106000, [0, 1, 5]),
  (109000, [1, 5, 6]),
  (111000, [3, 10, 11, 12]),
  (112000, [5, 10, 11, 12]),
  (123000, [0, 3, 4]),
  (124000, [0, 3]),
  (125000, [0, 3, 4]),
  (126000, [0, 1, 5]),
  (127000, [0, 3]),
  (129000, [0, 3]),
  (130000, [0, 3, 4])]
def aftTab : List (Nat × List Nat) := [(16000, [3]),
  (19000, []),
  (20000, [1]),
  (24000, [1, 4, 6]),
  (29000, [2, 5, 6]),
  (33000, [0, 1, 4, 6, 7]),
  (38000, []),
  (39000, [0, 3]),
  (39002, [0, 3]),
  (39004, [0, 3, 8, 66, 67]),
  (59000, [1]),
  (61000, [3]),
  (63000, []),
  (64000, [1]),
  (65000, [4, 6]),
  (66000, [4, 6]),
  (67000, [0, 3]),
  (67002, [0, 3]),
  (67004, [0, 3, 5]),
  (73000, [1]),
  (75000, [5]),
  (76000, [4, 5]),
  (83000, [3]),
  (89000, [3]),
  (96000, []),
  (104000, [5]),
  (105000, [5]),
  (105002, [0, 1, 5, 6, 7]),
  (106000, [1]),
  (109000, [5]),
  (111000, []),
  (112000, [5]),
  (123000, [3]),
  (124000, [0]),
  (125000, [3]),
  (126000, [5]),
  (127000, [0]),
  (129000, []),
  (130000, [3])]
def killTab : List (Nat × List Nat) := []
def schedTab : List (Nat × List (Nat × Nat)) := [(8006, [(0, 0), (1, 0), (4, 0), (5, 0), (2, 1), (3, 1), (6, 1), (7, 1)]),
  (8009, [(0, 0), (3, 0), (4, 0), (1, 1), (2, 0), (5, 1), (6, 0), (7, 0), (8, 0)]),
  (8011, [(0, 0), (1, 0), (2, 0), (3, 0), (4, 0), (5, 0), (6, 0), (7, 1), (8, 0), (9, 0), (10, 0), (11, 0), (12, 0), (13, 0), (14, 0), (15, 0), (16, 0), (17, 0), (18, 0), (19, 0), (20, 1), (21, 0), (22, 0), (23, 0), (24, 0), (25, 1), (26, 0), (27, 0), (28, 0), (29, 0), (30, 0), (31, 0), (32, 0), (33, 0), (34, 0), (35, 0), (36, 0), (37, 0), (38, 0), (39, 0), (40, 0), (41, 0), (42, 0), (43, 0), (44, 1), (45, 1), (46, 1), (47, 1), (48, 1)]),
  (9006, [(0, 0), (3, 0), (4, 0), (1, 1), (2, 3), (5, 3), (6, 3), (7, 3), (10, 3), (11, 4), (8, 1), (9, 3), (12, 3), (13, 3), (14, 3)]),
  (9014, [(0, 0), (1, 0), (2, 0), (3, 1), (4, 1), (5, 0), (6, 0)]),
  (9018, [(0, 0), (1, 0), (2, 0), (3, 1), (4, 0), (5, 0), (6, 0), (7, 0), (8, 0), (9, 0), (10, 0), (11, 0), (12, 0), (13, 1), (14, 0), (15, 0), (16, 0), (17, 0), (18, 0), (19, 0), (20, 1), (21, 0), (22, 0), (23, 0), (24, 0), (25, 0), (28, 0), (29, 0), (26, 1), (27, 1), (30, 1), (31, 1), (32, 1), (33, 1), (34, 1), (35, 1), (36, 1), (37, 1), (38, 1), (39, 1), (40, 1), (41, 1), (42, 1), (43, 1), (44, 1), (45, 1)]),
  (10007, [(0, 0), (1, 0), (2, 0), (3, 0), (4, 1), (5, 3), (6, 3), (7, 3), (8, 3), (9, 4), (10, 3), (11, 3), (12, 3), (14, 3), (13, 4), (15, 1), (16, 3), (17, 3), (18, 3), (19, 3), (20, 3), (22, 3), (21, 4), (23, 1), (24, 3), (25, 3), (26, 3), (27, 3), (28, 4), (29, 1), (30, 3), (31, 3), (32, 3), (33, 3)]),
  (10010, [(0, 0), (1, 0), (2, 0), (5, 0), (6, 0), (3, 1), (4, 1), (7, 1), (8, 1)]),
  (10012, [(0, 0), (1, 0), (2, 0), (3, 0), (4, 0), (5, 0), (6, 0), (7, 1), (8, 0), (9, 0), (10, 0), (11, 0), (12, 0), (13, 0), (14, 1), (15, 0), (16, 0), (17, 0), (18, 0), (19, 1), (20, 0), (21, 0), (22, 0), (23, 0), (24, 0), (25, 0), (26, 0), (27, 0), (28, 0), (29, 0), (30, 0), (31, 0), (32, 0), (33, 0), (34, 1), (35, 1), (36, 1), (37, 1), (38, 1)]),
  (11005, [(0, 0), (1, 0), (2, 0), (3, 0), (4, 0), (7, 0), (8, 0), (5, 1), (6, 0), (9, 0), (10, 0)]),
  (11014, [(0, 0), (1, 0), (2, 0), (3, 0), (4, 1), (5, 3), (6, 3), (7, 3), (8, 3), (9, 4), (10, 3), (11, 3), (12, 3), (14, 3), (13, 4), (15, 3), (16, 3), (17, 3), (19, 3), (18, 4), (20, 3), (21, 3), (22, 3), (23, 3), (24, 4), (25, 3), (26, 3), (27, 3), (28, 3)]),
  (11019, [(0, 0), (1, 0), (4, 0), (5, 0), (2, 1), (3, 1), (6, 1), (7, 1)]),
  (19006, [(0, 0), (1, 0), (2, 0), (3, 0), (4, 0), (5, 0), (6, 0), (7, 0), (8, 0)]),
  (39003, [(0, 0), (2, 0), (3, 0), (4, 0), (5, 0), (1, 1), (6, 0), (7, 0)]),
  (46002, [(0, 0), (1, 0), (2, 0), (3, 0), (4, 0), (5, 0), (6, 0), (7, 0), (8, 0), (9, 2)]),
  (46005, [(0, 0), (1, 0), (2, 0), (3, 0), (4, 0), (5, 0), (6, 0), (7, 0), (8, 0), (9, 0), (10, 0), (11, 0), (12, 0), (13, 0), (14, 0), (15, 0), (16, 0), (17, 0), (18, 0), (19, 0), (20, 0), (21, 0), (22, 1), (23, 2)]),
  (46008, [(0, 0), (1, 0), (2, 0), (3, 0), (4, 0), (5, 0), (6, 2)]),
  (63006, [(0, 0), (1, 0), (2, 0), (3, 0), (4, 0), (5, 0), (6, 0), (7, 0), (8, 1), (9, 0)]),
  (65009, [(0, 0), (1, 0), (2, 0), (3, 0), (4, 0), (5, 0), (6, 0), (7, 0), (8, 0), (9, 0), (10, 0), (11, 0), (12, 0), (13, 0), (14, 0), (15, 0), (16, 0), (17, 0), (18, 1), (19, 0), (20, 1), (21, 2), (22, 2), (23, 2)]),
  (66010, [(0, 0), (1, 0), (2, 0), (3, 0), (4, 0), (5, 0), (6, 0), (7, 0), (8, 0), (9, 0), (10, 0), (11, 0), (12, 0), (13, 1), (14, 0), (15, 1), (16, 2), (17, 2)]),
  (81001, [(0, 0), (1, 0), (2, 0), (3, 0), (4, 0), (5, 0), (6, 0), (7, 0), (8, 0), (9, 0), (10, 0), (11, 0), (12, 0), (13, 0), (14, 0), (15, 0)]),
  (93001, [(0, 0), (1, 0), (2, 0), (3, 0), (4, 0), (5, 0), (6, 0), (7, 0), (8, 0), (9, 0), (10, 0), (11, 0), (12, 0), (13, 0), (14, 0), (15, 0), (16, 0), (17, 0), (18, 0), (19, 0), (20, 0), (21, 0), (22, 0), (23, 0), (24, 0), (25, 0), (26, 0), (27, 0), (28, 0), (29, 0), (30, 1), (31, 0)]),
  (94008, [(0, 0), (1, 0), (2, 0), (3, 0), (4, 0), (5, 0), (6, 0), (7, 0), (8, 0), (9, 0), (10, 0), (11, 0), (12, 0), (13, 0), (14, 0), (15, 0)]),
  (94010, [(0, 0), (1, 0), (2, 0), (3, 0), (4, 0), (5, 0), (6, 0), (7, 0), (8, 0), (9, 0), (10, 0), (11, 0), (12, 0), (13, 0), (14, 0), (15, 0), (16, 0), (17, 0)]),
  (97002, [(0, 0), (1, 0), (2, 0), (3, 0), (4, 0), (5, 0), (6, 0), (7, 0), (8, 0), (9, 1), (10, 2)]),
  (97003, [(0, 0), (1, 0), (2, 0), (3, 0), (4, 0), (5, 1), (6, 2), (7, 2)]),
  (97006, [(0, 0), (1, 0), (2, 0), (3, 0), (4, 0), (5, 0), (6, 0), (7, 0), (8, 0), (9, 0), (10, 0), (11, 0), (12, 0), (13, 0), (14, 0), (15, 0), (16, 0), (17, 0), (18, 0), (19, 0), (20, 0), (21, 0), (22, 1), (23, 2)]),
  (97007, [(0, 0), (1, 0), (2, 0), (3, 0), (4, 0), (5, 0), (6, 1), (7, 3), (8, 2), (9, 2)]),
  (104006, [(0, 0), (1, 0), (2, 0), (3, 0), (4, 0), (5, 0), (6, 0), (7, 0), (8, 0)]),
  (104012, [(1, 0), (2, 0), (3, 0), (4, 0), (5, 0), (6, 0), (7, 0), (8, 0), (0, 3), (9, 1), (10, 2), (11, 2), (12, 2), (13, 2)]),
  (105005, [(0, 0), (1, 0), (2, 0), (3, 0), (4, 0), (5, 0), (6, 0), (7, 0), (8, 0)]),
  (105007, [(0, 0), (1, 0), (2, 0), (3, 0), (4, 0), (5, 0), (6, 0), (7, 0), (8, 0), (9, 0), (10, 0), (11, 0), (12, 0)]),
  (109005, [(0, 0), (1, 0), (2, 0), (3, 0), (4, 0), (5, 0), (6, 0), (7, 0), (8, 0), (9, 0), (10, 0), (11, 0), (12, 2)]),
  (112005, [(0, 0), (1, 0), (2, 0), (3, 0), (4, 0), (5, 0), (6, 2)]),
  (129009, [(0, 0), (1, 0), (2, 0), (3, 0), (4, 0), (5, 0), (6, 0), (7, 0), (8, 0), (9, 0), (10, 0), (11, 0), (12, 0), (13, 0), (14, 0), (15, 0), (16, 0), (17, 0), (18, 0), (19, 0), (20, 0), (21, 0), (22, 0), (23, 0)])]
def modeTab : List (Nat × Nat) := [(3016, 3),
  (3018, 3),
  (3020, 2),
  (3023, 2),
  (3026, 1),
  (3030, 3),
  (3031, 1),
  (3041, 1),
  (3049, 1),
  (3056, 3),
  (3058, 3),
  (3061, 1),
  (3065, 1),
  (4016, 3),
  (4018, 3),
  (4020, 2),
  (4023, 2),
  (4026, 1),
  (4030, 3),
  (4031, 1),
  (4041, 1),
  (4049, 1),
  (4056, 3),
  (4058, 3),
  (4061, 1),
  (4065, 1),
  (5014, 3),
  (5015, 3),
  (5017, 2),
  (5019, 2),
  (5022, 1),
  (5026, 3),
  (5027, 1),
  (5037, 1),
  (5045, 1),
  (5052, 3),
  (5053, 3),
  (5056, 1),
  (5060, 1),
  (6022, 3),
  (6025, 3),
  (6026, 3),
  (6028, 2),
  (6030, 2),
  (6034, 2),
  (6037, 1),
  (6041, 3),
  (6042, 1),
  (6046, 3),
  (6047, 1),
  (6060, 1),
  (6068, 1),
  (6075, 3),
  (6078, 3),
  (6079, 3),
  (6082, 1),
  (6086, 1),
  (7020, 3),
  (7022, 3),
  (7023, 3),
  (7025, 2),
  (7027, 2),
  (7030, 2),
  (7033, 1),
  (7037, 3),
  (7038, 1),
  (7042, 3),
  (7043, 1),
  (7056, 1),
  (7064, 1),
  (7071, 3),
  (7073, 3),
  (7074, 3),
  (7077, 1),
  (7081, 1),
  (8011, 1),
  (8014, 3),
  (8019, 3),
  (8025, 3),
  (8034, 3),
  (8038, 3),
  (8040, 1),
  (8044, 1),
  (8056, 1),
  (8069, 1),
  (8074, 1),
  (8093, 3),
  (9010, 1),
  (9012, 3),
  (9014, 3),
  (9019, 3),
  (9026, 1),
  (9038, 1),
  (9057, 2),
  (9061, 1),
  (9063, 3),
  (9067, 1),
  (9077, 1),
  (9084, 1),
  (9090, 3),
  (9094, 1),
  (9099, 1),
  (9105, 1),
  (10012, 1),
  (10015, 3),
  (10022, 3),
  (10025, 3),
  (10030, 3),
  (10035, 3),
  (10046, 3),
  (10054, 1),
  (10060, 1),
  (10071, 3),
  (10079, 3),
  (10087, 1),
  (10094, 1),
  (10099, 1),
  (10114, 3),
  (10116, 1),
  (11014, 1),
  (11016, 3),
  (11018, 1),
  (11024, 1),
  (11043, 3),
  (11046, 1),
  (11062, 3),
  (11065, 1),
  (11070, 1),
  (11075, 3),
  (11078, 1),
  (11083, 3),
  (11110, 1),
  (11115, 3),
  (11121, 3),
  (11128, 1),
  (12020, 3),
  (12022, 3),
  (12023, 3),
  (12025, 2),
  (12027, 2),
  (12030, 2),
  (12033, 1),
  (12037, 3),
  (12038, 1),
  (12042, 3),
  (12043, 1),
  (12056, 1),
  (12064, 1),
  (12071, 3),
  (12073, 3),
  (12074, 3),
  (12077, 1),
  (12081, 1),
  (13019, 1),
  (13023, 3),
  (13025, 3),
  (13026, 3),
  (13028, 2),
  (13030, 2),
  (13033, 2),
  (13036, 1),
  (13040, 3),
  (13041, 1),
  (13045, 3),
  (13046, 1),
  (13059, 1),
  (13067, 1),
  (13074, 3),
  (13076, 3),
  (13077, 3),
  (13080, 1),
  (13084, 1),
  (14019, 1),
  (14023, 3),
  (14025, 3),
  (14026, 3),
  (14028, 2),
  (14030, 2),
  (14033, 2),
  (14036, 1),
  (14040, 3),
  (14041, 1),
  (14045, 3),
  (14046, 1),
  (14059, 1),
  (14067, 1),
  (14074, 3),
  (14076, 3),
  (14077, 3),
  (14080, 1),
  (14084, 1),
  (15007, 1),
  (15014, 1),
  (15019, 3),
  (17007, 1),
  (17014, 1),
  (17019, 3),
  (17020, 2),
  (18014, 1),
  (22008, 1),
  (23007, 1),
  (23011, 3),
  (23014, 1),
  (23016, 3),
  (23020, 3),
  (24008, 1),
  (24015, 1),
  (24019, 2),
  (25019, 1),
  (27008, 1),
  (28005, 1),
  (28009, 3),
  (28011, 3),
  (29010, 1),
  (29016, 1),
  (29031, 1),
  (29035, 3),
  (30011, 1),
  (30015, 3),
  (30017, 1),
  (30019, 3),
  (30022, 1),
  (30024, 3),
  (30029, 3),
  (30035, 3),
  (31014, 1),
  (31021, 1),
  (31027, 1),
  (31043, 2),
  (31047, 1),
  (31060, 1),
  (31075, 2),
  (32010, 1),
  (32014, 3),
  (32016, 1),
  (32018, 3),
  (32022, 3),
  (33013, 1),
  (33019, 1),
  (33041, 1),
  (33070, 2),
  (35006, 2),
  (36005, 1),
  (36011, 1),
  (38016, 3),
  (38019, 3),
  (38034, 1),
  (39017, 1),
  (39042, 1),
  (39073, 1),
  (40004, 2),
  (41005, 2),
  (42004, 3),
  (43009, 3),
  (43015, 2),
  (44005, 3),
  (45007, 2),
  (45013, 2),
  (45041, 3),
  (46083, 1),
  (47007, 1),
  (48006, 1),
  (48010, 1),
  (48016, 3),
  (49014, 1),
  (49021, 3),
  (50006, 2),
  (51007, 1),
  (51012, 3),
  (52006, 2),
  (53013, 1),
  (53019, 2),
  (54016, 3),
  (55016, 2),
  (56014, 1),
  (58008, 1),
  (59023, 1),
  (60008, 1),
  (60015, 3),
  (61020, 2),
  (62011, 1),
  (62018, 2),
  (63025, 1),
  (65011, 1),
  (65046, 2),
  (66014, 1),
  (66038, 2),
  (67011, 1),
  (67016, 1),
  (67024, 1),
  (67034, 1),
  (67049, 1),
  (67057, 1),
  (68007, 1),
  (68009, 1),
  (68013, 1),
  (69008, 1),
  (69015, 1),
  (70010, 1),
  (72010, 1),
  (75007, 2),
  (75029, 1),
  (76009, 1),
  (76025, 1),
  (76029, 3),
  (78005, 1),
  (79013, 1),
  (79015, 2),
  (79024, 1),
  (79034, 1),
  (79041, 1),
  (79047, 1),
  (80007, 1),
  (82011, 2),
  (83008, 1),
  (83012, 1),
  (83019, 1),
  (84013, 1),
  (84015, 1),
  (84024, 1),
  (84031, 1),
  (84041, 2),
  (90006, 2),
  (96006, 1),
  (96011, 1),
  (96017, 1),
  (97029, 1),
  (97084, 1),
  (101006, 1),
  (101009, 1),
  (103007, 1),
  (103014, 1),
  (103022, 1),
  (103029, 1),
  (105043, 2),
  (106027, 1),
  (107008, 1),
  (108009, 1),
  (109008, 2),
  (110009, 2),
  (111021, 1),
  (111025, 1),
  (112009, 2),
  (113014, 1),
  (117009, 1),
  (117012, 1),
  (117024, 1),
  (118009, 1),
  (118014, 1),
  (118019, 1),
  (118022, 1),
  (118026, 1),
  (118031, 1),
  (118034, 1),
  (118038, 1),
  (123006, 1),
  (123011, 1),
  (123018, 1),
  (124006, 1),
  (124012, 1),
  (124016, 1),
  (125017, 2),
  (125034, 2),
  (125047, 1),
  (125050, 2),
  (125057, 1),
  (125062, 2),
  (125073, 2),
  (129025, 1),
  (129029, 1)]
def pszTab : List (Nat × List Nat) := [(94, [2, 0]),
  (88, [2, 0]),
  (126, [2, 0]),
  (131, [2, 0]),
  (125, [2]),
  (86, [2]),
  (87, [2]),
  (92, [2]),
  (93, [0, 4]),
  (103, [4]),
  (102, [2])]
def vtTab : List (Nat × VT) := [(2, .one (.i .i64)),
  (3, .one (.i .i64)),
  (4, .one (.b)),
  (5, .one (.i .u8)),
  (9, .one (.s)),
  (24, .agg [.i .i64, .x]),
  (33, .agg [.i .i64, .i .i64, .x]),
  (42, .tup [([.x], false), ([.x], false)]),
  (45, .agg [.i .i64, .i .i64]),
  (51, .tup [([.x], false), ([.i .i64], false), ([.x], false)]),
  (53, .tup [([.x], false), ([.i .i64], false)]),
  (56, .agg [.i .i64, .i .i64, .i .i64, .s]),
  (58, .agg [.i .i64, .i .i64, .i .i64, .i .i64, .i .i64, .i .i64, .i .i64, .s]),
  (62, .tup [([.i .i64], false), ([.i .i64], false)]),
  (64, .tup [([.i .i64], false), ([.i .i64, .i .i64, .i .i64, .s], true)]),
  (68, .agg [.i .i64, .x]),
  (85, .tup [([.i .i64], false), ([.i .i64], false)]),
  (88, .tup [([.x], false), ([.i .i64], false), ([.i .i64], false)]),
  (104, .tup [([.i .i64, .i .i64, .i .i64, .i .i64, .i .i64, .i .i64, .i .i64, .s], true), ([.b], false)]),
  (113, .agg [.i .i64, .x]),
  (116, .agg [.i .i64, .x]),
  (124, .agg [.x, .i .i64])]
def vfTab : List (Nat × VT) := [(2, .one (.i .i64)),
  (3, .one (.i .i64)),
  (4, .one (.b)),
  (5, .one (.i .u8)),
  (9, .one (.s)),
  (22, .one (.f)),
  (24, .agg [.i .i64, .f]),
  (33, .agg [.i .i64, .i .i64, .f]),
  (45, .agg [.i .i64, .i .i64]),
  (56, .agg [.i .i64, .i .i64, .i .i64, .s]),
  (58, .agg [.i .i64, .i .i64, .i .i64, .i .i64, .i .i64, .i .i64, .i .i64, .s]),
  (66, .one (.f)),
  (68, .agg [.i .i64, .f]),
  (72, .one (.f)),
  (113, .agg [.i .i64, .f]),
  (116, .agg [.i .i64, .f]),
  (124, .agg [.f, .i .i64]),
  (126, .one (.f)),
  (127, .one (.f))]
def rtTab : List (Nat × VT) := [(115, .one (.i .i64)),
  (116, .one (.i .i64)),
  (119, .one (.i .i64)),
  (121, .one (.i .i64)),
  (117, .one (.b)),
  (118, .one (.b)),
  (67, .one (.i .i64)),
  (120, .one (.b)),
  (68, .one (.b)),
  (69, .one (.f)),
  (15, .agg [.i .i64, .f]),
  (16, .one (.f)),
  (77, .one (.i .i64)),
  (81, .tup [([.i .i64], false), ([.i .i64], false)]),
  (39, .one (.i .i64)),
  (70, .one (.b)),
  (71, .one (.f)),
  (72, .one (.f)),
  (17, .agg [.i .i64, .f]),
  (19, .one (.b)),
  (18, .one (.b)),
  (20, .one (.i .i64)),
  (21, .one (.i .i64)),
  (73, .one (.i .i64)),
  (22, .one (.i .i64)),
  (3, .one (.b)),
  (74, .agg [.i .i64, .i .i64, .f]),
  (114, .one (.f)),
  (75, .one (.f)),
  (23, .agg [.i .i64, .i .i64, .f]),
  (24, .agg [.i .i64, .i .i64, .f]),
  (25, .one (.b)),
  (26, .one (.i .i64)),
  (27, .one (.i .i64)),
  (4, .one (.b)),
  (76, .one (.f)),
  (28, .agg [.i .i64, .i .i64, .f]),
  (29, .agg [.i .i64, .i .i64, .f]),
  (5, .one (.b)),
  (78, .one (.b)),
  (123, .one (.i .i64)),
  (79, .tup [([.f], false), ([.i .i64], false)]),
  (30, .agg [.i .i64, .i .i64, .f]),
  (80, .one (.i .i64)),
  (82, .one (.f)),
  (83, .one (.i .i64)),
  (31, .agg [.i .i64, .i .i64, .f]),
  (6, .one (.b)),
  (124, .one (.i .i64)),
  (84, .tup [([.f], false), ([.i .i64], false), ([.i .i64], false)]),
  (32, .agg [.i .i64, .i .i64, .f]),
  (33, .agg [.i .i64, .i .i64, .f]),
  (7, .one (.b)),
  (34, .one (.b)),
  (94, .one (.i .i64)),
  (88, .one (.i .i64)),
  (126, .one (.f)),
  (130, .one (.f)),
  (131, .one (.b)),
  (125, .one (.f)),
  (86, .one (.f)),
  (87, .one (.f)),
  (35, .tup [([.f], false), ([.f], false)]),
  (36, .agg [.i .i64, .i .i64]),
  (37, .one (.b)),
  (38, .one (.b)),
  (8, .one (.b)),
  (40, .one (.f)),
  (41, .one (.i .u8)),
  (89, .one (.f)),
  (42, .agg [.i .i64, .i .i64, .f]),
  (9, .one (.b)),
  (90, .tup [([.f], false), ([.i .i64], false)]),
  (43, .tup [([.f], false), ([.i .i64], false), ([.f], false)]),
  (44, .tup [([.f], false), ([.i .i64], false)]),
  (10, .one (.b)),
  (92, .agg [.i .i64, .i .i64, .i .i64, .s]),
  (93, .one (.f)),
  (95, .one (.f)),
  (45, .one (.f)),
  (98, .one (.b)),
  (96, .one (.i .i64)),
  (46, .agg [.i .i64, .i .i64, .i .i64, .i .i64, .i .i64, .i .i64, .i .i64, .s]),
  (101, .one (.b)),
  (127, .one (.b)),
  (103, .one (.i .i64)),
  (97, .tup [([.i .i64, .i .i64, .i .i64, .i .i64, .i .i64, .i .i64, .i .i64, .s], true), ([.b], false)]),
  (47, .agg [.i .i64, .i .i64, .i .i64, .i .i64, .i .i64, .i .i64, .i .i64, .s]),
  (99, .one (.f)),
  (48, .agg [.i .i64, .f]),
  (100, .one (.f)),
  (49, .agg [.i .i64, .f]),
  (50, .tup [([.i .i64], false), ([.i .i64], false)]),
  (51, .agg [.i .i64, .f]),
  (102, .agg [.i .i64, .i .i64, .i .i64, .s]),
  (52, .tup [([.i .i64], false), ([.i .i64, .i .i64, .i .i64, .s], true)]),
  (53, .agg [.i .i64, .f]),
  (11, .one (.b)),
  (104, .one (.f)),
  (54, .agg [.i .i64, .f]),
  (105, .one (.f)),
  (55, .agg [.i .i64, .f]),
  (113, .one (.b)),
  (63, .one (.b)),
  (56, .one (.b)),
  (64, .one (.i .i64)),
  (57, .one (.i .i64)),
  (106, .one (.i .i64)),
  (58, .one (.i .i64)),
  (12, .one (.b)),
  (128, .one (.i .i64)),
  (107, .one (.i .i64)),
  (59, .one (.i .i64)),
  (129, .one (.i .i64)),
  (108, .one (.i .i64)),
  (109, .one (.f)),
  (60, .agg [.i .i64, .f]),
  (110, .agg [.i .i64, .f]),
  (61, .one (.f)),
  (111, .one (.i .i64)),
  (112, .one (.f)),
  (62, .agg [.i .i64, .f]),
  (13, .one (.b)),
  (65, .agg [.i .i64, .f]),
  (66, .agg [.i .i64, .f]),
  (14, .one (.b))]
def stTab : List (Nat × VT) := [(67000, .one (.f)),
  (67003, .one (.i .i64)),
  (67005, .one (.i .i64)),
  (39000, .one (.f)),
  (39003, .one (.i .i64)),
  (39066, .one (.i .i64)),
  (39067, .one (.i .i64)),
  (20001, .one (.i .i64)),
  (73001, .one (.i .i64)),
  (24001, .one (.i .i64)),
  (76005, .one (.i .i64)),
  (29006, .one (.i .i64)),
  (123003, .one (.i .i64)),
  (83003, .one (.i .i64)),
  (124000, .one (.f)),
  (33000, .one (.f)),
  (33001, .one (.f)),
  (33006, .one (.i .i64)),
  (33007, .one (.i .i64)),
  (127000, .one (.s)),
  (105000, .one (.f)),
  (105001, .one (.f)),
  (105006, .one (.i .i64)),
  (105007, .one (.i .i64)),
  (64001, .one (.i .i64)),
  (106001, .one (.i .i64)),
  (59001, .one (.i .i64))]
noncomputable def Ev : Env where
  fn := tab fnTab
  ty := tab tyTab
  keep := fun f i => (tab keepTab (f * 1000 + i)).getD []
  aft := fun f i => (tab aftTab (f * 1000 + i)).getD []
  sched := fun f i => (tab schedTab (f * 1000 + i)).getD []
  kills := fun f i => (tab killTab (f * 1000 + i)).getD []
  mode := fun f i => (tab modeTab (f * 1000 + i)).getD 0
  psz := fun f => (tab pszTab f).getD []
  vt := fun t => (tab vtTab t).getD .any
  vf := fun t => (tab vfTab t).getD .any
  rt := fun f => (tab rtTab f).getD .any
  st := fun f i => (tab stTab (f * 1000 + i)).getD .any
namespace Lp
noncomputable def spec_l2Fault (id : Nat) (l : List V) (h : H) : Option LOut := loop Ev Fn.spec_l2Fault Go.Proofs.Try.f67 id (lbody Go.Proofs.Try.f67 id) l h
noncomputable def laws_toByteS (id : Nat) (l : List V) (h : H) : Option LOut := loop Ev Fn.laws_toByteS Go.Proofs.Try.f16 id (lbody Go.Proofs.Try.f16 id) l h
noncomputable def impl_PageFault (id : Nat) (l : List V) (h : H) : Option LOut := loop Ev Fn.impl_PageFault Go.Proofs.Try.f39 id (lbody Go.Proofs.Try.f39 id) l h
noncomputable def laws_eqByteS (id : Nat) (l : List V) (h : H) : Option LOut := loop Ev Fn.laws_eqByteS Go.Proofs.Try.f19 id (lbody Go.Proofs.Try.f19 id) l h
noncomputable def laws_markByteS (id : Nat) (l : List V) (h : H) : Option LOut := loop Ev Fn.laws_markByteS Go.Proofs.Try.f20 id (lbody Go.Proofs.Try.f20 id) l h
noncomputable def laws_heldByteS (id : Nat) (l : List V) (h : H) : Option LOut := loop Ev Fn.laws_heldByteS Go.Proofs.Try.f73 id (lbody Go.Proofs.Try.f73 id) l h
noncomputable def spec_l2Drop (id : Nat) (l : List V) (h : H) : Option LOut := loop Ev Fn.spec_l2Drop Go.Proofs.Try.f75 id (lbody Go.Proofs.Try.f75 id) l h
noncomputable def impl_DropSlot (id : Nat) (l : List V) (h : H) : Option LOut := loop Ev Fn.impl_DropSlot Go.Proofs.Try.f24 id (lbody Go.Proofs.Try.f24 id) l h
noncomputable def spec_l2Compact (id : Nat) (l : List V) (h : H) : Option LOut := loop Ev Fn.spec_l2Compact Go.Proofs.Try.f76 id (lbody Go.Proofs.Try.f76 id) l h
noncomputable def impl_CompactPage (id : Nat) (l : List V) (h : H) : Option LOut := loop Ev Fn.impl_CompactPage Go.Proofs.Try.f29 id (lbody Go.Proofs.Try.f29 id) l h
noncomputable def spec_l2Free (id : Nat) (l : List V) (h : H) : Option LOut := loop Ev Fn.spec_l2Free Go.Proofs.Try.f123 id (lbody Go.Proofs.Try.f123 id) l h
noncomputable def impl_freeIn (id : Nat) (l : List V) (h : H) : Option LOut := loop Ev Fn.impl_freeIn Go.Proofs.Try.f83 id (lbody Go.Proofs.Try.f83 id) l h
noncomputable def spec_l2Empty (id : Nat) (l : List V) (h : H) : Option LOut := loop Ev Fn.spec_l2Empty Go.Proofs.Try.f124 id (lbody Go.Proofs.Try.f124 id) l h
noncomputable def impl_PutSlot (id : Nat) (l : List V) (h : H) : Option LOut := loop Ev Fn.impl_PutSlot Go.Proofs.Try.f33 id (lbody Go.Proofs.Try.f33 id) l h
noncomputable def spec_l1Some (id : Nat) (l : List V) (h : H) : Option LOut := loop Ev Fn.spec_l1Some Go.Proofs.Try.f126 id (lbody Go.Proofs.Try.f126 id) l h
noncomputable def spec_l2New (id : Nat) (l : List V) (h : H) : Option LOut := loop Ev Fn.spec_l2New Go.Proofs.Try.f130 id (lbody Go.Proofs.Try.f130 id) l h
noncomputable def spec_l2Right (id : Nat) (l : List V) (h : H) : Option LOut := loop Ev Fn.spec_l2Right Go.Proofs.Try.f125 id (lbody Go.Proofs.Try.f125 id) l h
noncomputable def laws_lwOthers (id : Nat) (l : List V) (h : H) : Option LOut := loop Ev Fn.laws_lwOthers Go.Proofs.Try.f38 id (lbody Go.Proofs.Try.f38 id) l h
noncomputable def impl_newPage (id : Nat) (l : List V) (h : H) : Option LOut := loop Ev Fn.impl_newPage Go.Proofs.Try.f89 id (lbody Go.Proofs.Try.f89 id) l h
noncomputable def impl_RowFault (id : Nat) (l : List V) (h : H) : Option LOut := loop Ev Fn.impl_RowFault Go.Proofs.Try.f96 id (lbody Go.Proofs.Try.f96 id) l h
noncomputable def spec_l1Text (id : Nat) (l : List V) (h : H) : Option LOut := loop Ev Fn.spec_l1Text Go.Proofs.Try.f127 id (lbody Go.Proofs.Try.f127 id) l h
noncomputable def spec_l3Diff (id : Nat) (l : List V) (h : H) : Option LOut := loop Ev Fn.spec_l3Diff Go.Proofs.Try.f104 id (lbody Go.Proofs.Try.f104 id) l h
noncomputable def impl_diff (id : Nat) (l : List V) (h : H) : Option LOut := loop Ev Fn.impl_diff Go.Proofs.Try.f105 id (lbody Go.Proofs.Try.f105 id) l h
noncomputable def laws_eqRunS (id : Nat) (l : List V) (h : H) : Option LOut := loop Ev Fn.laws_eqRunS Go.Proofs.Try.f63 id (lbody Go.Proofs.Try.f63 id) l h
noncomputable def laws_markRunS (id : Nat) (l : List V) (h : H) : Option LOut := loop Ev Fn.laws_markRunS Go.Proofs.Try.f64 id (lbody Go.Proofs.Try.f64 id) l h
noncomputable def laws_heldRunS (id : Nat) (l : List V) (h : H) : Option LOut := loop Ev Fn.laws_heldRunS Go.Proofs.Try.f106 id (lbody Go.Proofs.Try.f106 id) l h
noncomputable def laws_szRunS (id : Nat) (l : List V) (h : H) : Option LOut := loop Ev Fn.laws_szRunS Go.Proofs.Try.f59 id (lbody Go.Proofs.Try.f59 id) l h
noncomputable def spec_l3Fault (id : Nat) (l : List V) (h : H) : Option LOut := loop Ev Fn.spec_l3Fault Go.Proofs.Try.f129 id (lbody Go.Proofs.Try.f129 id) l h
noncomputable def spec_l3Apply (id : Nat) (l : List V) (h : H) : Option LOut := loop Ev Fn.spec_l3Apply Go.Proofs.Try.f109 id (lbody Go.Proofs.Try.f109 id) l h
noncomputable def laws_toRunS (id : Nat) (l : List V) (h : H) : Option LOut := loop Ev Fn.laws_toRunS Go.Proofs.Try.f61 id (lbody Go.Proofs.Try.f61 id) l h
noncomputable def impl_RunsFault (id : Nat) (l : List V) (h : H) : Option LOut := loop Ev Fn.impl_RunsFault Go.Proofs.Try.f111 id (lbody Go.Proofs.Try.f111 id) l h
noncomputable def impl_applied (id : Nat) (l : List V) (h : H) : Option LOut := loop Ev Fn.impl_applied Go.Proofs.Try.f112 id (lbody Go.Proofs.Try.f112 id) l h
noncomputable def spec_InverseRuns (id : Nat) (l : List V) (h : H) : Option LOut := loop Ev Fn.spec_InverseRuns Go.Proofs.Try.f65 id (lbody Go.Proofs.Try.f65 id) l h
noncomputable def impl_InverseRuns (id : Nat) (l : List V) (h : H) : Option LOut := loop Ev Fn.impl_InverseRuns Go.Proofs.Try.f66 id (lbody Go.Proofs.Try.f66 id) l h
end Lp
theorem ty2 : TyOk Go.Proofs.Try.prog 2 ⟨1, 8, [.int .i64 0], false, .int .i64, false⟩ := ⟨by kernel_rfl, by kernel_rfl, ⟨by decide, by rfl⟩, by kernel_rfl, by kernel_rfl⟩
theorem ty3 : TyOk Go.Proofs.Try.prog 3 ⟨1, 8, [.int .i64 0], false, .int .i64, false⟩ := ⟨by kernel_rfl, by kernel_rfl, ⟨by decide, by rfl⟩, by kernel_rfl, by kernel_rfl⟩
theorem ty4 : TyOk Go.Proofs.Try.prog 4 ⟨1, 1, [.bool false], false, .bool, false⟩ := ⟨by kernel_rfl, by kernel_rfl, ⟨by decide, by rfl⟩, by kernel_rfl, by kernel_rfl⟩
theorem ty5 : TyOk Go.Proofs.Try.prog 5 ⟨1, 1, [.int .u8 0], false, .int .u8, false⟩ := ⟨by kernel_rfl, by kernel_rfl, ⟨by decide, by rfl⟩, by kernel_rfl, by kernel_rfl⟩
theorem ty9 : TyOk Go.Proofs.Try.prog 9 ⟨1, 16, [.str ⟨#[]⟩], false, .str, false⟩ := ⟨by kernel_rfl, by kernel_rfl, ⟨by decide, by rfl⟩, by kernel_rfl, by kernel_rfl⟩
theorem ty22 : TyOk Go.Proofs.Try.prog 22 ⟨1, 24, [.sl none 0], false, .sl 5, false⟩ := ⟨by kernel_rfl, by kernel_rfl, ⟨by decide, by rfl⟩, by kernel_rfl, by kernel_rfl⟩
theorem ty24 : TyOk Go.Proofs.Try.prog 24 ⟨2, 32, [.int .i64 0, .sl none 0], true, .st [(0, 2), (1, 22)], false⟩ := ⟨by kernel_rfl, by kernel_rfl, ⟨by decide, by rfl⟩, by kernel_rfl, by kernel_rfl⟩
theorem ty33 : TyOk Go.Proofs.Try.prog 33 ⟨3, 40, [.int .i64 0, .int .i64 0, .sl none 0], true, .st [(0, 2), (1, 2), (2, 22)], false⟩ := ⟨by kernel_rfl, by kernel_rfl, ⟨by decide, by rfl⟩, by kernel_rfl, by kernel_rfl⟩
theorem ty45 : TyOk Go.Proofs.Try.prog 45 ⟨2, 16, [.int .i64 0, .int .i64 0], true, .st [(0, 2), (1, 2)], true⟩ := ⟨by kernel_rfl, by kernel_rfl, ⟨by decide, by rfl⟩, by kernel_rfl, by kernel_rfl⟩
theorem ty56 : TyOk Go.Proofs.Try.prog 56 ⟨4, 40, [.int .i64 0, .int .i64 0, .int .i64 0, .str ⟨#[]⟩], true, .st [(0, 2), (1, 2), (2, 2), (3, 9)], true⟩ := ⟨by kernel_rfl, by kernel_rfl, ⟨by decide, by rfl⟩, by kernel_rfl, by kernel_rfl⟩
theorem ty58 : TyOk Go.Proofs.Try.prog 58 ⟨8, 72, [.int .i64 0, .int .i64 0, .int .i64 0, .int .i64 0, .int .i64 0, .int .i64 0, .int .i64 0, .str ⟨#[]⟩], true, .st [(0, 2), (1, 2), (2, 2), (3, 2), (4, 56)], true⟩ := ⟨by kernel_rfl, by kernel_rfl, ⟨by decide, by rfl⟩, by kernel_rfl, by kernel_rfl⟩
theorem ty66 : TyOk Go.Proofs.Try.prog 66 ⟨1, 24, [.sl none 0], false, .sl 116, false⟩ := ⟨by kernel_rfl, by kernel_rfl, ⟨by decide, by rfl⟩, by kernel_rfl, by kernel_rfl⟩
theorem ty68 : TyOk Go.Proofs.Try.prog 68 ⟨2, 32, [.int .i64 0, .sl none 0], true, .st [(0, 2), (1, 66)], false⟩ := ⟨by kernel_rfl, by kernel_rfl, ⟨by decide, by rfl⟩, by kernel_rfl, by kernel_rfl⟩
theorem ty72 : TyOk Go.Proofs.Try.prog 72 ⟨1, 24, [.sl none 0], false, .sl 113, false⟩ := ⟨by kernel_rfl, by kernel_rfl, ⟨by decide, by rfl⟩, by kernel_rfl, by kernel_rfl⟩
theorem ty90 : TyOk Go.Proofs.Try.prog 90 ⟨1, 8, [.ptr none], false, .ptr, false⟩ := ⟨by kernel_rfl, by kernel_rfl, ⟨by decide, by rfl⟩, by kernel_rfl, by kernel_rfl⟩
theorem ty93 : TyOk Go.Proofs.Try.prog 93 ⟨64, 64, [.bool false, .bool false, .bool false, .bool false, .bool false, .bool false, .bool false, .bool false, .bool false, .bool false, .bool false, .bool false, .bool false, .bool false, .bool false, .bool false, .bool false, .bool false, .bool false, .bool false, .bool false, .bool false, .bool false, .bool false, .bool false, .bool false, .bool false, .bool false, .bool false, .bool false, .bool false, .bool false, .bool false, .bool false, .bool false, .bool false, .bool false, .bool false, .bool false, .bool false, .bool false, .bool false, .bool false, .bool false, .bool false, .bool false, .bool false, .bool false, .bool false, .bool false, .bool false, .bool false, .bool false, .bool false, .bool false, .bool false, .bool false, .bool false, .bool false, .bool false, .bool false, .bool false, .bool false, .bool false], true, .arr 64 4, false⟩ := ⟨by kernel_rfl, by kernel_rfl, ⟨by decide, by rfl⟩, by kernel_rfl, by kernel_rfl⟩
theorem ty99 : TyOk Go.Proofs.Try.prog 99 ⟨1, 8, [.ptr none], false, .ptr, false⟩ := ⟨by kernel_rfl, by kernel_rfl, ⟨by decide, by rfl⟩, by kernel_rfl, by kernel_rfl⟩
theorem ty113 : TyOk Go.Proofs.Try.prog 113 ⟨2, 32, [.int .i64 0, .sl none 0], true, .st [(0, 2), (1, 22)], false⟩ := ⟨by kernel_rfl, by kernel_rfl, ⟨by decide, by rfl⟩, by kernel_rfl, by kernel_rfl⟩
theorem ty116 : TyOk Go.Proofs.Try.prog 116 ⟨2, 32, [.int .i64 0, .sl none 0], true, .st [(0, 2), (1, 22)], false⟩ := ⟨by kernel_rfl, by kernel_rfl, ⟨by decide, by rfl⟩, by kernel_rfl, by kernel_rfl⟩
theorem ty124 : TyOk Go.Proofs.Try.prog 124 ⟨2, 32, [.sl none 0, .int .i64 0], true, .st [(0, 22), (1, 2)], false⟩ := ⟨by kernel_rfl, by kernel_rfl, ⟨by decide, by rfl⟩, by kernel_rfl, by kernel_rfl⟩
theorem ty126 : TyOk Go.Proofs.Try.prog 126 ⟨1, 24, [.sl none 0], false, .sl 2, false⟩ := ⟨by kernel_rfl, by kernel_rfl, ⟨by decide, by rfl⟩, by kernel_rfl, by kernel_rfl⟩
theorem ty127 : TyOk Go.Proofs.Try.prog 127 ⟨1, 24, [.sl none 0], false, .sl 9, false⟩ := ⟨by kernel_rfl, by kernel_rfl, ⟨by decide, by rfl⟩, by kernel_rfl, by kernel_rfl⟩
def FnOk (f : Nat) (fn : Func) : Prop := Go.Proofs.Try.prog.funcs[f]? = some fn ∧ (fn.name == "runtime.NumGoroutine") = false ∧ ∀ c, fn.body = some c → wfCode Ev f fn.ntmps c = true
noncomputable def wfB (f : Nat) (fn : Func) : Bool := match fn.body with | none => true | some c => wfCode Ev f fn.ntmps c
theorem FnOk.of {f : Nat} {fn : Func} (h1 : Go.Proofs.Try.prog.funcs[f]? = some fn) (h2 : (fn.name == "runtime.NumGoroutine") = false) (h3 : wfB f fn = true) : FnOk f fn := ⟨h1, h2, fun c hc => by unfold wfB at h3; rw [hc] at h3; exact h3⟩
theorem fok115 : FnOk 115 Go.Proofs.Try.f115 := .of Go.Proofs.Try.func115 (by kernel_rfl) (by kernel_rfl)
theorem fok116 : FnOk 116 Go.Proofs.Try.f116 := .of Go.Proofs.Try.func116 (by kernel_rfl) (by kernel_rfl)
theorem fok119 : FnOk 119 Go.Proofs.Try.f119 := .of Go.Proofs.Try.func119 (by kernel_rfl) (by kernel_rfl)
theorem fok121 : FnOk 121 Go.Proofs.Try.f121 := .of Go.Proofs.Try.func121 (by kernel_rfl) (by kernel_rfl)
theorem fok117 : FnOk 117 Go.Proofs.Try.f117 := .of Go.Proofs.Try.func117 (by kernel_rfl) (by kernel_rfl)
theorem fok118 : FnOk 118 Go.Proofs.Try.f118 := .of Go.Proofs.Try.func118 (by kernel_rfl) (by kernel_rfl)
theorem fok67 : FnOk 67 Go.Proofs.Try.f67 := .of Go.Proofs.Try.func67 (by kernel_rfl) (by kernel_rfl)
theorem fok120 : FnOk 120 Go.Proofs.Try.f120 := .of Go.Proofs.Try.func120 (by kernel_rfl) (by kernel_rfl)
theorem fok68 : FnOk 68 Go.Proofs.Try.f68 := .of Go.Proofs.Try.func68 (by kernel_rfl) (by kernel_rfl)
theorem fok69 : FnOk 69 Go.Proofs.Try.f69 := .of Go.Proofs.Try.func69 (by kernel_rfl) (by kernel_rfl)
theorem fok15 : FnOk 15 Go.Proofs.Try.f15 := .of Go.Proofs.Try.func15 (by kernel_rfl) (by kernel_rfl)
theorem fok16 : FnOk 16 Go.Proofs.Try.f16 := .of Go.Proofs.Try.func16 (by kernel_rfl) (by kernel_rfl)
theorem fok77 : FnOk 77 Go.Proofs.Try.f77 := .of Go.Proofs.Try.func77 (by kernel_rfl) (by kernel_rfl)
theorem fok81 : FnOk 81 Go.Proofs.Try.f81 := .of Go.Proofs.Try.func81 (by kernel_rfl) (by kernel_rfl)
theorem fok39 : FnOk 39 Go.Proofs.Try.f39 := .of Go.Proofs.Try.func39 (by kernel_rfl) (by kernel_rfl)
theorem fok70 : FnOk 70 Go.Proofs.Try.f70 := .of Go.Proofs.Try.func70 (by kernel_rfl) (by kernel_rfl)
theorem fok71 : FnOk 71 Go.Proofs.Try.f71 := .of Go.Proofs.Try.func71 (by kernel_rfl) (by kernel_rfl)
theorem fok72 : FnOk 72 Go.Proofs.Try.f72 := .of Go.Proofs.Try.func72 (by kernel_rfl) (by kernel_rfl)
theorem fok17 : FnOk 17 Go.Proofs.Try.f17 := .of Go.Proofs.Try.func17 (by kernel_rfl) (by kernel_rfl)
theorem fok19 : FnOk 19 Go.Proofs.Try.f19 := .of Go.Proofs.Try.func19 (by kernel_rfl) (by kernel_rfl)
theorem fok18 : FnOk 18 Go.Proofs.Try.f18 := .of Go.Proofs.Try.func18 (by kernel_rfl) (by kernel_rfl)
theorem fok20 : FnOk 20 Go.Proofs.Try.f20 := .of Go.Proofs.Try.func20 (by kernel_rfl) (by kernel_rfl)
theorem fok21 : FnOk 21 Go.Proofs.Try.f21 := .of Go.Proofs.Try.func21 (by kernel_rfl) (by kernel_rfl)
theorem fok73 : FnOk 73 Go.Proofs.Try.f73 := .of Go.Proofs.Try.func73 (by kernel_rfl) (by kernel_rfl)
theorem fok22 : FnOk 22 Go.Proofs.Try.f22 := .of Go.Proofs.Try.func22 (by kernel_rfl) (by kernel_rfl)
theorem fok3 : FnOk 3 Go.Proofs.Try.f3 := .of Go.Proofs.Try.func3 (by kernel_rfl) (by kernel_rfl)
theorem fok74 : FnOk 74 Go.Proofs.Try.f74 := .of Go.Proofs.Try.func74 (by kernel_rfl) (by kernel_rfl)
theorem fok114 : FnOk 114 Go.Proofs.Try.f114 := .of Go.Proofs.Try.func114 (by kernel_rfl) (by kernel_rfl)
theorem fok75 : FnOk 75 Go.Proofs.Try.f75 := .of Go.Proofs.Try.func75 (by kernel_rfl) (by kernel_rfl)
theorem fok23 : FnOk 23 Go.Proofs.Try.f23 := .of Go.Proofs.Try.func23 (by kernel_rfl) (by kernel_rfl)
theorem fok24 : FnOk 24 Go.Proofs.Try.f24 := .of Go.Proofs.Try.func24 (by kernel_rfl) (by kernel_rfl)
theorem fok25 : FnOk 25 Go.Proofs.Try.f25 := .of Go.Proofs.Try.func25 (by kernel_rfl) (by kernel_rfl)
theorem fok26 : FnOk 26 Go.Proofs.Try.f26 := .of Go.Proofs.Try.func26 (by kernel_rfl) (by kernel_rfl)
theorem fok27 : FnOk 27 Go.Proofs.Try.f27 := .of Go.Proofs.Try.func27 (by kernel_rfl) (by kernel_rfl)
theorem fok4 : FnOk 4 Go.Proofs.Try.f4 := .of Go.Proofs.Try.func4 (by kernel_rfl) (by kernel_rfl)
theorem fok122 : FnOk 122 Go.Proofs.Try.f122 := .of Go.Proofs.Try.func122 (by kernel_rfl) (by kernel_rfl)
theorem fok76 : FnOk 76 Go.Proofs.Try.f76 := .of Go.Proofs.Try.func76 (by kernel_rfl) (by kernel_rfl)
theorem fok28 : FnOk 28 Go.Proofs.Try.f28 := .of Go.Proofs.Try.func28 (by kernel_rfl) (by kernel_rfl)
theorem fok29 : FnOk 29 Go.Proofs.Try.f29 := .of Go.Proofs.Try.func29 (by kernel_rfl) (by kernel_rfl)
theorem fok5 : FnOk 5 Go.Proofs.Try.f5 := .of Go.Proofs.Try.func5 (by kernel_rfl) (by kernel_rfl)
theorem fok78 : FnOk 78 Go.Proofs.Try.f78 := .of Go.Proofs.Try.func78 (by kernel_rfl) (by kernel_rfl)
theorem fok123 : FnOk 123 Go.Proofs.Try.f123 := .of Go.Proofs.Try.func123 (by kernel_rfl) (by kernel_rfl)
theorem fok79 : FnOk 79 Go.Proofs.Try.f79 := .of Go.Proofs.Try.func79 (by kernel_rfl) (by kernel_rfl)
theorem fok30 : FnOk 30 Go.Proofs.Try.f30 := .of Go.Proofs.Try.func30 (by kernel_rfl) (by kernel_rfl)
theorem fok80 : FnOk 80 Go.Proofs.Try.f80 := .of Go.Proofs.Try.func80 (by kernel_rfl) (by kernel_rfl)
theorem fok82 : FnOk 82 Go.Proofs.Try.f82 := .of Go.Proofs.Try.func82 (by kernel_rfl) (by kernel_rfl)
theorem fok83 : FnOk 83 Go.Proofs.Try.f83 := .of Go.Proofs.Try.func83 (by kernel_rfl) (by kernel_rfl)
theorem fok31 : FnOk 31 Go.Proofs.Try.f31 := .of Go.Proofs.Try.func31 (by kernel_rfl) (by kernel_rfl)
theorem fok6 : FnOk 6 Go.Proofs.Try.f6 := .of Go.Proofs.Try.func6 (by kernel_rfl) (by kernel_rfl)
theorem fok124 : FnOk 124 Go.Proofs.Try.f124 := .of Go.Proofs.Try.func124 (by kernel_rfl) (by kernel_rfl)
theorem fok84 : FnOk 84 Go.Proofs.Try.f84 := .of Go.Proofs.Try.func84 (by kernel_rfl) (by kernel_rfl)
theorem fok32 : FnOk 32 Go.Proofs.Try.f32 := .of Go.Proofs.Try.func32 (by kernel_rfl) (by kernel_rfl)
theorem fok33 : FnOk 33 Go.Proofs.Try.f33 := .of Go.Proofs.Try.func33 (by kernel_rfl) (by kernel_rfl)
theorem fok7 : FnOk 7 Go.Proofs.Try.f7 := .of Go.Proofs.Try.func7 (by kernel_rfl) (by kernel_rfl)
theorem fok34 : FnOk 34 Go.Proofs.Try.f34 := .of Go.Proofs.Try.func34 (by kernel_rfl) (by kernel_rfl)
theorem fok85 : FnOk 85 Go.Proofs.Try.f85 := .of Go.Proofs.Try.func85 (by kernel_rfl) (by kernel_rfl)
theorem fok94 : FnOk 94 Go.Proofs.Try.f94 := .of Go.Proofs.Try.func94 (by kernel_rfl) (by kernel_rfl)
theorem fok88 : FnOk 88 Go.Proofs.Try.f88 := .of Go.Proofs.Try.func88 (by kernel_rfl) (by kernel_rfl)
theorem fok126 : FnOk 126 Go.Proofs.Try.f126 := .of Go.Proofs.Try.func126 (by kernel_rfl) (by kernel_rfl)
theorem fok130 : FnOk 130 Go.Proofs.Try.f130 := .of Go.Proofs.Try.func130 (by kernel_rfl) (by kernel_rfl)
theorem fok131 : FnOk 131 Go.Proofs.Try.f131 := .of Go.Proofs.Try.func131 (by kernel_rfl) (by kernel_rfl)
theorem fok125 : FnOk 125 Go.Proofs.Try.f125 := .of Go.Proofs.Try.func125 (by kernel_rfl) (by kernel_rfl)
theorem fok86 : FnOk 86 Go.Proofs.Try.f86 := .of Go.Proofs.Try.func86 (by kernel_rfl) (by kernel_rfl)
theorem fok87 : FnOk 87 Go.Proofs.Try.f87 := .of Go.Proofs.Try.func87 (by kernel_rfl) (by kernel_rfl)
theorem fok35 : FnOk 35 Go.Proofs.Try.f35 := .of Go.Proofs.Try.func35 (by kernel_rfl) (by kernel_rfl)
theorem fok36 : FnOk 36 Go.Proofs.Try.f36 := .of Go.Proofs.Try.func36 (by kernel_rfl) (by kernel_rfl)
theorem fok37 : FnOk 37 Go.Proofs.Try.f37 := .of Go.Proofs.Try.func37 (by kernel_rfl) (by kernel_rfl)
theorem fok38 : FnOk 38 Go.Proofs.Try.f38 := .of Go.Proofs.Try.func38 (by kernel_rfl) (by kernel_rfl)
theorem fok8 : FnOk 8 Go.Proofs.Try.f8 := .of Go.Proofs.Try.func8 (by kernel_rfl) (by kernel_rfl)
theorem fok40 : FnOk 40 Go.Proofs.Try.f40 := .of Go.Proofs.Try.func40 (by kernel_rfl) (by kernel_rfl)
theorem fok41 : FnOk 41 Go.Proofs.Try.f41 := .of Go.Proofs.Try.func41 (by kernel_rfl) (by kernel_rfl)
theorem fok89 : FnOk 89 Go.Proofs.Try.f89 := .of Go.Proofs.Try.func89 (by kernel_rfl) (by kernel_rfl)
theorem fok42 : FnOk 42 Go.Proofs.Try.f42 := .of Go.Proofs.Try.func42 (by kernel_rfl) (by kernel_rfl)
theorem fok9 : FnOk 9 Go.Proofs.Try.f9 := .of Go.Proofs.Try.func9 (by kernel_rfl) (by kernel_rfl)
theorem fok90 : FnOk 90 Go.Proofs.Try.f90 := .of Go.Proofs.Try.func90 (by kernel_rfl) (by kernel_rfl)
theorem fok91 : FnOk 91 Go.Proofs.Try.f91 := .of Go.Proofs.Try.func91 (by kernel_rfl) (by kernel_rfl)
theorem fok43 : FnOk 43 Go.Proofs.Try.f43 := .of Go.Proofs.Try.func43 (by kernel_rfl) (by kernel_rfl)
theorem fok44 : FnOk 44 Go.Proofs.Try.f44 := .of Go.Proofs.Try.func44 (by kernel_rfl) (by kernel_rfl)
theorem fok10 : FnOk 10 Go.Proofs.Try.f10 := .of Go.Proofs.Try.func10 (by kernel_rfl) (by kernel_rfl)
theorem fok92 : FnOk 92 Go.Proofs.Try.f92 := .of Go.Proofs.Try.func92 (by kernel_rfl) (by kernel_rfl)
theorem fok93 : FnOk 93 Go.Proofs.Try.f93 := .of Go.Proofs.Try.func93 (by kernel_rfl) (by kernel_rfl)
theorem fok95 : FnOk 95 Go.Proofs.Try.f95 := .of Go.Proofs.Try.func95 (by kernel_rfl) (by kernel_rfl)
theorem fok45 : FnOk 45 Go.Proofs.Try.f45 := .of Go.Proofs.Try.func45 (by kernel_rfl) (by kernel_rfl)
theorem fok98 : FnOk 98 Go.Proofs.Try.f98 := .of Go.Proofs.Try.func98 (by kernel_rfl) (by kernel_rfl)
theorem fok96 : FnOk 96 Go.Proofs.Try.f96 := .of Go.Proofs.Try.func96 (by kernel_rfl) (by kernel_rfl)
theorem fok46 : FnOk 46 Go.Proofs.Try.f46 := .of Go.Proofs.Try.func46 (by kernel_rfl) (by kernel_rfl)
theorem fok101 : FnOk 101 Go.Proofs.Try.f101 := .of Go.Proofs.Try.func101 (by kernel_rfl) (by kernel_rfl)
theorem fok127 : FnOk 127 Go.Proofs.Try.f127 := .of Go.Proofs.Try.func127 (by kernel_rfl) (by kernel_rfl)
theorem fok103 : FnOk 103 Go.Proofs.Try.f103 := .of Go.Proofs.Try.func103 (by kernel_rfl) (by kernel_rfl)
theorem fok97 : FnOk 97 Go.Proofs.Try.f97 := .of Go.Proofs.Try.func97 (by kernel_rfl) (by kernel_rfl)
theorem fok47 : FnOk 47 Go.Proofs.Try.f47 := .of Go.Proofs.Try.func47 (by kernel_rfl) (by kernel_rfl)
theorem fok99 : FnOk 99 Go.Proofs.Try.f99 := .of Go.Proofs.Try.func99 (by kernel_rfl) (by kernel_rfl)
theorem fok48 : FnOk 48 Go.Proofs.Try.f48 := .of Go.Proofs.Try.func48 (by kernel_rfl) (by kernel_rfl)
theorem fok100 : FnOk 100 Go.Proofs.Try.f100 := .of Go.Proofs.Try.func100 (by kernel_rfl) (by kernel_rfl)
theorem fok49 : FnOk 49 Go.Proofs.Try.f49 := .of Go.Proofs.Try.func49 (by kernel_rfl) (by kernel_rfl)
theorem fok50 : FnOk 50 Go.Proofs.Try.f50 := .of Go.Proofs.Try.func50 (by kernel_rfl) (by kernel_rfl)
theorem fok51 : FnOk 51 Go.Proofs.Try.f51 := .of Go.Proofs.Try.func51 (by kernel_rfl) (by kernel_rfl)
theorem fok102 : FnOk 102 Go.Proofs.Try.f102 := .of Go.Proofs.Try.func102 (by kernel_rfl) (by kernel_rfl)
theorem fok52 : FnOk 52 Go.Proofs.Try.f52 := .of Go.Proofs.Try.func52 (by kernel_rfl) (by kernel_rfl)
theorem fok53 : FnOk 53 Go.Proofs.Try.f53 := .of Go.Proofs.Try.func53 (by kernel_rfl) (by kernel_rfl)
theorem fok11 : FnOk 11 Go.Proofs.Try.f11 := .of Go.Proofs.Try.func11 (by kernel_rfl) (by kernel_rfl)
theorem fok104 : FnOk 104 Go.Proofs.Try.f104 := .of Go.Proofs.Try.func104 (by kernel_rfl) (by kernel_rfl)
theorem fok54 : FnOk 54 Go.Proofs.Try.f54 := .of Go.Proofs.Try.func54 (by kernel_rfl) (by kernel_rfl)
theorem fok105 : FnOk 105 Go.Proofs.Try.f105 := .of Go.Proofs.Try.func105 (by kernel_rfl) (by kernel_rfl)
theorem fok55 : FnOk 55 Go.Proofs.Try.f55 := .of Go.Proofs.Try.func55 (by kernel_rfl) (by kernel_rfl)
theorem fok113 : FnOk 113 Go.Proofs.Try.f113 := .of Go.Proofs.Try.func113 (by kernel_rfl) (by kernel_rfl)
theorem fok63 : FnOk 63 Go.Proofs.Try.f63 := .of Go.Proofs.Try.func63 (by kernel_rfl) (by kernel_rfl)
theorem fok56 : FnOk 56 Go.Proofs.Try.f56 := .of Go.Proofs.Try.func56 (by kernel_rfl) (by kernel_rfl)
theorem fok64 : FnOk 64 Go.Proofs.Try.f64 := .of Go.Proofs.Try.func64 (by kernel_rfl) (by kernel_rfl)
theorem fok57 : FnOk 57 Go.Proofs.Try.f57 := .of Go.Proofs.Try.func57 (by kernel_rfl) (by kernel_rfl)
theorem fok106 : FnOk 106 Go.Proofs.Try.f106 := .of Go.Proofs.Try.func106 (by kernel_rfl) (by kernel_rfl)
theorem fok58 : FnOk 58 Go.Proofs.Try.f58 := .of Go.Proofs.Try.func58 (by kernel_rfl) (by kernel_rfl)
theorem fok12 : FnOk 12 Go.Proofs.Try.f12 := .of Go.Proofs.Try.func12 (by kernel_rfl) (by kernel_rfl)
theorem fok128 : FnOk 128 Go.Proofs.Try.f128 := .of Go.Proofs.Try.func128 (by kernel_rfl) (by kernel_rfl)
theorem fok107 : FnOk 107 Go.Proofs.Try.f107 := .of Go.Proofs.Try.func107 (by kernel_rfl) (by kernel_rfl)
theorem fok59 : FnOk 59 Go.Proofs.Try.f59 := .of Go.Proofs.Try.func59 (by kernel_rfl) (by kernel_rfl)
theorem fok129 : FnOk 129 Go.Proofs.Try.f129 := .of Go.Proofs.Try.func129 (by kernel_rfl) (by kernel_rfl)
theorem fok108 : FnOk 108 Go.Proofs.Try.f108 := .of Go.Proofs.Try.func108 (by kernel_rfl) (by kernel_rfl)
theorem fok109 : FnOk 109 Go.Proofs.Try.f109 := .of Go.Proofs.Try.func109 (by kernel_rfl) (by kernel_rfl)
theorem fok60 : FnOk 60 Go.Proofs.Try.f60 := .of Go.Proofs.Try.func60 (by kernel_rfl) (by kernel_rfl)
theorem fok110 : FnOk 110 Go.Proofs.Try.f110 := .of Go.Proofs.Try.func110 (by kernel_rfl) (by kernel_rfl)
theorem fok61 : FnOk 61 Go.Proofs.Try.f61 := .of Go.Proofs.Try.func61 (by kernel_rfl) (by kernel_rfl)
theorem fok111 : FnOk 111 Go.Proofs.Try.f111 := .of Go.Proofs.Try.func111 (by kernel_rfl) (by kernel_rfl)
theorem fok112 : FnOk 112 Go.Proofs.Try.f112 := .of Go.Proofs.Try.func112 (by kernel_rfl) (by kernel_rfl)
theorem fok62 : FnOk 62 Go.Proofs.Try.f62 := .of Go.Proofs.Try.func62 (by kernel_rfl) (by kernel_rfl)
theorem fok13 : FnOk 13 Go.Proofs.Try.f13 := .of Go.Proofs.Try.func13 (by kernel_rfl) (by kernel_rfl)
theorem fok65 : FnOk 65 Go.Proofs.Try.f65 := .of Go.Proofs.Try.func65 (by kernel_rfl) (by kernel_rfl)
theorem fok66 : FnOk 66 Go.Proofs.Try.f66 := .of Go.Proofs.Try.func66 (by kernel_rfl) (by kernel_rfl)
theorem fok14 : FnOk 14 Go.Proofs.Try.f14 := .of Go.Proofs.Try.func14 (by kernel_rfl) (by kernel_rfl)
theorem all_cons {α : Type} {Q : Nat → α → Prop} {i : Nat} {x : α} {l : List (Nat × α)} (h : Q i x) (hl : ∀ d y, (d, y) ∈ l → Q d y) : ∀ d y, (d, y) ∈ (i, x) :: l → Q d y := by
  intro d y hm
  rcases List.mem_cons.1 hm with hm | hm
  · cases hm; exact h
  · exact hl d y hm
theorem all_nil {α : Type} {Q : Nat → α → Prop} : ∀ d y, (d, y) ∈ ([] : List (Nat × α)) → Q d y := fun _ _ h => by cases h
theorem ty_all : ∀ d y, (d, y) ∈ tyTab → TyOk Go.Proofs.Try.prog d y := all_cons ty2 (all_cons ty3 (all_cons ty4 (all_cons ty5 (all_cons ty9 (all_cons ty22 (all_cons ty24 (all_cons ty33 (all_cons ty45 (all_cons ty56 (all_cons ty58 (all_cons ty66 (all_cons ty68 (all_cons ty72 (all_cons ty90 (all_cons ty93 (all_cons ty99 (all_cons ty113 (all_cons ty116 (all_cons ty124 (all_cons ty126 (all_cons ty127 (all_nil))))))))))))))))))))))
theorem fn_all : ∀ d y, (d, y) ∈ fnTab → FnOk d y := all_cons fok115 (all_cons fok116 (all_cons fok119 (all_cons fok121 (all_cons fok117 (all_cons fok118 (all_cons fok67 (all_cons fok120 (all_cons fok68 (all_cons fok69 (all_cons fok15 (all_cons fok16 (all_cons fok77 (all_cons fok81 (all_cons fok39 (all_cons fok70 (all_cons fok71 (all_cons fok72 (all_cons fok17 (all_cons fok19 (all_cons fok18 (all_cons fok20 (all_cons fok21 (all_cons fok73 (all_cons fok22 (all_cons fok3 (all_cons fok74 (all_cons fok114 (all_cons fok75 (all_cons fok23 (all_cons fok24 (all_cons fok25 (all_cons fok26 (all_cons fok27 (all_cons fok4 (all_cons fok122 (all_cons fok76 (all_cons fok28 (all_cons fok29 (all_cons fok5 (all_cons fok78 (all_cons fok123 (all_cons fok79 (all_cons fok30 (all_cons fok80 (all_cons fok82 (all_cons fok83 (all_cons fok31 (all_cons fok6 (all_cons fok124 (all_cons fok84 (all_cons fok32 (all_cons fok33 (all_cons fok7 (all_cons fok34 (all_cons fok85 (all_cons fok94 (all_cons fok88 (all_cons fok126 (all_cons fok130 (all_cons fok131 (all_cons fok125 (all_cons fok86 (all_cons fok87 (all_cons fok35 (all_cons fok36 (all_cons fok37 (all_cons fok38 (all_cons fok8 (all_cons fok40 (all_cons fok41 (all_cons fok89 (all_cons fok42 (all_cons fok9 (all_cons fok90 (all_cons fok91 (all_cons fok43 (all_cons fok44 (all_cons fok10 (all_cons fok92 (all_cons fok93 (all_cons fok95 (all_cons fok45 (all_cons fok98 (all_cons fok96 (all_cons fok46 (all_cons fok101 (all_cons fok127 (all_cons fok103 (all_cons fok97 (all_cons fok47 (all_cons fok99 (all_cons fok48 (all_cons fok100 (all_cons fok49 (all_cons fok50 (all_cons fok51 (all_cons fok102 (all_cons fok52 (all_cons fok53 (all_cons fok11 (all_cons fok104 (all_cons fok54 (all_cons fok105 (all_cons fok55 (all_cons fok113 (all_cons fok63 (all_cons fok56 (all_cons fok64 (all_cons fok57 (all_cons fok106 (all_cons fok58 (all_cons fok12 (all_cons fok128 (all_cons fok107 (all_cons fok59 (all_cons fok129 (all_cons fok108 (all_cons fok109 (all_cons fok60 (all_cons fok110 (all_cons fok61 (all_cons fok111 (all_cons fok112 (all_cons fok62 (all_cons fok13 (all_cons fok65 (all_cons fok66 (all_cons fok14 (all_nil)))))))))))))))))))))))))))))))))))))))))))))))))))))))))))))))))))))))))))))))))))))))))))))))))))))))))))))))))))))))))))))))))
theorem Ev_ok : EnvOk Go.Proofs.Try.prog Ev := ⟨by kernel_rfl, fun t ti h => ty_all t ti (tab_mem h), fun f fn h => fn_all f fn (tab_mem h)⟩
end Vm
