/-
  The types and the functions that the small machine asks for, and that they are the program's. Written by a program (gen3.py).
-/
import Derived.Test.YtainemlfiibooaaVmR
import Derived.Test.YtainemlfiibooaaProg
import Derived.KernelRfl
set_option linter.unusedVariables false
set_option maxRecDepth 100000
namespace Vm
open Go
namespace Fn
abbrev laws_szByteS : Nat := 79
abbrev laws_szRun : Nat := 95
abbrev laws_szRunS : Nat := 60
abbrev laws_szRecord : Nat := 13
abbrev spec_l1In : Nat := 86
abbrev spec_l4Runs : Nat := 96
abbrev spec_l3Fault : Nat := 97
abbrev spec_l4Fault : Nat := 61
abbrev spec_RecordFault : Nat := 14
abbrev laws_toByteS : Nat := 25
abbrev laws_toRun : Nat := 98
abbrev laws_toRunS : Nat := 62
abbrev laws_toRecord : Nat := 15
abbrev impl_in : Nat := 63
abbrev impl_turns : Nat := 64
abbrev impl_isTx : Nat := 65
abbrev impl_RunsFault : Nat := 66
abbrev impl_RecordFault : Nat := 16
abbrev laws_eqByteS : Nat := 28
abbrev laws_eqRun : Nat := 99
abbrev laws_eqRunS : Nat := 67
abbrev laws_eqRecord : Nat := 17
abbrev laws_FnExactRecordFault : Nat := 3
abbrev spec_l4Sum : Nat := 100
abbrev spec_l4Pack : Nat := 68
abbrev spec_PackRecord : Nat := 18
abbrev impl_packed : Nat := 69
abbrev impl_PackRecord : Nat := 19
abbrev laws_eqBytesResult : Nat := 20
abbrev laws_markByteS : Nat := 29
abbrev laws_markRunS : Nat := 70
abbrev laws_markRecord : Nat := 21
abbrev laws_markBytesResult : Nat := 22
abbrev laws_heldByteS : Nat := 71
abbrev laws_heldBytesResult : Nat := 23
abbrev laws_FnExactPackRecord : Nat := 4
abbrev spec_l2Copy : Nat := 101
abbrev spec_l4Read : Nat := 72
abbrev spec_ReadRecord : Nat := 24
abbrev impl_copied : Nat := 88
abbrev slices_Equal_byte_byte : Nat := 102
abbrev impl_read : Nat := 73
abbrev impl_ReadRecord : Nat := 26
abbrev laws_eqRecordResult : Nat := 27
abbrev laws_markRecordResult : Nat := 30
abbrev laws_heldRunS : Nat := 103
abbrev laws_heldRecord : Nat := 74
abbrev laws_heldRecordResult : Nat := 31
abbrev laws_FnExactReadRecord : Nat := 5
abbrev laws_szRecordS : Nat := 32
abbrev spec_l4Same : Nat := 75
abbrev spec_SameRecords : Nat := 33
abbrev laws_toRecordS : Nat := 34
abbrev slices_EqualFunc_impl_Record_impl_Record_impl_Record_impl_Record : Nat := 76
abbrev slices_EqualFunc_impl_Run_impl_Run_impl_Run_impl_Run : Nat := 104
abbrev impl_sameRuns_1 : Nat := 105
abbrev impl_sameRuns : Nat := 78
abbrev impl_SameRecords_1 : Nat := 77
abbrev impl_SameRecords : Nat := 35
abbrev laws_eqRecordS : Nat := 36
abbrev laws_FnExactSameRecords : Nat := 6
abbrev laws_szLog : Nat := 37
abbrev spec_l5Read : Nat := 89
abbrev spec_l5Fault : Nat := 80
abbrev spec_LogFault : Nat := 38
abbrev laws_toLog : Nat := 39
abbrev impl_Log_size : Nat := 81
abbrev impl_readAll : Nat := 82
abbrev impl_LogFault : Nat := 40
abbrev laws_eqLog : Nat := 41
abbrev laws_FnExactLogFault : Nat := 7
abbrev spec_l5Sync : Nat := 83
abbrev spec_SyncLog : Nat := 42
abbrev impl_Log_all : Nat := 106
abbrev impl_Log_synced : Nat := 84
abbrev impl_SyncLog : Nat := 43
abbrev laws_eqLogResult : Nat := 44
abbrev laws_markLog : Nat := 45
abbrev laws_markLogResult : Nat := 46
abbrev laws_heldLog : Nat := 85
abbrev laws_heldLogResult : Nat := 47
abbrev laws_FnExactSyncLog : Nat := 8
abbrev spec_l5Crash : Nat := 87
abbrev spec_CrashLog : Nat := 48
abbrev impl_CrashLog : Nat := 49
abbrev laws_FnExactCrashLog : Nat := 9
abbrev spec_ReadLog : Nat := 50
abbrev impl_ReadLog : Nat := 51
abbrev laws_eqRecordsResult : Nat := 52
abbrev laws_markRecordS : Nat := 57
abbrev laws_markRecordsResult : Nat := 53
abbrev laws_heldRecordS : Nat := 90
abbrev laws_heldRecordsResult : Nat := 54
abbrev laws_FnExactReadLog : Nat := 10
abbrev spec_PackAll : Nat := 55
abbrev impl_PackAll : Nat := 56
abbrev laws_FnExactPackAll : Nat := 11
abbrev laws_lwBig : Nat := 58
abbrev spec_l1Source : Nat := 91
abbrev spec_l1Next : Nat := 94
abbrev spec_l1Pick : Nat := 93
abbrev spec_l1Chance : Nat := 110
abbrev spec_l2New : Nat := 115
abbrev spec_l1Some : Nat := 116
abbrev spec_l2Count : Nat := 122
abbrev spec_l2Size : Nat := 123
abbrev spec_l2Has : Nat := 117
abbrev spec_l2Drop : Nat := 118
abbrev spec_l2Stand : Nat := 124
abbrev spec_l2Place : Nat := 125
abbrev spec_l2Free : Nat := 126
abbrev spec_l2Low : Nat := 127
abbrev spec_l2Set : Nat := 119
abbrev spec_l2Cell : Nat := 128
abbrev spec_l2Compact : Nat := 120
abbrev spec_l2Empty : Nat := 129
abbrev spec_l2Put : Nat := 121
abbrev spec_l2Right : Nat := 114
abbrev spec_l3Two : Nat := 111
abbrev spec_l3Diff : Nat := 112
abbrev spec_l4Draw : Nat := 108
abbrev spec_l5Copy : Nat := 113
abbrev spec_l5Append : Nat := 109
abbrev spec_l5Right : Nat := 107
abbrev spec_l5Bent : Nat := 92
abbrev spec_DrawCrashLog : Nat := 59
abbrev laws_FnTorn : Nat := 12
end Fn
def tab {α : Type} : List (Nat × α) → Nat → Option α
  | [], _ => none
  | (i, x) :: r, d => bif Nat.beq i d then some x else tab r d
theorem tab_mem {α : Type} {l : List (Nat × α)} {d : Nat} {x : α} (h : tab l d = some x) : (d, x) ∈ l := by
  induction l with
  | nil => simp [tab] at h
  | cons p r ih =>
    obtain ⟨i, y⟩ := p
    simp only [tab] at h
    by_cases hi : i = d
    · subst hi; simp at h; subst h; simp
    · rw [show Nat.beq i d = false from by
        cases hb : Nat.beq i d with
        | false => rfl
        | true => exact absurd (Nat.eq_of_beq_eq_true hb) hi] at h
      exact List.mem_cons_of_mem _ (ih h)
noncomputable def tyTab : List (Nat × TI) := [(2, ⟨1, 8, [.int .i64 0], false, .int .i64, false⟩),
  (3, ⟨1, 8, [.int .i64 0], false, .int .i64, false⟩),
  (4, ⟨1, 1, [.bool false], false, .bool, false⟩),
  (5, ⟨1, 1, [.int .u8 0], false, .int .u8, false⟩),
  (9, ⟨1, 16, [.str ⟨#[]⟩], false, .str, false⟩),
  (22, ⟨1, 24, [.sl none 0], false, .sl 114, false⟩),
  (24, ⟨4, 48, [.int .i64 0, .int .i64 0, .int .i64 0, .sl none 0], true, .st [(0, 2), (1, 2), (2, 2), (3, 22)], false⟩),
  (27, ⟨1, 24, [.sl none 0], false, .sl 89, false⟩),
  (29, ⟨4, 48, [.int .i64 0, .int .i64 0, .int .i64 0, .sl none 0], true, .st [(0, 2), (1, 2), (2, 2), (3, 27)], false⟩),
  (31, ⟨1, 8, [.nofn], false, .other, false⟩),
  (33, ⟨1, 24, [.sl none 0], false, .sl 5, false⟩),
  (35, ⟨2, 32, [.int .i64 0, .sl none 0], true, .st [(0, 2), (1, 33)], false⟩),
  (41, ⟨6, 64, [.int .i64 0, .int .i64 0, .int .i64 0, .int .i64 0, .int .i64 0, .sl none 0], true, .st [(0, 2), (1, 2), (2, 29)], false⟩),
  (49, ⟨1, 24, [.sl none 0], false, .sl 24, false⟩),
  (52, ⟨1, 24, [.sl none 0], false, .sl 29, false⟩),
  (56, ⟨2, 48, [.sl none 0, .sl none 0], true, .st [(0, 33), (1, 33)], false⟩),
  (59, ⟨2, 48, [.sl none 0, .sl none 0], true, .st [(0, 33), (1, 33)], false⟩),
  (64, ⟨3, 56, [.int .i64 0, .sl none 0, .sl none 0], true, .st [(0, 2), (1, 59)], false⟩),
  (72, ⟨3, 40, [.int .i64 0, .int .i64 0, .sl none 0], true, .st [(0, 2), (1, 2), (2, 52)], false⟩),
  (83, ⟨1, 8, [.ptr none], false, .ptr, false⟩),
  (89, ⟨2, 32, [.int .i64 0, .sl none 0], true, .st [(0, 2), (1, 33)], false⟩),
  (100, ⟨1, 8, [.ptr none], false, .ptr, false⟩),
  (102, ⟨1, 24, [.sl none 0], false, .sl 33, false⟩),
  (108, ⟨1, 8, [.ptr none], false, .ptr, false⟩),
  (114, ⟨2, 32, [.int .i64 0, .sl none 0], true, .st [(0, 2), (1, 33)], false⟩),
  (116, ⟨1, 8, [.nofn], false, .other, false⟩),
  (122, ⟨2, 32, [.sl none 0, .int .i64 0], true, .st [(0, 33), (1, 2)], false⟩),
  (123, ⟨1, 24, [.sl none 0], false, .sl 2, false⟩)]
noncomputable def fnTab : List (Nat × Func) := [(79, Go.Proofs.Try.f79), (95, Go.Proofs.Try.f95), (60, Go.Proofs.Try.f60), (13, Go.Proofs.Try.f13), (86, Go.Proofs.Try.f86), (96, Go.Proofs.Try.f96), (97, Go.Proofs.Try.f97), (61, Go.Proofs.Try.f61), (14, Go.Proofs.Try.f14), (25, Go.Proofs.Try.f25), (98, Go.Proofs.Try.f98), (62, Go.Proofs.Try.f62), (15, Go.Proofs.Try.f15), (63, Go.Proofs.Try.f63), (64, Go.Proofs.Try.f64), (65, Go.Proofs.Try.f65), (66, Go.Proofs.Try.f66), (16, Go.Proofs.Try.f16), (28, Go.Proofs.Try.f28), (99, Go.Proofs.Try.f99), (67, Go.Proofs.Try.f67), (17, Go.Proofs.Try.f17), (3, Go.Proofs.Try.f3), (100, Go.Proofs.Try.f100), (68, Go.Proofs.Try.f68), (18, Go.Proofs.Try.f18), (69, Go.Proofs.Try.f69), (19, Go.Proofs.Try.f19), (20, Go.Proofs.Try.f20), (29, Go.Proofs.Try.f29), (70, Go.Proofs.Try.f70), (21, Go.Proofs.Try.f21), (22, Go.Proofs.Try.f22), (71, Go.Proofs.Try.f71), (23, Go.Proofs.Try.f23), (4, Go.Proofs.Try.f4), (101, Go.Proofs.Try.f101), (72, Go.Proofs.Try.f72), (24, Go.Proofs.Try.f24), (88, Go.Proofs.Try.f88), (102, Go.Proofs.Try.f102), (73, Go.Proofs.Try.f73), (26, Go.Proofs.Try.f26), (27, Go.Proofs.Try.f27), (30, Go.Proofs.Try.f30), (103, Go.Proofs.Try.f103), (74, Go.Proofs.Try.f74), (31, Go.Proofs.Try.f31), (5, Go.Proofs.Try.f5), (32, Go.Proofs.Try.f32), (75, Go.Proofs.Try.f75), (33, Go.Proofs.Try.f33), (34, Go.Proofs.Try.f34), (76, Go.Proofs.Try.f76), (104, Go.Proofs.Try.f104), (105, Go.Proofs.Try.f105), (78, Go.Proofs.Try.f78), (77, Go.Proofs.Try.f77), (35, Go.Proofs.Try.f35), (36, Go.Proofs.Try.f36), (6, Go.Proofs.Try.f6), (37, Go.Proofs.Try.f37), (89, Go.Proofs.Try.f89), (80, Go.Proofs.Try.f80), (38, Go.Proofs.Try.f38), (39, Go.Proofs.Try.f39), (81, Go.Proofs.Try.f81), (82, Go.Proofs.Try.f82), (40, Go.Proofs.Try.f40), (41, Go.Proofs.Try.f41), (7, Go.Proofs.Try.f7), (83, Go.Proofs.Try.f83), (42, Go.Proofs.Try.f42), (106, Go.Proofs.Try.f106), (84, Go.Proofs.Try.f84), (43, Go.Proofs.Try.f43), (44, Go.Proofs.Try.f44), (45, Go.Proofs.Try.f45), (46, Go.Proofs.Try.f46), (85, Go.Proofs.Try.f85), (47, Go.Proofs.Try.f47), (8, Go.Proofs.Try.f8), (87, Go.Proofs.Try.f87), (48, Go.Proofs.Try.f48), (49, Go.Proofs.Try.f49), (9, Go.Proofs.Try.f9), (50, Go.Proofs.Try.f50), (51, Go.Proofs.Try.f51), (52, Go.Proofs.Try.f52), (57, Go.Proofs.Try.f57), (53, Go.Proofs.Try.f53), (90, Go.Proofs.Try.f90), (54, Go.Proofs.Try.f54), (10, Go.Proofs.Try.f10), (55, Go.Proofs.Try.f55), (56, Go.Proofs.Try.f56), (11, Go.Proofs.Try.f11), (58, Go.Proofs.Try.f58), (91, Go.Proofs.Try.f91), (94, Go.Proofs.Try.f94), (93, Go.Proofs.Try.f93), (110, Go.Proofs.Try.f110), (115, Go.Proofs.Try.f115), (116, Go.Proofs.Try.f116), (122, Go.Proofs.Try.f122), (123, Go.Proofs.Try.f123), (117, Go.Proofs.Try.f117), (118, Go.Proofs.Try.f118), (124, Go.Proofs.Try.f124), (125, Go.Proofs.Try.f125), (126, Go.Proofs.Try.f126), (127, Go.Proofs.Try.f127), (119, Go.Proofs.Try.f119), (128, Go.Proofs.Try.f128), (120, Go.Proofs.Try.f120), (129, Go.Proofs.Try.f129), (121, Go.Proofs.Try.f121), (114, Go.Proofs.Try.f114), (111, Go.Proofs.Try.f111), (112, Go.Proofs.Try.f112), (108, Go.Proofs.Try.f108), (113, Go.Proofs.Try.f113), (109, Go.Proofs.Try.f109), (107, Go.Proofs.Try.f107), (92, Go.Proofs.Try.f92), (59, Go.Proofs.Try.f59)]
def keepTab : List (Nat × List Nat) := [(25000, [0, 3, 4]),
  (28000, [0, 1, 5]),
  (29000, [0, 1, 5]),
  (32000, [0, 1, 5]),
  (33000, [0, 1, 5]),
  (34000, [0, 3, 4]),
  (36000, [0, 1, 5]),
  (40000, [14, 15, 16]),
  (55000, [0, 2, 3, 4]),
  (55002, [0, 2, 3, 6]),
  (56000, [2, 3, 7, 8, 9]),
  (57000, [0, 1, 5]),
  (60000, [0, 1, 5]),
  (62000, [0, 3, 4]),
  (66000, [3, 10, 11, 12]),
  (67000, [0, 1, 5]),
  (68000, [0, 3, 4]),
  (69000, [3, 24, 25, 26]),
  (69002, [3, 6, 51, 52, 53]),
  (70000, [0, 1, 5]),
  (71000, [0, 1, 5]),
  (72000, [0, 2, 3, 4, 5]),
  (73000, [2, 4, 5, 6, 7, 52, 53]),
  (75000, [0, 1, 5]),
  (76000, [1, 2, 15, 16, 17]),
  (82000, [0, 4, 5]),
  (89000, [0, 4, 5]),
  (90000, [0, 1, 5]),
  (97000, [0, 3]),
  (100000, [0, 3, 4]),
  (102000, [0, 1, 12, 13]),
  (103000, [0, 1, 5]),
  (104000, [1, 2, 15, 16, 17]),
  (107000, [0, 2, 3, 4]),
  (111000, [0, 4, 5, 6]),
  (112000, [0, 1, 5, 6, 7]),
  (114000, [0, 3, 4]),
  (115000, [0, 3, 4]),
  (116000, [0, 1, 5]),
  (118000, [5]),
  (120000, [0, 3, 4, 5, 6]),
  (126000, [0, 3, 4]),
  (129000, [0, 3])]
def aftTab : List (Nat × List Nat) := [(25000, [3]),
  (28000, []),
  (29000, [1]),
  (32000, [1]),
  (33000, []),
  (34000, [3]),
  (36000, []),
  (40000, []),
  (55000, [0, 2, 3]),
  (55002, [2, 3]),
  (56000, [2, 3]),
  (57000, [1]),
  (60000, [1]),
  (62000, [3]),
  (66000, []),
  (67000, []),
  (68000, [3]),
  (69000, [3]),
  (69002, [3, 6]),
  (70000, [1]),
  (71000, [1]),
  (72000, [2, 3]),
  (73000, [2, 4, 5, 6, 7]),
  (75000, []),
  (76000, []),
  (82000, [2, 3]),
  (89000, [4, 5]),
  (90000, [1]),
  (97000, []),
  (100000, [3]),
  (102000, []),
  (103000, [1]),
  (104000, []),
  (107000, [2, 3]),
  (111000, [4, 5]),
  (112000, [5]),
  (114000, [3]),
  (115000, [3]),
  (116000, [5]),
  (118000, [5]),
  (120000, [4, 5]),
  (126000, [3]),
  (129000, [0])]
def killTab : List (Nat × List Nat) := [(68005, [3])]
def schedTab : List (Nat × List (Nat × Nat)) := [(3010, [(0, 0), (1, 0), (2, 1), (3, 1), (4, 1)]),
  (4010, [(0, 0), (1, 0), (2, 1), (3, 1), (4, 1)]),
  (7010, [(0, 0), (1, 0), (2, 1), (3, 1), (4, 1)]),
  (8010, [(0, 0), (1, 0), (2, 1), (3, 1), (4, 1)]),
  (9010, [(0, 0), (1, 0), (2, 1), (3, 1), (4, 1)]),
  (12006, [(0, 0), (1, 0), (4, 0), (5, 0), (2, 1), (3, 1), (6, 1), (7, 1)]),
  (12011, [(0, 0), (1, 0), (2, 0), (3, 0), (4, 0), (5, 0), (6, 0), (7, 0), (8, 0), (9, 0), (10, 0), (11, 0), (12, 0), (13, 0), (14, 0), (15, 0), (16, 0), (17, 0), (18, 0), (19, 1), (20, 0), (21, 0), (22, 0), (23, 0), (24, 0), (25, 0), (26, 0), (27, 0), (28, 0), (29, 0), (30, 0), (31, 1), (32, 0), (33, 0), (34, 0), (35, 0), (36, 0), (37, 0), (38, 0), (39, 0), (40, 0), (41, 0), (42, 0), (43, 0), (44, 0), (45, 0), (46, 0), (47, 0), (48, 0), (49, 0), (50, 0), (51, 0), (52, 1), (53, 1), (54, 1), (55, 1), (56, 1), (57, 1), (58, 1), (59, 1), (60, 1)]),
  (24005, [(0, 1), (1, 0), (2, 0), (5, 0), (6, 0), (7, 0), (8, 0), (3, 1), (4, 1), (9, 0), (10, 0)]),
  (28006, [(0, 0), (1, 0), (2, 0), (3, 0), (4, 0), (5, 0), (6, 0), (7, 0), (8, 0)]),
  (33006, [(0, 0), (1, 0), (2, 0), (3, 0), (4, 0), (5, 0), (6, 1), (7, 0)]),
  (36006, [(0, 0), (1, 0), (2, 0), (3, 0), (4, 0), (5, 0), (6, 0), (7, 0), (8, 1), (9, 0)]),
  (49006, [(0, 0), (1, 0), (3, 0), (4, 0), (5, 0), (6, 0), (2, 1), (7, 2), (8, 2)]),
  (59004, [(0, 0), (1, 0), (2, 0), (3, 0), (4, 0), (6, 0), (7, 0), (8, 0), (10, 0), (11, 0), (12, 0), (5, 1), (9, 1), (13, 1), (14, 1), (15, 2), (16, 2)]),
  (67006, [(0, 0), (1, 0), (2, 0), (3, 0), (4, 0), (5, 0), (6, 0), (7, 0), (8, 1), (9, 0)]),
  (68001, [(0, 0), (1, 0), (2, 0), (3, 0), (4, 0), (5, 0), (6, 0), (7, 0), (8, 0), (9, 0), (10, 0), (11, 0), (12, 0), (13, 0), (14, 0), (15, 0), (16, 0), (17, 0), (18, 0), (19, 0), (20, 0), (21, 1), (22, 0)]),
  (68005, [(0, 0), (1, 0), (2, 0), (3, 0), (4, 0), (5, 0), (6, 0), (7, 0), (8, 0), (9, 0), (10, 0), (11, 0), (12, 0), (13, 0), (14, 0), (15, 0), (16, 0), (17, 0), (18, 0), (19, 0), (22, 0), (23, 0), (24, 0), (25, 0), (26, 0), (27, 0), (28, 0), (29, 0), (20, 1), (21, 1), (30, 1), (31, 0)]),
  (72001, [(0, 0), (1, 0), (2, 0), (3, 0), (4, 0), (5, 0), (6, 0), (7, 0), (8, 0), (9, 0), (10, 0), (11, 0), (12, 0), (13, 1), (14, 2)]),
  (72008, [(0, 0), (1, 0), (2, 0), (3, 0), (4, 0), (5, 0), (6, 0), (7, 0), (8, 0), (9, 0), (10, 0), (11, 0), (12, 0), (13, 0), (14, 0), (15, 1), (16, 0), (17, 1), (18, 2), (19, 2), (20, 2)]),
  (73004, [(0, 0), (1, 0), (2, 0), (3, 0), (4, 0), (5, 0), (6, 0), (7, 0), (8, 0), (9, 0), (10, 0), (11, 0), (12, 0), (13, 1), (14, 2)]),
  (73011, [(0, 0), (1, 0), (2, 0), (3, 0), (4, 0), (5, 0), (6, 0), (7, 0), (8, 0), (9, 0), (10, 0), (11, 0), (12, 0), (13, 0), (14, 0), (15, 1), (16, 0), (17, 1), (18, 2), (19, 2), (20, 2)]),
  (75001, [(0, 0), (1, 0), (2, 0), (3, 0), (4, 0), (5, 0), (6, 0), (7, 0), (8, 0), (9, 0), (10, 0), (11, 0), (12, 0), (13, 0), (14, 0), (15, 0), (16, 0), (17, 0), (18, 0), (19, 0), (20, 0), (21, 0), (22, 0), (23, 0), (24, 0), (25, 0), (26, 0), (27, 0), (28, 0), (29, 0), (30, 0), (31, 0), (32, 0), (33, 0), (34, 0), (35, 0), (36, 0), (37, 0), (38, 0), (39, 0), (40, 0), (41, 0), (42, 0), (43, 0)]),
  (75006, [(0, 0), (1, 0), (2, 0), (3, 0), (4, 0), (5, 0), (6, 0), (7, 0), (8, 0), (9, 0), (10, 0), (11, 0), (12, 0), (13, 0), (14, 0), (15, 0), (16, 0), (17, 0), (18, 0), (19, 0), (20, 0), (21, 0), (22, 0), (23, 0), (24, 0), (25, 0), (26, 0), (27, 0), (28, 0), (29, 0), (30, 0), (31, 0), (32, 0), (33, 0), (34, 0), (35, 0), (36, 0), (37, 0)]),
  (80001, [(0, 0), (1, 0), (2, 0), (3, 0), (4, 0), (5, 0), (6, 0), (7, 0), (8, 0), (9, 0), (10, 0), (11, 0)]),
  (83001, [(0, 0), (1, 0), (3, 0), (4, 0), (2, 1), (5, 2), (6, 2), (7, 2)]),
  (87001, [(0, 0), (1, 0), (3, 0), (4, 0), (5, 0), (6, 0), (2, 1), (7, 2), (8, 2)]),
  (94008, [(0, 0), (1, 0), (2, 0), (3, 0), (4, 0), (5, 0), (6, 0), (7, 0), (8, 0), (9, 0), (10, 0), (11, 0), (12, 0), (13, 0), (14, 0), (15, 0)]),
  (94010, [(0, 0), (1, 0), (2, 0), (3, 0), (4, 0), (5, 0), (6, 0), (7, 0), (8, 0), (9, 0), (10, 0), (11, 0), (12, 0), (13, 0), (14, 0), (15, 0), (16, 0), (17, 0)]),
  (97009, [(0, 0), (1, 0), (2, 0), (3, 0), (4, 0), (5, 0), (6, 0), (7, 0), (8, 0), (9, 0), (10, 0), (11, 0), (12, 0), (13, 0), (14, 0), (15, 0), (16, 0), (17, 0), (18, 0), (19, 0), (20, 0), (21, 0), (22, 0), (23, 0)]),
  (102006, [(0, 0), (1, 0), (2, 0), (3, 0), (4, 0), (5, 0), (6, 0), (7, 0), (8, 0)]),
  (106001, [(0, 0), (1, 0), (3, 0), (4, 0), (2, 1), (5, 2), (6, 2)]),
  (112006, [(0, 0), (1, 0), (2, 0), (3, 0), (4, 0), (5, 0), (6, 0), (7, 0), (8, 0)]),
  (112012, [(1, 0), (2, 0), (3, 0), (4, 0), (5, 0), (6, 0), (7, 0), (8, 0), (0, 3), (9, 1), (10, 2), (11, 2), (12, 2), (13, 2)]),
  (113001, [(0, 0), (1, 0), (3, 0), (4, 0), (2, 1), (5, 1), (6, 0), (7, 2)])]
def modeTab : List (Nat × Nat) := [(3009, 1),
  (3013, 3),
  (3014, 1),
  (3016, 3),
  (3018, 1),
  (3024, 3),
  (3025, 1),
  (4013, 1),
  (4017, 3),
  (4018, 3),
  (4020, 2),
  (4022, 2),
  (4025, 1),
  (4029, 3),
  (4030, 1),
  (4040, 1),
  (4048, 1),
  (4055, 3),
  (4056, 3),
  (4059, 1),
  (4063, 1),
  (5014, 3),
  (5015, 3),
  (5017, 2),
  (5019, 2),
  (5022, 1),
  (5026, 3),
  (5027, 1),
  (5037, 1),
  (5045, 1),
  (5052, 3),
  (5053, 3),
  (5056, 1),
  (5060, 1),
  (6012, 1),
  (6017, 1),
  (6021, 3),
  (6023, 3),
  (6024, 1),
  (6026, 3),
  (6028, 3),
  (6031, 1),
  (6037, 3),
  (6038, 1),
  (6042, 3),
  (6043, 1),
  (7009, 1),
  (7013, 3),
  (7014, 1),
  (7016, 3),
  (7018, 1),
  (7024, 3),
  (7025, 1),
  (8013, 1),
  (8017, 3),
  (8018, 3),
  (8020, 2),
  (8022, 2),
  (8025, 1),
  (8029, 3),
  (8030, 1),
  (8040, 1),
  (8048, 1),
  (8055, 3),
  (8056, 3),
  (8059, 1),
  (8063, 1),
  (9015, 1),
  (9019, 3),
  (9021, 3),
  (9023, 2),
  (9026, 2),
  (9029, 1),
  (9033, 3),
  (9034, 1),
  (9044, 1),
  (9052, 1),
  (9059, 3),
  (9061, 3),
  (9064, 1),
  (9068, 1),
  (10014, 3),
  (10015, 3),
  (10017, 2),
  (10019, 2),
  (10022, 1),
  (10026, 3),
  (10027, 1),
  (10037, 1),
  (10045, 1),
  (10052, 3),
  (10053, 3),
  (10056, 1),
  (10060, 1),
  (11013, 1),
  (11017, 3),
  (11018, 3),
  (11020, 2),
  (11022, 2),
  (11025, 1),
  (11029, 3),
  (11030, 1),
  (11040, 1),
  (11048, 1),
  (11055, 3),
  (11056, 3),
  (11059, 1),
  (11063, 1),
  (12011, 1),
  (12014, 3),
  (12019, 3),
  (12025, 3),
  (12037, 3),
  (12040, 3),
  (12044, 3),
  (12067, 1),
  (12079, 1),
  (12100, 3),
  (12103, 3),
  (13008, 1),
  (14003, 1),
  (15015, 2),
  (16006, 1),
  (16011, 1),
  (16041, 1),
  (16047, 1),
  (16052, 1),
  (16058, 1),
  (17024, 1),
  (18004, 1),
  (18009, 2),
  (19005, 1),
  (19011, 2),
  (20014, 1),
  (23008, 1),
  (24032, 3),
  (24033, 1),
  (24036, 2),
  (26007, 2),
  (27019, 1),
  (31008, 1),
  (32023, 1),
  (33023, 1),
  (34020, 2),
  (35007, 1),
  (36025, 1),
  (37008, 1),
  (37014, 1),
  (38003, 1),
  (39006, 2),
  (39010, 2),
  (40008, 1),
  (40022, 3),
  (41009, 1),
  (41015, 1),
  (42004, 1),
  (42010, 3),
  (43005, 1),
  (43011, 2),
  (44014, 1),
  (47008, 1),
  (48006, 1),
  (48015, 1),
  (48020, 3),
  (49010, 1),
  (49019, 1),
  (49024, 2),
  (49032, 2),
  (49038, 2),
  (50011, 3),
  (51011, 2),
  (52019, 1),
  (54008, 1),
  (55017, 1),
  (55032, 3),
  (56014, 1),
  (56024, 2),
  (59008, 2),
  (60023, 1),
  (61008, 1),
  (61015, 1),
  (61057, 1),
  (61065, 1),
  (61072, 1),
  (61078, 1),
  (62020, 2),
  (65004, 1),
  (66021, 1),
  (66025, 1),
  (67025, 1),
  (68075, 1),
  (72063, 2),
  (73094, 2),
  (73109, 1),
  (73114, 2),
  (73116, 1),
  (74008, 1),
  (76029, 1),
  (77029, 1),
  (78007, 1),
  (80024, 3),
  (80039, 3),
  (82012, 2),
  (83005, 2),
  (84004, 2),
  (85008, 1),
  (85014, 1),
  (87010, 2),
  (87018, 2),
  (89015, 3),
  (90045, 1),
  (95008, 1),
  (96004, 1),
  (97025, 1),
  (97029, 1),
  (98009, 2),
  (99014, 1),
  (103027, 1),
  (104029, 1),
  (105015, 1),
  (106005, 2),
  (107017, 2),
  (107023, 3),
  (108015, 1),
  (108033, 3),
  (109009, 2),
  (109023, 2),
  (111010, 2),
  (113005, 2),
  (113008, 2),
  (114017, 3),
  (114034, 3),
  (114047, 1),
  (114050, 3),
  (114057, 1),
  (114062, 3),
  (114073, 3),
  (117007, 1),
  (117009, 1),
  (117013, 1),
  (118007, 2),
  (118029, 1),
  (119013, 1),
  (119015, 2),
  (119024, 1),
  (119034, 1),
  (119041, 1),
  (119047, 1),
  (120009, 1),
  (120025, 1),
  (120029, 3),
  (121013, 1),
  (121015, 1),
  (121024, 1),
  (121031, 1),
  (121041, 2),
  (126006, 1),
  (126011, 1),
  (126018, 1),
  (128008, 1),
  (128015, 1),
  (129006, 1),
  (129012, 1),
  (129016, 1)]
def pszTab : List (Nat × List Nat) := [(61, [4]),
  (68, [4]),
  (75, [4, 4]),
  (80, [2]),
  (94, [2, 0]),
  (93, [2, 0]),
  (110, [2, 0]),
  (116, [2, 0]),
  (114, [2]),
  (111, [2]),
  (108, [2]),
  (109, [0, 4]),
  (107, [2]),
  (92, [2])]
def vtTab : List (Nat × VT) := [(2, .one (.i .i64)),
  (3, .one (.i .i64)),
  (4, .one (.b)),
  (5, .one (.i .u8)),
  (9, .one (.s)),
  (24, .agg [.i .i64, .i .i64, .i .i64, .x]),
  (29, .agg [.i .i64, .i .i64, .i .i64, .x]),
  (35, .agg [.i .i64, .x]),
  (41, .agg [.i .i64, .i .i64, .i .i64, .i .i64, .i .i64, .x]),
  (56, .agg [.x, .x]),
  (59, .agg [.x, .x]),
  (64, .agg [.i .i64, .x, .x]),
  (72, .agg [.i .i64, .i .i64, .x]),
  (89, .agg [.i .i64, .x]),
  (95, .tup [([.i .i64, .i .i64, .i .i64, .x], true), ([.i .i64], false)]),
  (103, .tup [([.x], false), ([.i .i64], false)]),
  (114, .agg [.i .i64, .x]),
  (122, .agg [.x, .i .i64]),
  (125, .tup [([.x, .x], true), ([.b], false)]),
  (128, .tup [([.x], false), ([.x], false)]),
  (137, .tup [([.x], false), ([.i .i64], false)]),
  (139, .tup [([.x], false), ([.i .i64], false), ([.i .i64], false)])]
def vfTab : List (Nat × VT) := [(2, .one (.i .i64)),
  (3, .one (.i .i64)),
  (4, .one (.b)),
  (5, .one (.i .u8)),
  (9, .one (.s)),
  (22, .one (.f)),
  (24, .agg [.i .i64, .i .i64, .i .i64, .f]),
  (27, .one (.f)),
  (29, .agg [.i .i64, .i .i64, .i .i64, .f]),
  (33, .one (.f)),
  (35, .agg [.i .i64, .f]),
  (41, .agg [.i .i64, .i .i64, .i .i64, .i .i64, .i .i64, .f]),
  (49, .one (.f)),
  (52, .one (.f)),
  (56, .agg [.f, .f]),
  (59, .agg [.f, .f]),
  (64, .agg [.i .i64, .f, .f]),
  (72, .agg [.i .i64, .i .i64, .f]),
  (89, .agg [.i .i64, .f]),
  (102, .one (.f)),
  (114, .agg [.i .i64, .f]),
  (122, .agg [.f, .i .i64]),
  (123, .one (.f))]
def rtTab : List (Nat × VT) := [(79, .one (.i .i64)),
  (95, .one (.i .i64)),
  (60, .one (.i .i64)),
  (13, .one (.i .i64)),
  (86, .one (.b)),
  (96, .one (.b)),
  (97, .one (.i .i64)),
  (61, .one (.i .i64)),
  (14, .one (.i .i64)),
  (25, .one (.f)),
  (98, .agg [.i .i64, .f]),
  (62, .one (.f)),
  (15, .agg [.i .i64, .i .i64, .i .i64, .f]),
  (63, .one (.b)),
  (64, .one (.b)),
  (65, .one (.b)),
  (66, .one (.i .i64)),
  (16, .one (.i .i64)),
  (28, .one (.b)),
  (99, .one (.b)),
  (67, .one (.b)),
  (17, .one (.b)),
  (3, .one (.b)),
  (100, .one (.i .i64)),
  (68, .one (.f)),
  (18, .agg [.i .i64, .f]),
  (69, .one (.f)),
  (19, .agg [.i .i64, .f]),
  (20, .one (.b)),
  (29, .one (.i .i64)),
  (70, .one (.i .i64)),
  (21, .one (.i .i64)),
  (22, .one (.i .i64)),
  (71, .one (.i .i64)),
  (23, .one (.i .i64)),
  (4, .one (.b)),
  (101, .one (.f)),
  (72, .agg [.i .i64, .i .i64, .i .i64, .f]),
  (24, .agg [.i .i64, .i .i64, .i .i64, .i .i64, .i .i64, .f]),
  (88, .one (.f)),
  (102, .one (.b)),
  (73, .tup [([.i .i64, .i .i64, .i .i64, .f], true), ([.i .i64], false)]),
  (26, .agg [.i .i64, .i .i64, .i .i64, .i .i64, .i .i64, .f]),
  (27, .one (.b)),
  (30, .one (.i .i64)),
  (103, .one (.i .i64)),
  (74, .one (.i .i64)),
  (31, .one (.i .i64)),
  (5, .one (.b)),
  (32, .one (.i .i64)),
  (75, .one (.b)),
  (33, .one (.b)),
  (34, .one (.f)),
  (76, .one (.b)),
  (104, .one (.b)),
  (105, .one (.b)),
  (78, .one (.b)),
  (77, .one (.b)),
  (35, .one (.b)),
  (36, .one (.b)),
  (6, .one (.b)),
  (37, .one (.i .i64)),
  (89, .tup [([.f], false), ([.i .i64], false)]),
  (80, .one (.i .i64)),
  (38, .one (.i .i64)),
  (39, .agg [.f, .f]),
  (81, .one (.i .i64)),
  (82, .tup [([.f], false), ([.i .i64], false)]),
  (40, .one (.i .i64)),
  (41, .one (.b)),
  (7, .one (.b)),
  (83, .agg [.f, .f]),
  (42, .agg [.i .i64, .f, .f]),
  (106, .one (.f)),
  (84, .agg [.f, .f]),
  (43, .agg [.i .i64, .f, .f]),
  (44, .one (.b)),
  (45, .one (.i .i64)),
  (46, .one (.i .i64)),
  (85, .one (.i .i64)),
  (47, .one (.i .i64)),
  (8, .one (.b)),
  (87, .agg [.f, .f]),
  (48, .agg [.i .i64, .f, .f]),
  (49, .agg [.i .i64, .f, .f]),
  (9, .one (.b)),
  (50, .agg [.i .i64, .i .i64, .f]),
  (51, .agg [.i .i64, .i .i64, .f]),
  (52, .one (.b)),
  (57, .one (.i .i64)),
  (53, .one (.i .i64)),
  (90, .one (.i .i64)),
  (54, .one (.i .i64)),
  (10, .one (.b)),
  (55, .agg [.i .i64, .f]),
  (56, .agg [.i .i64, .f]),
  (11, .one (.b)),
  (58, .one (.b)),
  (94, .one (.i .i64)),
  (93, .one (.i .i64)),
  (110, .one (.b)),
  (115, .one (.f)),
  (116, .one (.f)),
  (122, .one (.i .i64)),
  (123, .one (.i .i64)),
  (117, .one (.b)),
  (118, .one (.f)),
  (125, .one (.i .i64)),
  (126, .one (.i .i64)),
  (127, .one (.i .i64)),
  (119, .tup [([.f], false), ([.i .i64], false)]),
  (128, .one (.f)),
  (120, .one (.f)),
  (129, .one (.i .i64)),
  (121, .tup [([.f], false), ([.i .i64], false), ([.i .i64], false)]),
  (114, .one (.f)),
  (111, .tup [([.f], false), ([.f], false)]),
  (112, .one (.f)),
  (108, .agg [.i .i64, .i .i64, .i .i64, .f]),
  (113, .agg [.f, .f]),
  (109, .tup [([.f, .f], true), ([.b], false)]),
  (107, .agg [.f, .f]),
  (92, .agg [.f, .f]),
  (59, .tup [([.f, .f], true), ([.i .i64], false)])]
def stTab : List (Nat × VT) := [(60001, .one (.i .i64)),
  (100003, .one (.i .i64)),
  (69006, .one (.i .i64)),
  (29001, .one (.i .i64)),
  (70001, .one (.i .i64)),
  (71001, .one (.i .i64)),
  (73004, .one (.f)),
  (73006, .one (.i .i64)),
  (73007, .one (.i .i64)),
  (103001, .one (.i .i64)),
  (32001, .one (.i .i64)),
  (89005, .one (.i .i64)),
  (82003, .one (.i .i64)),
  (57001, .one (.i .i64)),
  (90001, .one (.i .i64)),
  (55000, .one (.f)),
  (126003, .one (.i .i64)),
  (120005, .one (.i .i64)),
  (129000, .one (.f))]
noncomputable def Ev : Env where
  fn := tab fnTab
  ty := tab tyTab
  keep := fun f i => (tab keepTab (f * 1000 + i)).getD []
  aft := fun f i => (tab aftTab (f * 1000 + i)).getD []
  sched := fun f i => (tab schedTab (f * 1000 + i)).getD []
  kills := fun f i => (tab killTab (f * 1000 + i)).getD []
  mode := fun f i => (tab modeTab (f * 1000 + i)).getD 0
  psz := fun f => (tab pszTab f).getD []
  vt := fun t => (tab vtTab t).getD .any
  vf := fun t => (tab vfTab t).getD .any
  rt := fun f => (tab rtTab f).getD .any
  st := fun f i => (tab stTab (f * 1000 + i)).getD .any
namespace Lp
noncomputable def laws_szRunS (id : Nat) (l : List V) (h : H) : Option LOut := loop Ev Fn.laws_szRunS Go.Proofs.Try.f60 id (lbody Go.Proofs.Try.f60 id) l h
noncomputable def spec_l3Fault (id : Nat) (l : List V) (h : H) : Option LOut := loop Ev Fn.spec_l3Fault Go.Proofs.Try.f97 id (lbody Go.Proofs.Try.f97 id) l h
noncomputable def laws_toByteS (id : Nat) (l : List V) (h : H) : Option LOut := loop Ev Fn.laws_toByteS Go.Proofs.Try.f25 id (lbody Go.Proofs.Try.f25 id) l h
noncomputable def laws_toRunS (id : Nat) (l : List V) (h : H) : Option LOut := loop Ev Fn.laws_toRunS Go.Proofs.Try.f62 id (lbody Go.Proofs.Try.f62 id) l h
noncomputable def impl_RunsFault (id : Nat) (l : List V) (h : H) : Option LOut := loop Ev Fn.impl_RunsFault Go.Proofs.Try.f66 id (lbody Go.Proofs.Try.f66 id) l h
noncomputable def laws_eqByteS (id : Nat) (l : List V) (h : H) : Option LOut := loop Ev Fn.laws_eqByteS Go.Proofs.Try.f28 id (lbody Go.Proofs.Try.f28 id) l h
noncomputable def laws_eqRunS (id : Nat) (l : List V) (h : H) : Option LOut := loop Ev Fn.laws_eqRunS Go.Proofs.Try.f67 id (lbody Go.Proofs.Try.f67 id) l h
noncomputable def spec_l4Sum (id : Nat) (l : List V) (h : H) : Option LOut := loop Ev Fn.spec_l4Sum Go.Proofs.Try.f100 id (lbody Go.Proofs.Try.f100 id) l h
noncomputable def spec_l4Pack (id : Nat) (l : List V) (h : H) : Option LOut := loop Ev Fn.spec_l4Pack Go.Proofs.Try.f68 id (lbody Go.Proofs.Try.f68 id) l h
noncomputable def impl_packed (id : Nat) (l : List V) (h : H) : Option LOut := loop Ev Fn.impl_packed Go.Proofs.Try.f69 id (lbody Go.Proofs.Try.f69 id) l h
noncomputable def laws_markByteS (id : Nat) (l : List V) (h : H) : Option LOut := loop Ev Fn.laws_markByteS Go.Proofs.Try.f29 id (lbody Go.Proofs.Try.f29 id) l h
noncomputable def laws_markRunS (id : Nat) (l : List V) (h : H) : Option LOut := loop Ev Fn.laws_markRunS Go.Proofs.Try.f70 id (lbody Go.Proofs.Try.f70 id) l h
noncomputable def laws_heldByteS (id : Nat) (l : List V) (h : H) : Option LOut := loop Ev Fn.laws_heldByteS Go.Proofs.Try.f71 id (lbody Go.Proofs.Try.f71 id) l h
noncomputable def spec_l4Read (id : Nat) (l : List V) (h : H) : Option LOut := loop Ev Fn.spec_l4Read Go.Proofs.Try.f72 id (lbody Go.Proofs.Try.f72 id) l h
noncomputable def slices_Equal_byte_byte (id : Nat) (l : List V) (h : H) : Option LOut := loop Ev Fn.slices_Equal_byte_byte Go.Proofs.Try.f102 id (lbody Go.Proofs.Try.f102 id) l h
noncomputable def impl_read (id : Nat) (l : List V) (h : H) : Option LOut := loop Ev Fn.impl_read Go.Proofs.Try.f73 id (lbody Go.Proofs.Try.f73 id) l h
noncomputable def laws_heldRunS (id : Nat) (l : List V) (h : H) : Option LOut := loop Ev Fn.laws_heldRunS Go.Proofs.Try.f103 id (lbody Go.Proofs.Try.f103 id) l h
noncomputable def laws_szRecordS (id : Nat) (l : List V) (h : H) : Option LOut := loop Ev Fn.laws_szRecordS Go.Proofs.Try.f32 id (lbody Go.Proofs.Try.f32 id) l h
noncomputable def spec_l4Same (id : Nat) (l : List V) (h : H) : Option LOut := loop Ev Fn.spec_l4Same Go.Proofs.Try.f75 id (lbody Go.Proofs.Try.f75 id) l h
noncomputable def spec_SameRecords (id : Nat) (l : List V) (h : H) : Option LOut := loop Ev Fn.spec_SameRecords Go.Proofs.Try.f33 id (lbody Go.Proofs.Try.f33 id) l h
noncomputable def laws_toRecordS (id : Nat) (l : List V) (h : H) : Option LOut := loop Ev Fn.laws_toRecordS Go.Proofs.Try.f34 id (lbody Go.Proofs.Try.f34 id) l h
noncomputable def slices_EqualFunc_impl_Record_impl_Record_impl_Record_impl_Record (id : Nat) (l : List V) (h : H) : Option LOut := loop Ev Fn.slices_EqualFunc_impl_Record_impl_Record_impl_Record_impl_Record Go.Proofs.Try.f76 id (lbody Go.Proofs.Try.f76 id) l h
noncomputable def slices_EqualFunc_impl_Run_impl_Run_impl_Run_impl_Run (id : Nat) (l : List V) (h : H) : Option LOut := loop Ev Fn.slices_EqualFunc_impl_Run_impl_Run_impl_Run_impl_Run Go.Proofs.Try.f104 id (lbody Go.Proofs.Try.f104 id) l h
noncomputable def laws_eqRecordS (id : Nat) (l : List V) (h : H) : Option LOut := loop Ev Fn.laws_eqRecordS Go.Proofs.Try.f36 id (lbody Go.Proofs.Try.f36 id) l h
noncomputable def spec_l5Read (id : Nat) (l : List V) (h : H) : Option LOut := loop Ev Fn.spec_l5Read Go.Proofs.Try.f89 id (lbody Go.Proofs.Try.f89 id) l h
noncomputable def impl_readAll (id : Nat) (l : List V) (h : H) : Option LOut := loop Ev Fn.impl_readAll Go.Proofs.Try.f82 id (lbody Go.Proofs.Try.f82 id) l h
noncomputable def impl_LogFault (id : Nat) (l : List V) (h : H) : Option LOut := loop Ev Fn.impl_LogFault Go.Proofs.Try.f40 id (lbody Go.Proofs.Try.f40 id) l h
noncomputable def laws_markRecordS (id : Nat) (l : List V) (h : H) : Option LOut := loop Ev Fn.laws_markRecordS Go.Proofs.Try.f57 id (lbody Go.Proofs.Try.f57 id) l h
noncomputable def laws_heldRecordS (id : Nat) (l : List V) (h : H) : Option LOut := loop Ev Fn.laws_heldRecordS Go.Proofs.Try.f90 id (lbody Go.Proofs.Try.f90 id) l h
noncomputable def spec_PackAll (id : Nat) (l : List V) (h : H) : Option LOut := loop Ev Fn.spec_PackAll Go.Proofs.Try.f55 id (lbody Go.Proofs.Try.f55 id) l h
noncomputable def impl_PackAll (id : Nat) (l : List V) (h : H) : Option LOut := loop Ev Fn.impl_PackAll Go.Proofs.Try.f56 id (lbody Go.Proofs.Try.f56 id) l h
noncomputable def spec_l2New (id : Nat) (l : List V) (h : H) : Option LOut := loop Ev Fn.spec_l2New Go.Proofs.Try.f115 id (lbody Go.Proofs.Try.f115 id) l h
noncomputable def spec_l1Some (id : Nat) (l : List V) (h : H) : Option LOut := loop Ev Fn.spec_l1Some Go.Proofs.Try.f116 id (lbody Go.Proofs.Try.f116 id) l h
noncomputable def spec_l2Drop (id : Nat) (l : List V) (h : H) : Option LOut := loop Ev Fn.spec_l2Drop Go.Proofs.Try.f118 id (lbody Go.Proofs.Try.f118 id) l h
noncomputable def spec_l2Free (id : Nat) (l : List V) (h : H) : Option LOut := loop Ev Fn.spec_l2Free Go.Proofs.Try.f126 id (lbody Go.Proofs.Try.f126 id) l h
noncomputable def spec_l2Compact (id : Nat) (l : List V) (h : H) : Option LOut := loop Ev Fn.spec_l2Compact Go.Proofs.Try.f120 id (lbody Go.Proofs.Try.f120 id) l h
noncomputable def spec_l2Empty (id : Nat) (l : List V) (h : H) : Option LOut := loop Ev Fn.spec_l2Empty Go.Proofs.Try.f129 id (lbody Go.Proofs.Try.f129 id) l h
noncomputable def spec_l2Right (id : Nat) (l : List V) (h : H) : Option LOut := loop Ev Fn.spec_l2Right Go.Proofs.Try.f114 id (lbody Go.Proofs.Try.f114 id) l h
noncomputable def spec_l3Two (id : Nat) (l : List V) (h : H) : Option LOut := loop Ev Fn.spec_l3Two Go.Proofs.Try.f111 id (lbody Go.Proofs.Try.f111 id) l h
noncomputable def spec_l3Diff (id : Nat) (l : List V) (h : H) : Option LOut := loop Ev Fn.spec_l3Diff Go.Proofs.Try.f112 id (lbody Go.Proofs.Try.f112 id) l h
noncomputable def spec_l5Right (id : Nat) (l : List V) (h : H) : Option LOut := loop Ev Fn.spec_l5Right Go.Proofs.Try.f107 id (lbody Go.Proofs.Try.f107 id) l h
end Lp
theorem ty2 : TyOk Go.Proofs.Try.prog 2 ⟨1, 8, [.int .i64 0], false, .int .i64, false⟩ := ⟨by kernel_rfl, by kernel_rfl, ⟨by decide, by rfl⟩, by kernel_rfl, by kernel_rfl⟩
theorem ty3 : TyOk Go.Proofs.Try.prog 3 ⟨1, 8, [.int .i64 0], false, .int .i64, false⟩ := ⟨by kernel_rfl, by kernel_rfl, ⟨by decide, by rfl⟩, by kernel_rfl, by kernel_rfl⟩
theorem ty4 : TyOk Go.Proofs.Try.prog 4 ⟨1, 1, [.bool false], false, .bool, false⟩ := ⟨by kernel_rfl, by kernel_rfl, ⟨by decide, by rfl⟩, by kernel_rfl, by kernel_rfl⟩
theorem ty5 : TyOk Go.Proofs.Try.prog 5 ⟨1, 1, [.int .u8 0], false, .int .u8, false⟩ := ⟨by kernel_rfl, by kernel_rfl, ⟨by decide, by rfl⟩, by kernel_rfl, by kernel_rfl⟩
theorem ty9 : TyOk Go.Proofs.Try.prog 9 ⟨1, 16, [.str ⟨#[]⟩], false, .str, false⟩ := ⟨by kernel_rfl, by kernel_rfl, ⟨by decide, by rfl⟩, by kernel_rfl, by kernel_rfl⟩
theorem ty22 : TyOk Go.Proofs.Try.prog 22 ⟨1, 24, [.sl none 0], false, .sl 114, false⟩ := ⟨by kernel_rfl, by kernel_rfl, ⟨by decide, by rfl⟩, by kernel_rfl, by kernel_rfl⟩
theorem ty24 : TyOk Go.Proofs.Try.prog 24 ⟨4, 48, [.int .i64 0, .int .i64 0, .int .i64 0, .sl none 0], true, .st [(0, 2), (1, 2), (2, 2), (3, 22)], false⟩ := ⟨by kernel_rfl, by kernel_rfl, ⟨by decide, by rfl⟩, by kernel_rfl, by kernel_rfl⟩
theorem ty27 : TyOk Go.Proofs.Try.prog 27 ⟨1, 24, [.sl none 0], false, .sl 89, false⟩ := ⟨by kernel_rfl, by kernel_rfl, ⟨by decide, by rfl⟩, by kernel_rfl, by kernel_rfl⟩
theorem ty29 : TyOk Go.Proofs.Try.prog 29 ⟨4, 48, [.int .i64 0, .int .i64 0, .int .i64 0, .sl none 0], true, .st [(0, 2), (1, 2), (2, 2), (3, 27)], false⟩ := ⟨by kernel_rfl, by kernel_rfl, ⟨by decide, by rfl⟩, by kernel_rfl, by kernel_rfl⟩
theorem ty31 : TyOk Go.Proofs.Try.prog 31 ⟨1, 8, [.nofn], false, .other, false⟩ := ⟨by kernel_rfl, by kernel_rfl, ⟨by decide, by rfl⟩, by kernel_rfl, by kernel_rfl⟩
theorem ty33 : TyOk Go.Proofs.Try.prog 33 ⟨1, 24, [.sl none 0], false, .sl 5, false⟩ := ⟨by kernel_rfl, by kernel_rfl, ⟨by decide, by rfl⟩, by kernel_rfl, by kernel_rfl⟩
theorem ty35 : TyOk Go.Proofs.Try.prog 35 ⟨2, 32, [.int .i64 0, .sl none 0], true, .st [(0, 2), (1, 33)], false⟩ := ⟨by kernel_rfl, by kernel_rfl, ⟨by decide, by rfl⟩, by kernel_rfl, by kernel_rfl⟩
theorem ty41 : TyOk Go.Proofs.Try.prog 41 ⟨6, 64, [.int .i64 0, .int .i64 0, .int .i64 0, .int .i64 0, .int .i64 0, .sl none 0], true, .st [(0, 2), (1, 2), (2, 29)], false⟩ := ⟨by kernel_rfl, by kernel_rfl, ⟨by decide, by rfl⟩, by kernel_rfl, by kernel_rfl⟩
theorem ty49 : TyOk Go.Proofs.Try.prog 49 ⟨1, 24, [.sl none 0], false, .sl 24, false⟩ := ⟨by kernel_rfl, by kernel_rfl, ⟨by decide, by rfl⟩, by kernel_rfl, by kernel_rfl⟩
theorem ty52 : TyOk Go.Proofs.Try.prog 52 ⟨1, 24, [.sl none 0], false, .sl 29, false⟩ := ⟨by kernel_rfl, by kernel_rfl, ⟨by decide, by rfl⟩, by kernel_rfl, by kernel_rfl⟩
theorem ty56 : TyOk Go.Proofs.Try.prog 56 ⟨2, 48, [.sl none 0, .sl none 0], true, .st [(0, 33), (1, 33)], false⟩ := ⟨by kernel_rfl, by kernel_rfl, ⟨by decide, by rfl⟩, by kernel_rfl, by kernel_rfl⟩
theorem ty59 : TyOk Go.Proofs.Try.prog 59 ⟨2, 48, [.sl none 0, .sl none 0], true, .st [(0, 33), (1, 33)], false⟩ := ⟨by kernel_rfl, by kernel_rfl, ⟨by decide, by rfl⟩, by kernel_rfl, by kernel_rfl⟩
theorem ty64 : TyOk Go.Proofs.Try.prog 64 ⟨3, 56, [.int .i64 0, .sl none 0, .sl none 0], true, .st [(0, 2), (1, 59)], false⟩ := ⟨by kernel_rfl, by kernel_rfl, ⟨by decide, by rfl⟩, by kernel_rfl, by kernel_rfl⟩
theorem ty72 : TyOk Go.Proofs.Try.prog 72 ⟨3, 40, [.int .i64 0, .int .i64 0, .sl none 0], true, .st [(0, 2), (1, 2), (2, 52)], false⟩ := ⟨by kernel_rfl, by kernel_rfl, ⟨by decide, by rfl⟩, by kernel_rfl, by kernel_rfl⟩
theorem ty83 : TyOk Go.Proofs.Try.prog 83 ⟨1, 8, [.ptr none], false, .ptr, false⟩ := ⟨by kernel_rfl, by kernel_rfl, ⟨by decide, by rfl⟩, by kernel_rfl, by kernel_rfl⟩
theorem ty89 : TyOk Go.Proofs.Try.prog 89 ⟨2, 32, [.int .i64 0, .sl none 0], true, .st [(0, 2), (1, 33)], false⟩ := ⟨by kernel_rfl, by kernel_rfl, ⟨by decide, by rfl⟩, by kernel_rfl, by kernel_rfl⟩
theorem ty100 : TyOk Go.Proofs.Try.prog 100 ⟨1, 8, [.ptr none], false, .ptr, false⟩ := ⟨by kernel_rfl, by kernel_rfl, ⟨by decide, by rfl⟩, by kernel_rfl, by kernel_rfl⟩
theorem ty102 : TyOk Go.Proofs.Try.prog 102 ⟨1, 24, [.sl none 0], false, .sl 33, false⟩ := ⟨by kernel_rfl, by kernel_rfl, ⟨by decide, by rfl⟩, by kernel_rfl, by kernel_rfl⟩
theorem ty108 : TyOk Go.Proofs.Try.prog 108 ⟨1, 8, [.ptr none], false, .ptr, false⟩ := ⟨by kernel_rfl, by kernel_rfl, ⟨by decide, by rfl⟩, by kernel_rfl, by kernel_rfl⟩
theorem ty114 : TyOk Go.Proofs.Try.prog 114 ⟨2, 32, [.int .i64 0, .sl none 0], true, .st [(0, 2), (1, 33)], false⟩ := ⟨by kernel_rfl, by kernel_rfl, ⟨by decide, by rfl⟩, by kernel_rfl, by kernel_rfl⟩
theorem ty116 : TyOk Go.Proofs.Try.prog 116 ⟨1, 8, [.nofn], false, .other, false⟩ := ⟨by kernel_rfl, by kernel_rfl, ⟨by decide, by rfl⟩, by kernel_rfl, by kernel_rfl⟩
theorem ty122 : TyOk Go.Proofs.Try.prog 122 ⟨2, 32, [.sl none 0, .int .i64 0], true, .st [(0, 33), (1, 2)], false⟩ := ⟨by kernel_rfl, by kernel_rfl, ⟨by decide, by rfl⟩, by kernel_rfl, by kernel_rfl⟩
theorem ty123 : TyOk Go.Proofs.Try.prog 123 ⟨1, 24, [.sl none 0], false, .sl 2, false⟩ := ⟨by kernel_rfl, by kernel_rfl, ⟨by decide, by rfl⟩, by kernel_rfl, by kernel_rfl⟩
def FnOk (f : Nat) (fn : Func) : Prop := Go.Proofs.Try.prog.funcs[f]? = some fn ∧ (fn.name == "runtime.NumGoroutine") = false ∧ ∀ c, fn.body = some c → wfCode Ev f fn.ntmps c = true
noncomputable def wfB (f : Nat) (fn : Func) : Bool := match fn.body with | none => true | some c => wfCode Ev f fn.ntmps c
theorem FnOk.of {f : Nat} {fn : Func} (h1 : Go.Proofs.Try.prog.funcs[f]? = some fn) (h2 : (fn.name == "runtime.NumGoroutine") = false) (h3 : wfB f fn = true) : FnOk f fn := ⟨h1, h2, fun c hc => by unfold wfB at h3; rw [hc] at h3; exact h3⟩
theorem fok79 : FnOk 79 Go.Proofs.Try.f79 := .of Go.Proofs.Try.func79 (by kernel_rfl) (by kernel_rfl)
theorem fok95 : FnOk 95 Go.Proofs.Try.f95 := .of Go.Proofs.Try.func95 (by kernel_rfl) (by kernel_rfl)
theorem fok60 : FnOk 60 Go.Proofs.Try.f60 := .of Go.Proofs.Try.func60 (by kernel_rfl) (by kernel_rfl)
theorem fok13 : FnOk 13 Go.Proofs.Try.f13 := .of Go.Proofs.Try.func13 (by kernel_rfl) (by kernel_rfl)
theorem fok86 : FnOk 86 Go.Proofs.Try.f86 := .of Go.Proofs.Try.func86 (by kernel_rfl) (by kernel_rfl)
theorem fok96 : FnOk 96 Go.Proofs.Try.f96 := .of Go.Proofs.Try.func96 (by kernel_rfl) (by kernel_rfl)
theorem fok97 : FnOk 97 Go.Proofs.Try.f97 := .of Go.Proofs.Try.func97 (by kernel_rfl) (by kernel_rfl)
theorem fok61 : FnOk 61 Go.Proofs.Try.f61 := .of Go.Proofs.Try.func61 (by kernel_rfl) (by kernel_rfl)
theorem fok14 : FnOk 14 Go.Proofs.Try.f14 := .of Go.Proofs.Try.func14 (by kernel_rfl) (by kernel_rfl)
theorem fok25 : FnOk 25 Go.Proofs.Try.f25 := .of Go.Proofs.Try.func25 (by kernel_rfl) (by kernel_rfl)
theorem fok98 : FnOk 98 Go.Proofs.Try.f98 := .of Go.Proofs.Try.func98 (by kernel_rfl) (by kernel_rfl)
theorem fok62 : FnOk 62 Go.Proofs.Try.f62 := .of Go.Proofs.Try.func62 (by kernel_rfl) (by kernel_rfl)
theorem fok15 : FnOk 15 Go.Proofs.Try.f15 := .of Go.Proofs.Try.func15 (by kernel_rfl) (by kernel_rfl)
theorem fok63 : FnOk 63 Go.Proofs.Try.f63 := .of Go.Proofs.Try.func63 (by kernel_rfl) (by kernel_rfl)
theorem fok64 : FnOk 64 Go.Proofs.Try.f64 := .of Go.Proofs.Try.func64 (by kernel_rfl) (by kernel_rfl)
theorem fok65 : FnOk 65 Go.Proofs.Try.f65 := .of Go.Proofs.Try.func65 (by kernel_rfl) (by kernel_rfl)
theorem fok66 : FnOk 66 Go.Proofs.Try.f66 := .of Go.Proofs.Try.func66 (by kernel_rfl) (by kernel_rfl)
theorem fok16 : FnOk 16 Go.Proofs.Try.f16 := .of Go.Proofs.Try.func16 (by kernel_rfl) (by kernel_rfl)
theorem fok28 : FnOk 28 Go.Proofs.Try.f28 := .of Go.Proofs.Try.func28 (by kernel_rfl) (by kernel_rfl)
theorem fok99 : FnOk 99 Go.Proofs.Try.f99 := .of Go.Proofs.Try.func99 (by kernel_rfl) (by kernel_rfl)
theorem fok67 : FnOk 67 Go.Proofs.Try.f67 := .of Go.Proofs.Try.func67 (by kernel_rfl) (by kernel_rfl)
theorem fok17 : FnOk 17 Go.Proofs.Try.f17 := .of Go.Proofs.Try.func17 (by kernel_rfl) (by kernel_rfl)
theorem fok3 : FnOk 3 Go.Proofs.Try.f3 := .of Go.Proofs.Try.func3 (by kernel_rfl) (by kernel_rfl)
theorem fok100 : FnOk 100 Go.Proofs.Try.f100 := .of Go.Proofs.Try.func100 (by kernel_rfl) (by kernel_rfl)
theorem fok68 : FnOk 68 Go.Proofs.Try.f68 := .of Go.Proofs.Try.func68 (by kernel_rfl) (by kernel_rfl)
theorem fok18 : FnOk 18 Go.Proofs.Try.f18 := .of Go.Proofs.Try.func18 (by kernel_rfl) (by kernel_rfl)
theorem fok69 : FnOk 69 Go.Proofs.Try.f69 := .of Go.Proofs.Try.func69 (by kernel_rfl) (by kernel_rfl)
theorem fok19 : FnOk 19 Go.Proofs.Try.f19 := .of Go.Proofs.Try.func19 (by kernel_rfl) (by kernel_rfl)
theorem fok20 : FnOk 20 Go.Proofs.Try.f20 := .of Go.Proofs.Try.func20 (by kernel_rfl) (by kernel_rfl)
theorem fok29 : FnOk 29 Go.Proofs.Try.f29 := .of Go.Proofs.Try.func29 (by kernel_rfl) (by kernel_rfl)
theorem fok70 : FnOk 70 Go.Proofs.Try.f70 := .of Go.Proofs.Try.func70 (by kernel_rfl) (by kernel_rfl)
theorem fok21 : FnOk 21 Go.Proofs.Try.f21 := .of Go.Proofs.Try.func21 (by kernel_rfl) (by kernel_rfl)
theorem fok22 : FnOk 22 Go.Proofs.Try.f22 := .of Go.Proofs.Try.func22 (by kernel_rfl) (by kernel_rfl)
theorem fok71 : FnOk 71 Go.Proofs.Try.f71 := .of Go.Proofs.Try.func71 (by kernel_rfl) (by kernel_rfl)
theorem fok23 : FnOk 23 Go.Proofs.Try.f23 := .of Go.Proofs.Try.func23 (by kernel_rfl) (by kernel_rfl)
theorem fok4 : FnOk 4 Go.Proofs.Try.f4 := .of Go.Proofs.Try.func4 (by kernel_rfl) (by kernel_rfl)
theorem fok101 : FnOk 101 Go.Proofs.Try.f101 := .of Go.Proofs.Try.func101 (by kernel_rfl) (by kernel_rfl)
theorem fok72 : FnOk 72 Go.Proofs.Try.f72 := .of Go.Proofs.Try.func72 (by kernel_rfl) (by kernel_rfl)
theorem fok24 : FnOk 24 Go.Proofs.Try.f24 := .of Go.Proofs.Try.func24 (by kernel_rfl) (by kernel_rfl)
theorem fok88 : FnOk 88 Go.Proofs.Try.f88 := .of Go.Proofs.Try.func88 (by kernel_rfl) (by kernel_rfl)
theorem fok102 : FnOk 102 Go.Proofs.Try.f102 := .of Go.Proofs.Try.func102 (by kernel_rfl) (by kernel_rfl)
theorem fok73 : FnOk 73 Go.Proofs.Try.f73 := .of Go.Proofs.Try.func73 (by kernel_rfl) (by kernel_rfl)
theorem fok26 : FnOk 26 Go.Proofs.Try.f26 := .of Go.Proofs.Try.func26 (by kernel_rfl) (by kernel_rfl)
theorem fok27 : FnOk 27 Go.Proofs.Try.f27 := .of Go.Proofs.Try.func27 (by kernel_rfl) (by kernel_rfl)
theorem fok30 : FnOk 30 Go.Proofs.Try.f30 := .of Go.Proofs.Try.func30 (by kernel_rfl) (by kernel_rfl)
theorem fok103 : FnOk 103 Go.Proofs.Try.f103 := .of Go.Proofs.Try.func103 (by kernel_rfl) (by kernel_rfl)
theorem fok74 : FnOk 74 Go.Proofs.Try.f74 := .of Go.Proofs.Try.func74 (by kernel_rfl) (by kernel_rfl)
theorem fok31 : FnOk 31 Go.Proofs.Try.f31 := .of Go.Proofs.Try.func31 (by kernel_rfl) (by kernel_rfl)
theorem fok5 : FnOk 5 Go.Proofs.Try.f5 := .of Go.Proofs.Try.func5 (by kernel_rfl) (by kernel_rfl)
theorem fok32 : FnOk 32 Go.Proofs.Try.f32 := .of Go.Proofs.Try.func32 (by kernel_rfl) (by kernel_rfl)
theorem fok75 : FnOk 75 Go.Proofs.Try.f75 := .of Go.Proofs.Try.func75 (by kernel_rfl) (by kernel_rfl)
theorem fok33 : FnOk 33 Go.Proofs.Try.f33 := .of Go.Proofs.Try.func33 (by kernel_rfl) (by kernel_rfl)
theorem fok34 : FnOk 34 Go.Proofs.Try.f34 := .of Go.Proofs.Try.func34 (by kernel_rfl) (by kernel_rfl)
theorem fok76 : FnOk 76 Go.Proofs.Try.f76 := .of Go.Proofs.Try.func76 (by kernel_rfl) (by kernel_rfl)
theorem fok104 : FnOk 104 Go.Proofs.Try.f104 := .of Go.Proofs.Try.func104 (by kernel_rfl) (by kernel_rfl)
theorem fok105 : FnOk 105 Go.Proofs.Try.f105 := .of Go.Proofs.Try.func105 (by kernel_rfl) (by kernel_rfl)
theorem fok78 : FnOk 78 Go.Proofs.Try.f78 := .of Go.Proofs.Try.func78 (by kernel_rfl) (by kernel_rfl)
theorem fok77 : FnOk 77 Go.Proofs.Try.f77 := .of Go.Proofs.Try.func77 (by kernel_rfl) (by kernel_rfl)
theorem fok35 : FnOk 35 Go.Proofs.Try.f35 := .of Go.Proofs.Try.func35 (by kernel_rfl) (by kernel_rfl)
theorem fok36 : FnOk 36 Go.Proofs.Try.f36 := .of Go.Proofs.Try.func36 (by kernel_rfl) (by kernel_rfl)
theorem fok6 : FnOk 6 Go.Proofs.Try.f6 := .of Go.Proofs.Try.func6 (by kernel_rfl) (by kernel_rfl)
theorem fok37 : FnOk 37 Go.Proofs.Try.f37 := .of Go.Proofs.Try.func37 (by kernel_rfl) (by kernel_rfl)
theorem fok89 : FnOk 89 Go.Proofs.Try.f89 := .of Go.Proofs.Try.func89 (by kernel_rfl) (by kernel_rfl)
theorem fok80 : FnOk 80 Go.Proofs.Try.f80 := .of Go.Proofs.Try.func80 (by kernel_rfl) (by kernel_rfl)
theorem fok38 : FnOk 38 Go.Proofs.Try.f38 := .of Go.Proofs.Try.func38 (by kernel_rfl) (by kernel_rfl)
theorem fok39 : FnOk 39 Go.Proofs.Try.f39 := .of Go.Proofs.Try.func39 (by kernel_rfl) (by kernel_rfl)
theorem fok81 : FnOk 81 Go.Proofs.Try.f81 := .of Go.Proofs.Try.func81 (by kernel_rfl) (by kernel_rfl)
theorem fok82 : FnOk 82 Go.Proofs.Try.f82 := .of Go.Proofs.Try.func82 (by kernel_rfl) (by kernel_rfl)
theorem fok40 : FnOk 40 Go.Proofs.Try.f40 := .of Go.Proofs.Try.func40 (by kernel_rfl) (by kernel_rfl)
theorem fok41 : FnOk 41 Go.Proofs.Try.f41 := .of Go.Proofs.Try.func41 (by kernel_rfl) (by kernel_rfl)
theorem fok7 : FnOk 7 Go.Proofs.Try.f7 := .of Go.Proofs.Try.func7 (by kernel_rfl) (by kernel_rfl)
theorem fok83 : FnOk 83 Go.Proofs.Try.f83 := .of Go.Proofs.Try.func83 (by kernel_rfl) (by kernel_rfl)
theorem fok42 : FnOk 42 Go.Proofs.Try.f42 := .of Go.Proofs.Try.func42 (by kernel_rfl) (by kernel_rfl)
theorem fok106 : FnOk 106 Go.Proofs.Try.f106 := .of Go.Proofs.Try.func106 (by kernel_rfl) (by kernel_rfl)
theorem fok84 : FnOk 84 Go.Proofs.Try.f84 := .of Go.Proofs.Try.func84 (by kernel_rfl) (by kernel_rfl)
theorem fok43 : FnOk 43 Go.Proofs.Try.f43 := .of Go.Proofs.Try.func43 (by kernel_rfl) (by kernel_rfl)
theorem fok44 : FnOk 44 Go.Proofs.Try.f44 := .of Go.Proofs.Try.func44 (by kernel_rfl) (by kernel_rfl)
theorem fok45 : FnOk 45 Go.Proofs.Try.f45 := .of Go.Proofs.Try.func45 (by kernel_rfl) (by kernel_rfl)
theorem fok46 : FnOk 46 Go.Proofs.Try.f46 := .of Go.Proofs.Try.func46 (by kernel_rfl) (by kernel_rfl)
theorem fok85 : FnOk 85 Go.Proofs.Try.f85 := .of Go.Proofs.Try.func85 (by kernel_rfl) (by kernel_rfl)
theorem fok47 : FnOk 47 Go.Proofs.Try.f47 := .of Go.Proofs.Try.func47 (by kernel_rfl) (by kernel_rfl)
theorem fok8 : FnOk 8 Go.Proofs.Try.f8 := .of Go.Proofs.Try.func8 (by kernel_rfl) (by kernel_rfl)
theorem fok87 : FnOk 87 Go.Proofs.Try.f87 := .of Go.Proofs.Try.func87 (by kernel_rfl) (by kernel_rfl)
theorem fok48 : FnOk 48 Go.Proofs.Try.f48 := .of Go.Proofs.Try.func48 (by kernel_rfl) (by kernel_rfl)
theorem fok49 : FnOk 49 Go.Proofs.Try.f49 := .of Go.Proofs.Try.func49 (by kernel_rfl) (by kernel_rfl)
theorem fok9 : FnOk 9 Go.Proofs.Try.f9 := .of Go.Proofs.Try.func9 (by kernel_rfl) (by kernel_rfl)
theorem fok50 : FnOk 50 Go.Proofs.Try.f50 := .of Go.Proofs.Try.func50 (by kernel_rfl) (by kernel_rfl)
theorem fok51 : FnOk 51 Go.Proofs.Try.f51 := .of Go.Proofs.Try.func51 (by kernel_rfl) (by kernel_rfl)
theorem fok52 : FnOk 52 Go.Proofs.Try.f52 := .of Go.Proofs.Try.func52 (by kernel_rfl) (by kernel_rfl)
theorem fok57 : FnOk 57 Go.Proofs.Try.f57 := .of Go.Proofs.Try.func57 (by kernel_rfl) (by kernel_rfl)
theorem fok53 : FnOk 53 Go.Proofs.Try.f53 := .of Go.Proofs.Try.func53 (by kernel_rfl) (by kernel_rfl)
theorem fok90 : FnOk 90 Go.Proofs.Try.f90 := .of Go.Proofs.Try.func90 (by kernel_rfl) (by kernel_rfl)
theorem fok54 : FnOk 54 Go.Proofs.Try.f54 := .of Go.Proofs.Try.func54 (by kernel_rfl) (by kernel_rfl)
theorem fok10 : FnOk 10 Go.Proofs.Try.f10 := .of Go.Proofs.Try.func10 (by kernel_rfl) (by kernel_rfl)
theorem fok55 : FnOk 55 Go.Proofs.Try.f55 := .of Go.Proofs.Try.func55 (by kernel_rfl) (by kernel_rfl)
theorem fok56 : FnOk 56 Go.Proofs.Try.f56 := .of Go.Proofs.Try.func56 (by kernel_rfl) (by kernel_rfl)
theorem fok11 : FnOk 11 Go.Proofs.Try.f11 := .of Go.Proofs.Try.func11 (by kernel_rfl) (by kernel_rfl)
theorem fok58 : FnOk 58 Go.Proofs.Try.f58 := .of Go.Proofs.Try.func58 (by kernel_rfl) (by kernel_rfl)
theorem fok91 : FnOk 91 Go.Proofs.Try.f91 := .of Go.Proofs.Try.func91 (by kernel_rfl) (by kernel_rfl)
theorem fok94 : FnOk 94 Go.Proofs.Try.f94 := .of Go.Proofs.Try.func94 (by kernel_rfl) (by kernel_rfl)
theorem fok93 : FnOk 93 Go.Proofs.Try.f93 := .of Go.Proofs.Try.func93 (by kernel_rfl) (by kernel_rfl)
theorem fok110 : FnOk 110 Go.Proofs.Try.f110 := .of Go.Proofs.Try.func110 (by kernel_rfl) (by kernel_rfl)
theorem fok115 : FnOk 115 Go.Proofs.Try.f115 := .of Go.Proofs.Try.func115 (by kernel_rfl) (by kernel_rfl)
theorem fok116 : FnOk 116 Go.Proofs.Try.f116 := .of Go.Proofs.Try.func116 (by kernel_rfl) (by kernel_rfl)
theorem fok122 : FnOk 122 Go.Proofs.Try.f122 := .of Go.Proofs.Try.func122 (by kernel_rfl) (by kernel_rfl)
theorem fok123 : FnOk 123 Go.Proofs.Try.f123 := .of Go.Proofs.Try.func123 (by kernel_rfl) (by kernel_rfl)
theorem fok117 : FnOk 117 Go.Proofs.Try.f117 := .of Go.Proofs.Try.func117 (by kernel_rfl) (by kernel_rfl)
theorem fok118 : FnOk 118 Go.Proofs.Try.f118 := .of Go.Proofs.Try.func118 (by kernel_rfl) (by kernel_rfl)
theorem fok124 : FnOk 124 Go.Proofs.Try.f124 := .of Go.Proofs.Try.func124 (by kernel_rfl) (by kernel_rfl)
theorem fok125 : FnOk 125 Go.Proofs.Try.f125 := .of Go.Proofs.Try.func125 (by kernel_rfl) (by kernel_rfl)
theorem fok126 : FnOk 126 Go.Proofs.Try.f126 := .of Go.Proofs.Try.func126 (by kernel_rfl) (by kernel_rfl)
theorem fok127 : FnOk 127 Go.Proofs.Try.f127 := .of Go.Proofs.Try.func127 (by kernel_rfl) (by kernel_rfl)
theorem fok119 : FnOk 119 Go.Proofs.Try.f119 := .of Go.Proofs.Try.func119 (by kernel_rfl) (by kernel_rfl)
theorem fok128 : FnOk 128 Go.Proofs.Try.f128 := .of Go.Proofs.Try.func128 (by kernel_rfl) (by kernel_rfl)
theorem fok120 : FnOk 120 Go.Proofs.Try.f120 := .of Go.Proofs.Try.func120 (by kernel_rfl) (by kernel_rfl)
theorem fok129 : FnOk 129 Go.Proofs.Try.f129 := .of Go.Proofs.Try.func129 (by kernel_rfl) (by kernel_rfl)
theorem fok121 : FnOk 121 Go.Proofs.Try.f121 := .of Go.Proofs.Try.func121 (by kernel_rfl) (by kernel_rfl)
theorem fok114 : FnOk 114 Go.Proofs.Try.f114 := .of Go.Proofs.Try.func114 (by kernel_rfl) (by kernel_rfl)
theorem fok111 : FnOk 111 Go.Proofs.Try.f111 := .of Go.Proofs.Try.func111 (by kernel_rfl) (by kernel_rfl)
theorem fok112 : FnOk 112 Go.Proofs.Try.f112 := .of Go.Proofs.Try.func112 (by kernel_rfl) (by kernel_rfl)
theorem fok108 : FnOk 108 Go.Proofs.Try.f108 := .of Go.Proofs.Try.func108 (by kernel_rfl) (by kernel_rfl)
theorem fok113 : FnOk 113 Go.Proofs.Try.f113 := .of Go.Proofs.Try.func113 (by kernel_rfl) (by kernel_rfl)
theorem fok109 : FnOk 109 Go.Proofs.Try.f109 := .of Go.Proofs.Try.func109 (by kernel_rfl) (by kernel_rfl)
theorem fok107 : FnOk 107 Go.Proofs.Try.f107 := .of Go.Proofs.Try.func107 (by kernel_rfl) (by kernel_rfl)
theorem fok92 : FnOk 92 Go.Proofs.Try.f92 := .of Go.Proofs.Try.func92 (by kernel_rfl) (by kernel_rfl)
theorem fok59 : FnOk 59 Go.Proofs.Try.f59 := .of Go.Proofs.Try.func59 (by kernel_rfl) (by kernel_rfl)
theorem all_cons {α : Type} {Q : Nat → α → Prop} {i : Nat} {x : α} {l : List (Nat × α)} (h : Q i x) (hl : ∀ d y, (d, y) ∈ l → Q d y) : ∀ d y, (d, y) ∈ (i, x) :: l → Q d y := by
  intro d y hm
  rcases List.mem_cons.1 hm with hm | hm
  · cases hm; exact h
  · exact hl d y hm
theorem all_nil {α : Type} {Q : Nat → α → Prop} : ∀ d y, (d, y) ∈ ([] : List (Nat × α)) → Q d y := fun _ _ h => by cases h
theorem ty_all : ∀ d y, (d, y) ∈ tyTab → TyOk Go.Proofs.Try.prog d y := all_cons ty2 (all_cons ty3 (all_cons ty4 (all_cons ty5 (all_cons ty9 (all_cons ty22 (all_cons ty24 (all_cons ty27 (all_cons ty29 (all_cons ty31 (all_cons ty33 (all_cons ty35 (all_cons ty41 (all_cons ty49 (all_cons ty52 (all_cons ty56 (all_cons ty59 (all_cons ty64 (all_cons ty72 (all_cons ty83 (all_cons ty89 (all_cons ty100 (all_cons ty102 (all_cons ty108 (all_cons ty114 (all_cons ty116 (all_cons ty122 (all_cons ty123 (all_nil))))))))))))))))))))))))))))
theorem fn_all : ∀ d y, (d, y) ∈ fnTab → FnOk d y := all_cons fok79 (all_cons fok95 (all_cons fok60 (all_cons fok13 (all_cons fok86 (all_cons fok96 (all_cons fok97 (all_cons fok61 (all_cons fok14 (all_cons fok25 (all_cons fok98 (all_cons fok62 (all_cons fok15 (all_cons fok63 (all_cons fok64 (all_cons fok65 (all_cons fok66 (all_cons fok16 (all_cons fok28 (all_cons fok99 (all_cons fok67 (all_cons fok17 (all_cons fok3 (all_cons fok100 (all_cons fok68 (all_cons fok18 (all_cons fok69 (all_cons fok19 (all_cons fok20 (all_cons fok29 (all_cons fok70 (all_cons fok21 (all_cons fok22 (all_cons fok71 (all_cons fok23 (all_cons fok4 (all_cons fok101 (all_cons fok72 (all_cons fok24 (all_cons fok88 (all_cons fok102 (all_cons fok73 (all_cons fok26 (all_cons fok27 (all_cons fok30 (all_cons fok103 (all_cons fok74 (all_cons fok31 (all_cons fok5 (all_cons fok32 (all_cons fok75 (all_cons fok33 (all_cons fok34 (all_cons fok76 (all_cons fok104 (all_cons fok105 (all_cons fok78 (all_cons fok77 (all_cons fok35 (all_cons fok36 (all_cons fok6 (all_cons fok37 (all_cons fok89 (all_cons fok80 (all_cons fok38 (all_cons fok39 (all_cons fok81 (all_cons fok82 (all_cons fok40 (all_cons fok41 (all_cons fok7 (all_cons fok83 (all_cons fok42 (all_cons fok106 (all_cons fok84 (all_cons fok43 (all_cons fok44 (all_cons fok45 (all_cons fok46 (all_cons fok85 (all_cons fok47 (all_cons fok8 (all_cons fok87 (all_cons fok48 (all_cons fok49 (all_cons fok9 (all_cons fok50 (all_cons fok51 (all_cons fok52 (all_cons fok57 (all_cons fok53 (all_cons fok90 (all_cons fok54 (all_cons fok10 (all_cons fok55 (all_cons fok56 (all_cons fok11 (all_cons fok58 (all_cons fok91 (all_cons fok94 (all_cons fok93 (all_cons fok110 (all_cons fok115 (all_cons fok116 (all_cons fok122 (all_cons fok123 (all_cons fok117 (all_cons fok118 (all_cons fok124 (all_cons fok125 (all_cons fok126 (all_cons fok127 (all_cons fok119 (all_cons fok128 (all_cons fok120 (all_cons fok129 (all_cons fok121 (all_cons fok114 (all_cons fok111 (all_cons fok112 (all_cons fok108 (all_cons fok113 (all_cons fok109 (all_cons fok107 (all_cons fok92 (all_cons fok59 (all_nil))))))))))))))))))))))))))))))))))))))))))))))))))))))))))))))))))))))))))))))))))))))))))))))))))))))))))))))))))))))))))))))
theorem Ev_ok : EnvOk Go.Proofs.Try.prog Ev := ⟨by kernel_rfl, fun t ti h => ty_all t ti (tab_mem h), fun f fn h => fn_all f fn (tab_mem h)⟩
end Vm
