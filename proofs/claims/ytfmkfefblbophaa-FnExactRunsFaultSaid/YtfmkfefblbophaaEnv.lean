/-
  The types and the functions that the small machine asks for, and that they are the program's. Written by a program (gen3.py).
-/
import Derived.Test.YtfmkfefblbophaaVmR
import Derived.Test.YtfmkfefblbophaaProg
import Derived.KernelRfl
set_option linter.unusedVariables false
set_option maxRecDepth 100000
namespace Vm
open Go
namespace Fn
abbrev laws_FnExactConstants : Nat := 3
abbrev laws_szRow : Nat := 15
abbrev spec_l1Before : Nat := 57
abbrev spec_IsBefore : Nat := 16
abbrev laws_toRow : Nat := 17
abbrev impl_IsBefore : Nat := 18
abbrev laws_FnExactIsBefore : Nat := 4
abbrev spec_l1In : Nat := 84
abbrev spec_l1Text : Nat := 85
abbrev spec_l1Fault : Nat := 58
abbrev spec_RowFault : Nat := 19
abbrev impl_in : Nat := 59
abbrev impl_RowFault : Nat := 20
abbrev laws_FnExactRowFault : Nat := 5
abbrev spec_l1Place : Nat := 60
abbrev spec_l1Stub : Nat := 61
abbrev spec_PackStub : Nat := 21
abbrev impl_stub : Nat := 62
abbrev impl_PackStub : Nat := 22
abbrev laws_eqByteS : Nat := 34
abbrev laws_eqBytesResult : Nat := 23
abbrev laws_markByteS : Nat := 63
abbrev laws_markBytesResult : Nat := 24
abbrev laws_heldByteS : Nat := 64
abbrev laws_heldBytesResult : Nat := 25
abbrev laws_FnExactPackStub : Nat := 6
abbrev spec_l2New : Nat := 65
abbrev spec_NewPage : Nat := 26
abbrev impl_newPage : Nat := 66
abbrev impl_NewPage : Nat := 27
abbrev laws_eqPageResult : Nat := 28
abbrev laws_markPageResult : Nat := 29
abbrev laws_heldPageResult : Nat := 30
abbrev laws_FnExactNewPage : Nat := 7
abbrev spec_l2Count : Nat := 86
abbrev spec_l2Low : Nat := 87
abbrev spec_l2Size : Nat := 90
abbrev spec_l2Place : Nat := 94
abbrev spec_l2Slot : Nat := 88
abbrev spec_l2Apart : Nat := 89
abbrev spec_l2Fault : Nat := 67
abbrev spec_PageFault : Nat := 31
abbrev laws_toByteS : Nat := 32
abbrev impl_slots : Nat := 68
abbrev impl_spot : Nat := 69
abbrev impl_PageFault : Nat := 33
abbrev laws_FnExactPageFault : Nat := 8
abbrev laws_szOp : Nat := 35
abbrev spec_l10Row : Nat := 92
abbrev spec_l10Form : Nat := 91
abbrev spec_l10Op : Nat := 70
abbrev spec_OpFault : Nat := 36
abbrev laws_toOp : Nat := 37
abbrev impl_onRow : Nat := 71
abbrev impl_isTx : Nat := 72
abbrev impl_OpFault : Nat := 38
abbrev laws_FnExactOpFault : Nat := 9
abbrev laws_szByteS : Nat := 93
abbrev laws_szRun : Nat := 73
abbrev laws_szRunS : Nat := 39
abbrev spec_l3Fault : Nat := 74
abbrev spec_RunsFault : Nat := 40
abbrev laws_toRun : Nat := 75
abbrev laws_toRunS : Nat := 41
abbrev impl_RunsFault : Nat := 42
abbrev laws_eqRun : Nat := 76
abbrev laws_eqRunS : Nat := 43
abbrev laws_FnExactRunsFault : Nat := 10
abbrev spec_l1Read : Nat := 77
abbrev spec_UnpackCell : Nat := 44
abbrev impl_UnpackCell : Nat := 45
abbrev laws_eqRow : Nat := 78
abbrev laws_eqCellResult : Nat := 46
abbrev laws_FnExactUnpackCell : Nat := 11
abbrev spec_l1Cell : Nat := 79
abbrev spec_PackRow : Nat := 47
abbrev impl_cell : Nat := 80
abbrev impl_PackRow : Nat := 48
abbrev laws_FnExactPackRow : Nat := 12
abbrev laws_szRowS : Nat := 49
abbrev spec_l6Rows : Nat := 81
abbrev spec_RowsFault : Nat := 50
abbrev laws_toRowS : Nat := 51
abbrev impl_RowsFault : Nat := 52
abbrev laws_eqRowS : Nat := 53
abbrev laws_FnExactRowsFault : Nat := 13
abbrev spec_l2Free : Nat := 82
abbrev spec_FreeIn : Nat := 54
abbrev impl_freeIn : Nat := 83
abbrev impl_FreeIn : Nat := 55
abbrev laws_eqIntResult : Nat := 56
abbrev laws_FnExactFreeIn : Nat := 14
end Fn
def tab {α : Type} : List (Nat × α) → Nat → Option α
  | [], _ => none
  | (i, x) :: r, d => bif Nat.beq i d then some x else tab r d
theorem tab_mem {α : Type} {l : List (Nat × α)} {d : Nat} {x : α} (h : tab l d = some x) : (d, x) ∈ l := by
  induction l with
  | nil => simp [tab] at h
  | cons p r ih =>
    obtain ⟨i, y⟩ := p
    simp only [tab] at h
    by_cases hi : i = d
    · subst hi; simp at h; subst h; simp
    · rw [show Nat.beq i d = false from by
        cases hb : Nat.beq i d with
        | false => rfl
        | true => exact absurd (Nat.eq_of_beq_eq_true hb) hi] at h
      exact List.mem_cons_of_mem _ (ih h)
noncomputable def tyTab : List (Nat × TI) := [(2, ⟨1, 8, [.int .i64 0], false, .int .i64, false⟩),
  (3, ⟨1, 8, [.int .i64 0], false, .int .i64, false⟩),
  (4, ⟨1, 1, [.bool false], false, .bool, false⟩),
  (5, ⟨1, 1, [.int .u8 0], false, .int .u8, false⟩),
  (9, ⟨1, 16, [.str ⟨#[]⟩], false, .str, false⟩),
  (24, ⟨4, 40, [.int .i64 0, .int .i64 0, .int .i64 0, .str ⟨#[]⟩], true, .st [(0, 2), (1, 2), (2, 2), (3, 9)], true⟩),
  (27, ⟨4, 40, [.int .i64 0, .int .i64 0, .int .i64 0, .str ⟨#[]⟩], true, .st [(0, 2), (1, 2), (2, 2), (3, 9)], true⟩),
  (32, ⟨1, 24, [.sl none 0], false, .sl 5, false⟩),
  (34, ⟨2, 32, [.int .i64 0, .sl none 0], true, .st [(0, 2), (1, 32)], false⟩),
  (40, ⟨3, 40, [.int .i64 0, .int .i64 0, .sl none 0], true, .st [(0, 2), (1, 2), (2, 32)], false⟩),
  (50, ⟨7, 64, [.int .i64 0, .int .i64 0, .int .i64 0, .int .i64 0, .int .i64 0, .str ⟨#[]⟩, .int .i64 0], true, .st [(0, 2), (1, 2), (2, 24), (6, 2)], true⟩),
  (54, ⟨7, 64, [.int .i64 0, .int .i64 0, .int .i64 0, .int .i64 0, .int .i64 0, .str ⟨#[]⟩, .int .i64 0], true, .st [(0, 2), (1, 2), (2, 27), (6, 2)], true⟩),
  (57, ⟨1, 24, [.sl none 0], false, .sl 97, false⟩),
  (60, ⟨1, 24, [.sl none 0], false, .sl 98, false⟩),
  (65, ⟨8, 72, [.int .i64 0, .int .i64 0, .int .i64 0, .int .i64 0, .int .i64 0, .int .i64 0, .int .i64 0, .str ⟨#[]⟩], true, .st [(0, 2), (1, 2), (2, 2), (3, 2), (4, 27)], true⟩),
  (70, ⟨1, 24, [.sl none 0], false, .sl 24, false⟩),
  (73, ⟨1, 24, [.sl none 0], false, .sl 27, false⟩),
  (78, ⟨2, 16, [.int .i64 0, .int .i64 0], true, .st [(0, 2), (1, 2)], true⟩),
  (82, ⟨1, 8, [.ptr none], false, .ptr, false⟩),
  (91, ⟨64, 64, [.bool false, .bool false, .bool false, .bool false, .bool false, .bool false, .bool false, .bool false, .bool false, .bool false, .bool false, .bool false, .bool false, .bool false, .bool false, .bool false, .bool false, .bool false, .bool false, .bool false, .bool false, .bool false, .bool false, .bool false, .bool false, .bool false, .bool false, .bool false, .bool false, .bool false, .bool false, .bool false, .bool false, .bool false, .bool false, .bool false, .bool false, .bool false, .bool false, .bool false, .bool false, .bool false, .bool false, .bool false, .bool false, .bool false, .bool false, .bool false, .bool false, .bool false, .bool false, .bool false, .bool false, .bool false, .bool false, .bool false, .bool false, .bool false, .bool false, .bool false, .bool false, .bool false, .bool false, .bool false], true, .arr 64 4, false⟩),
  (93, ⟨1, 8, [.ptr none], false, .ptr, false⟩),
  (97, ⟨2, 32, [.int .i64 0, .sl none 0], true, .st [(0, 2), (1, 32)], false⟩),
  (98, ⟨2, 32, [.int .i64 0, .sl none 0], true, .st [(0, 2), (1, 32)], false⟩)]
noncomputable def fnTab : List (Nat × Func) := [(3, Go.Proofs.Try.f3), (15, Go.Proofs.Try.f15), (57, Go.Proofs.Try.f57), (16, Go.Proofs.Try.f16), (17, Go.Proofs.Try.f17), (18, Go.Proofs.Try.f18), (4, Go.Proofs.Try.f4), (84, Go.Proofs.Try.f84), (85, Go.Proofs.Try.f85), (58, Go.Proofs.Try.f58), (19, Go.Proofs.Try.f19), (59, Go.Proofs.Try.f59), (20, Go.Proofs.Try.f20), (5, Go.Proofs.Try.f5), (60, Go.Proofs.Try.f60), (61, Go.Proofs.Try.f61), (21, Go.Proofs.Try.f21), (62, Go.Proofs.Try.f62), (22, Go.Proofs.Try.f22), (34, Go.Proofs.Try.f34), (23, Go.Proofs.Try.f23), (63, Go.Proofs.Try.f63), (24, Go.Proofs.Try.f24), (64, Go.Proofs.Try.f64), (25, Go.Proofs.Try.f25), (6, Go.Proofs.Try.f6), (65, Go.Proofs.Try.f65), (26, Go.Proofs.Try.f26), (66, Go.Proofs.Try.f66), (27, Go.Proofs.Try.f27), (28, Go.Proofs.Try.f28), (29, Go.Proofs.Try.f29), (30, Go.Proofs.Try.f30), (7, Go.Proofs.Try.f7), (86, Go.Proofs.Try.f86), (87, Go.Proofs.Try.f87), (90, Go.Proofs.Try.f90), (94, Go.Proofs.Try.f94), (88, Go.Proofs.Try.f88), (89, Go.Proofs.Try.f89), (67, Go.Proofs.Try.f67), (31, Go.Proofs.Try.f31), (32, Go.Proofs.Try.f32), (68, Go.Proofs.Try.f68), (69, Go.Proofs.Try.f69), (33, Go.Proofs.Try.f33), (8, Go.Proofs.Try.f8), (35, Go.Proofs.Try.f35), (92, Go.Proofs.Try.f92), (91, Go.Proofs.Try.f91), (70, Go.Proofs.Try.f70), (36, Go.Proofs.Try.f36), (37, Go.Proofs.Try.f37), (71, Go.Proofs.Try.f71), (72, Go.Proofs.Try.f72), (38, Go.Proofs.Try.f38), (9, Go.Proofs.Try.f9), (93, Go.Proofs.Try.f93), (73, Go.Proofs.Try.f73), (39, Go.Proofs.Try.f39), (74, Go.Proofs.Try.f74), (40, Go.Proofs.Try.f40), (75, Go.Proofs.Try.f75), (41, Go.Proofs.Try.f41), (42, Go.Proofs.Try.f42), (76, Go.Proofs.Try.f76), (43, Go.Proofs.Try.f43), (10, Go.Proofs.Try.f10), (77, Go.Proofs.Try.f77), (44, Go.Proofs.Try.f44), (45, Go.Proofs.Try.f45), (78, Go.Proofs.Try.f78), (46, Go.Proofs.Try.f46), (11, Go.Proofs.Try.f11), (79, Go.Proofs.Try.f79), (47, Go.Proofs.Try.f47), (80, Go.Proofs.Try.f80), (48, Go.Proofs.Try.f48), (12, Go.Proofs.Try.f12), (49, Go.Proofs.Try.f49), (81, Go.Proofs.Try.f81), (50, Go.Proofs.Try.f50), (51, Go.Proofs.Try.f51), (52, Go.Proofs.Try.f52), (53, Go.Proofs.Try.f53), (13, Go.Proofs.Try.f13), (82, Go.Proofs.Try.f82), (54, Go.Proofs.Try.f54), (83, Go.Proofs.Try.f83), (55, Go.Proofs.Try.f55), (56, Go.Proofs.Try.f56), (14, Go.Proofs.Try.f14)]
def keepTab : List (Nat × List Nat) := [(20000, [1, 26, 27]),
  (32000, [0, 3, 4]),
  (33000, [0, 3, 4, 35, 36]),
  (33002, [0, 3, 8, 66, 67]),
  (33004, [0, 3, 8, 10, 11, 12, 66, 67]),
  (34000, [0, 1, 5]),
  (39000, [0, 1, 5]),
  (41000, [0, 3, 4]),
  (42000, [3, 10, 11, 12]),
  (43000, [0, 1, 5]),
  (49000, [0, 1, 5]),
  (51000, [0, 3, 4]),
  (52000, [0, 9, 10, 11]),
  (53000, [0, 1, 5]),
  (63000, [0, 1, 5]),
  (64000, [0, 1, 5]),
  (65000, [0, 3, 4]),
  (66000, [0, 3, 7, 8]),
  (67000, [0, 3, 4]),
  (67002, [0, 3, 5]),
  (67004, [0, 3, 5, 6]),
  (74000, [0, 3]),
  (81000, [0, 3]),
  (82000, [0, 3, 4]),
  (83000, [0, 3, 12, 13]),
  (85000, [0, 3])]
def aftTab : List (Nat × List Nat) := [(20000, []),
  (32000, [3]),
  (33000, [0, 3]),
  (33002, [0, 3]),
  (33004, [0, 3, 8, 66, 67]),
  (34000, []),
  (39000, [1]),
  (41000, [3]),
  (42000, []),
  (43000, []),
  (49000, [1]),
  (51000, [3]),
  (52000, []),
  (53000, []),
  (63000, [1]),
  (64000, [1]),
  (65000, [3]),
  (66000, [3]),
  (67000, [0, 3]),
  (67002, [0, 3]),
  (67004, [0, 3, 5]),
  (74000, []),
  (81000, []),
  (82000, [3]),
  (83000, [3]),
  (85000, [0])]
def killTab : List (Nat × List Nat) := []
def schedTab : List (Nat × List (Nat × Nat)) := [(4008, [(0, 0), (2, 0), (1, 1), (3, 1), (4, 1), (5, 0)]),
  (4009, [(0, 0), (2, 0), (1, 1), (3, 1), (4, 1), (5, 0)]),
  (33003, [(0, 0), (2, 0), (3, 0), (4, 0), (5, 0), (1, 1), (6, 0), (7, 0)]),
  (34006, [(0, 0), (1, 0), (2, 0), (3, 0), (4, 0), (5, 0), (6, 0), (7, 0), (8, 0)]),
  (43006, [(0, 0), (1, 0), (2, 0), (3, 0), (4, 0), (5, 0), (6, 0), (7, 0), (8, 1), (9, 0)]),
  (45002, [(0, 0), (1, 0), (2, 0), (3, 0), (4, 0), (5, 0), (6, 0), (7, 0), (8, 0), (9, 2)]),
  (45005, [(0, 0), (1, 0), (2, 0), (3, 0), (4, 0), (5, 0), (6, 0), (7, 0), (8, 0), (9, 0), (10, 0), (11, 0), (12, 0), (13, 0), (14, 0), (15, 0), (16, 0), (17, 0), (18, 0), (19, 0), (20, 0), (21, 0), (22, 1), (23, 2)]),
  (45008, [(0, 0), (1, 0), (2, 0), (3, 0), (4, 0), (5, 0), (6, 2)]),
  (52009, [(0, 0), (1, 0), (2, 0), (3, 0), (4, 0), (5, 0), (6, 0), (7, 0), (8, 0), (9, 1), (10, 0), (11, 0)]),
  (53006, [(0, 0), (1, 0), (2, 0), (3, 0), (4, 0), (5, 0), (6, 0), (7, 0), (8, 1), (9, 0)]),
  (57001, [(0, 0), (1, 0), (2, 0), (3, 0), (4, 0), (5, 0), (6, 0), (7, 0), (8, 0), (9, 0), (10, 0), (11, 0), (12, 0), (13, 0), (14, 0), (15, 0), (16, 0), (17, 0), (18, 0), (19, 0), (20, 0), (21, 0), (22, 0), (23, 0), (24, 0), (25, 0), (26, 0), (27, 0), (28, 0), (29, 0), (30, 0), (31, 0)]),
  (69001, [(0, 0), (1, 0), (2, 0), (3, 0), (4, 0), (5, 0), (6, 0), (7, 0), (8, 0), (9, 0), (10, 0), (11, 0), (12, 0), (13, 0), (14, 0), (15, 0)]),
  (74009, [(0, 0), (1, 0), (2, 0), (3, 0), (4, 0), (5, 0), (6, 0), (7, 0), (8, 0), (9, 0), (10, 0), (11, 0), (12, 0), (13, 0), (14, 0), (15, 0), (16, 0), (17, 0), (18, 0), (19, 0), (20, 0), (21, 0), (22, 0), (23, 0)]),
  (77002, [(0, 0), (1, 0), (2, 0), (3, 0), (4, 0), (5, 0), (6, 0), (7, 0), (8, 0), (9, 1), (10, 2)]),
  (77003, [(0, 0), (1, 0), (2, 0), (3, 0), (4, 0), (5, 1), (6, 2), (7, 2)]),
  (77006, [(0, 0), (1, 0), (2, 0), (3, 0), (4, 0), (5, 0), (6, 0), (7, 0), (8, 0), (9, 0), (10, 0), (11, 0), (12, 0), (13, 0), (14, 0), (15, 0), (16, 0), (17, 0), (18, 0), (19, 0), (20, 0), (21, 0), (22, 1), (23, 2)]),
  (77007, [(0, 0), (1, 0), (2, 0), (3, 0), (4, 0), (5, 0), (6, 1), (7, 3), (8, 2), (9, 2)]),
  (79001, [(0, 0), (1, 0), (2, 0), (3, 0), (4, 0), (5, 0), (6, 0), (7, 0), (8, 0), (9, 0), (10, 0), (11, 0), (12, 0), (13, 0), (14, 0), (15, 0), (16, 0), (17, 0), (18, 0), (19, 0), (20, 0), (21, 0), (22, 0), (23, 0), (24, 0), (25, 0), (26, 0), (27, 0), (28, 0), (29, 0), (30, 1), (31, 0)]),
  (81009, [(0, 0), (1, 0), (2, 0), (3, 0), (4, 0), (5, 0), (6, 0), (7, 0), (8, 0), (9, 0), (10, 1), (11, 0), (12, 0)])]
def modeTab : List (Nat × Nat) := [(4010, 1),
  (4015, 1),
  (4019, 1),
  (4021, 1),
  (4022, 1),
  (4024, 1),
  (4026, 1),
  (4027, 1),
  (5008, 1),
  (5012, 1),
  (5013, 1),
  (5015, 1),
  (5016, 1),
  (6012, 3),
  (6015, 2),
  (6018, 1),
  (6025, 1),
  (6033, 3),
  (6036, 1),
  (6040, 1),
  (7009, 3),
  (7011, 2),
  (7014, 1),
  (7021, 1),
  (7028, 3),
  (7031, 1),
  (7035, 1),
  (8010, 3),
  (8011, 1),
  (8013, 3),
  (8015, 1),
  (8021, 3),
  (8022, 1),
  (9008, 1),
  (9012, 1),
  (9013, 1),
  (9015, 1),
  (9016, 1),
  (10009, 1),
  (10013, 3),
  (10014, 1),
  (10016, 3),
  (10018, 1),
  (10024, 3),
  (10025, 1),
  (11010, 3),
  (11011, 1),
  (11013, 3),
  (11015, 1),
  (11018, 1),
  (11022, 3),
  (11023, 1),
  (12013, 1),
  (12018, 1),
  (12019, 3),
  (12022, 1),
  (12023, 2),
  (12026, 1),
  (12033, 1),
  (12041, 1),
  (12042, 3),
  (12045, 1),
  (12049, 1),
  (13009, 1),
  (13013, 3),
  (13014, 1),
  (13016, 3),
  (13018, 1),
  (13024, 3),
  (13025, 1),
  (14010, 3),
  (14011, 1),
  (14013, 3),
  (14015, 1),
  (14018, 1),
  (14022, 3),
  (14023, 1),
  (16005, 1),
  (19003, 1),
  (20006, 1),
  (20011, 1),
  (20017, 1),
  (21007, 1),
  (21012, 3),
  (22006, 1),
  (22010, 1),
  (22016, 2),
  (23014, 1),
  (25008, 1),
  (26004, 3),
  (27004, 2),
  (28019, 1),
  (30008, 1),
  (31004, 1),
  (33017, 1),
  (33042, 1),
  (33073, 1),
  (35008, 1),
  (36003, 1),
  (37012, 1),
  (38014, 1),
  (38027, 1),
  (38066, 1),
  (38072, 1),
  (38077, 1),
  (38080, 1),
  (39023, 1),
  (40004, 1),
  (41020, 3),
  (42021, 1),
  (42025, 1),
  (43025, 1),
  (44007, 1),
  (45083, 1),
  (46029, 1),
  (47013, 1),
  (47019, 3),
  (48014, 1),
  (48021, 2),
  (49023, 1),
  (50004, 1),
  (51020, 1),
  (52017, 1),
  (52030, 1),
  (53025, 1),
  (54005, 1),
  (54011, 1),
  (55005, 1),
  (55011, 1),
  (58007, 1),
  (58014, 1),
  (58022, 1),
  (58029, 1),
  (60006, 1),
  (60009, 1),
  (67011, 1),
  (67016, 1),
  (67024, 1),
  (67034, 1),
  (67049, 1),
  (67057, 1),
  (70004, 1),
  (70023, 1),
  (70031, 1),
  (70038, 1),
  (70042, 1),
  (72004, 1),
  (73008, 1),
  (74025, 1),
  (74029, 1),
  (75009, 3),
  (76014, 1),
  (77029, 1),
  (77084, 1),
  (81017, 1),
  (81031, 1),
  (82006, 1),
  (82011, 1),
  (82018, 1),
  (83008, 1),
  (83012, 1),
  (83019, 1),
  (88009, 1),
  (88012, 1),
  (88024, 1),
  (89009, 1),
  (89014, 1),
  (89019, 1),
  (89022, 1),
  (89026, 1),
  (89031, 1),
  (89034, 1),
  (89038, 1),
  (91007, 1),
  (91065, 1),
  (92004, 1)]
def pszTab : List (Nat × List Nat) := [(57, [4, 4]),
  (58, [4]),
  (91, [7]),
  (70, [7]),
  (79, [0, 4])]
def vtTab : List (Nat × VT) := [(2, .one (.i .i64)),
  (3, .one (.i .i64)),
  (4, .one (.b)),
  (5, .one (.i .u8)),
  (9, .one (.s)),
  (24, .agg [.i .i64, .i .i64, .i .i64, .s]),
  (27, .agg [.i .i64, .i .i64, .i .i64, .s]),
  (34, .agg [.i .i64, .x]),
  (40, .agg [.i .i64, .i .i64, .x]),
  (50, .agg [.i .i64, .i .i64, .i .i64, .i .i64, .i .i64, .s, .i .i64]),
  (54, .agg [.i .i64, .i .i64, .i .i64, .i .i64, .i .i64, .s, .i .i64]),
  (65, .agg [.i .i64, .i .i64, .i .i64, .i .i64, .i .i64, .i .i64, .i .i64, .s]),
  (78, .agg [.i .i64, .i .i64]),
  (89, .tup [([.i .i64], false), ([.i .i64], false)]),
  (97, .agg [.i .i64, .x]),
  (98, .agg [.i .i64, .x]),
  (101, .tup [([.i .i64, .i .i64, .i .i64, .i .i64, .i .i64, .i .i64, .i .i64, .s], true), ([.b], false)])]
def vfTab : List (Nat × VT) := [(2, .one (.i .i64)),
  (3, .one (.i .i64)),
  (4, .one (.b)),
  (5, .one (.i .u8)),
  (9, .one (.s)),
  (24, .agg [.i .i64, .i .i64, .i .i64, .s]),
  (27, .agg [.i .i64, .i .i64, .i .i64, .s]),
  (32, .one (.f)),
  (34, .agg [.i .i64, .f]),
  (40, .agg [.i .i64, .i .i64, .f]),
  (50, .agg [.i .i64, .i .i64, .i .i64, .i .i64, .i .i64, .s, .i .i64]),
  (54, .agg [.i .i64, .i .i64, .i .i64, .i .i64, .i .i64, .s, .i .i64]),
  (57, .one (.f)),
  (60, .one (.f)),
  (65, .agg [.i .i64, .i .i64, .i .i64, .i .i64, .i .i64, .i .i64, .i .i64, .s]),
  (70, .one (.f)),
  (73, .one (.f)),
  (78, .agg [.i .i64, .i .i64]),
  (97, .agg [.i .i64, .f]),
  (98, .agg [.i .i64, .f])]
def rtTab : List (Nat × VT) := [(3, .one (.b)),
  (15, .one (.i .i64)),
  (57, .one (.b)),
  (16, .one (.b)),
  (17, .agg [.i .i64, .i .i64, .i .i64, .s]),
  (18, .one (.b)),
  (4, .one (.b)),
  (84, .one (.b)),
  (85, .one (.b)),
  (58, .one (.i .i64)),
  (19, .one (.i .i64)),
  (59, .one (.b)),
  (20, .one (.i .i64)),
  (5, .one (.b)),
  (60, .one (.b)),
  (61, .one (.f)),
  (21, .agg [.i .i64, .f]),
  (62, .one (.f)),
  (22, .agg [.i .i64, .f]),
  (34, .one (.b)),
  (23, .one (.b)),
  (63, .one (.i .i64)),
  (24, .one (.i .i64)),
  (64, .one (.i .i64)),
  (25, .one (.i .i64)),
  (6, .one (.b)),
  (65, .one (.f)),
  (26, .agg [.i .i64, .i .i64, .f]),
  (66, .one (.f)),
  (27, .agg [.i .i64, .i .i64, .f]),
  (28, .one (.b)),
  (29, .one (.i .i64)),
  (30, .one (.i .i64)),
  (7, .one (.b)),
  (86, .one (.i .i64)),
  (87, .one (.i .i64)),
  (90, .one (.i .i64)),
  (94, .one (.i .i64)),
  (88, .one (.b)),
  (89, .one (.b)),
  (67, .one (.i .i64)),
  (31, .one (.i .i64)),
  (32, .one (.f)),
  (68, .one (.i .i64)),
  (69, .tup [([.i .i64], false), ([.i .i64], false)]),
  (33, .one (.i .i64)),
  (8, .one (.b)),
  (35, .one (.i .i64)),
  (92, .one (.b)),
  (91, .one (.b)),
  (70, .one (.i .i64)),
  (36, .one (.i .i64)),
  (37, .agg [.i .i64, .i .i64, .i .i64, .i .i64, .i .i64, .s, .i .i64]),
  (71, .one (.b)),
  (72, .one (.b)),
  (38, .one (.i .i64)),
  (9, .one (.b)),
  (93, .one (.i .i64)),
  (73, .one (.i .i64)),
  (39, .one (.i .i64)),
  (74, .one (.i .i64)),
  (40, .one (.i .i64)),
  (75, .agg [.i .i64, .f]),
  (41, .one (.f)),
  (42, .one (.i .i64)),
  (76, .one (.b)),
  (43, .one (.b)),
  (10, .one (.b)),
  (77, .tup [([.i .i64, .i .i64, .i .i64, .i .i64, .i .i64, .i .i64, .i .i64, .s], true), ([.b], false)]),
  (44, .agg [.i .i64, .i .i64, .i .i64, .i .i64, .i .i64, .i .i64, .i .i64, .s]),
  (45, .agg [.i .i64, .i .i64, .i .i64, .i .i64, .i .i64, .i .i64, .i .i64, .s]),
  (78, .one (.b)),
  (46, .one (.b)),
  (11, .one (.b)),
  (79, .one (.f)),
  (47, .agg [.i .i64, .f]),
  (80, .one (.f)),
  (48, .agg [.i .i64, .f]),
  (12, .one (.b)),
  (49, .one (.i .i64)),
  (81, .one (.i .i64)),
  (50, .one (.i .i64)),
  (51, .one (.f)),
  (52, .one (.i .i64)),
  (53, .one (.b)),
  (13, .one (.b)),
  (82, .one (.i .i64)),
  (54, .agg [.i .i64, .i .i64]),
  (83, .one (.i .i64)),
  (55, .agg [.i .i64, .i .i64]),
  (56, .one (.b)),
  (14, .one (.b))]
def stTab : List (Nat × VT) := [(85000, .one (.s)),
  (63001, .one (.i .i64)),
  (64001, .one (.i .i64)),
  (67000, .one (.f)),
  (67003, .one (.i .i64)),
  (67005, .one (.i .i64)),
  (33000, .one (.f)),
  (33003, .one (.i .i64)),
  (33066, .one (.i .i64)),
  (33067, .one (.i .i64)),
  (39001, .one (.i .i64)),
  (49001, .one (.i .i64)),
  (82003, .one (.i .i64)),
  (83003, .one (.i .i64))]
noncomputable def Ev : Env where
  fn := tab fnTab
  ty := tab tyTab
  keep := fun f i => (tab keepTab (f * 1000 + i)).getD []
  aft := fun f i => (tab aftTab (f * 1000 + i)).getD []
  sched := fun f i => (tab schedTab (f * 1000 + i)).getD []
  kills := fun f i => (tab killTab (f * 1000 + i)).getD []
  mode := fun f i => (tab modeTab (f * 1000 + i)).getD 0
  psz := fun f => (tab pszTab f).getD []
  vt := fun t => (tab vtTab t).getD .any
  vf := fun t => (tab vfTab t).getD .any
  rt := fun f => (tab rtTab f).getD .any
  st := fun f i => (tab stTab (f * 1000 + i)).getD .any
namespace Lp
noncomputable def spec_l1Text (id : Nat) (l : List V) (h : H) : Option LOut := loop Ev Fn.spec_l1Text Go.Proofs.Try.f85 id (lbody Go.Proofs.Try.f85 id) l h
noncomputable def impl_RowFault (id : Nat) (l : List V) (h : H) : Option LOut := loop Ev Fn.impl_RowFault Go.Proofs.Try.f20 id (lbody Go.Proofs.Try.f20 id) l h
noncomputable def laws_eqByteS (id : Nat) (l : List V) (h : H) : Option LOut := loop Ev Fn.laws_eqByteS Go.Proofs.Try.f34 id (lbody Go.Proofs.Try.f34 id) l h
noncomputable def laws_markByteS (id : Nat) (l : List V) (h : H) : Option LOut := loop Ev Fn.laws_markByteS Go.Proofs.Try.f63 id (lbody Go.Proofs.Try.f63 id) l h
noncomputable def laws_heldByteS (id : Nat) (l : List V) (h : H) : Option LOut := loop Ev Fn.laws_heldByteS Go.Proofs.Try.f64 id (lbody Go.Proofs.Try.f64 id) l h
noncomputable def spec_l2New (id : Nat) (l : List V) (h : H) : Option LOut := loop Ev Fn.spec_l2New Go.Proofs.Try.f65 id (lbody Go.Proofs.Try.f65 id) l h
noncomputable def impl_newPage (id : Nat) (l : List V) (h : H) : Option LOut := loop Ev Fn.impl_newPage Go.Proofs.Try.f66 id (lbody Go.Proofs.Try.f66 id) l h
noncomputable def spec_l2Fault (id : Nat) (l : List V) (h : H) : Option LOut := loop Ev Fn.spec_l2Fault Go.Proofs.Try.f67 id (lbody Go.Proofs.Try.f67 id) l h
noncomputable def laws_toByteS (id : Nat) (l : List V) (h : H) : Option LOut := loop Ev Fn.laws_toByteS Go.Proofs.Try.f32 id (lbody Go.Proofs.Try.f32 id) l h
noncomputable def impl_PageFault (id : Nat) (l : List V) (h : H) : Option LOut := loop Ev Fn.impl_PageFault Go.Proofs.Try.f33 id (lbody Go.Proofs.Try.f33 id) l h
noncomputable def laws_szRunS (id : Nat) (l : List V) (h : H) : Option LOut := loop Ev Fn.laws_szRunS Go.Proofs.Try.f39 id (lbody Go.Proofs.Try.f39 id) l h
noncomputable def spec_l3Fault (id : Nat) (l : List V) (h : H) : Option LOut := loop Ev Fn.spec_l3Fault Go.Proofs.Try.f74 id (lbody Go.Proofs.Try.f74 id) l h
noncomputable def laws_toRunS (id : Nat) (l : List V) (h : H) : Option LOut := loop Ev Fn.laws_toRunS Go.Proofs.Try.f41 id (lbody Go.Proofs.Try.f41 id) l h
noncomputable def impl_RunsFault (id : Nat) (l : List V) (h : H) : Option LOut := loop Ev Fn.impl_RunsFault Go.Proofs.Try.f42 id (lbody Go.Proofs.Try.f42 id) l h
noncomputable def laws_eqRunS (id : Nat) (l : List V) (h : H) : Option LOut := loop Ev Fn.laws_eqRunS Go.Proofs.Try.f43 id (lbody Go.Proofs.Try.f43 id) l h
noncomputable def laws_szRowS (id : Nat) (l : List V) (h : H) : Option LOut := loop Ev Fn.laws_szRowS Go.Proofs.Try.f49 id (lbody Go.Proofs.Try.f49 id) l h
noncomputable def spec_l6Rows (id : Nat) (l : List V) (h : H) : Option LOut := loop Ev Fn.spec_l6Rows Go.Proofs.Try.f81 id (lbody Go.Proofs.Try.f81 id) l h
noncomputable def laws_toRowS (id : Nat) (l : List V) (h : H) : Option LOut := loop Ev Fn.laws_toRowS Go.Proofs.Try.f51 id (lbody Go.Proofs.Try.f51 id) l h
noncomputable def impl_RowsFault (id : Nat) (l : List V) (h : H) : Option LOut := loop Ev Fn.impl_RowsFault Go.Proofs.Try.f52 id (lbody Go.Proofs.Try.f52 id) l h
noncomputable def laws_eqRowS (id : Nat) (l : List V) (h : H) : Option LOut := loop Ev Fn.laws_eqRowS Go.Proofs.Try.f53 id (lbody Go.Proofs.Try.f53 id) l h
noncomputable def spec_l2Free (id : Nat) (l : List V) (h : H) : Option LOut := loop Ev Fn.spec_l2Free Go.Proofs.Try.f82 id (lbody Go.Proofs.Try.f82 id) l h
noncomputable def impl_freeIn (id : Nat) (l : List V) (h : H) : Option LOut := loop Ev Fn.impl_freeIn Go.Proofs.Try.f83 id (lbody Go.Proofs.Try.f83 id) l h
end Lp
theorem ty2 : TyOk Go.Proofs.Try.prog 2 ⟨1, 8, [.int .i64 0], false, .int .i64, false⟩ := ⟨by kernel_rfl, by kernel_rfl, ⟨by decide, by rfl⟩, by kernel_rfl, by kernel_rfl⟩
theorem ty3 : TyOk Go.Proofs.Try.prog 3 ⟨1, 8, [.int .i64 0], false, .int .i64, false⟩ := ⟨by kernel_rfl, by kernel_rfl, ⟨by decide, by rfl⟩, by kernel_rfl, by kernel_rfl⟩
theorem ty4 : TyOk Go.Proofs.Try.prog 4 ⟨1, 1, [.bool false], false, .bool, false⟩ := ⟨by kernel_rfl, by kernel_rfl, ⟨by decide, by rfl⟩, by kernel_rfl, by kernel_rfl⟩
theorem ty5 : TyOk Go.Proofs.Try.prog 5 ⟨1, 1, [.int .u8 0], false, .int .u8, false⟩ := ⟨by kernel_rfl, by kernel_rfl, ⟨by decide, by rfl⟩, by kernel_rfl, by kernel_rfl⟩
theorem ty9 : TyOk Go.Proofs.Try.prog 9 ⟨1, 16, [.str ⟨#[]⟩], false, .str, false⟩ := ⟨by kernel_rfl, by kernel_rfl, ⟨by decide, by rfl⟩, by kernel_rfl, by kernel_rfl⟩
theorem ty24 : TyOk Go.Proofs.Try.prog 24 ⟨4, 40, [.int .i64 0, .int .i64 0, .int .i64 0, .str ⟨#[]⟩], true, .st [(0, 2), (1, 2), (2, 2), (3, 9)], true⟩ := ⟨by kernel_rfl, by kernel_rfl, ⟨by decide, by rfl⟩, by kernel_rfl, by kernel_rfl⟩
theorem ty27 : TyOk Go.Proofs.Try.prog 27 ⟨4, 40, [.int .i64 0, .int .i64 0, .int .i64 0, .str ⟨#[]⟩], true, .st [(0, 2), (1, 2), (2, 2), (3, 9)], true⟩ := ⟨by kernel_rfl, by kernel_rfl, ⟨by decide, by rfl⟩, by kernel_rfl, by kernel_rfl⟩
theorem ty32 : TyOk Go.Proofs.Try.prog 32 ⟨1, 24, [.sl none 0], false, .sl 5, false⟩ := ⟨by kernel_rfl, by kernel_rfl, ⟨by decide, by rfl⟩, by kernel_rfl, by kernel_rfl⟩
theorem ty34 : TyOk Go.Proofs.Try.prog 34 ⟨2, 32, [.int .i64 0, .sl none 0], true, .st [(0, 2), (1, 32)], false⟩ := ⟨by kernel_rfl, by kernel_rfl, ⟨by decide, by rfl⟩, by kernel_rfl, by kernel_rfl⟩
theorem ty40 : TyOk Go.Proofs.Try.prog 40 ⟨3, 40, [.int .i64 0, .int .i64 0, .sl none 0], true, .st [(0, 2), (1, 2), (2, 32)], false⟩ := ⟨by kernel_rfl, by kernel_rfl, ⟨by decide, by rfl⟩, by kernel_rfl, by kernel_rfl⟩
theorem ty50 : TyOk Go.Proofs.Try.prog 50 ⟨7, 64, [.int .i64 0, .int .i64 0, .int .i64 0, .int .i64 0, .int .i64 0, .str ⟨#[]⟩, .int .i64 0], true, .st [(0, 2), (1, 2), (2, 24), (6, 2)], true⟩ := ⟨by kernel_rfl, by kernel_rfl, ⟨by decide, by rfl⟩, by kernel_rfl, by kernel_rfl⟩
theorem ty54 : TyOk Go.Proofs.Try.prog 54 ⟨7, 64, [.int .i64 0, .int .i64 0, .int .i64 0, .int .i64 0, .int .i64 0, .str ⟨#[]⟩, .int .i64 0], true, .st [(0, 2), (1, 2), (2, 27), (6, 2)], true⟩ := ⟨by kernel_rfl, by kernel_rfl, ⟨by decide, by rfl⟩, by kernel_rfl, by kernel_rfl⟩
theorem ty57 : TyOk Go.Proofs.Try.prog 57 ⟨1, 24, [.sl none 0], false, .sl 97, false⟩ := ⟨by kernel_rfl, by kernel_rfl, ⟨by decide, by rfl⟩, by kernel_rfl, by kernel_rfl⟩
theorem ty60 : TyOk Go.Proofs.Try.prog 60 ⟨1, 24, [.sl none 0], false, .sl 98, false⟩ := ⟨by kernel_rfl, by kernel_rfl, ⟨by decide, by rfl⟩, by kernel_rfl, by kernel_rfl⟩
theorem ty65 : TyOk Go.Proofs.Try.prog 65 ⟨8, 72, [.int .i64 0, .int .i64 0, .int .i64 0, .int .i64 0, .int .i64 0, .int .i64 0, .int .i64 0, .str ⟨#[]⟩], true, .st [(0, 2), (1, 2), (2, 2), (3, 2), (4, 27)], true⟩ := ⟨by kernel_rfl, by kernel_rfl, ⟨by decide, by rfl⟩, by kernel_rfl, by kernel_rfl⟩
theorem ty70 : TyOk Go.Proofs.Try.prog 70 ⟨1, 24, [.sl none 0], false, .sl 24, false⟩ := ⟨by kernel_rfl, by kernel_rfl, ⟨by decide, by rfl⟩, by kernel_rfl, by kernel_rfl⟩
theorem ty73 : TyOk Go.Proofs.Try.prog 73 ⟨1, 24, [.sl none 0], false, .sl 27, false⟩ := ⟨by kernel_rfl, by kernel_rfl, ⟨by decide, by rfl⟩, by kernel_rfl, by kernel_rfl⟩
theorem ty78 : TyOk Go.Proofs.Try.prog 78 ⟨2, 16, [.int .i64 0, .int .i64 0], true, .st [(0, 2), (1, 2)], true⟩ := ⟨by kernel_rfl, by kernel_rfl, ⟨by decide, by rfl⟩, by kernel_rfl, by kernel_rfl⟩
theorem ty82 : TyOk Go.Proofs.Try.prog 82 ⟨1, 8, [.ptr none], false, .ptr, false⟩ := ⟨by kernel_rfl, by kernel_rfl, ⟨by decide, by rfl⟩, by kernel_rfl, by kernel_rfl⟩
theorem ty91 : TyOk Go.Proofs.Try.prog 91 ⟨64, 64, [.bool false, .bool false, .bool false, .bool false, .bool false, .bool false, .bool false, .bool false, .bool false, .bool false, .bool false, .bool false, .bool false, .bool false, .bool false, .bool false, .bool false, .bool false, .bool false, .bool false, .bool false, .bool false, .bool false, .bool false, .bool false, .bool false, .bool false, .bool false, .bool false, .bool false, .bool false, .bool false, .bool false, .bool false, .bool false, .bool false, .bool false, .bool false, .bool false, .bool false, .bool false, .bool false, .bool false, .bool false, .bool false, .bool false, .bool false, .bool false, .bool false, .bool false, .bool false, .bool false, .bool false, .bool false, .bool false, .bool false, .bool false, .bool false, .bool false, .bool false, .bool false, .bool false, .bool false, .bool false], true, .arr 64 4, false⟩ := ⟨by kernel_rfl, by kernel_rfl, ⟨by decide, by rfl⟩, by kernel_rfl, by kernel_rfl⟩
theorem ty93 : TyOk Go.Proofs.Try.prog 93 ⟨1, 8, [.ptr none], false, .ptr, false⟩ := ⟨by kernel_rfl, by kernel_rfl, ⟨by decide, by rfl⟩, by kernel_rfl, by kernel_rfl⟩
theorem ty97 : TyOk Go.Proofs.Try.prog 97 ⟨2, 32, [.int .i64 0, .sl none 0], true, .st [(0, 2), (1, 32)], false⟩ := ⟨by kernel_rfl, by kernel_rfl, ⟨by decide, by rfl⟩, by kernel_rfl, by kernel_rfl⟩
theorem ty98 : TyOk Go.Proofs.Try.prog 98 ⟨2, 32, [.int .i64 0, .sl none 0], true, .st [(0, 2), (1, 32)], false⟩ := ⟨by kernel_rfl, by kernel_rfl, ⟨by decide, by rfl⟩, by kernel_rfl, by kernel_rfl⟩
def FnOk (f : Nat) (fn : Func) : Prop := Go.Proofs.Try.prog.funcs[f]? = some fn ∧ (fn.name == "runtime.NumGoroutine") = false ∧ ∀ c, fn.body = some c → wfCode Ev f fn.ntmps c = true
noncomputable def wfB (f : Nat) (fn : Func) : Bool := match fn.body with | none => true | some c => wfCode Ev f fn.ntmps c
theorem FnOk.of {f : Nat} {fn : Func} (h1 : Go.Proofs.Try.prog.funcs[f]? = some fn) (h2 : (fn.name == "runtime.NumGoroutine") = false) (h3 : wfB f fn = true) : FnOk f fn := ⟨h1, h2, fun c hc => by unfold wfB at h3; rw [hc] at h3; exact h3⟩
theorem fok3 : FnOk 3 Go.Proofs.Try.f3 := .of Go.Proofs.Try.func3 (by kernel_rfl) (by kernel_rfl)
theorem fok15 : FnOk 15 Go.Proofs.Try.f15 := .of Go.Proofs.Try.func15 (by kernel_rfl) (by kernel_rfl)
theorem fok57 : FnOk 57 Go.Proofs.Try.f57 := .of Go.Proofs.Try.func57 (by kernel_rfl) (by kernel_rfl)
theorem fok16 : FnOk 16 Go.Proofs.Try.f16 := .of Go.Proofs.Try.func16 (by kernel_rfl) (by kernel_rfl)
theorem fok17 : FnOk 17 Go.Proofs.Try.f17 := .of Go.Proofs.Try.func17 (by kernel_rfl) (by kernel_rfl)
theorem fok18 : FnOk 18 Go.Proofs.Try.f18 := .of Go.Proofs.Try.func18 (by kernel_rfl) (by kernel_rfl)
theorem fok4 : FnOk 4 Go.Proofs.Try.f4 := .of Go.Proofs.Try.func4 (by kernel_rfl) (by kernel_rfl)
theorem fok84 : FnOk 84 Go.Proofs.Try.f84 := .of Go.Proofs.Try.func84 (by kernel_rfl) (by kernel_rfl)
theorem fok85 : FnOk 85 Go.Proofs.Try.f85 := .of Go.Proofs.Try.func85 (by kernel_rfl) (by kernel_rfl)
theorem fok58 : FnOk 58 Go.Proofs.Try.f58 := .of Go.Proofs.Try.func58 (by kernel_rfl) (by kernel_rfl)
theorem fok19 : FnOk 19 Go.Proofs.Try.f19 := .of Go.Proofs.Try.func19 (by kernel_rfl) (by kernel_rfl)
theorem fok59 : FnOk 59 Go.Proofs.Try.f59 := .of Go.Proofs.Try.func59 (by kernel_rfl) (by kernel_rfl)
theorem fok20 : FnOk 20 Go.Proofs.Try.f20 := .of Go.Proofs.Try.func20 (by kernel_rfl) (by kernel_rfl)
theorem fok5 : FnOk 5 Go.Proofs.Try.f5 := .of Go.Proofs.Try.func5 (by kernel_rfl) (by kernel_rfl)
theorem fok60 : FnOk 60 Go.Proofs.Try.f60 := .of Go.Proofs.Try.func60 (by kernel_rfl) (by kernel_rfl)
theorem fok61 : FnOk 61 Go.Proofs.Try.f61 := .of Go.Proofs.Try.func61 (by kernel_rfl) (by kernel_rfl)
theorem fok21 : FnOk 21 Go.Proofs.Try.f21 := .of Go.Proofs.Try.func21 (by kernel_rfl) (by kernel_rfl)
theorem fok62 : FnOk 62 Go.Proofs.Try.f62 := .of Go.Proofs.Try.func62 (by kernel_rfl) (by kernel_rfl)
theorem fok22 : FnOk 22 Go.Proofs.Try.f22 := .of Go.Proofs.Try.func22 (by kernel_rfl) (by kernel_rfl)
theorem fok34 : FnOk 34 Go.Proofs.Try.f34 := .of Go.Proofs.Try.func34 (by kernel_rfl) (by kernel_rfl)
theorem fok23 : FnOk 23 Go.Proofs.Try.f23 := .of Go.Proofs.Try.func23 (by kernel_rfl) (by kernel_rfl)
theorem fok63 : FnOk 63 Go.Proofs.Try.f63 := .of Go.Proofs.Try.func63 (by kernel_rfl) (by kernel_rfl)
theorem fok24 : FnOk 24 Go.Proofs.Try.f24 := .of Go.Proofs.Try.func24 (by kernel_rfl) (by kernel_rfl)
theorem fok64 : FnOk 64 Go.Proofs.Try.f64 := .of Go.Proofs.Try.func64 (by kernel_rfl) (by kernel_rfl)
theorem fok25 : FnOk 25 Go.Proofs.Try.f25 := .of Go.Proofs.Try.func25 (by kernel_rfl) (by kernel_rfl)
theorem fok6 : FnOk 6 Go.Proofs.Try.f6 := .of Go.Proofs.Try.func6 (by kernel_rfl) (by kernel_rfl)
theorem fok65 : FnOk 65 Go.Proofs.Try.f65 := .of Go.Proofs.Try.func65 (by kernel_rfl) (by kernel_rfl)
theorem fok26 : FnOk 26 Go.Proofs.Try.f26 := .of Go.Proofs.Try.func26 (by kernel_rfl) (by kernel_rfl)
theorem fok66 : FnOk 66 Go.Proofs.Try.f66 := .of Go.Proofs.Try.func66 (by kernel_rfl) (by kernel_rfl)
theorem fok27 : FnOk 27 Go.Proofs.Try.f27 := .of Go.Proofs.Try.func27 (by kernel_rfl) (by kernel_rfl)
theorem fok28 : FnOk 28 Go.Proofs.Try.f28 := .of Go.Proofs.Try.func28 (by kernel_rfl) (by kernel_rfl)
theorem fok29 : FnOk 29 Go.Proofs.Try.f29 := .of Go.Proofs.Try.func29 (by kernel_rfl) (by kernel_rfl)
theorem fok30 : FnOk 30 Go.Proofs.Try.f30 := .of Go.Proofs.Try.func30 (by kernel_rfl) (by kernel_rfl)
theorem fok7 : FnOk 7 Go.Proofs.Try.f7 := .of Go.Proofs.Try.func7 (by kernel_rfl) (by kernel_rfl)
theorem fok86 : FnOk 86 Go.Proofs.Try.f86 := .of Go.Proofs.Try.func86 (by kernel_rfl) (by kernel_rfl)
theorem fok87 : FnOk 87 Go.Proofs.Try.f87 := .of Go.Proofs.Try.func87 (by kernel_rfl) (by kernel_rfl)
theorem fok90 : FnOk 90 Go.Proofs.Try.f90 := .of Go.Proofs.Try.func90 (by kernel_rfl) (by kernel_rfl)
theorem fok94 : FnOk 94 Go.Proofs.Try.f94 := .of Go.Proofs.Try.func94 (by kernel_rfl) (by kernel_rfl)
theorem fok88 : FnOk 88 Go.Proofs.Try.f88 := .of Go.Proofs.Try.func88 (by kernel_rfl) (by kernel_rfl)
theorem fok89 : FnOk 89 Go.Proofs.Try.f89 := .of Go.Proofs.Try.func89 (by kernel_rfl) (by kernel_rfl)
theorem fok67 : FnOk 67 Go.Proofs.Try.f67 := .of Go.Proofs.Try.func67 (by kernel_rfl) (by kernel_rfl)
theorem fok31 : FnOk 31 Go.Proofs.Try.f31 := .of Go.Proofs.Try.func31 (by kernel_rfl) (by kernel_rfl)
theorem fok32 : FnOk 32 Go.Proofs.Try.f32 := .of Go.Proofs.Try.func32 (by kernel_rfl) (by kernel_rfl)
theorem fok68 : FnOk 68 Go.Proofs.Try.f68 := .of Go.Proofs.Try.func68 (by kernel_rfl) (by kernel_rfl)
theorem fok69 : FnOk 69 Go.Proofs.Try.f69 := .of Go.Proofs.Try.func69 (by kernel_rfl) (by kernel_rfl)
theorem fok33 : FnOk 33 Go.Proofs.Try.f33 := .of Go.Proofs.Try.func33 (by kernel_rfl) (by kernel_rfl)
theorem fok8 : FnOk 8 Go.Proofs.Try.f8 := .of Go.Proofs.Try.func8 (by kernel_rfl) (by kernel_rfl)
theorem fok35 : FnOk 35 Go.Proofs.Try.f35 := .of Go.Proofs.Try.func35 (by kernel_rfl) (by kernel_rfl)
theorem fok92 : FnOk 92 Go.Proofs.Try.f92 := .of Go.Proofs.Try.func92 (by kernel_rfl) (by kernel_rfl)
theorem fok91 : FnOk 91 Go.Proofs.Try.f91 := .of Go.Proofs.Try.func91 (by kernel_rfl) (by kernel_rfl)
theorem fok70 : FnOk 70 Go.Proofs.Try.f70 := .of Go.Proofs.Try.func70 (by kernel_rfl) (by kernel_rfl)
theorem fok36 : FnOk 36 Go.Proofs.Try.f36 := .of Go.Proofs.Try.func36 (by kernel_rfl) (by kernel_rfl)
theorem fok37 : FnOk 37 Go.Proofs.Try.f37 := .of Go.Proofs.Try.func37 (by kernel_rfl) (by kernel_rfl)
theorem fok71 : FnOk 71 Go.Proofs.Try.f71 := .of Go.Proofs.Try.func71 (by kernel_rfl) (by kernel_rfl)
theorem fok72 : FnOk 72 Go.Proofs.Try.f72 := .of Go.Proofs.Try.func72 (by kernel_rfl) (by kernel_rfl)
theorem fok38 : FnOk 38 Go.Proofs.Try.f38 := .of Go.Proofs.Try.func38 (by kernel_rfl) (by kernel_rfl)
theorem fok9 : FnOk 9 Go.Proofs.Try.f9 := .of Go.Proofs.Try.func9 (by kernel_rfl) (by kernel_rfl)
theorem fok93 : FnOk 93 Go.Proofs.Try.f93 := .of Go.Proofs.Try.func93 (by kernel_rfl) (by kernel_rfl)
theorem fok73 : FnOk 73 Go.Proofs.Try.f73 := .of Go.Proofs.Try.func73 (by kernel_rfl) (by kernel_rfl)
theorem fok39 : FnOk 39 Go.Proofs.Try.f39 := .of Go.Proofs.Try.func39 (by kernel_rfl) (by kernel_rfl)
theorem fok74 : FnOk 74 Go.Proofs.Try.f74 := .of Go.Proofs.Try.func74 (by kernel_rfl) (by kernel_rfl)
theorem fok40 : FnOk 40 Go.Proofs.Try.f40 := .of Go.Proofs.Try.func40 (by kernel_rfl) (by kernel_rfl)
theorem fok75 : FnOk 75 Go.Proofs.Try.f75 := .of Go.Proofs.Try.func75 (by kernel_rfl) (by kernel_rfl)
theorem fok41 : FnOk 41 Go.Proofs.Try.f41 := .of Go.Proofs.Try.func41 (by kernel_rfl) (by kernel_rfl)
theorem fok42 : FnOk 42 Go.Proofs.Try.f42 := .of Go.Proofs.Try.func42 (by kernel_rfl) (by kernel_rfl)
theorem fok76 : FnOk 76 Go.Proofs.Try.f76 := .of Go.Proofs.Try.func76 (by kernel_rfl) (by kernel_rfl)
theorem fok43 : FnOk 43 Go.Proofs.Try.f43 := .of Go.Proofs.Try.func43 (by kernel_rfl) (by kernel_rfl)
theorem fok10 : FnOk 10 Go.Proofs.Try.f10 := .of Go.Proofs.Try.func10 (by kernel_rfl) (by kernel_rfl)
theorem fok77 : FnOk 77 Go.Proofs.Try.f77 := .of Go.Proofs.Try.func77 (by kernel_rfl) (by kernel_rfl)
theorem fok44 : FnOk 44 Go.Proofs.Try.f44 := .of Go.Proofs.Try.func44 (by kernel_rfl) (by kernel_rfl)
theorem fok45 : FnOk 45 Go.Proofs.Try.f45 := .of Go.Proofs.Try.func45 (by kernel_rfl) (by kernel_rfl)
theorem fok78 : FnOk 78 Go.Proofs.Try.f78 := .of Go.Proofs.Try.func78 (by kernel_rfl) (by kernel_rfl)
theorem fok46 : FnOk 46 Go.Proofs.Try.f46 := .of Go.Proofs.Try.func46 (by kernel_rfl) (by kernel_rfl)
theorem fok11 : FnOk 11 Go.Proofs.Try.f11 := .of Go.Proofs.Try.func11 (by kernel_rfl) (by kernel_rfl)
theorem fok79 : FnOk 79 Go.Proofs.Try.f79 := .of Go.Proofs.Try.func79 (by kernel_rfl) (by kernel_rfl)
theorem fok47 : FnOk 47 Go.Proofs.Try.f47 := .of Go.Proofs.Try.func47 (by kernel_rfl) (by kernel_rfl)
theorem fok80 : FnOk 80 Go.Proofs.Try.f80 := .of Go.Proofs.Try.func80 (by kernel_rfl) (by kernel_rfl)
theorem fok48 : FnOk 48 Go.Proofs.Try.f48 := .of Go.Proofs.Try.func48 (by kernel_rfl) (by kernel_rfl)
theorem fok12 : FnOk 12 Go.Proofs.Try.f12 := .of Go.Proofs.Try.func12 (by kernel_rfl) (by kernel_rfl)
theorem fok49 : FnOk 49 Go.Proofs.Try.f49 := .of Go.Proofs.Try.func49 (by kernel_rfl) (by kernel_rfl)
theorem fok81 : FnOk 81 Go.Proofs.Try.f81 := .of Go.Proofs.Try.func81 (by kernel_rfl) (by kernel_rfl)
theorem fok50 : FnOk 50 Go.Proofs.Try.f50 := .of Go.Proofs.Try.func50 (by kernel_rfl) (by kernel_rfl)
theorem fok51 : FnOk 51 Go.Proofs.Try.f51 := .of Go.Proofs.Try.func51 (by kernel_rfl) (by kernel_rfl)
theorem fok52 : FnOk 52 Go.Proofs.Try.f52 := .of Go.Proofs.Try.func52 (by kernel_rfl) (by kernel_rfl)
theorem fok53 : FnOk 53 Go.Proofs.Try.f53 := .of Go.Proofs.Try.func53 (by kernel_rfl) (by kernel_rfl)
theorem fok13 : FnOk 13 Go.Proofs.Try.f13 := .of Go.Proofs.Try.func13 (by kernel_rfl) (by kernel_rfl)
theorem fok82 : FnOk 82 Go.Proofs.Try.f82 := .of Go.Proofs.Try.func82 (by kernel_rfl) (by kernel_rfl)
theorem fok54 : FnOk 54 Go.Proofs.Try.f54 := .of Go.Proofs.Try.func54 (by kernel_rfl) (by kernel_rfl)
theorem fok83 : FnOk 83 Go.Proofs.Try.f83 := .of Go.Proofs.Try.func83 (by kernel_rfl) (by kernel_rfl)
theorem fok55 : FnOk 55 Go.Proofs.Try.f55 := .of Go.Proofs.Try.func55 (by kernel_rfl) (by kernel_rfl)
theorem fok56 : FnOk 56 Go.Proofs.Try.f56 := .of Go.Proofs.Try.func56 (by kernel_rfl) (by kernel_rfl)
theorem fok14 : FnOk 14 Go.Proofs.Try.f14 := .of Go.Proofs.Try.func14 (by kernel_rfl) (by kernel_rfl)
theorem all_cons {α : Type} {Q : Nat → α → Prop} {i : Nat} {x : α} {l : List (Nat × α)} (h : Q i x) (hl : ∀ d y, (d, y) ∈ l → Q d y) : ∀ d y, (d, y) ∈ (i, x) :: l → Q d y := by
  intro d y hm
  rcases List.mem_cons.1 hm with hm | hm
  · cases hm; exact h
  · exact hl d y hm
theorem all_nil {α : Type} {Q : Nat → α → Prop} : ∀ d y, (d, y) ∈ ([] : List (Nat × α)) → Q d y := fun _ _ h => by cases h
theorem ty_all : ∀ d y, (d, y) ∈ tyTab → TyOk Go.Proofs.Try.prog d y := all_cons ty2 (all_cons ty3 (all_cons ty4 (all_cons ty5 (all_cons ty9 (all_cons ty24 (all_cons ty27 (all_cons ty32 (all_cons ty34 (all_cons ty40 (all_cons ty50 (all_cons ty54 (all_cons ty57 (all_cons ty60 (all_cons ty65 (all_cons ty70 (all_cons ty73 (all_cons ty78 (all_cons ty82 (all_cons ty91 (all_cons ty93 (all_cons ty97 (all_cons ty98 (all_nil)))))))))))))))))))))))
theorem fn_all : ∀ d y, (d, y) ∈ fnTab → FnOk d y := all_cons fok3 (all_cons fok15 (all_cons fok57 (all_cons fok16 (all_cons fok17 (all_cons fok18 (all_cons fok4 (all_cons fok84 (all_cons fok85 (all_cons fok58 (all_cons fok19 (all_cons fok59 (all_cons fok20 (all_cons fok5 (all_cons fok60 (all_cons fok61 (all_cons fok21 (all_cons fok62 (all_cons fok22 (all_cons fok34 (all_cons fok23 (all_cons fok63 (all_cons fok24 (all_cons fok64 (all_cons fok25 (all_cons fok6 (all_cons fok65 (all_cons fok26 (all_cons fok66 (all_cons fok27 (all_cons fok28 (all_cons fok29 (all_cons fok30 (all_cons fok7 (all_cons fok86 (all_cons fok87 (all_cons fok90 (all_cons fok94 (all_cons fok88 (all_cons fok89 (all_cons fok67 (all_cons fok31 (all_cons fok32 (all_cons fok68 (all_cons fok69 (all_cons fok33 (all_cons fok8 (all_cons fok35 (all_cons fok92 (all_cons fok91 (all_cons fok70 (all_cons fok36 (all_cons fok37 (all_cons fok71 (all_cons fok72 (all_cons fok38 (all_cons fok9 (all_cons fok93 (all_cons fok73 (all_cons fok39 (all_cons fok74 (all_cons fok40 (all_cons fok75 (all_cons fok41 (all_cons fok42 (all_cons fok76 (all_cons fok43 (all_cons fok10 (all_cons fok77 (all_cons fok44 (all_cons fok45 (all_cons fok78 (all_cons fok46 (all_cons fok11 (all_cons fok79 (all_cons fok47 (all_cons fok80 (all_cons fok48 (all_cons fok12 (all_cons fok49 (all_cons fok81 (all_cons fok50 (all_cons fok51 (all_cons fok52 (all_cons fok53 (all_cons fok13 (all_cons fok82 (all_cons fok54 (all_cons fok83 (all_cons fok55 (all_cons fok56 (all_cons fok14 (all_nil))))))))))))))))))))))))))))))))))))))))))))))))))))))))))))))))))))))))))))))))))))))))))))
theorem Ev_ok : EnvOk Go.Proofs.Try.prog Ev := ⟨by kernel_rfl, fun t ti h => ty_all t ti (tab_mem h), fun f fn h => fn_all f fn (tab_mem h)⟩
end Vm
