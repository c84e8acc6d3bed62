/-
  The types and the functions that the small machine asks for, and that they are the program's. Written by a program (gen3.py).
-/
import Derived.Test.YtainemlfiibooaaDoorVmR
import Derived.Test.YtainemlfiibooaaDoorProg
import Derived.KernelRfl
set_option linter.unusedVariables false
set_option maxRecDepth 100000
namespace Vm
open Go
namespace Fn
abbrev laws_szByteS : Nat := 61
abbrev laws_szRun : Nat := 43
abbrev laws_szRunS : Nat := 21
abbrev laws_szRecord : Nat := 5
abbrev spec_l1In : Nat := 44
abbrev spec_l4Runs : Nat := 45
abbrev spec_l3Fault : Nat := 46
abbrev spec_l4Fault : Nat := 22
abbrev spec_l1Digits : Nat := 47
abbrev spec_l4Text : Nat := 23
abbrev spec_RecordText : Nat := 6
abbrev laws_toByteS : Nat := 62
abbrev laws_toRun : Nat := 48
abbrev laws_toRunS : Nat := 24
abbrev laws_toRecord : Nat := 7
abbrev impl_in : Nat := 36
abbrev impl_turns : Nat := 37
abbrev impl_isTx : Nat := 38
abbrev impl_RunsFault : Nat := 39
abbrev impl_RecordFault : Nat := 19
abbrev strconv_small : Nat := 66
abbrev strconv_formatBase10 : Nat := 68
abbrev strconv_isPowerOfTwo : Nat := 80
abbrev bits_TrailingZeros : Nat := 81
abbrev strconv_formatBits : Nat := 69
abbrev strconv_FormatInt_1 : Nat := 63
abbrev strconv_FormatInt_0 : Nat := 49
abbrev impl_digits : Nat := 25
abbrev impl_RecordText : Nat := 8
abbrev laws_eqTextResult : Nat := 9
abbrev laws_eqByteS : Nat := 64
abbrev laws_eqRun : Nat := 50
abbrev laws_eqRunS : Nat := 26
abbrev laws_eqRecord : Nat := 10
abbrev laws_FnExactRecordText : Nat := 3
abbrev laws_lwBig : Nat := 11
abbrev spec_l1Source : Nat := 27
abbrev spec_l1Next : Nat := 31
abbrev spec_l1Pick : Nat := 51
abbrev spec_l2Copy : Nat := 57
abbrev spec_l1Some : Nat := 30
abbrev spec_l2New : Nat := 70
abbrev spec_l2Count : Nat := 82
abbrev spec_l2Size : Nat := 83
abbrev spec_l2Has : Nat := 71
abbrev spec_l2Drop : Nat := 72
abbrev spec_l2Stand : Nat := 84
abbrev spec_l2Place : Nat := 85
abbrev spec_l2Free : Nat := 86
abbrev spec_l2Low : Nat := 87
abbrev spec_l2Set : Nat := 73
abbrev spec_l1Chance : Nat := 74
abbrev spec_l2Cell : Nat := 88
abbrev spec_l2Compact : Nat := 75
abbrev spec_l2Empty : Nat := 89
abbrev spec_l2Put : Nat := 76
abbrev spec_l2Right : Nat := 65
abbrev spec_l3Two : Nat := 52
abbrev spec_l3Diff : Nat := 53
abbrev spec_l4Draw : Nat := 28
abbrev spec_l4Sum : Nat := 54
abbrev spec_l4Pack : Nat := 29
abbrev spec_DrawReadRecord : Nat := 12
abbrev impl_packed : Nat := 34
abbrev impl_copied : Nat := 55
abbrev slices_Equal_byte_byte : Nat := 56
abbrev impl_read : Nat := 32
abbrev impl_ReadRecord : Nat := 13
abbrev spec_l4Read : Nat := 33
abbrev spec_ReadRecord : Nat := 14
abbrev laws_lwSame : Nat := 15
abbrev impl_PackRecord : Nat := 16
abbrev spec_l3Bent : Nat := 58
abbrev spec_l4Bent : Nat := 35
abbrev spec_DrawPackRecord : Nat := 17
abbrev spec_PackRecord : Nat := 18
abbrev slices_EqualFunc_impl_Record_impl_Record_impl_Record_impl_Record : Nat := 40
abbrev slices_EqualFunc_impl_Run_impl_Run_impl_Run_impl_Run : Nat := 59
abbrev impl_sameRuns_1 : Nat := 60
abbrev impl_sameRuns : Nat := 42
abbrev impl_SameRecords_1 : Nat := 41
abbrev impl_SameRecords : Nat := 20
abbrev laws_FnRecords : Nat := 4
end Fn
def tab {α : Type} : List (Nat × α) → Nat → Option α
  | [], _ => none
  | (i, x) :: r, d => bif Nat.beq i d then some x else tab r d
theorem tab_mem {α : Type} {l : List (Nat × α)} {d : Nat} {x : α} (h : tab l d = some x) : (d, x) ∈ l := by
  induction l with
  | nil => simp [tab] at h
  | cons p r ih =>
    obtain ⟨i, y⟩ := p
    simp only [tab] at h
    by_cases hi : i = d
    · subst hi; simp at h; subst h; simp
    · rw [show Nat.beq i d = false from by
        cases hb : Nat.beq i d with
        | false => rfl
        | true => exact absurd (Nat.eq_of_beq_eq_true hb) hi] at h
      exact List.mem_cons_of_mem _ (ih h)
noncomputable def tyTab : List (Nat × TI) := [(2, ⟨1, 8, [.int .i64 0], false, .int .i64, false⟩),
  (3, ⟨1, 8, [.int .i64 0], false, .int .i64, false⟩),
  (4, ⟨1, 1, [.bool false], false, .bool, false⟩),
  (5, ⟨1, 1, [.int .u8 0], false, .int .u8, false⟩),
  (9, ⟨1, 16, [.str ⟨#[]⟩], false, .str, false⟩),
  (22, ⟨1, 24, [.sl none 0], false, .sl 74, false⟩),
  (24, ⟨4, 48, [.int .i64 0, .int .i64 0, .int .i64 0, .sl none 0], true, .st [(0, 2), (1, 2), (2, 2), (3, 22)], false⟩),
  (27, ⟨2, 24, [.int .i64 0, .str ⟨#[]⟩], true, .st [(0, 2), (1, 9)], true⟩),
  (29, ⟨1, 24, [.sl none 0], false, .sl 58, false⟩),
  (31, ⟨4, 48, [.int .i64 0, .int .i64 0, .int .i64 0, .sl none 0], true, .st [(0, 2), (1, 2), (2, 2), (3, 29)], false⟩),
  (34, ⟨1, 8, [.nofn], false, .other, false⟩),
  (36, ⟨1, 24, [.sl none 0], false, .sl 5, false⟩),
  (40, ⟨6, 64, [.int .i64 0, .int .i64 0, .int .i64 0, .int .i64 0, .int .i64 0, .sl none 0], true, .st [(0, 2), (1, 2), (2, 31)], false⟩),
  (44, ⟨2, 32, [.int .i64 0, .sl none 0], true, .st [(0, 2), (1, 36)], false⟩),
  (49, ⟨1, 24, [.sl none 0], false, .sl 31, false⟩),
  (52, ⟨1, 8, [.ptr none], false, .ptr, false⟩),
  (55, ⟨1, 24, [.sl none 0], false, .sl 9, false⟩),
  (58, ⟨2, 32, [.int .i64 0, .sl none 0], true, .st [(0, 2), (1, 36)], false⟩),
  (60, ⟨1, 8, [.ptr none], false, .ptr, false⟩),
  (74, ⟨2, 32, [.int .i64 0, .sl none 0], true, .st [(0, 2), (1, 36)], false⟩),
  (77, ⟨1, 8, [.nofn], false, .other, false⟩),
  (79, ⟨2, 32, [.sl none 0, .int .i64 0], true, .st [(0, 36), (1, 2)], false⟩),
  (85, ⟨1, 8, [.int .u64 0], false, .int .u64, false⟩),
  (89, ⟨1, 24, [.sl none 0], false, .sl 2, false⟩),
  (93, ⟨24, 24, [.int .u8 0, .int .u8 0, .int .u8 0, .int .u8 0, .int .u8 0, .int .u8 0, .int .u8 0, .int .u8 0, .int .u8 0, .int .u8 0, .int .u8 0, .int .u8 0, .int .u8 0, .int .u8 0, .int .u8 0, .int .u8 0, .int .u8 0, .int .u8 0, .int .u8 0, .int .u8 0, .int .u8 0, .int .u8 0, .int .u8 0, .int .u8 0], true, .arr 24 5, false⟩),
  (94, ⟨1, 8, [.int .u64 0], false, .int .u64, false⟩),
  (110, ⟨1, 4, [.int .u32 0], false, .int .u32, false⟩)]
noncomputable def fnTab : List (Nat × Func) := [(61, Go.Proofs.Tryd.f61), (43, Go.Proofs.Tryd.f43), (21, Go.Proofs.Tryd.f21), (5, Go.Proofs.Tryd.f5), (44, Go.Proofs.Tryd.f44), (45, Go.Proofs.Tryd.f45), (46, Go.Proofs.Tryd.f46), (22, Go.Proofs.Tryd.f22), (47, Go.Proofs.Tryd.f47), (23, Go.Proofs.Tryd.f23), (6, Go.Proofs.Tryd.f6), (62, Go.Proofs.Tryd.f62), (48, Go.Proofs.Tryd.f48), (24, Go.Proofs.Tryd.f24), (7, Go.Proofs.Tryd.f7), (36, Go.Proofs.Tryd.f36), (37, Go.Proofs.Tryd.f37), (38, Go.Proofs.Tryd.f38), (39, Go.Proofs.Tryd.f39), (19, Go.Proofs.Tryd.f19), (66, Go.Proofs.Tryd.f66), (68, Go.Proofs.Tryd.f68), (80, Go.Proofs.Tryd.f80), (81, Go.Proofs.Tryd.f81), (63, Go.Proofs.Tryd.f63), (49, Go.Proofs.Tryd.f49), (25, Go.Proofs.Tryd.f25), (8, Go.Proofs.Tryd.f8), (9, Go.Proofs.Tryd.f9), (64, Go.Proofs.Tryd.f64), (50, Go.Proofs.Tryd.f50), (26, Go.Proofs.Tryd.f26), (10, Go.Proofs.Tryd.f10), (3, Go.Proofs.Tryd.f3), (11, Go.Proofs.Tryd.f11), (27, Go.Proofs.Tryd.f27), (31, Go.Proofs.Tryd.f31), (51, Go.Proofs.Tryd.f51), (57, Go.Proofs.Tryd.f57), (30, Go.Proofs.Tryd.f30), (70, Go.Proofs.Tryd.f70), (82, Go.Proofs.Tryd.f82), (83, Go.Proofs.Tryd.f83), (71, Go.Proofs.Tryd.f71), (72, Go.Proofs.Tryd.f72), (84, Go.Proofs.Tryd.f84), (85, Go.Proofs.Tryd.f85), (86, Go.Proofs.Tryd.f86), (87, Go.Proofs.Tryd.f87), (73, Go.Proofs.Tryd.f73), (74, Go.Proofs.Tryd.f74), (88, Go.Proofs.Tryd.f88), (75, Go.Proofs.Tryd.f75), (89, Go.Proofs.Tryd.f89), (76, Go.Proofs.Tryd.f76), (65, Go.Proofs.Tryd.f65), (52, Go.Proofs.Tryd.f52), (53, Go.Proofs.Tryd.f53), (28, Go.Proofs.Tryd.f28), (54, Go.Proofs.Tryd.f54), (29, Go.Proofs.Tryd.f29), (12, Go.Proofs.Tryd.f12), (34, Go.Proofs.Tryd.f34), (55, Go.Proofs.Tryd.f55), (56, Go.Proofs.Tryd.f56), (32, Go.Proofs.Tryd.f32), (13, Go.Proofs.Tryd.f13), (33, Go.Proofs.Tryd.f33), (14, Go.Proofs.Tryd.f14), (15, Go.Proofs.Tryd.f15), (16, Go.Proofs.Tryd.f16), (58, Go.Proofs.Tryd.f58), (35, Go.Proofs.Tryd.f35), (17, Go.Proofs.Tryd.f17), (18, Go.Proofs.Tryd.f18), (40, Go.Proofs.Tryd.f40), (59, Go.Proofs.Tryd.f59), (60, Go.Proofs.Tryd.f60), (42, Go.Proofs.Tryd.f42), (41, Go.Proofs.Tryd.f41), (20, Go.Proofs.Tryd.f20)]
def keepTab : List (Nat × List Nat) := [(8000, [1, 2, 5, 6, 32, 33, 34]),
  (21000, [0, 1, 5]),
  (23000, [0, 3, 4, 5]),
  (24000, [0, 3, 4]),
  (26000, [0, 1, 5]),
  (29000, [0, 3, 4]),
  (30000, [0, 1, 5]),
  (32000, [2, 4, 5, 6, 7, 52, 53]),
  (33000, [0, 2, 3, 4, 5]),
  (34000, [3, 24, 25, 26]),
  (34002, [3, 6, 51, 52, 53]),
  (39000, [3, 10, 11, 12]),
  (40000, [1, 2, 15, 16, 17]),
  (46000, [0, 3]),
  (52000, [0, 4, 5, 6]),
  (53000, [0, 1, 5, 6, 7]),
  (54000, [0, 3, 4]),
  (56000, [0, 1, 12, 13]),
  (59000, [1, 2, 15, 16, 17]),
  (62000, [0, 3, 4]),
  (64000, [0, 1, 5]),
  (65000, [0, 3, 4]),
  (68000, [0, 1, 4]),
  (69000, [0, 1, 3, 4, 10, 11, 12, 13, 14, 15, 16]),
  (69002, [0, 1, 3, 4, 10, 11, 12, 13, 17]),
  (70000, [0, 3, 4]),
  (72000, [5]),
  (75000, [0, 3, 4, 5, 6]),
  (86000, [0, 3, 4]),
  (89000, [0, 3])]
def aftTab : List (Nat × List Nat) := [(8000, [1, 2, 5, 6]),
  (21000, [1]),
  (23000, [0, 3, 4]),
  (24000, [3]),
  (26000, []),
  (29000, [3]),
  (30000, [5]),
  (32000, [2, 4, 5, 6, 7]),
  (33000, [2, 3]),
  (34000, [3]),
  (34002, [3, 6]),
  (39000, []),
  (40000, []),
  (46000, []),
  (52000, [4, 5]),
  (53000, [5]),
  (54000, [3]),
  (56000, []),
  (59000, []),
  (62000, [3]),
  (64000, []),
  (65000, [3]),
  (68000, [0, 1, 4]),
  (69000, [0, 1, 3, 4, 10, 11, 12, 13]),
  (69002, [0, 1, 3, 4, 10, 11, 12, 13]),
  (70000, [3]),
  (72000, [5]),
  (75000, [4, 5]),
  (86000, [3]),
  (89000, [0])]
def killTab : List (Nat × List Nat) := [(12006, [3, 5]),
  (29005, [3])]
def schedTab : List (Nat × List (Nat × Nat)) := [(3010, [(0, 0), (1, 0), (2, 1), (3, 1), (4, 1)]),
  (4005, [(0, 0), (1, 0), (2, 0), (3, 1), (4, 3), (5, 3), (6, 3), (7, 3), (8, 4), (9, 3), (10, 3), (11, 3), (12, 4), (13, 3), (14, 3), (15, 3), (17, 3), (18, 3), (16, 4), (19, 3), (20, 3), (21, 3), (22, 3), (26, 3), (27, 3), (23, 4), (28, 4), (29, 3), (24, 1), (25, 3), (30, 1), (31, 3), (32, 3), (33, 3), (34, 3)]),
  (4010, [(0, 0), (3, 0), (4, 0), (1, 1), (2, 3), (5, 3), (6, 3), (9, 3), (7, 4), (10, 4), (8, 1), (11, 3), (12, 3), (13, 3)]),
  (8005, [(0, 0), (1, 0), (2, 0), (3, 0), (4, 0), (5, 0), (6, 0), (7, 0), (8, 0), (9, 1), (10, 0), (11, 0)]),
  (12006, [(0, 0), (1, 0), (2, 0), (3, 0), (7, 0), (4, 1), (5, 0), (6, 0), (8, 1), (9, 0), (10, 0), (11, 0), (12, 0), (13, 1)]),
  (14005, [(0, 1), (1, 0), (2, 0), (5, 0), (6, 0), (7, 0), (8, 0), (3, 1), (4, 1), (9, 0), (10, 0)]),
  (23001, [(1, 0), (2, 0), (3, 0), (4, 0), (8, 0), (9, 0), (10, 0), (11, 0), (0, 8), (5, 8), (6, 8), (7, 8), (12, 7), (13, 3), (14, 3)]),
  (26006, [(0, 0), (1, 0), (2, 0), (3, 0), (4, 0), (5, 0), (6, 0), (7, 0), (8, 1), (9, 0)]),
  (29001, [(0, 0), (1, 0), (2, 0), (3, 0), (4, 0), (5, 0), (6, 0), (7, 0), (8, 0), (9, 0), (10, 0), (11, 0), (12, 0), (13, 0), (14, 0), (15, 0), (16, 0), (17, 0), (18, 0), (19, 0), (20, 0), (21, 1), (22, 0)]),
  (29005, [(0, 0), (1, 0), (2, 0), (3, 0), (4, 0), (5, 0), (6, 0), (7, 0), (8, 0), (9, 0), (10, 0), (11, 0), (12, 0), (13, 0), (14, 0), (15, 0), (16, 0), (17, 0), (18, 0), (19, 0), (22, 0), (23, 0), (24, 0), (25, 0), (26, 0), (27, 0), (28, 0), (29, 0), (20, 1), (21, 1), (30, 1), (31, 0)]),
  (31008, [(0, 0), (1, 0), (2, 0), (3, 0), (4, 0), (5, 0), (6, 0), (7, 0), (8, 0), (9, 0), (10, 0), (11, 0), (12, 0), (13, 0), (14, 0), (15, 0)]),
  (31010, [(0, 0), (1, 0), (2, 0), (3, 0), (4, 0), (5, 0), (6, 0), (7, 0), (8, 0), (9, 0), (10, 0), (11, 0), (12, 0), (13, 0), (14, 0), (15, 0), (16, 0), (17, 0)]),
  (32004, [(0, 0), (1, 0), (2, 0), (3, 0), (4, 0), (5, 0), (6, 0), (7, 0), (8, 0), (9, 0), (10, 0), (11, 0), (12, 0), (13, 1), (14, 2)]),
  (32011, [(0, 0), (1, 0), (2, 0), (3, 0), (4, 0), (5, 0), (6, 0), (7, 0), (8, 0), (9, 0), (10, 0), (11, 0), (12, 0), (13, 0), (14, 0), (15, 1), (16, 0), (17, 1), (18, 2), (19, 2), (20, 2)]),
  (33001, [(0, 0), (1, 0), (2, 0), (3, 0), (4, 0), (5, 0), (6, 0), (7, 0), (8, 0), (9, 0), (10, 0), (11, 0), (12, 0), (13, 1), (14, 2)]),
  (33008, [(0, 0), (1, 0), (2, 0), (3, 0), (4, 0), (5, 0), (6, 0), (7, 0), (8, 0), (9, 0), (10, 0), (11, 0), (12, 0), (13, 0), (14, 0), (15, 1), (16, 0), (17, 1), (18, 2), (19, 2), (20, 2)]),
  (46009, [(0, 0), (1, 0), (2, 0), (3, 0), (4, 0), (5, 0), (6, 0), (7, 0), (8, 0), (9, 0), (10, 0), (11, 0), (12, 0), (13, 0), (14, 0), (15, 0), (16, 0), (17, 0), (18, 0), (19, 0), (20, 0), (21, 0), (22, 0), (23, 0)]),
  (47005, [(0, 0), (1, 0), (3, 0), (4, 0), (5, 0), (6, 0), (7, 8), (8, 8), (2, 7), (9, 3), (10, 3)]),
  (53006, [(0, 0), (1, 0), (2, 0), (3, 0), (4, 0), (5, 0), (6, 0), (7, 0), (8, 0)]),
  (53012, [(1, 0), (2, 0), (3, 0), (4, 0), (5, 0), (6, 0), (7, 0), (8, 0), (0, 3), (9, 1), (10, 2), (11, 2), (12, 2), (13, 2)]),
  (56006, [(0, 0), (1, 0), (2, 0), (3, 0), (4, 0), (5, 0), (6, 0), (7, 0), (8, 0)]),
  (64006, [(0, 0), (1, 0), (2, 0), (3, 0), (4, 0), (5, 0), (6, 0), (7, 0), (8, 0)]),
  (68007, [(0, 0), (1, 0), (2, 0), (6, 0), (7, 0), (8, 0), (11, 0), (3, 3), (4, 3), (5, 3), (9, 3), (10, 3), (12, 2), (13, 2), (14, 2)]),
  (68008, [(0, 0), (1, 0), (2, 0), (6, 0), (7, 0), (8, 0), (11, 0), (3, 3), (4, 3), (5, 3), (9, 3), (10, 3), (12, 2), (13, 2), (14, 2)]),
  (68009, [(0, 0), (1, 0), (2, 0), (6, 0), (7, 0), (8, 0), (11, 0), (3, 3), (4, 3), (5, 3), (9, 3), (10, 3), (12, 2), (13, 2), (14, 2)]),
  (68010, [(0, 0), (1, 0), (2, 0), (6, 0), (7, 0), (8, 0), (11, 0), (3, 3), (4, 3), (5, 3), (9, 3), (10, 3), (12, 2), (13, 2), (14, 2)]),
  (68017, [(0, 0), (1, 0), (2, 0), (6, 0), (7, 0), (8, 0), (11, 0), (3, 3), (4, 3), (5, 3), (9, 3), (10, 3), (12, 2), (13, 2), (14, 2)]),
  (68018, [(0, 0), (1, 0), (2, 0), (6, 0), (7, 0), (8, 0), (11, 0), (3, 3), (4, 3), (5, 3), (9, 3), (10, 3), (12, 2), (13, 2), (14, 2)]),
  (68023, [(0, 0), (1, 0), (2, 0), (6, 0), (7, 0), (8, 0), (11, 0), (3, 3), (4, 3), (5, 3), (9, 3), (10, 3), (12, 2), (13, 2), (14, 2)])]
def modeTab : List (Nat × Nat) := [(3009, 1),
  (3013, 3),
  (3014, 1),
  (3016, 3),
  (3018, 1),
  (3021, 1),
  (3025, 3),
  (3026, 1),
  (4010, 1),
  (4012, 3),
  (4014, 3),
  (4018, 3),
  (4039, 3),
  (4045, 1),
  (4051, 3),
  (4053, 3),
  (4058, 3),
  (4065, 1),
  (4076, 3),
  (4095, 1),
  (4111, 3),
  (4117, 1),
  (4123, 1),
  (4126, 1),
  (5008, 1),
  (6004, 1),
  (6009, 1),
  (7015, 3),
  (8010, 1),
  (8025, 1),
  (8047, 1),
  (8051, 1),
  (10024, 1),
  (12007, 2),
  (12010, 2),
  (13007, 3),
  (14032, 3),
  (14033, 1),
  (14036, 2),
  (16005, 1),
  (16011, 3),
  (17004, 2),
  (18004, 1),
  (18009, 2),
  (19006, 1),
  (19011, 1),
  (19041, 1),
  (19047, 1),
  (19052, 1),
  (19058, 1),
  (20007, 1),
  (21023, 1),
  (22008, 1),
  (22015, 1),
  (22057, 1),
  (22065, 1),
  (22072, 1),
  (22078, 1),
  (23018, 1),
  (23024, 1),
  (23053, 1),
  (23057, 1),
  (24020, 3),
  (25004, 1),
  (26025, 1),
  (28015, 1),
  (28033, 3),
  (29075, 1),
  (32094, 2),
  (32109, 1),
  (32114, 2),
  (32116, 1),
  (33063, 2),
  (38004, 1),
  (39021, 1),
  (39025, 1),
  (40029, 1),
  (41029, 1),
  (42007, 1),
  (43008, 1),
  (45004, 1),
  (46025, 1),
  (46029, 1),
  (47007, 1),
  (47018, 1),
  (48009, 3),
  (49007, 1),
  (50014, 1),
  (52010, 2),
  (58013, 2),
  (59029, 1),
  (60015, 1),
  (63019, 1),
  (63027, 1),
  (65017, 2),
  (65034, 2),
  (65047, 1),
  (65050, 2),
  (65057, 1),
  (65062, 2),
  (65073, 2),
  (69034, 1),
  (69037, 1),
  (71007, 1),
  (71009, 1),
  (71013, 1),
  (72007, 2),
  (72029, 1),
  (73013, 1),
  (73015, 2),
  (73024, 1),
  (73034, 1),
  (73041, 1),
  (73047, 1),
  (75009, 1),
  (75025, 1),
  (75029, 3),
  (76013, 1),
  (76015, 1),
  (76024, 1),
  (76031, 1),
  (76041, 2),
  (81005, 1),
  (81007, 1),
  (86006, 1),
  (86011, 1),
  (86018, 1),
  (88008, 1),
  (88015, 1),
  (89006, 1),
  (89012, 1),
  (89016, 1)]
def pszTab : List (Nat × List Nat) := [(22, [4]),
  (23, [4]),
  (31, [2, 0]),
  (51, [2, 0]),
  (30, [2, 0]),
  (74, [2, 0]),
  (65, [2]),
  (52, [2]),
  (28, [2]),
  (29, [4]),
  (58, [2]),
  (35, [2])]
def vtTab : List (Nat × VT) := [(2, .one (.i .i64)),
  (3, .one (.i .i64)),
  (4, .one (.b)),
  (5, .one (.i .u8)),
  (9, .one (.s)),
  (24, .agg [.i .i64, .i .i64, .i .i64, .x]),
  (27, .agg [.i .i64, .s]),
  (31, .agg [.i .i64, .i .i64, .i .i64, .x]),
  (40, .agg [.i .i64, .i .i64, .i .i64, .i .i64, .i .i64, .x]),
  (44, .agg [.i .i64, .x]),
  (58, .agg [.i .i64, .x]),
  (66, .tup [([.i .i64, .i .i64, .i .i64, .x], true), ([.i .i64], false)]),
  (74, .agg [.i .i64, .x]),
  (79, .agg [.x, .i .i64]),
  (81, .tup [([.x], false), ([.x], false)]),
  (85, .one (.i .u64)),
  (94, .one (.i .u64)),
  (97, .tup [([.x], false), ([.s], false)]),
  (102, .tup [([.x], false), ([.i .i64], false)]),
  (105, .tup [([.x], false), ([.i .i64], false), ([.i .i64], false)]),
  (110, .one (.i .u32))]
def vfTab : List (Nat × VT) := [(2, .one (.i .i64)),
  (3, .one (.i .i64)),
  (4, .one (.b)),
  (5, .one (.i .u8)),
  (9, .one (.s)),
  (22, .one (.f)),
  (24, .agg [.i .i64, .i .i64, .i .i64, .f]),
  (27, .agg [.i .i64, .s]),
  (29, .one (.f)),
  (31, .agg [.i .i64, .i .i64, .i .i64, .f]),
  (36, .one (.f)),
  (40, .agg [.i .i64, .i .i64, .i .i64, .i .i64, .i .i64, .f]),
  (44, .agg [.i .i64, .f]),
  (49, .one (.f)),
  (55, .one (.f)),
  (58, .agg [.i .i64, .f]),
  (74, .agg [.i .i64, .f]),
  (79, .agg [.f, .i .i64]),
  (85, .one (.i .u64)),
  (89, .one (.f)),
  (93, .agg [.i .u8, .i .u8, .i .u8, .i .u8, .i .u8, .i .u8, .i .u8, .i .u8, .i .u8, .i .u8, .i .u8, .i .u8, .i .u8, .i .u8, .i .u8, .i .u8, .i .u8, .i .u8, .i .u8, .i .u8, .i .u8, .i .u8, .i .u8, .i .u8]),
  (94, .one (.i .u64)),
  (110, .one (.i .u32))]
def rtTab : List (Nat × VT) := [(61, .one (.i .i64)),
  (43, .one (.i .i64)),
  (21, .one (.i .i64)),
  (5, .one (.i .i64)),
  (44, .one (.b)),
  (45, .one (.b)),
  (46, .one (.i .i64)),
  (22, .one (.i .i64)),
  (47, .one (.s)),
  (23, .one (.s)),
  (6, .agg [.i .i64, .s]),
  (62, .one (.f)),
  (48, .agg [.i .i64, .f]),
  (24, .one (.f)),
  (7, .agg [.i .i64, .i .i64, .i .i64, .f]),
  (36, .one (.b)),
  (37, .one (.b)),
  (38, .one (.b)),
  (39, .one (.i .i64)),
  (19, .one (.i .i64)),
  (66, .one (.s)),
  (80, .one (.b)),
  (81, .one (.i .i64)),
  (63, .one (.s)),
  (49, .one (.s)),
  (25, .one (.s)),
  (8, .agg [.i .i64, .s]),
  (9, .one (.b)),
  (64, .one (.b)),
  (50, .one (.b)),
  (26, .one (.b)),
  (10, .one (.b)),
  (3, .one (.b)),
  (11, .one (.b)),
  (31, .one (.i .i64)),
  (51, .one (.i .i64)),
  (57, .one (.f)),
  (30, .one (.f)),
  (70, .one (.f)),
  (82, .one (.i .i64)),
  (83, .one (.i .i64)),
  (71, .one (.b)),
  (72, .one (.f)),
  (85, .one (.i .i64)),
  (86, .one (.i .i64)),
  (87, .one (.i .i64)),
  (73, .tup [([.f], false), ([.i .i64], false)]),
  (74, .one (.b)),
  (88, .one (.f)),
  (75, .one (.f)),
  (89, .one (.i .i64)),
  (76, .tup [([.f], false), ([.i .i64], false), ([.i .i64], false)]),
  (65, .one (.f)),
  (52, .tup [([.f], false), ([.f], false)]),
  (53, .one (.f)),
  (28, .agg [.i .i64, .i .i64, .i .i64, .f]),
  (54, .one (.i .i64)),
  (29, .one (.f)),
  (12, .one (.f)),
  (34, .one (.f)),
  (55, .one (.f)),
  (56, .one (.b)),
  (32, .tup [([.i .i64, .i .i64, .i .i64, .f], true), ([.i .i64], false)]),
  (13, .agg [.i .i64, .i .i64, .i .i64, .i .i64, .i .i64, .f]),
  (33, .agg [.i .i64, .i .i64, .i .i64, .f]),
  (14, .agg [.i .i64, .i .i64, .i .i64, .i .i64, .i .i64, .f]),
  (15, .one (.b)),
  (16, .agg [.i .i64, .f]),
  (58, .one (.f)),
  (35, .agg [.i .i64, .i .i64, .i .i64, .f]),
  (17, .agg [.i .i64, .i .i64, .i .i64, .f]),
  (18, .agg [.i .i64, .f]),
  (40, .one (.b)),
  (59, .one (.b)),
  (60, .one (.b)),
  (42, .one (.b)),
  (41, .one (.b)),
  (20, .one (.b))]
def stTab : List (Nat × VT) := [(21001, .one (.i .i64)),
  (23003, .one (.s)),
  (23004, .one (.i .i64)),
  (68001, .one (.i .u64)),
  (68004, .one (.i .i64)),
  (8005, .one (.s)),
  (8006, .one (.i .i64)),
  (86003, .one (.i .i64)),
  (75005, .one (.i .i64)),
  (89000, .one (.f)),
  (54003, .one (.i .i64)),
  (34006, .one (.i .i64)),
  (32004, .one (.f)),
  (32006, .one (.i .i64)),
  (32007, .one (.i .i64))]
noncomputable def Ev : Env where
  fn := tab fnTab
  ty := tab tyTab
  keep := fun f i => (tab keepTab (f * 1000 + i)).getD []
  aft := fun f i => (tab aftTab (f * 1000 + i)).getD []
  sched := fun f i => (tab schedTab (f * 1000 + i)).getD []
  kills := fun f i => (tab killTab (f * 1000 + i)).getD []
  mode := fun f i => (tab modeTab (f * 1000 + i)).getD 0
  psz := fun f => (tab pszTab f).getD []
  vt := fun t => (tab vtTab t).getD .any
  vf := fun t => (tab vfTab t).getD .any
  rt := fun f => (tab rtTab f).getD .any
  st := fun f i => (tab stTab (f * 1000 + i)).getD .any
namespace Lp
noncomputable def laws_szRunS (id : Nat) (l : List V) (h : H) : Option LOut := loop Ev Fn.laws_szRunS Go.Proofs.Tryd.f21 id (lbody Go.Proofs.Tryd.f21 id) l h
noncomputable def spec_l3Fault (id : Nat) (l : List V) (h : H) : Option LOut := loop Ev Fn.spec_l3Fault Go.Proofs.Tryd.f46 id (lbody Go.Proofs.Tryd.f46 id) l h
noncomputable def spec_l4Text (id : Nat) (l : List V) (h : H) : Option LOut := loop Ev Fn.spec_l4Text Go.Proofs.Tryd.f23 id (lbody Go.Proofs.Tryd.f23 id) l h
noncomputable def laws_toByteS (id : Nat) (l : List V) (h : H) : Option LOut := loop Ev Fn.laws_toByteS Go.Proofs.Tryd.f62 id (lbody Go.Proofs.Tryd.f62 id) l h
noncomputable def laws_toRunS (id : Nat) (l : List V) (h : H) : Option LOut := loop Ev Fn.laws_toRunS Go.Proofs.Tryd.f24 id (lbody Go.Proofs.Tryd.f24 id) l h
noncomputable def impl_RunsFault (id : Nat) (l : List V) (h : H) : Option LOut := loop Ev Fn.impl_RunsFault Go.Proofs.Tryd.f39 id (lbody Go.Proofs.Tryd.f39 id) l h
noncomputable def strconv_formatBase10 (id : Nat) (l : List V) (h : H) : Option LOut := loop Ev Fn.strconv_formatBase10 Go.Proofs.Tryd.f68 id (lbody Go.Proofs.Tryd.f68 id) l h
noncomputable def impl_RecordText (id : Nat) (l : List V) (h : H) : Option LOut := loop Ev Fn.impl_RecordText Go.Proofs.Tryd.f8 id (lbody Go.Proofs.Tryd.f8 id) l h
noncomputable def laws_eqByteS (id : Nat) (l : List V) (h : H) : Option LOut := loop Ev Fn.laws_eqByteS Go.Proofs.Tryd.f64 id (lbody Go.Proofs.Tryd.f64 id) l h
noncomputable def laws_eqRunS (id : Nat) (l : List V) (h : H) : Option LOut := loop Ev Fn.laws_eqRunS Go.Proofs.Tryd.f26 id (lbody Go.Proofs.Tryd.f26 id) l h
noncomputable def spec_l1Some (id : Nat) (l : List V) (h : H) : Option LOut := loop Ev Fn.spec_l1Some Go.Proofs.Tryd.f30 id (lbody Go.Proofs.Tryd.f30 id) l h
noncomputable def spec_l2New (id : Nat) (l : List V) (h : H) : Option LOut := loop Ev Fn.spec_l2New Go.Proofs.Tryd.f70 id (lbody Go.Proofs.Tryd.f70 id) l h
noncomputable def spec_l2Drop (id : Nat) (l : List V) (h : H) : Option LOut := loop Ev Fn.spec_l2Drop Go.Proofs.Tryd.f72 id (lbody Go.Proofs.Tryd.f72 id) l h
noncomputable def spec_l2Free (id : Nat) (l : List V) (h : H) : Option LOut := loop Ev Fn.spec_l2Free Go.Proofs.Tryd.f86 id (lbody Go.Proofs.Tryd.f86 id) l h
noncomputable def spec_l2Compact (id : Nat) (l : List V) (h : H) : Option LOut := loop Ev Fn.spec_l2Compact Go.Proofs.Tryd.f75 id (lbody Go.Proofs.Tryd.f75 id) l h
noncomputable def spec_l2Empty (id : Nat) (l : List V) (h : H) : Option LOut := loop Ev Fn.spec_l2Empty Go.Proofs.Tryd.f89 id (lbody Go.Proofs.Tryd.f89 id) l h
noncomputable def spec_l2Right (id : Nat) (l : List V) (h : H) : Option LOut := loop Ev Fn.spec_l2Right Go.Proofs.Tryd.f65 id (lbody Go.Proofs.Tryd.f65 id) l h
noncomputable def spec_l3Two (id : Nat) (l : List V) (h : H) : Option LOut := loop Ev Fn.spec_l3Two Go.Proofs.Tryd.f52 id (lbody Go.Proofs.Tryd.f52 id) l h
noncomputable def spec_l3Diff (id : Nat) (l : List V) (h : H) : Option LOut := loop Ev Fn.spec_l3Diff Go.Proofs.Tryd.f53 id (lbody Go.Proofs.Tryd.f53 id) l h
noncomputable def spec_l4Sum (id : Nat) (l : List V) (h : H) : Option LOut := loop Ev Fn.spec_l4Sum Go.Proofs.Tryd.f54 id (lbody Go.Proofs.Tryd.f54 id) l h
noncomputable def spec_l4Pack (id : Nat) (l : List V) (h : H) : Option LOut := loop Ev Fn.spec_l4Pack Go.Proofs.Tryd.f29 id (lbody Go.Proofs.Tryd.f29 id) l h
noncomputable def impl_packed (id : Nat) (l : List V) (h : H) : Option LOut := loop Ev Fn.impl_packed Go.Proofs.Tryd.f34 id (lbody Go.Proofs.Tryd.f34 id) l h
noncomputable def slices_Equal_byte_byte (id : Nat) (l : List V) (h : H) : Option LOut := loop Ev Fn.slices_Equal_byte_byte Go.Proofs.Tryd.f56 id (lbody Go.Proofs.Tryd.f56 id) l h
noncomputable def impl_read (id : Nat) (l : List V) (h : H) : Option LOut := loop Ev Fn.impl_read Go.Proofs.Tryd.f32 id (lbody Go.Proofs.Tryd.f32 id) l h
noncomputable def spec_l4Read (id : Nat) (l : List V) (h : H) : Option LOut := loop Ev Fn.spec_l4Read Go.Proofs.Tryd.f33 id (lbody Go.Proofs.Tryd.f33 id) l h
noncomputable def slices_EqualFunc_impl_Record_impl_Record_impl_Record_impl_Record (id : Nat) (l : List V) (h : H) : Option LOut := loop Ev Fn.slices_EqualFunc_impl_Record_impl_Record_impl_Record_impl_Record Go.Proofs.Tryd.f40 id (lbody Go.Proofs.Tryd.f40 id) l h
noncomputable def slices_EqualFunc_impl_Run_impl_Run_impl_Run_impl_Run (id : Nat) (l : List V) (h : H) : Option LOut := loop Ev Fn.slices_EqualFunc_impl_Run_impl_Run_impl_Run_impl_Run Go.Proofs.Tryd.f59 id (lbody Go.Proofs.Tryd.f59 id) l h
end Lp
theorem ty2 : TyOk Go.Proofs.Tryd.prog 2 ⟨1, 8, [.int .i64 0], false, .int .i64, false⟩ := ⟨by kernel_rfl, by kernel_rfl, ⟨by decide, by rfl⟩, by kernel_rfl, by kernel_rfl, by kernel_rfl⟩
theorem ty3 : TyOk Go.Proofs.Tryd.prog 3 ⟨1, 8, [.int .i64 0], false, .int .i64, false⟩ := ⟨by kernel_rfl, by kernel_rfl, ⟨by decide, by rfl⟩, by kernel_rfl, by kernel_rfl, by kernel_rfl⟩
theorem ty4 : TyOk Go.Proofs.Tryd.prog 4 ⟨1, 1, [.bool false], false, .bool, false⟩ := ⟨by kernel_rfl, by kernel_rfl, ⟨by decide, by rfl⟩, by kernel_rfl, by kernel_rfl, by kernel_rfl⟩
theorem ty5 : TyOk Go.Proofs.Tryd.prog 5 ⟨1, 1, [.int .u8 0], false, .int .u8, false⟩ := ⟨by kernel_rfl, by kernel_rfl, ⟨by decide, by rfl⟩, by kernel_rfl, by kernel_rfl, by kernel_rfl⟩
theorem ty9 : TyOk Go.Proofs.Tryd.prog 9 ⟨1, 16, [.str ⟨#[]⟩], false, .str, false⟩ := ⟨by kernel_rfl, by kernel_rfl, ⟨by decide, by rfl⟩, by kernel_rfl, by kernel_rfl, by kernel_rfl⟩
theorem ty22 : TyOk Go.Proofs.Tryd.prog 22 ⟨1, 24, [.sl none 0], false, .sl 74, false⟩ := ⟨by kernel_rfl, by kernel_rfl, ⟨by decide, by rfl⟩, by kernel_rfl, by kernel_rfl, by kernel_rfl⟩
theorem ty24 : TyOk Go.Proofs.Tryd.prog 24 ⟨4, 48, [.int .i64 0, .int .i64 0, .int .i64 0, .sl none 0], true, .st [(0, 2), (1, 2), (2, 2), (3, 22)], false⟩ := ⟨by kernel_rfl, by kernel_rfl, ⟨by decide, by rfl⟩, by kernel_rfl, by kernel_rfl, by kernel_rfl⟩
theorem ty27 : TyOk Go.Proofs.Tryd.prog 27 ⟨2, 24, [.int .i64 0, .str ⟨#[]⟩], true, .st [(0, 2), (1, 9)], true⟩ := ⟨by kernel_rfl, by kernel_rfl, ⟨by decide, by rfl⟩, by kernel_rfl, by kernel_rfl, by kernel_rfl⟩
theorem ty29 : TyOk Go.Proofs.Tryd.prog 29 ⟨1, 24, [.sl none 0], false, .sl 58, false⟩ := ⟨by kernel_rfl, by kernel_rfl, ⟨by decide, by rfl⟩, by kernel_rfl, by kernel_rfl, by kernel_rfl⟩
theorem ty31 : TyOk Go.Proofs.Tryd.prog 31 ⟨4, 48, [.int .i64 0, .int .i64 0, .int .i64 0, .sl none 0], true, .st [(0, 2), (1, 2), (2, 2), (3, 29)], false⟩ := ⟨by kernel_rfl, by kernel_rfl, ⟨by decide, by rfl⟩, by kernel_rfl, by kernel_rfl, by kernel_rfl⟩
theorem ty34 : TyOk Go.Proofs.Tryd.prog 34 ⟨1, 8, [.nofn], false, .other, false⟩ := ⟨by kernel_rfl, by kernel_rfl, ⟨by decide, by rfl⟩, by kernel_rfl, by kernel_rfl, by kernel_rfl⟩
theorem ty36 : TyOk Go.Proofs.Tryd.prog 36 ⟨1, 24, [.sl none 0], false, .sl 5, false⟩ := ⟨by kernel_rfl, by kernel_rfl, ⟨by decide, by rfl⟩, by kernel_rfl, by kernel_rfl, by kernel_rfl⟩
theorem ty40 : TyOk Go.Proofs.Tryd.prog 40 ⟨6, 64, [.int .i64 0, .int .i64 0, .int .i64 0, .int .i64 0, .int .i64 0, .sl none 0], true, .st [(0, 2), (1, 2), (2, 31)], false⟩ := ⟨by kernel_rfl, by kernel_rfl, ⟨by decide, by rfl⟩, by kernel_rfl, by kernel_rfl, by kernel_rfl⟩
theorem ty44 : TyOk Go.Proofs.Tryd.prog 44 ⟨2, 32, [.int .i64 0, .sl none 0], true, .st [(0, 2), (1, 36)], false⟩ := ⟨by kernel_rfl, by kernel_rfl, ⟨by decide, by rfl⟩, by kernel_rfl, by kernel_rfl, by kernel_rfl⟩
theorem ty49 : TyOk Go.Proofs.Tryd.prog 49 ⟨1, 24, [.sl none 0], false, .sl 31, false⟩ := ⟨by kernel_rfl, by kernel_rfl, ⟨by decide, by rfl⟩, by kernel_rfl, by kernel_rfl, by kernel_rfl⟩
theorem ty52 : TyOk Go.Proofs.Tryd.prog 52 ⟨1, 8, [.ptr none], false, .ptr, false⟩ := ⟨by kernel_rfl, by kernel_rfl, ⟨by decide, by rfl⟩, by kernel_rfl, by kernel_rfl, by kernel_rfl⟩
theorem ty55 : TyOk Go.Proofs.Tryd.prog 55 ⟨1, 24, [.sl none 0], false, .sl 9, false⟩ := ⟨by kernel_rfl, by kernel_rfl, ⟨by decide, by rfl⟩, by kernel_rfl, by kernel_rfl, by kernel_rfl⟩
theorem ty58 : TyOk Go.Proofs.Tryd.prog 58 ⟨2, 32, [.int .i64 0, .sl none 0], true, .st [(0, 2), (1, 36)], false⟩ := ⟨by kernel_rfl, by kernel_rfl, ⟨by decide, by rfl⟩, by kernel_rfl, by kernel_rfl, by kernel_rfl⟩
theorem ty60 : TyOk Go.Proofs.Tryd.prog 60 ⟨1, 8, [.ptr none], false, .ptr, false⟩ := ⟨by kernel_rfl, by kernel_rfl, ⟨by decide, by rfl⟩, by kernel_rfl, by kernel_rfl, by kernel_rfl⟩
theorem ty74 : TyOk Go.Proofs.Tryd.prog 74 ⟨2, 32, [.int .i64 0, .sl none 0], true, .st [(0, 2), (1, 36)], false⟩ := ⟨by kernel_rfl, by kernel_rfl, ⟨by decide, by rfl⟩, by kernel_rfl, by kernel_rfl, by kernel_rfl⟩
theorem ty77 : TyOk Go.Proofs.Tryd.prog 77 ⟨1, 8, [.nofn], false, .other, false⟩ := ⟨by kernel_rfl, by kernel_rfl, ⟨by decide, by rfl⟩, by kernel_rfl, by kernel_rfl, by kernel_rfl⟩
theorem ty79 : TyOk Go.Proofs.Tryd.prog 79 ⟨2, 32, [.sl none 0, .int .i64 0], true, .st [(0, 36), (1, 2)], false⟩ := ⟨by kernel_rfl, by kernel_rfl, ⟨by decide, by rfl⟩, by kernel_rfl, by kernel_rfl, by kernel_rfl⟩
theorem ty85 : TyOk Go.Proofs.Tryd.prog 85 ⟨1, 8, [.int .u64 0], false, .int .u64, false⟩ := ⟨by kernel_rfl, by kernel_rfl, ⟨by decide, by rfl⟩, by kernel_rfl, by kernel_rfl, by kernel_rfl⟩
theorem ty89 : TyOk Go.Proofs.Tryd.prog 89 ⟨1, 24, [.sl none 0], false, .sl 2, false⟩ := ⟨by kernel_rfl, by kernel_rfl, ⟨by decide, by rfl⟩, by kernel_rfl, by kernel_rfl, by kernel_rfl⟩
theorem ty93 : TyOk Go.Proofs.Tryd.prog 93 ⟨24, 24, [.int .u8 0, .int .u8 0, .int .u8 0, .int .u8 0, .int .u8 0, .int .u8 0, .int .u8 0, .int .u8 0, .int .u8 0, .int .u8 0, .int .u8 0, .int .u8 0, .int .u8 0, .int .u8 0, .int .u8 0, .int .u8 0, .int .u8 0, .int .u8 0, .int .u8 0, .int .u8 0, .int .u8 0, .int .u8 0, .int .u8 0, .int .u8 0], true, .arr 24 5, false⟩ := ⟨by kernel_rfl, by kernel_rfl, ⟨by decide, by rfl⟩, by kernel_rfl, by kernel_rfl, by kernel_rfl⟩
theorem ty94 : TyOk Go.Proofs.Tryd.prog 94 ⟨1, 8, [.int .u64 0], false, .int .u64, false⟩ := ⟨by kernel_rfl, by kernel_rfl, ⟨by decide, by rfl⟩, by kernel_rfl, by kernel_rfl, by kernel_rfl⟩
theorem ty110 : TyOk Go.Proofs.Tryd.prog 110 ⟨1, 4, [.int .u32 0], false, .int .u32, false⟩ := ⟨by kernel_rfl, by kernel_rfl, ⟨by decide, by rfl⟩, by kernel_rfl, by kernel_rfl, by kernel_rfl⟩
def FnOk (f : Nat) (fn : Func) : Prop := Go.Proofs.Tryd.prog.funcs[f]? = some fn ∧ (fn.name == "runtime.NumGoroutine") = false ∧ ∀ c, fn.body = some c → wfCode Ev f fn.ntmps c = true
noncomputable def wfB (f : Nat) (fn : Func) : Bool := match fn.body with | none => true | some c => wfCode Ev f fn.ntmps c
theorem FnOk.of {f : Nat} {fn : Func} (h1 : Go.Proofs.Tryd.prog.funcs[f]? = some fn) (h2 : (fn.name == "runtime.NumGoroutine") = false) (h3 : wfB f fn = true) : FnOk f fn := ⟨h1, h2, fun c hc => by unfold wfB at h3; rw [hc] at h3; exact h3⟩
theorem fok61 : FnOk 61 Go.Proofs.Tryd.f61 := .of Go.Proofs.Tryd.func61 (by kernel_rfl) (by kernel_rfl)
theorem fok43 : FnOk 43 Go.Proofs.Tryd.f43 := .of Go.Proofs.Tryd.func43 (by kernel_rfl) (by kernel_rfl)
theorem fok21 : FnOk 21 Go.Proofs.Tryd.f21 := .of Go.Proofs.Tryd.func21 (by kernel_rfl) (by kernel_rfl)
theorem fok5 : FnOk 5 Go.Proofs.Tryd.f5 := .of Go.Proofs.Tryd.func5 (by kernel_rfl) (by kernel_rfl)
theorem fok44 : FnOk 44 Go.Proofs.Tryd.f44 := .of Go.Proofs.Tryd.func44 (by kernel_rfl) (by kernel_rfl)
theorem fok45 : FnOk 45 Go.Proofs.Tryd.f45 := .of Go.Proofs.Tryd.func45 (by kernel_rfl) (by kernel_rfl)
theorem fok46 : FnOk 46 Go.Proofs.Tryd.f46 := .of Go.Proofs.Tryd.func46 (by kernel_rfl) (by kernel_rfl)
theorem fok22 : FnOk 22 Go.Proofs.Tryd.f22 := .of Go.Proofs.Tryd.func22 (by kernel_rfl) (by kernel_rfl)
theorem fok47 : FnOk 47 Go.Proofs.Tryd.f47 := .of Go.Proofs.Tryd.func47 (by kernel_rfl) (by kernel_rfl)
theorem fok23 : FnOk 23 Go.Proofs.Tryd.f23 := .of Go.Proofs.Tryd.func23 (by kernel_rfl) (by kernel_rfl)
theorem fok6 : FnOk 6 Go.Proofs.Tryd.f6 := .of Go.Proofs.Tryd.func6 (by kernel_rfl) (by kernel_rfl)
theorem fok62 : FnOk 62 Go.Proofs.Tryd.f62 := .of Go.Proofs.Tryd.func62 (by kernel_rfl) (by kernel_rfl)
theorem fok48 : FnOk 48 Go.Proofs.Tryd.f48 := .of Go.Proofs.Tryd.func48 (by kernel_rfl) (by kernel_rfl)
theorem fok24 : FnOk 24 Go.Proofs.Tryd.f24 := .of Go.Proofs.Tryd.func24 (by kernel_rfl) (by kernel_rfl)
theorem fok7 : FnOk 7 Go.Proofs.Tryd.f7 := .of Go.Proofs.Tryd.func7 (by kernel_rfl) (by kernel_rfl)
theorem fok36 : FnOk 36 Go.Proofs.Tryd.f36 := .of Go.Proofs.Tryd.func36 (by kernel_rfl) (by kernel_rfl)
theorem fok37 : FnOk 37 Go.Proofs.Tryd.f37 := .of Go.Proofs.Tryd.func37 (by kernel_rfl) (by kernel_rfl)
theorem fok38 : FnOk 38 Go.Proofs.Tryd.f38 := .of Go.Proofs.Tryd.func38 (by kernel_rfl) (by kernel_rfl)
theorem fok39 : FnOk 39 Go.Proofs.Tryd.f39 := .of Go.Proofs.Tryd.func39 (by kernel_rfl) (by kernel_rfl)
theorem fok19 : FnOk 19 Go.Proofs.Tryd.f19 := .of Go.Proofs.Tryd.func19 (by kernel_rfl) (by kernel_rfl)
theorem fok66 : FnOk 66 Go.Proofs.Tryd.f66 := .of Go.Proofs.Tryd.func66 (by kernel_rfl) (by kernel_rfl)
theorem fok68 : FnOk 68 Go.Proofs.Tryd.f68 := .of Go.Proofs.Tryd.func68 (by kernel_rfl) (by kernel_rfl)
theorem fok80 : FnOk 80 Go.Proofs.Tryd.f80 := .of Go.Proofs.Tryd.func80 (by kernel_rfl) (by kernel_rfl)
theorem fok81 : FnOk 81 Go.Proofs.Tryd.f81 := .of Go.Proofs.Tryd.func81 (by kernel_rfl) (by kernel_rfl)
theorem fok63 : FnOk 63 Go.Proofs.Tryd.f63 := .of Go.Proofs.Tryd.func63 (by kernel_rfl) (by kernel_rfl)
theorem fok49 : FnOk 49 Go.Proofs.Tryd.f49 := .of Go.Proofs.Tryd.func49 (by kernel_rfl) (by kernel_rfl)
theorem fok25 : FnOk 25 Go.Proofs.Tryd.f25 := .of Go.Proofs.Tryd.func25 (by kernel_rfl) (by kernel_rfl)
theorem fok8 : FnOk 8 Go.Proofs.Tryd.f8 := .of Go.Proofs.Tryd.func8 (by kernel_rfl) (by kernel_rfl)
theorem fok9 : FnOk 9 Go.Proofs.Tryd.f9 := .of Go.Proofs.Tryd.func9 (by kernel_rfl) (by kernel_rfl)
theorem fok64 : FnOk 64 Go.Proofs.Tryd.f64 := .of Go.Proofs.Tryd.func64 (by kernel_rfl) (by kernel_rfl)
theorem fok50 : FnOk 50 Go.Proofs.Tryd.f50 := .of Go.Proofs.Tryd.func50 (by kernel_rfl) (by kernel_rfl)
theorem fok26 : FnOk 26 Go.Proofs.Tryd.f26 := .of Go.Proofs.Tryd.func26 (by kernel_rfl) (by kernel_rfl)
theorem fok10 : FnOk 10 Go.Proofs.Tryd.f10 := .of Go.Proofs.Tryd.func10 (by kernel_rfl) (by kernel_rfl)
theorem fok3 : FnOk 3 Go.Proofs.Tryd.f3 := .of Go.Proofs.Tryd.func3 (by kernel_rfl) (by kernel_rfl)
theorem fok11 : FnOk 11 Go.Proofs.Tryd.f11 := .of Go.Proofs.Tryd.func11 (by kernel_rfl) (by kernel_rfl)
theorem fok27 : FnOk 27 Go.Proofs.Tryd.f27 := .of Go.Proofs.Tryd.func27 (by kernel_rfl) (by kernel_rfl)
theorem fok31 : FnOk 31 Go.Proofs.Tryd.f31 := .of Go.Proofs.Tryd.func31 (by kernel_rfl) (by kernel_rfl)
theorem fok51 : FnOk 51 Go.Proofs.Tryd.f51 := .of Go.Proofs.Tryd.func51 (by kernel_rfl) (by kernel_rfl)
theorem fok57 : FnOk 57 Go.Proofs.Tryd.f57 := .of Go.Proofs.Tryd.func57 (by kernel_rfl) (by kernel_rfl)
theorem fok30 : FnOk 30 Go.Proofs.Tryd.f30 := .of Go.Proofs.Tryd.func30 (by kernel_rfl) (by kernel_rfl)
theorem fok70 : FnOk 70 Go.Proofs.Tryd.f70 := .of Go.Proofs.Tryd.func70 (by kernel_rfl) (by kernel_rfl)
theorem fok82 : FnOk 82 Go.Proofs.Tryd.f82 := .of Go.Proofs.Tryd.func82 (by kernel_rfl) (by kernel_rfl)
theorem fok83 : FnOk 83 Go.Proofs.Tryd.f83 := .of Go.Proofs.Tryd.func83 (by kernel_rfl) (by kernel_rfl)
theorem fok71 : FnOk 71 Go.Proofs.Tryd.f71 := .of Go.Proofs.Tryd.func71 (by kernel_rfl) (by kernel_rfl)
theorem fok72 : FnOk 72 Go.Proofs.Tryd.f72 := .of Go.Proofs.Tryd.func72 (by kernel_rfl) (by kernel_rfl)
theorem fok84 : FnOk 84 Go.Proofs.Tryd.f84 := .of Go.Proofs.Tryd.func84 (by kernel_rfl) (by kernel_rfl)
theorem fok85 : FnOk 85 Go.Proofs.Tryd.f85 := .of Go.Proofs.Tryd.func85 (by kernel_rfl) (by kernel_rfl)
theorem fok86 : FnOk 86 Go.Proofs.Tryd.f86 := .of Go.Proofs.Tryd.func86 (by kernel_rfl) (by kernel_rfl)
theorem fok87 : FnOk 87 Go.Proofs.Tryd.f87 := .of Go.Proofs.Tryd.func87 (by kernel_rfl) (by kernel_rfl)
theorem fok73 : FnOk 73 Go.Proofs.Tryd.f73 := .of Go.Proofs.Tryd.func73 (by kernel_rfl) (by kernel_rfl)
theorem fok74 : FnOk 74 Go.Proofs.Tryd.f74 := .of Go.Proofs.Tryd.func74 (by kernel_rfl) (by kernel_rfl)
theorem fok88 : FnOk 88 Go.Proofs.Tryd.f88 := .of Go.Proofs.Tryd.func88 (by kernel_rfl) (by kernel_rfl)
theorem fok75 : FnOk 75 Go.Proofs.Tryd.f75 := .of Go.Proofs.Tryd.func75 (by kernel_rfl) (by kernel_rfl)
theorem fok89 : FnOk 89 Go.Proofs.Tryd.f89 := .of Go.Proofs.Tryd.func89 (by kernel_rfl) (by kernel_rfl)
theorem fok76 : FnOk 76 Go.Proofs.Tryd.f76 := .of Go.Proofs.Tryd.func76 (by kernel_rfl) (by kernel_rfl)
theorem fok65 : FnOk 65 Go.Proofs.Tryd.f65 := .of Go.Proofs.Tryd.func65 (by kernel_rfl) (by kernel_rfl)
theorem fok52 : FnOk 52 Go.Proofs.Tryd.f52 := .of Go.Proofs.Tryd.func52 (by kernel_rfl) (by kernel_rfl)
theorem fok53 : FnOk 53 Go.Proofs.Tryd.f53 := .of Go.Proofs.Tryd.func53 (by kernel_rfl) (by kernel_rfl)
theorem fok28 : FnOk 28 Go.Proofs.Tryd.f28 := .of Go.Proofs.Tryd.func28 (by kernel_rfl) (by kernel_rfl)
theorem fok54 : FnOk 54 Go.Proofs.Tryd.f54 := .of Go.Proofs.Tryd.func54 (by kernel_rfl) (by kernel_rfl)
theorem fok29 : FnOk 29 Go.Proofs.Tryd.f29 := .of Go.Proofs.Tryd.func29 (by kernel_rfl) (by kernel_rfl)
theorem fok12 : FnOk 12 Go.Proofs.Tryd.f12 := .of Go.Proofs.Tryd.func12 (by kernel_rfl) (by kernel_rfl)
theorem fok34 : FnOk 34 Go.Proofs.Tryd.f34 := .of Go.Proofs.Tryd.func34 (by kernel_rfl) (by kernel_rfl)
theorem fok55 : FnOk 55 Go.Proofs.Tryd.f55 := .of Go.Proofs.Tryd.func55 (by kernel_rfl) (by kernel_rfl)
theorem fok56 : FnOk 56 Go.Proofs.Tryd.f56 := .of Go.Proofs.Tryd.func56 (by kernel_rfl) (by kernel_rfl)
theorem fok32 : FnOk 32 Go.Proofs.Tryd.f32 := .of Go.Proofs.Tryd.func32 (by kernel_rfl) (by kernel_rfl)
theorem fok13 : FnOk 13 Go.Proofs.Tryd.f13 := .of Go.Proofs.Tryd.func13 (by kernel_rfl) (by kernel_rfl)
theorem fok33 : FnOk 33 Go.Proofs.Tryd.f33 := .of Go.Proofs.Tryd.func33 (by kernel_rfl) (by kernel_rfl)
theorem fok14 : FnOk 14 Go.Proofs.Tryd.f14 := .of Go.Proofs.Tryd.func14 (by kernel_rfl) (by kernel_rfl)
theorem fok15 : FnOk 15 Go.Proofs.Tryd.f15 := .of Go.Proofs.Tryd.func15 (by kernel_rfl) (by kernel_rfl)
theorem fok16 : FnOk 16 Go.Proofs.Tryd.f16 := .of Go.Proofs.Tryd.func16 (by kernel_rfl) (by kernel_rfl)
theorem fok58 : FnOk 58 Go.Proofs.Tryd.f58 := .of Go.Proofs.Tryd.func58 (by kernel_rfl) (by kernel_rfl)
theorem fok35 : FnOk 35 Go.Proofs.Tryd.f35 := .of Go.Proofs.Tryd.func35 (by kernel_rfl) (by kernel_rfl)
theorem fok17 : FnOk 17 Go.Proofs.Tryd.f17 := .of Go.Proofs.Tryd.func17 (by kernel_rfl) (by kernel_rfl)
theorem fok18 : FnOk 18 Go.Proofs.Tryd.f18 := .of Go.Proofs.Tryd.func18 (by kernel_rfl) (by kernel_rfl)
theorem fok40 : FnOk 40 Go.Proofs.Tryd.f40 := .of Go.Proofs.Tryd.func40 (by kernel_rfl) (by kernel_rfl)
theorem fok59 : FnOk 59 Go.Proofs.Tryd.f59 := .of Go.Proofs.Tryd.func59 (by kernel_rfl) (by kernel_rfl)
theorem fok60 : FnOk 60 Go.Proofs.Tryd.f60 := .of Go.Proofs.Tryd.func60 (by kernel_rfl) (by kernel_rfl)
theorem fok42 : FnOk 42 Go.Proofs.Tryd.f42 := .of Go.Proofs.Tryd.func42 (by kernel_rfl) (by kernel_rfl)
theorem fok41 : FnOk 41 Go.Proofs.Tryd.f41 := .of Go.Proofs.Tryd.func41 (by kernel_rfl) (by kernel_rfl)
theorem fok20 : FnOk 20 Go.Proofs.Tryd.f20 := .of Go.Proofs.Tryd.func20 (by kernel_rfl) (by kernel_rfl)
theorem all_cons {α : Type} {Q : Nat → α → Prop} {i : Nat} {x : α} {l : List (Nat × α)} (h : Q i x) (hl : ∀ d y, (d, y) ∈ l → Q d y) : ∀ d y, (d, y) ∈ (i, x) :: l → Q d y := by
  intro d y hm
  rcases List.mem_cons.1 hm with hm | hm
  · cases hm; exact h
  · exact hl d y hm
theorem all_nil {α : Type} {Q : Nat → α → Prop} : ∀ d y, (d, y) ∈ ([] : List (Nat × α)) → Q d y := fun _ _ h => by cases h
theorem ty_all : ∀ d y, (d, y) ∈ tyTab → TyOk Go.Proofs.Tryd.prog d y := all_cons ty2 (all_cons ty3 (all_cons ty4 (all_cons ty5 (all_cons ty9 (all_cons ty22 (all_cons ty24 (all_cons ty27 (all_cons ty29 (all_cons ty31 (all_cons ty34 (all_cons ty36 (all_cons ty40 (all_cons ty44 (all_cons ty49 (all_cons ty52 (all_cons ty55 (all_cons ty58 (all_cons ty60 (all_cons ty74 (all_cons ty77 (all_cons ty79 (all_cons ty85 (all_cons ty89 (all_cons ty93 (all_cons ty94 (all_cons ty110 (all_nil)))))))))))))))))))))))))))
theorem fn_all : ∀ d y, (d, y) ∈ fnTab → FnOk d y := all_cons fok61 (all_cons fok43 (all_cons fok21 (all_cons fok5 (all_cons fok44 (all_cons fok45 (all_cons fok46 (all_cons fok22 (all_cons fok47 (all_cons fok23 (all_cons fok6 (all_cons fok62 (all_cons fok48 (all_cons fok24 (all_cons fok7 (all_cons fok36 (all_cons fok37 (all_cons fok38 (all_cons fok39 (all_cons fok19 (all_cons fok66 (all_cons fok68 (all_cons fok80 (all_cons fok81 (all_cons fok63 (all_cons fok49 (all_cons fok25 (all_cons fok8 (all_cons fok9 (all_cons fok64 (all_cons fok50 (all_cons fok26 (all_cons fok10 (all_cons fok3 (all_cons fok11 (all_cons fok27 (all_cons fok31 (all_cons fok51 (all_cons fok57 (all_cons fok30 (all_cons fok70 (all_cons fok82 (all_cons fok83 (all_cons fok71 (all_cons fok72 (all_cons fok84 (all_cons fok85 (all_cons fok86 (all_cons fok87 (all_cons fok73 (all_cons fok74 (all_cons fok88 (all_cons fok75 (all_cons fok89 (all_cons fok76 (all_cons fok65 (all_cons fok52 (all_cons fok53 (all_cons fok28 (all_cons fok54 (all_cons fok29 (all_cons fok12 (all_cons fok34 (all_cons fok55 (all_cons fok56 (all_cons fok32 (all_cons fok13 (all_cons fok33 (all_cons fok14 (all_cons fok15 (all_cons fok16 (all_cons fok58 (all_cons fok35 (all_cons fok17 (all_cons fok18 (all_cons fok40 (all_cons fok59 (all_cons fok60 (all_cons fok42 (all_cons fok41 (all_cons fok20 (all_nil)))))))))))))))))))))))))))))))))))))))))))))))))))))))))))))))))))))))))))))))))
theorem Ev_ok : EnvOk Go.Proofs.Tryd.prog Ev := ⟨by kernel_rfl, fun t ti h => ty_all t ti (tab_mem h), fun f fn h => fn_all f fn (tab_mem h)⟩
end Vm
