/-
  The types and the functions that the small machine asks for, and that they are the program's. Written by a program (gen3.py).
-/
import Derived.Test.YtpdoloemacmbaaaVmR
import Derived.Test.YtpdoloemacmbaaaProg
import Derived.KernelRfl
set_option linter.unusedVariables false
set_option maxRecDepth 100000
namespace Vm
open Go
namespace Fn
abbrev laws_lwBig : Nat := 9
abbrev spec_l1Source : Nat := 49
abbrev spec_l1Next : Nat := 52
abbrev spec_l1Pick : Nat := 123
abbrev spec_l1Draw : Nat := 67
abbrev spec_l6At : Nat := 120
abbrev spec_l1Before : Nat := 119
abbrev spec_l6Put : Nat := 121
abbrev spec_l6DrawRows : Nat := 63
abbrev spec_l1Bent : Nat := 64
abbrev spec_l6BentRows : Nat := 50
abbrev spec_l1Chance : Nat := 51
abbrev spec_DrawChangesOf : Nat := 10
abbrev impl_in : Nat := 133
abbrev impl_RowFault : Nat := 115
abbrev impl_IsBefore : Nat := 116
abbrev impl_RowsFault : Nat := 53
abbrev impl_order : Nat := 117
abbrev impl_between : Nat := 54
abbrev impl_ChangesOf : Nat := 11
abbrev spec_l1In : Nat := 129
abbrev spec_l1Text : Nat := 159
abbrev spec_l1Fault : Nat := 118
abbrev spec_l6Rows : Nat := 55
abbrev spec_l6Changes : Nat := 56
abbrev spec_ChangesOf : Nat := 12
abbrev slices_Clone_impl_Row_impl_Row : Nat := 57
abbrev impl_changeFault : Nat := 58
abbrev impl_Change_key : Nat := 70
abbrev slices_BinarySearchFunc_impl_Row_impl_Row_impl_Row : Nat := 122
abbrev impl_Change_fitsTo : Nat := 59
abbrev impl_changed : Nat := 60
abbrev impl_ApplyChanges : Nat := 13
abbrev impl_singleFault : Nat := 61
abbrev impl_inverse : Nat := 62
abbrev impl_InverseOf : Nat := 14
abbrev spec_DrawApplyChanges : Nat := 15
abbrev laws_lwRows : Nat := 16
abbrev spec_l6Change : Nat := 65
abbrev spec_l6Key : Nat := 124
abbrev spec_l6Do : Nat := 66
abbrev spec_ApplyChanges : Nat := 17
abbrev laws_FnChanges : Nat := 3
end Fn
def tab {α : Type} : List (Nat × α) → Nat → Option α
  | [], _ => none
  | (i, x) :: r, d => bif Nat.beq i d then some x else tab r d
theorem tab_mem {α : Type} {l : List (Nat × α)} {d : Nat} {x : α} (h : tab l d = some x) : (d, x) ∈ l := by
  induction l with
  | nil => simp [tab] at h
  | cons p r ih =>
    obtain ⟨i, y⟩ := p
    simp only [tab] at h
    by_cases hi : i = d
    · subst hi; simp at h; subst h; simp
    · rw [show Nat.beq i d = false from by
        cases hb : Nat.beq i d with
        | false => rfl
        | true => exact absurd (Nat.eq_of_beq_eq_true hb) hi] at h
      exact List.mem_cons_of_mem _ (ih h)
noncomputable def tyTab : List (Nat × TI) := [(2, ⟨1, 8, [.int .i64 0], false, .int .i64, false⟩),
  (3, ⟨1, 8, [.int .i64 0], false, .int .i64, false⟩),
  (4, ⟨1, 1, [.bool false], false, .bool, false⟩),
  (5, ⟨1, 1, [.int .u8 0], false, .int .u8, false⟩),
  (9, ⟨1, 16, [.str ⟨#[]⟩], false, .str, false⟩),
  (22, ⟨1, 24, [.sl none 0], false, .sl 5, false⟩),
  (24, ⟨1, 24, [.sl none 0], false, .sl 39, false⟩),
  (27, ⟨1, 24, [.sl none 0], false, .sl 41, false⟩),
  (29, ⟨2, 32, [.int .i64 0, .sl none 0], true, .st [(0, 2), (1, 27)], false⟩),
  (32, ⟨2, 32, [.int .i64 0, .sl none 0], true, .st [(0, 2), (1, 24)], false⟩),
  (39, ⟨4, 40, [.int .i64 0, .int .i64 0, .int .i64 0, .str ⟨#[]⟩], true, .st [(0, 2), (1, 2), (2, 2), (3, 9)], true⟩),
  (41, ⟨10, 96, [.bool false, .int .i64 0, .int .i64 0, .int .i64 0, .str ⟨#[]⟩, .bool false, .int .i64 0, .int .i64 0, .int .i64 0, .str ⟨#[]⟩], true, .st [(0, 4), (1, 39), (5, 4), (6, 39)], true⟩),
  (88, ⟨1, 8, [.ptr none], false, .ptr, false⟩),
  (102, ⟨1, 8, [.ptr none], false, .ptr, false⟩),
  (134, ⟨1, 24, [.sl none 0], false, .sl 2, false⟩),
  (157, ⟨2, 32, [.sl none 0, .int .i64 0], true, .st [(0, 22), (1, 2)], false⟩),
  (159, ⟨1, 8, [.nofn], false, .other, false⟩),
  (161, ⟨1, 8, [.ptr none], false, .ptr, false⟩),
  (167, ⟨1, 24, [.sl none 0], false, .sl 9, false⟩),
  (170, ⟨1, 8, [.int .u64 0], false, .int .u64, false⟩)]
noncomputable def fnTab : List (Nat × Func) := [(9, Go.Proofs.Try.f9), (49, Go.Proofs.Try.f49), (52, Go.Proofs.Try.f52), (123, Go.Proofs.Try.f123), (67, Go.Proofs.Try.f67), (120, Go.Proofs.Try.f120), (119, Go.Proofs.Try.f119), (121, Go.Proofs.Try.f121), (63, Go.Proofs.Try.f63), (64, Go.Proofs.Try.f64), (50, Go.Proofs.Try.f50), (51, Go.Proofs.Try.f51), (10, Go.Proofs.Try.f10), (133, Go.Proofs.Try.f133), (115, Go.Proofs.Try.f115), (116, Go.Proofs.Try.f116), (53, Go.Proofs.Try.f53), (117, Go.Proofs.Try.f117), (54, Go.Proofs.Try.f54), (11, Go.Proofs.Try.f11), (129, Go.Proofs.Try.f129), (159, Go.Proofs.Try.f159), (118, Go.Proofs.Try.f118), (55, Go.Proofs.Try.f55), (56, Go.Proofs.Try.f56), (12, Go.Proofs.Try.f12), (57, Go.Proofs.Try.f57), (58, Go.Proofs.Try.f58), (70, Go.Proofs.Try.f70), (122, Go.Proofs.Try.f122), (59, Go.Proofs.Try.f59), (60, Go.Proofs.Try.f60), (13, Go.Proofs.Try.f13), (61, Go.Proofs.Try.f61), (62, Go.Proofs.Try.f62), (14, Go.Proofs.Try.f14), (15, Go.Proofs.Try.f15), (16, Go.Proofs.Try.f16), (65, Go.Proofs.Try.f65), (124, Go.Proofs.Try.f124), (66, Go.Proofs.Try.f66), (17, Go.Proofs.Try.f17), (3, Go.Proofs.Try.f3)]
def keepTab : List (Nat × List Nat) := [(13000, [4, 6, 18, 19, 20]),
  (14000, [0, 2, 10, 11, 12]),
  (16000, [0, 1, 5]),
  (17000, [1, 4, 6, 7]),
  (53000, [0, 9, 10, 11]),
  (54000, [0, 1, 5]),
  (55000, [0, 3]),
  (56000, [0, 1, 5, 6]),
  (56002, [0, 1, 5, 7, 8]),
  (62000, [0, 3, 4]),
  (63000, [0, 3, 4]),
  (66000, [0, 1, 8, 9, 10]),
  (115000, [1, 26, 27]),
  (120000, [0, 1, 2, 7]),
  (121000, [0, 3, 5]),
  (122000, [0, 2, 4, 8, 9, 10]),
  (159000, [0, 3])]
def aftTab : List (Nat × List Nat) := [(13000, [4, 6]),
  (14000, [0, 2]),
  (16000, []),
  (17000, [4, 6]),
  (53000, []),
  (54000, [5]),
  (55000, []),
  (56000, [0, 1, 5]),
  (56002, [7]),
  (62000, [3]),
  (63000, [3]),
  (66000, [1, 9]),
  (115000, []),
  (120000, []),
  (121000, [0, 3, 5]),
  (122000, [0, 2, 4, 8, 9]),
  (159000, [0])]
def killTab : List (Nat × List Nat) := [(54011, [7]),
  (54014, [7])]
def schedTab : List (Nat × List (Nat × Nat)) := [(3006, [(0, 0), (1, 0), (4, 0), (5, 0), (2, 1), (3, 0), (6, 0), (7, 0)]),
  (3012, [(0, 0), (1, 0), (2, 0), (3, 0), (4, 0), (5, 0), (6, 0), (7, 1), (8, 0), (9, 0), (10, 0), (11, 0), (12, 0), (13, 0), (14, 0), (15, 0), (16, 0), (17, 0), (18, 0), (19, 0), (20, 0), (21, 0), (22, 0), (23, 1), (24, 0), (25, 0), (26, 0), (27, 0), (28, 0), (29, 0), (30, 0), (31, 0), (32, 1), (33, 0), (34, 0), (35, 0), (36, 0), (37, 0), (38, 0), (39, 0), (40, 1), (41, 0), (42, 0), (43, 0), (44, 0), (45, 0), (46, 0), (47, 0), (48, 0), (49, 1), (50, 0), (51, 1), (52, 0), (53, 0)]),
  (16006, [(0, 0), (1, 0), (2, 0), (3, 0), (4, 0), (5, 0), (6, 0), (7, 0), (8, 0)]),
  (52008, [(0, 0), (1, 0), (2, 0), (3, 0), (4, 0), (5, 0), (6, 0), (7, 0), (8, 0), (9, 0), (10, 0), (11, 0), (12, 0), (13, 0), (14, 0), (15, 0)]),
  (52010, [(0, 0), (1, 0), (2, 0), (3, 0), (4, 0), (5, 0), (6, 0), (7, 0), (8, 0), (9, 0), (10, 0), (11, 0), (12, 0), (13, 0), (14, 0), (15, 0), (16, 0), (17, 0)]),
  (53009, [(0, 0), (1, 0), (2, 0), (3, 0), (4, 0), (5, 0), (6, 0), (7, 0), (8, 0), (9, 1), (10, 0), (11, 0)]),
  (54004, [(0, 0), (1, 0), (2, 0), (3, 0), (4, 0), (5, 0), (6, 1), (7, 0)]),
  (54011, [(0, 0), (1, 0), (2, 0), (3, 0), (4, 1), (5, 0), (6, 1)]),
  (54014, [(0, 0), (1, 0), (2, 0), (3, 0), (4, 1), (5, 0), (6, 1)]),
  (55009, [(0, 0), (1, 0), (2, 0), (3, 0), (4, 0), (5, 0), (6, 0), (7, 0), (8, 0), (9, 0), (10, 1), (11, 0), (12, 0)]),
  (56005, [(0, 0), (1, 0), (2, 0), (3, 0), (4, 0), (5, 0), (6, 0), (7, 0), (8, 0), (9, 0), (10, 0), (11, 1), (12, 0)]),
  (56011, [(0, 0), (1, 0), (2, 0), (3, 0), (4, 0), (5, 0), (6, 0), (7, 0), (8, 0), (9, 0), (10, 0), (11, 1), (12, 0)]),
  (56012, [(0, 0), (1, 0), (2, 0), (3, 0), (4, 0), (5, 0), (6, 0), (7, 0), (8, 0), (9, 0), (10, 0), (11, 1), (12, 0)]),
  (56013, [(0, 0), (1, 0), (2, 0), (3, 0), (4, 0), (5, 0), (6, 0), (7, 0), (8, 0), (9, 0), (10, 0), (11, 0), (12, 0), (13, 0), (14, 0), (15, 0), (16, 0)]),
  (59002, [(0, 0), (1, 0), (2, 0), (3, 0), (4, 0), (5, 0), (6, 0), (7, 0), (8, 0), (9, 0), (10, 0), (11, 0), (12, 0), (13, 0), (14, 0), (15, 0), (16, 0), (17, 0)]),
  (65001, [(0, 0), (1, 0), (2, 0), (3, 0), (4, 0), (5, 0), (6, 0), (7, 0), (8, 0), (9, 0), (10, 0), (11, 0), (12, 0), (13, 0), (14, 0), (15, 0), (16, 0), (17, 0), (18, 0), (19, 0), (20, 0), (21, 0), (22, 0), (23, 0), (24, 0), (25, 0), (26, 0), (27, 0), (28, 0), (29, 0), (30, 0), (31, 0), (32, 0), (33, 0), (34, 0), (35, 0), (36, 0), (37, 0), (38, 0), (39, 0), (40, 0), (41, 0), (42, 0), (43, 0), (44, 0), (45, 0), (46, 0), (47, 0), (48, 0), (49, 0)]),
  (66003, [(0, 0), (1, 0), (2, 0), (3, 0), (4, 0), (5, 0), (6, 0), (7, 0), (8, 0), (9, 0), (10, 0), (11, 0), (12, 0), (13, 0), (14, 0), (15, 0), (16, 0), (17, 0), (18, 0), (19, 0), (20, 0), (21, 0)]),
  (119001, [(0, 0), (1, 0), (2, 0), (3, 0), (4, 0), (5, 0), (6, 0), (7, 0), (8, 0), (9, 0), (10, 0), (11, 0), (12, 0), (13, 0), (14, 0), (15, 0), (16, 0), (17, 0), (18, 0), (19, 0), (20, 0), (21, 0), (22, 0), (23, 0), (24, 0), (25, 0), (26, 0), (27, 0), (28, 0), (29, 0), (30, 0), (31, 0)]),
  (121005, [(0, 0), (1, 0), (4, 3), (5, 3), (6, 3), (2, 1), (3, 2), (7, 2), (8, 2)]),
  (122005, [(0, 0), (1, 0), (2, 0), (3, 0), (4, 0), (5, 0), (6, 1), (7, 0)]),
  (122008, [(0, 0), (1, 0), (2, 0), (3, 0), (4, 0), (5, 0), (6, 0), (7, 0), (8, 0), (9, 0), (10, 0), (11, 1), (12, 0), (13, 0), (14, 0), (15, 0)]),
  (124002, [(0, 0), (1, 0), (2, 0), (3, 0), (4, 0), (5, 0), (6, 0), (7, 0), (8, 0), (9, 0), (10, 0), (11, 0)]),
  (124003, [(0, 0), (1, 0), (2, 0), (3, 0), (4, 0), (5, 0), (6, 0), (7, 0), (8, 0), (9, 0), (10, 0), (11, 0)])]
def modeTab : List (Nat × Nat) := [(3013, 1),
  (3016, 2),
  (3021, 2),
  (3027, 2),
  (3038, 2),
  (3045, 2),
  (3058, 1),
  (3074, 1),
  (3083, 1),
  (3091, 2),
  (3100, 2),
  (3102, 1),
  (10008, 2),
  (11008, 1),
  (11014, 1),
  (11021, 2),
  (12008, 1),
  (12014, 1),
  (12021, 2),
  (13011, 1),
  (13025, 1),
  (13032, 1),
  (13037, 2),
  (14017, 1),
  (14024, 2),
  (15008, 2),
  (15014, 2),
  (17012, 1),
  (17029, 1),
  (17039, 2),
  (53017, 1),
  (53030, 1),
  (54022, 1),
  (55017, 1),
  (55031, 1),
  (56032, 1),
  (56039, 2),
  (56058, 1),
  (56070, 1),
  (58024, 1),
  (58032, 1),
  (58040, 1),
  (59010, 1),
  (59011, 1),
  (60011, 1),
  (60012, 1),
  (61005, 1),
  (63020, 1),
  (63024, 2),
  (65061, 1),
  (65072, 1),
  (66013, 1),
  (66019, 1),
  (66068, 2),
  (115006, 1),
  (115011, 1),
  (115017, 1),
  (117008, 1),
  (117012, 1),
  (118007, 1),
  (118014, 1),
  (118022, 1),
  (118029, 1),
  (121015, 1),
  (122030, 1),
  (122046, 1)]
def pszTab : List (Nat × List Nat) := [(52, [2, 0]),
  (123, [2, 0]),
  (67, [2]),
  (119, [4, 4]),
  (63, [2]),
  (64, [2]),
  (50, [2]),
  (51, [2, 0]),
  (118, [4]),
  (65, [10]),
  (124, [10]),
  (66, [0, 10])]
def vtTab : List (Nat × VT) := [(2, .one (.i .i64)),
  (3, .one (.i .i64)),
  (4, .one (.b)),
  (5, .one (.i .u8)),
  (9, .one (.s)),
  (25, .tup [([.x], false), ([.x], false)]),
  (29, .agg [.i .i64, .x]),
  (32, .agg [.i .i64, .x]),
  (35, .tup [([.x], false), ([.x], false)]),
  (39, .agg [.i .i64, .i .i64, .i .i64, .s]),
  (41, .agg [.b, .i .i64, .i .i64, .i .i64, .s, .b, .i .i64, .i .i64, .i .i64, .s]),
  (103, .tup [([.x], false), ([.b], false)]),
  (106, .tup [([.i .i64], false), ([.b], false)]),
  (157, .agg [.x, .i .i64]),
  (168, .tup [([.i .i64], false), ([.i .i64], false)]),
  (170, .one (.i .u64))]
def vfTab : List (Nat × VT) := [(2, .one (.i .i64)),
  (3, .one (.i .i64)),
  (4, .one (.b)),
  (5, .one (.i .u8)),
  (9, .one (.s)),
  (22, .one (.f)),
  (24, .one (.f)),
  (27, .one (.f)),
  (29, .agg [.i .i64, .f]),
  (32, .agg [.i .i64, .f]),
  (39, .agg [.i .i64, .i .i64, .i .i64, .s]),
  (41, .agg [.b, .i .i64, .i .i64, .i .i64, .s, .b, .i .i64, .i .i64, .i .i64, .s]),
  (134, .one (.f)),
  (157, .agg [.f, .i .i64]),
  (167, .one (.f)),
  (170, .one (.i .u64))]
def rtTab : List (Nat × VT) := [(9, .one (.b)),
  (52, .one (.i .i64)),
  (123, .one (.i .i64)),
  (67, .agg [.i .i64, .i .i64, .i .i64, .s]),
  (120, .one (.i .i64)),
  (119, .one (.b)),
  (121, .one (.f)),
  (63, .one (.f)),
  (64, .agg [.i .i64, .i .i64, .i .i64, .s]),
  (50, .one (.f)),
  (51, .one (.b)),
  (10, .tup [([.f], false), ([.f], false)]),
  (133, .one (.b)),
  (115, .one (.i .i64)),
  (116, .one (.b)),
  (53, .one (.i .i64)),
  (117, .one (.i .i64)),
  (54, .one (.f)),
  (11, .agg [.i .i64, .f]),
  (129, .one (.b)),
  (159, .one (.b)),
  (118, .one (.i .i64)),
  (55, .one (.i .i64)),
  (56, .one (.f)),
  (12, .agg [.i .i64, .f]),
  (57, .one (.f)),
  (58, .one (.i .i64)),
  (70, .agg [.i .i64, .i .i64, .i .i64, .s]),
  (122, .tup [([.i .i64], false), ([.b], false)]),
  (59, .one (.b)),
  (60, .one (.f)),
  (13, .agg [.i .i64, .f]),
  (61, .one (.i .i64)),
  (62, .one (.f)),
  (14, .agg [.i .i64, .f]),
  (15, .tup [([.f], false), ([.f], false)]),
  (16, .one (.b)),
  (65, .one (.i .i64)),
  (124, .tup [([.i .i64], false), ([.i .i64], false)]),
  (66, .tup [([.f], false), ([.b], false)]),
  (17, .agg [.i .i64, .f]),
  (3, .one (.b))]
def stTab : List (Nat × VT) := [(121000, .one (.f)),
  (121005, .one (.i .i64)),
  (159000, .one (.s)),
  (56000, .one (.f)),
  (56001, .one (.f)),
  (122000, .one (.f)),
  (122008, .one (.i .i64)),
  (122009, .one (.i .i64)),
  (14000, .one (.f))]
noncomputable def Ev : Env where
  fn := tab fnTab
  ty := tab tyTab
  keep := fun f i => (tab keepTab (f * 1000 + i)).getD []
  aft := fun f i => (tab aftTab (f * 1000 + i)).getD []
  sched := fun f i => (tab schedTab (f * 1000 + i)).getD []
  kills := fun f i => (tab killTab (f * 1000 + i)).getD []
  mode := fun f i => (tab modeTab (f * 1000 + i)).getD 0
  psz := fun f => (tab pszTab f).getD []
  vt := fun t => (tab vtTab t).getD .any
  vf := fun t => (tab vfTab t).getD .any
  rt := fun f => (tab rtTab f).getD .any
  st := fun f i => (tab stTab (f * 1000 + i)).getD .any
def fnK {R : Type} (v : V) (k : Nat → List (Nat × Nat) → Option R) : Option R := match v with
  | .s (.fn f caps) => k f caps
  | _ => none
namespace Lp
noncomputable def spec_l6At (id : Nat) (l : List V) (h : H) : Option LOut := loop Ev Fn.spec_l6At Go.Proofs.Try.f120 id (lbody Go.Proofs.Try.f120 id) l h
noncomputable def spec_l6Put (id : Nat) (l : List V) (h : H) : Option LOut := loop Ev Fn.spec_l6Put Go.Proofs.Try.f121 id (lbody Go.Proofs.Try.f121 id) l h
noncomputable def spec_l6DrawRows (id : Nat) (l : List V) (h : H) : Option LOut := loop Ev Fn.spec_l6DrawRows Go.Proofs.Try.f63 id (lbody Go.Proofs.Try.f63 id) l h
noncomputable def impl_RowFault (id : Nat) (l : List V) (h : H) : Option LOut := loop Ev Fn.impl_RowFault Go.Proofs.Try.f115 id (lbody Go.Proofs.Try.f115 id) l h
noncomputable def impl_RowsFault (id : Nat) (l : List V) (h : H) : Option LOut := loop Ev Fn.impl_RowsFault Go.Proofs.Try.f53 id (lbody Go.Proofs.Try.f53 id) l h
noncomputable def impl_between (id : Nat) (l : List V) (h : H) : Option LOut := loop Ev Fn.impl_between Go.Proofs.Try.f54 id (lbody Go.Proofs.Try.f54 id) l h
noncomputable def spec_l1Text (id : Nat) (l : List V) (h : H) : Option LOut := loop Ev Fn.spec_l1Text Go.Proofs.Try.f159 id (lbody Go.Proofs.Try.f159 id) l h
noncomputable def spec_l6Rows (id : Nat) (l : List V) (h : H) : Option LOut := loop Ev Fn.spec_l6Rows Go.Proofs.Try.f55 id (lbody Go.Proofs.Try.f55 id) l h
noncomputable def spec_l6Changes (id : Nat) (l : List V) (h : H) : Option LOut := loop Ev Fn.spec_l6Changes Go.Proofs.Try.f56 id (lbody Go.Proofs.Try.f56 id) l h
noncomputable def slices_BinarySearchFunc_impl_Row_impl_Row_impl_Row (id : Nat) (l : List V) (h : H) : Option LOut := loop Ev Fn.slices_BinarySearchFunc_impl_Row_impl_Row_impl_Row Go.Proofs.Try.f122 id (lbody Go.Proofs.Try.f122 id) l h
noncomputable def impl_ApplyChanges (id : Nat) (l : List V) (h : H) : Option LOut := loop Ev Fn.impl_ApplyChanges Go.Proofs.Try.f13 id (lbody Go.Proofs.Try.f13 id) l h
noncomputable def impl_inverse (id : Nat) (l : List V) (h : H) : Option LOut := loop Ev Fn.impl_inverse Go.Proofs.Try.f62 id (lbody Go.Proofs.Try.f62 id) l h
noncomputable def impl_InverseOf (id : Nat) (l : List V) (h : H) : Option LOut := loop Ev Fn.impl_InverseOf Go.Proofs.Try.f14 id (lbody Go.Proofs.Try.f14 id) l h
noncomputable def laws_lwRows (id : Nat) (l : List V) (h : H) : Option LOut := loop Ev Fn.laws_lwRows Go.Proofs.Try.f16 id (lbody Go.Proofs.Try.f16 id) l h
noncomputable def spec_l6Do (id : Nat) (l : List V) (h : H) : Option LOut := loop Ev Fn.spec_l6Do Go.Proofs.Try.f66 id (lbody Go.Proofs.Try.f66 id) l h
noncomputable def spec_ApplyChanges (id : Nat) (l : List V) (h : H) : Option LOut := loop Ev Fn.spec_ApplyChanges Go.Proofs.Try.f17 id (lbody Go.Proofs.Try.f17 id) l h
end Lp
theorem ty2 : TyOk Go.Proofs.Try.prog 2 ⟨1, 8, [.int .i64 0], false, .int .i64, false⟩ := ⟨by kernel_rfl, by kernel_rfl, ⟨by decide, by rfl⟩, by kernel_rfl, by kernel_rfl, by kernel_rfl⟩
theorem ty3 : TyOk Go.Proofs.Try.prog 3 ⟨1, 8, [.int .i64 0], false, .int .i64, false⟩ := ⟨by kernel_rfl, by kernel_rfl, ⟨by decide, by rfl⟩, by kernel_rfl, by kernel_rfl, by kernel_rfl⟩
theorem ty4 : TyOk Go.Proofs.Try.prog 4 ⟨1, 1, [.bool false], false, .bool, false⟩ := ⟨by kernel_rfl, by kernel_rfl, ⟨by decide, by rfl⟩, by kernel_rfl, by kernel_rfl, by kernel_rfl⟩
theorem ty5 : TyOk Go.Proofs.Try.prog 5 ⟨1, 1, [.int .u8 0], false, .int .u8, false⟩ := ⟨by kernel_rfl, by kernel_rfl, ⟨by decide, by rfl⟩, by kernel_rfl, by kernel_rfl, by kernel_rfl⟩
theorem ty9 : TyOk Go.Proofs.Try.prog 9 ⟨1, 16, [.str ⟨#[]⟩], false, .str, false⟩ := ⟨by kernel_rfl, by kernel_rfl, ⟨by decide, by rfl⟩, by kernel_rfl, by kernel_rfl, by kernel_rfl⟩
theorem ty22 : TyOk Go.Proofs.Try.prog 22 ⟨1, 24, [.sl none 0], false, .sl 5, false⟩ := ⟨by kernel_rfl, by kernel_rfl, ⟨by decide, by rfl⟩, by kernel_rfl, by kernel_rfl, by kernel_rfl⟩
theorem ty24 : TyOk Go.Proofs.Try.prog 24 ⟨1, 24, [.sl none 0], false, .sl 39, false⟩ := ⟨by kernel_rfl, by kernel_rfl, ⟨by decide, by rfl⟩, by kernel_rfl, by kernel_rfl, by kernel_rfl⟩
theorem ty27 : TyOk Go.Proofs.Try.prog 27 ⟨1, 24, [.sl none 0], false, .sl 41, false⟩ := ⟨by kernel_rfl, by kernel_rfl, ⟨by decide, by rfl⟩, by kernel_rfl, by kernel_rfl, by kernel_rfl⟩
theorem ty29 : TyOk Go.Proofs.Try.prog 29 ⟨2, 32, [.int .i64 0, .sl none 0], true, .st [(0, 2), (1, 27)], false⟩ := ⟨by kernel_rfl, by kernel_rfl, ⟨by decide, by rfl⟩, by kernel_rfl, by kernel_rfl, by kernel_rfl⟩
theorem ty32 : TyOk Go.Proofs.Try.prog 32 ⟨2, 32, [.int .i64 0, .sl none 0], true, .st [(0, 2), (1, 24)], false⟩ := ⟨by kernel_rfl, by kernel_rfl, ⟨by decide, by rfl⟩, by kernel_rfl, by kernel_rfl, by kernel_rfl⟩
theorem ty39 : TyOk Go.Proofs.Try.prog 39 ⟨4, 40, [.int .i64 0, .int .i64 0, .int .i64 0, .str ⟨#[]⟩], true, .st [(0, 2), (1, 2), (2, 2), (3, 9)], true⟩ := ⟨by kernel_rfl, by kernel_rfl, ⟨by decide, by rfl⟩, by kernel_rfl, by kernel_rfl, by kernel_rfl⟩
theorem ty41 : TyOk Go.Proofs.Try.prog 41 ⟨10, 96, [.bool false, .int .i64 0, .int .i64 0, .int .i64 0, .str ⟨#[]⟩, .bool false, .int .i64 0, .int .i64 0, .int .i64 0, .str ⟨#[]⟩], true, .st [(0, 4), (1, 39), (5, 4), (6, 39)], true⟩ := ⟨by kernel_rfl, by kernel_rfl, ⟨by decide, by rfl⟩, by kernel_rfl, by kernel_rfl, by kernel_rfl⟩
theorem ty88 : TyOk Go.Proofs.Try.prog 88 ⟨1, 8, [.ptr none], false, .ptr, false⟩ := ⟨by kernel_rfl, by kernel_rfl, ⟨by decide, by rfl⟩, by kernel_rfl, by kernel_rfl, by kernel_rfl⟩
theorem ty102 : TyOk Go.Proofs.Try.prog 102 ⟨1, 8, [.ptr none], false, .ptr, false⟩ := ⟨by kernel_rfl, by kernel_rfl, ⟨by decide, by rfl⟩, by kernel_rfl, by kernel_rfl, by kernel_rfl⟩
theorem ty134 : TyOk Go.Proofs.Try.prog 134 ⟨1, 24, [.sl none 0], false, .sl 2, false⟩ := ⟨by kernel_rfl, by kernel_rfl, ⟨by decide, by rfl⟩, by kernel_rfl, by kernel_rfl, by kernel_rfl⟩
theorem ty157 : TyOk Go.Proofs.Try.prog 157 ⟨2, 32, [.sl none 0, .int .i64 0], true, .st [(0, 22), (1, 2)], false⟩ := ⟨by kernel_rfl, by kernel_rfl, ⟨by decide, by rfl⟩, by kernel_rfl, by kernel_rfl, by kernel_rfl⟩
theorem ty159 : TyOk Go.Proofs.Try.prog 159 ⟨1, 8, [.nofn], false, .other, false⟩ := ⟨by kernel_rfl, by kernel_rfl, ⟨by decide, by rfl⟩, by kernel_rfl, by kernel_rfl, by kernel_rfl⟩
theorem ty161 : TyOk Go.Proofs.Try.prog 161 ⟨1, 8, [.ptr none], false, .ptr, false⟩ := ⟨by kernel_rfl, by kernel_rfl, ⟨by decide, by rfl⟩, by kernel_rfl, by kernel_rfl, by kernel_rfl⟩
theorem ty167 : TyOk Go.Proofs.Try.prog 167 ⟨1, 24, [.sl none 0], false, .sl 9, false⟩ := ⟨by kernel_rfl, by kernel_rfl, ⟨by decide, by rfl⟩, by kernel_rfl, by kernel_rfl, by kernel_rfl⟩
theorem ty170 : TyOk Go.Proofs.Try.prog 170 ⟨1, 8, [.int .u64 0], false, .int .u64, false⟩ := ⟨by kernel_rfl, by kernel_rfl, ⟨by decide, by rfl⟩, by kernel_rfl, by kernel_rfl, by kernel_rfl⟩
def FnOk (f : Nat) (fn : Func) : Prop := Go.Proofs.Try.prog.funcs[f]? = some fn ∧ (fn.name == "runtime.NumGoroutine") = false ∧ ∀ c, fn.body = some c → wfCode Ev f fn.ntmps c = true
noncomputable def wfB (f : Nat) (fn : Func) : Bool := match fn.body with | none => true | some c => wfCode Ev f fn.ntmps c
theorem FnOk.of {f : Nat} {fn : Func} (h1 : Go.Proofs.Try.prog.funcs[f]? = some fn) (h2 : (fn.name == "runtime.NumGoroutine") = false) (h3 : wfB f fn = true) : FnOk f fn := ⟨h1, h2, fun c hc => by unfold wfB at h3; rw [hc] at h3; exact h3⟩
theorem fok9 : FnOk 9 Go.Proofs.Try.f9 := .of Go.Proofs.Try.func9 (by kernel_rfl) (by kernel_rfl)
theorem fok49 : FnOk 49 Go.Proofs.Try.f49 := .of Go.Proofs.Try.func49 (by kernel_rfl) (by kernel_rfl)
theorem fok52 : FnOk 52 Go.Proofs.Try.f52 := .of Go.Proofs.Try.func52 (by kernel_rfl) (by kernel_rfl)
theorem fok123 : FnOk 123 Go.Proofs.Try.f123 := .of Go.Proofs.Try.func123 (by kernel_rfl) (by kernel_rfl)
theorem fok67 : FnOk 67 Go.Proofs.Try.f67 := .of Go.Proofs.Try.func67 (by kernel_rfl) (by kernel_rfl)
theorem fok120 : FnOk 120 Go.Proofs.Try.f120 := .of Go.Proofs.Try.func120 (by kernel_rfl) (by kernel_rfl)
theorem fok119 : FnOk 119 Go.Proofs.Try.f119 := .of Go.Proofs.Try.func119 (by kernel_rfl) (by kernel_rfl)
theorem fok121 : FnOk 121 Go.Proofs.Try.f121 := .of Go.Proofs.Try.func121 (by kernel_rfl) (by kernel_rfl)
theorem fok63 : FnOk 63 Go.Proofs.Try.f63 := .of Go.Proofs.Try.func63 (by kernel_rfl) (by kernel_rfl)
theorem fok64 : FnOk 64 Go.Proofs.Try.f64 := .of Go.Proofs.Try.func64 (by kernel_rfl) (by kernel_rfl)
theorem fok50 : FnOk 50 Go.Proofs.Try.f50 := .of Go.Proofs.Try.func50 (by kernel_rfl) (by kernel_rfl)
theorem fok51 : FnOk 51 Go.Proofs.Try.f51 := .of Go.Proofs.Try.func51 (by kernel_rfl) (by kernel_rfl)
theorem fok10 : FnOk 10 Go.Proofs.Try.f10 := .of Go.Proofs.Try.func10 (by kernel_rfl) (by kernel_rfl)
theorem fok133 : FnOk 133 Go.Proofs.Try.f133 := .of Go.Proofs.Try.func133 (by kernel_rfl) (by kernel_rfl)
theorem fok115 : FnOk 115 Go.Proofs.Try.f115 := .of Go.Proofs.Try.func115 (by kernel_rfl) (by kernel_rfl)
theorem fok116 : FnOk 116 Go.Proofs.Try.f116 := .of Go.Proofs.Try.func116 (by kernel_rfl) (by kernel_rfl)
theorem fok53 : FnOk 53 Go.Proofs.Try.f53 := .of Go.Proofs.Try.func53 (by kernel_rfl) (by kernel_rfl)
theorem fok117 : FnOk 117 Go.Proofs.Try.f117 := .of Go.Proofs.Try.func117 (by kernel_rfl) (by kernel_rfl)
theorem fok54 : FnOk 54 Go.Proofs.Try.f54 := .of Go.Proofs.Try.func54 (by kernel_rfl) (by kernel_rfl)
theorem fok11 : FnOk 11 Go.Proofs.Try.f11 := .of Go.Proofs.Try.func11 (by kernel_rfl) (by kernel_rfl)
theorem fok129 : FnOk 129 Go.Proofs.Try.f129 := .of Go.Proofs.Try.func129 (by kernel_rfl) (by kernel_rfl)
theorem fok159 : FnOk 159 Go.Proofs.Try.f159 := .of Go.Proofs.Try.func159 (by kernel_rfl) (by kernel_rfl)
theorem fok118 : FnOk 118 Go.Proofs.Try.f118 := .of Go.Proofs.Try.func118 (by kernel_rfl) (by kernel_rfl)
theorem fok55 : FnOk 55 Go.Proofs.Try.f55 := .of Go.Proofs.Try.func55 (by kernel_rfl) (by kernel_rfl)
theorem fok56 : FnOk 56 Go.Proofs.Try.f56 := .of Go.Proofs.Try.func56 (by kernel_rfl) (by kernel_rfl)
theorem fok12 : FnOk 12 Go.Proofs.Try.f12 := .of Go.Proofs.Try.func12 (by kernel_rfl) (by kernel_rfl)
theorem fok57 : FnOk 57 Go.Proofs.Try.f57 := .of Go.Proofs.Try.func57 (by kernel_rfl) (by kernel_rfl)
theorem fok58 : FnOk 58 Go.Proofs.Try.f58 := .of Go.Proofs.Try.func58 (by kernel_rfl) (by kernel_rfl)
theorem fok70 : FnOk 70 Go.Proofs.Try.f70 := .of Go.Proofs.Try.func70 (by kernel_rfl) (by kernel_rfl)
theorem fok122 : FnOk 122 Go.Proofs.Try.f122 := .of Go.Proofs.Try.func122 (by kernel_rfl) (by kernel_rfl)
theorem fok59 : FnOk 59 Go.Proofs.Try.f59 := .of Go.Proofs.Try.func59 (by kernel_rfl) (by kernel_rfl)
theorem fok60 : FnOk 60 Go.Proofs.Try.f60 := .of Go.Proofs.Try.func60 (by kernel_rfl) (by kernel_rfl)
theorem fok13 : FnOk 13 Go.Proofs.Try.f13 := .of Go.Proofs.Try.func13 (by kernel_rfl) (by kernel_rfl)
theorem fok61 : FnOk 61 Go.Proofs.Try.f61 := .of Go.Proofs.Try.func61 (by kernel_rfl) (by kernel_rfl)
theorem fok62 : FnOk 62 Go.Proofs.Try.f62 := .of Go.Proofs.Try.func62 (by kernel_rfl) (by kernel_rfl)
theorem fok14 : FnOk 14 Go.Proofs.Try.f14 := .of Go.Proofs.Try.func14 (by kernel_rfl) (by kernel_rfl)
theorem fok15 : FnOk 15 Go.Proofs.Try.f15 := .of Go.Proofs.Try.func15 (by kernel_rfl) (by kernel_rfl)
theorem fok16 : FnOk 16 Go.Proofs.Try.f16 := .of Go.Proofs.Try.func16 (by kernel_rfl) (by kernel_rfl)
theorem fok65 : FnOk 65 Go.Proofs.Try.f65 := .of Go.Proofs.Try.func65 (by kernel_rfl) (by kernel_rfl)
theorem fok124 : FnOk 124 Go.Proofs.Try.f124 := .of Go.Proofs.Try.func124 (by kernel_rfl) (by kernel_rfl)
theorem fok66 : FnOk 66 Go.Proofs.Try.f66 := .of Go.Proofs.Try.func66 (by kernel_rfl) (by kernel_rfl)
theorem fok17 : FnOk 17 Go.Proofs.Try.f17 := .of Go.Proofs.Try.func17 (by kernel_rfl) (by kernel_rfl)
theorem fok3 : FnOk 3 Go.Proofs.Try.f3 := .of Go.Proofs.Try.func3 (by kernel_rfl) (by kernel_rfl)
theorem all_cons {α : Type} {Q : Nat → α → Prop} {i : Nat} {x : α} {l : List (Nat × α)} (h : Q i x) (hl : ∀ d y, (d, y) ∈ l → Q d y) : ∀ d y, (d, y) ∈ (i, x) :: l → Q d y := by
  intro d y hm
  rcases List.mem_cons.1 hm with hm | hm
  · cases hm; exact h
  · exact hl d y hm
theorem all_nil {α : Type} {Q : Nat → α → Prop} : ∀ d y, (d, y) ∈ ([] : List (Nat × α)) → Q d y := fun _ _ h => by cases h
theorem ty_all : ∀ d y, (d, y) ∈ tyTab → TyOk Go.Proofs.Try.prog d y := all_cons ty2 (all_cons ty3 (all_cons ty4 (all_cons ty5 (all_cons ty9 (all_cons ty22 (all_cons ty24 (all_cons ty27 (all_cons ty29 (all_cons ty32 (all_cons ty39 (all_cons ty41 (all_cons ty88 (all_cons ty102 (all_cons ty134 (all_cons ty157 (all_cons ty159 (all_cons ty161 (all_cons ty167 (all_cons ty170 (all_nil))))))))))))))))))))
theorem fn_all : ∀ d y, (d, y) ∈ fnTab → FnOk d y := all_cons fok9 (all_cons fok49 (all_cons fok52 (all_cons fok123 (all_cons fok67 (all_cons fok120 (all_cons fok119 (all_cons fok121 (all_cons fok63 (all_cons fok64 (all_cons fok50 (all_cons fok51 (all_cons fok10 (all_cons fok133 (all_cons fok115 (all_cons fok116 (all_cons fok53 (all_cons fok117 (all_cons fok54 (all_cons fok11 (all_cons fok129 (all_cons fok159 (all_cons fok118 (all_cons fok55 (all_cons fok56 (all_cons fok12 (all_cons fok57 (all_cons fok58 (all_cons fok70 (all_cons fok122 (all_cons fok59 (all_cons fok60 (all_cons fok13 (all_cons fok61 (all_cons fok62 (all_cons fok14 (all_cons fok15 (all_cons fok16 (all_cons fok65 (all_cons fok124 (all_cons fok66 (all_cons fok17 (all_cons fok3 (all_nil)))))))))))))))))))))))))))))))))))))))))))
theorem Ev_ok : EnvOk Go.Proofs.Try.prog Ev := ⟨by kernel_rfl, fun t ti h => ty_all t ti (tab_mem h), fun f fn h => fn_all f fn (tab_mem h)⟩
end Vm
