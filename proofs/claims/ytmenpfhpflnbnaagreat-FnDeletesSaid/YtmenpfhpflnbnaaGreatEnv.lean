/-
  The types and the functions that the small machine asks for, and that they are the program's. Written by a program (gen3.py).
-/
import Derived.Test.YtmenpfhpflnbnaaGreatVmR
import Derived.Test.YtmenpfhpflnbnaaGreatProg
import Derived.KernelRfl
set_option linter.unusedVariables false
set_option maxRecDepth 100000
open Go.Proofs.Tryz renaming f10->S0,f102->Sk,f103->Sm,f104->Sn,f106->So,f107->Sp,f108->Sq,f109->Sr,f11->S1,f112->CK,f113->CV,f114->CZ,f116->Sa,f118->Sl,f12->S5,f14->Sv,f16->Sw,f20->CP,f23->Sd,f25->Sz,f26->S3,f27->S4,f32->Sh,f34->Si,f39->Su,f41->Sx,f43->CL,f44->CM,f45->CN,f46->CO,f51->S2,f54->Sg,f57->CU,f59->Sj,f65->Sy,f66->CJ,f72->Se,f74->CY,f75->CX,f83->Ss,f93->CT,f94->CW,f95->Sb,f96->CQ,f97->CS,f99->Sf,prog->S6
open Go.IntKind renaming i64->Ly
namespace Vm
open Go
open Go.Proofs
namespace Fn
abbrev N7 : Nat := 4
abbrev ZR : Nat := 67
abbrev ZI : Nat := 68
abbrev JK : Nat := 85
abbrev Ki : Nat := 90
abbrev Ml : Nat := 86
abbrev GA : Nat := 87
abbrev QV : Nat := 66
abbrev KH : Nat := 22
abbrev GB : Nat := 88
abbrev Kg : Nat := 112
abbrev UD : Nat := 89
abbrev Yb : Nat := 69
abbrev Ya : Nat := 70
abbrev ZH : Nat := 43
abbrev UC : Nat := 91
abbrev Wc : Nat := 71
abbrev QU : Nat := 44
abbrev Zs : Nat := 45
abbrev ZD : Nat := 46
abbrev Zt : Nat := 20
abbrev WM : Nat := 28
abbrev QN : Nat := 33
abbrev KO : Nat := 31
abbrev J0 : Nat := 56
abbrev Js : Nat := 55
abbrev XV : Nat := 92
abbrev XT : Nat := 96
abbrev XS : Nat := 97
abbrev JA : Nat := 98
abbrev Xq : Nat := 77
abbrev Jr : Nat := 78
abbrev Xm : Nat := 79
abbrev X7 : Nat := 93
abbrev WN : Nat := 82
abbrev XC : Nat := 57
abbrev Kq : Nat := 113
abbrev ZQ : Nat := 94
abbrev ZG : Nat := 75
abbrev XU : Nat := 74
abbrev Kh : Nat := 114
abbrev Yy : Nat := 115
abbrev Zy : Nat := 116
abbrev Zd : Nat := 95
abbrev Mm : Nat := 76
abbrev Mk : Nat := 53
abbrev XR : Nat := 23
abbrev Kf : Nat := 72
abbrev Jz : Nat := 47
abbrev Xy : Nat := 73
abbrev Y9 : Nat := 48
abbrev Ke : Nat := 49
abbrev Jf : Nat := 24
abbrev KE : Nat := 21
abbrev Gz : Nat := 117
abbrev ZP : Nat := 99
abbrev U7 : Nat := 80
abbrev Yx : Nat := 101
abbrev YY : Nat := 100
abbrev U6 : Nat := 81
abbrev Zr : Nat := 54
abbrev Mj : Nat := 29
abbrev Mn : Nat := 30
abbrev Xz : Nat := 32
abbrev JL : Nat := 13
abbrev JM : Nat := 5
abbrev YK : Nat := 35
abbrev Wp : Nat := 58
abbrev Qw : Nat := 34
abbrev Yp : Nat := 36
abbrev Ux : Nat := 40
abbrev Xj : Nat := 59
abbrev Yh : Nat := 37
abbrev We : Nat := 38
abbrev Qf : Nat := 102
abbrev Qs : Nat := 118
abbrev Qk : Nat := 103
abbrev Q4J : Nat := 110
abbrev Nq : Nat := 111
abbrev Nr : Nat := 84
abbrev JB : Nat := 119
abbrev JN : Nat := 120
abbrev Qi : Nat := 104
abbrev ZY : Nat := 123
abbrev ZZ : Nat := 122
abbrev Zk : Nat := 121
abbrev XD : Nat := 105
abbrev Qx : Nat := 106
abbrev Q4 : Nat := 107
abbrev Q7 : Nat := 108
abbrev Q5 : Nat := 109
abbrev Qe : Nat := 83
abbrev X3 : Nat := 60
abbrev Y0 : Nat := 63
abbrev Nb : Nat := 62
abbrev Q0 : Nat := 61
abbrev QM : Nat := 39
abbrev X0 : Nat := 14
abbrev Gb : Nat := 15
abbrev Ks : Nat := 16
abbrev XZ : Nat := 50
abbrev XY : Nat := 41
abbrev Wd : Nat := 17
abbrev UY : Nat := 64
abbrev XB : Nat := 65
abbrev YL : Nat := 42
abbrev J5 : Nat := 18
abbrev Uk : Nat := 19
abbrev JT : Nat := 6
abbrev Ud : Nat := 7
abbrev KF : Nat := 25
abbrev Yc : Nat := 8
abbrev GJ : Nat := 9
abbrev Xo : Nat := 10
abbrev XF : Nat := 11
abbrev XA : Nat := 51
abbrev Zh : Nat := 26
abbrev Mr : Nat := 52
abbrev XX : Nat := 27
abbrev Km : Nat := 12
abbrev ME : Nat := 3
end Fn
def tab {α : Type} : List (Nat × α) -> Nat -> Option α
  | [], _ => none
  | (i, x) :: r, d => bif Nat.beq i d then some x else tab r d
theorem xv {α : Type} {l : List (Nat × α)} {d : Nat} {x : α} (h : tab l d = some x) : (d, x) ∈ l := by
  induction l with
  | nil => simp [tab] at h
  | cons p r ih =>
    obtain ⟨i, y⟩ := p;simp only [tab] at h
    by_cases hi : i = d
    · subst hi; simp at h; subst h; simp
    · rw [show Nat.beq i d = false from by
        cases hb : Nat.beq i d with
        | false => rfl
        | true => exact absurd (Nat.eq_of_beq_eq_true hb) hi] at h
      exact List.mem_cons_of_mem _ (ih h)
noncomputable def uP : List (Nat × TI) := [(2, ⟨1, 8, [.int Ly 0], false, .int Ly, false⟩),(3, ⟨1, 8, [.int Ly 0], false, .int Ly, false⟩),(4, ⟨1, 1, [.bool false], false, .bool, false⟩),(5, ⟨1, 1, [.int .u8 0], false, .int .u8, false⟩),(9, ⟨1, 16, [.str ⟨#[]⟩], false, .str, false⟩),(22, ⟨1, 24, [.sl none 0], false, .sl 5, false⟩),(24, ⟨1, 24, [.sl none 0], false, .sl 22, false⟩),(27, ⟨1, 24, [.sl none 0], false, .sl 96, false⟩),(29, ⟨3, 56, [.int Ly 0, .sl none 0, .sl none 0], true, .st [(0, 2), (1, 27), (2, 24)], false⟩),(31, ⟨1, 24, [.sl none 0], false, .sl 36, false⟩),(33, ⟨2, 32, [.int Ly 0, .sl none 0], true, .st [(0, 2), (1, 31)], false⟩),(36, ⟨4, 40, [.int Ly 0, .int Ly 0, .int Ly 0, .str ⟨#[]⟩], true, .st [(0, 2), (1, 2), (2, 2), (3, 9)], true⟩),(38, ⟨7, 64, [.int Ly 0, .int Ly 0, .int Ly 0, .int Ly 0, .int Ly 0, .int Ly 0, .str ⟨#[]⟩], true, .st [(0, 2), (1, 2), (2, 2), (3, 36)], true⟩),(45, ⟨1, 24, [.sl none 0], false, .sl 50, false⟩),(50, ⟨9, 80, [.int Ly 0, .int Ly 0, .int Ly 0, .str ⟨#[]⟩, .int Ly 0, .int Ly 0, .bool false, .int Ly 0, .int Ly 0], true, .st [(0, 36), (4, 3), (5, 3), (6, 4), (7, 3), (8, 3)], true⟩),(53, ⟨1, 8, [.ptr none], false, .ptr, false⟩),(61, ⟨8, 72, [.int Ly 0, .int Ly 0, .int Ly 0, .int Ly 0, .int Ly 0, .int Ly 0, .int Ly 0, .str ⟨#[]⟩], true, .st [(0, 2), (1, 2), (2, 2), (3, 2), (4, 36)], true⟩),(63, ⟨10, 88, [.int Ly 0, .int Ly 0, .int Ly 0, .int Ly 0, .int Ly 0, .int Ly 0, .int Ly 0, .int Ly 0, .int Ly 0, .str ⟨#[]⟩], true, .st [(0, 2), (1, 2), (2, 61)], true⟩),(67, ⟨1, 8, [.ptr none], false, .ptr, false⟩),(71, ⟨1, 8, [.ptr none], false, .ptr, false⟩),(78, ⟨1, 24, [.sl none 0], false, .sl 9, false⟩),(86, ⟨2, 48, [.sl none 0, .sl none 0], true, .st [(0, 24), (1, 27)], false⟩),(89, ⟨1, 24, [.sl none 0], false, .sl 63, false⟩),(91, ⟨1, 8, [.ptr none], false, .ptr, false⟩),(96, ⟨2, 32, [.int Ly 0, .sl none 0], true, .st [(0, 2), (1, 22)], false⟩),(101, ⟨2, 32, [.sl none 0, .int Ly 0], true, .st [(0, 22), (1, 2)], false⟩),(106, ⟨64, 64, [.bool false, .bool false, .bool false, .bool false, .bool false, .bool false, .bool false, .bool false, .bool false, .bool false, .bool false, .bool false, .bool false, .bool false, .bool false, .bool false, .bool false, .bool false, .bool false, .bool false, .bool false, .bool false, .bool false, .bool false, .bool false, .bool false, .bool false, .bool false, .bool false, .bool false, .bool false, .bool false, .bool false, .bool false, .bool false, .bool false, .bool false, .bool false, .bool false, .bool false, .bool false, .bool false, .bool false, .bool false, .bool false, .bool false, .bool false, .bool false, .bool false, .bool false, .bool false, .bool false, .bool false, .bool false, .bool false, .bool false, .bool false, .bool false, .bool false, .bool false, .bool false, .bool false, .bool false, .bool false], true, .arr 64 4, false⟩),(107, ⟨1, 8, [.int .u64 0], false, .int .u64, false⟩),(109, ⟨1, 8, [.mp none], false, .mp 110 36, false⟩),(110, ⟨2, 16, [.int Ly 0, .int Ly 0], true, .arr 2 3, false⟩),(112, ⟨1, 8, [.mp none], false, .mp 110 4, false⟩),(115, ⟨1, 8, [.nofn], false, .other, false⟩),(119, ⟨3, 40, [.int Ly 0, .int Ly 0, .sl none 0], true, .st [(0, 2), (1, 2), (2, 22)], false⟩),(127, ⟨2, 48, [.sl none 0, .sl none 0], true, .st [(0, 24), (1, 27)], false⟩),(134, ⟨1, 8, [.ptr none], false, .ptr, false⟩),(137, ⟨1, 24, [.sl none 0], false, .sl 2, false⟩),(152, ⟨1, 8, [.int Ly 0], false, .int Ly, false⟩),(160, ⟨1, 4, [.int .u32 0], false, .int .u32, false⟩),(162, ⟨1, 8, [.int .u64 0], false, .int .u64, false⟩),(170, ⟨1, 8, [.int .u64 0], false, .int .u64, false⟩),(174, ⟨1, 8, [.ptr none], false, .ptr, false⟩)]
noncomputable def Q0b : List (Nat × Func) := [(4, Tryz.f4), (67, Tryz.f67), (68, Tryz.f68), (85, Tryz.f85), (90, Tryz.f90), (86, Tryz.f86), (87, Tryz.f87), (66, CJ), (22, Tryz.f22), (88, Tryz.f88), (112, CK), (89, Tryz.f89), (69, Tryz.f69), (70, Tryz.f70), (43, CL), (91, Tryz.f91), (71, Tryz.f71), (44, CM), (45, CN), (46, CO), (20, CP), (28, Tryz.f28), (33, Tryz.f33), (31, Tryz.f31), (56, Tryz.f56), (55, Tryz.f55), (92, Tryz.f92), (96, CQ), (97, CS), (98, Tryz.f98), (77, Tryz.f77), (78, Tryz.f78), (79, Tryz.f79), (93, CT), (82, Tryz.f82), (57, CU), (113, CV), (94, CW), (75, CX), (74, CY), (114, CZ), (115, Tryz.f115), (116, Sa), (95, Sb), (76, Tryz.f76), (53, Tryz.f53), (23, Sd), (72, Se), (47, Tryz.f47), (73, Tryz.f73), (48, Tryz.f48), (49, Tryz.f49), (24, Tryz.f24), (21, Tryz.f21), (117, Tryz.f117), (99, Sf), (80, Tryz.f80), (101, Tryz.f101), (100, Tryz.f100), (81, Tryz.f81), (54, Sg), (29, Tryz.f29), (30, Tryz.f30), (32, Sh), (13, Tryz.f13), (5, Tryz.f5), (35, Tryz.f35), (58, Tryz.f58), (34, Si), (36, Tryz.f36), (40, Tryz.f40), (59, Sj), (37, Tryz.f37), (38, Tryz.f38), (102, Sk), (118, Sl), (103, Sm), (110, Tryz.f110), (111, Tryz.f111), (84, Tryz.f84), (119, Tryz.f119), (120, Tryz.f120), (104, Sn), (123, Tryz.f123), (122, Tryz.f122), (121, Tryz.f121), (105, Tryz.f105), (106, So), (107, Sp), (108, Sq), (109, Sr), (83, Ss), (60, Tryz.f60), (63, Tryz.f63), (62, Tryz.f62), (61, Tryz.f61), (39, Su), (14, Sv), (15, Tryz.f15), (16, Sw), (50, Tryz.f50), (41, Sx), (17, Tryz.f17), (64, Tryz.f64), (65, Sy), (42, Tryz.f42), (18, Tryz.f18), (19, Tryz.f19), (6, Tryz.f6), (7, Tryz.f7), (25, Sz), (8, Tryz.f8), (9, Tryz.f9), (10, S0), (11, S1), (51, S2), (26, S3), (52, Tryz.f52), (27, S4), (12, S5), (3, Tryz.f3)]
def Q0V : List (Nat × List Nat) := [(10000, [0, 1, 5]),(11000, [0, 1, 2, 7, 8]),(12000, [2, 3, 5, 9, 10, 11]),(14000, [0, 11, 12, 13]),(14002, [0, 5, 11, 12, 13, 23, 24]),(16000, [1, 2, 6, 10, 11, 12]),(20000, [5, 6]),(20002, [5, 6, 7]),(23000, [1, 2, 6, 8, 9]),(25000, [3, 6, 7, 8]),(26000, [1, 4, 5, 14, 15, 16]),(27000, [0, 1, 5]),(32000, [3, 4, 5]),(34000, [0, 3, 4, 35, 36]),(34002, [0, 3, 8, 66, 67]),(34004, [0, 3, 8, 10, 11, 12, 66, 67]),(39000, [4, 5, 6, 21, 22, 23]),(39002, [4, 5, 6, 7, 8, 21, 22, 23, 29, 30]),(39005, [4, 5, 6, 81, 82, 83]),(39007, [4, 6, 15, 101, 102, 103]),(39009, [4, 19]),(41000, [3, 6, 7, 8]),(43000, [0, 3]),(43002, [0, 3, 5]),(44000, [0, 1, 5]),(44002, [0, 8]),(44004, [0, 8, 9]),(45000, [0, 3, 4]),(45002, [0, 3, 4, 5]),(46000, [0, 3, 4, 5]),(51000, [3, 6, 7, 8]),(54000, [0, 3, 4]),(57000, [0, 3, 5]),(59000, [1, 26, 27]),(65000, [1, 4, 6]),(66000, [0, 3, 4]),(66002, [0, 3, 5]),(66004, [0, 3, 5, 6]),(72000, [0, 3, 4]),(74000, [5]),(75000, [0, 3, 4, 5]),(83000, [0, 1, 2, 3, 4, 10, 11]),(93000, [0, 3, 4]),(94000, [0, 3, 4]),(95000, [0, 3, 4]),(96000, [0, 3]),(97000, [0, 3, 4]),(99000, [0, 1, 2, 9]),(102000, [0, 1, 2, 3, 8]),(102002, [0, 1, 2, 3, 8, 9]),(103000, [0, 3, 8, 9, 10, 11]),(103002, [0, 3, 8, 9, 12]),(104000, [0, 1, 8, 9, 10, 11]),(106000, [0, 8, 9]),(107000, [0, 1, 2, 3, 9, 10]),(107002, [0, 1, 2, 3, 9, 10]),(107004, [0, 1, 2, 3, 9, 10, 11]),(107006, [0, 1, 2, 3, 9, 10, 12]),(108000, [0, 1, 4, 11, 12]),(108002, [0, 1, 4, 11, 12]),(108004, [0, 1, 4, 11, 12]),(109000, [0, 1, 4, 12, 13]),(109002, [0, 1, 4, 12, 13]),(109004, [0, 1, 4, 12, 13]),(109006, [0, 1, 4, 12, 13]),(109008, [0, 1, 4, 12, 13]),(112000, [0, 3]),(113000, [0, 1, 2, 7]),(114000, [0, 1, 5]),(116000, [0, 3, 4, 5, 6]),(118000, [0, 2, 3, 4, 10])]
def Q2G : List (Nat × List Nat) := [(10000, []),(11000, [7]),(12000, [2, 3, 5, 9, 10]),(14000, [0]),(14002, [0, 11, 12, 13]),(16000, [6]),(20000, []),(20002, [5, 6]),(23000, [6]),(25000, [3]),(26000, [1, 4, 5]),(27000, []),(32000, [3]),(34000, [0, 3]),(34002, [0, 3]),(34004, [0, 3, 8, 66, 67]),(39000, [4, 5, 6]),(39002, [4, 5, 6, 21, 22, 23]),(39005, [4, 5, 6]),(39007, [4]),(39009, [4]),(41000, [3]),(43000, []),(43002, [0, 3]),(44000, [0]),(44002, []),(44004, [0, 8]),(45000, [3]),(45002, [0, 3, 4]),(46000, [3]),(51000, [3]),(54000, [3]),(57000, [0, 3, 5]),(59000, []),(65000, [1, 4, 6]),(66000, [0, 3]),(66002, [0, 3]),(66004, [0, 3, 5]),(72000, [3]),(74000, [5]),(75000, [3]),(83000, []),(93000, [3]),(94000, [3]),(95000, [3]),(96000, [0]),(97000, [3]),(99000, [0, 2]),(102000, []),(102002, [0, 1, 2, 3, 8]),(103000, [0, 3, 8, 9, 10]),(103002, []),(104000, []),(106000, []),(107000, []),(107002, [0, 1, 2, 3, 9, 10]),(107004, [0, 1, 2, 3, 9, 10]),(107006, [0, 1, 2, 3, 9, 10]),(108000, [11]),(108002, [0, 1, 4, 11, 12]),(108004, [0, 1, 4, 11, 12]),(109000, [0, 1, 4, 12, 13]),(109002, [0, 1, 4, 12, 13]),(109004, [0, 1, 13]),(109006, [0, 1, 4, 12, 13]),(109008, [0, 1, 4, 12, 13]),(112000, [0]),(113000, []),(114000, [5]),(116000, [4, 5]),(118000, [])]
def Q0U : List (Nat × List Nat) := [(53008, [0])]
def vo : List (Nat × List (Nat × Nat)) := [(3006, [(0, 0), (1, 0), (2, 0), (5, 0), (6, 0), (3, 1), (4, 1), (7, 1), (8, 1)]),(3009, [(0, 0), (1, 0), (2, 0), (3, 0), (4, 0), (5, 0), (6, 0), (7, 0), (8, 1), (9, 0), (10, 0), (11, 0), (12, 0), (13, 0), (14, 0), (15, 0), (16, 0), (17, 0), (18, 1), (19, 1), (20, 3), (21, 3), (22, 3), (24, 3), (25, 3), (23, 4), (26, 4), (27, 1), (28, 3), (29, 3), (30, 3), (31, 4), (32, 3), (33, 3), (34, 3), (35, 3)]),(5002, [(0, 0), (1, 0), (2, 0), (3, 0), (4, 0), (5, 0), (6, 0), (7, 0)]),(10006, [(0, 0), (1, 0), (2, 0), (3, 0), (4, 0), (5, 0), (6, 0), (7, 0), (8, 0)]),(13009, [(0, 0), (1, 0), (2, 0), (3, 2)]),(13010, [(0, 0), (1, 0), (2, 0), (3, 2)]),(19001, [(0, 0), (1, 0), (2, 0), (3, 0), (4, 0), (5, 0), (6, 0), (7, 0), (8, 0), (9, 2)]),(20016, [(0, 0), (1, 0), (2, 0), (3, 0), (4, 0), (5, 0), (6, 0), (7, 0), (8, 0), (9, 0), (10, 0), (11, 0), (12, 0), (13, 0), (14, 0), (15, 0), (16, 0), (17, 0), (18, 0), (19, 0), (20, 0), (21, 0), (22, 0), (23, 0), (24, 0), (25, 0), (26, 0), (27, 0), (28, 0), (29, 0), (30, 0), (31, 0)]),(24002, [(0, 0), (1, 0), (2, 0), (3, 0), (4, 0), (5, 0), (6, 0), (7, 0), (8, 0), (9, 2)]),(24004, [(0, 0), (1, 0), (2, 0), (3, 0), (4, 0), (5, 0), (6, 0), (7, 0), (8, 0), (9, 0), (10, 0), (11, 2)]),(26013, [(0, 0), (1, 0), (2, 0), (3, 0), (4, 0), (5, 1), (6, 0), (7, 2)]),(27006, [(0, 0), (1, 0), (2, 0), (3, 0), (4, 0), (5, 0), (6, 0), (7, 0), (8, 1), (9, 0)]),(33008, [(0, 0), (1, 0), (2, 0), (3, 0), (4, 0), (5, 0), (6, 0), (7, 0), (8, 0), (9, 0), (10, 0), (11, 0), (12, 0), (13, 0), (14, 0), (15, 0)]),(33010, [(0, 0), (1, 0), (2, 0), (3, 0), (4, 0), (5, 0), (6, 0), (7, 0), (8, 0), (9, 0), (10, 0), (11, 0), (12, 0), (13, 0), (14, 0), (15, 0), (16, 0), (17, 0)]),(34003, [(0, 0), (2, 0), (3, 0), (4, 0), (5, 0), (1, 1), (6, 0), (7, 0)]),(37002, [(0, 0), (1, 0), (2, 0), (3, 0), (4, 0), (5, 0), (6, 0), (7, 0), (8, 0), (9, 2)]),(37005, [(0, 0), (1, 0), (2, 0), (3, 0), (4, 0), (5, 0), (6, 0), (7, 0), (8, 0), (9, 0), (10, 0), (11, 0), (12, 0), (13, 0), (14, 0), (15, 0), (16, 0), (17, 0), (18, 0), (19, 0), (20, 0), (21, 0), (22, 1), (23, 2)]),(37008, [(0, 0), (1, 0), (2, 0), (3, 0), (4, 0), (5, 0), (6, 2)]),(39042, [(0, 0), (1, 0), (2, 0), (3, 0), (4, 0), (5, 0), (6, 0), (7, 0), (8, 0), (9, 0), (10, 0), (11, 1), (12, 0)]),(44005, [(0, 0), (1, 0), (2, 0), (3, 0), (4, 0), (5, 0), (6, 0), (7, 0), (8, 0), (9, 0), (10, 0), (11, 0), (12, 0), (13, 5), (14, 3), (15, 3), (16, 3), (17, 6), (18, 1), (19, 3)]),(44016, [(0, 0), (1, 0), (2, 0), (3, 0), (4, 0), (5, 0), (6, 0), (7, 0), (8, 0), (9, 0), (10, 0), (11, 0), (12, 0), (13, 0), (14, 0), (15, 0), (16, 0), (17, 0), (18, 0), (19, 0), (20, 0), (21, 0), (22, 0), (23, 0), (24, 0), (25, 0), (26, 0), (27, 0), (28, 0), (29, 0), (30, 0), (31, 0), (32, 0), (33, 0)]),(49001, [(0, 0), (1, 0), (2, 0), (3, 0), (4, 0), (5, 0), (6, 0), (7, 0), (8, 0), (9, 2)]),(51005, [(0, 0), (1, 0), (2, 0), (3, 0), (4, 0), (5, 1), (6, 0), (7, 1), (8, 2), (9, 2)]),(53008, [(0, 0), (1, 0), (2, 0), (3, 0), (5, 0), (4, 1), (6, 1), (7, 1), (8, 1), (9, 3), (10, 3), (11, 3), (12, 3), (13, 3), (14, 3), (15, 3)]),(53013, [(0, 0), (1, 0), (2, 0), (3, 1), (4, 1), (5, 0), (6, 0), (7, 0), (8, 0), (9, 0), (10, 0), (11, 0)]),(57005, [(0, 0), (1, 0), (4, 3), (5, 3), (6, 3), (2, 1), (3, 2), (7, 2), (8, 2)]),(58001, [(0, 0), (1, 0), (2, 0), (3, 0), (4, 0), (5, 0), (6, 0), (7, 0), (8, 0), (9, 0), (10, 0), (11, 0), (12, 0), (13, 0), (14, 0), (15, 0)]),(64001, [(1, 0), (2, 0), (3, 0), (4, 0), (5, 0), (0, 3), (6, 1), (7, 1), (8, 2), (9, 2), (10, 2), (11, 2)]),(64002, [(0, 0), (1, 0), (2, 0), (3, 0), (4, 0), (5, 0), (6, 0), (7, 0), (8, 0), (9, 0), (10, 0)]),(64003, [(0, 0), (1, 0), (2, 0), (3, 0), (4, 0), (5, 0), (6, 1), (7, 0), (8, 2)]),(64004, [(1, 0), (2, 0), (3, 0), (4, 0), (5, 0), (6, 0), (0, 3), (7, 1), (8, 3), (9, 1), (10, 2), (11, 2), (12, 2), (13, 2)]),(69002, [(0, 0), (1, 0), (2, 0), (3, 0), (4, 0), (5, 0), (6, 0), (7, 0), (8, 0), (9, 1), (10, 2)]),(69003, [(0, 0), (1, 0), (2, 0), (3, 0), (4, 0), (5, 1), (6, 2), (7, 2)]),(69006, [(0, 0), (1, 0), (2, 0), (3, 0), (4, 0), (5, 0), (6, 0), (7, 0), (8, 0), (9, 0), (10, 0), (11, 0), (12, 0), (13, 0), (14, 0), (15, 0), (16, 0), (17, 0), (18, 0), (19, 0), (20, 0), (21, 0), (22, 1), (23, 2)]),(69007, [(0, 0), (1, 0), (2, 0), (3, 0), (4, 0), (5, 0), (6, 1), (7, 3), (8, 2), (9, 2)]),(73001, [(1, 0), (2, 0), (3, 0), (4, 0), (5, 0), (0, 3), (6, 1), (7, 1), (8, 2), (9, 2), (10, 2), (11, 2)]),(73002, [(0, 0), (1, 0), (2, 0), (3, 0), (4, 0), (5, 0), (6, 0), (7, 0), (8, 0), (9, 0), (10, 0)]),(73003, [(0, 0), (1, 0), (2, 0), (3, 0), (4, 0), (5, 0), (6, 1), (7, 0), (8, 2)]),(73004, [(1, 0), (2, 0), (3, 0), (4, 0), (5, 0), (6, 0), (0, 3), (7, 1), (8, 3), (9, 1), (10, 2), (11, 2), (12, 2), (13, 2)]),(75007, [(0, 0), (1, 0), (2, 0), (3, 0), (4, 0), (5, 0), (6, 1), (7, 1), (8, 3), (9, 3), (10, 3), (11, 3), (12, 3), (13, 3), (14, 3)]),(75009, [(0, 0), (1, 0), (2, 0), (3, 0), (4, 1), (5, 1), (6, 3), (7, 3), (8, 3), (9, 3), (10, 3), (11, 3), (12, 3)]),(75014, [(0, 0), (1, 0), (2, 0), (3, 0), (4, 0), (5, 0), (6, 0), (7, 1), (8, 1), (9, 3), (10, 3), (11, 3), (12, 3), (13, 3), (14, 3), (15, 3)]),(79001, [(0, 0), (1, 0), (2, 0), (3, 0), (4, 0), (5, 0), (6, 0), (7, 0), (8, 0), (9, 0), (10, 0), (11, 0), (12, 0), (13, 0), (14, 0), (15, 0), (16, 0), (17, 0), (18, 0), (19, 0), (20, 0), (21, 0), (22, 0), (23, 0), (24, 0), (25, 0), (26, 0), (27, 0), (28, 0), (29, 0), (30, 1), (31, 0)]),(81002, [(0, 0), (1, 0), (2, 0), (3, 0), (4, 0), (5, 0), (6, 0), (7, 0), (8, 0)]),(81008, [(0, 0), (1, 0), (2, 0), (3, 0), (4, 0), (5, 0), (6, 0), (7, 0), (8, 0), (9, 0), (10, 1), (11, 2)]),(81010, [(0, 0), (1, 0), (2, 0), (3, 0), (4, 0), (5, 0), (6, 1), (7, 2), (8, 2), (9, 3), (10, 3), (11, 3), (12, 2), (13, 2), (14, 2)]),(81013, [(0, 0), (1, 0), (2, 0), (3, 0), (4, 0), (5, 0), (6, 0), (7, 0), (8, 0), (9, 0), (10, 0), (11, 1), (12, 2)]),(82001, [(0, 0), (1, 0), (2, 0), (3, 0), (4, 0), (5, 0), (6, 0), (7, 0), (8, 0), (9, 0), (10, 0), (11, 0), (12, 0), (13, 0), (14, 0), (15, 0), (16, 0), (17, 0), (18, 0), (19, 0), (20, 0), (21, 0), (22, 0), (23, 0), (24, 0), (25, 0), (26, 0), (27, 0), (28, 0), (29, 0), (30, 0), (31, 0)]),(83017, [(0, 0), (1, 0), (2, 0), (3, 0), (4, 0), (5, 0), (6, 0), (7, 0), (8, 0), (9, 0), (10, 0), (11, 0), (12, 0), (13, 1), (14, 0), (15, 0), (16, 0)]),(100009, [(0, 0), (1, 0), (2, 0), (3, 0), (4, 0), (5, 0), (6, 0), (7, 0), (8, 0), (9, 0), (10, 0), (11, 1), (12, 2)]),(102004, [(0, 0), (1, 0), (2, 0), (3, 0), (4, 0), (5, 0), (6, 0), (7, 0), (8, 0), (9, 0), (10, 0), (11, 0), (12, 0), (13, 0), (14, 1), (15, 0), (16, 0)]),(102006, [(0, 0), (1, 0), (5, 0), (6, 0), (7, 0), (8, 0), (9, 0), (10, 0), (11, 0), (12, 0), (13, 0), (14, 0), (2, 3), (3, 3), (4, 3), (15, 2), (16, 2), (17, 2)]),(103010, [(0, 0), (1, 0), (6, 0), (7, 0), (8, 0), (9, 0), (10, 0), (11, 0), (12, 0), (13, 0), (14, 0), (15, 0), (16, 0), (2, 3), (3, 3), (4, 3), (5, 3), (17, 2), (18, 2), (19, 2)]),(104010, [(0, 0), (1, 0), (6, 0), (7, 0), (8, 0), (9, 0), (10, 0), (11, 0), (12, 0), (13, 0), (14, 0), (15, 0), (16, 0), (2, 3), (3, 3), (4, 3), (5, 3), (17, 2), (18, 2), (19, 2)]),(106003, [(0, 0), (1, 0), (4, 0), (5, 0), (6, 0), (7, 0), (8, 0), (9, 0), (10, 0), (11, 0), (12, 0), (2, 3), (3, 3), (13, 2), (14, 2), (15, 2)]),(107005, [(0, 0), (1, 0), (2, 0), (3, 0), (4, 0), (5, 0), (6, 0), (7, 0), (8, 0), (9, 0), (10, 0), (11, 0), (12, 0), (13, 0), (14, 1), (15, 0), (16, 0), (17, 0)]),(107011, [(0, 0), (1, 0), (5, 0), (6, 0), (7, 0), (8, 0), (9, 0), (10, 0), (11, 0), (12, 0), (13, 0), (14, 0), (2, 3), (3, 3), (4, 3), (15, 2), (16, 2), (17, 2)]),(107016, [(0, 0), (1, 0), (2, 0), (3, 0), (4, 0), (5, 0), (6, 0), (7, 0), (8, 0), (9, 0), (10, 1), (11, 0), (12, 0)]),(107017, [(0, 0), (1, 0), (5, 0), (6, 0), (7, 0), (8, 0), (9, 0), (10, 0), (11, 0), (12, 0), (13, 0), (14, 0), (2, 3), (3, 3), (4, 3), (15, 2), (16, 2), (17, 2)]),(107022, [(0, 0), (1, 0), (2, 0), (3, 0), (4, 0), (5, 0), (6, 0), (7, 0), (8, 0), (9, 0), (10, 1), (11, 0), (12, 0)]),(107023, [(0, 0), (1, 0), (5, 0), (6, 0), (7, 0), (8, 0), (9, 0), (10, 0), (11, 0), (12, 0), (13, 0), (14, 0), (2, 3), (3, 3), (4, 3), (15, 2), (16, 2), (17, 2)]),(108001, [(0, 0), (1, 0), (4, 0), (5, 0), (6, 0), (7, 0), (8, 0), (9, 0), (10, 0), (11, 0), (12, 0), (2, 3), (3, 3), (13, 2), (14, 2), (15, 2)]),(108003, [(0, 0), (1, 0), (2, 0), (3, 0), (4, 0), (5, 0), (6, 0), (7, 0), (8, 0), (9, 0), (10, 0), (11, 0), (12, 0), (13, 1), (14, 0), (15, 0), (16, 0)]),(108005, [(0, 0), (1, 0), (2, 0), (3, 0), (4, 0), (5, 0), (6, 0), (7, 0), (8, 0), (9, 0), (10, 0), (11, 0), (12, 0), (13, 1), (14, 0), (15, 0)]),(108008, [(0, 0), (1, 0), (4, 0), (5, 0), (6, 0), (7, 0), (8, 0), (9, 0), (10, 0), (11, 0), (12, 0), (2, 3), (3, 3), (13, 2), (14, 2), (15, 2)]),(109001, [(0, 0), (1, 0), (4, 0), (5, 0), (6, 0), (7, 0), (8, 0), (9, 0), (10, 0), (11, 0), (12, 0), (2, 3), (3, 3), (13, 2), (14, 2), (15, 2)]),(109003, [(0, 0), (1, 0), (2, 0), (3, 0), (4, 0), (5, 0), (6, 0), (7, 0), (8, 0), (9, 0), (10, 0), (11, 0), (12, 0), (13, 1), (14, 0), (15, 0)]),(109005, [(0, 0), (1, 0), (2, 0), (3, 0), (4, 0), (5, 0), (6, 0), (7, 0), (8, 0), (9, 0), (10, 0), (11, 0), (12, 0), (13, 1), (14, 0), (15, 0), (16, 0)]),(109008, [(0, 0), (1, 0), (4, 0), (5, 0), (6, 0), (7, 0), (8, 0), (9, 0), (10, 0), (11, 0), (12, 0), (2, 3), (3, 3), (13, 2), (14, 2), (15, 2)]),(109010, [(0, 0), (1, 0), (4, 0), (5, 0), (6, 0), (7, 0), (8, 0), (9, 0), (10, 0), (11, 0), (12, 0), (2, 3), (3, 3), (13, 2), (14, 2), (15, 2)]),(109013, [(0, 0), (1, 0), (2, 0), (3, 0), (4, 0), (5, 0), (6, 0), (7, 0), (8, 0), (9, 0), (10, 0), (11, 0), (12, 0), (13, 1), (14, 0), (15, 0)]),(109015, [(0, 0), (1, 0), (2, 0), (3, 0), (4, 0), (5, 0), (6, 0), (7, 0), (8, 0), (9, 0), (10, 0), (11, 0), (12, 0), (13, 1), (14, 0), (15, 0), (16, 0)]),(109018, [(0, 0), (1, 0), (4, 0), (5, 0), (6, 0), (7, 0), (8, 0), (9, 0), (10, 0), (11, 0), (12, 0), (2, 3), (3, 3), (13, 2), (14, 2), (15, 2)]),(109021, [(0, 0), (1, 0), (4, 0), (5, 0), (6, 0), (7, 0), (8, 0), (9, 0), (10, 0), (11, 0), (12, 0), (2, 3), (3, 3), (13, 2), (14, 2), (15, 2)]),(118003, [(0, 0), (1, 0), (2, 0), (3, 0), (4, 0), (5, 0), (6, 0), (7, 0), (8, 0), (9, 0), (10, 0), (11, 0), (12, 0), (13, 0), (14, 0), (15, 0), (16, 0), (17, 0), (18, 0), (19, 1), (20, 0), (21, 0)]),(118005, [(0, 0), (1, 0), (2, 0), (3, 0), (4, 0), (5, 0), (6, 0), (7, 0), (8, 0), (9, 0), (10, 0), (11, 0), (12, 0), (13, 1), (14, 0), (15, 0)]),(118006, [(0, 0), (1, 0), (2, 0), (3, 0), (8, 0), (9, 0), (10, 0), (11, 0), (12, 0), (13, 0), (14, 0), (15, 0), (16, 0), (17, 0), (18, 0), (19, 0), (20, 0), (4, 3), (5, 3), (6, 3), (7, 3), (21, 2), (22, 2), (23, 2)]),(120001, [(0, 0), (1, 0), (2, 0), (3, 0), (4, 0), (5, 0), (6, 0), (7, 0), (8, 0), (9, 2)]),(120002, [(0, 0), (1, 0), (2, 0), (3, 0), (4, 0), (5, 0), (6, 0), (7, 0), (8, 0), (9, 2)]),(120003, [(0, 0), (1, 0), (2, 0), (3, 0), (4, 0), (5, 0), (6, 0), (7, 0), (8, 0), (9, 2)]),(123001, [(0, 0), (1, 0), (2, 0), (3, 0), (4, 0), (5, 0), (6, 0), (7, 0), (8, 0), (9, 1), (10, 0)])]
def Q0K : List (Nat × Nat) := [(3010, 1),(3013, 3),(3020, 3),(3027, 3),(3033, 3),(3037, 3),(3046, 1),(3056, 3),(3057, 1),(3065, 1),(5009, 3),(6014, 2),(6023, 1),(6030, 1),(6037, 2),(7011, 1),(7015, 3),(7017, 1),(7021, 1),(7024, 3),(7029, 1),(7034, 3),(7036, 2),(8007, 3),(8015, 2),(9013, 3),(9022, 1),(9029, 1),(12030, 3),(12037, 3),(12041, 1),(12054, 1),(12063, 1),(12069, 1),(13010, 2),(13016, 1),(13024, 2),(14018, 1),(14023, 1),(14029, 1),(14033, 3),(14034, 1),(14041, 2),(15006, 1),(15009, 1),(17004, 2),(20012, 1),(20017, 3),(20019, 1),(20024, 3),(23011, 3),(24007, 2),(26013, 2),(26029, 1),(26050, 2),(26054, 2),(27025, 1),(32008, 3),(32022, 2),(34017, 1),(34042, 1),(34073, 1),(36010, 1),(37083, 1),(38010, 1),(39029, 1),(39035, 1),(39039, 3),(39040, 1),(39145, 1),(41014, 2),(42016, 2),(43018, 1),(43027, 1),(43036, 1),(43044, 3),(43045, 1),(44039, 1),(45020, 1),(45029, 1),(45037, 3),(45038, 1),(46011, 3),(46038, 1),(47004, 2),(48016, 2),(51017, 2),(53034, 3),(53035, 2),(53052, 2),(53053, 2),(54024, 1),(54029, 2),(54034, 2),(54039, 2),(57015, 1),(59006, 1),(59011, 1),(59017, 1),(60011, 1),(61009, 1),(62008, 1),(62012, 1),(64019, 2),(64041, 2),(64050, 2),(65008, 1),(65015, 1),(65019, 2),(66011, 1),(66016, 1),(66024, 1),(66034, 1),(66049, 1),(66057, 1),(69029, 1),(69084, 1),(70008, 1),(70015, 1),(71012, 1),(71020, 1),(71029, 3),(71030, 1),(72017, 2),(73019, 2),(73041, 2),(73050, 2),(74007, 2),(74029, 1),(75016, 2),(75017, 2),(75036, 3),(75037, 2),(75048, 3),(75049, 2),(75071, 3),(75072, 2),(77013, 1),(77015, 1),(77024, 1),(77031, 1),(77041, 2),(80010, 2),(80014, 3),(80021, 2),(81012, 2),(81035, 2),(81048, 3),(81059, 3),(81066, 2),(81078, 3),(83052, 1),(83094, 1),(84005, 1),(84007, 1),(86009, 1),(86012, 1),(86024, 1),(87009, 1),(87014, 1),(87019, 1),(87022, 1),(87026, 1),(87031, 1),(87034, 1),(87038, 1),(88006, 1),(88009, 1),(89007, 1),(89014, 1),(89022, 1),(89029, 1),(91007, 1),(91009, 1),(91013, 1),(94020, 1),(94024, 3),(95017, 2),(95034, 2),(95047, 1),(95050, 2),(95057, 1),(95062, 2),(95073, 2),(96006, 1),(96012, 1),(96016, 1),(97006, 1),(97011, 1),(97018, 1),(99044, 3),(99046, 3),(100014, 3),(100051, 3),(101021, 2),(101035, 2),(101047, 2),(102032, 1),(104021, 1),(107033, 1),(107082, 1),(107122, 1),(108044, 1),(108063, 1),(109045, 1),(109063, 1),(109118, 1),(109136, 1),(115013, 1),(115015, 2),(115024, 1),(115034, 1),(115041, 1),(115047, 1),(116009, 1),(116025, 1),(116029, 3),(117020, 2),(117035, 2),(117046, 2),(118038, 1),(118056, 1),(119005, 1),(123021, 1)]
def Q1G : List (Nat × List Nat) := [(89, [4]),(33, [2, 0]),(31, [2, 0]),(56, [2, 0]),(55, [2]),(79, [0, 4]),(82, [4, 4]),(94, [2]),(75, [2]),(114, [2, 0]),(95, [2]),(76, [2]),(53, [2]),(73, [2, 0, 0]),(48, [2, 0, 0]),(49, [2]),(24, [0, 10]),(117, [2, 0, 0]),(99, [2, 0, 0]),(80, [0, 4]),(101, [2, 0, 0, 0]),(100, [2, 10, 4]),(81, [0, 10, 4]),(54, [2]),(29, [2]),(30, [2]),(120, [1]),(123, [0, 0, 0, 1, 0]),(122, [0, 0, 0, 0, 1, 0]),(121, [0, 0, 1, 0]),(64, [2, 0, 0]),(42, [2, 0, 0]),(18, [2, 0]),(19, [2])]
def Q2P : List (Nat × VT) := [(2, .one (.i Ly)),(3, .one (.i Ly)),(4, .one (.b)),(5, .one (.i .u8)),(9, .one (.s)),(25, .tup [([.x], false), ([.i Ly], false), ([.i Ly], false)]),(29, .agg [.i Ly, .x, .x]),(33, .agg [.i Ly, .x]),(36, .agg [.i Ly, .i Ly, .i Ly, .s]),(38, .agg [.i Ly, .i Ly, .i Ly, .i Ly, .i Ly, .i Ly, .s]),(43, .tup [([.x], false), ([.i Ly, .i Ly, .i Ly, .s], true)]),(46, .tup [([.x], false), ([.i Ly], false)]),(50, .agg [.i Ly, .i Ly, .i Ly, .s, .i Ly, .i Ly, .b, .i Ly, .i Ly]),(51, .tup [([.i Ly, .i Ly, .i Ly, .s, .i Ly, .i Ly, .b, .i Ly, .i Ly], true), ([.b], false)]),(61, .agg [.i Ly, .i Ly, .i Ly, .i Ly, .i Ly, .i Ly, .i Ly, .s]),(63, .agg [.i Ly, .i Ly, .i Ly, .i Ly, .i Ly, .i Ly, .i Ly, .i Ly, .i Ly, .s]),(64, .tup [([.i Ly, .i Ly, .i Ly, .i Ly, .i Ly, .i Ly, .i Ly, .i Ly, .i Ly, .s], true), ([.b], false)]),(86, .agg [.x, .x]),(96, .agg [.i Ly, .x]),(101, .agg [.x, .i Ly]),(104, .tup [([.i Ly], false), ([.i Ly], false)]),(107, .one (.i .u64)),(110, .agg [.i Ly, .i Ly]),(111, .tup [([.i Ly, .i Ly, .i Ly, .s], true), ([.b], false)]),(119, .agg [.i Ly, .i Ly, .x]),(122, .tup [([.i Ly, .i Ly, .i Ly, .i Ly, .i Ly, .i Ly, .i Ly, .s], true), ([.b], false)]),(127, .agg [.x, .x]),(130, .tup [([.x], false), ([.i Ly], false), ([.i Ly], false)]),(147, .tup [([.i Ly], false), ([.i Ly], false), ([.b], false)]),(152, .one (.i Ly)),(153, .tup [([.i Ly], false), ([.i Ly], false)]),(157, .tup [([.i Ly], false), ([.b], false)]),(160, .one (.i .u32)),(162, .one (.i .u64)),(166, .tup [([.x], false), ([.i Ly], false)]),(168, .tup [([.i Ly], false), ([.b], false)]),(170, .one (.i .u64))]
def Q2Q : List (Nat × VT) := [(2, .one (.i Ly)),(3, .one (.i Ly)),(4, .one (.b)),(5, .one (.i .u8)),(9, .one (.s)),(22, .one (.f)),(24, .one (.f)),(27, .one (.f)),(29, .agg [.i Ly, .f, .f]),(31, .one (.f)),(33, .agg [.i Ly, .f]),(36, .agg [.i Ly, .i Ly, .i Ly, .s]),(38, .agg [.i Ly, .i Ly, .i Ly, .i Ly, .i Ly, .i Ly, .s]),(45, .one (.f)),(50, .agg [.i Ly, .i Ly, .i Ly, .s, .i Ly, .i Ly, .b, .i Ly, .i Ly]),(61, .agg [.i Ly, .i Ly, .i Ly, .i Ly, .i Ly, .i Ly, .i Ly, .s]),(63, .agg [.i Ly, .i Ly, .i Ly, .i Ly, .i Ly, .i Ly, .i Ly, .i Ly, .i Ly, .s]),(78, .one (.f)),(86, .agg [.f, .f]),(89, .one (.f)),(96, .agg [.i Ly, .f]),(101, .agg [.f, .i Ly]),(107, .one (.i .u64)),(110, .agg [.i Ly, .i Ly]),(119, .agg [.i Ly, .i Ly, .f]),(127, .agg [.f, .f]),(137, .one (.f)),(152, .one (.i Ly)),(160, .one (.i .u32)),(162, .one (.i .u64)),(170, .one (.i .u64))]
def Q3b : List (Nat × VT) := [(4, .one (.b)),(67, .one (.i Ly)),(68, .one (.i Ly)),(85, .one (.i Ly)),(90, .one (.i Ly)),(86, .one (.b)),(87, .one (.b)),(66, .one (.i Ly)),(22, .one (.b)),(88, .one (.b)),(112, .one (.b)),(89, .one (.i Ly)),(69, .tup [([.i Ly, .i Ly, .i Ly, .i Ly, .i Ly, .i Ly, .i Ly, .s], true), ([.b], false)]),(70, .one (.f)),(43, .one (.i Ly)),(91, .one (.b)),(71, .tup [([.i Ly, .i Ly, .i Ly, .i Ly, .i Ly, .i Ly, .i Ly, .s], true), ([.b], false)]),(44, .one (.i Ly)),(45, .one (.f)),(46, .one (.f)),(20, .one (.i Ly)),(33, .one (.i Ly)),(31, .one (.b)),(56, .one (.i Ly)),(55, .agg [.i Ly, .i Ly, .i Ly, .s]),(92, .one (.f)),(96, .one (.i Ly)),(97, .one (.i Ly)),(77, .tup [([.f], false), ([.i Ly], false), ([.i Ly], false)]),(78, .one (.f)),(79, .one (.f)),(93, .one (.f)),(82, .one (.b)),(57, .one (.f)),(113, .one (.i Ly)),(94, .one (.f)),(75, .one (.f)),(74, .one (.f)),(114, .one (.f)),(115, .tup [([.f], false), ([.i Ly], false)]),(116, .one (.f)),(95, .one (.f)),(76, .one (.f)),(53, .one (.f)),(23, .tup [([.i Ly, .i Ly, .i Ly, .i Ly, .i Ly, .i Ly, .i Ly, .i Ly, .i Ly, .s], true), ([.b], false)]),(72, .one (.f)),(49, .agg [.i Ly, .f, .f]),(24, .agg [.i Ly, .f, .f]),(21, .agg [.i Ly, .f, .f]),(117, .tup [([.i Ly], false), ([.b], false)]),(99, .tup [([.i Ly], false), ([.i Ly], false), ([.b], false)]),(80, .agg [.i Ly, .f, .f]),(101, .one (.b)),(100, .one (.b)),(81, .agg [.i Ly, .f, .f]),(54, .one (.f)),(29, .one (.f)),(30, .agg [.i Ly, .i Ly, .i Ly, .s]),(32, .one (.f)),(13, .tup [([.f], false), ([.i Ly, .i Ly, .i Ly, .s], true)]),(5, .tup [([.f], false), ([.i Ly], false), ([.i Ly], false)]),(35, .one (.i Ly)),(58, .tup [([.i Ly], false), ([.i Ly], false)]),(34, .one (.i Ly)),(36, .one (.b)),(40, .one (.b)),(59, .one (.i Ly)),(37, .agg [.i Ly, .i Ly, .i Ly, .i Ly, .i Ly, .i Ly, .i Ly, .s]),(38, .one (.f)),(110, .one (.i Ly)),(111, .one (.i Ly)),(84, .one (.i Ly)),(119, .one (.i .u64)),(120, .one (.i .u64)),(123, .tup [([.i Ly], false), ([.i Ly], false)]),(122, .one (.i Ly)),(121, .one (.i Ly)),(105, .tup [([.i Ly], false), ([.i Ly], false)]),(107, .one (.b)),(108, .one (.i Ly)),(109, .tup [([.i Ly], false), ([.b], false)]),(63, .one (.b)),(62, .one (.i Ly)),(61, .one (.i Ly)),(39, .tup [([.f], false), ([.i Ly], false)]),(14, .tup [([.f], false), ([.i Ly], false)]),(15, .one (.b)),(16, .tup [([.i Ly, .i Ly, .i Ly, .s, .i Ly, .i Ly, .b, .i Ly, .i Ly], true), ([.b], false)]),(50, .one (.f)),(41, .one (.f)),(65, .agg [.i Ly, .i Ly, .f]),(19, .agg [.i Ly, .f, .f]),(6, .agg [.i Ly, .f, .f]),(7, .agg [.i Ly, .f, .f]),(25, .one (.f)),(8, .agg [.i Ly, .f]),(9, .agg [.i Ly, .i Ly, .i Ly, .i Ly, .i Ly, .i Ly, .s]),(10, .one (.b)),(11, .one (.f)),(51, .one (.f)),(26, .agg [.i Ly, .f, .f]),(52, .one (.b)),(27, .one (.b)),(12, .one (.b)),(3, .one (.b))]
def Q3a : List (Nat × VT) := [(66000, .one (.f)),(66003, .one (.i Ly)),(66005, .one (.i Ly)),(112000, .one (.s)),(43000, .one (.f)),(43003, .one (.i Ly)),(44000, .one (.f)),(44008, .one (.i Ly)),(45000, .one (.f)),(45004, .one (.i Ly)),(20005, .one (.f)),(20006, .one (.i Ly)),(96000, .one (.f)),(97003, .one (.i Ly)),(57000, .one (.f)),(57005, .one (.i Ly)),(116005, .one (.i Ly)),(34000, .one (.f)),(34003, .one (.i Ly)),(34066, .one (.i Ly)),(34067, .one (.i Ly)),(102001, .one (.i Ly)),(102002, .one (.i Ly)),(102008, .one (.i Ly)),(103008, .one (.i Ly)),(103009, .one (.i Ly)),(103010, .one (.i Ly)),(107001, .one (.i Ly)),(107002, .one (.i Ly)),(107009, .one (.i Ly)),(107010, .one (.i Ly)),(108001, .one (.i Ly)),(108011, .one (.i Ly)),(108012, .one (.i Ly)),(109001, .one (.i Ly)),(109012, .one (.i Ly)),(109013, .one (.i Ly)),(39021, .one (.f)),(39022, .one (.i Ly)),(39023, .one (.i Ly)),(14000, .one (.f)),(14011, .one (.f)),(14012, .one (.i Ly)),(14013, .one (.i Ly)),(65001, .one (.i Ly)),(26001, .one (.f)),(12002, .one (.f)),(12003, .one (.f)),(12010, .one (.b))]
noncomputable def Ev : Env where
  fn := tab Q0b
  ty := tab uP
  keep := fun f i => (tab Q0V (f * 1000 + i)).getD []
  aft := fun f i => (tab Q2G (f * 1000 + i)).getD []
  sched := fun f i => (tab vo (f * 1000 + i)).getD []
  kills := fun f i => (tab Q0U (f * 1000 + i)).getD []
  mode := fun f i => (tab Q0K (f * 1000 + i)).getD 0
  psz := fun f => (tab Q1G f).getD []
  vt := fun t => (tab Q2P t).getD .any
  vf := fun t => (tab Q2Q t).getD .any
  rt := fun f => (tab Q3b f).getD .any
  st := fun f i => (tab Q3a (f * 1000 + i)).getD .any
namespace Lp
noncomputable def QV (id : Nat) (l : List V) (h : H) : Option LOut := loop Ev Fn.QV CJ id (Zi CJ id) l h
noncomputable def Kg (id : Nat) (l : List V) (h : H) : Option LOut := loop Ev Fn.Kg CK id (Zi CK id) l h
noncomputable def ZH (id : Nat) (l : List V) (h : H) : Option LOut := loop Ev Fn.ZH CL id (Zi CL id) l h
noncomputable def QU (id : Nat) (l : List V) (h : H) : Option LOut := loop Ev Fn.QU CM id (Zi CM id) l h
noncomputable def Zs (id : Nat) (l : List V) (h : H) : Option LOut := loop Ev Fn.Zs CN id (Zi CN id) l h
noncomputable def ZD (id : Nat) (l : List V) (h : H) : Option LOut := loop Ev Fn.ZD CO id (Zi CO id) l h
noncomputable def Zt (id : Nat) (l : List V) (h : H) : Option LOut := loop Ev Fn.Zt CP id (Zi CP id) l h
noncomputable def XT (id : Nat) (l : List V) (h : H) : Option LOut := loop Ev Fn.XT CQ id (Zi CQ id) l h
noncomputable def XS (id : Nat) (l : List V) (h : H) : Option LOut := loop Ev Fn.XS CS id (Zi CS id) l h
noncomputable def X7 (id : Nat) (l : List V) (h : H) : Option LOut := loop Ev Fn.X7 CT id (Zi CT id) l h
noncomputable def XC (id : Nat) (l : List V) (h : H) : Option LOut := loop Ev Fn.XC CU id (Zi CU id) l h
noncomputable def Kq (id : Nat) (l : List V) (h : H) : Option LOut := loop Ev Fn.Kq CV id (Zi CV id) l h
noncomputable def ZQ (id : Nat) (l : List V) (h : H) : Option LOut := loop Ev Fn.ZQ CW id (Zi CW id) l h
noncomputable def ZG (id : Nat) (l : List V) (h : H) : Option LOut := loop Ev Fn.ZG CX id (Zi CX id) l h
noncomputable def XU (id : Nat) (l : List V) (h : H) : Option LOut := loop Ev Fn.XU CY id (Zi CY id) l h
noncomputable def Kh (id : Nat) (l : List V) (h : H) : Option LOut := loop Ev Fn.Kh CZ id (Zi CZ id) l h
noncomputable def Zy (id : Nat) (l : List V) (h : H) : Option LOut := loop Ev Fn.Zy Sa id (Zi Sa id) l h
noncomputable def Zd (id : Nat) (l : List V) (h : H) : Option LOut := loop Ev Fn.Zd Sb id (Zi Sb id) l h
noncomputable def XR (id : Nat) (l : List V) (h : H) : Option LOut := loop Ev Fn.XR Sd id (Zi Sd id) l h
noncomputable def Kf (id : Nat) (l : List V) (h : H) : Option LOut := loop Ev Fn.Kf Se id (Zi Se id) l h
noncomputable def ZP (id : Nat) (l : List V) (h : H) : Option LOut := loop Ev Fn.ZP Sf id (Zi Sf id) l h
noncomputable def Zr (id : Nat) (l : List V) (h : H) : Option LOut := loop Ev Fn.Zr Sg id (Zi Sg id) l h
noncomputable def Xz (id : Nat) (l : List V) (h : H) : Option LOut := loop Ev Fn.Xz Sh id (Zi Sh id) l h
noncomputable def Qw (id : Nat) (l : List V) (h : H) : Option LOut := loop Ev Fn.Qw Si id (Zi Si id) l h
noncomputable def Xj (id : Nat) (l : List V) (h : H) : Option LOut := loop Ev Fn.Xj Sj id (Zi Sj id) l h
noncomputable def Qf (id : Nat) (l : List V) (h : H) : Option LOut := loop Ev Fn.Qf Sk id (Zi Sk id) l h
noncomputable def Qs (id : Nat) (l : List V) (h : H) : Option LOut := loop Ev Fn.Qs Sl id (Zi Sl id) l h
noncomputable def Qk (id : Nat) (l : List V) (h : H) : Option LOut := loop Ev Fn.Qk Sm id (Zi Sm id) l h
noncomputable def Qi (id : Nat) (l : List V) (h : H) : Option LOut := loop Ev Fn.Qi Sn id (Zi Sn id) l h
noncomputable def Qx (id : Nat) (l : List V) (h : H) : Option LOut := loop Ev Fn.Qx So id (Zi So id) l h
noncomputable def Q4 (id : Nat) (l : List V) (h : H) : Option LOut := loop Ev Fn.Q4 Sp id (Zi Sp id) l h
noncomputable def Q7 (id : Nat) (l : List V) (h : H) : Option LOut := loop Ev Fn.Q7 Sq id (Zi Sq id) l h
noncomputable def Q5 (id : Nat) (l : List V) (h : H) : Option LOut := loop Ev Fn.Q5 Sr id (Zi Sr id) l h
noncomputable def Qe (id : Nat) (l : List V) (h : H) : Option LOut := loop Ev Fn.Qe Ss id (Zi Ss id) l h
noncomputable def QM (id : Nat) (l : List V) (h : H) : Option LOut := loop Ev Fn.QM Su id (Zi Su id) l h
noncomputable def X0 (id : Nat) (l : List V) (h : H) : Option LOut := loop Ev Fn.X0 Sv id (Zi Sv id) l h
noncomputable def Ks (id : Nat) (l : List V) (h : H) : Option LOut := loop Ev Fn.Ks Sw id (Zi Sw id) l h
noncomputable def XY (id : Nat) (l : List V) (h : H) : Option LOut := loop Ev Fn.XY Sx id (Zi Sx id) l h
noncomputable def XB (id : Nat) (l : List V) (h : H) : Option LOut := loop Ev Fn.XB Sy id (Zi Sy id) l h
noncomputable def KF (id : Nat) (l : List V) (h : H) : Option LOut := loop Ev Fn.KF Sz id (Zi Sz id) l h
noncomputable def Xo (id : Nat) (l : List V) (h : H) : Option LOut := loop Ev Fn.Xo S0 id (Zi S0 id) l h
noncomputable def XF (id : Nat) (l : List V) (h : H) : Option LOut := loop Ev Fn.XF S1 id (Zi S1 id) l h
noncomputable def XA (id : Nat) (l : List V) (h : H) : Option LOut := loop Ev Fn.XA S2 id (Zi S2 id) l h
noncomputable def Zh (id : Nat) (l : List V) (h : H) : Option LOut := loop Ev Fn.Zh S3 id (Zi S3 id) l h
noncomputable def XX (id : Nat) (l : List V) (h : H) : Option LOut := loop Ev Fn.XX S4 id (Zi S4 id) l h
noncomputable def Km (id : Nat) (l : List V) (h : H) : Option LOut := loop Ev Fn.Km S5 id (Zi S5 id) l h
end Lp
def Qn (f : Nat) (fn : Func) : Prop := S6.funcs[f]? = some fn /\ (fn.name == "runtime.NumGoroutine") = false /\ ∀ c, fn.body = some c -> KQ Ev f fn.ntmps c = true
noncomputable def wfB (f : Nat) (fn : Func) : Bool := match fn.body with | none => true | some c => KQ Ev f fn.ntmps c
theorem Qn.of {f : Nat} {fn : Func} (h1 : S6.funcs[f]? = some fn) (h2 : (fn.name == "runtime.NumGoroutine") = false) (h3 : wfB f fn = true) : Qn f fn := ⟨h1, h2, fun c hc => by unfold wfB at h3; rw [hc] at h3; exact h3⟩
theorem Q5d : Qn 4 Tryz.f4 := .of Tryz.func4 (by kernel_rfl) (by kernel_rfl)
theorem Q3M : Qn 67 Tryz.f67 := .of Tryz.func67 (by kernel_rfl) (by kernel_rfl)
theorem Q3L : Qn 68 Tryz.f68 := .of Tryz.func68 (by kernel_rfl) (by kernel_rfl)
theorem Q3u : Qn 85 Tryz.f85 := .of Tryz.func85 (by kernel_rfl) (by kernel_rfl)
theorem Q3p : Qn 90 Tryz.f90 := .of Tryz.func90 (by kernel_rfl) (by kernel_rfl)
theorem Q3t : Qn 86 Tryz.f86 := .of Tryz.func86 (by kernel_rfl) (by kernel_rfl)
theorem Q3s : Qn 87 Tryz.f87 := .of Tryz.func87 (by kernel_rfl) (by kernel_rfl)
theorem Q3N : Qn 66 CJ := .of Tryz.func66 (by kernel_rfl) (by kernel_rfl)
theorem Q4v : Qn 22 Tryz.f22 := .of Tryz.func22 (by kernel_rfl) (by kernel_rfl)
theorem Q3r : Qn 88 Tryz.f88 := .of Tryz.func88 (by kernel_rfl) (by kernel_rfl)
theorem Q2g : Qn 112 CK := .of Tryz.func112 (by kernel_rfl) (by kernel_rfl)
theorem Q3q : Qn 89 Tryz.f89 := .of Tryz.func89 (by kernel_rfl) (by kernel_rfl)
theorem Q3K : Qn 69 Tryz.f69 := .of Tryz.func69 (by kernel_rfl) (by kernel_rfl)
theorem Q3J : Qn 70 Tryz.f70 := .of Tryz.func70 (by kernel_rfl) (by kernel_rfl)
theorem Q4a : Qn 43 CL := .of Tryz.func43 (by kernel_rfl) (by kernel_rfl)
theorem Q3o : Qn 91 Tryz.f91 := .of Tryz.func91 (by kernel_rfl) (by kernel_rfl)
theorem Q3I : Qn 71 Tryz.f71 := .of Tryz.func71 (by kernel_rfl) (by kernel_rfl)
theorem Q49 : Qn 44 CM := .of Tryz.func44 (by kernel_rfl) (by kernel_rfl)
theorem Q48 : Qn 45 CN := .of Tryz.func45 (by kernel_rfl) (by kernel_rfl)
theorem Q47 : Qn 46 CO := .of Tryz.func46 (by kernel_rfl) (by kernel_rfl)
theorem Q4x : Qn 20 CP := .of Tryz.func20 (by kernel_rfl) (by kernel_rfl)
theorem Q4p : Qn 28 Tryz.f28 := .of Tryz.func28 (by kernel_rfl) (by kernel_rfl)
theorem Q4k : Qn 33 Tryz.f33 := .of Tryz.func33 (by kernel_rfl) (by kernel_rfl)
theorem Q4m : Qn 31 Tryz.f31 := .of Tryz.func31 (by kernel_rfl) (by kernel_rfl)
theorem Q3X : Qn 56 Tryz.f56 := .of Tryz.func56 (by kernel_rfl) (by kernel_rfl)
theorem Q3Y : Qn 55 Tryz.f55 := .of Tryz.func55 (by kernel_rfl) (by kernel_rfl)
theorem Q3n : Qn 92 Tryz.f92 := .of Tryz.func92 (by kernel_rfl) (by kernel_rfl)
theorem Q3j : Qn 96 CQ := .of Tryz.func96 (by kernel_rfl) (by kernel_rfl)
theorem Q3i : Qn 97 CS := .of Tryz.func97 (by kernel_rfl) (by kernel_rfl)
theorem Q3h : Qn 98 Tryz.f98 := .of Tryz.func98 (by kernel_rfl) (by kernel_rfl)
theorem Q3C : Qn 77 Tryz.f77 := .of Tryz.func77 (by kernel_rfl) (by kernel_rfl)
theorem Q3B : Qn 78 Tryz.f78 := .of Tryz.func78 (by kernel_rfl) (by kernel_rfl)
theorem Q3A : Qn 79 Tryz.f79 := .of Tryz.func79 (by kernel_rfl) (by kernel_rfl)
theorem Q3m : Qn 93 CT := .of Tryz.func93 (by kernel_rfl) (by kernel_rfl)
theorem Q3x : Qn 82 Tryz.f82 := .of Tryz.func82 (by kernel_rfl) (by kernel_rfl)
theorem Q3W : Qn 57 CU := .of Tryz.func57 (by kernel_rfl) (by kernel_rfl)
theorem Q2f : Qn 113 CV := .of Tryz.func113 (by kernel_rfl) (by kernel_rfl)
theorem Q3l : Qn 94 CW := .of Tryz.func94 (by kernel_rfl) (by kernel_rfl)
theorem Q3E : Qn 75 CX := .of Tryz.func75 (by kernel_rfl) (by kernel_rfl)
theorem Q3F : Qn 74 CY := .of Tryz.func74 (by kernel_rfl) (by kernel_rfl)
theorem Q2e : Qn 114 CZ := .of Tryz.func114 (by kernel_rfl) (by kernel_rfl)
theorem Q2d : Qn 115 Tryz.f115 := .of Tryz.func115 (by kernel_rfl) (by kernel_rfl)
theorem Q2c : Qn 116 Sa := .of Tryz.func116 (by kernel_rfl) (by kernel_rfl)
theorem Q3k : Qn 95 Sb := .of Tryz.func95 (by kernel_rfl) (by kernel_rfl)
theorem Q3D : Qn 76 Tryz.f76 := .of Tryz.func76 (by kernel_rfl) (by kernel_rfl)
theorem Q40 : Qn 53 Tryz.f53 := .of Tryz.func53 (by kernel_rfl) (by kernel_rfl)
theorem Q4u : Qn 23 Sd := .of Tryz.func23 (by kernel_rfl) (by kernel_rfl)
theorem Q3H : Qn 72 Se := .of Tryz.func72 (by kernel_rfl) (by kernel_rfl)
theorem Q46 : Qn 47 Tryz.f47 := .of Tryz.func47 (by kernel_rfl) (by kernel_rfl)
theorem Q3G : Qn 73 Tryz.f73 := .of Tryz.func73 (by kernel_rfl) (by kernel_rfl)
theorem Q45 : Qn 48 Tryz.f48 := .of Tryz.func48 (by kernel_rfl) (by kernel_rfl)
theorem Q44 : Qn 49 Tryz.f49 := .of Tryz.func49 (by kernel_rfl) (by kernel_rfl)
theorem Q4t : Qn 24 Tryz.f24 := .of Tryz.func24 (by kernel_rfl) (by kernel_rfl)
theorem Q4w : Qn 21 Tryz.f21 := .of Tryz.func21 (by kernel_rfl) (by kernel_rfl)
theorem Q2b : Qn 117 Tryz.f117 := .of Tryz.func117 (by kernel_rfl) (by kernel_rfl)
theorem Q3g : Qn 99 Sf := .of Tryz.func99 (by kernel_rfl) (by kernel_rfl)
theorem Q3z : Qn 80 Tryz.f80 := .of Tryz.func80 (by kernel_rfl) (by kernel_rfl)
theorem Q2r : Qn 101 Tryz.f101 := .of Tryz.func101 (by kernel_rfl) (by kernel_rfl)
theorem Q2s : Qn 100 Tryz.f100 := .of Tryz.func100 (by kernel_rfl) (by kernel_rfl)
theorem Q3y : Qn 81 Tryz.f81 := .of Tryz.func81 (by kernel_rfl) (by kernel_rfl)
theorem Q3Z : Qn 54 Sg := .of Tryz.func54 (by kernel_rfl) (by kernel_rfl)
theorem Q4o : Qn 29 Tryz.f29 := .of Tryz.func29 (by kernel_rfl) (by kernel_rfl)
theorem Q4n : Qn 30 Tryz.f30 := .of Tryz.func30 (by kernel_rfl) (by kernel_rfl)
theorem Q4l : Qn 32 Sh := .of Tryz.func32 (by kernel_rfl) (by kernel_rfl)
theorem Q4E : Qn 13 Tryz.f13 := .of Tryz.func13 (by kernel_rfl) (by kernel_rfl)
theorem Q5c : Qn 5 Tryz.f5 := .of Tryz.func5 (by kernel_rfl) (by kernel_rfl)
theorem Q4i : Qn 35 Tryz.f35 := .of Tryz.func35 (by kernel_rfl) (by kernel_rfl)
theorem Q3V : Qn 58 Tryz.f58 := .of Tryz.func58 (by kernel_rfl) (by kernel_rfl)
theorem Q4j : Qn 34 Si := .of Tryz.func34 (by kernel_rfl) (by kernel_rfl)
theorem Q4h : Qn 36 Tryz.f36 := .of Tryz.func36 (by kernel_rfl) (by kernel_rfl)
theorem Q4d : Qn 40 Tryz.f40 := .of Tryz.func40 (by kernel_rfl) (by kernel_rfl)
theorem Q3U : Qn 59 Sj := .of Tryz.func59 (by kernel_rfl) (by kernel_rfl)
theorem Q4g : Qn 37 Tryz.f37 := .of Tryz.func37 (by kernel_rfl) (by kernel_rfl)
theorem Q4f : Qn 38 Tryz.f38 := .of Tryz.func38 (by kernel_rfl) (by kernel_rfl)
theorem Q2q : Qn 102 Sk := .of Tryz.func102 (by kernel_rfl) (by kernel_rfl)
theorem Q2a : Qn 118 Sl := .of Tryz.func118 (by kernel_rfl) (by kernel_rfl)
theorem Q2p : Qn 103 Sm := .of Tryz.func103 (by kernel_rfl) (by kernel_rfl)
theorem Q2i : Qn 110 Tryz.f110 := .of Tryz.func110 (by kernel_rfl) (by kernel_rfl)
theorem Q2h : Qn 111 Tryz.f111 := .of Tryz.func111 (by kernel_rfl) (by kernel_rfl)
theorem Q3v : Qn 84 Tryz.f84 := .of Tryz.func84 (by kernel_rfl) (by kernel_rfl)
theorem Q29 : Qn 119 Tryz.f119 := .of Tryz.func119 (by kernel_rfl) (by kernel_rfl)
theorem Q28 : Qn 120 Tryz.f120 := .of Tryz.func120 (by kernel_rfl) (by kernel_rfl)
theorem Q2o : Qn 104 Sn := .of Tryz.func104 (by kernel_rfl) (by kernel_rfl)
theorem Q25 : Qn 123 Tryz.f123 := .of Tryz.func123 (by kernel_rfl) (by kernel_rfl)
theorem Q26 : Qn 122 Tryz.f122 := .of Tryz.func122 (by kernel_rfl) (by kernel_rfl)
theorem Q27 : Qn 121 Tryz.f121 := .of Tryz.func121 (by kernel_rfl) (by kernel_rfl)
theorem Q2n : Qn 105 Tryz.f105 := .of Tryz.func105 (by kernel_rfl) (by kernel_rfl)
theorem Q2m : Qn 106 So := .of Tryz.func106 (by kernel_rfl) (by kernel_rfl)
theorem Q2l : Qn 107 Sp := .of Tryz.func107 (by kernel_rfl) (by kernel_rfl)
theorem Q2k : Qn 108 Sq := .of Tryz.func108 (by kernel_rfl) (by kernel_rfl)
theorem Q2j : Qn 109 Sr := .of Tryz.func109 (by kernel_rfl) (by kernel_rfl)
theorem Q3w : Qn 83 Ss := .of Tryz.func83 (by kernel_rfl) (by kernel_rfl)
theorem Q3T : Qn 60 Tryz.f60 := .of Tryz.func60 (by kernel_rfl) (by kernel_rfl)
theorem Q3Q : Qn 63 Tryz.f63 := .of Tryz.func63 (by kernel_rfl) (by kernel_rfl)
theorem Q3R : Qn 62 Tryz.f62 := .of Tryz.func62 (by kernel_rfl) (by kernel_rfl)
theorem Q3S : Qn 61 Tryz.f61 := .of Tryz.func61 (by kernel_rfl) (by kernel_rfl)
theorem Q4e : Qn 39 Su := .of Tryz.func39 (by kernel_rfl) (by kernel_rfl)
theorem Q4D : Qn 14 Sv := .of Tryz.func14 (by kernel_rfl) (by kernel_rfl)
theorem Q4C : Qn 15 Tryz.f15 := .of Tryz.func15 (by kernel_rfl) (by kernel_rfl)
theorem Q4B : Qn 16 Sw := .of Tryz.func16 (by kernel_rfl) (by kernel_rfl)
theorem Q43 : Qn 50 Tryz.f50 := .of Tryz.func50 (by kernel_rfl) (by kernel_rfl)
theorem Q4c : Qn 41 Sx := .of Tryz.func41 (by kernel_rfl) (by kernel_rfl)
theorem Q4A : Qn 17 Tryz.f17 := .of Tryz.func17 (by kernel_rfl) (by kernel_rfl)
theorem Q3P : Qn 64 Tryz.f64 := .of Tryz.func64 (by kernel_rfl) (by kernel_rfl)
theorem Q3O : Qn 65 Sy := .of Tryz.func65 (by kernel_rfl) (by kernel_rfl)
theorem Q4b : Qn 42 Tryz.f42 := .of Tryz.func42 (by kernel_rfl) (by kernel_rfl)
theorem Q4z : Qn 18 Tryz.f18 := .of Tryz.func18 (by kernel_rfl) (by kernel_rfl)
theorem Q4y : Qn 19 Tryz.f19 := .of Tryz.func19 (by kernel_rfl) (by kernel_rfl)
theorem Q5b : Qn 6 Tryz.f6 := .of Tryz.func6 (by kernel_rfl) (by kernel_rfl)
theorem Q5a : Qn 7 Tryz.f7 := .of Tryz.func7 (by kernel_rfl) (by kernel_rfl)
theorem Q4s : Qn 25 Sz := .of Tryz.func25 (by kernel_rfl) (by kernel_rfl)
theorem Q59 : Qn 8 Tryz.f8 := .of Tryz.func8 (by kernel_rfl) (by kernel_rfl)
theorem Q58 : Qn 9 Tryz.f9 := .of Tryz.func9 (by kernel_rfl) (by kernel_rfl)
theorem Q4H : Qn 10 S0 := .of Tryz.func10 (by kernel_rfl) (by kernel_rfl)
theorem Q4G : Qn 11 S1 := .of Tryz.func11 (by kernel_rfl) (by kernel_rfl)
theorem Q42 : Qn 51 S2 := .of Tryz.func51 (by kernel_rfl) (by kernel_rfl)
theorem Q4r : Qn 26 S3 := .of Tryz.func26 (by kernel_rfl) (by kernel_rfl)
theorem Q41 : Qn 52 Tryz.f52 := .of Tryz.func52 (by kernel_rfl) (by kernel_rfl)
theorem Q4q : Qn 27 S4 := .of Tryz.func27 (by kernel_rfl) (by kernel_rfl)
theorem Q4F : Qn 12 S5 := .of Tryz.func12 (by kernel_rfl) (by kernel_rfl)
theorem Q5e : Qn 3 Tryz.f3 := .of Tryz.func3 (by kernel_rfl) (by kernel_rfl)
theorem all_cons {α : Type} {Q : Nat -> α -> Prop} {i : Nat} {x : α} {l : List (Nat × α)} (h : Q i x) (hl : ∀ d y, (d, y) ∈ l -> Q d y) : ∀ d y, (d, y) ∈ (i, x) :: l -> Q d y := by
  intro d y hm
  rcases List.mem_cons.1 hm with hm | hm
  · cases hm; exact h
  · exact hl d y hm
theorem all_nil {α : Type} {Q : Nat -> α -> Prop} : ∀ d y, (d, y) ∈ ([] : List (Nat × α)) -> Q d y := fun _ _ h => by cases h
theorem Q1p : ∀ d y, (d, y) ∈ uP -> TyOk S6 d y := by
  unfold uP
  repeat refine all_cons ⟨by kernel_rfl, by kernel_rfl, ⟨by decide, by rfl⟩, by kernel_rfl, by kernel_rfl, by kernel_rfl⟩ ?_
  exact all_nil
theorem Q2u : ∀ d y, (d, y) ∈ Q0b -> Qn d y := all_cons Q5d (all_cons Q3M (all_cons Q3L (all_cons Q3u (all_cons Q3p (all_cons Q3t (all_cons Q3s (all_cons Q3N (all_cons Q4v (all_cons Q3r (all_cons Q2g (all_cons Q3q (all_cons Q3K (all_cons Q3J (all_cons Q4a (all_cons Q3o (all_cons Q3I (all_cons Q49 (all_cons Q48 (all_cons Q47 (all_cons Q4x (all_cons Q4p (all_cons Q4k (all_cons Q4m (all_cons Q3X (all_cons Q3Y (all_cons Q3n (all_cons Q3j (all_cons Q3i (all_cons Q3h (all_cons Q3C (all_cons Q3B (all_cons Q3A (all_cons Q3m (all_cons Q3x (all_cons Q3W (all_cons Q2f (all_cons Q3l (all_cons Q3E (all_cons Q3F (all_cons Q2e (all_cons Q2d (all_cons Q2c (all_cons Q3k (all_cons Q3D (all_cons Q40 (all_cons Q4u (all_cons Q3H (all_cons Q46 (all_cons Q3G (all_cons Q45 (all_cons Q44 (all_cons Q4t (all_cons Q4w (all_cons Q2b (all_cons Q3g (all_cons Q3z (all_cons Q2r (all_cons Q2s (all_cons Q3y (all_cons Q3Z (all_cons Q4o (all_cons Q4n (all_cons Q4l (all_cons Q4E (all_cons Q5c (all_cons Q4i (all_cons Q3V (all_cons Q4j (all_cons Q4h (all_cons Q4d (all_cons Q3U (all_cons Q4g (all_cons Q4f (all_cons Q2q (all_cons Q2a (all_cons Q2p (all_cons Q2i (all_cons Q2h (all_cons Q3v (all_cons Q29 (all_cons Q28 (all_cons Q2o (all_cons Q25 (all_cons Q26 (all_cons Q27 (all_cons Q2n (all_cons Q2m (all_cons Q2l (all_cons Q2k (all_cons Q2j (all_cons Q3w (all_cons Q3T (all_cons Q3Q (all_cons Q3R (all_cons Q3S (all_cons Q4e (all_cons Q4D (all_cons Q4C (all_cons Q4B (all_cons Q43 (all_cons Q4c (all_cons Q4A (all_cons Q3P (all_cons Q3O (all_cons Q4b (all_cons Q4z (all_cons Q4y (all_cons Q5b (all_cons Q5a (all_cons Q4s (all_cons Q59 (all_cons Q58 (all_cons Q4H (all_cons Q4G (all_cons Q42 (all_cons Q4r (all_cons Q41 (all_cons Q4q (all_cons Q4F (all_cons Q5e (all_nil)))))))))))))))))))))))))))))))))))))))))))))))))))))))))))))))))))))))))))))))))))))))))))))))))))))))))))))))))))))))))
theorem Ev_ok : EnvOk S6 Ev := ⟨by kernel_rfl, fun t ti h => Q1p t ti (xv h), fun f fn h => Q2u f fn (xv h)⟩
end Vm
