/- The tables of types and functions fit the program (no condition). -/
import Derived.Test.YthjbkngecgbioaaGreatDoorLgB
import Derived.Test.YthjbkngecgbioaaGreatDoorLgC
import Derived.Test.YthjbkngecgbioaaGreatDoorProg
set_option linter.unusedVariables false
set_option linter.unusedSimpArgs false
set_option linter.deprecated false
/- Running alive: the tables of types and functions. -/
namespace Go.Proofs.YthjbkngecgbioaaGreatDoor.Xe
open Go
noncomputable def TTl : Tr Ty := (.node 45 (⟨false, true, 6, [.int .i64 0, .int .i64 0, .int .i64 0, .int .i64 0, .bool false, .nils], [(0, 1), (1, 1), (2, 1), (3, 1), (4, 1), (5, 1)], none, none, none, false, none, false, false, false, []⟩ : Ty) (.node 9 (⟨true, false, 1, [.str []], [], none, none, none, true, none, false, false, false, []⟩ : Ty) (.node 3 (⟨true, false, 1, [.int .i64 0], [], none, none, some .i64, false, none, false, false, false, []⟩ : Ty) .leaf (.node 5 (⟨true, false, 1, [.int .u8 0], [], none, none, some .u8, false, none, false, false, false, []⟩ : Ty) (.node 4 (⟨true, false, 1, [.bool false], [], none, none, none, false, none, false, true, false, []⟩ : Ty) .leaf .leaf) .leaf)) (.node 37 (⟨true, false, 1, [.nils], [], some 5, none, none, false, none, false, false, false, []⟩ : Ty) (.node 26 (⟨true, false, 1, [.nils], [], some 3, none, none, false, none, false, false, false, []⟩ : Ty) .leaf (.node 30 (⟨true, false, 1, [.nils], [], some 45, none, none, false, none, false, false, false, []⟩ : Ty) .leaf .leaf)) (.node 40 (⟨false, true, 13, [.int .i64 0, .int .i64 0, .int .i64 0, .int .i64 0, .nils, .nils, .int .i64 0, .int .i64 0, .bool false, .int .i64 0, .int .i64 0, .int .i64 0, .int .i64 0], [(0, 1), (1, 1), (2, 1), (3, 1), (4, 1), (5, 1), (6, 1), (7, 1), (8, 1), (9, 1), (10, 1), (11, 1), (12, 1)], none, none, none, false, none, false, false, false, []⟩ : Ty) (.node 38 (⟨true, false, 1, [.nils], [], some 198, none, none, false, none, false, false, false, []⟩ : Ty) .leaf .leaf) (.node 41 (⟨true, false, 1, [.nils], [], some 146, none, none, false, none, false, false, false, []⟩ : Ty) .leaf .leaf)))) (.node 175 (⟨true, false, 1, [.nils], [], some 9, none, none, false, none, false, false, false, []⟩ : Ty) (.node 104 (⟨false, true, 2, [.int .i64 0, .int .i64 0], [(0, 1), (1, 1)], none, none, none, false, none, false, false, true, []⟩ : Ty) (.node 72 (⟨true, false, 1, [.nils], [], some 104, none, none, false, none, false, false, false, []⟩ : Ty) (.node 68 (⟨false, true, 2, [.int .i64 0, .nils], [(0, 1), (1, 1)], none, none, none, false, none, false, false, false, []⟩ : Ty) (.node 63 (⟨true, false, 1, [.nils], [], some 68, none, none, false, none, false, false, false, []⟩ : Ty) .leaf .leaf) (.node 70 (⟨false, true, 6, [.int .i64 0, .int .i64 0, .int .i64 0, .int .i64 0, .int .i64 0, .int .i64 0], [(0, 1), (1, 1), (2, 1), (3, 1), (4, 1), (5, 1)], none, none, none, false, none, false, false, true, []⟩ : Ty) .leaf (.node 71 (⟨true, false, 1, [.nils], [], some 131, none, none, false, none, false, false, false, []⟩ : Ty) .leaf .leaf))) (.node 93 (⟨false, true, 5, [.int .i64 0, .int .i64 0, .int .i64 0, .int .i64 0, .bool false], [(0, 1), (1, 1), (2, 1), (3, 1), (4, 1)], none, none, none, false, none, false, false, false, []⟩ : Ty) (.node 75 (⟨false, true, 13, [.int .i64 0, .int .i64 0, .int .i64 0, .int .i64 0, .int .i64 0, .int .i64 0, .nils, .int .i64 0, .int .i64 0, .nils, .nils, .int .i64 0, .int .i64 0], [(0, 6), (6, 1), (7, 1), (8, 1), (9, 1), (10, 1), (11, 2)], none, none, none, false, none, false, false, false, []⟩ : Ty) .leaf .leaf) (.node 95 (⟨true, false, 1, [.nilp], [], none, none, none, false, none, true, false, false, []⟩ : Ty) .leaf .leaf))) (.node 157 (⟨true, false, 1, [.nilp], [], none, none, none, false, none, true, false, false, []⟩ : Ty) (.node 131 (⟨false, true, 6, [.int .i64 0, .int .i64 0, .int .i64 0, .int .i64 0, .int .i64 0, .int .i64 0], [(0, 1), (1, 1), (2, 1), (3, 1), (4, 1), (5, 1)], none, none, none, false, none, false, false, true, []⟩ : Ty) (.node 121 (⟨true, false, 1, [.nilp], [], none, none, none, false, none, true, false, false, []⟩ : Ty) (.node 118 (⟨true, false, 1, [.nilp], [], none, none, none, false, none, true, false, false, []⟩ : Ty) (.node 108 (⟨false, true, 3, [.nils, .int .i64 0, .int .i64 0], [(0, 1), (1, 1), (2, 1)], none, none, none, false, none, false, false, false, []⟩ : Ty) .leaf .leaf) .leaf) (.node 124 (⟨false, true, 15, [.nilp, .nilp, .int .i64 0, .int .i64 0, .int .i64 0, .int .i64 0, .int .i64 0, .int .i64 0, .nils, .int .i64 0, .int .i64 0, .nils, .nils, .int .i64 0, .int .i64 0], [(0, 1), (1, 1), (2, 13)], none, none, none, false, none, false, false, false, []⟩ : Ty) .leaf .leaf)) (.node 156 (⟨true, false, 1, [.int .u64 0], [], none, none, some .u64, false, none, false, false, false, []⟩ : Ty) .leaf .leaf)) (.node 163 (⟨false, true, 8, [.int .i64 0, .int .i64 0, .nils, .int .i64 0, .int .i64 0, .int .i64 0, .int .i64 0, .bool false], [(0, 1), (1, 1), (2, 1), (3, 5)], none, none, none, false, none, false, false, false, []⟩ : Ty) (.node 161 (⟨false, true, 2, [.nilp, .bool false], [(0, 1), (1, 1)], none, none, none, false, none, false, false, false, []⟩ : Ty) .leaf .leaf) (.node 170 (⟨false, true, 4, [.int .i64 0, .nils, .nils, .nils], [(0, 1), (1, 1), (2, 1), (3, 1)], none, none, none, false, none, false, false, false, []⟩ : Ty) (.node 166 (⟨false, true, 16, [.int .i64 0, .int .i64 0, .nils, .int .i64 0, .int .i64 0, .int .i64 0, .int .i64 0, .bool false, .int .i64 0, .int .i64 0, .nils, .int .i64 0, .int .i64 0, .int .i64 0, .int .i64 0, .bool false], [(0, 16)], none, none, none, false, none, false, false, false, []⟩ : Ty) (.node 164 (⟨false, true, 16, [.int .i64 0, .int .i64 0, .nils, .int .i64 0, .int .i64 0, .int .i64 0, .int .i64 0, .bool false, .int .i64 0, .int .i64 0, .nils, .int .i64 0, .int .i64 0, .int .i64 0, .int .i64 0, .bool false], [(0, 8), (8, 8)], none, some (2, 163), none, false, none, false, false, false, []⟩ : Ty) .leaf .leaf) .leaf) .leaf)))) (.node 266 (⟨true, false, 1, [.nils], [], some 316, none, none, false, none, false, false, false, []⟩ : Ty) (.node 218 (⟨false, true, 35, [.int .i64 0, .int .i64 0, .int .i64 0, .int .i64 0, .int .i64 0, .int .i64 0, .bool false, .bool false, .nilp, .nilp, .int .i64 0, .bool false, .nilp, .nils, .nilp, .nilp, .bool false, .int .i64 0, .bool false, .bool false, .nilp, .nilp, .int .i64 0, .bool false, .nilp, .nils, .nilp, .nilp, .bool false, .int .i64 0, .cplx .f64 0 0, .nilp, .nilp, .bool false, .bool false], [(0, 6), (6, 24), (30, 1), (31, 1), (32, 1), (33, 1), (34, 1)], none, none, none, false, none, false, false, false, [2]⟩ : Ty) (.node 211 (⟨false, true, 12, [.bool false, .bool false, .nilp, .nilp, .int .i64 0, .bool false, .nilp, .nils, .nilp, .nilp, .bool false, .int .i64 0], [(0, 1), (1, 1), (2, 1), (3, 1), (4, 1), (5, 1), (6, 1), (7, 1), (8, 1), (9, 1), (10, 2)], none, none, none, false, none, false, false, false, []⟩ : Ty) (.node 205 (⟨true, false, 1, [.nilp], [], none, none, none, false, none, true, false, false, []⟩ : Ty) (.node 203 (⟨true, false, 1, [.nilp], [], none, none, none, false, none, true, false, false, []⟩ : Ty) (.node 201 (⟨true, false, 1, [.nilp], [], none, none, none, false, none, true, false, false, []⟩ : Ty) .leaf .leaf) (.node 204 (⟨true, false, 1, [.nilp], [], none, none, none, false, none, true, false, false, []⟩ : Ty) .leaf .leaf)) (.node 206 (⟨true, false, 1, [.nilp], [], none, none, none, false, none, true, false, false, []⟩ : Ty) .leaf (.node 207 (⟨true, false, 1, [.nilp], [], none, none, none, false, none, true, false, false, []⟩ : Ty) .leaf .leaf))) (.node 216 (⟨true, false, 1, [.nilp], [], none, none, none, false, none, true, false, false, []⟩ : Ty) (.node 212 (⟨false, true, 24, [.bool false, .bool false, .nilp, .nilp, .int .i64 0, .bool false, .nilp, .nils, .nilp, .nilp, .bool false, .int .i64 0, .bool false, .bool false, .nilp, .nilp, .int .i64 0, .bool false, .nilp, .nils, .nilp, .nilp, .bool false, .int .i64 0], [(0, 12), (12, 12)], none, some (2, 211), none, false, none, false, false, false, []⟩ : Ty) .leaf .leaf) .leaf)) (.node 235 (⟨false, true, 17, [.nilp, .int .i64 0, .int .i64 0, .int .i64 0, .int .i64 0, .bool false, .nils, .int .i64 0, .bool false, .bool false, .int .i64 0, .bool false, .nils, .int .i64 0, .nils, .nils, .nils], [(0, 1), (1, 6), (7, 1), (8, 1), (9, 1), (10, 1), (11, 1), (12, 1), (13, 4)], none, none, none, false, none, false, false, false, []⟩ : Ty) (.node 233 (⟨true, false, 1, [.nils], [], some 4, none, none, false, none, false, false, false, []⟩ : Ty) .leaf .leaf) (.node 252 (⟨false, true, 2, [.nilp, .bool false], [(0, 1), (1, 1)], none, none, none, false, none, false, false, false, []⟩ : Ty) (.node 249 (⟨true, false, 1, [.nilp], [], none, none, none, false, none, true, false, false, []⟩ : Ty) .leaf .leaf) (.node 261 (⟨false, true, 5, [.int .i64 0, .nils, .nilmap, .int .i64 0, .int .i64 0], [(0, 1), (1, 1), (2, 1), (3, 2)], none, none, none, false, none, false, false, false, []⟩ : Ty) (.node 258 (⟨true, false, 1, [.nils], [], some 314, none, none, false, none, false, false, false, []⟩ : Ty) .leaf (.node 259 (⟨true, false, 1, [.nilmap], [], none, none, none, false, some (.int .i64 0), false, false, false, []⟩ : Ty) .leaf .leaf)) (.node 263 (⟨false, true, 16, [.int .i64 0, .bool false, .int .i64 0, .int .i64 0, .int .i64 0, .int .i64 0, .nils, .nils, .int .i64 0, .int .i64 0, .bool false, .int .i64 0, .int .i64 0, .int .i64 0, .int .i64 0, .nils], [(0, 1), (1, 1), (2, 13), (15, 1)], none, none, none, false, none, false, false, false, []⟩ : Ty) .leaf (.node 265 (⟨false, true, 1, [.nilp], [(0, 1)], none, none, none, false, none, false, false, false, []⟩ : Ty) .leaf .leaf)))))) (.node 285 (⟨false, true, 5, [.int .i64 0, .int .i64 0, .bool false, .bool false, .int .i64 0], [(0, 1), (1, 1), (2, 2), (4, 1)], none, none, none, false, none, false, false, false, []⟩ : Ty) (.node 280 (⟨false, true, 44, [.int .i64 0, .int .i64 0, .int .i64 0, .int .i64 0, .bool false, .nils, .int .i64 0, .int .i64 0, .int .i64 0, .int .i64 0, .nils, .nils, .int .i64 0, .int .i64 0, .bool false, .int .i64 0, .int .i64 0, .int .i64 0, .int .i64 0, .int .i64 0, .int .i64 0, .bool false, .bool false, .bool false, .int .i64 0, .int .i64 0, .int .i64 0, .int .i64 0, .nils, .nils, .int .i64 0, .int .i64 0, .bool false, .int .i64 0, .int .i64 0, .int .i64 0, .int .i64 0, .nils, .nils, .bool false, .bool false, .bool false, .bool false, .bool false], [(0, 6), (6, 13), (19, 2), (21, 1), (22, 1), (23, 1), (24, 13), (37, 2), (39, 1), (40, 4)], none, none, none, false, none, false, false, false, []⟩ : Ty) (.node 273 (⟨false, true, 3, [.int .i64 0, .int .i64 0, .nilmap], [(0, 1), (1, 1), (2, 1)], none, none, none, false, none, false, false, false, []⟩ : Ty) (.node 268 (⟨false, true, 3, [.nils, .int .i64 0, .int .i64 0], [(0, 1), (1, 1), (2, 1)], none, none, none, false, none, false, false, false, []⟩ : Ty) .leaf (.node 270 (⟨false, true, 4, [.int .i64 0, .nilmap, .nilmap, .nils], [(0, 1), (1, 1), (2, 1), (3, 1)], none, none, none, false, none, false, false, false, []⟩ : Ty) .leaf .leaf)) (.node 274 (⟨false, true, 4, [.int .i64 0, .int .i64 0, .int .i64 0, .int .i64 0], [(0, 1), (1, 1), (2, 1), (3, 1)], none, some (4, 3), none, false, none, false, false, false, []⟩ : Ty) .leaf (.node 278 (⟨false, true, 4, [.bool false, .bool false, .bool false, .bool false], [(0, 1), (1, 1), (2, 1), (3, 1)], none, some (4, 4), none, false, none, false, false, false, []⟩ : Ty) (.node 277 (⟨false, true, 2, [.nils, .nils], [(0, 1), (1, 1)], none, none, none, false, none, false, false, false, []⟩ : Ty) .leaf .leaf) .leaf))) .leaf) (.node 316 (⟨false, true, 6, [.int .i64 0, .int .i64 0, .int .i64 0, .int .i64 0, .int .i64 0, .int .i64 0], [(0, 1), (1, 1), (2, 1), (3, 1), (4, 1), (5, 1)], none, none, none, false, none, false, false, true, []⟩ : Ty) (.node 304 (⟨false, true, 2, [.nils, .int .i64 0], [(0, 1), (1, 1)], none, none, none, false, none, false, false, false, []⟩ : Ty) .leaf (.node 314 (⟨false, true, 17, [.int .i64 0, .int .i64 0, .int .i64 0, .bool false, .bool false, .int .i64 0, .cplx .f64 0 0, .bool false, .str [], .int .i64 0, .int .i64 0, .int .i64 0, .bool false, .str [], .int .i64 0, .int .i64 0, .int .i64 0], [(0, 1), (1, 5), (6, 1), (7, 10)], none, none, none, false, none, false, false, false, [2]⟩ : Ty) .leaf .leaf)) (.node 403 (⟨true, false, 1, [.nils], [], some 72, none, none, false, none, false, false, false, []⟩ : Ty) .leaf (.node 437 (⟨true, false, 1, [.int .u64 0], [], none, none, some .u64, false, none, false, false, false, []⟩ : Ty) .leaf .leaf)))))))
noncomputable def FNl : Tr (Func × List (Nat × Sch)) := (.node 170 (Tryz.f170, []) (.node 90 (Tryz.f90, []) (.node 56 (Tryz.f56, []) (.node 37 (Tryz.f37, []) (.node 23 (Tryz.f23, []) (.node 12 (Tryz.f12, []) (.node 11 (Tryz.f11, []) (.node 7 (Tryz.f7, ct7) .leaf .leaf) .leaf) (.node 17 (Tryz.f17, []) (.node 14 (Tryz.f14, []) (.node 13 (Tryz.f13, []) .leaf .leaf) (.node 15 (Tryz.f15, []) .leaf .leaf)) (.node 22 (Tryz.f22, []) .leaf .leaf))) (.node 25 (Tryz.f25, []) (.node 24 (Tryz.f24, []) .leaf .leaf) (.node 28 (Tryz.f28, ct28) (.node 26 (Tryz.f26, ct26) .leaf (.node 27 (Tryz.f27, []) .leaf .leaf)) (.node 31 (Tryz.f31, []) (.node 29 (Tryz.f29, ct29) .leaf (.node 30 (Tryz.f30, ct30) .leaf .leaf)) (.node 33 (Tryz.f33, []) .leaf .leaf))))) (.node 42 (Tryz.f42, []) (.node 40 (Tryz.f40, []) .leaf (.node 41 (Tryz.f41, []) .leaf .leaf)) (.node 48 (Tryz.f48, ct48) (.node 46 (Tryz.f46, []) (.node 44 (Tryz.f44, []) (.node 43 (Tryz.f43, []) .leaf .leaf) (.node 45 (Tryz.f45, []) .leaf .leaf)) (.node 47 (Tryz.f47, ct47) .leaf .leaf)) (.node 53 (Tryz.f53, []) (.node 50 (Tryz.f50, []) (.node 49 (Tryz.f49, []) .leaf .leaf) (.node 51 (Tryz.f51, []) .leaf .leaf)) (.node 54 (Tryz.f54, ct54) .leaf .leaf))))) (.node 66 (Tryz.f66, []) (.node 57 (Tryz.f57, []) .leaf (.node 64 (Tryz.f64, ct64) .leaf .leaf)) (.node 70 (Tryz.f70, []) (.node 67 (Tryz.f67, []) .leaf (.node 68 (Tryz.f68, ct68) .leaf (.node 69 (Tryz.f69, []) .leaf .leaf))) (.node 73 (Tryz.f73, []) (.node 71 (Tryz.f71, ct71) .leaf (.node 72 (Tryz.f72, []) .leaf .leaf)) (.node 88 (Tryz.f88, []) (.node 74 (Tryz.f74, []) .leaf .leaf) (.node 89 (Tryz.f89, []) .leaf .leaf)))))) (.node 141 (Tryz.f141, ct141) (.node 112 (Tryz.f112, ct112) (.node 103 (Tryz.f103, ct103) (.node 98 (Tryz.f98, []) (.node 92 (Tryz.f92, ct92) (.node 91 (Tryz.f91, []) .leaf .leaf) (.node 96 (Tryz.f96, []) (.node 95 (Tryz.f95, []) .leaf .leaf) (.node 97 (Tryz.f97, []) .leaf .leaf))) (.node 100 (Tryz.f100, []) (.node 99 (Tryz.f99, []) .leaf .leaf) (.node 101 (Tryz.f101, []) .leaf (.node 102 (Tryz.f102, []) .leaf .leaf)))) (.node 106 (Tryz.f106, ct106) (.node 105 (Tryz.f105, []) (.node 104 (Tryz.f104, []) .leaf .leaf) .leaf) (.node 108 (Tryz.f108, ct108) (.node 107 (Tryz.f107, ct107) .leaf .leaf) (.node 111 (Tryz.f111, ct111) .leaf .leaf)))) (.node 136 (Tryz.f136, []) (.node 130 (Tryz.f130, []) (.node 114 (Tryz.f114, []) (.node 113 (Tryz.f113, ct113) .leaf .leaf) (.node 129 (Tryz.f129, []) .leaf .leaf)) (.node 133 (Tryz.f133, []) (.node 132 (Tryz.f132, ct132) .leaf .leaf) (.node 134 (Tryz.f134, []) .leaf .leaf))) (.node 137 (Tryz.f137, []) .leaf (.node 139 (Tryz.f139, ct139) (.node 138 (Tryz.f138, []) .leaf .leaf) (.node 140 (Tryz.f140, ct140) .leaf .leaf))))) (.node 154 (Tryz.f154, []) (.node 145 (Tryz.f145, []) (.node 142 (Tryz.f142, []) .leaf (.node 143 (Tryz.f143, []) .leaf (.node 144 (Tryz.f144, []) .leaf .leaf))) (.node 149 (Tryz.f149, []) (.node 148 (Tryz.f148, []) (.node 147 (Tryz.f147, []) .leaf .leaf) .leaf) (.node 150 (Tryz.f150, []) .leaf (.node 151 (Tryz.f151, []) .leaf (.node 153 (Tryz.f153, ct153) .leaf .leaf))))) (.node 164 (Tryz.f164, []) (.node 162 (Tryz.f162, ct162) .leaf (.node 163 (Tryz.f163, []) .leaf .leaf)) (.node 165 (Tryz.f165, []) .leaf (.node 168 (Tryz.f168, []) (.node 166 (Tryz.f166, ct166) .leaf .leaf) .leaf)))))) (.node 353 (Tryz.f353, []) (.node 238 (Tryz.f238, []) (.node 201 (Tryz.f201, []) (.node 173 (Tryz.f173, []) (.node 172 (Tryz.f172, []) .leaf .leaf) (.node 175 (Tryz.f175, []) (.node 174 (Tryz.f174, ct174) .leaf .leaf) (.node 183 (Tryz.f183, ct183) (.node 176 (Tryz.f176, ct176) .leaf .leaf) (.node 193 (Tryz.f193, []) .leaf (.node 200 (Tryz.f200, []) .leaf .leaf))))) (.node 217 (Tryz.f217, []) (.node 204 (Tryz.f204, []) (.node 202 (Tryz.f202, []) .leaf (.node 203 (Tryz.f203, []) .leaf .leaf)) (.node 215 (Tryz.f215, []) (.node 214 (Tryz.f214, ct214) .leaf .leaf) (.node 216 (Tryz.f216, []) .leaf .leaf))) (.node 232 (Tryz.f232, []) (.node 230 (Tryz.f230, ct230) .leaf (.node 231 (Tryz.f231, []) .leaf .leaf)) (.node 234 (Tryz.f234, []) (.node 233 (Tryz.f233, ct233) .leaf .leaf) (.node 235 (Tryz.f235, []) .leaf .leaf))))) (.node 268 (Tryz.f268, ct268) (.node 262 (Tryz.f262, []) (.node 258 (Tryz.f258, []) (.node 245 (Tryz.f245, []) .leaf (.node 257 (Tryz.f257, []) .leaf .leaf)) (.node 260 (Tryz.f260, []) (.node 259 (Tryz.f259, []) .leaf .leaf) (.node 261 (Tryz.f261, ct261) .leaf .leaf))) (.node 265 (Tryz.f265, []) (.node 264 (Tryz.f264, []) (.node 263 (Tryz.f263, ct263) .leaf .leaf) .leaf) (.node 266 (Tryz.f266, []) .leaf (.node 267 (Tryz.f267, []) .leaf .leaf)))) (.node 302 (Tryz.f302, ct302) (.node 290 (Tryz.f290, []) (.node 270 (Tryz.f270, []) (.node 269 (Tryz.f269, []) .leaf .leaf) (.node 286 (Tryz.f286, ct286) .leaf .leaf)) (.node 301 (Tryz.f301, []) (.node 291 (Tryz.f291, ct291) .leaf (.node 297 (Tryz.f297, []) .leaf .leaf)) .leaf)) (.node 326 (Tryz.f326, ct326) (.node 319 (Tryz.f319, []) (.node 316 (Tryz.f316, []) .leaf .leaf) (.node 325 (Tryz.f325, []) .leaf .leaf)) (.node 349 (Tryz.f349, []) .leaf (.node 352 (Tryz.f352, []) .leaf .leaf)))))) (.node 366 (Tryz.f366, []) .leaf (.node 368 (Tryz.f368, []) .leaf .leaf))))
def XXl (f : Nat) : Nat := match f with | 374 => 1 | 365 => 2 | _ => 0
set_option maxRecDepth 1000000
theorem ok7 : fnOk Tryz.f7 ct7 = true := by kernel_rfl
theorem ok11 : fnOk Tryz.f11 [] = true := by kernel_rfl
theorem ok12 : fnOk Tryz.f12 [] = true := by kernel_rfl
theorem ok13 : fnOk Tryz.f13 [] = true := by kernel_rfl
theorem ok14 : fnOk Tryz.f14 [] = true := by kernel_rfl
theorem ok15 : fnOk Tryz.f15 [] = true := by kernel_rfl
theorem ok17 : fnOk Tryz.f17 [] = true := by kernel_rfl
theorem ok22 : fnOk Tryz.f22 [] = true := by kernel_rfl
theorem ok23 : fnOk Tryz.f23 [] = true := by kernel_rfl
theorem ok24 : fnOk Tryz.f24 [] = true := by kernel_rfl
theorem ok25 : fnOk Tryz.f25 [] = true := by kernel_rfl
theorem ok26 : fnOk Tryz.f26 ct26 = true := by kernel_rfl
theorem ok27 : fnOk Tryz.f27 [] = true := by kernel_rfl
theorem ok28 : fnOk Tryz.f28 ct28 = true := by kernel_rfl
theorem ok29 : fnOk Tryz.f29 ct29 = true := by kernel_rfl
theorem ok30 : fnOk Tryz.f30 ct30 = true := by kernel_rfl
theorem ok31 : fnOk Tryz.f31 [] = true := by kernel_rfl
theorem ok33 : fnOk Tryz.f33 [] = true := by kernel_rfl
theorem ok37 : fnOk Tryz.f37 [] = true := by kernel_rfl
theorem ok40 : fnOk Tryz.f40 [] = true := by kernel_rfl
theorem ok41 : fnOk Tryz.f41 [] = true := by kernel_rfl
theorem ok42 : fnOk Tryz.f42 [] = true := by kernel_rfl
theorem ok43 : fnOk Tryz.f43 [] = true := by kernel_rfl
theorem ok44 : fnOk Tryz.f44 [] = true := by kernel_rfl
theorem ok45 : fnOk Tryz.f45 [] = true := by kernel_rfl
theorem ok46 : fnOk Tryz.f46 [] = true := by kernel_rfl
theorem ok47 : fnOk Tryz.f47 ct47 = true := by kernel_rfl
theorem ok48 : fnOk Tryz.f48 ct48 = true := by kernel_rfl
theorem ok49 : fnOk Tryz.f49 [] = true := by kernel_rfl
theorem ok50 : fnOk Tryz.f50 [] = true := by kernel_rfl
theorem ok51 : fnOk Tryz.f51 [] = true := by kernel_rfl
theorem ok53 : fnOk Tryz.f53 [] = true := by kernel_rfl
theorem ok54 : fnOk Tryz.f54 ct54 = true := by kernel_rfl
theorem ok56 : fnOk Tryz.f56 [] = true := by kernel_rfl
theorem ok57 : fnOk Tryz.f57 [] = true := by kernel_rfl
theorem ok64 : fnOk Tryz.f64 ct64 = true := by kernel_rfl
theorem ok66 : fnOk Tryz.f66 [] = true := by kernel_rfl
theorem ok67 : fnOk Tryz.f67 [] = true := by kernel_rfl
theorem ok68 : fnOk Tryz.f68 ct68 = true := by kernel_rfl
theorem ok69 : fnOk Tryz.f69 [] = true := by kernel_rfl
theorem ok70 : fnOk Tryz.f70 [] = true := by kernel_rfl
theorem ok71 : fnOk Tryz.f71 ct71 = true := by kernel_rfl
theorem ok72 : fnOk Tryz.f72 [] = true := by kernel_rfl
theorem ok73 : fnOk Tryz.f73 [] = true := by kernel_rfl
theorem ok74 : fnOk Tryz.f74 [] = true := by kernel_rfl
theorem ok88 : fnOk Tryz.f88 [] = true := by kernel_rfl
theorem ok89 : fnOk Tryz.f89 [] = true := by kernel_rfl
theorem ok90 : fnOk Tryz.f90 [] = true := by kernel_rfl
theorem ok91 : fnOk Tryz.f91 [] = true := by kernel_rfl
theorem ok92 : fnOk Tryz.f92 ct92 = true := by kernel_rfl
theorem ok95 : fnOk Tryz.f95 [] = true := by kernel_rfl
theorem ok96 : fnOk Tryz.f96 [] = true := by kernel_rfl
theorem ok97 : fnOk Tryz.f97 [] = true := by kernel_rfl
theorem ok98 : fnOk Tryz.f98 [] = true := by kernel_rfl
theorem ok99 : fnOk Tryz.f99 [] = true := by kernel_rfl
theorem ok100 : fnOk Tryz.f100 [] = true := by kernel_rfl
theorem ok101 : fnOk Tryz.f101 [] = true := by kernel_rfl
theorem ok102 : fnOk Tryz.f102 [] = true := by kernel_rfl
theorem ok103 : fnOk Tryz.f103 ct103 = true := by kernel_rfl
theorem ok104 : fnOk Tryz.f104 [] = true := by kernel_rfl
theorem ok105 : fnOk Tryz.f105 [] = true := by kernel_rfl
theorem ok106 : fnOk Tryz.f106 ct106 = true := by kernel_rfl
theorem ok107 : fnOk Tryz.f107 ct107 = true := by kernel_rfl
theorem ok108 : fnOk Tryz.f108 ct108 = true := by kernel_rfl
theorem ok111 : fnOk Tryz.f111 ct111 = true := by kernel_rfl
theorem ok112 : fnOk Tryz.f112 ct112 = true := by kernel_rfl
theorem ok113 : fnOk Tryz.f113 ct113 = true := by kernel_rfl
theorem ok114 : fnOk Tryz.f114 [] = true := by kernel_rfl
theorem ok129 : fnOk Tryz.f129 [] = true := by kernel_rfl
theorem ok130 : fnOk Tryz.f130 [] = true := by kernel_rfl
theorem ok132 : fnOk Tryz.f132 ct132 = true := by kernel_rfl
theorem ok133 : fnOk Tryz.f133 [] = true := by kernel_rfl
theorem ok134 : fnOk Tryz.f134 [] = true := by kernel_rfl
theorem ok136 : fnOk Tryz.f136 [] = true := by kernel_rfl
theorem ok137 : fnOk Tryz.f137 [] = true := by kernel_rfl
theorem ok138 : fnOk Tryz.f138 [] = true := by kernel_rfl
theorem ok139 : fnOk Tryz.f139 ct139 = true := by kernel_rfl
theorem ok140 : fnOk Tryz.f140 ct140 = true := by kernel_rfl
theorem ok141 : fnOk Tryz.f141 ct141 = true := by kernel_rfl
theorem ok142 : fnOk Tryz.f142 [] = true := by kernel_rfl
theorem ok143 : fnOk Tryz.f143 [] = true := by kernel_rfl
theorem ok144 : fnOk Tryz.f144 [] = true := by kernel_rfl
theorem ok145 : fnOk Tryz.f145 [] = true := by kernel_rfl
theorem ok147 : fnOk Tryz.f147 [] = true := by kernel_rfl
theorem ok148 : fnOk Tryz.f148 [] = true := by kernel_rfl
theorem ok149 : fnOk Tryz.f149 [] = true := by kernel_rfl
theorem ok150 : fnOk Tryz.f150 [] = true := by kernel_rfl
theorem ok151 : fnOk Tryz.f151 [] = true := by kernel_rfl
theorem ok153 : fnOk Tryz.f153 ct153 = true := by kernel_rfl
theorem ok154 : fnOk Tryz.f154 [] = true := by kernel_rfl
theorem ok162 : fnOk Tryz.f162 ct162 = true := by kernel_rfl
theorem ok163 : fnOk Tryz.f163 [] = true := by kernel_rfl
theorem ok164 : fnOk Tryz.f164 [] = true := by kernel_rfl
theorem ok165 : fnOk Tryz.f165 [] = true := by kernel_rfl
theorem ok166 : fnOk Tryz.f166 ct166 = true := by kernel_rfl
theorem ok168 : fnOk Tryz.f168 [] = true := by kernel_rfl
theorem ok170 : fnOk Tryz.f170 [] = true := by kernel_rfl
theorem ok172 : fnOk Tryz.f172 [] = true := by kernel_rfl
theorem ok173 : fnOk Tryz.f173 [] = true := by kernel_rfl
theorem ok174 : fnOk Tryz.f174 ct174 = true := by kernel_rfl
theorem ok175 : fnOk Tryz.f175 [] = true := by kernel_rfl
theorem ok176 : fnOk Tryz.f176 ct176 = true := by kernel_rfl
theorem ok183 : fnOk Tryz.f183 ct183 = true := by kernel_rfl
theorem ok193 : fnOk Tryz.f193 [] = true := by kernel_rfl
theorem ok200 : fnOk Tryz.f200 [] = true := by kernel_rfl
theorem ok201 : fnOk Tryz.f201 [] = true := by kernel_rfl
theorem ok202 : fnOk Tryz.f202 [] = true := by kernel_rfl
theorem ok203 : fnOk Tryz.f203 [] = true := by kernel_rfl
theorem ok204 : fnOk Tryz.f204 [] = true := by kernel_rfl
theorem ok214 : fnOk Tryz.f214 ct214 = true := by kernel_rfl
theorem ok215 : fnOk Tryz.f215 [] = true := by kernel_rfl
theorem ok216 : fnOk Tryz.f216 [] = true := by kernel_rfl
theorem ok217 : fnOk Tryz.f217 [] = true := by kernel_rfl
theorem ok230 : fnOk Tryz.f230 ct230 = true := by kernel_rfl
theorem ok231 : fnOk Tryz.f231 [] = true := by kernel_rfl
theorem ok232 : fnOk Tryz.f232 [] = true := by kernel_rfl
theorem ok233 : fnOk Tryz.f233 ct233 = true := by kernel_rfl
theorem ok234 : fnOk Tryz.f234 [] = true := by kernel_rfl
theorem ok235 : fnOk Tryz.f235 [] = true := by kernel_rfl
theorem ok238 : fnOk Tryz.f238 [] = true := by kernel_rfl
theorem ok245 : fnOk Tryz.f245 [] = true := by kernel_rfl
theorem ok257 : fnOk Tryz.f257 [] = true := by kernel_rfl
theorem ok258 : fnOk Tryz.f258 [] = true := by kernel_rfl
theorem ok259 : fnOk Tryz.f259 [] = true := by kernel_rfl
theorem ok260 : fnOk Tryz.f260 [] = true := by kernel_rfl
theorem ok261 : fnOk Tryz.f261 ct261 = true := by kernel_rfl
theorem ok262 : fnOk Tryz.f262 [] = true := by kernel_rfl
theorem ok263 : fnOk Tryz.f263 ct263 = true := by kernel_rfl
theorem ok264 : fnOk Tryz.f264 [] = true := by kernel_rfl
theorem ok265 : fnOk Tryz.f265 [] = true := by kernel_rfl
theorem ok266 : fnOk Tryz.f266 [] = true := by kernel_rfl
theorem ok267 : fnOk Tryz.f267 [] = true := by kernel_rfl
theorem ok268 : fnOk Tryz.f268 ct268 = true := by kernel_rfl
theorem ok269 : fnOk Tryz.f269 [] = true := by kernel_rfl
theorem ok270 : fnOk Tryz.f270 [] = true := by kernel_rfl
theorem ok286 : fnOk Tryz.f286 ct286 = true := by kernel_rfl
theorem ok290 : fnOk Tryz.f290 [] = true := by kernel_rfl
theorem ok291 : fnOk Tryz.f291 ct291 = true := by kernel_rfl
theorem ok297 : fnOk Tryz.f297 [] = true := by kernel_rfl
theorem ok301 : fnOk Tryz.f301 [] = true := by kernel_rfl
theorem ok302 : fnOk Tryz.f302 ct302 = true := by kernel_rfl
theorem ok316 : fnOk Tryz.f316 [] = true := by kernel_rfl
theorem ok319 : fnOk Tryz.f319 [] = true := by kernel_rfl
theorem ok325 : fnOk Tryz.f325 [] = true := by kernel_rfl
theorem ok326 : fnOk Tryz.f326 ct326 = true := by kernel_rfl
theorem ok349 : fnOk Tryz.f349 [] = true := by kernel_rfl
theorem ok352 : fnOk Tryz.f352 [] = true := by kernel_rfl
theorem ok353 : fnOk Tryz.f353 [] = true := by kernel_rfl
theorem ok366 : fnOk Tryz.f366 [] = true := by kernel_rfl
theorem ok368 : fnOk Tryz.f368 [] = true := by kernel_rfl
theorem tt_ok : allT (tyOk Tryz.prog) TTl = true := by kernel_rfl
theorem tok : TOk Tryz.prog (seek · TTl) := fun t i h => allT_seek tt_ok h
theorem fn_all : allF Tryz.prog FNl := ⟨⟨Tryz.func170, ok170⟩, ⟨⟨Tryz.func90, ok90⟩, ⟨⟨Tryz.func56, ok56⟩, ⟨⟨Tryz.func37, ok37⟩, ⟨⟨Tryz.func23, ok23⟩, ⟨⟨Tryz.func12, ok12⟩, ⟨⟨Tryz.func11, ok11⟩, ⟨⟨Tryz.func7, ok7⟩, trivial, trivial⟩, trivial⟩, ⟨⟨Tryz.func17, ok17⟩, ⟨⟨Tryz.func14, ok14⟩, ⟨⟨Tryz.func13, ok13⟩, trivial, trivial⟩, ⟨⟨Tryz.func15, ok15⟩, trivial, trivial⟩⟩, ⟨⟨Tryz.func22, ok22⟩, trivial, trivial⟩⟩⟩, ⟨⟨Tryz.func25, ok25⟩, ⟨⟨Tryz.func24, ok24⟩, trivial, trivial⟩, ⟨⟨Tryz.func28, ok28⟩, ⟨⟨Tryz.func26, ok26⟩, trivial, ⟨⟨Tryz.func27, ok27⟩, trivial, trivial⟩⟩, ⟨⟨Tryz.func31, ok31⟩, ⟨⟨Tryz.func29, ok29⟩, trivial, ⟨⟨Tryz.func30, ok30⟩, trivial, trivial⟩⟩, ⟨⟨Tryz.func33, ok33⟩, trivial, trivial⟩⟩⟩⟩⟩, ⟨⟨Tryz.func42, ok42⟩, ⟨⟨Tryz.func40, ok40⟩, trivial, ⟨⟨Tryz.func41, ok41⟩, trivial, trivial⟩⟩, ⟨⟨Tryz.func48, ok48⟩, ⟨⟨Tryz.func46, ok46⟩, ⟨⟨Tryz.func44, ok44⟩, ⟨⟨Tryz.func43, ok43⟩, trivial, trivial⟩, ⟨⟨Tryz.func45, ok45⟩, trivial, trivial⟩⟩, ⟨⟨Tryz.func47, ok47⟩, trivial, trivial⟩⟩, ⟨⟨Tryz.func53, ok53⟩, ⟨⟨Tryz.func50, ok50⟩, ⟨⟨Tryz.func49, ok49⟩, trivial, trivial⟩, ⟨⟨Tryz.func51, ok51⟩, trivial, trivial⟩⟩, ⟨⟨Tryz.func54, ok54⟩, trivial, trivial⟩⟩⟩⟩⟩, ⟨⟨Tryz.func66, ok66⟩, ⟨⟨Tryz.func57, ok57⟩, trivial, ⟨⟨Tryz.func64, ok64⟩, trivial, trivial⟩⟩, ⟨⟨Tryz.func70, ok70⟩, ⟨⟨Tryz.func67, ok67⟩, trivial, ⟨⟨Tryz.func68, ok68⟩, trivial, ⟨⟨Tryz.func69, ok69⟩, trivial, trivial⟩⟩⟩, ⟨⟨Tryz.func73, ok73⟩, ⟨⟨Tryz.func71, ok71⟩, trivial, ⟨⟨Tryz.func72, ok72⟩, trivial, trivial⟩⟩, ⟨⟨Tryz.func88, ok88⟩, ⟨⟨Tryz.func74, ok74⟩, trivial, trivial⟩, ⟨⟨Tryz.func89, ok89⟩, trivial, trivial⟩⟩⟩⟩⟩⟩, ⟨⟨Tryz.func141, ok141⟩, ⟨⟨Tryz.func112, ok112⟩, ⟨⟨Tryz.func103, ok103⟩, ⟨⟨Tryz.func98, ok98⟩, ⟨⟨Tryz.func92, ok92⟩, ⟨⟨Tryz.func91, ok91⟩, trivial, trivial⟩, ⟨⟨Tryz.func96, ok96⟩, ⟨⟨Tryz.func95, ok95⟩, trivial, trivial⟩, ⟨⟨Tryz.func97, ok97⟩, trivial, trivial⟩⟩⟩, ⟨⟨Tryz.func100, ok100⟩, ⟨⟨Tryz.func99, ok99⟩, trivial, trivial⟩, ⟨⟨Tryz.func101, ok101⟩, trivial, ⟨⟨Tryz.func102, ok102⟩, trivial, trivial⟩⟩⟩⟩, ⟨⟨Tryz.func106, ok106⟩, ⟨⟨Tryz.func105, ok105⟩, ⟨⟨Tryz.func104, ok104⟩, trivial, trivial⟩, trivial⟩, ⟨⟨Tryz.func108, ok108⟩, ⟨⟨Tryz.func107, ok107⟩, trivial, trivial⟩, ⟨⟨Tryz.func111, ok111⟩, trivial, trivial⟩⟩⟩⟩, ⟨⟨Tryz.func136, ok136⟩, ⟨⟨Tryz.func130, ok130⟩, ⟨⟨Tryz.func114, ok114⟩, ⟨⟨Tryz.func113, ok113⟩, trivial, trivial⟩, ⟨⟨Tryz.func129, ok129⟩, trivial, trivial⟩⟩, ⟨⟨Tryz.func133, ok133⟩, ⟨⟨Tryz.func132, ok132⟩, trivial, trivial⟩, ⟨⟨Tryz.func134, ok134⟩, trivial, trivial⟩⟩⟩, ⟨⟨Tryz.func137, ok137⟩, trivial, ⟨⟨Tryz.func139, ok139⟩, ⟨⟨Tryz.func138, ok138⟩, trivial, trivial⟩, ⟨⟨Tryz.func140, ok140⟩, trivial, trivial⟩⟩⟩⟩⟩, ⟨⟨Tryz.func154, ok154⟩, ⟨⟨Tryz.func145, ok145⟩, ⟨⟨Tryz.func142, ok142⟩, trivial, ⟨⟨Tryz.func143, ok143⟩, trivial, ⟨⟨Tryz.func144, ok144⟩, trivial, trivial⟩⟩⟩, ⟨⟨Tryz.func149, ok149⟩, ⟨⟨Tryz.func148, ok148⟩, ⟨⟨Tryz.func147, ok147⟩, trivial, trivial⟩, trivial⟩, ⟨⟨Tryz.func150, ok150⟩, trivial, ⟨⟨Tryz.func151, ok151⟩, trivial, ⟨⟨Tryz.func153, ok153⟩, trivial, trivial⟩⟩⟩⟩⟩, ⟨⟨Tryz.func164, ok164⟩, ⟨⟨Tryz.func162, ok162⟩, trivial, ⟨⟨Tryz.func163, ok163⟩, trivial, trivial⟩⟩, ⟨⟨Tryz.func165, ok165⟩, trivial, ⟨⟨Tryz.func168, ok168⟩, ⟨⟨Tryz.func166, ok166⟩, trivial, trivial⟩, trivial⟩⟩⟩⟩⟩⟩, ⟨⟨Tryz.func353, ok353⟩, ⟨⟨Tryz.func238, ok238⟩, ⟨⟨Tryz.func201, ok201⟩, ⟨⟨Tryz.func173, ok173⟩, ⟨⟨Tryz.func172, ok172⟩, trivial, trivial⟩, ⟨⟨Tryz.func175, ok175⟩, ⟨⟨Tryz.func174, ok174⟩, trivial, trivial⟩, ⟨⟨Tryz.func183, ok183⟩, ⟨⟨Tryz.func176, ok176⟩, trivial, trivial⟩, ⟨⟨Tryz.func193, ok193⟩, trivial, ⟨⟨Tryz.func200, ok200⟩, trivial, trivial⟩⟩⟩⟩⟩, ⟨⟨Tryz.func217, ok217⟩, ⟨⟨Tryz.func204, ok204⟩, ⟨⟨Tryz.func202, ok202⟩, trivial, ⟨⟨Tryz.func203, ok203⟩, trivial, trivial⟩⟩, ⟨⟨Tryz.func215, ok215⟩, ⟨⟨Tryz.func214, ok214⟩, trivial, trivial⟩, ⟨⟨Tryz.func216, ok216⟩, trivial, trivial⟩⟩⟩, ⟨⟨Tryz.func232, ok232⟩, ⟨⟨Tryz.func230, ok230⟩, trivial, ⟨⟨Tryz.func231, ok231⟩, trivial, trivial⟩⟩, ⟨⟨Tryz.func234, ok234⟩, ⟨⟨Tryz.func233, ok233⟩, trivial, trivial⟩, ⟨⟨Tryz.func235, ok235⟩, trivial, trivial⟩⟩⟩⟩⟩, ⟨⟨Tryz.func268, ok268⟩, ⟨⟨Tryz.func262, ok262⟩, ⟨⟨Tryz.func258, ok258⟩, ⟨⟨Tryz.func245, ok245⟩, trivial, ⟨⟨Tryz.func257, ok257⟩, trivial, trivial⟩⟩, ⟨⟨Tryz.func260, ok260⟩, ⟨⟨Tryz.func259, ok259⟩, trivial, trivial⟩, ⟨⟨Tryz.func261, ok261⟩, trivial, trivial⟩⟩⟩, ⟨⟨Tryz.func265, ok265⟩, ⟨⟨Tryz.func264, ok264⟩, ⟨⟨Tryz.func263, ok263⟩, trivial, trivial⟩, trivial⟩, ⟨⟨Tryz.func266, ok266⟩, trivial, ⟨⟨Tryz.func267, ok267⟩, trivial, trivial⟩⟩⟩⟩, ⟨⟨Tryz.func302, ok302⟩, ⟨⟨Tryz.func290, ok290⟩, ⟨⟨Tryz.func270, ok270⟩, ⟨⟨Tryz.func269, ok269⟩, trivial, trivial⟩, ⟨⟨Tryz.func286, ok286⟩, trivial, trivial⟩⟩, ⟨⟨Tryz.func301, ok301⟩, ⟨⟨Tryz.func291, ok291⟩, trivial, ⟨⟨Tryz.func297, ok297⟩, trivial, trivial⟩⟩, trivial⟩⟩, ⟨⟨Tryz.func326, ok326⟩, ⟨⟨Tryz.func319, ok319⟩, ⟨⟨Tryz.func316, ok316⟩, trivial, trivial⟩, ⟨⟨Tryz.func325, ok325⟩, trivial, trivial⟩⟩, ⟨⟨Tryz.func349, ok349⟩, trivial, ⟨⟨Tryz.func352, ok352⟩, trivial, trivial⟩⟩⟩⟩⟩⟩, ⟨⟨Tryz.func366, ok366⟩, trivial, ⟨⟨Tryz.func368, ok368⟩, trivial, trivial⟩⟩⟩⟩
theorem fok : FOk Tryz.prog (seek · FNl) := fok_of fn_all
theorem xok : XOk Tryz.prog XXl := by
  intro f
  refine ⟨fun h => ?_, fun h => ?_⟩
  · have e : f = 374 := by unfold XXl at h; split at h <;> simp_all
    subst e
    exact ⟨Tryz.f374, Tryz.func374, by kernel_rfl, by kernel_rfl, by kernel_rfl, by kernel_rfl⟩
  · have e : f = 365 := by unfold XXl at h; split at h <;> simp_all
    subst e
    exact ⟨Tryz.f365, Tryz.func365, by kernel_rfl, by kernel_rfl, by kernel_rfl, by kernel_rfl⟩
theorem mixed : Tryz.prog.follows .mixedOrders = true := by kernel_rfl
end Go.Proofs.YthjbkngecgbioaaGreatDoor.Xe
