/- A part of the proofs of the seat YtngjadgglbkjlaaDoor: no statement of the seat stands here. -/
import Derived.Shelf.Sort.Plain
import Derived.Shelf.Slices.CompactI
import Derived.Ground.Names2Prog
import Derived.Shelf.Strings.SlTrimAscii
import Derived.Test.YtngjadgglbkjlaaDoorProg
import Derived.KernelRfl
import Derived.Test.YtngjadgglbkjlaaDoorAbsD
section
set_option linter.unusedVariables false
set_option linter.unusedSimpArgs false
set_option linter.unusedSectionVars false
namespace Go.Proofs.YtngjadgglbkjlaaDoor.Med
open Go Go.Abs
/-- - -/
def tabB : Abs.Rows := intRows .u8 [0, 1, 28, 2, 29, 14, 24, 3, 30, 22, 20, 15, 25, 17, 4, 8, 31, 27, 13, 23, 21, 19, 16, 7, 26, 12, 18, 6, 11, 5, 10, 9]
instance tables : Globs where
 view := fun g => match g with
  | 0 => some ([.int .u8], tabB)
  | _ => none
def H : Hints where
 mode := fun f j => match f, j with
  | 66, 0 => .inout
  | 67, 0 => .own
  | _, _ => .bor
 mv := fun f t => match f, t with
  | 5, 2 => true
  | 8, 2 => true
  | 8, 3 => true
  | 10, 2 => true
  | 12, 0 => true
  | 20, 2 => true
  | 21, 2 => true
  | 22, 30 => true
  | 23, 2 => true
  | 24, 2 => true
  | 25, 4 => true
  | 26, 4 => true
  | 26, 5 => true
  | 27, 4 => true
  | 27, 5 => true
  | 28, 2 => true
  | 29, 4 => true
  | 30, 4 => true
  | 31, 4 => true
  | 32, 4 => true
  | 34, 4 => true
  | 35, 4 => true
  | 37, 4 => true
  | 39, 3 => true
  | 39, 12 => true
  | 39, 32 => true
  | 39, 56 => true
  | 39, 57 => true
  | 40, 2 => true
  | 40, 3 => true
  | 42, 4 => true
  | 48, 6 => true
  | 49, 4 => true
  | 54, 2 => true
  | 55, 6 => true
  | 56, 2 => true
  | 57, 6 => true
  | 58, 2 => true
  | 59, 2 => true
  | 60, 4 => true
  | 61, 2 => true
  | 62, 4 => true
  | 63, 2 => true
  | 64, 4 => true
  | 65, 2 => true
  | 68, 4 => true
  | 68, 5 => true
  | 69, 4 => true
  | 70, 4 => true
  | 71, 4 => true
  | 72, 6 => true
  | 79, 2 => true
  | 79, 3 => true
  | 80, 4 => true
  | 80, 5 => true
  | 81, 2 => true
  | 83, 4 => true
  | 85, 2 => true
  | 90, 4 => true
  | 91, 4 => true
  | 94, 4 => true
  | 100, 4 => true
  | 101, 2 => true
  | 101, 3 => true
  | 126, 2 => true
  | 127, 2 => true
  | _, _ => false
 nx := fun f t => match f, t with
  | 54, 3 => [2, 3]
  | 54, 75 => [2, 3]
  | _, _ => []
 al := fun f t => match f, t with
  | _, _ => false
 keep := fun f => match f with
  | 54 => true
  | _ => false
 live := fun f i => match f, i with
  | 3, 8 => some [2, 4, 6, 7, 8, 9, 10, 11, 12, 13, 14, 15, 85]
  | 3, 10 => some [2, 6, 7, 8, 9, 10, 11, 12, 13, 14, 15, 85]
  | 4, 9 => some [2, 4, 6, 7, 8, 9, 10, 11, 12, 13, 14, 87]
  | 5, 13 => some [2, 5, 7, 8, 9, 10, 11, 13, 14, 15, 43, 46, 47, 66, 94]
  | 6, 3 => some [0, 2, 3, 25]
  | 6, 5 => some [0, 3, 17, 18, 25]
  | 10, 2 => some [0, 2, 5, 6, 7, 15]
  | 11, 4 => some [0, 1, 4, 5, 6, 8, 10, 76, 77]
  | 11, 9 => some [0, 1, 4, 5, 6, 8, 10, 11, 29, 30, 76, 77]
  | 11, 14 => some [0, 1, 4, 5, 6, 8, 10, 11, 12, 29, 30, 33, 34, 35, 36, 76, 77]
  | 19, 6 => some [1, 4, 5, 21, 22, 23, 24, 58, 59]
  | 22, 3 => some [0, 2, 3, 31]
  | 23, 5 => some [0, 2, 9, 10, 11, 46]
  | 23, 11 => some [0, 2, 4, 9, 10, 11, 21, 46]
  | 23, 15 => some [0, 2, 4, 9, 10, 11, 46]
  | 24, 6 => some [0, 2, 3, 13, 14, 15, 129]
  | 24, 21 => some [0, 2, 3, 5, 13, 14, 15, 41, 42, 43, 44, 129]
  | 24, 33 => some [0, 2, 3, 5, 13, 14, 15, 74, 75, 76, 77, 129]
  | 24, 39 => some [0, 2, 3, 5, 8, 9, 13, 14, 15, 74, 75, 76, 77, 129]
  | 27, 12 => some [2, 3, 8, 9, 10, 46, 47]
  | 29, 3 => some [1, 2, 4, 24, 25]
  | 30, 3 => some [2, 3, 4, 5, 34, 135, 137, 138, 139]
  | 30, 6 => some [2, 3, 5, 6, 34, 35, 36, 37, 38, 138, 139]
  | 30, 13 => some [2, 3, 5, 6, 34, 48, 50, 51, 52, 53, 138, 139]
  | 30, 25 => some [2, 3, 5, 6, 13, 15, 34, 48, 63, 67, 71, 138, 139]
  | 30, 29 => some [2, 3, 5, 6, 13, 15, 34, 48, 63, 67, 71, 94, 95, 96, 138, 139]
  | 31, 3 => some [2, 4, 5, 6, 17, 18, 19, 20, 45, 46]
  | 32, 5 => some [0, 1, 4, 12, 13, 26, 27]
  | 33, 3 => some [0, 3, 5, 6, 19]
  | 36, 8 => some [0, 1, 4, 125, 126]
  | 36, 11 => some [0, 4, 6, 125, 126]
  | 36, 21 => some [0, 4, 7, 43, 125, 126]
  | 36, 22 => some [0, 4, 7, 49, 125, 126]
  | 36, 24 => some [0, 4, 7, 58, 125, 126]
  | 36, 26 => some [0, 4, 7, 67, 125, 126]
  | 36, 28 => some [0, 4, 7, 76, 125, 126]
  | 36, 32 => some [0, 4, 7, 125, 126]
  | 36, 37 => some [0, 4, 7, 8, 125, 126]
  | 36, 41 => some [7, 8, 9, 125, 126]
  | 38, 3 => some [0, 1, 2, 6, 63, 64, 65]
  | 39, 6 => some [2, 3, 4, 5, 58]
  | 39, 11 => some [2, 3, 4, 5, 58]
  | 39, 19 => some [2, 3, 4, 8, 58]
  | 40, 3 => some [0, 2, 3, 4, 5, 49]
  | 40, 8 => some [0, 2, 3, 4, 5, 6, 7, 18, 19, 20, 49]
  | 41, 2 => some [0, 2, 3, 4, 72]
  | 41, 15 => some [0, 2, 3, 4, 5, 6, 7, 41, 72]
  | 41, 18 => some [0, 2, 3, 4, 6, 7, 72]
  | 44, 3 => some [0, 3, 5, 6, 15]
  | 46, 2 => some [1, 2, 4, 5, 11, 12, 42, 43]
  | 47, 2 => some [2, 3, 4, 5, 45, 46]
  | 49, 2 => some [0, 1, 4, 7, 8, 18, 19]
  | 50, 2 => some [0, 1, 2, 6, 11, 12, 13, 39, 40, 41]
  | 51, 4 => some [3, 5, 15, 16, 17, 18, 52]
  | 51, 10 => some [3, 5, 7, 8, 15, 16, 17, 18, 24, 26, 27, 52]
  | 53, 2 => some [0, 1, 4, 9, 10, 11, 36, 37]
  | 54, 3 => some [0, 3, 11, 12, 13, 79]
  | 54, 9 => some [0, 3, 6, 11, 12, 13, 23, 24, 79]
  | 54, 16 => some [0, 3, 6, 11, 12, 13, 45, 46, 47, 79]
  | 58, 5 => some [1, 2, 11, 12, 13, 14, 80]
  | 58, 17 => some [1, 2, 35, 36, 37, 38, 80]
  | 58, 23 => some [1, 2, 5, 6, 35, 36, 37, 38, 80]
  | 62, 5 => some [2, 4, 6, 7, 25, 26, 27, 28, 78, 79]
  | 62, 15 => some [2, 4, 7, 10, 52, 53, 54, 55, 78, 79]
  | 63, 3 => some [1, 2, 24]
  | 67, 5 => some [0, 2, 3, 61]
  | 67, 11 => some [0, 3, 4, 5, 26, 27, 28, 61]
  | 75, 2 => some [0, 1, 25, 26]
  | 82, 2 => some [0, 2, 6, 49]
  | 82, 8 => some [0, 2, 3, 4, 6, 9, 49]
  | 84, 3 => some [0, 1, 4, 43, 44]
  | 84, 4 => some [0, 1, 4, 21, 43, 44]
  | 84, 6 => some [0, 1, 4, 43, 44]
  | 86, 5 => some [6, 7, 20, 60, 61]
  | 86, 13 => some [1, 2, 4, 5, 38, 60, 61]
  | 87, 3 => some [0, 2, 3, 6, 7, 8, 18]
  | 92, 2 => some [0, 1, 2, 3, 8, 9, 134, 135, 136, 137]
  | 92, 12 => some [0, 1, 2, 3, 8, 9, 10, 134, 135, 136, 137]
  | 92, 17 => some [0, 1, 2, 3, 8, 9, 10, 11, 12, 134, 135, 136, 137]
  | 92, 20 => some [0, 1, 2, 3, 8, 9, 10, 11, 134, 135, 136, 137]
  | 92, 21 => some [0, 1, 2, 3, 8, 9, 10, 11, 87, 134, 135, 136, 137]
  | 92, 24 => some [0, 1, 2, 3, 8, 9, 10, 11, 134, 135, 136, 137]
  | 94, 2 => some [0, 1, 4, 7, 8, 19, 20]
  | 100, 3 => some [1, 5, 6, 18, 19]
  | 101, 7 => some [0, 2, 3, 4, 5, 6, 94]
  | 101, 13 => some [0, 2, 3, 4, 5, 6, 7, 94]
  | 101, 15 => some [0, 2, 3, 4, 5, 6, 7, 8, 53, 94]
  | 102, 3 => some [0, 3, 4, 69]
  | 102, 7 => some [0, 3, 4, 5, 69]
  | 104, 1 => some [0, 1, 17, 18]
  | 105, 1 => some [0, 1, 23, 24]
  | 106, 2 => some [0, 2, 3, 4, 21]
  | 107, 1 => some [0, 1, 16, 17]
  | 108, 1 => some [0, 1, 22, 23]
  | 109, 1 => some [0, 1, 23, 24]
  | 110, 1 => some [0, 1, 34, 35]
  | 110, 6 => some [0, 1, 5, 6, 34, 35]
  | 113, 1 => some [0, 1, 2, 6, 49, 50, 51]
  | 113, 5 => some [0, 1, 2, 6, 7, 49, 50, 51]
  | 113, 7 => some [0, 1, 2, 6, 7, 49, 50, 51]
  | 114, 4 => some [0, 6, 7, 8, 9, 56, 57, 58]
  | 114, 10 => some [0, 6, 7, 10, 56, 57, 58]
  | 115, 5 => some [0, 1, 6, 7, 8, 9, 65, 66, 67]
  | 115, 10 => some [0, 1, 6, 7, 8, 9, 10, 65, 66, 67]
  | 116, 11 => some [6, 7, 9, 11, 57, 58, 59]
  | 117, 2 => some [0, 6, 7, 32, 33, 34]
  | 118, 3 => some [0, 1, 2, 6, 7, 8, 133, 134, 135]
  | 118, 6 => some [0, 1, 2, 6, 7, 8, 133, 134, 135]
  | 118, 19 => some [0, 1, 2, 6, 7, 8, 9, 133, 134, 135]
  | 118, 25 => some [0, 1, 2, 6, 7, 8, 133, 134, 135]
  | 118, 28 => some [0, 1, 2, 6, 7, 8, 10, 133, 134, 135]
  | 120, 3 => some [0, 1, 9, 10, 84, 85, 86, 87]
  | 120, 4 => some [0, 1, 9, 10, 84, 85, 86, 87]
  | 120, 8 => some [0, 1, 9, 10, 84, 85, 86, 87]
  | 121, 3 => some [0, 1, 10, 11, 168, 169, 170, 171]
  | 121, 7 => some [0, 1, 10, 11, 168, 169, 170, 171]
  | 121, 18 => some [0, 1, 10, 11, 168, 169, 170, 171]
  | 121, 19 => some [0, 1, 10, 11, 168, 169, 170, 171]
  | 121, 23 => some [0, 1, 10, 11, 168, 169, 170, 171]
  | 122, 3 => some [0, 2, 19]
  | 123, 3 => some [0, 2, 25]
  | 123, 6 => some [0, 2, 25]
  | 127, 3 => some [0, 3, 4, 56]
  | 127, 9 => some [0, 3, 4, 5, 56]
  | 129, 1 => some [0, 2, 3, 10, 19]
  | 131, 12 => some [0, 4, 5, 6, 51]
  | 131, 19 => some [0, 2, 3, 4, 5, 51]
  | 133, 1 => some [0, 2, 3, 8, 76, 77, 78, 79]
  | 133, 6 => some [0, 2, 3, 8, 9, 76, 77, 78, 79]
  | 138, 19 => some [0, 2, 3, 5, 8, 10, 117]
  | 138, 26 => some [0, 2, 3, 5, 8, 10, 11, 117]
  | 138, 33 => some [2, 3, 5, 10, 11, 12, 117]
  | 139, 1 => some [0, 1, 4, 160, 187, 188]
  | 139, 5 => some [4, 175, 187, 188]
  | 139, 19 => some [0, 4, 7, 8, 9, 187, 188]
  | 139, 27 => some [0, 4, 7, 8, 9, 187, 188]
  | 139, 29 => some [0, 7, 8, 9, 12, 187, 188]
  | 139, 51 => some [0, 4, 7, 8, 9, 14, 15, 187, 188]
  | 139, 54 => some [0, 4, 7, 8, 9, 14, 15, 139, 187, 188]
  | 139, 56 => some [0, 4, 7, 8, 9, 14, 15, 16, 187, 188]
  | 142, 1 => some [0, 2, 3, 17]
  | _, _ => none
 len := fun f => match f with
  | 5 => 95
  | 8 => 24
  | 10 => 16
  | 12 => 13
  | 20 => 66
  | 21 => 17
  | 22 => 32
  | 23 => 47
  | 24 => 130
  | 25 => 66
  | 26 => 21
  | 27 => 48
  | 28 => 8
  | 29 => 26
  | 30 => 140
  | 31 => 47
  | 32 => 28
  | 34 => 11
  | 35 => 14
  | 37 => 14
  | 39 => 59
  | 40 => 50
  | 42 => 10
  | 48 => 18
  | 49 => 20
  | 54 => 80
  | 55 => 25
  | 56 => 27
  | 57 => 18
  | 58 => 81
  | 59 => 16
  | 60 => 18
  | 61 => 10
  | 62 => 80
  | 63 => 25
  | 64 => 9
  | 65 => 6
  | 68 => 22
  | 69 => 18
  | 70 => 11
  | 71 => 23
  | 72 => 22
  | 79 => 42
  | 80 => 37
  | 81 => 16
  | 83 => 10
  | 85 => 7
  | 90 => 18
  | 91 => 18
  | 94 => 21
  | 100 => 20
  | 101 => 95
  | 126 => 12
  | 127 => 57
  | _ => 0

end Go.Proofs.YtngjadgglbkjlaaDoor.Med
end
section
set_option linter.unusedVariables false
set_option linter.unusedSimpArgs false
set_option linter.unusedSectionVars false
/-
 DERIVED: THE SHELF's CONTRACTS AT THIS DUMP, IN PLAIN WORDS (tools/lay-plain.mjs out of 'ShelfS.lean', which tools/lay-shelf.mjs wrote): THE SAME DECLARATIONS UNDER THE SAME NAMES: 'import', 'namespace', 'open', 'def', 'theorem' AND NOTHING ELSE: no command of the shelf's: FOR A HAND-IN. Each laying: the table of numbers ('.._ren') and one theorem, a field a fact of the dump's own or the kernel's comparison; each contract: ONE APPLICATION.
-/
namespace Go.Proofs
open Go.Shelf
def Tryd.lays160_ren : Go.Shelf.Ren := ⟨fun | 160 => 84 | 232 => 105 | 231 => 104 | 227 => 106 | 234 => 108 | 233 => 107 | 236 => 110 | 235 => 109 | 228 => 128 | 271 => 131 | 151 => 130 | 197 => 129 | 120 => 140 | 152 => 139 | 260 => 138 | 137 => 42 | 119 => 142 | 224 => 143 | 225 => 144 | 217 => 83 | 266 => 103 | n => n, fun | 9 => 9 | 4 => 4 | 3 => 3 | 5 => 5 | 117 => 149 | 116 => 148 | 0 => 0 | 124 => 152 | 21 => 21 | 105 => 167 | 46 => 109 | 119 => 179 | 139 => 182 | 138 => 181 | n => n, fun | 3 => 2 | 4 => 3 | n => n⟩
theorem Tryd.lays160 : Go.Proofs.Lays.n160 Tryd.prog Tryd.lays160_ren := {
 mixed := by kernel_rfl
 f119 := Tryd.func142.trans (congrArg some (by kernel_rfl))
 f120 := Tryd.func140.trans (congrArg some (by kernel_rfl))
 f137 := Tryd.func42.trans (congrArg some (by kernel_rfl))
 f151 := Tryd.func130.trans (congrArg some (by kernel_rfl))
 f152 := Tryd.func139.trans (congrArg some (by kernel_rfl))
 f160 := Tryd.func84.trans (congrArg some (by kernel_rfl))
 f197 := Tryd.func129.trans (congrArg some (by kernel_rfl))
 f217 := Tryd.func83.trans (congrArg some (by kernel_rfl))
 f224 := Tryd.func143.trans (congrArg some (by kernel_rfl))
 f225 := Tryd.func144.trans (congrArg some (by kernel_rfl))
 f227 := Tryd.func106.trans (congrArg some (by kernel_rfl))
 f228 := Tryd.func128.trans (congrArg some (by kernel_rfl))
 f231 := Tryd.func104.trans (congrArg some (by kernel_rfl))
 f232 := Tryd.func105.trans (congrArg some (by kernel_rfl))
 f233 := Tryd.func107.trans (congrArg some (by kernel_rfl))
 f234 := Tryd.func108.trans (congrArg some (by kernel_rfl))
 f235 := Tryd.func109.trans (congrArg some (by kernel_rfl))
 f236 := Tryd.func110.trans (congrArg some (by kernel_rfl))
 f260 := Tryd.func138.trans (congrArg some (by kernel_rfl))
 f266 := Tryd.func103.trans (congrArg some (by kernel_rfl))
 f271 := Tryd.func131.trans (congrArg some (by kernel_rfl))
 t0 := Tryd.underlying0
 a0 := Tryd.isAgg0
 z0 := Tryd.sizeOf0
 v0 := Tryd.zeroValue0
 t3 := Tryd.underlying3
 a3 := Tryd.isAgg3
 z3 := Tryd.sizeOf3
 v3 := Tryd.zeroValue3
 t4 := Tryd.underlying4
 a4 := Tryd.isAgg4
 z4 := Tryd.sizeOf4
 v4 := Tryd.zeroValue4
 t5 := Tryd.underlying5
 a5 := Tryd.isAgg5
 z5 := Tryd.sizeOf5
 v5 := Tryd.zeroValue5
 t9 := Tryd.underlying9
 a9 := Tryd.isAgg9
 z9 := Tryd.sizeOf9
 v9 := Tryd.zeroValue9
 t21 := Tryd.underlying21
 a21 := Tryd.isAgg21
 z21 := Tryd.sizeOf21
 v21 := Tryd.zeroValue21
 t46 := Tryd.underlying109
 a46 := Tryd.isAgg109
 z46 := Tryd.sizeOf109
 v46 := Tryd.zeroValue109
 t105 := Tryd.underlying167
 a105 := Tryd.isAgg167
 z105 := Tryd.sizeOf167
 v105 := Tryd.zeroValue167
 t116 := Tryd.underlying148
 a116 := Tryd.isAgg148
 z116 := Tryd.sizeOf148
 t117 := Tryd.underlying149
 a117 := Tryd.isAgg149
 z117 := Tryd.sizeOf149
 v117 := Tryd.zeroValue149
 t119 := Tryd.underlying179
 a119 := Tryd.isAgg179
 z119 := Tryd.sizeOf179
 t124 := Tryd.underlying152
 a124 := Tryd.isAgg152
 z124 := Tryd.sizeOf152
 v124 := Tryd.zeroValue152
 t138 := Tryd.underlying181
 a138 := Tryd.isAgg181
 z138 := Tryd.sizeOf181
 v138 := Tryd.zeroValue181
 t139 := Tryd.underlying182
 a139 := Tryd.isAgg182
 z139 := Tryd.sizeOf182
 v139 := Tryd.zeroValue182
 g3 := by kernel_rfl
 g4 := by kernel_rfl }
def Tryd.lays189_ren : Go.Shelf.Ren := ⟨fun | 189 => 66 | 125 => 93 | 257 => 92 | 128 => 122 | 129 => 123 | 294 => 113 | 295 => 114 | 296 => 115 | 297 => 116 | 298 => 117 | 299 => 118 | 216 => 119 | 300 => 120 | 301 => 121 | 328 => 133 | 329 => 134 | 330 => 135 | 331 => 136 | 332 => 137 | 215 => 111 | 343 => 141 | n => n, fun | 28 => 22 | 3 => 3 | 46 => 109 | 0 => 0 | 51 => 137 | 53 => 140 | 4 => 4 | 183 => 155 | 182 => 154 | 131 => 159 | 5 => 5 | 9 => 9 | 218 => 170 | 222 => 174 | 228 => 177 | 229 => 105 | n => n, fun | n => n⟩
theorem Tryd.lays189 : Go.Proofs.Lays.n189 Tryd.prog Tryd.lays189_ren := {
 mixed := by kernel_rfl
 f125 := Tryd.func93.trans (congrArg some (by kernel_rfl))
 f128 := Tryd.func122.trans (congrArg some (by kernel_rfl))
 f129 := Tryd.func123.trans (congrArg some (by kernel_rfl))
 f189 := Tryd.func66.trans (congrArg some (by kernel_rfl))
 f215 := Tryd.func111.trans (congrArg some (by kernel_rfl))
 f216 := Tryd.func119.trans (congrArg some (by kernel_rfl))
 f257 := Tryd.func92.trans (congrArg some (by kernel_rfl))
 f294 := Tryd.func113.trans (congrArg some (by kernel_rfl))
 f295 := Tryd.func114.trans (congrArg some (by kernel_rfl))
 f296 := Tryd.func115.trans (congrArg some (by kernel_rfl))
 f297 := Tryd.func116.trans (congrArg some (by kernel_rfl))
 f298 := Tryd.func117.trans (congrArg some (by kernel_rfl))
 f299 := Tryd.func118.trans (congrArg some (by kernel_rfl))
 f300 := Tryd.func120.trans (congrArg some (by kernel_rfl))
 f301 := Tryd.func121.trans (congrArg some (by kernel_rfl))
 f328 := Tryd.func133.trans (congrArg some (by kernel_rfl))
 f329 := Tryd.func134.trans (congrArg some (by kernel_rfl))
 f330 := Tryd.func135.trans (congrArg some (by kernel_rfl))
 f331 := Tryd.func136.trans (congrArg some (by kernel_rfl))
 f332 := Tryd.func137.trans (congrArg some (by kernel_rfl))
 f343 := Tryd.func141.trans (congrArg some (by kernel_rfl))
 t0 := Tryd.underlying0
 a0 := Tryd.isAgg0
 z0 := Tryd.sizeOf0
 v0 := Tryd.zeroValue0
 t3 := Tryd.underlying3
 a3 := Tryd.isAgg3
 z3 := Tryd.sizeOf3
 v3 := Tryd.zeroValue3
 t4 := Tryd.underlying4
 a4 := Tryd.isAgg4
 z4 := Tryd.sizeOf4
 v4 := Tryd.zeroValue4
 t5 := Tryd.underlying5
 a5 := Tryd.isAgg5
 z5 := Tryd.sizeOf5
 v5 := Tryd.zeroValue5
 t9 := Tryd.underlying9
 a9 := Tryd.isAgg9
 z9 := Tryd.sizeOf9
 v9 := Tryd.zeroValue9
 t28 := Tryd.underlying22
 a28 := Tryd.isAgg22
 z28 := Tryd.sizeOf22
 v28 := Tryd.zeroValue22
 t46 := Tryd.underlying109
 a46 := Tryd.isAgg109
 z46 := Tryd.sizeOf109
 v46 := Tryd.zeroValue109
 t51 := Tryd.underlying137
 a51 := Tryd.isAgg137
 z51 := Tryd.sizeOf137
 v51 := Tryd.zeroValue137
 t53 := Tryd.underlying140
 a53 := Tryd.isAgg140
 z53 := Tryd.sizeOf140
 v53 := Tryd.zeroValue140
 t131 := Tryd.underlying159
 a131 := Tryd.isAgg159
 z131 := Tryd.sizeOf159
 v131 := Tryd.zeroValue159
 t182 := Tryd.underlying154
 a182 := Tryd.isAgg154
 z182 := Tryd.sizeOf154
 v182 := Tryd.zeroValue154
 t183 := Tryd.underlying155
 a183 := Tryd.isAgg155
 z183 := Tryd.sizeOf155
 v183 := Tryd.zeroValue155
 t218 := Tryd.underlying170
 a218 := Tryd.isAgg170
 z218 := Tryd.sizeOf170
 v218 := Tryd.zeroValue170
 t222 := Tryd.underlying174
 a222 := Tryd.isAgg174
 z222 := Tryd.sizeOf174
 v222 := Tryd.zeroValue174
 t228 := Tryd.underlying177
 a228 := Tryd.isAgg177
 z228 := Tryd.sizeOf177
 v228 := Tryd.zeroValue177
 t229 := Tryd.underlying105
 a229 := Tryd.isAgg105
 z229 := Tryd.sizeOf105
 v229 := Tryd.zeroValue105 }
def Tryd.laysNm220_ren : Go.Shelf.Ren := ⟨fun | 20 => 67 | n => n, fun | 22 => 22 | 3 => 3 | 4 => 4 | 0 => 0 | n => n, fun | n => n⟩
theorem Tryd.laysNm220 : Go.Proofs.Lays2.n20 Tryd.prog Tryd.laysNm220_ren := {
 mixed := by kernel_rfl
 f20 := Tryd.func67.trans (congrArg some (by kernel_rfl))
 t0 := Tryd.underlying0
 a0 := Tryd.isAgg0
 z0 := Tryd.sizeOf0
 v0 := Tryd.zeroValue0
 t3 := Tryd.underlying3
 a3 := Tryd.isAgg3
 z3 := Tryd.sizeOf3
 v3 := Tryd.zeroValue3
 t4 := Tryd.underlying4
 a4 := Tryd.isAgg4
 z4 := Tryd.sizeOf4
 v4 := Tryd.zeroValue4
 t22 := Tryd.underlying22
 a22 := Tryd.isAgg22
 z22 := Tryd.sizeOf22
 v22 := Tryd.zeroValue22
 i3 := by kernel_rfl }
end Go.Proofs
end
section
set_option linter.unusedVariables false
set_option linter.unusedSimpArgs false
set_option linter.unusedSectionVars false
namespace Go.Proofs.YtngjadgglbkjlaaDoor.Med
open Go Go.Abs Go.Proofs
theorem trim84 (s c : ByteArray) (h : trimOk s c = true) : FnOk Tryd.prog 84 [.f (.lit (.string s)), .f (.lit (.string c))] (.f (.lit (.string (trimB s c)))) [.undef, .undef] := by
 simp only [trimOk, Bool.and_eq_true, decide_eq_true_eq, List.all_eq_true] at h
 obtain ⟨h1, h2, h3⟩ := h
 obtain ⟨body, hb⟩ : ∃ b, Tryd.f84.body = some b := ⟨_, rfl⟩
 refine fnOk_lit (P := Tryd.prog) Tryd.func84 (by kernel_rfl) hb (xs := [.string s, .string c]) rfl fun w => ?_
 exact Any.strings_Trim_laid Tryd.lays160 (by kernel_rfl) s c w (by omega) (by omega) fun j b e => h3 b (List.mem_of_getElem? e)
theorem sort66 (rows : Abs.Rows) (h : sortOk rows = true) : FnOk Tryd.prog 66 [.own [.int .i64] rows] (.tup []) [.own [.int .i64] (sortR rows)] := by
 obtain ⟨body, hb⟩ : ∃ b, Tryd.f66.body = some b := ⟨_, rfl⟩
 exact sortInt_ok (P := Tryd.prog) Tryd.func66 (by kernel_rfl) hb (fun blk off cap zs w hH hblk hsz => Any.slices_Sort_int Tryd.lays189 blk off cap zs w hH hblk hsz) rows h
theorem comp67 (rows : Abs.Rows) (h : sortOk rows = true) : FnOk Tryd.prog 67 [.own [.int .i64] rows] (.own [.int .i64] (compR rows)) [.undef] := by
 obtain ⟨body, hb⟩ : ∃ b, Tryd.f67.body = some b := ⟨_, rfl⟩
 exact compactInt_ok (P := Tryd.prog) Tryd.func67 (by kernel_rfl) hb (fun blk off cap zs w hH hsz hcap => Any.slices_Compact_int Tryd.laysNm220 blk off cap zs w hH hsz hcap) rows h
end Go.Proofs.YtngjadgglbkjlaaDoor.Med
end
