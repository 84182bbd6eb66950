/- A part of the proofs of the seat YtngjadgglbkjlaaDoor: no statement of the seat stands here. -/
import Derived.Shelf.Strings.Repeat
import Derived.Ground.Names2Prog
import Derived.Test.YtngjadgglbkjlaaDoorProg
import Derived.KernelRfl
import Derived.Test.YtngjadgglbkjlaaDoorAbsC
section
set_option linter.unusedVariables false
set_option linter.unusedSimpArgs false
set_option linter.unusedSectionVars false
namespace Go.Proofs.YtngjadgglbkjlaaDoor.Med
open Go Go.Abs
/-- the table of math/bits.TrailingZeros16 and 32 -/
def tabB : Abs.Rows := intRows .u8 [0, 1, 28, 2, 29, 14, 24, 3, 30, 22, 20, 15, 25, 17, 4, 8, 31, 27, 13, 23, 21, 19, 16, 7, 26, 12, 18, 6, 11, 5, 10, 9]
instance tables : Globs where
  view := fun g => match g with
    | 0 => some ([.int .u8], tabB)
    | _ => none
def H : Hints where
  mode := fun f j => match f, j with
    | _, _ => .bor
  mv := fun f t => match f, t with
    | 3, 2 => true
    | 4, 2 => true
    | 5, 2 => true
    | 6, 2 => true
    | 7, 4 => true
    | 7, 5 => true
    | 7, 6 => true
    | 8, 2 => true
    | 8, 3 => true
    | 9, 2 => true
    | 10, 2 => true
    | 11, 4 => true
    | 11, 5 => true
    | 12, 0 => true
    | 13, 2 => true
    | 14, 4 => true
    | 14, 5 => true
    | 15, 4 => true
    | 15, 5 => true
    | 16, 2 => true
    | 17, 4 => true
    | 18, 2 => true
    | 19, 4 => true
    | 20, 2 => true
    | 21, 2 => true
    | 23, 2 => true
    | 24, 2 => true
    | 25, 4 => true
    | 26, 4 => true
    | 26, 5 => true
    | 27, 4 => true
    | 27, 5 => true
    | 28, 2 => true
    | 29, 4 => true
    | 30, 4 => true
    | 31, 4 => true
    | 32, 4 => true
    | 33, 2 => true
    | 34, 4 => true
    | 35, 4 => true
    | 36, 4 => true
    | 37, 4 => true
    | 38, 6 => true
    | 39, 3 => true
    | 40, 2 => true
    | 40, 3 => true
    | 41, 3 => true
    | 42, 4 => true
    | 43, 4 => true
    | 44, 2 => true
    | 45, 4 => true
    | 46, 4 => true
    | 46, 5 => true
    | 47, 4 => true
    | 48, 6 => true
    | 49, 4 => true
    | 50, 6 => true
    | 51, 2 => true
    | 52, 4 => true
    | 53, 4 => true
    | 54, 2 => true
    | 55, 6 => true
    | 56, 2 => true
    | 57, 6 => true
    | 58, 2 => true
    | 59, 2 => true
    | 60, 4 => true
    | 61, 2 => true
    | 62, 4 => true
    | 63, 2 => true
    | 64, 4 => true
    | 65, 2 => true
    | 67, 2 => true
    | 68, 4 => true
    | 68, 5 => true
    | 69, 4 => true
    | 70, 4 => true
    | 71, 4 => true
    | 72, 6 => true
    | 73, 4 => true
    | 73, 5 => true
    | 74, 4 => true
    | 76, 4 => true
    | 76, 5 => true
    | 77, 2 => true
    | 78, 2 => true
    | 79, 2 => true
    | 79, 3 => true
    | 80, 4 => true
    | 80, 5 => true
    | 81, 2 => true
    | 82, 2 => true
    | 83, 4 => true
    | 84, 4 => true
    | 85, 2 => true
    | 86, 4 => true
    | 86, 5 => true
    | 87, 2 => true
    | 88, 4 => true
    | 89, 4 => true
    | 90, 4 => true
    | 91, 4 => true
    | 93, 2 => true
    | 94, 4 => true
    | 95, 4 => true
    | 95, 5 => true
    | 96, 4 => true
    | 96, 5 => true
    | 97, 4 => true
    | 100, 4 => true
    | 101, 2 => true
    | 101, 3 => true
    | 102, 2 => true
    | 104, 4 => true
    | 105, 4 => true
    | 106, 3 => true
    | 107, 4 => true
    | 108, 4 => true
    | 109, 4 => true
    | 110, 4 => true
    | 111, 2 => true
    | 112, 4 => true
    | 116, 6 => true
    | 116, 7 => true
    | 118, 6 => true
    | 119, 4 => true
    | 120, 8 => true
    | 121, 8 => true
    | 121, 9 => true
    | 122, 2 => true
    | 123, 2 => true
    | 126, 2 => true
    | 127, 2 => true
    | 128, 4 => true
    | 129, 2 => true
    | 129, 3 => true
    | 130, 4 => true
    | 131, 2 => true
    | 131, 3 => true
    | 134, 2 => true
    | 135, 2 => true
    | 136, 6 => true
    | 137, 10 => true
    | 138, 2 => true
    | 138, 3 => true
    | 139, 4 => true
    | 140, 2 => true
    | 141, 8 => true
    | 141, 9 => true
    | 142, 2 => true
    | 143, 2 => true
    | _, _ => false
  live := fun f i => match f, i with
    | 3, 8 => some [2, 4, 6, 7, 8, 9, 10, 11, 12, 13, 14, 15, 85]
    | 3, 10 => some [2, 6, 7, 8, 9, 10, 11, 12, 13, 14, 15, 85]
    | 4, 9 => some [2, 4, 6, 7, 8, 9, 10, 11, 12, 13, 14, 87]
    | 5, 13 => some [2, 5, 7, 8, 9, 10, 11, 13, 14, 15, 43, 46, 47, 66, 94]
    | 6, 3 => some [0, 2, 3, 25]
    | 6, 5 => some [0, 3, 17, 18, 25]
    | 10, 2 => some [0, 2, 5, 6, 7, 15]
    | 11, 4 => some [0, 1, 4, 5, 6, 8, 10, 76, 77]
    | 11, 9 => some [0, 1, 4, 5, 6, 8, 10, 11, 29, 30, 76, 77]
    | 11, 14 => some [0, 1, 4, 5, 6, 8, 10, 11, 12, 29, 30, 33, 34, 35, 36, 76, 77]
    | 19, 6 => some [1, 4, 5, 21, 22, 23, 24, 58, 59]
    | 22, 3 => some [0, 2, 3, 31]
    | 23, 5 => some [0, 2, 9, 10, 11, 46]
    | 23, 11 => some [0, 2, 4, 9, 10, 11, 21, 46]
    | 23, 15 => some [0, 2, 4, 9, 10, 11, 46]
    | 24, 6 => some [0, 2, 3, 13, 14, 15, 129]
    | 24, 21 => some [0, 2, 3, 5, 13, 14, 15, 41, 42, 43, 44, 129]
    | 24, 33 => some [0, 2, 3, 5, 13, 14, 15, 74, 75, 76, 77, 129]
    | 24, 39 => some [0, 2, 3, 5, 8, 9, 13, 14, 15, 74, 75, 76, 77, 129]
    | 27, 12 => some [2, 3, 8, 9, 10, 46, 47]
    | 29, 3 => some [1, 2, 4, 24, 25]
    | 30, 3 => some [2, 3, 4, 5, 34, 135, 137, 138, 139]
    | 30, 6 => some [2, 3, 5, 6, 34, 35, 36, 37, 38, 138, 139]
    | 30, 13 => some [2, 3, 5, 6, 34, 48, 50, 51, 52, 53, 138, 139]
    | 30, 25 => some [2, 3, 5, 6, 13, 15, 34, 48, 63, 67, 71, 138, 139]
    | 30, 29 => some [2, 3, 5, 6, 13, 15, 34, 48, 63, 67, 71, 94, 95, 96, 138, 139]
    | 31, 3 => some [2, 4, 5, 6, 17, 18, 19, 20, 45, 46]
    | 32, 5 => some [0, 1, 4, 12, 13, 26, 27]
    | 33, 3 => some [0, 3, 5, 6, 19]
    | 36, 8 => some [0, 1, 4, 125, 126]
    | 36, 11 => some [0, 4, 6, 125, 126]
    | 36, 21 => some [0, 4, 7, 43, 125, 126]
    | 36, 22 => some [0, 4, 7, 49, 125, 126]
    | 36, 24 => some [0, 4, 7, 58, 125, 126]
    | 36, 26 => some [0, 4, 7, 67, 125, 126]
    | 36, 28 => some [0, 4, 7, 76, 125, 126]
    | 36, 32 => some [0, 4, 7, 125, 126]
    | 36, 37 => some [0, 4, 7, 8, 125, 126]
    | 36, 41 => some [7, 8, 9, 125, 126]
    | 38, 3 => some [0, 1, 2, 6, 63, 64, 65]
    | 39, 6 => some [2, 3, 4, 5, 58]
    | 39, 11 => some [2, 3, 4, 5, 58]
    | 39, 19 => some [2, 3, 4, 8, 58]
    | 40, 3 => some [0, 2, 3, 4, 5, 49]
    | 40, 8 => some [0, 2, 3, 4, 5, 6, 7, 18, 19, 20, 49]
    | 41, 2 => some [0, 2, 3, 4, 72]
    | 41, 15 => some [0, 2, 3, 4, 5, 6, 7, 41, 72]
    | 41, 18 => some [0, 2, 3, 4, 6, 7, 72]
    | 44, 3 => some [0, 3, 5, 6, 15]
    | 46, 2 => some [1, 2, 4, 5, 11, 12, 42, 43]
    | 47, 2 => some [2, 3, 4, 5, 45, 46]
    | 49, 2 => some [0, 1, 4, 7, 8, 18, 19]
    | 50, 2 => some [0, 1, 2, 6, 11, 12, 13, 39, 40, 41]
    | 51, 4 => some [3, 5, 15, 16, 17, 18, 52]
    | 51, 10 => some [3, 5, 7, 8, 15, 16, 17, 18, 24, 26, 27, 52]
    | 53, 2 => some [0, 1, 4, 9, 10, 11, 36, 37]
    | 54, 3 => some [0, 3, 11, 12, 13, 79]
    | 54, 9 => some [0, 3, 6, 11, 12, 13, 23, 24, 79]
    | 54, 16 => some [0, 3, 6, 11, 12, 13, 45, 46, 47, 79]
    | 58, 5 => some [1, 2, 11, 12, 13, 14, 80]
    | 58, 17 => some [1, 2, 35, 36, 37, 38, 80]
    | 58, 23 => some [1, 2, 5, 6, 35, 36, 37, 38, 80]
    | 62, 5 => some [2, 4, 6, 7, 25, 26, 27, 28, 78, 79]
    | 62, 15 => some [2, 4, 7, 10, 52, 53, 54, 55, 78, 79]
    | 63, 3 => some [1, 2, 24]
    | 67, 5 => some [0, 2, 3, 61]
    | 67, 11 => some [0, 3, 4, 5, 26, 27, 28, 61]
    | 75, 2 => some [0, 1, 25, 26]
    | 82, 2 => some [0, 2, 6, 49]
    | 82, 8 => some [0, 2, 3, 4, 6, 9, 49]
    | 84, 3 => some [0, 1, 4, 43, 44]
    | 84, 4 => some [0, 1, 4, 21, 43, 44]
    | 84, 6 => some [0, 1, 4, 43, 44]
    | 86, 5 => some [6, 7, 20, 60, 61]
    | 86, 13 => some [1, 2, 4, 5, 38, 60, 61]
    | 87, 3 => some [0, 2, 3, 6, 7, 8, 18]
    | 92, 2 => some [0, 1, 2, 3, 8, 9, 134, 135, 136, 137]
    | 92, 12 => some [0, 1, 2, 3, 8, 9, 10, 134, 135, 136, 137]
    | 92, 17 => some [0, 1, 2, 3, 8, 9, 10, 11, 12, 134, 135, 136, 137]
    | 92, 20 => some [0, 1, 2, 3, 8, 9, 10, 11, 134, 135, 136, 137]
    | 92, 21 => some [0, 1, 2, 3, 8, 9, 10, 11, 87, 134, 135, 136, 137]
    | 92, 24 => some [0, 1, 2, 3, 8, 9, 10, 11, 134, 135, 136, 137]
    | 94, 2 => some [0, 1, 4, 7, 8, 19, 20]
    | 100, 3 => some [1, 5, 6, 18, 19]
    | 101, 7 => some [0, 2, 3, 4, 5, 6, 94]
    | 101, 13 => some [0, 2, 3, 4, 5, 6, 7, 94]
    | 101, 15 => some [0, 2, 3, 4, 5, 6, 7, 8, 53, 94]
    | 102, 3 => some [0, 3, 4, 69]
    | 102, 7 => some [0, 3, 4, 5, 69]
    | 104, 1 => some [0, 1, 17, 18]
    | 105, 1 => some [0, 1, 23, 24]
    | 106, 2 => some [0, 2, 3, 4, 21]
    | 107, 1 => some [0, 1, 16, 17]
    | 108, 1 => some [0, 1, 22, 23]
    | 109, 1 => some [0, 1, 23, 24]
    | 110, 1 => some [0, 1, 34, 35]
    | 110, 6 => some [0, 1, 5, 6, 34, 35]
    | 113, 1 => some [0, 1, 2, 6, 49, 50, 51]
    | 113, 5 => some [0, 1, 2, 6, 7, 49, 50, 51]
    | 113, 7 => some [0, 1, 2, 6, 7, 49, 50, 51]
    | 114, 4 => some [0, 6, 7, 8, 9, 56, 57, 58]
    | 114, 10 => some [0, 6, 7, 10, 56, 57, 58]
    | 115, 5 => some [0, 1, 6, 7, 8, 9, 65, 66, 67]
    | 115, 10 => some [0, 1, 6, 7, 8, 9, 10, 65, 66, 67]
    | 116, 11 => some [6, 7, 9, 11, 57, 58, 59]
    | 117, 2 => some [0, 6, 7, 32, 33, 34]
    | 118, 3 => some [0, 1, 2, 6, 7, 8, 133, 134, 135]
    | 118, 6 => some [0, 1, 2, 6, 7, 8, 133, 134, 135]
    | 118, 19 => some [0, 1, 2, 6, 7, 8, 9, 133, 134, 135]
    | 118, 25 => some [0, 1, 2, 6, 7, 8, 133, 134, 135]
    | 118, 28 => some [0, 1, 2, 6, 7, 8, 10, 133, 134, 135]
    | 120, 3 => some [0, 1, 9, 10, 84, 85, 86, 87]
    | 120, 4 => some [0, 1, 9, 10, 84, 85, 86, 87]
    | 120, 8 => some [0, 1, 9, 10, 84, 85, 86, 87]
    | 121, 3 => some [0, 1, 10, 11, 168, 169, 170, 171]
    | 121, 7 => some [0, 1, 10, 11, 168, 169, 170, 171]
    | 121, 18 => some [0, 1, 10, 11, 168, 169, 170, 171]
    | 121, 19 => some [0, 1, 10, 11, 168, 169, 170, 171]
    | 121, 23 => some [0, 1, 10, 11, 168, 169, 170, 171]
    | 122, 3 => some [0, 2, 19]
    | 123, 3 => some [0, 2, 25]
    | 123, 6 => some [0, 2, 25]
    | 127, 3 => some [0, 3, 4, 56]
    | 127, 9 => some [0, 3, 4, 5, 56]
    | 129, 1 => some [0, 2, 3, 10, 19]
    | 131, 12 => some [0, 4, 5, 6, 51]
    | 131, 19 => some [0, 2, 3, 4, 5, 51]
    | 133, 1 => some [0, 2, 3, 8, 76, 77, 78, 79]
    | 133, 6 => some [0, 2, 3, 8, 9, 76, 77, 78, 79]
    | 138, 19 => some [0, 2, 3, 5, 8, 10, 117]
    | 138, 26 => some [0, 2, 3, 5, 8, 10, 11, 117]
    | 138, 33 => some [2, 3, 5, 10, 11, 12, 117]
    | 139, 1 => some [0, 1, 4, 160, 187, 188]
    | 139, 5 => some [4, 175, 187, 188]
    | 139, 19 => some [0, 4, 7, 8, 9, 187, 188]
    | 139, 27 => some [0, 4, 7, 8, 9, 187, 188]
    | 139, 29 => some [0, 7, 8, 9, 12, 187, 188]
    | 139, 51 => some [0, 4, 7, 8, 9, 14, 15, 187, 188]
    | 139, 54 => some [0, 4, 7, 8, 9, 14, 15, 139, 187, 188]
    | 139, 56 => some [0, 4, 7, 8, 9, 14, 15, 16, 187, 188]
    | 142, 1 => some [0, 2, 3, 17]
    | _, _ => none
  len := fun f => match f with
    | 3 => 86
    | 4 => 88
    | 5 => 95
    | 6 => 26
    | 7 => 39
    | 8 => 24
    | 9 => 16
    | 10 => 16
    | 11 => 78
    | 12 => 13
    | 13 => 13
    | 14 => 30
    | 15 => 30
    | 16 => 13
    | 17 => 12
    | 18 => 12
    | 19 => 60
    | 20 => 66
    | 21 => 17
    | 22 => 32
    | 23 => 47
    | 24 => 130
    | 25 => 66
    | 26 => 21
    | 27 => 48
    | 28 => 8
    | 29 => 26
    | 30 => 140
    | 31 => 47
    | 32 => 28
    | 33 => 20
    | 34 => 11
    | 35 => 14
    | 36 => 127
    | 37 => 14
    | 38 => 66
    | 39 => 59
    | 40 => 50
    | 41 => 73
    | 42 => 10
    | 43 => 17
    | 44 => 16
    | 45 => 21
    | 46 => 44
    | 47 => 47
    | 48 => 18
    | 49 => 20
    | 50 => 42
    | 51 => 53
    | 52 => 10
    | 53 => 38
    | 54 => 80
    | 55 => 25
    | 56 => 27
    | 57 => 18
    | 58 => 81
    | 59 => 16
    | 60 => 18
    | 61 => 10
    | 62 => 80
    | 63 => 25
    | 64 => 9
    | 65 => 6
    | 66 => 12
    | 67 => 62
    | 68 => 22
    | 69 => 18
    | 70 => 11
    | 71 => 23
    | 72 => 22
    | 73 => 32
    | 74 => 10
    | 75 => 27
    | 76 => 21
    | 77 => 9
    | 78 => 15
    | 79 => 42
    | 80 => 37
    | 81 => 16
    | 82 => 50
    | 83 => 10
    | 84 => 45
    | 85 => 7
    | 86 => 62
    | 87 => 19
    | 88 => 22
    | 89 => 10
    | 90 => 18
    | 91 => 18
    | 92 => 138
    | 93 => 9
    | 94 => 21
    | 95 => 19
    | 96 => 53
    | 97 => 20
    | 98 => 21
    | 99 => 32
    | 100 => 20
    | 101 => 95
    | 102 => 70
    | 103 => 4
    | 104 => 19
    | 105 => 25
    | 106 => 22
    | 107 => 18
    | 108 => 24
    | 109 => 25
    | 110 => 36
    | 111 => 7
    | 112 => 10
    | 113 => 52
    | 114 => 59
    | 115 => 68
    | 116 => 60
    | 117 => 35
    | 118 => 136
    | 119 => 19
    | 120 => 88
    | 121 => 172
    | 122 => 20
    | 123 => 26
    | 124 => 2
    | 125 => 2
    | 126 => 12
    | 127 => 57
    | 128 => 12
    | 129 => 20
    | 130 => 11
    | 131 => 52
    | 132 => 4
    | 133 => 80
    | 134 => 8
    | 135 => 34
    | 136 => 18
    | 137 => 41
    | 138 => 118
    | 139 => 189
    | 140 => 7
    | 141 => 32
    | 142 => 18
    | 143 => 7
    | 144 => 4
    | _ => 0

end Go.Proofs.YtngjadgglbkjlaaDoor.Med
end
section
set_option linter.unusedVariables false
set_option linter.unusedSimpArgs false
set_option linter.unusedSectionVars false
/-
  DERIVED: THE SHELF's CONTRACTS AT THIS DUMP, IN PLAIN WORDS (tools/lay-plain.mjs out of 'TrydShelf.lean', which tools/lay-shelf.mjs wrote): THE SAME DECLARATIONS UNDER THE SAME NAMES: 'import', 'namespace', 'open', 'def', 'theorem' AND NOTHING ELSE: no command of the shelf's: FOR A HAND-IN. Each laying: the table of numbers ('.._ren') and one theorem, a field a fact of the dump's own or the kernel's comparison; each contract: ONE APPLICATION.
-/
namespace Go.Proofs
open Go.Shelf
def Tryd.lays105_ren : Go.Shelf.Ren := ⟨fun | 105 => 36 | 212 => 73 | 99 => 74 | 165 => 75 | 166 => 76 | 170 => 77 | 169 => 78 | 263 => 95 | 264 => 96 | 206 => 97 | 240 => 98 | 241 => 99 | 276 => 124 | 277 => 125 | n => n, fun | 9 => 9 | 3 => 3 | 4 => 4 | 20 => 20 | 0 => 0 | 46 => 109 | 109 => 110 | 5 => 5 | 72 => 114 | 76 => 118 | 51 => 137 | 146 => 138 | 53 => 140 | 148 => 141 | 70 => 112 | 37 => 81 | 75 => 117 | 127 => 143 | 164 => 163 | 80 => 26 | n => n, fun | n => n⟩
theorem Tryd.lays105 : Go.Proofs.Lays.n105 Tryd.prog Tryd.lays105_ren := {
  mixed := by kernel_rfl
  f99 := Tryd.func74.trans (congrArg some (by kernel_rfl))
  f105 := Tryd.func36.trans (congrArg some (by kernel_rfl))
  f165 := Tryd.func75.trans (congrArg some (by kernel_rfl))
  f166 := Tryd.func76.trans (congrArg some (by kernel_rfl))
  f169 := Tryd.func78.trans (congrArg some (by kernel_rfl))
  f170 := Tryd.func77.trans (congrArg some (by kernel_rfl))
  f206 := Tryd.func97.trans (congrArg some (by kernel_rfl))
  f212 := Tryd.func73.trans (congrArg some (by kernel_rfl))
  f240 := Tryd.func98.trans (congrArg some (by kernel_rfl))
  f241 := Tryd.func99.trans (congrArg some (by kernel_rfl))
  f263 := Tryd.func95.trans (congrArg some (by kernel_rfl))
  f264 := Tryd.func96.trans (congrArg some (by kernel_rfl))
  f276 := Tryd.func124.trans (congrArg some (by kernel_rfl))
  f277 := Tryd.func125.trans (congrArg some (by kernel_rfl))
  t0 := Tryd.underlying0
  a0 := Tryd.isAgg0
  z0 := Tryd.sizeOf0
  v0 := Tryd.zeroValue0
  t3 := Tryd.underlying3
  a3 := Tryd.isAgg3
  z3 := Tryd.sizeOf3
  v3 := Tryd.zeroValue3
  t4 := Tryd.underlying4
  a4 := Tryd.isAgg4
  z4 := Tryd.sizeOf4
  v4 := Tryd.zeroValue4
  t5 := Tryd.underlying5
  a5 := Tryd.isAgg5
  z5 := Tryd.sizeOf5
  v5 := Tryd.zeroValue5
  t9 := Tryd.underlying9
  a9 := Tryd.isAgg9
  z9 := Tryd.sizeOf9
  v9 := Tryd.zeroValue9
  t20 := Tryd.underlying20
  a20 := Tryd.isAgg20
  z20 := Tryd.sizeOf20
  v20 := Tryd.zeroValue20
  t37 := Tryd.underlying81
  a37 := Tryd.isAgg81
  z37 := Tryd.sizeOf81
  v37 := Tryd.zeroValue81
  t46 := Tryd.underlying109
  a46 := Tryd.isAgg109
  z46 := Tryd.sizeOf109
  v46 := Tryd.zeroValue109
  t51 := Tryd.underlying137
  a51 := Tryd.isAgg137
  z51 := Tryd.sizeOf137
  v51 := Tryd.zeroValue137
  t53 := Tryd.underlying140
  a53 := Tryd.isAgg140
  z53 := Tryd.sizeOf140
  v53 := Tryd.zeroValue140
  t70 := Tryd.underlying112
  a70 := Tryd.isAgg112
  z70 := Tryd.sizeOf112
  v70 := Tryd.zeroValue112
  t72 := Tryd.underlying114
  a72 := Tryd.isAgg114
  z72 := Tryd.sizeOf114
  v72 := Tryd.zeroValue114
  t75 := Tryd.underlying117
  a75 := Tryd.isAgg117
  z75 := Tryd.sizeOf117
  v75 := Tryd.zeroValue117
  t76 := Tryd.underlying118
  a76 := Tryd.isAgg118
  z76 := Tryd.sizeOf118
  v76 := Tryd.zeroValue118
  t109 := Tryd.underlying110
  a109 := Tryd.isAgg110
  z109 := Tryd.sizeOf110
  v109 := Tryd.zeroValue110
  t127 := Tryd.underlying143
  a127 := Tryd.isAgg143
  z127 := Tryd.sizeOf143
  v127 := Tryd.zeroValue143
  t146 := Tryd.underlying138
  a146 := Tryd.isAgg138
  z146 := Tryd.sizeOf138
  v146 := Tryd.zeroValue138
  t148 := Tryd.underlying141
  a148 := Tryd.isAgg141
  z148 := Tryd.sizeOf141
  v148 := Tryd.zeroValue141
  t164 := Tryd.underlying163
  a164 := Tryd.isAgg163
  z164 := Tryd.sizeOf163
  v164 := Tryd.zeroValue163 }
theorem Tryd.Builder_Extra_105 : Builder.Extra Tryd.prog Tryd.lays105_ren := {
  sizeBuilder := by kernel_rfl
  liesBuilder := by kernel_rfl
  t5 := Tryd.underlying5
  a5 := Tryd.isAgg5
  z5 := Tryd.sizeOf5
  v5 := Tryd.zeroValue5
  infoByte := by kernel_rfl
  cellsByte := by kernel_rfl
  sizeByte := by kernel_rfl
  neB5 := by decide }
open Go.RowKit Go.Lib in
/-- THE MAIN CASE: at least two copies of a string that is not empty. (LAID: no walk: one application.) -/
theorem Tryd.strings_Repeat_main (s : ByteArray) (c : Nat) (w : World) (hc2 : 2 ≤ c) (hc : c ≤ 9223372036854775807) (hlen : s.size * c ≤ 140737488355328) (h0 : 0 < s.size) :
    Calls Tryd.prog 36 #[.string s, .int .i64 c] w fun e w' => e = .returned (.string ⟨(Lib.repeatL s.data.toList c).toArray⟩) ∧ Below w.heap.size w w' := Any.strings_Repeat_main Tryd.lays105 Tryd.Builder_Extra_105 s c w hc2 hc hlen h0
end Go.Proofs
end
section
set_option linter.unusedVariables false
set_option linter.unusedSimpArgs false
set_option linter.unusedSectionVars false
namespace Go.Proofs.YtngjadgglbkjlaaDoor.Med
open Go Go.Abs Go.Proofs
theorem rep36 (s : ByteArray) (n : Int) (h : repOk s n = true) : FnOk Tryd.prog 36 [.f (.lit (.string s)), .f (.lit (.int .i64 n))] (.f (.lit (.string (repB s n)))) [.undef, .undef] := by
  simp only [repOk, Bool.and_eq_true, decide_eq_true_eq] at h
  obtain ⟨h1, h2, h3, h4⟩ := h
  obtain ⟨c, rfl⟩ := Int.eq_ofNat_of_zero_le (show 0 ≤ n by omega)
  obtain ⟨body, hb⟩ : ∃ b, Tryd.f36.body = some b := ⟨_, rfl⟩
  refine fnOk_lit (P := Tryd.prog) Tryd.func36 (by kernel_rfl) hb (xs := [.string s, .int .i64 c]) rfl fun w => ?_
  refine Tryd.strings_Repeat_main s c w (by omega) (by omega) ?_ h4
  have := Nat.mul_le_mul h3 (show c ≤ 1000000 by omega)
  omega
end Go.Proofs.YtngjadgglbkjlaaDoor.Med
end
section
set_option linter.unusedVariables false
set_option linter.unusedSimpArgs false
set_option linter.unusedSectionVars false
namespace Go.Proofs.YtngjadgglbkjlaaDoor.Med
open Go Go.Abs Go.Proofs
set_option linter.unusedVariables false
theorem hM : Tryd.prog.follows .mixedOrders = true := by kernel_rfl
theorem idx103 (s : ByteArray) (c : Int) : FnOk Tryd.prog 103 [.f (.lit (.string s)), .f (.lit (.int .u8 c))] (vInt .i64 (idxByte s c)) [.undef, .undef] :=
  idx_ok (fn := Tryd.f103) Tryd.func103 (by kernel_rfl) (by kernel_rfl) (by kernel_rfl) (by kernel_rfl) s c
def T0 (_ : Nat) : Tbl := addT 36 (brRep 36 (addT 103 (brIdx 103 noT) noT)) (addT 103 (brIdx 103 noT) noT)
def L0 (_ : Nat) : LTbl := noL
theorem okT0 (m : Nat) : TblOk Tryd.prog (T0 m) := brRep_ok (brIdx_ok noT_ok idx103) rep36
theorem okL0 (m : Nat) : LTOk Tryd.prog H (L0 m) := noL_ok
/-- hookflash/flashmake.Below -/
def Fn60 {R : Type} (m : Nat) : Int → Int → (Int → Option R) → Option R := match m with
  | 0 => fun _ _ _ => none
  | m + 1 => fun i13 i14 k =>
  bif decide (i14 < (1 : Int)) then (k ((0 : Int))) else
  (bif decide (i14 ≠ (0 : Int)) then (bif decide (Int.tmod i13 i14 < (0 : Int)) then (k (IntKind.wrap IntKind.i64 (Int.tmod i13 i14 + i14))) else
  (k (Int.tmod i13 i14))) else
  (none))
def brFn60 (m : Nat) (T : Tbl) (R : Type) (vs : List V) (k : V → List V → Option R) : Option R := match vs with
  | [V.f (F.lit (Value.int IntKind.i64 i13)), V.f (F.lit (Value.int IntKind.i64 i14))] => Fn60 m i13 i14 (fun i15 => k (V.f (F.lit (Value.int IntKind.i64 i15))) [V.undef, V.undef])
  | _ => T R 60 vs k
set_option maxRecDepth 100000 in
theorem evFn60 (m : Nat) (R : Type) (i13 : Int) (i14 : Int) (k : V → List V → Option R) : runK Tryd.prog H (T0 m) (L0 m) 60 [V.f (F.lit (Value.int IntKind.i64 i13)), V.f (F.lit (Value.int IntKind.i64 i14))] k = Fn60 (m + 1) i13 i14 (fun i15 => k (V.f (F.lit (Value.int IntKind.i64 i15))) [V.undef, V.undef]) := by kernel_rfl
def T1 (m : Nat) : Tbl := addT 60 (brFn60 m (T0 m)) (T0 m)
theorem okT1 (m : Nat) : TblOk Tryd.prog (T1 m) := addT_ok (okT0 m) fun R vs k x h => by
  unfold brFn60 at h
  split at h
  · cases m with
    | zero => cases h
    | succ m => exact runK_some (okT0 m) hM (okL0 m) ((evFn60 m R _ _ k).trans h)
  · exact okT0 m R 60 _ k x h

/-- (*hookflash/flashmake.Stream).Next -/
def Fn25 {R : Type} (m : Nat) : Abs.Rows → Int → Int → (Int → Int → Option R) → Option R := match m with
  | 0 => fun _ _ _ _ => none
  | m + 1 => fun r10 i11 i12 k =>
  bif (↑(List.length r10) : Int) == (0 : Int) then (Fn60 m (IntKind.wrap IntKind.i64 (IntKind.wrap IntKind.i64 (i11 + (1 : Int)) * (7919 : Int))) i12 (fun i16 => k i16 (IntKind.wrap IntKind.i64 (i11 + (1 : Int))))) else
  (bif decide ((↑(List.length r10) : Int) ≠ (0 : Int)) then (bif decide ((↑(List.length r10) : Int) ≠ (0 : Int)) then (bif decide ((0 : Int) ≤ Int.tmod (IntKind.wrap IntKind.i64 (IntKind.wrap IntKind.i64 (i11 + (1 : Int)) - (1 : Int))) (↑(List.length r10) : Int) ∧ Int.tmod (IntKind.wrap IntKind.i64 (IntKind.wrap IntKind.i64 (i11 + (1 : Int)) - (1 : Int))) (↑(List.length r10) : Int) < (↑(List.length r10) : Int)) then (Fn60 m (fI r10 (Int.toNat (Int.tmod (IntKind.wrap IntKind.i64 (IntKind.wrap IntKind.i64 (i11 + (1 : Int)) - (1 : Int))) (↑(List.length r10) : Int))) (0 : Nat)) ((1073741824 : Int)) (fun i17 => Fn60 m (IntKind.wrap IntKind.i64 (i17 + IntKind.wrap IntKind.i64 (IntKind.wrap IntKind.i64 (Int.tdiv (IntKind.wrap IntKind.i64 (IntKind.wrap IntKind.i64 (i11 + (1 : Int)) - (1 : Int))) (↑(List.length r10) : Int)) * IntKind.wrap IntKind.i64 ((7919 : Int) + Int.tmod (IntKind.wrap IntKind.i64 (IntKind.wrap IntKind.i64 (i11 + (1 : Int)) - (1 : Int))) (↑(List.length r10) : Int))))) i12 (fun i18 => letV (IntKind.wrap IntKind.i64 (i17 + IntKind.wrap IntKind.i64 (IntKind.wrap IntKind.i64 (Int.tdiv (IntKind.wrap IntKind.i64 (IntKind.wrap IntKind.i64 (i11 + (1 : Int)) - (1 : Int))) (↑(List.length r10) : Int)) * IntKind.wrap IntKind.i64 ((7919 : Int) + Int.tmod (IntKind.wrap IntKind.i64 (IntKind.wrap IntKind.i64 (i11 + (1 : Int)) - (1 : Int))) (↑(List.length r10) : Int))))) (fun i19 => letV (IntKind.wrap IntKind.i64 (IntKind.wrap IntKind.i64 (Int.tdiv (IntKind.wrap IntKind.i64 (IntKind.wrap IntKind.i64 (i11 + (1 : Int)) - (1 : Int))) (↑(List.length r10) : Int)) * IntKind.wrap IntKind.i64 ((7919 : Int) + Int.tmod (IntKind.wrap IntKind.i64 (IntKind.wrap IntKind.i64 (i11 + (1 : Int)) - (1 : Int))) (↑(List.length r10) : Int)))) (fun i20 => k i18 (IntKind.wrap IntKind.i64 (i11 + (1 : Int)))))))) else
  (none)) else
  (none)) else
  (none))
def brFn25 (m : Nat) (T : Tbl) (R : Type) (vs : List V) (k : V → List V → Option R) : Option R := match vs with
  | [V.obj [V.f (F.lst [LT.int IntKind.i64] r10), V.f (F.lit (Value.int IntKind.i64 i11))], V.f (F.lit (Value.int IntKind.i64 i12))] => Fn25 m r10 i11 i12 (fun i21 i22 => k (V.f (F.lit (Value.int IntKind.i64 i21))) [V.obj [V.f (F.lst [LT.int IntKind.i64] r10), V.f (F.lit (Value.int IntKind.i64 i22))], V.undef])
  | _ => T R 25 vs k
set_option maxRecDepth 100000 in
theorem evFn25 (m : Nat) (R : Type) (r10 : Abs.Rows) (i11 : Int) (i12 : Int) (k : V → List V → Option R) : runK Tryd.prog H (T1 m) (L0 m) 25 [V.obj [V.f (F.lst [LT.int IntKind.i64] r10), V.f (F.lit (Value.int IntKind.i64 i11))], V.f (F.lit (Value.int IntKind.i64 i12))] k = Fn25 (m + 1) r10 i11 i12 (fun i21 i22 => k (V.f (F.lit (Value.int IntKind.i64 i21))) [V.obj [V.f (F.lst [LT.int IntKind.i64] r10), V.f (F.lit (Value.int IntKind.i64 i22))], V.undef]) := by kernel_rfl
def T2 (m : Nat) : Tbl := addT 25 (brFn25 m (T1 m)) (T1 m)
theorem okT2 (m : Nat) : TblOk Tryd.prog (T2 m) := addT_ok (okT1 m) fun R vs k x h => by
  unfold brFn25 at h
  split at h
  · cases m with
    | zero => cases h
    | succ m => exact runK_some (okT1 m) hM (okL0 m) ((evFn25 m R _ _ _ k).trans h)
  · exact okT1 m R 25 _ k x h

/-- (*hookflash/flashmake.Stream).Range -/
def Fn72 {R : Type} (m : Nat) : Abs.Rows → Int → Int → Int → (Int → Int → Option R) → Option R := match m with
  | 0 => fun _ _ _ _ _ => none
  | m + 1 => fun r6 i7 i8 i9 k =>
  bif decide (i9 < i8) then (k i8 i7) else
  (Fn25 m r6 i7 (IntKind.wrap IntKind.i64 (IntKind.wrap IntKind.i64 (i9 - i8) + (1 : Int))) (fun i23 i24 => k (IntKind.wrap IntKind.i64 (i8 + i23)) i24))
def brFn72 (m : Nat) (T : Tbl) (R : Type) (vs : List V) (k : V → List V → Option R) : Option R := match vs with
  | [V.obj [V.f (F.lst [LT.int IntKind.i64] r6), V.f (F.lit (Value.int IntKind.i64 i7))], V.f (F.lit (Value.int IntKind.i64 i8)), V.f (F.lit (Value.int IntKind.i64 i9))] => Fn72 m r6 i7 i8 i9 (fun i25 i26 => k (V.f (F.lit (Value.int IntKind.i64 i25))) [V.obj [V.f (F.lst [LT.int IntKind.i64] r6), V.f (F.lit (Value.int IntKind.i64 i26))], V.undef, V.undef])
  | _ => T R 72 vs k
set_option maxRecDepth 100000 in
theorem evFn72 (m : Nat) (R : Type) (r6 : Abs.Rows) (i7 : Int) (i8 : Int) (i9 : Int) (k : V → List V → Option R) : runK Tryd.prog H (T2 m) (L0 m) 72 [V.obj [V.f (F.lst [LT.int IntKind.i64] r6), V.f (F.lit (Value.int IntKind.i64 i7))], V.f (F.lit (Value.int IntKind.i64 i8)), V.f (F.lit (Value.int IntKind.i64 i9))] k = Fn72 (m + 1) r6 i7 i8 i9 (fun i25 i26 => k (V.f (F.lit (Value.int IntKind.i64 i25))) [V.obj [V.f (F.lst [LT.int IntKind.i64] r6), V.f (F.lit (Value.int IntKind.i64 i26))], V.undef, V.undef]) := by kernel_rfl
def T3 (m : Nat) : Tbl := addT 72 (brFn72 m (T2 m)) (T2 m)
theorem okT3 (m : Nat) : TblOk Tryd.prog (T3 m) := addT_ok (okT2 m) fun R vs k x h => by
  unfold brFn72 at h
  split at h
  · cases m with
    | zero => cases h
    | succ m => exact runK_some (okT2 m) hM (okL0 m) ((evFn72 m R _ _ _ _ k).trans h)
  · exact okT2 m R 72 _ k x h

/-- (*hookflash/flashmake.Stream).Some -/
def Fn35 {R : Type} (m : Nat) : Abs.Rows → Int → Abs.Rows → (ByteArray → Int → Option R) → Option R := match m with
  | 0 => fun _ _ _ _ => none
  | m + 1 => fun r34 i35 r36 k =>
  Fn25 m r34 i35 ((↑(List.length r36) : Int)) (fun i37 i38 => bif decide ((0 : Int) ≤ i37 ∧ i37 < (↑(List.length r36) : Int)) then (k (fS r36 (Int.toNat i37) (0 : Nat)) i38) else
  (none))
def brFn35 (m : Nat) (T : Tbl) (R : Type) (vs : List V) (k : V → List V → Option R) : Option R := match vs with
  | [V.obj [V.f (F.lst [LT.int IntKind.i64] r34), V.f (F.lit (Value.int IntKind.i64 i35))], V.bor [LT.str] r36] => Fn35 m r34 i35 r36 (fun s39 i40 => k (V.f (F.lit (Value.string s39))) [V.obj [V.f (F.lst [LT.int IntKind.i64] r34), V.f (F.lit (Value.int IntKind.i64 i40))], V.undef])
  | _ => T R 35 vs k
set_option maxRecDepth 100000 in
theorem evFn35 (m : Nat) (R : Type) (r34 : Abs.Rows) (i35 : Int) (r36 : Abs.Rows) (k : V → List V → Option R) : runK Tryd.prog H (T3 m) (L0 m) 35 [V.obj [V.f (F.lst [LT.int IntKind.i64] r34), V.f (F.lit (Value.int IntKind.i64 i35))], V.bor [LT.str] r36] k = Fn35 (m + 1) r34 i35 r36 (fun s39 i40 => k (V.f (F.lit (Value.string s39))) [V.obj [V.f (F.lst [LT.int IntKind.i64] r34), V.f (F.lit (Value.int IntKind.i64 i40))], V.undef]) := by kernel_rfl
def T4 (m : Nat) : Tbl := addT 35 (brFn35 m (T3 m)) (T3 m)
theorem okT4 (m : Nat) : TblOk Tryd.prog (T4 m) := addT_ok (okT3 m) fun R vs k x h => by
  unfold brFn35 at h
  split at h
  · cases m with
    | zero => cases h
    | succ m => exact runK_some (okT3 m) hM (okL0 m) ((evFn35 m R _ _ _ k).trans h)
  · exact okT3 m R 35 _ k x h

/-- a round of a loop of (*hookflash/flashmake.Stream).RightPattern -/
def Lp33_3_step {R : Type} (m : Nat) (kx0 : ByteArray → Int → Int → Option R) (i30 : Int) (r32 : Abs.Rows) (REC : ByteArray → Int → Int → Option R) (s29 : ByteArray) (i31 : Int) (i33 : Int) : Option R :=
  bif decide (i31 < i30) then (Fn35 m r32 i33 ([[F.lit (Value.string { data := #[(49 : UInt8)] })], [F.lit (Value.string { data := #[(50 : UInt8)] })], [F.lit (Value.string { data := #[(50 : UInt8)] })], [F.lit (Value.string { data := #[(57 : UInt8)] })], [F.lit (Value.string { data := #[(48 : UInt8)] })], [F.lit (Value.string { data := #[(42 : UInt8)] })], [F.lit (Value.string { data := #[(88 : UInt8)] })], [F.lit (Value.string { data := #[(88 : UInt8)] })], [F.lit (Value.string { data := #[(78 : UInt8)] })], [F.lit (Value.string { data := #[(90 : UInt8)] })], [F.lit (Value.string { data := #[(91 : UInt8), (49 : UInt8), (50 : UInt8), (93 : UInt8)] })], [F.lit (Value.string { data := #[(91 : UInt8), (50 : UInt8), (45 : UInt8), (52 : UInt8), (93 : UInt8)] })], [F.lit (Value.string { data := #[(91 : UInt8), (49 : UInt8), (45 : UInt8), (51 : UInt8), (53 : UInt8), (93 : UInt8)] })], [F.lit (Value.string { data := #[(91 : UInt8), (50 : UInt8), (57 : UInt8), (93 : UInt8)] })]]) (fun s41 i42 => bif decide (ByteArray.size s29 + ByteArray.size s41 ≤ strMax) then (REC (s29 ++ s41) (IntKind.wrap IntKind.i64 (i31 + (1 : Int))) i42) else
  (none))) else
  (kx0 s29 i31 i33)
def Lp33_3 {R : Type} (m : Nat) (kx0 : ByteArray → Int → Int → Option R) (i30 : Int) (r32 : Abs.Rows) : Nat → ByteArray → Int → Int → Option R
  | 0, _, _, _ => none
  | n + 1, s29, i31, i33 => Lp33_3_step m kx0 i30 r32 (Lp33_3 m kx0 i30 r32 n) s29 i31 i33
def ELp33_3 (m : Nat) (R : Type) : Nat → List V → (Ex → List V → Option R) → Option R
  | 0, _, _ => none
  | n + 1, vs, k => match vs with
    | [V.ref (19 : Nat) (0 : Nat), V.f (F.lit (Value.string s29)), V.f (F.lit (Value.int IntKind.i64 i30)), V.f (F.lit (Value.int IntKind.i64 i31)), V.obj [V.f (F.lst [LT.int IntKind.i64] r32), V.f (F.lit (Value.int IntKind.i64 i33))]] => Lp33_3_step m (fun s43 i44 i45 => k (Ex.exit (0 : Nat)) [V.ref (19 : Nat) (0 : Nat), V.f (F.lit (Value.string s43)), V.f (F.lit (Value.int IntKind.i64 i30)), V.f (F.lit (Value.int IntKind.i64 i44)), V.obj [V.f (F.lst [LT.int IntKind.i64] r32), V.f (F.lit (Value.int IntKind.i64 i45))]]) i30 r32 (fun s29 i31 i33 => ELp33_3 m R n [V.ref (19 : Nat) (0 : Nat), V.f (F.lit (Value.string s29)), V.f (F.lit (Value.int IntKind.i64 i30)), V.f (F.lit (Value.int IntKind.i64 i31)), V.obj [V.f (F.lst [LT.int IntKind.i64] r32), V.f (F.lit (Value.int IntKind.i64 i33))]] k) s29 i31 i33
    | _ => none
def brLp33_3 (m : Nat) (L : LTbl) (R : Type) (vs : List V) (k : Ex → List V → Option R) : Option R := match vs with
  | [V.ref (19 : Nat) (0 : Nat), V.f (F.lit (Value.string s29)), V.f (F.lit (Value.int IntKind.i64 i30)), V.f (F.lit (Value.int IntKind.i64 i31)), V.obj [V.f (F.lst [LT.int IntKind.i64] r32), V.f (F.lit (Value.int IntKind.i64 i33))]] => Lp33_3 m (fun s43 i44 i45 => k (Ex.exit (0 : Nat)) [V.ref (19 : Nat) (0 : Nat), V.f (F.lit (Value.string s43)), V.f (F.lit (Value.int IntKind.i64 i30)), V.f (F.lit (Value.int IntKind.i64 i44)), V.obj [V.f (F.lst [LT.int IntKind.i64] r32), V.f (F.lit (Value.int IntKind.i64 i45))]]) i30 r32 m s29 i31 i33
  | _ => L R 33 3 vs k
set_option maxRecDepth 100000 in
theorem stLp33_3 (m n : Nat) (R : Type) (s29 : ByteArray) (i30 : Int) (i31 : Int) (r32 : Abs.Rows) (i33 : Int) (k : Ex → List V → Option R) : codeK Tryd.prog H (T4 m) 33 (L0 m) 4 (loopBody Tryd.prog 33 3) (mkEnv [0, 3, 5, 6, 19] [V.ref (19 : Nat) (0 : Nat), V.f (F.lit (Value.string s29)), V.f (F.lit (Value.int IntKind.i64 i30)), V.f (F.lit (Value.int IntKind.i64 i31)), V.obj [V.f (F.lst [LT.int IntKind.i64] r32), V.f (F.lit (Value.int IntKind.i64 i33))]] 0 (H.len 33)) (fun e env' => match e with | .normal => ELp33_3 m R n (vals [0, 3, 5, 6, 19] env') k | e => k e (vals [0, 3, 5, 6, 19] env')) = Lp33_3_step m (fun s43 i44 i45 => k (Ex.exit (0 : Nat)) [V.ref (19 : Nat) (0 : Nat), V.f (F.lit (Value.string s43)), V.f (F.lit (Value.int IntKind.i64 i30)), V.f (F.lit (Value.int IntKind.i64 i44)), V.obj [V.f (F.lst [LT.int IntKind.i64] r32), V.f (F.lit (Value.int IntKind.i64 i45))]]) i30 r32 (fun s29 i31 i33 => ELp33_3 m R n [V.ref (19 : Nat) (0 : Nat), V.f (F.lit (Value.string s29)), V.f (F.lit (Value.int IntKind.i64 i30)), V.f (F.lit (Value.int IntKind.i64 i31)), V.obj [V.f (F.lst [LT.int IntKind.i64] r32), V.f (F.lit (Value.int IntKind.i64 i33))]] k) s29 i31 i33 := by kernel_rfl
theorem eqLp33_3 (m : Nat) (R : Type) (i30 : Int) (r32 : Abs.Rows) (k : Ex → List V → Option R) : ∀ (n : Nat) (s29 : ByteArray) (i31 : Int) (i33 : Int), ELp33_3 m R n [V.ref (19 : Nat) (0 : Nat), V.f (F.lit (Value.string s29)), V.f (F.lit (Value.int IntKind.i64 i30)), V.f (F.lit (Value.int IntKind.i64 i31)), V.obj [V.f (F.lst [LT.int IntKind.i64] r32), V.f (F.lit (Value.int IntKind.i64 i33))]] k = Lp33_3 m (fun s43 i44 i45 => k (Ex.exit (0 : Nat)) [V.ref (19 : Nat) (0 : Nat), V.f (F.lit (Value.string s43)), V.f (F.lit (Value.int IntKind.i64 i30)), V.f (F.lit (Value.int IntKind.i64 i44)), V.obj [V.f (F.lst [LT.int IntKind.i64] r32), V.f (F.lit (Value.int IntKind.i64 i45))]]) i30 r32 n s29 i31 i33
  | 0, _, _, _ => rfl
  | n + 1, s29, i31, i33 => by
    simp only [ELp33_3, Lp33_3]
    congr 1
    funext s29 i31 i33
    exact eqLp33_3 m R i30 r32 k n s29 i31 i33
def L1 (m : Nat) : LTbl := addB 33 3 (brLp33_3 m (L0 m)) (L0 m)
theorem okL1 (m : Nat) : LTOk Tryd.prog H (L1 m) := addB_ok (okT4 m) hM (okL0 m) (l := [0, 3, 5, 6, 19]) (by kernel_rfl) (by kernel_rfl) m (fun R n vs k => ELp33_3 m R n vs k) (fun R vs k => rfl) (fun R n vs k x h => by
      simp only [ELp33_3] at h
      split at h
      · exact (stLp33_3 m n R _ _ _ _ _ k).trans h
      · cases h) fun R vs k x h => by
    unfold brLp33_3 at h
    split at h
    · exact .inl ((eqLp33_3 m R _ _ k m _ _ _).trans h)
    · exact .inr h

/-- (*hookflash/flashmake.Stream).RightPattern -/
def Fn33 {R : Type} (m : Nat) : Abs.Rows → Int → (ByteArray → Int → Option R) → Option R := match m with
  | 0 => fun _ _ _ => none
  | m + 1 => fun r4 i5 k =>
  Fn72 m r4 i5 ((1 : Int)) ((4 : Int)) (fun i27 i28 => Lp33_3 m (fun s46 i47 i48 => Fn35 m r4 i48 ([[F.lit (Value.string { data := #[] })], [F.lit (Value.string { data := #[] })], [F.lit (Value.string { data := #[] })], [F.lit (Value.string { data := #[(46 : UInt8)] })], [F.lit (Value.string { data := #[(33 : UInt8)] })]]) (fun s49 i50 => bif decide (ByteArray.size s46 + ByteArray.size s49 ≤ strMax) then (k (s46 ++ s49) i50) else
  (none))) i27 r4 m ({ data := #[] }) ((0 : Int)) i28)
def brFn33 (m : Nat) (T : Tbl) (R : Type) (vs : List V) (k : V → List V → Option R) : Option R := match vs with
  | [V.obj [V.f (F.lst [LT.int IntKind.i64] r4), V.f (F.lit (Value.int IntKind.i64 i5))]] => Fn33 m r4 i5 (fun s51 i52 => k (V.f (F.lit (Value.string s51))) [V.obj [V.f (F.lst [LT.int IntKind.i64] r4), V.f (F.lit (Value.int IntKind.i64 i52))]])
  | _ => T R 33 vs k
set_option maxRecDepth 100000 in
theorem evFn33 (m : Nat) (R : Type) (r4 : Abs.Rows) (i5 : Int) (k : V → List V → Option R) : runK Tryd.prog H (T4 m) (L1 m) 33 [V.obj [V.f (F.lst [LT.int IntKind.i64] r4), V.f (F.lit (Value.int IntKind.i64 i5))]] k = Fn33 (m + 1) r4 i5 (fun s51 i52 => k (V.f (F.lit (Value.string s51))) [V.obj [V.f (F.lst [LT.int IntKind.i64] r4), V.f (F.lit (Value.int IntKind.i64 i52))]]) := by kernel_rfl
def T5 (m : Nat) : Tbl := addT 33 (brFn33 m (T4 m)) (T4 m)
theorem okT5 (m : Nat) : TblOk Tryd.prog (T5 m) := addT_ok (okT4 m) fun R vs k x h => by
  unfold brFn33 at h
  split at h
  · cases m with
    | zero => cases h
    | succ m => exact runK_some (okT4 m) hM (okL1 m) ((evFn33 m R _ _ k).trans h)
  · exact okT4 m R 33 _ k x h

/-- (*hookflash/flashmake.Stream).Flip -/
def Fn34 {R : Type} (m : Nat) : Abs.Rows → Int → Int → (Bool → Int → Option R) → Option R := match m with
  | 0 => fun _ _ _ _ => none
  | m + 1 => fun r55 i56 i57 k =>
  Fn25 m r55 i56 i57 (fun i58 i59 => k (i58 == (0 : Int)) i59)
def brFn34 (m : Nat) (T : Tbl) (R : Type) (vs : List V) (k : V → List V → Option R) : Option R := match vs with
  | [V.obj [V.f (F.lst [LT.int IntKind.i64] r55), V.f (F.lit (Value.int IntKind.i64 i56))], V.f (F.lit (Value.int IntKind.i64 i57))] => Fn34 m r55 i56 i57 (fun b60 i61 => k (V.f (F.lit (Value.bool b60))) [V.obj [V.f (F.lst [LT.int IntKind.i64] r55), V.f (F.lit (Value.int IntKind.i64 i61))], V.undef])
  | _ => T R 34 vs k
set_option maxRecDepth 100000 in
theorem evFn34 (m : Nat) (R : Type) (r55 : Abs.Rows) (i56 : Int) (i57 : Int) (k : V → List V → Option R) : runK Tryd.prog H (T5 m) (L1 m) 34 [V.obj [V.f (F.lst [LT.int IntKind.i64] r55), V.f (F.lit (Value.int IntKind.i64 i56))], V.f (F.lit (Value.int IntKind.i64 i57))] k = Fn34 (m + 1) r55 i56 i57 (fun b60 i61 => k (V.f (F.lit (Value.bool b60))) [V.obj [V.f (F.lst [LT.int IntKind.i64] r55), V.f (F.lit (Value.int IntKind.i64 i61))], V.undef]) := by kernel_rfl
def T6 (m : Nat) : Tbl := addT 34 (brFn34 m (T5 m)) (T5 m)
theorem okT6 (m : Nat) : TblOk Tryd.prog (T6 m) := addT_ok (okT5 m) fun R vs k x h => by
  unfold brFn34 at h
  split at h
  · cases m with
    | zero => cases h
    | succ m => exact runK_some (okT5 m) hM (okL1 m) ((evFn34 m R _ _ _ k).trans h)
  · exact okT5 m R 34 _ k x h

/-- (*hookflash/flashmake.Stream).Pick -/
def Fn37 {R : Type} (m : Nat) : Abs.Rows → Int → Abs.Rows → (Int → Int → Option R) → Option R := match m with
  | 0 => fun _ _ _ _ => none
  | m + 1 => fun r70 i71 r72 k =>
  Fn25 m r70 i71 ((↑(List.length r72) : Int)) (fun i73 i74 => bif decide ((0 : Int) ≤ i73 ∧ i73 < (↑(List.length r72) : Int)) then (k (fI r72 (Int.toNat i73) (0 : Nat)) i74) else
  (none))
def brFn37 (m : Nat) (T : Tbl) (R : Type) (vs : List V) (k : V → List V → Option R) : Option R := match vs with
  | [V.obj [V.f (F.lst [LT.int IntKind.i64] r70), V.f (F.lit (Value.int IntKind.i64 i71))], V.bor [LT.int IntKind.i64] r72] => Fn37 m r70 i71 r72 (fun i75 i76 => k (V.f (F.lit (Value.int IntKind.i64 i75))) [V.obj [V.f (F.lst [LT.int IntKind.i64] r70), V.f (F.lit (Value.int IntKind.i64 i76))], V.undef])
  | _ => T R 37 vs k
set_option maxRecDepth 100000 in
theorem evFn37 (m : Nat) (R : Type) (r70 : Abs.Rows) (i71 : Int) (r72 : Abs.Rows) (k : V → List V → Option R) : runK Tryd.prog H (T6 m) (L1 m) 37 [V.obj [V.f (F.lst [LT.int IntKind.i64] r70), V.f (F.lit (Value.int IntKind.i64 i71))], V.bor [LT.int IntKind.i64] r72] k = Fn37 (m + 1) r70 i71 r72 (fun i75 i76 => k (V.f (F.lit (Value.int IntKind.i64 i75))) [V.obj [V.f (F.lst [LT.int IntKind.i64] r70), V.f (F.lit (Value.int IntKind.i64 i76))], V.undef]) := by kernel_rfl
def T7 (m : Nat) : Tbl := addT 37 (brFn37 m (T6 m)) (T6 m)
theorem okT7 (m : Nat) : TblOk Tryd.prog (T7 m) := addT_ok (okT6 m) fun R vs k x h => by
  unfold brFn37 at h
  split at h
  · cases m with
    | zero => cases h
    | succ m => exact runK_some (okT6 m) hM (okL1 m) ((evFn37 m R _ _ _ k).trans h)
  · exact okT6 m R 37 _ k x h

/-- a rest of (*hookflash/flashmake.Stream).Changed -/
def Jn38_3 {R : Type} (m : Nat) (kx0 : ByteArray → Int → Option R) (s88 : ByteArray) (s89 : ByteArray) (s90 : ByteArray) (r91 : Abs.Rows) (i92 : Int) : Option R :=
  Fn25 m r91 i92 ((↑(ByteArray.size s88) : Int)) (fun i93 i94 => Fn25 m r91 i94 ((↑(ByteArray.size s89) : Int)) (fun i95 i96 => bif decide ((0 : Int) ≤ i95 ∧ i95 < (↑(ByteArray.size s89) : Int)) then (Fn25 m r91 i96 ((3 : Int)) (fun i97 i98 => bif i97 == (0 : Int) then (bif decide ((0 : Int) ≤ i93 ∧ i93 ≤ (↑(ByteArray.size s88) : Int)) then (bif decide (ByteArray.size (ByteArray.extract s88 (0 : Nat) (Int.toNat i93)) + ByteArray.size (Utf8.encode (IntKind.wrap IntKind.i32 (↑(UInt8.toNat (Array.getD (ByteArray.data s89) (Int.toNat i95) (0 : UInt8))) : Int))) ≤ strMax) then (bif decide ((0 : Int) ≤ IntKind.wrap IntKind.i64 (i93 + (1 : Int)) ∧ IntKind.wrap IntKind.i64 (i93 + (1 : Int)) ≤ (↑(ByteArray.size s88) : Int)) then (bif decide (ByteArray.size (ByteArray.extract s88 (0 : Nat) (Int.toNat i93) ++ Utf8.encode (IntKind.wrap IntKind.i32 (↑(UInt8.toNat (Array.getD (ByteArray.data s89) (Int.toNat i95) (0 : UInt8))) : Int))) + ByteArray.size (ByteArray.extract s88 (Int.toNat (IntKind.wrap IntKind.i64 (i93 + (1 : Int)))) (ByteArray.size s88)) ≤ strMax) then (letV (ByteArray.extract s88 (0 : Nat) (Int.toNat i93) ++ Utf8.encode (IntKind.wrap IntKind.i32 (↑(UInt8.toNat (Array.getD (ByteArray.data s89) (Int.toNat i95) (0 : UInt8))) : Int)) ++ ByteArray.extract s88 (Int.toNat (IntKind.wrap IntKind.i64 (i93 + (1 : Int)))) (ByteArray.size s88)) (fun s99 => kx0 s99 i98)) else
  (none)) else
  (none)) else
  (none)) else
  (none)) else
  (bif i97 == (1 : Int) then (bif decide ((0 : Int) ≤ i93 ∧ i93 ≤ (↑(ByteArray.size s88) : Int)) then (bif decide (ByteArray.size (ByteArray.extract s88 (0 : Nat) (Int.toNat i93)) + ByteArray.size (Utf8.encode (IntKind.wrap IntKind.i32 (↑(UInt8.toNat (Array.getD (ByteArray.data s89) (Int.toNat i95) (0 : UInt8))) : Int))) ≤ strMax) then (bif decide ((0 : Int) ≤ i93 ∧ i93 ≤ (↑(ByteArray.size s88) : Int)) then (bif decide (ByteArray.size (ByteArray.extract s88 (0 : Nat) (Int.toNat i93) ++ Utf8.encode (IntKind.wrap IntKind.i32 (↑(UInt8.toNat (Array.getD (ByteArray.data s89) (Int.toNat i95) (0 : UInt8))) : Int))) + ByteArray.size (ByteArray.extract s88 (Int.toNat i93) (ByteArray.size s88)) ≤ strMax) then (letV (ByteArray.extract s88 (0 : Nat) (Int.toNat i93) ++ Utf8.encode (IntKind.wrap IntKind.i32 (↑(UInt8.toNat (Array.getD (ByteArray.data s89) (Int.toNat i95) (0 : UInt8))) : Int)) ++ ByteArray.extract s88 (Int.toNat i93) (ByteArray.size s88)) (fun s100 => kx0 s100 i98)) else
  (none)) else
  (none)) else
  (none)) else
  (none)) else
  (bif decide ((0 : Int) ≤ i93 ∧ i93 ≤ (↑(ByteArray.size s88) : Int)) then (bif decide ((0 : Int) ≤ IntKind.wrap IntKind.i64 (i93 + (1 : Int)) ∧ IntKind.wrap IntKind.i64 (i93 + (1 : Int)) ≤ (↑(ByteArray.size s88) : Int)) then (bif decide (ByteArray.size (ByteArray.extract s88 (0 : Nat) (Int.toNat i93)) + ByteArray.size (ByteArray.extract s88 (Int.toNat (IntKind.wrap IntKind.i64 (i93 + (1 : Int)))) (ByteArray.size s88)) ≤ strMax) then (kx0 (ByteArray.extract s88 (0 : Nat) (Int.toNat i93) ++ ByteArray.extract s88 (Int.toNat (IntKind.wrap IntKind.i64 (i93 + (1 : Int)))) (ByteArray.size s88)) i98) else
  (none)) else
  (none)) else
  (none))))) else
  (none)))
def brJn38_3 (m : Nat) (L : LTbl) (R : Type) (vs : List V) (k : Ex → List V → Option R) : Option R := match vs with
  | [V.ref (63 : Nat) (0 : Nat), V.f (F.lit (Value.string s88)), V.f (F.lit (Value.string s89)), V.f (F.lit (Value.string s90)), V.obj [V.f (F.lst [LT.int IntKind.i64] r91), V.f (F.lit (Value.int IntKind.i64 i92))], V.undef, V.undef] => Jn38_3 m (fun s101 i102 => k Ex.ret [V.ref (63 : Nat) (0 : Nat), V.f (F.lit (Value.string s88)), V.f (F.lit (Value.string s89)), V.f (F.lit (Value.string s101)), V.obj [V.f (F.lst [LT.int IntKind.i64] r91), V.f (F.lit (Value.int IntKind.i64 i102))], V.undef, V.undef]) s88 s89 s90 r91 i92
  | _ => L R 38 3 vs k
set_option maxRecDepth 100000 in
theorem evJn38_3 (m : Nat) (R : Type) (s88 : ByteArray) (s89 : ByteArray) (s90 : ByteArray) (r91 : Abs.Rows) (i92 : Int) (k : Ex → List V → Option R) : codeK Tryd.prog H (T7 m) 38 (L1 m) 4 (loopBody Tryd.prog 38 3) (mkEnv [0, 1, 2, 6, 63, 64, 65] [V.ref (63 : Nat) (0 : Nat), V.f (F.lit (Value.string s88)), V.f (F.lit (Value.string s89)), V.f (F.lit (Value.string s90)), V.obj [V.f (F.lst [LT.int IntKind.i64] r91), V.f (F.lit (Value.int IntKind.i64 i92))], V.undef, V.undef] 0 (H.len 38)) (fun e env' => k e (vals [0, 1, 2, 6, 63, 64, 65] env')) = Jn38_3 m (fun s101 i102 => k Ex.ret [V.ref (63 : Nat) (0 : Nat), V.f (F.lit (Value.string s88)), V.f (F.lit (Value.string s89)), V.f (F.lit (Value.string s101)), V.obj [V.f (F.lst [LT.int IntKind.i64] r91), V.f (F.lit (Value.int IntKind.i64 i102))], V.undef, V.undef]) s88 s89 s90 r91 i92 := by kernel_rfl
def L2 (m : Nat) : LTbl := addJ 38 3 (brJn38_3 m (L1 m)) (L1 m)
theorem okL2 (m : Nat) : LTOk Tryd.prog H (L2 m) := addJ_ok (okT7 m) hM (okL1 m) (l := [0, 1, 2, 6, 63, 64, 65]) (by kernel_rfl) (by kernel_rfl) fun R vs k x h => by
    unfold brJn38_3 at h
    split at h
    · exact .inl ((evJn38_3 m R _ _ _ _ _ k).trans h)
    · exact .inr h

/-- (*hookflash/flashmake.Stream).Changed -/
def Fn38 {R : Type} (m : Nat) : Abs.Rows → Int → ByteArray → ByteArray → (ByteArray → Int → Option R) → Option R := match m with
  | 0 => fun _ _ _ _ _ => none
  | m + 1 => fun r84 i85 s86 s87 k =>
  bif ByteArray.toList s86 == ByteArray.toList { data := #[] } then (k s87 i85) else
  (bif ByteArray.toList s87 == ByteArray.toList { data := #[] } then (k s87 i85) else
  (Jn38_3 m (fun s103 i104 => k s103 i104) s86 s87 ({ data := #[] }) r84 i85))
def brFn38 (m : Nat) (T : Tbl) (R : Type) (vs : List V) (k : V → List V → Option R) : Option R := match vs with
  | [V.obj [V.f (F.lst [LT.int IntKind.i64] r84), V.f (F.lit (Value.int IntKind.i64 i85))], V.f (F.lit (Value.string s86)), V.f (F.lit (Value.string s87))] => Fn38 m r84 i85 s86 s87 (fun s105 i106 => k (V.f (F.lit (Value.string s105))) [V.obj [V.f (F.lst [LT.int IntKind.i64] r84), V.f (F.lit (Value.int IntKind.i64 i106))], V.undef, V.undef])
  | _ => T R 38 vs k
set_option maxRecDepth 100000 in
theorem evFn38 (m : Nat) (R : Type) (r84 : Abs.Rows) (i85 : Int) (s86 : ByteArray) (s87 : ByteArray) (k : V → List V → Option R) : runK Tryd.prog H (T7 m) (L2 m) 38 [V.obj [V.f (F.lst [LT.int IntKind.i64] r84), V.f (F.lit (Value.int IntKind.i64 i85))], V.f (F.lit (Value.string s86)), V.f (F.lit (Value.string s87))] k = Fn38 (m + 1) r84 i85 s86 s87 (fun s105 i106 => k (V.f (F.lit (Value.string s105))) [V.obj [V.f (F.lst [LT.int IntKind.i64] r84), V.f (F.lit (Value.int IntKind.i64 i106))], V.undef, V.undef]) := by kernel_rfl
def T8 (m : Nat) : Tbl := addT 38 (brFn38 m (T7 m)) (T7 m)
theorem okT8 (m : Nat) : TblOk Tryd.prog (T8 m) := addT_ok (okT7 m) fun R vs k x h => by
  unfold brFn38 at h
  split at h
  · cases m with
    | zero => cases h
    | succ m => exact runK_some (okT7 m) hM (okL2 m) ((evFn38 m R _ _ _ _ k).trans h)
  · exact okT7 m R 38 _ k x h

/-- a round of a loop of (*hookflash/flashmake.Stream).Pattern -/
def Lp6_5_step {R : Type} (m : Nat) (kx0 : ByteArray → Int → Int → Option R) (i80 : Int) (r82 : Abs.Rows) (REC : ByteArray → Int → Int → Option R) (s79 : ByteArray) (i81 : Int) (i83 : Int) : Option R :=
  bif decide (i81 < i80) then (Fn38 m r82 i83 s79 ({ data := #[(49 : UInt8), (50 : UInt8), (88 : UInt8), (46 : UInt8), (33 : UInt8), (91 : UInt8), (93 : UInt8), (45 : UInt8), (78 : UInt8)] }) (fun s107 i108 => REC s107 (IntKind.wrap IntKind.i64 (i81 + (1 : Int))) i108)) else
  (kx0 s79 i81 i83)
def Lp6_5 {R : Type} (m : Nat) (kx0 : ByteArray → Int → Int → Option R) (i80 : Int) (r82 : Abs.Rows) : Nat → ByteArray → Int → Int → Option R
  | 0, _, _, _ => none
  | n + 1, s79, i81, i83 => Lp6_5_step m kx0 i80 r82 (Lp6_5 m kx0 i80 r82 n) s79 i81 i83
def ELp6_5 (m : Nat) (R : Type) : Nat → List V → (Ex → List V → Option R) → Option R
  | 0, _, _ => none
  | n + 1, vs, k => match vs with
    | [V.ref (25 : Nat) (0 : Nat), V.f (F.lit (Value.string s79)), V.f (F.lit (Value.int IntKind.i64 i80)), V.f (F.lit (Value.int IntKind.i64 i81)), V.obj [V.f (F.lst [LT.int IntKind.i64] r82), V.f (F.lit (Value.int IntKind.i64 i83))]] => Lp6_5_step m (fun s109 i110 i111 => k (Ex.exit (0 : Nat)) [V.ref (25 : Nat) (0 : Nat), V.f (F.lit (Value.string s109)), V.f (F.lit (Value.int IntKind.i64 i80)), V.f (F.lit (Value.int IntKind.i64 i110)), V.obj [V.f (F.lst [LT.int IntKind.i64] r82), V.f (F.lit (Value.int IntKind.i64 i111))]]) i80 r82 (fun s79 i81 i83 => ELp6_5 m R n [V.ref (25 : Nat) (0 : Nat), V.f (F.lit (Value.string s79)), V.f (F.lit (Value.int IntKind.i64 i80)), V.f (F.lit (Value.int IntKind.i64 i81)), V.obj [V.f (F.lst [LT.int IntKind.i64] r82), V.f (F.lit (Value.int IntKind.i64 i83))]] k) s79 i81 i83
    | _ => none
def brLp6_5 (m : Nat) (L : LTbl) (R : Type) (vs : List V) (k : Ex → List V → Option R) : Option R := match vs with
  | [V.ref (25 : Nat) (0 : Nat), V.f (F.lit (Value.string s79)), V.f (F.lit (Value.int IntKind.i64 i80)), V.f (F.lit (Value.int IntKind.i64 i81)), V.obj [V.f (F.lst [LT.int IntKind.i64] r82), V.f (F.lit (Value.int IntKind.i64 i83))]] => Lp6_5 m (fun s109 i110 i111 => k (Ex.exit (0 : Nat)) [V.ref (25 : Nat) (0 : Nat), V.f (F.lit (Value.string s109)), V.f (F.lit (Value.int IntKind.i64 i80)), V.f (F.lit (Value.int IntKind.i64 i110)), V.obj [V.f (F.lst [LT.int IntKind.i64] r82), V.f (F.lit (Value.int IntKind.i64 i111))]]) i80 r82 m s79 i81 i83
  | _ => L R 6 5 vs k
set_option maxRecDepth 100000 in
theorem stLp6_5 (m n : Nat) (R : Type) (s79 : ByteArray) (i80 : Int) (i81 : Int) (r82 : Abs.Rows) (i83 : Int) (k : Ex → List V → Option R) : codeK Tryd.prog H (T8 m) 6 (L2 m) 6 (loopBody Tryd.prog 6 5) (mkEnv [0, 3, 17, 18, 25] [V.ref (25 : Nat) (0 : Nat), V.f (F.lit (Value.string s79)), V.f (F.lit (Value.int IntKind.i64 i80)), V.f (F.lit (Value.int IntKind.i64 i81)), V.obj [V.f (F.lst [LT.int IntKind.i64] r82), V.f (F.lit (Value.int IntKind.i64 i83))]] 0 (H.len 6)) (fun e env' => match e with | .normal => ELp6_5 m R n (vals [0, 3, 17, 18, 25] env') k | e => k e (vals [0, 3, 17, 18, 25] env')) = Lp6_5_step m (fun s109 i110 i111 => k (Ex.exit (0 : Nat)) [V.ref (25 : Nat) (0 : Nat), V.f (F.lit (Value.string s109)), V.f (F.lit (Value.int IntKind.i64 i80)), V.f (F.lit (Value.int IntKind.i64 i110)), V.obj [V.f (F.lst [LT.int IntKind.i64] r82), V.f (F.lit (Value.int IntKind.i64 i111))]]) i80 r82 (fun s79 i81 i83 => ELp6_5 m R n [V.ref (25 : Nat) (0 : Nat), V.f (F.lit (Value.string s79)), V.f (F.lit (Value.int IntKind.i64 i80)), V.f (F.lit (Value.int IntKind.i64 i81)), V.obj [V.f (F.lst [LT.int IntKind.i64] r82), V.f (F.lit (Value.int IntKind.i64 i83))]] k) s79 i81 i83 := by kernel_rfl
theorem eqLp6_5 (m : Nat) (R : Type) (i80 : Int) (r82 : Abs.Rows) (k : Ex → List V → Option R) : ∀ (n : Nat) (s79 : ByteArray) (i81 : Int) (i83 : Int), ELp6_5 m R n [V.ref (25 : Nat) (0 : Nat), V.f (F.lit (Value.string s79)), V.f (F.lit (Value.int IntKind.i64 i80)), V.f (F.lit (Value.int IntKind.i64 i81)), V.obj [V.f (F.lst [LT.int IntKind.i64] r82), V.f (F.lit (Value.int IntKind.i64 i83))]] k = Lp6_5 m (fun s109 i110 i111 => k (Ex.exit (0 : Nat)) [V.ref (25 : Nat) (0 : Nat), V.f (F.lit (Value.string s109)), V.f (F.lit (Value.int IntKind.i64 i80)), V.f (F.lit (Value.int IntKind.i64 i110)), V.obj [V.f (F.lst [LT.int IntKind.i64] r82), V.f (F.lit (Value.int IntKind.i64 i111))]]) i80 r82 n s79 i81 i83
  | 0, _, _, _ => rfl
  | n + 1, s79, i81, i83 => by
    simp only [ELp6_5, Lp6_5]
    congr 1
    funext s79 i81 i83
    exact eqLp6_5 m R i80 r82 k n s79 i81 i83
def L3 (m : Nat) : LTbl := addB 6 5 (brLp6_5 m (L2 m)) (L2 m)
theorem okL3 (m : Nat) : LTOk Tryd.prog H (L3 m) := addB_ok (okT8 m) hM (okL2 m) (l := [0, 3, 17, 18, 25]) (by kernel_rfl) (by kernel_rfl) m (fun R n vs k => ELp6_5 m R n vs k) (fun R vs k => rfl) (fun R n vs k x h => by
      simp only [ELp6_5] at h
      split at h
      · exact (stLp6_5 m n R _ _ _ _ _ k).trans h
      · cases h) fun R vs k x h => by
    unfold brLp6_5 at h
    split at h
    · exact .inl ((eqLp6_5 m R _ _ k m _ _ _).trans h)
    · exact .inr h

/-- a rest of (*hookflash/flashmake.Stream).Pattern -/
def Jn6_3 {R : Type} (m : Nat) (kx0 : ByteArray → ByteArray → Int → Option R) (s66 : ByteArray) (s67 : ByteArray) (r68 : Abs.Rows) (i69 : Int) : Option R :=
  Fn37 m r68 i69 ([[F.lit (Value.int IntKind.i64 (0 : Int))], [F.lit (Value.int IntKind.i64 (0 : Int))], [F.lit (Value.int IntKind.i64 (0 : Int))], [F.lit (Value.int IntKind.i64 (0 : Int))], [F.lit (Value.int IntKind.i64 (1 : Int))]]) (fun i77 i78 => Lp6_5 m (fun s112 i113 i114 => kx0 s112 s112 i114) i77 r68 m s67 ((0 : Int)) i78)
def brJn6_3 (m : Nat) (L : LTbl) (R : Type) (vs : List V) (k : Ex → List V → Option R) : Option R := match vs with
  | [V.ref (25 : Nat) (0 : Nat), V.f (F.lit (Value.string s66)), V.f (F.lit (Value.string s67)), V.obj [V.f (F.lst [LT.int IntKind.i64] r68), V.f (F.lit (Value.int IntKind.i64 i69))]] => Jn6_3 m (fun s115 s116 i117 => k Ex.ret [V.ref (25 : Nat) (0 : Nat), V.f (F.lit (Value.string s115)), V.f (F.lit (Value.string s116)), V.obj [V.f (F.lst [LT.int IntKind.i64] r68), V.f (F.lit (Value.int IntKind.i64 i117))]]) s66 s67 r68 i69
  | _ => L R 6 3 vs k
set_option maxRecDepth 100000 in
theorem evJn6_3 (m : Nat) (R : Type) (s66 : ByteArray) (s67 : ByteArray) (r68 : Abs.Rows) (i69 : Int) (k : Ex → List V → Option R) : codeK Tryd.prog H (T8 m) 6 (L3 m) 4 (loopBody Tryd.prog 6 3) (mkEnv [0, 2, 3, 25] [V.ref (25 : Nat) (0 : Nat), V.f (F.lit (Value.string s66)), V.f (F.lit (Value.string s67)), V.obj [V.f (F.lst [LT.int IntKind.i64] r68), V.f (F.lit (Value.int IntKind.i64 i69))]] 0 (H.len 6)) (fun e env' => k e (vals [0, 2, 3, 25] env')) = Jn6_3 m (fun s115 s116 i117 => k Ex.ret [V.ref (25 : Nat) (0 : Nat), V.f (F.lit (Value.string s115)), V.f (F.lit (Value.string s116)), V.obj [V.f (F.lst [LT.int IntKind.i64] r68), V.f (F.lit (Value.int IntKind.i64 i117))]]) s66 s67 r68 i69 := by kernel_rfl
def L4 (m : Nat) : LTbl := addJ 6 3 (brJn6_3 m (L3 m)) (L3 m)
theorem okL4 (m : Nat) : LTOk Tryd.prog H (L4 m) := addJ_ok (okT8 m) hM (okL3 m) (l := [0, 2, 3, 25]) (by kernel_rfl) (by kernel_rfl) fun R vs k x h => by
    unfold brJn6_3 at h
    split at h
    · exact .inl ((evJn6_3 m R _ _ _ _ k).trans h)
    · exact .inr h

/-- (*hookflash/flashmake.Stream).Pattern -/
def Fn6 {R : Type} (m : Nat) : Abs.Rows → Int → (ByteArray → Int → Option R) → Option R := match m with
  | 0 => fun _ _ _ => none
  | m + 1 => fun r2 i3 k =>
  Fn33 m r2 i3 (fun s53 i54 => Fn34 m r2 i54 ((8 : Int)) (fun b62 i63 => bif b62 then (bif repOk { data := #[(49 : UInt8)] } (31 : Int) then (bif repOk { data := #[(88 : UInt8)] } (29 : Int) then (bif repOk { data := #[(91 : UInt8), (49 : UInt8), (50 : UInt8), (93 : UInt8)] } (16 : Int) then (Fn35 m r2 i63 ([[F.lit (Value.string { data := #[] })], [F.lit (Value.string { data := #[(46 : UInt8)] })], [F.lit (Value.string { data := #[(33 : UInt8)] })], [F.lit (Value.string { data := #[(91 : UInt8), (49 : UInt8), (50 : UInt8), (51 : UInt8), (93 : UInt8)] })], [F.lit (Value.string { data := #[(91 : UInt8), (50 : UInt8), (45 : UInt8), (57 : UInt8), (93 : UInt8)] })], [F.lit (Value.string { data := #[(91 : UInt8), (49 : UInt8), (93 : UInt8)] })], [F.lit (Value.string { data := #[(91 : UInt8), (93 : UInt8)] })], [F.lit (Value.string { data := #[(91 : UInt8), (50 : UInt8), (49 : UInt8), (93 : UInt8)] })], [F.lit (Value.string { data := #[(49 : UInt8), (46 : UInt8), (50 : UInt8)] })], [F.lit (Value.string { data := #[(91 : UInt8), (49 : UInt8), (45 : UInt8), (50 : UInt8), (93 : UInt8)] })], [F.lit (Value.string { data := #[(88 : UInt8), (33 : UInt8), (33 : UInt8)] })], [F.lit (Value.string { data := #[(65 : UInt8)] })], [F.lit (Value.string { data := #[(91 : UInt8), (48 : UInt8), (45 : UInt8), (57 : UInt8), (93 : UInt8)] })], [F.lit (Value.string { data := #[(91 : UInt8), (49 : UInt8), (51 : UInt8)] })], [F.lit (Value.string { data := #[(93 : UInt8)] })], [F.lit (Value.string (repB { data := #[(49 : UInt8)] } (31 : Int)))], [F.lit (Value.string (repB { data := #[(88 : UInt8)] } (29 : Int) ++ { data := #[(33 : UInt8)] }))], [F.lit (Value.string (repB { data := #[(91 : UInt8), (49 : UInt8), (50 : UInt8), (93 : UInt8)] } (16 : Int)))]]) (fun s64 i65 => Jn6_3 m (fun s118 s119 i120 => k s118 i120) ({ data := #[] }) s64 r2 i65)) else
  (none)) else
  (none)) else
  (none)) else
  (Jn6_3 m (fun s121 s122 i123 => k s121 i123) ({ data := #[] }) s53 r2 i63)))
def brFn6 (m : Nat) (T : Tbl) (R : Type) (vs : List V) (k : V → List V → Option R) : Option R := match vs with
  | [V.obj [V.f (F.lst [LT.int IntKind.i64] r2), V.f (F.lit (Value.int IntKind.i64 i3))]] => Fn6 m r2 i3 (fun s124 i125 => k (V.f (F.lit (Value.string s124))) [V.obj [V.f (F.lst [LT.int IntKind.i64] r2), V.f (F.lit (Value.int IntKind.i64 i125))]])
  | _ => T R 6 vs k
set_option maxRecDepth 100000 in
theorem evFn6 (m : Nat) (R : Type) (r2 : Abs.Rows) (i3 : Int) (k : V → List V → Option R) : runK Tryd.prog H (T8 m) (L4 m) 6 [V.obj [V.f (F.lst [LT.int IntKind.i64] r2), V.f (F.lit (Value.int IntKind.i64 i3))]] k = Fn6 (m + 1) r2 i3 (fun s124 i125 => k (V.f (F.lit (Value.string s124))) [V.obj [V.f (F.lst [LT.int IntKind.i64] r2), V.f (F.lit (Value.int IntKind.i64 i125))]]) := by kernel_rfl
def T9 (m : Nat) : Tbl := addT 6 (brFn6 m (T8 m)) (T8 m)
theorem okT9 (m : Nat) : TblOk Tryd.prog (T9 m) := addT_ok (okT8 m) fun R vs k x h => by
  unfold brFn6 at h
  split at h
  · cases m with
    | zero => cases h
    | succ m => exact runK_some (okT8 m) hM (okL4 m) ((evFn6 m R _ _ k).trans h)
  · exact okT8 m R 6 _ k x h

/-- internal/stringslite.IndexByte -/
def Fn83 {R : Type} (m : Nat) : ByteArray → Int → (Int → Option R) → Option R := match m with
  | 0 => fun _ _ _ => none
  | m + 1 => fun s154 i155 k =>
  k (idxByte s154 i155)
def brFn83 (m : Nat) (T : Tbl) (R : Type) (vs : List V) (k : V → List V → Option R) : Option R := match vs with
  | [V.f (F.lit (Value.string s154)), V.f (F.lit (Value.int IntKind.u8 i155))] => Fn83 m s154 i155 (fun i156 => k (V.f (F.lit (Value.int IntKind.i64 i156))) [V.undef, V.undef])
  | _ => T R 83 vs k
set_option maxRecDepth 100000 in
theorem evFn83 (m : Nat) (R : Type) (s154 : ByteArray) (i155 : Int) (k : V → List V → Option R) : runK Tryd.prog H (T9 m) (L4 m) 83 [V.f (F.lit (Value.string s154)), V.f (F.lit (Value.int IntKind.u8 i155))] k = Fn83 (m + 1) s154 i155 (fun i156 => k (V.f (F.lit (Value.int IntKind.i64 i156))) [V.undef, V.undef]) := by kernel_rfl
def T10 (m : Nat) : Tbl := addT 83 (brFn83 m (T9 m)) (T9 m)
theorem okT10 (m : Nat) : TblOk Tryd.prog (T10 m) := addT_ok (okT9 m) fun R vs k x h => by
  unfold brFn83 at h
  split at h
  · cases m with
    | zero => cases h
    | succ m => exact runK_some (okT9 m) hM (okL4 m) ((evFn83 m R _ _ k).trans h)
  · exact okT9 m R 83 _ k x h

/-- strings.IndexByte -/
def Fn42 {R : Type} (m : Nat) : ByteArray → Int → (Int → Option R) → Option R := match m with
  | 0 => fun _ _ _ => none
  | m + 1 => fun s152 i153 k =>
  Fn83 m s152 i153 (fun i157 => k i157)
def brFn42 (m : Nat) (T : Tbl) (R : Type) (vs : List V) (k : V → List V → Option R) : Option R := match vs with
  | [V.f (F.lit (Value.string s152)), V.f (F.lit (Value.int IntKind.u8 i153))] => Fn42 m s152 i153 (fun i158 => k (V.f (F.lit (Value.int IntKind.i64 i158))) [V.undef, V.undef])
  | _ => T R 42 vs k
set_option maxRecDepth 100000 in
theorem evFn42 (m : Nat) (R : Type) (s152 : ByteArray) (i153 : Int) (k : V → List V → Option R) : runK Tryd.prog H (T10 m) (L4 m) 42 [V.f (F.lit (Value.string s152)), V.f (F.lit (Value.int IntKind.u8 i153))] k = Fn42 (m + 1) s152 i153 (fun i158 => k (V.f (F.lit (Value.int IntKind.i64 i158))) [V.undef, V.undef]) := by kernel_rfl
def T11 (m : Nat) : Tbl := addT 42 (brFn42 m (T10 m)) (T10 m)
theorem okT11 (m : Nat) : TblOk Tryd.prog (T11 m) := addT_ok (okT10 m) fun R vs k x h => by
  unfold brFn42 at h
  split at h
  · cases m with
    | zero => cases h
    | succ m => exact runK_some (okT10 m) hM (okL4 m) ((evFn42 m R _ _ k).trans h)
  · exact okT10 m R 42 _ k x h

/-- hookflash/dialplan.only -/
def Fn85 {R : Type} (m : Nat) : Int → (Int → Option R) → Option R := match m with
  | 0 => fun _ _ => none
  | m + 1 => fun i151 k =>
  Fn42 m ({ data := #[(35 : UInt8), (42 : UInt8), (48 : UInt8), (49 : UInt8), (50 : UInt8), (51 : UInt8), (52 : UInt8), (53 : UInt8), (54 : UInt8), (55 : UInt8), (56 : UInt8), (57 : UInt8)] }) i151 (fun i159 => bif decide ((0 : Int) ≤ i159) then (k (IntKind.wrap IntKind.u16 ((1 : Int) * (2 : Int) ^ min (Int.toNat i159) (16 : Nat)))) else
  (none))
def brFn85 (m : Nat) (T : Tbl) (R : Type) (vs : List V) (k : V → List V → Option R) : Option R := match vs with
  | [V.f (F.lit (Value.int IntKind.u8 i151))] => Fn85 m i151 (fun i160 => k (V.f (F.lit (Value.int IntKind.u16 i160))) [V.undef])
  | _ => T R 85 vs k
set_option maxRecDepth 100000 in
theorem evFn85 (m : Nat) (R : Type) (i151 : Int) (k : V → List V → Option R) : runK Tryd.prog H (T11 m) (L4 m) 85 [V.f (F.lit (Value.int IntKind.u8 i151))] k = Fn85 (m + 1) i151 (fun i160 => k (V.f (F.lit (Value.int IntKind.u16 i160))) [V.undef]) := by kernel_rfl
def T12 (m : Nat) : Tbl := addT 85 (brFn85 m (T11 m)) (T11 m)
theorem okT12 (m : Nat) : TblOk Tryd.prog (T12 m) := addT_ok (okT11 m) fun R vs k x h => by
  unfold brFn85 at h
  split at h
  · cases m with
    | zero => cases h
    | succ m => exact runK_some (okT11 m) hM (okL4 m) ((evFn85 m R _ k).trans h)
  · exact okT11 m R 85 _ k x h

/-- a round of a loop of hookflash/dialplan.from -/
def Lp100_3_step {R : Type} (m : Nat) (kx0 : Int → Int → Option R) (i148 : Int) (REC : Int → Int → Option R) (i149 : Int) (i150 : Int) : Option R :=
  bif decide (i150 ≤ i148) then (Fn85 m i150 (fun i161 => REC (bitsOp IntKind.u16 (BitVec.ofInt (16 : Nat) i149 ||| BitVec.ofInt (16 : Nat) i161)) (IntKind.wrap IntKind.u8 (i150 + (1 : Int))))) else
  (kx0 i149 i150)
def Lp100_3 {R : Type} (m : Nat) (kx0 : Int → Int → Option R) (i148 : Int) : Nat → Int → Int → Option R
  | 0, _, _ => none
  | n + 1, i149, i150 => Lp100_3_step m kx0 i148 (Lp100_3 m kx0 i148 n) i149 i150
def ELp100_3 (m : Nat) (R : Type) : Nat → List V → (Ex → List V → Option R) → Option R
  | 0, _, _ => none
  | n + 1, vs, k => match vs with
    | [V.f (F.lit (Value.int IntKind.u8 i148)), V.f (F.lit (Value.int IntKind.u16 i149)), V.f (F.lit (Value.int IntKind.u8 i150)), V.undef, V.undef] => Lp100_3_step m (fun i162 i163 => k (Ex.exit (0 : Nat)) [V.f (F.lit (Value.int IntKind.u8 i148)), V.f (F.lit (Value.int IntKind.u16 i162)), V.f (F.lit (Value.int IntKind.u8 i163)), V.undef, V.undef]) i148 (fun i149 i150 => ELp100_3 m R n [V.f (F.lit (Value.int IntKind.u8 i148)), V.f (F.lit (Value.int IntKind.u16 i149)), V.f (F.lit (Value.int IntKind.u8 i150)), V.undef, V.undef] k) i149 i150
    | _ => none
def brLp100_3 (m : Nat) (L : LTbl) (R : Type) (vs : List V) (k : Ex → List V → Option R) : Option R := match vs with
  | [V.f (F.lit (Value.int IntKind.u8 i148)), V.f (F.lit (Value.int IntKind.u16 i149)), V.f (F.lit (Value.int IntKind.u8 i150)), V.undef, V.undef] => Lp100_3 m (fun i162 i163 => k (Ex.exit (0 : Nat)) [V.f (F.lit (Value.int IntKind.u8 i148)), V.f (F.lit (Value.int IntKind.u16 i162)), V.f (F.lit (Value.int IntKind.u8 i163)), V.undef, V.undef]) i148 m i149 i150
  | _ => L R 100 3 vs k
set_option maxRecDepth 100000 in
theorem stLp100_3 (m n : Nat) (R : Type) (i148 : Int) (i149 : Int) (i150 : Int) (k : Ex → List V → Option R) : codeK Tryd.prog H (T12 m) 100 (L4 m) 4 (loopBody Tryd.prog 100 3) (mkEnv [1, 5, 6, 18, 19] [V.f (F.lit (Value.int IntKind.u8 i148)), V.f (F.lit (Value.int IntKind.u16 i149)), V.f (F.lit (Value.int IntKind.u8 i150)), V.undef, V.undef] 0 (H.len 100)) (fun e env' => match e with | .normal => ELp100_3 m R n (vals [1, 5, 6, 18, 19] env') k | e => k e (vals [1, 5, 6, 18, 19] env')) = Lp100_3_step m (fun i162 i163 => k (Ex.exit (0 : Nat)) [V.f (F.lit (Value.int IntKind.u8 i148)), V.f (F.lit (Value.int IntKind.u16 i162)), V.f (F.lit (Value.int IntKind.u8 i163)), V.undef, V.undef]) i148 (fun i149 i150 => ELp100_3 m R n [V.f (F.lit (Value.int IntKind.u8 i148)), V.f (F.lit (Value.int IntKind.u16 i149)), V.f (F.lit (Value.int IntKind.u8 i150)), V.undef, V.undef] k) i149 i150 := by kernel_rfl
theorem eqLp100_3 (m : Nat) (R : Type) (i148 : Int) (k : Ex → List V → Option R) : ∀ (n : Nat) (i149 : Int) (i150 : Int), ELp100_3 m R n [V.f (F.lit (Value.int IntKind.u8 i148)), V.f (F.lit (Value.int IntKind.u16 i149)), V.f (F.lit (Value.int IntKind.u8 i150)), V.undef, V.undef] k = Lp100_3 m (fun i162 i163 => k (Ex.exit (0 : Nat)) [V.f (F.lit (Value.int IntKind.u8 i148)), V.f (F.lit (Value.int IntKind.u16 i162)), V.f (F.lit (Value.int IntKind.u8 i163)), V.undef, V.undef]) i148 n i149 i150
  | 0, _, _ => rfl
  | n + 1, i149, i150 => by
    simp only [ELp100_3, Lp100_3]
    congr 1
    funext i149 i150
    exact eqLp100_3 m R i148 k n i149 i150
def L5 (m : Nat) : LTbl := addB 100 3 (brLp100_3 m (L4 m)) (L4 m)
theorem okL5 (m : Nat) : LTOk Tryd.prog H (L5 m) := addB_ok (okT12 m) hM (okL4 m) (l := [1, 5, 6, 18, 19]) (by kernel_rfl) (by kernel_rfl) m (fun R n vs k => ELp100_3 m R n vs k) (fun R vs k => rfl) (fun R n vs k x h => by
      simp only [ELp100_3] at h
      split at h
      · exact (stLp100_3 m n R _ _ _ k).trans h
      · cases h) fun R vs k x h => by
    unfold brLp100_3 at h
    split at h
    · exact .inl ((eqLp100_3 m R _ k m _ _).trans h)
    · exact .inr h

/-- hookflash/dialplan.from -/
def Fn100 {R : Type} (m : Nat) : Int → Int → (Int → Option R) → Option R := match m with
  | 0 => fun _ _ _ => none
  | m + 1 => fun i146 i147 k =>
  Lp100_3 m (fun i164 i165 => k i164) i147 m ((0 : Int)) i146
def brFn100 (m : Nat) (T : Tbl) (R : Type) (vs : List V) (k : V → List V → Option R) : Option R := match vs with
  | [V.f (F.lit (Value.int IntKind.u8 i146)), V.f (F.lit (Value.int IntKind.u8 i147))] => Fn100 m i146 i147 (fun i166 => k (V.f (F.lit (Value.int IntKind.u16 i166))) [V.undef, V.undef])
  | _ => T R 100 vs k
set_option maxRecDepth 100000 in
theorem evFn100 (m : Nat) (R : Type) (i146 : Int) (i147 : Int) (k : V → List V → Option R) : runK Tryd.prog H (T12 m) (L5 m) 100 [V.f (F.lit (Value.int IntKind.u8 i146)), V.f (F.lit (Value.int IntKind.u8 i147))] k = Fn100 (m + 1) i146 i147 (fun i166 => k (V.f (F.lit (Value.int IntKind.u16 i166))) [V.undef, V.undef]) := by kernel_rfl
def T13 (m : Nat) : Tbl := addT 100 (brFn100 m (T12 m)) (T12 m)
theorem okT13 (m : Nat) : TblOk Tryd.prog (T13 m) := addT_ok (okT12 m) fun R vs k x h => by
  unfold brFn100 at h
  split at h
  · cases m with
    | zero => cases h
    | succ m => exact runK_some (okT12 m) hM (okL5 m) ((evFn100 m R _ _ k).trans h)
  · exact okT12 m R 100 _ k x h

/-- a rest of hookflash/dialplan.readSet -/
def Jn101_15 {R : Type} (m : Nat) (kx0 : Int → Int → Bool → Option R) (s185 : ByteArray) (i186 : Int) (i187 : Int) (i188 : Int) (i189 : Int) (i190 : Int) (i191 : Int) (i192 : Int) (b193 : Bool) : Option R :=
  bif b193 then (bif decide ((0 : Int) ≤ IntKind.wrap IntKind.i64 (i190 + (2 : Int)) ∧ IntKind.wrap IntKind.i64 (i190 + (2 : Int)) < (↑(ByteArray.size s185) : Int)) then (kx0 (IntKind.wrap IntKind.i64 (i190 + (2 : Int))) ((↑(UInt8.toNat (Array.getD (ByteArray.data s185) (Int.toNat (IntKind.wrap IntKind.i64 (i190 + (2 : Int)))) (0 : UInt8))) : Int)) true) else
  (none)) else
  (kx0 i190 i192 false)
def brJn101_15 (m : Nat) (L : LTbl) (R : Type) (vs : List V) (k : Ex → List V → Option R) : Option R := match vs with
  | [V.f (F.lit (Value.string s185)), V.f (F.lit (Value.int IntKind.u16 i186)), V.f (F.lit (Value.int IntKind.i64 i187)), V.f (F.lit (Value.int IntKind.i64 i188)), V.f (F.lit (Value.int IntKind.u16 i189)), V.f (F.lit (Value.int IntKind.i64 i190)), V.f (F.lit (Value.int IntKind.u8 i191)), V.f (F.lit (Value.int IntKind.u8 i192)), V.f (F.lit (Value.bool b193)), V.undef] => Jn101_15 m (fun i194 i195 b196 => k Ex.normal [V.f (F.lit (Value.string s185)), V.f (F.lit (Value.int IntKind.u16 i186)), V.f (F.lit (Value.int IntKind.i64 i187)), V.f (F.lit (Value.int IntKind.i64 i188)), V.f (F.lit (Value.int IntKind.u16 i189)), V.f (F.lit (Value.int IntKind.i64 i194)), V.f (F.lit (Value.int IntKind.u8 i191)), V.f (F.lit (Value.int IntKind.u8 i195)), V.f (F.lit (Value.bool b196)), V.undef]) s185 i186 i187 i188 i189 i190 i191 i192 b193
  | _ => L R 101 15 vs k
set_option maxRecDepth 100000 in
theorem evJn101_15 (m : Nat) (R : Type) (s185 : ByteArray) (i186 : Int) (i187 : Int) (i188 : Int) (i189 : Int) (i190 : Int) (i191 : Int) (i192 : Int) (b193 : Bool) (k : Ex → List V → Option R) : codeK Tryd.prog H (T13 m) 101 (L5 m) 16 (loopBody Tryd.prog 101 15) (mkEnv [0, 2, 3, 4, 5, 6, 7, 8, 53, 94] [V.f (F.lit (Value.string s185)), V.f (F.lit (Value.int IntKind.u16 i186)), V.f (F.lit (Value.int IntKind.i64 i187)), V.f (F.lit (Value.int IntKind.i64 i188)), V.f (F.lit (Value.int IntKind.u16 i189)), V.f (F.lit (Value.int IntKind.i64 i190)), V.f (F.lit (Value.int IntKind.u8 i191)), V.f (F.lit (Value.int IntKind.u8 i192)), V.f (F.lit (Value.bool b193)), V.undef] 0 (H.len 101)) (fun e env' => k e (vals [0, 2, 3, 4, 5, 6, 7, 8, 53, 94] env')) = Jn101_15 m (fun i194 i195 b196 => k Ex.normal [V.f (F.lit (Value.string s185)), V.f (F.lit (Value.int IntKind.u16 i186)), V.f (F.lit (Value.int IntKind.i64 i187)), V.f (F.lit (Value.int IntKind.i64 i188)), V.f (F.lit (Value.int IntKind.u16 i189)), V.f (F.lit (Value.int IntKind.i64 i194)), V.f (F.lit (Value.int IntKind.u8 i191)), V.f (F.lit (Value.int IntKind.u8 i195)), V.f (F.lit (Value.bool b196)), V.undef]) s185 i186 i187 i188 i189 i190 i191 i192 b193 := by kernel_rfl
def L6 (m : Nat) : LTbl := addJ 101 15 (brJn101_15 m (L5 m)) (L5 m)
theorem okL6 (m : Nat) : LTOk Tryd.prog H (L6 m) := addJ_ok (okT13 m) hM (okL5 m) (l := [0, 2, 3, 4, 5, 6, 7, 8, 53, 94]) (by kernel_rfl) (by kernel_rfl) fun R vs k x h => by
    unfold brJn101_15 at h
    split at h
    · exact .inl ((evJn101_15 m R _ _ _ _ _ _ _ _ _ k).trans h)
    · exact .inr h

/-- a rest of hookflash/dialplan.readSet -/
def Jn101_13 {R : Type} (m : Nat) (kx0 : Int → Int → Option R) (s178 : ByteArray) (i179 : Int) (i180 : Int) (i181 : Int) (i182 : Int) (i183 : Int) (i184 : Int) : Option R :=
  bif decide (IntKind.wrap IntKind.i64 (i183 + (2 : Int)) < i181) then (bif decide ((0 : Int) ≤ IntKind.wrap IntKind.i64 (i183 + (1 : Int)) ∧ IntKind.wrap IntKind.i64 (i183 + (1 : Int)) < (↑(ByteArray.size s178) : Int)) then (bif (↑(UInt8.toNat (Array.getD (ByteArray.data s178) (Int.toNat (IntKind.wrap IntKind.i64 (i183 + (1 : Int)))) (0 : UInt8))) : Int) == (45 : Int) then (bif decide ((0 : Int) ≤ IntKind.wrap IntKind.i64 (i183 + (2 : Int)) ∧ IntKind.wrap IntKind.i64 (i183 + (2 : Int)) < (↑(ByteArray.size s178) : Int)) then (bif decide ((↑(UInt8.toNat (Array.getD (ByteArray.data s178) (Int.toNat (IntKind.wrap IntKind.i64 (i183 + (2 : Int)))) (0 : UInt8))) : Int) > i184) then (bif decide ((0 : Int) ≤ IntKind.wrap IntKind.i64 (i183 + (2 : Int)) ∧ IntKind.wrap IntKind.i64 (i183 + (2 : Int)) < (↑(ByteArray.size s178) : Int)) then (Jn101_15 m (fun i197 i198 b199 => Fn100 m i184 i198 (fun i200 => kx0 (bitsOp IntKind.u16 (BitVec.ofInt (16 : Nat) i182 ||| BitVec.ofInt (16 : Nat) i200)) i197)) s178 i179 i180 i181 i182 i183 i184 i184 (decide ((↑(UInt8.toNat (Array.getD (ByteArray.data s178) (Int.toNat (IntKind.wrap IntKind.i64 (i183 + (2 : Int)))) (0 : UInt8))) : Int) ≤ (57 : Int)))) else
  (none)) else
  (Jn101_15 m (fun i201 i202 b203 => Fn100 m i184 i202 (fun i204 => kx0 (bitsOp IntKind.u16 (BitVec.ofInt (16 : Nat) i182 ||| BitVec.ofInt (16 : Nat) i204)) i201)) s178 i179 i180 i181 i182 i183 i184 i184 false)) else
  (none)) else
  (Jn101_15 m (fun i205 i206 b207 => Fn100 m i184 i206 (fun i208 => kx0 (bitsOp IntKind.u16 (BitVec.ofInt (16 : Nat) i182 ||| BitVec.ofInt (16 : Nat) i208)) i205)) s178 i179 i180 i181 i182 i183 i184 i184 false)) else
  (none)) else
  (Jn101_15 m (fun i209 i210 b211 => Fn100 m i184 i210 (fun i212 => kx0 (bitsOp IntKind.u16 (BitVec.ofInt (16 : Nat) i182 ||| BitVec.ofInt (16 : Nat) i212)) i209)) s178 i179 i180 i181 i182 i183 i184 i184 false)
def brJn101_13 (m : Nat) (L : LTbl) (R : Type) (vs : List V) (k : Ex → List V → Option R) : Option R := match vs with
  | [V.f (F.lit (Value.string s178)), V.f (F.lit (Value.int IntKind.u16 i179)), V.f (F.lit (Value.int IntKind.i64 i180)), V.f (F.lit (Value.int IntKind.i64 i181)), V.f (F.lit (Value.int IntKind.u16 i182)), V.f (F.lit (Value.int IntKind.i64 i183)), V.f (F.lit (Value.int IntKind.u8 i184)), V.undef] => Jn101_13 m (fun i213 i214 => k Ex.normal [V.f (F.lit (Value.string s178)), V.f (F.lit (Value.int IntKind.u16 i179)), V.f (F.lit (Value.int IntKind.i64 i180)), V.f (F.lit (Value.int IntKind.i64 i181)), V.f (F.lit (Value.int IntKind.u16 i213)), V.f (F.lit (Value.int IntKind.i64 i214)), V.f (F.lit (Value.int IntKind.u8 i184)), V.undef]) s178 i179 i180 i181 i182 i183 i184
  | _ => L R 101 13 vs k
set_option maxRecDepth 100000 in
theorem evJn101_13 (m : Nat) (R : Type) (s178 : ByteArray) (i179 : Int) (i180 : Int) (i181 : Int) (i182 : Int) (i183 : Int) (i184 : Int) (k : Ex → List V → Option R) : codeK Tryd.prog H (T13 m) 101 (L6 m) 14 (loopBody Tryd.prog 101 13) (mkEnv [0, 2, 3, 4, 5, 6, 7, 94] [V.f (F.lit (Value.string s178)), V.f (F.lit (Value.int IntKind.u16 i179)), V.f (F.lit (Value.int IntKind.i64 i180)), V.f (F.lit (Value.int IntKind.i64 i181)), V.f (F.lit (Value.int IntKind.u16 i182)), V.f (F.lit (Value.int IntKind.i64 i183)), V.f (F.lit (Value.int IntKind.u8 i184)), V.undef] 0 (H.len 101)) (fun e env' => k e (vals [0, 2, 3, 4, 5, 6, 7, 94] env')) = Jn101_13 m (fun i213 i214 => k Ex.normal [V.f (F.lit (Value.string s178)), V.f (F.lit (Value.int IntKind.u16 i179)), V.f (F.lit (Value.int IntKind.i64 i180)), V.f (F.lit (Value.int IntKind.i64 i181)), V.f (F.lit (Value.int IntKind.u16 i213)), V.f (F.lit (Value.int IntKind.i64 i214)), V.f (F.lit (Value.int IntKind.u8 i184)), V.undef]) s178 i179 i180 i181 i182 i183 i184 := by kernel_rfl
def L7 (m : Nat) : LTbl := addJ 101 13 (brJn101_13 m (L6 m)) (L6 m)
theorem okL7 (m : Nat) : LTOk Tryd.prog H (L7 m) := addJ_ok (okT13 m) hM (okL6 m) (l := [0, 2, 3, 4, 5, 6, 7, 94]) (by kernel_rfl) (by kernel_rfl) fun R vs k x h => by
    unfold brJn101_13 at h
    split at h
    · exact .inl ((evJn101_13 m R _ _ _ _ _ _ _ k).trans h)
    · exact .inr h

/-- a round of a loop of hookflash/dialplan.readSet -/
def Lp101_7_step {R : Type} (m : Nat) (kx0 : Int → Int → Int → Int → Option R) (kx1 : Int → Int → Option R) (s172 : ByteArray) (i173 : Int) (i174 : Int) (i175 : Int) (REC : Int → Int → Option R) (i176 : Int) (i177 : Int) : Option R :=
  bif decide (i177 < i175) then (bif decide ((0 : Int) ≤ i177 ∧ i177 < (↑(ByteArray.size s172) : Int)) then (bif decide ((↑(UInt8.toNat (Array.getD (ByteArray.data s172) (Int.toNat i177) (0 : UInt8))) : Int) < (48 : Int)) then (kx0 ((0 : Int)) ((0 : Int)) i176 i177) else
  (bif decide ((↑(UInt8.toNat (Array.getD (ByteArray.data s172) (Int.toNat i177) (0 : UInt8))) : Int) > (57 : Int)) then (kx0 ((0 : Int)) ((0 : Int)) i176 i177) else
  (Jn101_13 m (fun i215 i216 => REC i215 (IntKind.wrap IntKind.i64 (i216 + (1 : Int)))) s172 i173 i174 i175 i176 i177 ((↑(UInt8.toNat (Array.getD (ByteArray.data s172) (Int.toNat i177) (0 : UInt8))) : Int))))) else
  (none)) else
  (kx1 i176 i177)
def Lp101_7 {R : Type} (m : Nat) (kx0 : Int → Int → Int → Int → Option R) (kx1 : Int → Int → Option R) (s172 : ByteArray) (i173 : Int) (i174 : Int) (i175 : Int) : Nat → Int → Int → Option R
  | 0, _, _ => none
  | n + 1, i176, i177 => Lp101_7_step m kx0 kx1 s172 i173 i174 i175 (Lp101_7 m kx0 kx1 s172 i173 i174 i175 n) i176 i177
def ELp101_7 (m : Nat) (R : Type) : Nat → List V → (Ex → List V → Option R) → Option R
  | 0, _, _ => none
  | n + 1, vs, k => match vs with
    | [V.f (F.lit (Value.string s172)), V.f (F.lit (Value.int IntKind.u16 i173)), V.f (F.lit (Value.int IntKind.i64 i174)), V.f (F.lit (Value.int IntKind.i64 i175)), V.f (F.lit (Value.int IntKind.u16 i176)), V.f (F.lit (Value.int IntKind.i64 i177)), V.undef] => Lp101_7_step m (fun i217 i218 i219 i220 => k Ex.ret [V.f (F.lit (Value.string s172)), V.f (F.lit (Value.int IntKind.u16 i217)), V.f (F.lit (Value.int IntKind.i64 i218)), V.f (F.lit (Value.int IntKind.i64 i175)), V.f (F.lit (Value.int IntKind.u16 i219)), V.f (F.lit (Value.int IntKind.i64 i220)), V.undef]) (fun i221 i222 => k (Ex.exit (0 : Nat)) [V.f (F.lit (Value.string s172)), V.f (F.lit (Value.int IntKind.u16 i173)), V.f (F.lit (Value.int IntKind.i64 i174)), V.f (F.lit (Value.int IntKind.i64 i175)), V.f (F.lit (Value.int IntKind.u16 i221)), V.f (F.lit (Value.int IntKind.i64 i222)), V.undef]) s172 i173 i174 i175 (fun i176 i177 => ELp101_7 m R n [V.f (F.lit (Value.string s172)), V.f (F.lit (Value.int IntKind.u16 i173)), V.f (F.lit (Value.int IntKind.i64 i174)), V.f (F.lit (Value.int IntKind.i64 i175)), V.f (F.lit (Value.int IntKind.u16 i176)), V.f (F.lit (Value.int IntKind.i64 i177)), V.undef] k) i176 i177
    | _ => none
def brLp101_7 (m : Nat) (L : LTbl) (R : Type) (vs : List V) (k : Ex → List V → Option R) : Option R := match vs with
  | [V.f (F.lit (Value.string s172)), V.f (F.lit (Value.int IntKind.u16 i173)), V.f (F.lit (Value.int IntKind.i64 i174)), V.f (F.lit (Value.int IntKind.i64 i175)), V.f (F.lit (Value.int IntKind.u16 i176)), V.f (F.lit (Value.int IntKind.i64 i177)), V.undef] => Lp101_7 m (fun i217 i218 i219 i220 => k Ex.ret [V.f (F.lit (Value.string s172)), V.f (F.lit (Value.int IntKind.u16 i217)), V.f (F.lit (Value.int IntKind.i64 i218)), V.f (F.lit (Value.int IntKind.i64 i175)), V.f (F.lit (Value.int IntKind.u16 i219)), V.f (F.lit (Value.int IntKind.i64 i220)), V.undef]) (fun i221 i222 => k (Ex.exit (0 : Nat)) [V.f (F.lit (Value.string s172)), V.f (F.lit (Value.int IntKind.u16 i173)), V.f (F.lit (Value.int IntKind.i64 i174)), V.f (F.lit (Value.int IntKind.i64 i175)), V.f (F.lit (Value.int IntKind.u16 i221)), V.f (F.lit (Value.int IntKind.i64 i222)), V.undef]) s172 i173 i174 i175 m i176 i177
  | _ => L R 101 7 vs k
set_option maxRecDepth 100000 in
theorem stLp101_7 (m n : Nat) (R : Type) (s172 : ByteArray) (i173 : Int) (i174 : Int) (i175 : Int) (i176 : Int) (i177 : Int) (k : Ex → List V → Option R) : codeK Tryd.prog H (T13 m) 101 (L7 m) 8 (loopBody Tryd.prog 101 7) (mkEnv [0, 2, 3, 4, 5, 6, 94] [V.f (F.lit (Value.string s172)), V.f (F.lit (Value.int IntKind.u16 i173)), V.f (F.lit (Value.int IntKind.i64 i174)), V.f (F.lit (Value.int IntKind.i64 i175)), V.f (F.lit (Value.int IntKind.u16 i176)), V.f (F.lit (Value.int IntKind.i64 i177)), V.undef] 0 (H.len 101)) (fun e env' => match e with | .normal => ELp101_7 m R n (vals [0, 2, 3, 4, 5, 6, 94] env') k | e => k e (vals [0, 2, 3, 4, 5, 6, 94] env')) = Lp101_7_step m (fun i217 i218 i219 i220 => k Ex.ret [V.f (F.lit (Value.string s172)), V.f (F.lit (Value.int IntKind.u16 i217)), V.f (F.lit (Value.int IntKind.i64 i218)), V.f (F.lit (Value.int IntKind.i64 i175)), V.f (F.lit (Value.int IntKind.u16 i219)), V.f (F.lit (Value.int IntKind.i64 i220)), V.undef]) (fun i221 i222 => k (Ex.exit (0 : Nat)) [V.f (F.lit (Value.string s172)), V.f (F.lit (Value.int IntKind.u16 i173)), V.f (F.lit (Value.int IntKind.i64 i174)), V.f (F.lit (Value.int IntKind.i64 i175)), V.f (F.lit (Value.int IntKind.u16 i221)), V.f (F.lit (Value.int IntKind.i64 i222)), V.undef]) s172 i173 i174 i175 (fun i176 i177 => ELp101_7 m R n [V.f (F.lit (Value.string s172)), V.f (F.lit (Value.int IntKind.u16 i173)), V.f (F.lit (Value.int IntKind.i64 i174)), V.f (F.lit (Value.int IntKind.i64 i175)), V.f (F.lit (Value.int IntKind.u16 i176)), V.f (F.lit (Value.int IntKind.i64 i177)), V.undef] k) i176 i177 := by kernel_rfl
theorem eqLp101_7 (m : Nat) (R : Type) (s172 : ByteArray) (i173 : Int) (i174 : Int) (i175 : Int) (k : Ex → List V → Option R) : ∀ (n : Nat) (i176 : Int) (i177 : Int), ELp101_7 m R n [V.f (F.lit (Value.string s172)), V.f (F.lit (Value.int IntKind.u16 i173)), V.f (F.lit (Value.int IntKind.i64 i174)), V.f (F.lit (Value.int IntKind.i64 i175)), V.f (F.lit (Value.int IntKind.u16 i176)), V.f (F.lit (Value.int IntKind.i64 i177)), V.undef] k = Lp101_7 m (fun i217 i218 i219 i220 => k Ex.ret [V.f (F.lit (Value.string s172)), V.f (F.lit (Value.int IntKind.u16 i217)), V.f (F.lit (Value.int IntKind.i64 i218)), V.f (F.lit (Value.int IntKind.i64 i175)), V.f (F.lit (Value.int IntKind.u16 i219)), V.f (F.lit (Value.int IntKind.i64 i220)), V.undef]) (fun i221 i222 => k (Ex.exit (0 : Nat)) [V.f (F.lit (Value.string s172)), V.f (F.lit (Value.int IntKind.u16 i173)), V.f (F.lit (Value.int IntKind.i64 i174)), V.f (F.lit (Value.int IntKind.i64 i175)), V.f (F.lit (Value.int IntKind.u16 i221)), V.f (F.lit (Value.int IntKind.i64 i222)), V.undef]) s172 i173 i174 i175 n i176 i177
  | 0, _, _ => rfl
  | n + 1, i176, i177 => by
    simp only [ELp101_7, Lp101_7]
    congr 1
    funext i176 i177
    exact eqLp101_7 m R s172 i173 i174 i175 k n i176 i177
def L8 (m : Nat) : LTbl := addB 101 7 (brLp101_7 m (L7 m)) (L7 m)
theorem okL8 (m : Nat) : LTOk Tryd.prog H (L8 m) := addB_ok (okT13 m) hM (okL7 m) (l := [0, 2, 3, 4, 5, 6, 94]) (by kernel_rfl) (by kernel_rfl) m (fun R n vs k => ELp101_7 m R n vs k) (fun R vs k => rfl) (fun R n vs k x h => by
      simp only [ELp101_7] at h
      split at h
      · exact (stLp101_7 m n R _ _ _ _ _ _ k).trans h
      · cases h) fun R vs k x h => by
    unfold brLp101_7 at h
    split at h
    · exact .inl ((eqLp101_7 m R _ _ _ _ k m _ _).trans h)
    · exact .inr h

/-- math/bits.OnesCount16 -/
def Fn126 {R : Type} (m : Nat) : Int → (Int → Option R) → Option R := match m with
  | 0 => fun _ _ => none
  | m + 1 => fun i229 k =>
  bif decide ((0 : Int) ≤ Int.fdiv i229 ((2 : Int) ^ min (Int.toNat (8 : Int)) (16 : Nat)) ∧ Int.fdiv i229 ((2 : Int) ^ min (Int.toNat (8 : Int)) (16 : Nat)) < (↑(ByteArray.size { data := #[(0 : UInt8), (1 : UInt8), (1 : UInt8), (2 : UInt8), (1 : UInt8), (2 : UInt8), (2 : UInt8), (3 : UInt8), (1 : UInt8), (2 : UInt8), (2 : UInt8), (3 : UInt8), (2 : UInt8), (3 : UInt8), (3 : UInt8), (4 : UInt8), (1 : UInt8), (2 : UInt8), (2 : UInt8), (3 : UInt8), (2 : UInt8), (3 : UInt8), (3 : UInt8), (4 : UInt8), (2 : UInt8), (3 : UInt8), (3 : UInt8), (4 : UInt8), (3 : UInt8), (4 : UInt8), (4 : UInt8), (5 : UInt8), (1 : UInt8), (2 : UInt8), (2 : UInt8), (3 : UInt8), (2 : UInt8), (3 : UInt8), (3 : UInt8), (4 : UInt8), (2 : UInt8), (3 : UInt8), (3 : UInt8), (4 : UInt8), (3 : UInt8), (4 : UInt8), (4 : UInt8), (5 : UInt8), (2 : UInt8), (3 : UInt8), (3 : UInt8), (4 : UInt8), (3 : UInt8), (4 : UInt8), (4 : UInt8), (5 : UInt8), (3 : UInt8), (4 : UInt8), (4 : UInt8), (5 : UInt8), (4 : UInt8), (5 : UInt8), (5 : UInt8), (6 : UInt8), (1 : UInt8), (2 : UInt8), (2 : UInt8), (3 : UInt8), (2 : UInt8), (3 : UInt8), (3 : UInt8), (4 : UInt8), (2 : UInt8), (3 : UInt8), (3 : UInt8), (4 : UInt8), (3 : UInt8), (4 : UInt8), (4 : UInt8), (5 : UInt8), (2 : UInt8), (3 : UInt8), (3 : UInt8), (4 : UInt8), (3 : UInt8), (4 : UInt8), (4 : UInt8), (5 : UInt8), (3 : UInt8), (4 : UInt8), (4 : UInt8), (5 : UInt8), (4 : UInt8), (5 : UInt8), (5 : UInt8), (6 : UInt8), (2 : UInt8), (3 : UInt8), (3 : UInt8), (4 : UInt8), (3 : UInt8), (4 : UInt8), (4 : UInt8), (5 : UInt8), (3 : UInt8), (4 : UInt8), (4 : UInt8), (5 : UInt8), (4 : UInt8), (5 : UInt8), (5 : UInt8), (6 : UInt8), (3 : UInt8), (4 : UInt8), (4 : UInt8), (5 : UInt8), (4 : UInt8), (5 : UInt8), (5 : UInt8), (6 : UInt8), (4 : UInt8), (5 : UInt8), (5 : UInt8), (6 : UInt8), (5 : UInt8), (6 : UInt8), (6 : UInt8), (7 : UInt8), (1 : UInt8), (2 : UInt8), (2 : UInt8), (3 : UInt8), (2 : UInt8), (3 : UInt8), (3 : UInt8), (4 : UInt8), (2 : UInt8), (3 : UInt8), (3 : UInt8), (4 : UInt8), (3 : UInt8), (4 : UInt8), (4 : UInt8), (5 : UInt8), (2 : UInt8), (3 : UInt8), (3 : UInt8), (4 : UInt8), (3 : UInt8), (4 : UInt8), (4 : UInt8), (5 : UInt8), (3 : UInt8), (4 : UInt8), (4 : UInt8), (5 : UInt8), (4 : UInt8), (5 : UInt8), (5 : UInt8), (6 : UInt8), (2 : UInt8), (3 : UInt8), (3 : UInt8), (4 : UInt8), (3 : UInt8), (4 : UInt8), (4 : UInt8), (5 : UInt8), (3 : UInt8), (4 : UInt8), (4 : UInt8), (5 : UInt8), (4 : UInt8), (5 : UInt8), (5 : UInt8), (6 : UInt8), (3 : UInt8), (4 : UInt8), (4 : UInt8), (5 : UInt8), (4 : UInt8), (5 : UInt8), (5 : UInt8), (6 : UInt8), (4 : UInt8), (5 : UInt8), (5 : UInt8), (6 : UInt8), (5 : UInt8), (6 : UInt8), (6 : UInt8), (7 : UInt8), (2 : UInt8), (3 : UInt8), (3 : UInt8), (4 : UInt8), (3 : UInt8), (4 : UInt8), (4 : UInt8), (5 : UInt8), (3 : UInt8), (4 : UInt8), (4 : UInt8), (5 : UInt8), (4 : UInt8), (5 : UInt8), (5 : UInt8), (6 : UInt8), (3 : UInt8), (4 : UInt8), (4 : UInt8), (5 : UInt8), (4 : UInt8), (5 : UInt8), (5 : UInt8), (6 : UInt8), (4 : UInt8), (5 : UInt8), (5 : UInt8), (6 : UInt8), (5 : UInt8), (6 : UInt8), (6 : UInt8), (7 : UInt8), (3 : UInt8), (4 : UInt8), (4 : UInt8), (5 : UInt8), (4 : UInt8), (5 : UInt8), (5 : UInt8), (6 : UInt8), (4 : UInt8), (5 : UInt8), (5 : UInt8), (6 : UInt8), (5 : UInt8), (6 : UInt8), (6 : UInt8), (7 : UInt8), (4 : UInt8), (5 : UInt8), (5 : UInt8), (6 : UInt8), (5 : UInt8), (6 : UInt8), (6 : UInt8), (7 : UInt8), (5 : UInt8), (6 : UInt8), (6 : UInt8), (7 : UInt8), (6 : UInt8), (7 : UInt8), (7 : UInt8), (8 : UInt8)] }) : Int)) then (bif decide ((0 : Int) ≤ bitsOp IntKind.u16 (BitVec.ofInt (16 : Nat) i229 &&& BitVec.ofInt (16 : Nat) (255 : Int)) ∧ bitsOp IntKind.u16 (BitVec.ofInt (16 : Nat) i229 &&& BitVec.ofInt (16 : Nat) (255 : Int)) < (↑(ByteArray.size { data := #[(0 : UInt8), (1 : UInt8), (1 : UInt8), (2 : UInt8), (1 : UInt8), (2 : UInt8), (2 : UInt8), (3 : UInt8), (1 : UInt8), (2 : UInt8), (2 : UInt8), (3 : UInt8), (2 : UInt8), (3 : UInt8), (3 : UInt8), (4 : UInt8), (1 : UInt8), (2 : UInt8), (2 : UInt8), (3 : UInt8), (2 : UInt8), (3 : UInt8), (3 : UInt8), (4 : UInt8), (2 : UInt8), (3 : UInt8), (3 : UInt8), (4 : UInt8), (3 : UInt8), (4 : UInt8), (4 : UInt8), (5 : UInt8), (1 : UInt8), (2 : UInt8), (2 : UInt8), (3 : UInt8), (2 : UInt8), (3 : UInt8), (3 : UInt8), (4 : UInt8), (2 : UInt8), (3 : UInt8), (3 : UInt8), (4 : UInt8), (3 : UInt8), (4 : UInt8), (4 : UInt8), (5 : UInt8), (2 : UInt8), (3 : UInt8), (3 : UInt8), (4 : UInt8), (3 : UInt8), (4 : UInt8), (4 : UInt8), (5 : UInt8), (3 : UInt8), (4 : UInt8), (4 : UInt8), (5 : UInt8), (4 : UInt8), (5 : UInt8), (5 : UInt8), (6 : UInt8), (1 : UInt8), (2 : UInt8), (2 : UInt8), (3 : UInt8), (2 : UInt8), (3 : UInt8), (3 : UInt8), (4 : UInt8), (2 : UInt8), (3 : UInt8), (3 : UInt8), (4 : UInt8), (3 : UInt8), (4 : UInt8), (4 : UInt8), (5 : UInt8), (2 : UInt8), (3 : UInt8), (3 : UInt8), (4 : UInt8), (3 : UInt8), (4 : UInt8), (4 : UInt8), (5 : UInt8), (3 : UInt8), (4 : UInt8), (4 : UInt8), (5 : UInt8), (4 : UInt8), (5 : UInt8), (5 : UInt8), (6 : UInt8), (2 : UInt8), (3 : UInt8), (3 : UInt8), (4 : UInt8), (3 : UInt8), (4 : UInt8), (4 : UInt8), (5 : UInt8), (3 : UInt8), (4 : UInt8), (4 : UInt8), (5 : UInt8), (4 : UInt8), (5 : UInt8), (5 : UInt8), (6 : UInt8), (3 : UInt8), (4 : UInt8), (4 : UInt8), (5 : UInt8), (4 : UInt8), (5 : UInt8), (5 : UInt8), (6 : UInt8), (4 : UInt8), (5 : UInt8), (5 : UInt8), (6 : UInt8), (5 : UInt8), (6 : UInt8), (6 : UInt8), (7 : UInt8), (1 : UInt8), (2 : UInt8), (2 : UInt8), (3 : UInt8), (2 : UInt8), (3 : UInt8), (3 : UInt8), (4 : UInt8), (2 : UInt8), (3 : UInt8), (3 : UInt8), (4 : UInt8), (3 : UInt8), (4 : UInt8), (4 : UInt8), (5 : UInt8), (2 : UInt8), (3 : UInt8), (3 : UInt8), (4 : UInt8), (3 : UInt8), (4 : UInt8), (4 : UInt8), (5 : UInt8), (3 : UInt8), (4 : UInt8), (4 : UInt8), (5 : UInt8), (4 : UInt8), (5 : UInt8), (5 : UInt8), (6 : UInt8), (2 : UInt8), (3 : UInt8), (3 : UInt8), (4 : UInt8), (3 : UInt8), (4 : UInt8), (4 : UInt8), (5 : UInt8), (3 : UInt8), (4 : UInt8), (4 : UInt8), (5 : UInt8), (4 : UInt8), (5 : UInt8), (5 : UInt8), (6 : UInt8), (3 : UInt8), (4 : UInt8), (4 : UInt8), (5 : UInt8), (4 : UInt8), (5 : UInt8), (5 : UInt8), (6 : UInt8), (4 : UInt8), (5 : UInt8), (5 : UInt8), (6 : UInt8), (5 : UInt8), (6 : UInt8), (6 : UInt8), (7 : UInt8), (2 : UInt8), (3 : UInt8), (3 : UInt8), (4 : UInt8), (3 : UInt8), (4 : UInt8), (4 : UInt8), (5 : UInt8), (3 : UInt8), (4 : UInt8), (4 : UInt8), (5 : UInt8), (4 : UInt8), (5 : UInt8), (5 : UInt8), (6 : UInt8), (3 : UInt8), (4 : UInt8), (4 : UInt8), (5 : UInt8), (4 : UInt8), (5 : UInt8), (5 : UInt8), (6 : UInt8), (4 : UInt8), (5 : UInt8), (5 : UInt8), (6 : UInt8), (5 : UInt8), (6 : UInt8), (6 : UInt8), (7 : UInt8), (3 : UInt8), (4 : UInt8), (4 : UInt8), (5 : UInt8), (4 : UInt8), (5 : UInt8), (5 : UInt8), (6 : UInt8), (4 : UInt8), (5 : UInt8), (5 : UInt8), (6 : UInt8), (5 : UInt8), (6 : UInt8), (6 : UInt8), (7 : UInt8), (4 : UInt8), (5 : UInt8), (5 : UInt8), (6 : UInt8), (5 : UInt8), (6 : UInt8), (6 : UInt8), (7 : UInt8), (5 : UInt8), (6 : UInt8), (6 : UInt8), (7 : UInt8), (6 : UInt8), (7 : UInt8), (7 : UInt8), (8 : UInt8)] }) : Int)) then (k (IntKind.wrap IntKind.i64 (IntKind.wrap IntKind.u8 ((↑(UInt8.toNat (Array.getD (ByteArray.data { data := #[(0 : UInt8), (1 : UInt8), (1 : UInt8), (2 : UInt8), (1 : UInt8), (2 : UInt8), (2 : UInt8), (3 : UInt8), (1 : UInt8), (2 : UInt8), (2 : UInt8), (3 : UInt8), (2 : UInt8), (3 : UInt8), (3 : UInt8), (4 : UInt8), (1 : UInt8), (2 : UInt8), (2 : UInt8), (3 : UInt8), (2 : UInt8), (3 : UInt8), (3 : UInt8), (4 : UInt8), (2 : UInt8), (3 : UInt8), (3 : UInt8), (4 : UInt8), (3 : UInt8), (4 : UInt8), (4 : UInt8), (5 : UInt8), (1 : UInt8), (2 : UInt8), (2 : UInt8), (3 : UInt8), (2 : UInt8), (3 : UInt8), (3 : UInt8), (4 : UInt8), (2 : UInt8), (3 : UInt8), (3 : UInt8), (4 : UInt8), (3 : UInt8), (4 : UInt8), (4 : UInt8), (5 : UInt8), (2 : UInt8), (3 : UInt8), (3 : UInt8), (4 : UInt8), (3 : UInt8), (4 : UInt8), (4 : UInt8), (5 : UInt8), (3 : UInt8), (4 : UInt8), (4 : UInt8), (5 : UInt8), (4 : UInt8), (5 : UInt8), (5 : UInt8), (6 : UInt8), (1 : UInt8), (2 : UInt8), (2 : UInt8), (3 : UInt8), (2 : UInt8), (3 : UInt8), (3 : UInt8), (4 : UInt8), (2 : UInt8), (3 : UInt8), (3 : UInt8), (4 : UInt8), (3 : UInt8), (4 : UInt8), (4 : UInt8), (5 : UInt8), (2 : UInt8), (3 : UInt8), (3 : UInt8), (4 : UInt8), (3 : UInt8), (4 : UInt8), (4 : UInt8), (5 : UInt8), (3 : UInt8), (4 : UInt8), (4 : UInt8), (5 : UInt8), (4 : UInt8), (5 : UInt8), (5 : UInt8), (6 : UInt8), (2 : UInt8), (3 : UInt8), (3 : UInt8), (4 : UInt8), (3 : UInt8), (4 : UInt8), (4 : UInt8), (5 : UInt8), (3 : UInt8), (4 : UInt8), (4 : UInt8), (5 : UInt8), (4 : UInt8), (5 : UInt8), (5 : UInt8), (6 : UInt8), (3 : UInt8), (4 : UInt8), (4 : UInt8), (5 : UInt8), (4 : UInt8), (5 : UInt8), (5 : UInt8), (6 : UInt8), (4 : UInt8), (5 : UInt8), (5 : UInt8), (6 : UInt8), (5 : UInt8), (6 : UInt8), (6 : UInt8), (7 : UInt8), (1 : UInt8), (2 : UInt8), (2 : UInt8), (3 : UInt8), (2 : UInt8), (3 : UInt8), (3 : UInt8), (4 : UInt8), (2 : UInt8), (3 : UInt8), (3 : UInt8), (4 : UInt8), (3 : UInt8), (4 : UInt8), (4 : UInt8), (5 : UInt8), (2 : UInt8), (3 : UInt8), (3 : UInt8), (4 : UInt8), (3 : UInt8), (4 : UInt8), (4 : UInt8), (5 : UInt8), (3 : UInt8), (4 : UInt8), (4 : UInt8), (5 : UInt8), (4 : UInt8), (5 : UInt8), (5 : UInt8), (6 : UInt8), (2 : UInt8), (3 : UInt8), (3 : UInt8), (4 : UInt8), (3 : UInt8), (4 : UInt8), (4 : UInt8), (5 : UInt8), (3 : UInt8), (4 : UInt8), (4 : UInt8), (5 : UInt8), (4 : UInt8), (5 : UInt8), (5 : UInt8), (6 : UInt8), (3 : UInt8), (4 : UInt8), (4 : UInt8), (5 : UInt8), (4 : UInt8), (5 : UInt8), (5 : UInt8), (6 : UInt8), (4 : UInt8), (5 : UInt8), (5 : UInt8), (6 : UInt8), (5 : UInt8), (6 : UInt8), (6 : UInt8), (7 : UInt8), (2 : UInt8), (3 : UInt8), (3 : UInt8), (4 : UInt8), (3 : UInt8), (4 : UInt8), (4 : UInt8), (5 : UInt8), (3 : UInt8), (4 : UInt8), (4 : UInt8), (5 : UInt8), (4 : UInt8), (5 : UInt8), (5 : UInt8), (6 : UInt8), (3 : UInt8), (4 : UInt8), (4 : UInt8), (5 : UInt8), (4 : UInt8), (5 : UInt8), (5 : UInt8), (6 : UInt8), (4 : UInt8), (5 : UInt8), (5 : UInt8), (6 : UInt8), (5 : UInt8), (6 : UInt8), (6 : UInt8), (7 : UInt8), (3 : UInt8), (4 : UInt8), (4 : UInt8), (5 : UInt8), (4 : UInt8), (5 : UInt8), (5 : UInt8), (6 : UInt8), (4 : UInt8), (5 : UInt8), (5 : UInt8), (6 : UInt8), (5 : UInt8), (6 : UInt8), (6 : UInt8), (7 : UInt8), (4 : UInt8), (5 : UInt8), (5 : UInt8), (6 : UInt8), (5 : UInt8), (6 : UInt8), (6 : UInt8), (7 : UInt8), (5 : UInt8), (6 : UInt8), (6 : UInt8), (7 : UInt8), (6 : UInt8), (7 : UInt8), (7 : UInt8), (8 : UInt8)] }) (Int.toNat (Int.fdiv i229 ((2 : Int) ^ min (Int.toNat (8 : Int)) (16 : Nat)))) (0 : UInt8))) : Int) + (↑(UInt8.toNat (Array.getD (ByteArray.data { data := #[(0 : UInt8), (1 : UInt8), (1 : UInt8), (2 : UInt8), (1 : UInt8), (2 : UInt8), (2 : UInt8), (3 : UInt8), (1 : UInt8), (2 : UInt8), (2 : UInt8), (3 : UInt8), (2 : UInt8), (3 : UInt8), (3 : UInt8), (4 : UInt8), (1 : UInt8), (2 : UInt8), (2 : UInt8), (3 : UInt8), (2 : UInt8), (3 : UInt8), (3 : UInt8), (4 : UInt8), (2 : UInt8), (3 : UInt8), (3 : UInt8), (4 : UInt8), (3 : UInt8), (4 : UInt8), (4 : UInt8), (5 : UInt8), (1 : UInt8), (2 : UInt8), (2 : UInt8), (3 : UInt8), (2 : UInt8), (3 : UInt8), (3 : UInt8), (4 : UInt8), (2 : UInt8), (3 : UInt8), (3 : UInt8), (4 : UInt8), (3 : UInt8), (4 : UInt8), (4 : UInt8), (5 : UInt8), (2 : UInt8), (3 : UInt8), (3 : UInt8), (4 : UInt8), (3 : UInt8), (4 : UInt8), (4 : UInt8), (5 : UInt8), (3 : UInt8), (4 : UInt8), (4 : UInt8), (5 : UInt8), (4 : UInt8), (5 : UInt8), (5 : UInt8), (6 : UInt8), (1 : UInt8), (2 : UInt8), (2 : UInt8), (3 : UInt8), (2 : UInt8), (3 : UInt8), (3 : UInt8), (4 : UInt8), (2 : UInt8), (3 : UInt8), (3 : UInt8), (4 : UInt8), (3 : UInt8), (4 : UInt8), (4 : UInt8), (5 : UInt8), (2 : UInt8), (3 : UInt8), (3 : UInt8), (4 : UInt8), (3 : UInt8), (4 : UInt8), (4 : UInt8), (5 : UInt8), (3 : UInt8), (4 : UInt8), (4 : UInt8), (5 : UInt8), (4 : UInt8), (5 : UInt8), (5 : UInt8), (6 : UInt8), (2 : UInt8), (3 : UInt8), (3 : UInt8), (4 : UInt8), (3 : UInt8), (4 : UInt8), (4 : UInt8), (5 : UInt8), (3 : UInt8), (4 : UInt8), (4 : UInt8), (5 : UInt8), (4 : UInt8), (5 : UInt8), (5 : UInt8), (6 : UInt8), (3 : UInt8), (4 : UInt8), (4 : UInt8), (5 : UInt8), (4 : UInt8), (5 : UInt8), (5 : UInt8), (6 : UInt8), (4 : UInt8), (5 : UInt8), (5 : UInt8), (6 : UInt8), (5 : UInt8), (6 : UInt8), (6 : UInt8), (7 : UInt8), (1 : UInt8), (2 : UInt8), (2 : UInt8), (3 : UInt8), (2 : UInt8), (3 : UInt8), (3 : UInt8), (4 : UInt8), (2 : UInt8), (3 : UInt8), (3 : UInt8), (4 : UInt8), (3 : UInt8), (4 : UInt8), (4 : UInt8), (5 : UInt8), (2 : UInt8), (3 : UInt8), (3 : UInt8), (4 : UInt8), (3 : UInt8), (4 : UInt8), (4 : UInt8), (5 : UInt8), (3 : UInt8), (4 : UInt8), (4 : UInt8), (5 : UInt8), (4 : UInt8), (5 : UInt8), (5 : UInt8), (6 : UInt8), (2 : UInt8), (3 : UInt8), (3 : UInt8), (4 : UInt8), (3 : UInt8), (4 : UInt8), (4 : UInt8), (5 : UInt8), (3 : UInt8), (4 : UInt8), (4 : UInt8), (5 : UInt8), (4 : UInt8), (5 : UInt8), (5 : UInt8), (6 : UInt8), (3 : UInt8), (4 : UInt8), (4 : UInt8), (5 : UInt8), (4 : UInt8), (5 : UInt8), (5 : UInt8), (6 : UInt8), (4 : UInt8), (5 : UInt8), (5 : UInt8), (6 : UInt8), (5 : UInt8), (6 : UInt8), (6 : UInt8), (7 : UInt8), (2 : UInt8), (3 : UInt8), (3 : UInt8), (4 : UInt8), (3 : UInt8), (4 : UInt8), (4 : UInt8), (5 : UInt8), (3 : UInt8), (4 : UInt8), (4 : UInt8), (5 : UInt8), (4 : UInt8), (5 : UInt8), (5 : UInt8), (6 : UInt8), (3 : UInt8), (4 : UInt8), (4 : UInt8), (5 : UInt8), (4 : UInt8), (5 : UInt8), (5 : UInt8), (6 : UInt8), (4 : UInt8), (5 : UInt8), (5 : UInt8), (6 : UInt8), (5 : UInt8), (6 : UInt8), (6 : UInt8), (7 : UInt8), (3 : UInt8), (4 : UInt8), (4 : UInt8), (5 : UInt8), (4 : UInt8), (5 : UInt8), (5 : UInt8), (6 : UInt8), (4 : UInt8), (5 : UInt8), (5 : UInt8), (6 : UInt8), (5 : UInt8), (6 : UInt8), (6 : UInt8), (7 : UInt8), (4 : UInt8), (5 : UInt8), (5 : UInt8), (6 : UInt8), (5 : UInt8), (6 : UInt8), (6 : UInt8), (7 : UInt8), (5 : UInt8), (6 : UInt8), (6 : UInt8), (7 : UInt8), (6 : UInt8), (7 : UInt8), (7 : UInt8), (8 : UInt8)] }) (Int.toNat (bitsOp IntKind.u16 (BitVec.ofInt (16 : Nat) i229 &&& BitVec.ofInt (16 : Nat) (255 : Int)))) (0 : UInt8))) : Int))))) else
  (none)) else
  (none)
def brFn126 (m : Nat) (T : Tbl) (R : Type) (vs : List V) (k : V → List V → Option R) : Option R := match vs with
  | [V.f (F.lit (Value.int IntKind.u16 i229))] => Fn126 m i229 (fun i230 => k (V.f (F.lit (Value.int IntKind.i64 i230))) [V.undef])
  | _ => T R 126 vs k
set_option maxRecDepth 100000 in
theorem evFn126 (m : Nat) (R : Type) (i229 : Int) (k : V → List V → Option R) : runK Tryd.prog H (T13 m) (L8 m) 126 [V.f (F.lit (Value.int IntKind.u16 i229))] k = Fn126 (m + 1) i229 (fun i230 => k (V.f (F.lit (Value.int IntKind.i64 i230))) [V.undef]) := by kernel_rfl
def T14 (m : Nat) : Tbl := addT 126 (brFn126 m (T13 m)) (T13 m)
theorem okT14 (m : Nat) : TblOk Tryd.prog (T14 m) := addT_ok (okT13 m) fun R vs k x h => by
  unfold brFn126 at h
  split at h
  · cases m with
    | zero => cases h
    | succ m => exact runK_some (okT13 m) hM (okL8 m) ((evFn126 m R _ k).trans h)
  · exact okT13 m R 126 _ k x h

/-- a round of a loop of (hookflash/dialplan.mask).digits -/
def Lp127_9_step {R : Type} (m : Nat) (kx0 : Int → Option R) (i240 : Int) (s241 : ByteArray) (i242 : Int) (REC : Int → Option R) (i243 : Int) : Option R :=
  bif decide (i243 < (57 : Int)) then (Fn85 m (IntKind.wrap IntKind.u8 (i243 + (1 : Int))) (fun i244 => bif bitsOp IntKind.u16 (BitVec.ofInt (16 : Nat) i240 &&& BitVec.ofInt (16 : Nat) i244) != (0 : Int) then (REC (IntKind.wrap IntKind.u8 (i243 + (1 : Int)))) else
  (kx0 i243))) else
  (kx0 i243)
def Lp127_9 {R : Type} (m : Nat) (kx0 : Int → Option R) (i240 : Int) (s241 : ByteArray) (i242 : Int) : Nat → Int → Option R
  | 0, _ => none
  | n + 1, i243 => Lp127_9_step m kx0 i240 s241 i242 (Lp127_9 m kx0 i240 s241 i242 n) i243
def ELp127_9 (m : Nat) (R : Type) : Nat → List V → (Ex → List V → Option R) → Option R
  | 0, _, _ => none
  | n + 1, vs, k => match vs with
    | [V.f (F.lit (Value.int IntKind.u16 i240)), V.f (F.lit (Value.string s241)), V.f (F.lit (Value.int IntKind.u8 i242)), V.f (F.lit (Value.int IntKind.u8 i243)), V.undef] => Lp127_9_step m (fun i245 => k (Ex.exit (2 : Nat)) [V.f (F.lit (Value.int IntKind.u16 i240)), V.f (F.lit (Value.string s241)), V.f (F.lit (Value.int IntKind.u8 i242)), V.f (F.lit (Value.int IntKind.u8 i245)), V.undef]) i240 s241 i242 (fun i243 => ELp127_9 m R n [V.f (F.lit (Value.int IntKind.u16 i240)), V.f (F.lit (Value.string s241)), V.f (F.lit (Value.int IntKind.u8 i242)), V.f (F.lit (Value.int IntKind.u8 i243)), V.undef] k) i243
    | _ => none
def brLp127_9 (m : Nat) (L : LTbl) (R : Type) (vs : List V) (k : Ex → List V → Option R) : Option R := match vs with
  | [V.f (F.lit (Value.int IntKind.u16 i240)), V.f (F.lit (Value.string s241)), V.f (F.lit (Value.int IntKind.u8 i242)), V.f (F.lit (Value.int IntKind.u8 i243)), V.undef] => Lp127_9 m (fun i245 => k (Ex.exit (2 : Nat)) [V.f (F.lit (Value.int IntKind.u16 i240)), V.f (F.lit (Value.string s241)), V.f (F.lit (Value.int IntKind.u8 i242)), V.f (F.lit (Value.int IntKind.u8 i245)), V.undef]) i240 s241 i242 m i243
  | _ => L R 127 9 vs k
set_option maxRecDepth 100000 in
theorem stLp127_9 (m n : Nat) (R : Type) (i240 : Int) (s241 : ByteArray) (i242 : Int) (i243 : Int) (k : Ex → List V → Option R) : codeK Tryd.prog H (T14 m) 127 (L8 m) 10 (loopBody Tryd.prog 127 9) (mkEnv [0, 3, 4, 5, 56] [V.f (F.lit (Value.int IntKind.u16 i240)), V.f (F.lit (Value.string s241)), V.f (F.lit (Value.int IntKind.u8 i242)), V.f (F.lit (Value.int IntKind.u8 i243)), V.undef] 0 (H.len 127)) (fun e env' => match e with | .normal => ELp127_9 m R n (vals [0, 3, 4, 5, 56] env') k | e => k e (vals [0, 3, 4, 5, 56] env')) = Lp127_9_step m (fun i245 => k (Ex.exit (2 : Nat)) [V.f (F.lit (Value.int IntKind.u16 i240)), V.f (F.lit (Value.string s241)), V.f (F.lit (Value.int IntKind.u8 i242)), V.f (F.lit (Value.int IntKind.u8 i245)), V.undef]) i240 s241 i242 (fun i243 => ELp127_9 m R n [V.f (F.lit (Value.int IntKind.u16 i240)), V.f (F.lit (Value.string s241)), V.f (F.lit (Value.int IntKind.u8 i242)), V.f (F.lit (Value.int IntKind.u8 i243)), V.undef] k) i243 := by kernel_rfl
theorem eqLp127_9 (m : Nat) (R : Type) (i240 : Int) (s241 : ByteArray) (i242 : Int) (k : Ex → List V → Option R) : ∀ (n : Nat) (i243 : Int), ELp127_9 m R n [V.f (F.lit (Value.int IntKind.u16 i240)), V.f (F.lit (Value.string s241)), V.f (F.lit (Value.int IntKind.u8 i242)), V.f (F.lit (Value.int IntKind.u8 i243)), V.undef] k = Lp127_9 m (fun i245 => k (Ex.exit (2 : Nat)) [V.f (F.lit (Value.int IntKind.u16 i240)), V.f (F.lit (Value.string s241)), V.f (F.lit (Value.int IntKind.u8 i242)), V.f (F.lit (Value.int IntKind.u8 i245)), V.undef]) i240 s241 i242 n i243
  | 0, _ => rfl
  | n + 1, i243 => by
    simp only [ELp127_9, Lp127_9]
    congr 1
    funext i243
    exact eqLp127_9 m R i240 s241 i242 k n i243
def L9 (m : Nat) : LTbl := addB 127 9 (brLp127_9 m (L8 m)) (L8 m)
theorem okL9 (m : Nat) : LTOk Tryd.prog H (L9 m) := addB_ok (okT14 m) hM (okL8 m) (l := [0, 3, 4, 5, 56]) (by kernel_rfl) (by kernel_rfl) m (fun R n vs k => ELp127_9 m R n vs k) (fun R vs k => rfl) (fun R n vs k x h => by
      simp only [ELp127_9] at h
      split at h
      · exact (stLp127_9 m n R _ _ _ _ k).trans h
      · cases h) fun R vs k x h => by
    unfold brLp127_9 at h
    split at h
    · exact .inl ((eqLp127_9 m R _ _ _ k m _).trans h)
    · exact .inr h

/-- a round of a loop of (hookflash/dialplan.mask).digits -/
def Lp127_3_step {R : Type} (m : Nat) (kx0 : ByteArray → Int → Option R) (i236 : Int) (REC : ByteArray → Int → Option R) (s237 : ByteArray) (i238 : Int) : Option R :=
  bif decide (i238 ≤ (57 : Int)) then (Fn85 m i238 (fun i239 => bif bitsOp IntKind.u16 (BitVec.ofInt (16 : Nat) i236 &&& BitVec.ofInt (16 : Nat) i239) == (0 : Int) then (REC s237 (IntKind.wrap IntKind.u8 (i238 + (1 : Int)))) else
  (Lp127_9 m (fun i246 => bif decide (i246 > IntKind.wrap IntKind.u8 (i238 + (1 : Int))) then (bif decide (ByteArray.size s237 + ByteArray.size (rowsBytes [[F.lit (Value.int IntKind.u8 i238)], [F.lit (Value.int IntKind.u8 (45 : Int))], [F.lit (Value.int IntKind.u8 i246)]]) ≤ strMax) then (letV (s237 ++ rowsBytes [[F.lit (Value.int IntKind.u8 i238)], [F.lit (Value.int IntKind.u8 (45 : Int))], [F.lit (Value.int IntKind.u8 i246)]]) (fun s247 => REC s247 (IntKind.wrap IntKind.u8 (i246 + (1 : Int))))) else
  (none)) else
  (bif decide (i246 > i238) then (bif decide (ByteArray.size s237 + ByteArray.size (rowsBytes [[F.lit (Value.int IntKind.u8 i238)], [F.lit (Value.int IntKind.u8 i246)]]) ≤ strMax) then (letV (s237 ++ rowsBytes [[F.lit (Value.int IntKind.u8 i238)], [F.lit (Value.int IntKind.u8 i246)]]) (fun s248 => REC s248 (IntKind.wrap IntKind.u8 (i246 + (1 : Int))))) else
  (none)) else
  (bif decide (ByteArray.size s237 + ByteArray.size (rowsBytes [[F.lit (Value.int IntKind.u8 i238)]]) ≤ strMax) then (letV (s237 ++ rowsBytes [[F.lit (Value.int IntKind.u8 i238)]]) (fun s249 => REC s249 (IntKind.wrap IntKind.u8 (i246 + (1 : Int))))) else
  (none)))) i236 s237 i238 m i238))) else
  (kx0 s237 i238)
def Lp127_3 {R : Type} (m : Nat) (kx0 : ByteArray → Int → Option R) (i236 : Int) : Nat → ByteArray → Int → Option R
  | 0, _, _ => none
  | n + 1, s237, i238 => Lp127_3_step m kx0 i236 (Lp127_3 m kx0 i236 n) s237 i238
def ELp127_3 (m : Nat) (R : Type) : Nat → List V → (Ex → List V → Option R) → Option R
  | 0, _, _ => none
  | n + 1, vs, k => match vs with
    | [V.f (F.lit (Value.int IntKind.u16 i236)), V.f (F.lit (Value.string s237)), V.f (F.lit (Value.int IntKind.u8 i238)), V.undef] => Lp127_3_step m (fun s250 i251 => k (Ex.exit (0 : Nat)) [V.f (F.lit (Value.int IntKind.u16 i236)), V.f (F.lit (Value.string s250)), V.f (F.lit (Value.int IntKind.u8 i251)), V.undef]) i236 (fun s237 i238 => ELp127_3 m R n [V.f (F.lit (Value.int IntKind.u16 i236)), V.f (F.lit (Value.string s237)), V.f (F.lit (Value.int IntKind.u8 i238)), V.undef] k) s237 i238
    | _ => none
def brLp127_3 (m : Nat) (L : LTbl) (R : Type) (vs : List V) (k : Ex → List V → Option R) : Option R := match vs with
  | [V.f (F.lit (Value.int IntKind.u16 i236)), V.f (F.lit (Value.string s237)), V.f (F.lit (Value.int IntKind.u8 i238)), V.undef] => Lp127_3 m (fun s250 i251 => k (Ex.exit (0 : Nat)) [V.f (F.lit (Value.int IntKind.u16 i236)), V.f (F.lit (Value.string s250)), V.f (F.lit (Value.int IntKind.u8 i251)), V.undef]) i236 m s237 i238
  | _ => L R 127 3 vs k
set_option maxRecDepth 100000 in
theorem stLp127_3 (m n : Nat) (R : Type) (i236 : Int) (s237 : ByteArray) (i238 : Int) (k : Ex → List V → Option R) : codeK Tryd.prog H (T14 m) 127 (L9 m) 4 (loopBody Tryd.prog 127 3) (mkEnv [0, 3, 4, 56] [V.f (F.lit (Value.int IntKind.u16 i236)), V.f (F.lit (Value.string s237)), V.f (F.lit (Value.int IntKind.u8 i238)), V.undef] 0 (H.len 127)) (fun e env' => match e with | .normal => ELp127_3 m R n (vals [0, 3, 4, 56] env') k | e => k e (vals [0, 3, 4, 56] env')) = Lp127_3_step m (fun s250 i251 => k (Ex.exit (0 : Nat)) [V.f (F.lit (Value.int IntKind.u16 i236)), V.f (F.lit (Value.string s250)), V.f (F.lit (Value.int IntKind.u8 i251)), V.undef]) i236 (fun s237 i238 => ELp127_3 m R n [V.f (F.lit (Value.int IntKind.u16 i236)), V.f (F.lit (Value.string s237)), V.f (F.lit (Value.int IntKind.u8 i238)), V.undef] k) s237 i238 := by kernel_rfl
theorem eqLp127_3 (m : Nat) (R : Type) (i236 : Int) (k : Ex → List V → Option R) : ∀ (n : Nat) (s237 : ByteArray) (i238 : Int), ELp127_3 m R n [V.f (F.lit (Value.int IntKind.u16 i236)), V.f (F.lit (Value.string s237)), V.f (F.lit (Value.int IntKind.u8 i238)), V.undef] k = Lp127_3 m (fun s250 i251 => k (Ex.exit (0 : Nat)) [V.f (F.lit (Value.int IntKind.u16 i236)), V.f (F.lit (Value.string s250)), V.f (F.lit (Value.int IntKind.u8 i251)), V.undef]) i236 n s237 i238
  | 0, _, _ => rfl
  | n + 1, s237, i238 => by
    simp only [ELp127_3, Lp127_3]
    congr 1
    funext s237 i238
    exact eqLp127_3 m R i236 k n s237 i238
def L10 (m : Nat) : LTbl := addB 127 3 (brLp127_3 m (L9 m)) (L9 m)
theorem okL10 (m : Nat) : LTOk Tryd.prog H (L10 m) := addB_ok (okT14 m) hM (okL9 m) (l := [0, 3, 4, 56]) (by kernel_rfl) (by kernel_rfl) m (fun R n vs k => ELp127_3 m R n vs k) (fun R vs k => rfl) (fun R n vs k x h => by
      simp only [ELp127_3] at h
      split at h
      · exact (stLp127_3 m n R _ _ _ k).trans h
      · cases h) fun R vs k x h => by
    unfold brLp127_3 at h
    split at h
    · exact .inl ((eqLp127_3 m R _ k m _ _).trans h)
    · exact .inr h

/-- (hookflash/dialplan.mask).digits -/
def Fn127 {R : Type} (m : Nat) : Int → (ByteArray → Option R) → Option R := match m with
  | 0 => fun _ _ => none
  | m + 1 => fun i235 k =>
  Lp127_3 m (fun s252 i253 => k s252) i235 m ({ data := #[] }) ((48 : Int))
def brFn127 (m : Nat) (T : Tbl) (R : Type) (vs : List V) (k : V → List V → Option R) : Option R := match vs with
  | [V.f (F.lit (Value.int IntKind.u16 i235))] => Fn127 m i235 (fun s254 => k (V.f (F.lit (Value.string s254))) [V.undef])
  | _ => T R 127 vs k
set_option maxRecDepth 100000 in
theorem evFn127 (m : Nat) (R : Type) (i235 : Int) (k : V → List V → Option R) : runK Tryd.prog H (T14 m) (L10 m) 127 [V.f (F.lit (Value.int IntKind.u16 i235))] k = Fn127 (m + 1) i235 (fun s254 => k (V.f (F.lit (Value.string s254))) [V.undef]) := by kernel_rfl
def T15 (m : Nat) : Tbl := addT 127 (brFn127 m (T14 m)) (T14 m)
theorem okT15 (m : Nat) : TblOk Tryd.prog (T15 m) := addT_ok (okT14 m) fun R vs k x h => by
  unfold brFn127 at h
  split at h
  · cases m with
    | zero => cases h
    | succ m => exact runK_some (okT14 m) hM (okL10 m) ((evFn127 m R _ k).trans h)
  · exact okT14 m R 127 _ k x h

/-- hookflash/dialplan.readSet -/
def Fn101 {R : Type} (m : Nat) : ByteArray → (Int → Int → Option R) → Option R := match m with
  | 0 => fun _ _ => none
  | m + 1 => fun s170 k =>
  Fn42 m s170 ((93 : Int)) (fun i171 => bif decide (i171 < (0 : Int)) then (k ((0 : Int)) ((0 : Int))) else
  (Lp101_7 m (fun i223 i224 i225 i226 => k i223 i224) (fun i227 i228 => Fn126 m i227 (fun i231 => bif decide (i231 < (2 : Int)) then (k ((0 : Int)) ((0 : Int))) else
  (Fn100 m ((48 : Int)) ((57 : Int)) (fun i232 => bif i227 == i232 then (k ((0 : Int)) ((0 : Int))) else
  (Fn100 m ((49 : Int)) ((57 : Int)) (fun i233 => bif i227 == i233 then (k ((0 : Int)) ((0 : Int))) else
  (Fn100 m ((50 : Int)) ((57 : Int)) (fun i234 => bif i227 == i234 then (k ((0 : Int)) ((0 : Int))) else
  (Fn127 m i227 (fun s255 => bif decide ((0 : Int) ≤ i171 ∧ i171 ≤ (↑(ByteArray.size s170) : Int)) then (bif !ByteArray.toList s255 == ByteArray.toList (ByteArray.extract s170 (0 : Nat) (Int.toNat i171)) then (k ((0 : Int)) ((0 : Int))) else
  (k i227 (IntKind.wrap IntKind.i64 (i171 + (1 : Int))))) else
  (none))))))))))) s170 ((0 : Int)) ((0 : Int)) i171 m ((0 : Int)) ((0 : Int))))
def brFn101 (m : Nat) (T : Tbl) (R : Type) (vs : List V) (k : V → List V → Option R) : Option R := match vs with
  | [V.f (F.lit (Value.string s170))] => Fn101 m s170 (fun i256 i257 => k (V.tup [V.f (F.lit (Value.int IntKind.u16 i256)), V.f (F.lit (Value.int IntKind.i64 i257))]) [V.undef])
  | _ => T R 101 vs k
set_option maxRecDepth 100000 in
theorem evFn101 (m : Nat) (R : Type) (s170 : ByteArray) (k : V → List V → Option R) : runK Tryd.prog H (T15 m) (L10 m) 101 [V.f (F.lit (Value.string s170))] k = Fn101 (m + 1) s170 (fun i256 i257 => k (V.tup [V.f (F.lit (Value.int IntKind.u16 i256)), V.f (F.lit (Value.int IntKind.i64 i257))]) [V.undef]) := by kernel_rfl
def T16 (m : Nat) : Tbl := addT 101 (brFn101 m (T15 m)) (T15 m)
theorem okT16 (m : Nat) : TblOk Tryd.prog (T16 m) := addT_ok (okT15 m) fun R vs k x h => by
  unfold brFn101 at h
  split at h
  · cases m with
    | zero => cases h
    | succ m => exact runK_some (okT15 m) hM (okL10 m) ((evFn101 m R _ k).trans h)
  · exact okT15 m R 101 _ k x h

/-- hookflash/dialplan.element -/
def Fn79 {R : Type} (m : Nat) : ByteArray → (Int → Int → Option R) → Option R := match m with
  | 0 => fun _ _ => none
  | m + 1 => fun s145 k =>
  bif decide ((0 : Int) ≤ (0 : Int) ∧ (0 : Int) < (↑(ByteArray.size s145) : Int)) then (bif (↑(UInt8.toNat (Array.getD (ByteArray.data s145) (Int.toNat (0 : Int)) (0 : UInt8))) : Int) == (88 : Int) then (Fn100 m ((48 : Int)) ((57 : Int)) (fun i167 => k i167 ((1 : Int)))) else
  (bif (↑(UInt8.toNat (Array.getD (ByteArray.data s145) (Int.toNat (0 : Int)) (0 : UInt8))) : Int) == (90 : Int) then (Fn100 m ((49 : Int)) ((57 : Int)) (fun i168 => k i168 ((1 : Int)))) else
  (bif (↑(UInt8.toNat (Array.getD (ByteArray.data s145) (Int.toNat (0 : Int)) (0 : UInt8))) : Int) == (78 : Int) then (Fn100 m ((50 : Int)) ((57 : Int)) (fun i169 => k i169 ((1 : Int)))) else
  (bif (↑(UInt8.toNat (Array.getD (ByteArray.data s145) (Int.toNat (0 : Int)) (0 : UInt8))) : Int) == (91 : Int) then (bif decide ((0 : Int) ≤ (1 : Int) ∧ (1 : Int) ≤ (↑(ByteArray.size s145) : Int)) then (Fn101 m (ByteArray.extract s145 (Int.toNat (1 : Int)) (ByteArray.size s145)) (fun i258 i259 => bif i259 == (0 : Int) then (k ((0 : Int)) ((0 : Int))) else
  (k i258 (IntKind.wrap IntKind.i64 (i259 + (1 : Int)))))) else
  (none)) else
  (Fn42 m ({ data := #[(35 : UInt8), (42 : UInt8), (48 : UInt8), (49 : UInt8), (50 : UInt8), (51 : UInt8), (52 : UInt8), (53 : UInt8), (54 : UInt8), (55 : UInt8), (56 : UInt8), (57 : UInt8)] }) ((↑(UInt8.toNat (Array.getD (ByteArray.data s145) (Int.toNat (0 : Int)) (0 : UInt8))) : Int)) (fun i260 => bif decide (i260 ≥ (0 : Int)) then (Fn85 m ((↑(UInt8.toNat (Array.getD (ByteArray.data s145) (Int.toNat (0 : Int)) (0 : UInt8))) : Int)) (fun i261 => k i261 ((1 : Int)))) else
  (k ((0 : Int)) ((0 : Int))))))))) else
  (none)
def brFn79 (m : Nat) (T : Tbl) (R : Type) (vs : List V) (k : V → List V → Option R) : Option R := match vs with
  | [V.f (F.lit (Value.string s145))] => Fn79 m s145 (fun i262 i263 => k (V.tup [V.f (F.lit (Value.int IntKind.u16 i262)), V.f (F.lit (Value.int IntKind.i64 i263))]) [V.undef])
  | _ => T R 79 vs k
set_option maxRecDepth 100000 in
theorem evFn79 (m : Nat) (R : Type) (s145 : ByteArray) (k : V → List V → Option R) : runK Tryd.prog H (T16 m) (L10 m) 79 [V.f (F.lit (Value.string s145))] k = Fn79 (m + 1) s145 (fun i262 i263 => k (V.tup [V.f (F.lit (Value.int IntKind.u16 i262)), V.f (F.lit (Value.int IntKind.i64 i263))]) [V.undef]) := by kernel_rfl
def T17 (m : Nat) : Tbl := addT 79 (brFn79 m (T16 m)) (T16 m)
theorem okT17 (m : Nat) : TblOk Tryd.prog (T17 m) := addT_ok (okT16 m) fun R vs k x h => by
  unfold brFn79 at h
  split at h
  · cases m with
    | zero => cases h
    | succ m => exact runK_some (okT16 m) hM (okL10 m) ((evFn79 m R _ k).trans h)
  · exact okT16 m R 79 _ k x h

/-- a rest of hookflash/dialplan.read -/
def Jn39_11 {R : Type} (m : Nat) (kx0 : Abs.Rows → Int → Int → Option R) (kx1 : Abs.Rows → ByteArray → Option R) (r139 : Abs.Rows) (i140 : Int) (i141 : Int) (r142 : Abs.Rows) (i143 : Int) (s144 : ByteArray) : Option R :=
  Fn79 m s144 (fun i264 i265 => bif i265 == (0 : Int) then (kx0 rows0 ((0 : Int)) ((9 : Int))) else
  (bif decide (List.length r142 + List.length [[F.lit (Value.int IntKind.u16 i264)]] ≤ rowMax) then (letV (r142 ++ [[F.lit (Value.int IntKind.u16 i264)]]) (fun r266 => bif decide ((0 : Int) ≤ i265 ∧ i265 ≤ (↑(ByteArray.size s144) : Int)) then (kx1 r266 (ByteArray.extract s144 (Int.toNat i265) (ByteArray.size s144))) else
  (none))) else
  (none)))
def brJn39_11 (m : Nat) (L : LTbl) (R : Type) (vs : List V) (k : Ex → List V → Option R) : Option R := match vs with
  | [V.obj [V.own [LT.int IntKind.u16] r139, V.f (F.lit (Value.int IntKind.u8 i140))], V.f (F.lit (Value.int IntKind.i64 i141)), V.obj [V.own [LT.int IntKind.u16] r142, V.f (F.lit (Value.int IntKind.u8 i143))], V.f (F.lit (Value.string s144)), V.undef] => Jn39_11 m (fun r267 i268 i269 => k Ex.ret [V.obj [V.own [LT.int IntKind.u16] r267, V.f (F.lit (Value.int IntKind.u8 i268))], V.f (F.lit (Value.int IntKind.i64 i269)), V.obj [V.own [LT.int IntKind.u16] r142, V.f (F.lit (Value.int IntKind.u8 i143))], V.f (F.lit (Value.string s144)), V.undef]) (fun r270 s271 => k Ex.normal [V.obj [V.own [LT.int IntKind.u16] r139, V.f (F.lit (Value.int IntKind.u8 i140))], V.f (F.lit (Value.int IntKind.i64 i141)), V.obj [V.own [LT.int IntKind.u16] r270, V.f (F.lit (Value.int IntKind.u8 i143))], V.f (F.lit (Value.string s271)), V.undef]) r139 i140 i141 r142 i143 s144
  | _ => L R 39 11 vs k
set_option maxRecDepth 100000 in
theorem evJn39_11 (m : Nat) (R : Type) (r139 : Abs.Rows) (i140 : Int) (i141 : Int) (r142 : Abs.Rows) (i143 : Int) (s144 : ByteArray) (k : Ex → List V → Option R) : codeK Tryd.prog H (T17 m) 39 (L10 m) 12 (loopBody Tryd.prog 39 11) (mkEnv [2, 3, 4, 5, 58] [V.obj [V.own [LT.int IntKind.u16] r139, V.f (F.lit (Value.int IntKind.u8 i140))], V.f (F.lit (Value.int IntKind.i64 i141)), V.obj [V.own [LT.int IntKind.u16] r142, V.f (F.lit (Value.int IntKind.u8 i143))], V.f (F.lit (Value.string s144)), V.undef] 0 (H.len 39)) (fun e env' => k e (vals [2, 3, 4, 5, 58] env')) = Jn39_11 m (fun r267 i268 i269 => k Ex.ret [V.obj [V.own [LT.int IntKind.u16] r267, V.f (F.lit (Value.int IntKind.u8 i268))], V.f (F.lit (Value.int IntKind.i64 i269)), V.obj [V.own [LT.int IntKind.u16] r142, V.f (F.lit (Value.int IntKind.u8 i143))], V.f (F.lit (Value.string s144)), V.undef]) (fun r270 s271 => k Ex.normal [V.obj [V.own [LT.int IntKind.u16] r139, V.f (F.lit (Value.int IntKind.u8 i140))], V.f (F.lit (Value.int IntKind.i64 i141)), V.obj [V.own [LT.int IntKind.u16] r270, V.f (F.lit (Value.int IntKind.u8 i143))], V.f (F.lit (Value.string s271)), V.undef]) r139 i140 i141 r142 i143 s144 := by kernel_rfl
def L11 (m : Nat) : LTbl := addJ 39 11 (brJn39_11 m (L10 m)) (L10 m)
theorem okL11 (m : Nat) : LTOk Tryd.prog H (L11 m) := addJ_ok (okT17 m) hM (okL10 m) (l := [2, 3, 4, 5, 58]) (by kernel_rfl) (by kernel_rfl) fun R vs k x h => by
    unfold brJn39_11 at h
    split at h
    · exact .inl ((evJn39_11 m R _ _ _ _ _ _ k).trans h)
    · exact .inr h

/-- a round of a loop of hookflash/dialplan.read -/
def Lp39_6_step {R : Type} (m : Nat) (kx0 : Abs.Rows → Int → ByteArray → Option R) (kx1 : Abs.Rows → Int → Int → Abs.Rows → ByteArray → Option R) (r133 : Abs.Rows) (i134 : Int) (i135 : Int) (i137 : Int) (REC : Abs.Rows → ByteArray → Option R) (r136 : Abs.Rows) (s138 : ByteArray) : Option R :=
  bif !ByteArray.toList s138 == ByteArray.toList { data := #[] } then (bif ByteArray.toList s138 == ByteArray.toList { data := #[(46 : UInt8)] } then (bif decide ((0 : Int) ≤ (0 : Int) ∧ (0 : Int) < (↑(ByteArray.size s138) : Int)) then (kx0 r136 ((↑(UInt8.toNat (Array.getD (ByteArray.data s138) (Int.toNat (0 : Int)) (0 : UInt8))) : Int)) s138) else
  (none)) else
  (bif ByteArray.toList s138 == ByteArray.toList { data := #[(33 : UInt8)] } then (bif decide ((0 : Int) ≤ (0 : Int) ∧ (0 : Int) < (↑(ByteArray.size s138) : Int)) then (kx0 r136 ((↑(UInt8.toNat (Array.getD (ByteArray.data s138) (Int.toNat (0 : Int)) (0 : UInt8))) : Int)) s138) else
  (none)) else
  (Jn39_11 m (fun r272 i273 i274 => kx1 r272 i273 i274 r136 s138) (fun r275 s276 => REC r275 s276) r133 i134 i135 r136 i137 s138))) else
  (kx0 r136 i137 s138)
def Lp39_6 {R : Type} (m : Nat) (kx0 : Abs.Rows → Int → ByteArray → Option R) (kx1 : Abs.Rows → Int → Int → Abs.Rows → ByteArray → Option R) (r133 : Abs.Rows) (i134 : Int) (i135 : Int) (i137 : Int) : Nat → Abs.Rows → ByteArray → Option R
  | 0, _, _ => none
  | n + 1, r136, s138 => Lp39_6_step m kx0 kx1 r133 i134 i135 i137 (Lp39_6 m kx0 kx1 r133 i134 i135 i137 n) r136 s138
def ELp39_6 (m : Nat) (R : Type) : Nat → List V → (Ex → List V → Option R) → Option R
  | 0, _, _ => none
  | n + 1, vs, k => match vs with
    | [V.obj [V.own [LT.int IntKind.u16] r133, V.f (F.lit (Value.int IntKind.u8 i134))], V.f (F.lit (Value.int IntKind.i64 i135)), V.obj [V.own [LT.int IntKind.u16] r136, V.f (F.lit (Value.int IntKind.u8 i137))], V.f (F.lit (Value.string s138)), V.undef] => Lp39_6_step m (fun r277 i278 s279 => k (Ex.exit (0 : Nat)) [V.obj [V.own [LT.int IntKind.u16] r133, V.f (F.lit (Value.int IntKind.u8 i134))], V.f (F.lit (Value.int IntKind.i64 i135)), V.obj [V.own [LT.int IntKind.u16] r277, V.f (F.lit (Value.int IntKind.u8 i278))], V.f (F.lit (Value.string s279)), V.undef]) (fun r280 i281 i282 r283 s284 => k Ex.ret [V.obj [V.own [LT.int IntKind.u16] r280, V.f (F.lit (Value.int IntKind.u8 i281))], V.f (F.lit (Value.int IntKind.i64 i282)), V.obj [V.own [LT.int IntKind.u16] r283, V.f (F.lit (Value.int IntKind.u8 i137))], V.f (F.lit (Value.string s284)), V.undef]) r133 i134 i135 i137 (fun r136 s138 => ELp39_6 m R n [V.obj [V.own [LT.int IntKind.u16] r133, V.f (F.lit (Value.int IntKind.u8 i134))], V.f (F.lit (Value.int IntKind.i64 i135)), V.obj [V.own [LT.int IntKind.u16] r136, V.f (F.lit (Value.int IntKind.u8 i137))], V.f (F.lit (Value.string s138)), V.undef] k) r136 s138
    | _ => none
def brLp39_6 (m : Nat) (L : LTbl) (R : Type) (vs : List V) (k : Ex → List V → Option R) : Option R := match vs with
  | [V.obj [V.own [LT.int IntKind.u16] r133, V.f (F.lit (Value.int IntKind.u8 i134))], V.f (F.lit (Value.int IntKind.i64 i135)), V.obj [V.own [LT.int IntKind.u16] r136, V.f (F.lit (Value.int IntKind.u8 i137))], V.f (F.lit (Value.string s138)), V.undef] => Lp39_6 m (fun r277 i278 s279 => k (Ex.exit (0 : Nat)) [V.obj [V.own [LT.int IntKind.u16] r133, V.f (F.lit (Value.int IntKind.u8 i134))], V.f (F.lit (Value.int IntKind.i64 i135)), V.obj [V.own [LT.int IntKind.u16] r277, V.f (F.lit (Value.int IntKind.u8 i278))], V.f (F.lit (Value.string s279)), V.undef]) (fun r280 i281 i282 r283 s284 => k Ex.ret [V.obj [V.own [LT.int IntKind.u16] r280, V.f (F.lit (Value.int IntKind.u8 i281))], V.f (F.lit (Value.int IntKind.i64 i282)), V.obj [V.own [LT.int IntKind.u16] r283, V.f (F.lit (Value.int IntKind.u8 i137))], V.f (F.lit (Value.string s284)), V.undef]) r133 i134 i135 i137 m r136 s138
  | _ => L R 39 6 vs k
set_option maxRecDepth 100000 in
theorem stLp39_6 (m n : Nat) (R : Type) (r133 : Abs.Rows) (i134 : Int) (i135 : Int) (r136 : Abs.Rows) (i137 : Int) (s138 : ByteArray) (k : Ex → List V → Option R) : codeK Tryd.prog H (T17 m) 39 (L11 m) 7 (loopBody Tryd.prog 39 6) (mkEnv [2, 3, 4, 5, 58] [V.obj [V.own [LT.int IntKind.u16] r133, V.f (F.lit (Value.int IntKind.u8 i134))], V.f (F.lit (Value.int IntKind.i64 i135)), V.obj [V.own [LT.int IntKind.u16] r136, V.f (F.lit (Value.int IntKind.u8 i137))], V.f (F.lit (Value.string s138)), V.undef] 0 (H.len 39)) (fun e env' => match e with | .normal => ELp39_6 m R n (vals [2, 3, 4, 5, 58] env') k | e => k e (vals [2, 3, 4, 5, 58] env')) = Lp39_6_step m (fun r277 i278 s279 => k (Ex.exit (0 : Nat)) [V.obj [V.own [LT.int IntKind.u16] r133, V.f (F.lit (Value.int IntKind.u8 i134))], V.f (F.lit (Value.int IntKind.i64 i135)), V.obj [V.own [LT.int IntKind.u16] r277, V.f (F.lit (Value.int IntKind.u8 i278))], V.f (F.lit (Value.string s279)), V.undef]) (fun r280 i281 i282 r283 s284 => k Ex.ret [V.obj [V.own [LT.int IntKind.u16] r280, V.f (F.lit (Value.int IntKind.u8 i281))], V.f (F.lit (Value.int IntKind.i64 i282)), V.obj [V.own [LT.int IntKind.u16] r283, V.f (F.lit (Value.int IntKind.u8 i137))], V.f (F.lit (Value.string s284)), V.undef]) r133 i134 i135 i137 (fun r136 s138 => ELp39_6 m R n [V.obj [V.own [LT.int IntKind.u16] r133, V.f (F.lit (Value.int IntKind.u8 i134))], V.f (F.lit (Value.int IntKind.i64 i135)), V.obj [V.own [LT.int IntKind.u16] r136, V.f (F.lit (Value.int IntKind.u8 i137))], V.f (F.lit (Value.string s138)), V.undef] k) r136 s138 := by kernel_rfl
theorem eqLp39_6 (m : Nat) (R : Type) (r133 : Abs.Rows) (i134 : Int) (i135 : Int) (i137 : Int) (k : Ex → List V → Option R) : ∀ (n : Nat) (r136 : Abs.Rows) (s138 : ByteArray), ELp39_6 m R n [V.obj [V.own [LT.int IntKind.u16] r133, V.f (F.lit (Value.int IntKind.u8 i134))], V.f (F.lit (Value.int IntKind.i64 i135)), V.obj [V.own [LT.int IntKind.u16] r136, V.f (F.lit (Value.int IntKind.u8 i137))], V.f (F.lit (Value.string s138)), V.undef] k = Lp39_6 m (fun r277 i278 s279 => k (Ex.exit (0 : Nat)) [V.obj [V.own [LT.int IntKind.u16] r133, V.f (F.lit (Value.int IntKind.u8 i134))], V.f (F.lit (Value.int IntKind.i64 i135)), V.obj [V.own [LT.int IntKind.u16] r277, V.f (F.lit (Value.int IntKind.u8 i278))], V.f (F.lit (Value.string s279)), V.undef]) (fun r280 i281 i282 r283 s284 => k Ex.ret [V.obj [V.own [LT.int IntKind.u16] r280, V.f (F.lit (Value.int IntKind.u8 i281))], V.f (F.lit (Value.int IntKind.i64 i282)), V.obj [V.own [LT.int IntKind.u16] r283, V.f (F.lit (Value.int IntKind.u8 i137))], V.f (F.lit (Value.string s284)), V.undef]) r133 i134 i135 i137 n r136 s138
  | 0, _, _ => rfl
  | n + 1, r136, s138 => by
    simp only [ELp39_6, Lp39_6]
    congr 1
    funext r136 s138
    exact eqLp39_6 m R r133 i134 i135 i137 k n r136 s138
def L12 (m : Nat) : LTbl := addB 39 6 (brLp39_6 m (L11 m)) (L11 m)
theorem okL12 (m : Nat) : LTOk Tryd.prog H (L12 m) := addB_ok (okT17 m) hM (okL11 m) (l := [2, 3, 4, 5, 58]) (by kernel_rfl) (by kernel_rfl) m (fun R n vs k => ELp39_6 m R n vs k) (fun R vs k => rfl) (fun R n vs k x h => by
      simp only [ELp39_6] at h
      split at h
      · exact (stLp39_6 m n R _ _ _ _ _ _ k).trans h
      · cases h) fun R vs k x h => by
    unfold brLp39_6 at h
    split at h
    · exact .inl ((eqLp39_6 m R _ _ _ _ k m _ _).trans h)
    · exact .inr h

/-- a rest of hookflash/dialplan.read -/
def Jn39_19 {R : Type} (m : Nat) (kx0 : Abs.Rows → Int → Int → Option R) (kx1 : Int → Option R) (r288 : Abs.Rows) (i289 : Int) (i290 : Int) (r291 : Abs.Rows) (i292 : Int) (i293 : Int) : Option R :=
  bif decide (i293 < (1 : Int)) then (kx0 rows0 ((0 : Int)) ((9 : Int))) else
  (bif decide (i293 > (30 : Int)) then (kx0 rows0 ((0 : Int)) ((9 : Int))) else
  (kx1 ((0 : Int))))
def brJn39_19 (m : Nat) (L : LTbl) (R : Type) (vs : List V) (k : Ex → List V → Option R) : Option R := match vs with
  | [V.obj [V.own [LT.int IntKind.u16] r288, V.f (F.lit (Value.int IntKind.u8 i289))], V.f (F.lit (Value.int IntKind.i64 i290)), V.obj [V.own [LT.int IntKind.u16] r291, V.f (F.lit (Value.int IntKind.u8 i292))], V.f (F.lit (Value.int IntKind.i64 i293)), V.undef] => Jn39_19 m (fun r294 i295 i296 => k Ex.ret [V.obj [V.own [LT.int IntKind.u16] r294, V.f (F.lit (Value.int IntKind.u8 i295))], V.f (F.lit (Value.int IntKind.i64 i296)), V.obj [V.own [LT.int IntKind.u16] r291, V.f (F.lit (Value.int IntKind.u8 i292))], V.f (F.lit (Value.int IntKind.i64 i293)), V.undef]) (fun i297 => k Ex.ret [V.obj [V.f (F.lst [LT.int IntKind.u16] r291), V.f (F.lit (Value.int IntKind.u8 i292))], V.f (F.lit (Value.int IntKind.i64 i297)), V.obj [V.f (F.lst [LT.int IntKind.u16] r291), V.f (F.lit (Value.int IntKind.u8 i292))], V.f (F.lit (Value.int IntKind.i64 i293)), V.undef]) r288 i289 i290 r291 i292 i293
  | _ => L R 39 19 vs k
set_option maxRecDepth 100000 in
theorem evJn39_19 (m : Nat) (R : Type) (r288 : Abs.Rows) (i289 : Int) (i290 : Int) (r291 : Abs.Rows) (i292 : Int) (i293 : Int) (k : Ex → List V → Option R) : codeK Tryd.prog H (T17 m) 39 (L12 m) 20 (loopBody Tryd.prog 39 19) (mkEnv [2, 3, 4, 8, 58] [V.obj [V.own [LT.int IntKind.u16] r288, V.f (F.lit (Value.int IntKind.u8 i289))], V.f (F.lit (Value.int IntKind.i64 i290)), V.obj [V.own [LT.int IntKind.u16] r291, V.f (F.lit (Value.int IntKind.u8 i292))], V.f (F.lit (Value.int IntKind.i64 i293)), V.undef] 0 (H.len 39)) (fun e env' => k e (vals [2, 3, 4, 8, 58] env')) = Jn39_19 m (fun r294 i295 i296 => k Ex.ret [V.obj [V.own [LT.int IntKind.u16] r294, V.f (F.lit (Value.int IntKind.u8 i295))], V.f (F.lit (Value.int IntKind.i64 i296)), V.obj [V.own [LT.int IntKind.u16] r291, V.f (F.lit (Value.int IntKind.u8 i292))], V.f (F.lit (Value.int IntKind.i64 i293)), V.undef]) (fun i297 => k Ex.ret [V.obj [V.f (F.lst [LT.int IntKind.u16] r291), V.f (F.lit (Value.int IntKind.u8 i292))], V.f (F.lit (Value.int IntKind.i64 i297)), V.obj [V.f (F.lst [LT.int IntKind.u16] r291), V.f (F.lit (Value.int IntKind.u8 i292))], V.f (F.lit (Value.int IntKind.i64 i293)), V.undef]) r288 i289 i290 r291 i292 i293 := by kernel_rfl
def L13 (m : Nat) : LTbl := addJ 39 19 (brJn39_19 m (L12 m)) (L12 m)
theorem okL13 (m : Nat) : LTOk Tryd.prog H (L13 m) := addJ_ok (okT17 m) hM (okL12 m) (l := [2, 3, 4, 8, 58]) (by kernel_rfl) (by kernel_rfl) fun R vs k x h => by
    unfold brJn39_19 at h
    split at h
    · exact .inl ((evJn39_19 m R _ _ _ _ _ _ k).trans h)
    · exact .inr h

/-- hookflash/dialplan.read -/
def Fn39 {R : Type} (m : Nat) : ByteArray → (Abs.Rows → Int → Int → Option R) → Option R := match m with
  | 0 => fun _ _ => none
  | m + 1 => fun s132 k =>
  bif decide ((↑(ByteArray.size s132) : Int) > (60 : Int)) then (k rows0 ((0 : Int)) ((2 : Int))) else
  (Lp39_6 m (fun r285 i286 s287 => bif i286 != (0 : Int) then (Jn39_19 m (fun r298 i299 i300 => k r298 i299 i300) (fun i301 => k r285 i286 i301) rows0 ((0 : Int)) ((0 : Int)) r285 i286 (IntKind.wrap IntKind.i64 ((↑(List.length r285) : Int) + (1 : Int)))) else
  (Jn39_19 m (fun r302 i303 i304 => k r302 i303 i304) (fun i305 => k r285 i286 i305) rows0 ((0 : Int)) ((0 : Int)) r285 i286 ((↑(List.length r285) : Int)))) (fun r306 i307 i308 r309 s310 => k r306 i307 i308) rows0 ((0 : Int)) ((0 : Int)) ((0 : Int)) m rows0 s132)
def brFn39 (m : Nat) (T : Tbl) (R : Type) (vs : List V) (k : V → List V → Option R) : Option R := match vs with
  | [V.f (F.lit (Value.string s132))] => Fn39 m s132 (fun r311 i312 i313 => k (V.tup [V.agg [V.f (F.lst [LT.int IntKind.u16] r311), V.f (F.lit (Value.int IntKind.u8 i312))], V.f (F.lit (Value.int IntKind.i64 i313))]) [V.undef])
  | _ => T R 39 vs k
set_option maxRecDepth 100000 in
theorem evFn39 (m : Nat) (R : Type) (s132 : ByteArray) (k : V → List V → Option R) : runK Tryd.prog H (T17 m) (L13 m) 39 [V.f (F.lit (Value.string s132))] (freezeK 1 k) = Fn39 (m + 1) s132 (fun r311 i312 i313 => k (V.tup [V.agg [V.f (F.lst [LT.int IntKind.u16] r311), V.f (F.lit (Value.int IntKind.u8 i312))], V.f (F.lit (Value.int IntKind.i64 i313))]) [V.undef]) := by kernel_rfl
def T18 (m : Nat) : Tbl := addT 39 (brFn39 m (T17 m)) (T17 m)
theorem okT18 (m : Nat) : TblOk Tryd.prog (T18 m) := addT_ok (okT17 m) fun R vs k x h => by
  unfold brFn39 at h
  split at h
  · cases m with
    | zero => cases h
    | succ m => exact runK_frz (okT17 m) hM (okL13 m) ((evFn39 m R _ k).trans h)
  · exact okT17 m R 39 _ k x h

/-- (hookflash/dialplan.pattern).takes -/
def Fn80 {R : Type} (m : Nat) : Abs.Rows → Int → Int → (Int → Bool → Option R) → Option R := match m with
  | 0 => fun _ _ _ _ => none
  | m + 1 => fun r336 i337 i338 k =>
  bif decide (i338 < (↑(List.length r336) : Int)) then (bif decide ((0 : Int) ≤ i338 ∧ i338 < (↑(List.length r336) : Int)) then (k (fI r336 (Int.toNat i338) (0 : Nat)) false) else
  (none)) else
  (bif i337 == (46 : Int) then (k ((4095 : Int)) (decide (i338 > (↑(List.length r336) : Int)))) else
  (bif i337 == (33 : Int) then (k ((4095 : Int)) true) else
  (k ((0 : Int)) (i338 == (↑(List.length r336) : Int)))))
def brFn80 (m : Nat) (T : Tbl) (R : Type) (vs : List V) (k : V → List V → Option R) : Option R := match vs with
  | [V.agg [V.f (F.lst [LT.int IntKind.u16] r336), V.f (F.lit (Value.int IntKind.u8 i337))], V.f (F.lit (Value.int IntKind.i64 i338))] => Fn80 m r336 i337 i338 (fun i339 b340 => k (V.tup [V.f (F.lit (Value.int IntKind.u16 i339)), V.f (F.lit (Value.bool b340))]) [V.undef, V.undef])
  | _ => T R 80 vs k
set_option maxRecDepth 100000 in
theorem evFn80 (m : Nat) (R : Type) (r336 : Abs.Rows) (i337 : Int) (i338 : Int) (k : V → List V → Option R) : runK Tryd.prog H (T18 m) (L13 m) 80 [V.agg [V.f (F.lst [LT.int IntKind.u16] r336), V.f (F.lit (Value.int IntKind.u8 i337))], V.f (F.lit (Value.int IntKind.i64 i338))] k = Fn80 (m + 1) r336 i337 i338 (fun i339 b340 => k (V.tup [V.f (F.lit (Value.int IntKind.u16 i339)), V.f (F.lit (Value.bool b340))]) [V.undef, V.undef]) := by kernel_rfl
def T19 (m : Nat) : Tbl := addT 80 (brFn80 m (T18 m)) (T18 m)
theorem okT19 (m : Nat) : TblOk Tryd.prog (T19 m) := addT_ok (okT18 m) fun R vs k x h => by
  unfold brFn80 at h
  split at h
  · cases m with
    | zero => cases h
    | succ m => exact runK_some (okT18 m) hM (okL13 m) ((evFn80 m R _ _ _ k).trans h)
  · exact okT18 m R 80 _ k x h

/-- a round of a loop of hookflash/dialplan.shared -/
def Lp40_8_step {R : Type} (m : Nat) (kx0 : Int → Bool → Int → Option R) (r326 : Abs.Rows) (s327 : ByteArray) (b328 : Bool) (r329 : Abs.Rows) (i330 : Int) (r333 : Abs.Rows) (i334 : Int) (REC : Int → Bool → Int → Option R) (i331 : Int) (b332 : Bool) (i335 : Int) : Option R :=
  bif decide (i335 < i334) then (bif decide ((0 : Int) ≤ i335 ∧ i335 < (↑(List.length r333) : Int)) then (Fn80 m (fR r333 (Int.toNat i335) (0 : Nat)) (fI r333 (Int.toNat i335) (1 : Nat)) i330 (fun i341 b342 => bif b332 then (REC (bitsOp IntKind.u16 (BitVec.ofInt (16 : Nat) i331 &&& BitVec.ofInt (16 : Nat) i341)) b342 (IntKind.wrap IntKind.i64 (i335 + (1 : Int)))) else
  (REC (bitsOp IntKind.u16 (BitVec.ofInt (16 : Nat) i331 &&& BitVec.ofInt (16 : Nat) i341)) false (IntKind.wrap IntKind.i64 (i335 + (1 : Int)))))) else
  (none)) else
  (kx0 i331 b332 i335)
def Lp40_8 {R : Type} (m : Nat) (kx0 : Int → Bool → Int → Option R) (r326 : Abs.Rows) (s327 : ByteArray) (b328 : Bool) (r329 : Abs.Rows) (i330 : Int) (r333 : Abs.Rows) (i334 : Int) : Nat → Int → Bool → Int → Option R
  | 0, _, _, _ => none
  | n + 1, i331, b332, i335 => Lp40_8_step m kx0 r326 s327 b328 r329 i330 r333 i334 (Lp40_8 m kx0 r326 s327 b328 r329 i330 r333 i334 n) i331 b332 i335
def ELp40_8 (m : Nat) (R : Type) : Nat → List V → (Ex → List V → Option R) → Option R
  | 0, _, _ => none
  | n + 1, vs, k => match vs with
    | [V.bor [LT.lst [LT.int IntKind.u16], LT.int IntKind.u8] r326, V.f (F.lit (Value.string s327)), V.f (F.lit (Value.bool b328)), V.own [LT.int IntKind.u8] r329, V.f (F.lit (Value.int IntKind.i64 i330)), V.f (F.lit (Value.int IntKind.u16 i331)), V.f (F.lit (Value.bool b332)), V.bor [LT.lst [LT.int IntKind.u16], LT.int IntKind.u8] r333, V.f (F.lit (Value.int IntKind.i64 i334)), V.f (F.lit (Value.int IntKind.i64 i335)), V.undef] => Lp40_8_step m (fun i343 b344 i345 => k (Ex.exit (2 : Nat)) [V.bor [LT.lst [LT.int IntKind.u16], LT.int IntKind.u8] r326, V.f (F.lit (Value.string s327)), V.f (F.lit (Value.bool b328)), V.own [LT.int IntKind.u8] r329, V.f (F.lit (Value.int IntKind.i64 i330)), V.f (F.lit (Value.int IntKind.u16 i343)), V.f (F.lit (Value.bool b344)), V.bor [LT.lst [LT.int IntKind.u16], LT.int IntKind.u8] r333, V.f (F.lit (Value.int IntKind.i64 i334)), V.f (F.lit (Value.int IntKind.i64 i345)), V.undef]) r326 s327 b328 r329 i330 r333 i334 (fun i331 b332 i335 => ELp40_8 m R n [V.bor [LT.lst [LT.int IntKind.u16], LT.int IntKind.u8] r326, V.f (F.lit (Value.string s327)), V.f (F.lit (Value.bool b328)), V.own [LT.int IntKind.u8] r329, V.f (F.lit (Value.int IntKind.i64 i330)), V.f (F.lit (Value.int IntKind.u16 i331)), V.f (F.lit (Value.bool b332)), V.bor [LT.lst [LT.int IntKind.u16], LT.int IntKind.u8] r333, V.f (F.lit (Value.int IntKind.i64 i334)), V.f (F.lit (Value.int IntKind.i64 i335)), V.undef] k) i331 b332 i335
    | _ => none
def brLp40_8 (m : Nat) (L : LTbl) (R : Type) (vs : List V) (k : Ex → List V → Option R) : Option R := match vs with
  | [V.bor [LT.lst [LT.int IntKind.u16], LT.int IntKind.u8] r326, V.f (F.lit (Value.string s327)), V.f (F.lit (Value.bool b328)), V.own [LT.int IntKind.u8] r329, V.f (F.lit (Value.int IntKind.i64 i330)), V.f (F.lit (Value.int IntKind.u16 i331)), V.f (F.lit (Value.bool b332)), V.bor [LT.lst [LT.int IntKind.u16], LT.int IntKind.u8] r333, V.f (F.lit (Value.int IntKind.i64 i334)), V.f (F.lit (Value.int IntKind.i64 i335)), V.undef] => Lp40_8 m (fun i343 b344 i345 => k (Ex.exit (2 : Nat)) [V.bor [LT.lst [LT.int IntKind.u16], LT.int IntKind.u8] r326, V.f (F.lit (Value.string s327)), V.f (F.lit (Value.bool b328)), V.own [LT.int IntKind.u8] r329, V.f (F.lit (Value.int IntKind.i64 i330)), V.f (F.lit (Value.int IntKind.u16 i343)), V.f (F.lit (Value.bool b344)), V.bor [LT.lst [LT.int IntKind.u16], LT.int IntKind.u8] r333, V.f (F.lit (Value.int IntKind.i64 i334)), V.f (F.lit (Value.int IntKind.i64 i345)), V.undef]) r326 s327 b328 r329 i330 r333 i334 m i331 b332 i335
  | _ => L R 40 8 vs k
set_option maxRecDepth 100000 in
theorem stLp40_8 (m n : Nat) (R : Type) (r326 : Abs.Rows) (s327 : ByteArray) (b328 : Bool) (r329 : Abs.Rows) (i330 : Int) (i331 : Int) (b332 : Bool) (r333 : Abs.Rows) (i334 : Int) (i335 : Int) (k : Ex → List V → Option R) : codeK Tryd.prog H (T19 m) 40 (L13 m) 9 (loopBody Tryd.prog 40 8) (mkEnv [0, 2, 3, 4, 5, 6, 7, 18, 19, 20, 49] [V.bor [LT.lst [LT.int IntKind.u16], LT.int IntKind.u8] r326, V.f (F.lit (Value.string s327)), V.f (F.lit (Value.bool b328)), V.own [LT.int IntKind.u8] r329, V.f (F.lit (Value.int IntKind.i64 i330)), V.f (F.lit (Value.int IntKind.u16 i331)), V.f (F.lit (Value.bool b332)), V.bor [LT.lst [LT.int IntKind.u16], LT.int IntKind.u8] r333, V.f (F.lit (Value.int IntKind.i64 i334)), V.f (F.lit (Value.int IntKind.i64 i335)), V.undef] 0 (H.len 40)) (fun e env' => match e with | .normal => ELp40_8 m R n (vals [0, 2, 3, 4, 5, 6, 7, 18, 19, 20, 49] env') k | e => k e (vals [0, 2, 3, 4, 5, 6, 7, 18, 19, 20, 49] env')) = Lp40_8_step m (fun i343 b344 i345 => k (Ex.exit (2 : Nat)) [V.bor [LT.lst [LT.int IntKind.u16], LT.int IntKind.u8] r326, V.f (F.lit (Value.string s327)), V.f (F.lit (Value.bool b328)), V.own [LT.int IntKind.u8] r329, V.f (F.lit (Value.int IntKind.i64 i330)), V.f (F.lit (Value.int IntKind.u16 i343)), V.f (F.lit (Value.bool b344)), V.bor [LT.lst [LT.int IntKind.u16], LT.int IntKind.u8] r333, V.f (F.lit (Value.int IntKind.i64 i334)), V.f (F.lit (Value.int IntKind.i64 i345)), V.undef]) r326 s327 b328 r329 i330 r333 i334 (fun i331 b332 i335 => ELp40_8 m R n [V.bor [LT.lst [LT.int IntKind.u16], LT.int IntKind.u8] r326, V.f (F.lit (Value.string s327)), V.f (F.lit (Value.bool b328)), V.own [LT.int IntKind.u8] r329, V.f (F.lit (Value.int IntKind.i64 i330)), V.f (F.lit (Value.int IntKind.u16 i331)), V.f (F.lit (Value.bool b332)), V.bor [LT.lst [LT.int IntKind.u16], LT.int IntKind.u8] r333, V.f (F.lit (Value.int IntKind.i64 i334)), V.f (F.lit (Value.int IntKind.i64 i335)), V.undef] k) i331 b332 i335 := by kernel_rfl
theorem eqLp40_8 (m : Nat) (R : Type) (r326 : Abs.Rows) (s327 : ByteArray) (b328 : Bool) (r329 : Abs.Rows) (i330 : Int) (r333 : Abs.Rows) (i334 : Int) (k : Ex → List V → Option R) : ∀ (n : Nat) (i331 : Int) (b332 : Bool) (i335 : Int), ELp40_8 m R n [V.bor [LT.lst [LT.int IntKind.u16], LT.int IntKind.u8] r326, V.f (F.lit (Value.string s327)), V.f (F.lit (Value.bool b328)), V.own [LT.int IntKind.u8] r329, V.f (F.lit (Value.int IntKind.i64 i330)), V.f (F.lit (Value.int IntKind.u16 i331)), V.f (F.lit (Value.bool b332)), V.bor [LT.lst [LT.int IntKind.u16], LT.int IntKind.u8] r333, V.f (F.lit (Value.int IntKind.i64 i334)), V.f (F.lit (Value.int IntKind.i64 i335)), V.undef] k = Lp40_8 m (fun i343 b344 i345 => k (Ex.exit (2 : Nat)) [V.bor [LT.lst [LT.int IntKind.u16], LT.int IntKind.u8] r326, V.f (F.lit (Value.string s327)), V.f (F.lit (Value.bool b328)), V.own [LT.int IntKind.u8] r329, V.f (F.lit (Value.int IntKind.i64 i330)), V.f (F.lit (Value.int IntKind.u16 i343)), V.f (F.lit (Value.bool b344)), V.bor [LT.lst [LT.int IntKind.u16], LT.int IntKind.u8] r333, V.f (F.lit (Value.int IntKind.i64 i334)), V.f (F.lit (Value.int IntKind.i64 i345)), V.undef]) r326 s327 b328 r329 i330 r333 i334 n i331 b332 i335
  | 0, _, _, _ => rfl
  | n + 1, i331, b332, i335 => by
    simp only [ELp40_8, Lp40_8]
    congr 1
    funext i331 b332 i335
    exact eqLp40_8 m R r326 s327 b328 r329 i330 r333 i334 k n i331 b332 i335
def L14 (m : Nat) : LTbl := addB 40 8 (brLp40_8 m (L13 m)) (L13 m)
theorem okL14 (m : Nat) : LTOk Tryd.prog H (L14 m) := addB_ok (okT19 m) hM (okL13 m) (l := [0, 2, 3, 4, 5, 6, 7, 18, 19, 20, 49]) (by kernel_rfl) (by kernel_rfl) m (fun R n vs k => ELp40_8 m R n vs k) (fun R vs k => rfl) (fun R n vs k x h => by
      simp only [ELp40_8] at h
      split at h
      · exact (stLp40_8 m n R _ _ _ _ _ _ _ _ _ _ k).trans h
      · cases h) fun R vs k x h => by
    unfold brLp40_8 at h
    split at h
    · exact .inl ((eqLp40_8 m R _ _ _ _ _ _ _ k m _ _ _).trans h)
    · exact .inr h

/-- math/bits.TrailingZeros16 -/
def Fn81 {R : Type} (m : Nat) : Int → (Int → Option R) → Option R := match m with
  | 0 => fun _ _ => none
  | m + 1 => fun i349 k =>
  bif i349 == (0 : Int) then (k ((16 : Int))) else
  (bif decide ((0 : Int) ≤ Int.fdiv (IntKind.wrap IntKind.u32 ((125613361 : Int) * IntKind.wrap IntKind.u32 (bitsOp IntKind.u16 (BitVec.ofInt (16 : Nat) i349 &&& BitVec.ofInt (16 : Nat) (IntKind.wrap IntKind.u16 ((0 : Int) - i349)))))) ((2 : Int) ^ min (Int.toNat (27 : Int)) (32 : Nat)) ∧ Int.fdiv (IntKind.wrap IntKind.u32 ((125613361 : Int) * IntKind.wrap IntKind.u32 (bitsOp IntKind.u16 (BitVec.ofInt (16 : Nat) i349 &&& BitVec.ofInt (16 : Nat) (IntKind.wrap IntKind.u16 ((0 : Int) - i349)))))) ((2 : Int) ^ min (Int.toNat (27 : Int)) (32 : Nat)) < (↑(32 : Nat) : Int)) then (k (IntKind.wrap IntKind.i64 (fI Med.tabB (Int.toNat (Int.fdiv (IntKind.wrap IntKind.u32 ((125613361 : Int) * IntKind.wrap IntKind.u32 (bitsOp IntKind.u16 (BitVec.ofInt (16 : Nat) i349 &&& BitVec.ofInt (16 : Nat) (IntKind.wrap IntKind.u16 ((0 : Int) - i349)))))) ((2 : Int) ^ min (Int.toNat (27 : Int)) (32 : Nat)))) (0 : Nat)))) else
  (none))
def brFn81 (m : Nat) (T : Tbl) (R : Type) (vs : List V) (k : V → List V → Option R) : Option R := match vs with
  | [V.f (F.lit (Value.int IntKind.u16 i349))] => Fn81 m i349 (fun i350 => k (V.f (F.lit (Value.int IntKind.i64 i350))) [V.undef])
  | _ => T R 81 vs k
set_option maxRecDepth 100000 in
theorem evFn81 (m : Nat) (R : Type) (i349 : Int) (k : V → List V → Option R) : runK Tryd.prog H (T19 m) (L14 m) 81 [V.f (F.lit (Value.int IntKind.u16 i349))] k = Fn81 (m + 1) i349 (fun i350 => k (V.f (F.lit (Value.int IntKind.i64 i350))) [V.undef]) := by kernel_rfl
def T20 (m : Nat) : Tbl := addT 81 (brFn81 m (T19 m)) (T19 m)
theorem okT20 (m : Nat) : TblOk Tryd.prog (T20 m) := addT_ok (okT19 m) fun R vs k x h => by
  unfold brFn81 at h
  split at h
  · cases m with
    | zero => cases h
    | succ m => exact runK_some (okT19 m) hM (okL14 m) ((evFn81 m R _ k).trans h)
  · exact okT19 m R 81 _ k x h

/-- a round of a loop of hookflash/dialplan.shared -/
def Lp40_3_step {R : Type} (m : Nat) (kx0 : ByteArray → Bool → Abs.Rows → Int → Option R) (kx1 : Abs.Rows → Int → Option R) (r321 : Abs.Rows) (s322 : ByteArray) (b323 : Bool) (REC : Abs.Rows → Int → Option R) (r324 : Abs.Rows) (i325 : Int) : Option R :=
  bif decide (i325 ≤ (30 : Int)) then (Lp40_8 m (fun i346 b347 i348 => bif b347 then (kx0 (rowsBytes r324) true r324 i325) else
  (bif i346 == (0 : Int) then (kx0 ({ data := #[] }) false r324 i325) else
  (Fn81 m i346 (fun i351 => bif decide ((0 : Int) ≤ i351 ∧ i351 < (↑(ByteArray.size { data := #[(35 : UInt8), (42 : UInt8), (48 : UInt8), (49 : UInt8), (50 : UInt8), (51 : UInt8), (52 : UInt8), (53 : UInt8), (54 : UInt8), (55 : UInt8), (56 : UInt8), (57 : UInt8)] }) : Int)) then (bif decide (List.length r324 + List.length [[F.lit (Value.int IntKind.u8 (↑(UInt8.toNat (Array.getD (ByteArray.data { data := #[(35 : UInt8), (42 : UInt8), (48 : UInt8), (49 : UInt8), (50 : UInt8), (51 : UInt8), (52 : UInt8), (53 : UInt8), (54 : UInt8), (55 : UInt8), (56 : UInt8), (57 : UInt8)] }) (Int.toNat i351) (0 : UInt8))) : Int))]] ≤ rowMax) then (letV (r324 ++ [[F.lit (Value.int IntKind.u8 (↑(UInt8.toNat (Array.getD (ByteArray.data { data := #[(35 : UInt8), (42 : UInt8), (48 : UInt8), (49 : UInt8), (50 : UInt8), (51 : UInt8), (52 : UInt8), (53 : UInt8), (54 : UInt8), (55 : UInt8), (56 : UInt8), (57 : UInt8)] }) (Int.toNat i351) (0 : UInt8))) : Int))]]) (fun r352 => REC r352 (IntKind.wrap IntKind.i64 (i325 + (1 : Int))))) else
  (none)) else
  (none))))) r321 s322 b323 r324 i325 r321 ((↑(List.length r321) : Int)) m ((4095 : Int)) (decide (i325 > (0 : Int))) ((0 : Int))) else
  (kx1 r324 i325)
def Lp40_3 {R : Type} (m : Nat) (kx0 : ByteArray → Bool → Abs.Rows → Int → Option R) (kx1 : Abs.Rows → Int → Option R) (r321 : Abs.Rows) (s322 : ByteArray) (b323 : Bool) : Nat → Abs.Rows → Int → Option R
  | 0, _, _ => none
  | n + 1, r324, i325 => Lp40_3_step m kx0 kx1 r321 s322 b323 (Lp40_3 m kx0 kx1 r321 s322 b323 n) r324 i325
def ELp40_3 (m : Nat) (R : Type) : Nat → List V → (Ex → List V → Option R) → Option R
  | 0, _, _ => none
  | n + 1, vs, k => match vs with
    | [V.bor [LT.lst [LT.int IntKind.u16], LT.int IntKind.u8] r321, V.f (F.lit (Value.string s322)), V.f (F.lit (Value.bool b323)), V.own [LT.int IntKind.u8] r324, V.f (F.lit (Value.int IntKind.i64 i325)), V.undef] => Lp40_3_step m (fun s353 b354 r355 i356 => k Ex.ret [V.bor [LT.lst [LT.int IntKind.u16], LT.int IntKind.u8] r321, V.f (F.lit (Value.string s353)), V.f (F.lit (Value.bool b354)), V.own [LT.int IntKind.u8] r355, V.f (F.lit (Value.int IntKind.i64 i356)), V.undef]) (fun r357 i358 => k (Ex.exit (0 : Nat)) [V.bor [LT.lst [LT.int IntKind.u16], LT.int IntKind.u8] r321, V.f (F.lit (Value.string s322)), V.f (F.lit (Value.bool b323)), V.own [LT.int IntKind.u8] r357, V.f (F.lit (Value.int IntKind.i64 i358)), V.undef]) r321 s322 b323 (fun r324 i325 => ELp40_3 m R n [V.bor [LT.lst [LT.int IntKind.u16], LT.int IntKind.u8] r321, V.f (F.lit (Value.string s322)), V.f (F.lit (Value.bool b323)), V.own [LT.int IntKind.u8] r324, V.f (F.lit (Value.int IntKind.i64 i325)), V.undef] k) r324 i325
    | _ => none
def brLp40_3 (m : Nat) (L : LTbl) (R : Type) (vs : List V) (k : Ex → List V → Option R) : Option R := match vs with
  | [V.bor [LT.lst [LT.int IntKind.u16], LT.int IntKind.u8] r321, V.f (F.lit (Value.string s322)), V.f (F.lit (Value.bool b323)), V.own [LT.int IntKind.u8] r324, V.f (F.lit (Value.int IntKind.i64 i325)), V.undef] => Lp40_3 m (fun s353 b354 r355 i356 => k Ex.ret [V.bor [LT.lst [LT.int IntKind.u16], LT.int IntKind.u8] r321, V.f (F.lit (Value.string s353)), V.f (F.lit (Value.bool b354)), V.own [LT.int IntKind.u8] r355, V.f (F.lit (Value.int IntKind.i64 i356)), V.undef]) (fun r357 i358 => k (Ex.exit (0 : Nat)) [V.bor [LT.lst [LT.int IntKind.u16], LT.int IntKind.u8] r321, V.f (F.lit (Value.string s322)), V.f (F.lit (Value.bool b323)), V.own [LT.int IntKind.u8] r357, V.f (F.lit (Value.int IntKind.i64 i358)), V.undef]) r321 s322 b323 m r324 i325
  | _ => L R 40 3 vs k
set_option maxRecDepth 100000 in
theorem stLp40_3 (m n : Nat) (R : Type) (r321 : Abs.Rows) (s322 : ByteArray) (b323 : Bool) (r324 : Abs.Rows) (i325 : Int) (k : Ex → List V → Option R) : codeK Tryd.prog H (T20 m) 40 (L14 m) 4 (loopBody Tryd.prog 40 3) (mkEnv [0, 2, 3, 4, 5, 49] [V.bor [LT.lst [LT.int IntKind.u16], LT.int IntKind.u8] r321, V.f (F.lit (Value.string s322)), V.f (F.lit (Value.bool b323)), V.own [LT.int IntKind.u8] r324, V.f (F.lit (Value.int IntKind.i64 i325)), V.undef] 0 (H.len 40)) (fun e env' => match e with | .normal => ELp40_3 m R n (vals [0, 2, 3, 4, 5, 49] env') k | e => k e (vals [0, 2, 3, 4, 5, 49] env')) = Lp40_3_step m (fun s353 b354 r355 i356 => k Ex.ret [V.bor [LT.lst [LT.int IntKind.u16], LT.int IntKind.u8] r321, V.f (F.lit (Value.string s353)), V.f (F.lit (Value.bool b354)), V.own [LT.int IntKind.u8] r355, V.f (F.lit (Value.int IntKind.i64 i356)), V.undef]) (fun r357 i358 => k (Ex.exit (0 : Nat)) [V.bor [LT.lst [LT.int IntKind.u16], LT.int IntKind.u8] r321, V.f (F.lit (Value.string s322)), V.f (F.lit (Value.bool b323)), V.own [LT.int IntKind.u8] r357, V.f (F.lit (Value.int IntKind.i64 i358)), V.undef]) r321 s322 b323 (fun r324 i325 => ELp40_3 m R n [V.bor [LT.lst [LT.int IntKind.u16], LT.int IntKind.u8] r321, V.f (F.lit (Value.string s322)), V.f (F.lit (Value.bool b323)), V.own [LT.int IntKind.u8] r324, V.f (F.lit (Value.int IntKind.i64 i325)), V.undef] k) r324 i325 := by kernel_rfl
theorem eqLp40_3 (m : Nat) (R : Type) (r321 : Abs.Rows) (s322 : ByteArray) (b323 : Bool) (k : Ex → List V → Option R) : ∀ (n : Nat) (r324 : Abs.Rows) (i325 : Int), ELp40_3 m R n [V.bor [LT.lst [LT.int IntKind.u16], LT.int IntKind.u8] r321, V.f (F.lit (Value.string s322)), V.f (F.lit (Value.bool b323)), V.own [LT.int IntKind.u8] r324, V.f (F.lit (Value.int IntKind.i64 i325)), V.undef] k = Lp40_3 m (fun s353 b354 r355 i356 => k Ex.ret [V.bor [LT.lst [LT.int IntKind.u16], LT.int IntKind.u8] r321, V.f (F.lit (Value.string s353)), V.f (F.lit (Value.bool b354)), V.own [LT.int IntKind.u8] r355, V.f (F.lit (Value.int IntKind.i64 i356)), V.undef]) (fun r357 i358 => k (Ex.exit (0 : Nat)) [V.bor [LT.lst [LT.int IntKind.u16], LT.int IntKind.u8] r321, V.f (F.lit (Value.string s322)), V.f (F.lit (Value.bool b323)), V.own [LT.int IntKind.u8] r357, V.f (F.lit (Value.int IntKind.i64 i358)), V.undef]) r321 s322 b323 n r324 i325
  | 0, _, _ => rfl
  | n + 1, r324, i325 => by
    simp only [ELp40_3, Lp40_3]
    congr 1
    funext r324 i325
    exact eqLp40_3 m R r321 s322 b323 k n r324 i325
def L15 (m : Nat) : LTbl := addB 40 3 (brLp40_3 m (L14 m)) (L14 m)
theorem okL15 (m : Nat) : LTOk Tryd.prog H (L15 m) := addB_ok (okT20 m) hM (okL14 m) (l := [0, 2, 3, 4, 5, 49]) (by kernel_rfl) (by kernel_rfl) m (fun R n vs k => ELp40_3 m R n vs k) (fun R vs k => rfl) (fun R n vs k x h => by
      simp only [ELp40_3] at h
      split at h
      · exact (stLp40_3 m n R _ _ _ _ _ k).trans h
      · cases h) fun R vs k x h => by
    unfold brLp40_3 at h
    split at h
    · exact .inl ((eqLp40_3 m R _ _ _ k m _ _).trans h)
    · exact .inr h

/-- hookflash/dialplan.shared -/
def Fn40 {R : Type} (m : Nat) : Abs.Rows → (ByteArray → Bool → Option R) → Option R := match m with
  | 0 => fun _ _ => none
  | m + 1 => fun r320 k =>
  Lp40_3 m (fun s359 b360 r361 i362 => k s359 b360) (fun r363 i364 => k ({ data := #[] }) false) r320 ({ data := #[] }) false m rows0 ((0 : Int))
def brFn40 (m : Nat) (T : Tbl) (R : Type) (vs : List V) (k : V → List V → Option R) : Option R := match vs with
  | [V.bor [LT.lst [LT.int IntKind.u16], LT.int IntKind.u8] r320] => Fn40 m r320 (fun s365 b366 => k (V.tup [V.f (F.lit (Value.string s365)), V.f (F.lit (Value.bool b366))]) [V.undef])
  | _ => T R 40 vs k
set_option maxRecDepth 100000 in
theorem evFn40 (m : Nat) (R : Type) (r320 : Abs.Rows) (k : V → List V → Option R) : runK Tryd.prog H (T20 m) (L15 m) 40 [V.bor [LT.lst [LT.int IntKind.u16], LT.int IntKind.u8] r320] k = Fn40 (m + 1) r320 (fun s365 b366 => k (V.tup [V.f (F.lit (Value.string s365)), V.f (F.lit (Value.bool b366))]) [V.undef]) := by kernel_rfl
def T21 (m : Nat) : Tbl := addT 40 (brFn40 m (T20 m)) (T20 m)
theorem okT21 (m : Nat) : TblOk Tryd.prog (T21 m) := addT_ok (okT20 m) fun R vs k x h => by
  unfold brFn40 at h
  split at h
  · cases m with
    | zero => cases h
    | succ m => exact runK_some (okT20 m) hM (okL15 m) ((evFn40 m R _ k).trans h)
  · exact okT20 m R 40 _ k x h

/-- hookflash/dialplan.Shared -/
def Fn7 {R : Type} (m : Nat) : ByteArray → ByteArray → (ByteArray → Bool → Int → Option R) → Option R := match m with
  | 0 => fun _ _ _ => none
  | m + 1 => fun s130 s131 k =>
  Fn39 m s130 (fun r314 i315 i316 => bif i316 != (0 : Int) then (k ({ data := #[] }) false i316) else
  (Fn39 m s131 (fun r317 i318 i319 => bif i319 != (0 : Int) then (k ({ data := #[] }) false i319) else
  (Fn40 m ([[F.lst [LT.int IntKind.u16] r314, F.lit (Value.int IntKind.u8 i315)], [F.lst [LT.int IntKind.u16] r317, F.lit (Value.int IntKind.u8 i318)]]) (fun s367 b368 => k s367 b368 ((0 : Int)))))))
def brFn7 (m : Nat) (T : Tbl) (R : Type) (vs : List V) (k : V → List V → Option R) : Option R := match vs with
  | [V.f (F.lit (Value.string s130)), V.f (F.lit (Value.string s131))] => Fn7 m s130 s131 (fun s369 b370 i371 => k (V.tup [V.f (F.lit (Value.string s369)), V.f (F.lit (Value.bool b370)), V.f (F.lit (Value.int IntKind.i64 i371))]) [V.undef, V.undef])
  | _ => T R 7 vs k
set_option maxRecDepth 100000 in
theorem evFn7 (m : Nat) (R : Type) (s130 : ByteArray) (s131 : ByteArray) (k : V → List V → Option R) : runK Tryd.prog H (T21 m) (L15 m) 7 [V.f (F.lit (Value.string s130)), V.f (F.lit (Value.string s131))] k = Fn7 (m + 1) s130 s131 (fun s369 b370 i371 => k (V.tup [V.f (F.lit (Value.string s369)), V.f (F.lit (Value.bool b370)), V.f (F.lit (Value.int IntKind.i64 i371))]) [V.undef, V.undef]) := by kernel_rfl
def T22 (m : Nat) : Tbl := addT 7 (brFn7 m (T21 m)) (T21 m)
theorem okT22 (m : Nat) : TblOk Tryd.prog (T22 m) := addT_ok (okT21 m) fun R vs k x h => by
  unfold brFn7 at h
  split at h
  · cases m with
    | zero => cases h
    | succ m => exact runK_some (okT21 m) hM (okL15 m) ((evFn7 m R _ _ k).trans h)
  · exact okT21 m R 7 _ k x h

/-- hookflash/dialplan.Least -/
def Fn8 {R : Type} (m : Nat) : ByteArray → (ByteArray → Int → Option R) → Option R := match m with
  | 0 => fun _ _ => none
  | m + 1 => fun s375 k =>
  Fn39 m s375 (fun r376 i377 i378 => bif i378 != (0 : Int) then (k ({ data := #[] }) i378) else
  (Fn40 m ([[F.lst [LT.int IntKind.u16] r376, F.lit (Value.int IntKind.u8 i377)]]) (fun s379 b380 => k s379 ((0 : Int)))))
def brFn8 (m : Nat) (T : Tbl) (R : Type) (vs : List V) (k : V → List V → Option R) : Option R := match vs with
  | [V.f (F.lit (Value.string s375))] => Fn8 m s375 (fun s381 i382 => k (V.tup [V.f (F.lit (Value.string s381)), V.f (F.lit (Value.int IntKind.i64 i382))]) [V.undef])
  | _ => T R 8 vs k
set_option maxRecDepth 100000 in
theorem evFn8 (m : Nat) (R : Type) (s375 : ByteArray) (k : V → List V → Option R) : runK Tryd.prog H (T22 m) (L15 m) 8 [V.f (F.lit (Value.string s375))] k = Fn8 (m + 1) s375 (fun s381 i382 => k (V.tup [V.f (F.lit (Value.string s381)), V.f (F.lit (Value.int IntKind.i64 i382))]) [V.undef]) := by kernel_rfl
def T23 (m : Nat) : Tbl := addT 8 (brFn8 m (T22 m)) (T22 m)
theorem okT23 (m : Nat) : TblOk Tryd.prog (T23 m) := addT_ok (okT22 m) fun R vs k x h => by
  unfold brFn8 at h
  split at h
  · cases m with
    | zero => cases h
    | succ m => exact runK_some (okT22 m) hM (okL15 m) ((evFn8 m R _ k).trans h)
  · exact okT22 m R 8 _ k x h

/-- a rest of hookflash/flashref2.shapeOf -/
def Jn41_18 {R : Type} (m : Nat) (kx0 : Bool → Option R) (kx1 : ByteArray → Abs.Rows → Option R) (s394 : ByteArray) (r395 : Abs.Rows) (i396 : Int) (b397 : Bool) (r398 : Abs.Rows) (i399 : Int) (s400 : ByteArray) (i401 : Int) : Option R :=
  bif ByteArray.toList s400 == ByteArray.toList { data := #[] } then (kx0 false) else
  (bif decide (List.length r398 + List.length [[F.lit (Value.string s400)]] ≤ rowMax) then (letV (r398 ++ [[F.lit (Value.string s400)]]) (fun r402 => bif decide ((0 : Int) ≤ i401 ∧ i401 ≤ (↑(ByteArray.size s394) : Int)) then (kx1 (ByteArray.extract s394 (Int.toNat i401) (ByteArray.size s394)) r402) else
  (none))) else
  (none))
def brJn41_18 (m : Nat) (L : LTbl) (R : Type) (vs : List V) (k : Ex → List V → Option R) : Option R := match vs with
  | [V.f (F.lit (Value.string s394)), V.obj [V.own [LT.str] r395, V.f (F.lit (Value.int IntKind.u8 i396))], V.f (F.lit (Value.bool b397)), V.obj [V.own [LT.str] r398, V.f (F.lit (Value.int IntKind.u8 i399))], V.f (F.lit (Value.string s400)), V.f (F.lit (Value.int IntKind.i64 i401)), V.undef] => Jn41_18 m (fun b403 => k Ex.ret [V.f (F.lit (Value.string s394)), V.obj [V.f (F.lst [LT.str] r398), V.f (F.lit (Value.int IntKind.u8 i399))], V.f (F.lit (Value.bool b403)), V.obj [V.f (F.lst [LT.str] r398), V.f (F.lit (Value.int IntKind.u8 i399))], V.f (F.lit (Value.string s400)), V.f (F.lit (Value.int IntKind.i64 i401)), V.undef]) (fun s404 r405 => k Ex.normal [V.f (F.lit (Value.string s404)), V.obj [V.own [LT.str] r395, V.f (F.lit (Value.int IntKind.u8 i396))], V.f (F.lit (Value.bool b397)), V.obj [V.own [LT.str] r405, V.f (F.lit (Value.int IntKind.u8 i399))], V.f (F.lit (Value.string s400)), V.f (F.lit (Value.int IntKind.i64 i401)), V.undef]) s394 r395 i396 b397 r398 i399 s400 i401
  | _ => L R 41 18 vs k
set_option maxRecDepth 100000 in
theorem evJn41_18 (m : Nat) (R : Type) (s394 : ByteArray) (r395 : Abs.Rows) (i396 : Int) (b397 : Bool) (r398 : Abs.Rows) (i399 : Int) (s400 : ByteArray) (i401 : Int) (k : Ex → List V → Option R) : codeK Tryd.prog H (T23 m) 41 (L15 m) 19 (loopBody Tryd.prog 41 18) (mkEnv [0, 2, 3, 4, 6, 7, 72] [V.f (F.lit (Value.string s394)), V.obj [V.own [LT.str] r395, V.f (F.lit (Value.int IntKind.u8 i396))], V.f (F.lit (Value.bool b397)), V.obj [V.own [LT.str] r398, V.f (F.lit (Value.int IntKind.u8 i399))], V.f (F.lit (Value.string s400)), V.f (F.lit (Value.int IntKind.i64 i401)), V.undef] 0 (H.len 41)) (fun e env' => k e (vals [0, 2, 3, 4, 6, 7, 72] env')) = Jn41_18 m (fun b403 => k Ex.ret [V.f (F.lit (Value.string s394)), V.obj [V.f (F.lst [LT.str] r398), V.f (F.lit (Value.int IntKind.u8 i399))], V.f (F.lit (Value.bool b403)), V.obj [V.f (F.lst [LT.str] r398), V.f (F.lit (Value.int IntKind.u8 i399))], V.f (F.lit (Value.string s400)), V.f (F.lit (Value.int IntKind.i64 i401)), V.undef]) (fun s404 r405 => k Ex.normal [V.f (F.lit (Value.string s404)), V.obj [V.own [LT.str] r395, V.f (F.lit (Value.int IntKind.u8 i396))], V.f (F.lit (Value.bool b397)), V.obj [V.own [LT.str] r405, V.f (F.lit (Value.int IntKind.u8 i399))], V.f (F.lit (Value.string s400)), V.f (F.lit (Value.int IntKind.i64 i401)), V.undef]) s394 r395 i396 b397 r398 i399 s400 i401 := by kernel_rfl
def L16 (m : Nat) : LTbl := addJ 41 18 (brJn41_18 m (L15 m)) (L15 m)
theorem okL16 (m : Nat) : LTOk Tryd.prog H (L16 m) := addJ_ok (okT23 m) hM (okL15 m) (l := [0, 2, 3, 4, 6, 7, 72]) (by kernel_rfl) (by kernel_rfl) fun R vs k x h => by
    unfold brJn41_18 at h
    split at h
    · exact .inl ((evJn41_18 m R _ _ _ _ _ _ _ _ k).trans h)
    · exact .inr h

/-- a round of a loop of hookflash/flashref2.setOf -/
def Lp82_8_step {R : Type} (m : Nat) (kx0 : ByteArray → Int → Option R) (s423 : ByteArray) (s424 : ByteArray) (i425 : Int) (i427 : Int) (REC : ByteArray → Int → Option R) (s426 : ByteArray) (i428 : Int) : Option R :=
  bif decide (i428 < (10 : Int)) then (bif decide ((0 : Int) ≤ i428) then (bif bitsOp IntKind.i64 (BitVec.ofInt (64 : Nat) (Int.fdiv i425 ((2 : Int) ^ min (Int.toNat i428) (64 : Nat))) &&& BitVec.ofInt (64 : Nat) (1 : Int)) == (1 : Int) then (bif decide ((0 : Int) ≤ IntKind.wrap IntKind.i64 (i428 + (1 : Int)) ∧ IntKind.wrap IntKind.i64 (i428 + (1 : Int)) ≤ (↑(ByteArray.size { data := #[(48 : UInt8), (49 : UInt8), (50 : UInt8), (51 : UInt8), (52 : UInt8), (53 : UInt8), (54 : UInt8), (55 : UInt8), (56 : UInt8), (57 : UInt8)] }) : Int)) then (bif decide ((0 : Int) ≤ i428 ∧ i428 ≤ (↑(Int.toNat (IntKind.wrap IntKind.i64 (i428 + (1 : Int)))) : Int)) then (bif decide (ByteArray.size s426 + ByteArray.size (ByteArray.extract { data := #[(48 : UInt8), (49 : UInt8), (50 : UInt8), (51 : UInt8), (52 : UInt8), (53 : UInt8), (54 : UInt8), (55 : UInt8), (56 : UInt8), (57 : UInt8)] } (Int.toNat i428) (Int.toNat (IntKind.wrap IntKind.i64 (i428 + (1 : Int))))) ≤ strMax) then (letV (s426 ++ ByteArray.extract { data := #[(48 : UInt8), (49 : UInt8), (50 : UInt8), (51 : UInt8), (52 : UInt8), (53 : UInt8), (54 : UInt8), (55 : UInt8), (56 : UInt8), (57 : UInt8)] } (Int.toNat i428) (Int.toNat (IntKind.wrap IntKind.i64 (i428 + (1 : Int))))) (fun s429 => REC s429 (IntKind.wrap IntKind.i64 (i428 + (1 : Int))))) else
  (none)) else
  (none)) else
  (none)) else
  (REC s426 (IntKind.wrap IntKind.i64 (i428 + (1 : Int))))) else
  (none)) else
  (kx0 s426 i428)
def Lp82_8 {R : Type} (m : Nat) (kx0 : ByteArray → Int → Option R) (s423 : ByteArray) (s424 : ByteArray) (i425 : Int) (i427 : Int) : Nat → ByteArray → Int → Option R
  | 0, _, _ => none
  | n + 1, s426, i428 => Lp82_8_step m kx0 s423 s424 i425 i427 (Lp82_8 m kx0 s423 s424 i425 i427 n) s426 i428
def ELp82_8 (m : Nat) (R : Type) : Nat → List V → (Ex → List V → Option R) → Option R
  | 0, _, _ => none
  | n + 1, vs, k => match vs with
    | [V.f (F.lit (Value.string s423)), V.f (F.lit (Value.string s424)), V.f (F.lit (Value.int IntKind.i64 i425)), V.f (F.lit (Value.string s426)), V.f (F.lit (Value.int IntKind.i64 i427)), V.f (F.lit (Value.int IntKind.i64 i428)), V.undef] => Lp82_8_step m (fun s430 i431 => k (Ex.exit (2 : Nat)) [V.f (F.lit (Value.string s423)), V.f (F.lit (Value.string s424)), V.f (F.lit (Value.int IntKind.i64 i425)), V.f (F.lit (Value.string s430)), V.f (F.lit (Value.int IntKind.i64 i427)), V.f (F.lit (Value.int IntKind.i64 i431)), V.undef]) s423 s424 i425 i427 (fun s426 i428 => ELp82_8 m R n [V.f (F.lit (Value.string s423)), V.f (F.lit (Value.string s424)), V.f (F.lit (Value.int IntKind.i64 i425)), V.f (F.lit (Value.string s426)), V.f (F.lit (Value.int IntKind.i64 i427)), V.f (F.lit (Value.int IntKind.i64 i428)), V.undef] k) s426 i428
    | _ => none
def brLp82_8 (m : Nat) (L : LTbl) (R : Type) (vs : List V) (k : Ex → List V → Option R) : Option R := match vs with
  | [V.f (F.lit (Value.string s423)), V.f (F.lit (Value.string s424)), V.f (F.lit (Value.int IntKind.i64 i425)), V.f (F.lit (Value.string s426)), V.f (F.lit (Value.int IntKind.i64 i427)), V.f (F.lit (Value.int IntKind.i64 i428)), V.undef] => Lp82_8 m (fun s430 i431 => k (Ex.exit (2 : Nat)) [V.f (F.lit (Value.string s423)), V.f (F.lit (Value.string s424)), V.f (F.lit (Value.int IntKind.i64 i425)), V.f (F.lit (Value.string s430)), V.f (F.lit (Value.int IntKind.i64 i427)), V.f (F.lit (Value.int IntKind.i64 i431)), V.undef]) s423 s424 i425 i427 m s426 i428
  | _ => L R 82 8 vs k
set_option maxRecDepth 100000 in
theorem stLp82_8 (m n : Nat) (R : Type) (s423 : ByteArray) (s424 : ByteArray) (i425 : Int) (s426 : ByteArray) (i427 : Int) (i428 : Int) (k : Ex → List V → Option R) : codeK Tryd.prog H (T23 m) 82 (L16 m) 9 (loopBody Tryd.prog 82 8) (mkEnv [0, 2, 3, 4, 6, 9, 49] [V.f (F.lit (Value.string s423)), V.f (F.lit (Value.string s424)), V.f (F.lit (Value.int IntKind.i64 i425)), V.f (F.lit (Value.string s426)), V.f (F.lit (Value.int IntKind.i64 i427)), V.f (F.lit (Value.int IntKind.i64 i428)), V.undef] 0 (H.len 82)) (fun e env' => match e with | .normal => ELp82_8 m R n (vals [0, 2, 3, 4, 6, 9, 49] env') k | e => k e (vals [0, 2, 3, 4, 6, 9, 49] env')) = Lp82_8_step m (fun s430 i431 => k (Ex.exit (2 : Nat)) [V.f (F.lit (Value.string s423)), V.f (F.lit (Value.string s424)), V.f (F.lit (Value.int IntKind.i64 i425)), V.f (F.lit (Value.string s430)), V.f (F.lit (Value.int IntKind.i64 i427)), V.f (F.lit (Value.int IntKind.i64 i431)), V.undef]) s423 s424 i425 i427 (fun s426 i428 => ELp82_8 m R n [V.f (F.lit (Value.string s423)), V.f (F.lit (Value.string s424)), V.f (F.lit (Value.int IntKind.i64 i425)), V.f (F.lit (Value.string s426)), V.f (F.lit (Value.int IntKind.i64 i427)), V.f (F.lit (Value.int IntKind.i64 i428)), V.undef] k) s426 i428 := by kernel_rfl
theorem eqLp82_8 (m : Nat) (R : Type) (s423 : ByteArray) (s424 : ByteArray) (i425 : Int) (i427 : Int) (k : Ex → List V → Option R) : ∀ (n : Nat) (s426 : ByteArray) (i428 : Int), ELp82_8 m R n [V.f (F.lit (Value.string s423)), V.f (F.lit (Value.string s424)), V.f (F.lit (Value.int IntKind.i64 i425)), V.f (F.lit (Value.string s426)), V.f (F.lit (Value.int IntKind.i64 i427)), V.f (F.lit (Value.int IntKind.i64 i428)), V.undef] k = Lp82_8 m (fun s430 i431 => k (Ex.exit (2 : Nat)) [V.f (F.lit (Value.string s423)), V.f (F.lit (Value.string s424)), V.f (F.lit (Value.int IntKind.i64 i425)), V.f (F.lit (Value.string s430)), V.f (F.lit (Value.int IntKind.i64 i427)), V.f (F.lit (Value.int IntKind.i64 i431)), V.undef]) s423 s424 i425 i427 n s426 i428
  | 0, _, _ => rfl
  | n + 1, s426, i428 => by
    simp only [ELp82_8, Lp82_8]
    congr 1
    funext s426 i428
    exact eqLp82_8 m R s423 s424 i425 i427 k n s426 i428
def L17 (m : Nat) : LTbl := addB 82 8 (brLp82_8 m (L16 m)) (L16 m)
theorem okL17 (m : Nat) : LTOk Tryd.prog H (L17 m) := addB_ok (okT23 m) hM (okL16 m) (l := [0, 2, 3, 4, 6, 9, 49]) (by kernel_rfl) (by kernel_rfl) m (fun R n vs k => ELp82_8 m R n vs k) (fun R vs k => rfl) (fun R n vs k x h => by
      simp only [ELp82_8] at h
      split at h
      · exact (stLp82_8 m n R _ _ _ _ _ _ k).trans h
      · cases h) fun R vs k x h => by
    unfold brLp82_8 at h
    split at h
    · exact .inl ((eqLp82_8 m R _ _ _ _ k m _ _).trans h)
    · exact .inr h

/-- a round of a loop of hookflash/flashref2.setText -/
def Lp102_7_step {R : Type} (m : Nat) (kx0 : Int → Option R) (s438 : ByteArray) (s439 : ByteArray) (i440 : Int) (REC : Int → Option R) (i441 : Int) : Option R :=
  bif decide (IntKind.wrap IntKind.i64 (i441 + (1 : Int)) < (↑(ByteArray.size s438) : Int)) then (bif decide ((0 : Int) ≤ IntKind.wrap IntKind.i64 (i441 + (1 : Int)) ∧ IntKind.wrap IntKind.i64 (i441 + (1 : Int)) < (↑(ByteArray.size s438) : Int)) then (bif decide ((0 : Int) ≤ i441 ∧ i441 < (↑(ByteArray.size s438) : Int)) then (bif (↑(UInt8.toNat (Array.getD (ByteArray.data s438) (Int.toNat (IntKind.wrap IntKind.i64 (i441 + (1 : Int)))) (0 : UInt8))) : Int) == IntKind.wrap IntKind.u8 ((↑(UInt8.toNat (Array.getD (ByteArray.data s438) (Int.toNat i441) (0 : UInt8))) : Int) + (1 : Int)) then (REC (IntKind.wrap IntKind.i64 (i441 + (1 : Int)))) else
  (kx0 i441)) else
  (none)) else
  (none)) else
  (kx0 i441)
def Lp102_7 {R : Type} (m : Nat) (kx0 : Int → Option R) (s438 : ByteArray) (s439 : ByteArray) (i440 : Int) : Nat → Int → Option R
  | 0, _ => none
  | n + 1, i441 => Lp102_7_step m kx0 s438 s439 i440 (Lp102_7 m kx0 s438 s439 i440 n) i441
def ELp102_7 (m : Nat) (R : Type) : Nat → List V → (Ex → List V → Option R) → Option R
  | 0, _, _ => none
  | n + 1, vs, k => match vs with
    | [V.f (F.lit (Value.string s438)), V.f (F.lit (Value.string s439)), V.f (F.lit (Value.int IntKind.i64 i440)), V.f (F.lit (Value.int IntKind.i64 i441)), V.undef] => Lp102_7_step m (fun i442 => k (Ex.exit (2 : Nat)) [V.f (F.lit (Value.string s438)), V.f (F.lit (Value.string s439)), V.f (F.lit (Value.int IntKind.i64 i440)), V.f (F.lit (Value.int IntKind.i64 i442)), V.undef]) s438 s439 i440 (fun i441 => ELp102_7 m R n [V.f (F.lit (Value.string s438)), V.f (F.lit (Value.string s439)), V.f (F.lit (Value.int IntKind.i64 i440)), V.f (F.lit (Value.int IntKind.i64 i441)), V.undef] k) i441
    | _ => none
def brLp102_7 (m : Nat) (L : LTbl) (R : Type) (vs : List V) (k : Ex → List V → Option R) : Option R := match vs with
  | [V.f (F.lit (Value.string s438)), V.f (F.lit (Value.string s439)), V.f (F.lit (Value.int IntKind.i64 i440)), V.f (F.lit (Value.int IntKind.i64 i441)), V.undef] => Lp102_7 m (fun i442 => k (Ex.exit (2 : Nat)) [V.f (F.lit (Value.string s438)), V.f (F.lit (Value.string s439)), V.f (F.lit (Value.int IntKind.i64 i440)), V.f (F.lit (Value.int IntKind.i64 i442)), V.undef]) s438 s439 i440 m i441
  | _ => L R 102 7 vs k
set_option maxRecDepth 100000 in
theorem stLp102_7 (m n : Nat) (R : Type) (s438 : ByteArray) (s439 : ByteArray) (i440 : Int) (i441 : Int) (k : Ex → List V → Option R) : codeK Tryd.prog H (T23 m) 102 (L17 m) 8 (loopBody Tryd.prog 102 7) (mkEnv [0, 3, 4, 5, 69] [V.f (F.lit (Value.string s438)), V.f (F.lit (Value.string s439)), V.f (F.lit (Value.int IntKind.i64 i440)), V.f (F.lit (Value.int IntKind.i64 i441)), V.undef] 0 (H.len 102)) (fun e env' => match e with | .normal => ELp102_7 m R n (vals [0, 3, 4, 5, 69] env') k | e => k e (vals [0, 3, 4, 5, 69] env')) = Lp102_7_step m (fun i442 => k (Ex.exit (2 : Nat)) [V.f (F.lit (Value.string s438)), V.f (F.lit (Value.string s439)), V.f (F.lit (Value.int IntKind.i64 i440)), V.f (F.lit (Value.int IntKind.i64 i442)), V.undef]) s438 s439 i440 (fun i441 => ELp102_7 m R n [V.f (F.lit (Value.string s438)), V.f (F.lit (Value.string s439)), V.f (F.lit (Value.int IntKind.i64 i440)), V.f (F.lit (Value.int IntKind.i64 i441)), V.undef] k) i441 := by kernel_rfl
theorem eqLp102_7 (m : Nat) (R : Type) (s438 : ByteArray) (s439 : ByteArray) (i440 : Int) (k : Ex → List V → Option R) : ∀ (n : Nat) (i441 : Int), ELp102_7 m R n [V.f (F.lit (Value.string s438)), V.f (F.lit (Value.string s439)), V.f (F.lit (Value.int IntKind.i64 i440)), V.f (F.lit (Value.int IntKind.i64 i441)), V.undef] k = Lp102_7 m (fun i442 => k (Ex.exit (2 : Nat)) [V.f (F.lit (Value.string s438)), V.f (F.lit (Value.string s439)), V.f (F.lit (Value.int IntKind.i64 i440)), V.f (F.lit (Value.int IntKind.i64 i442)), V.undef]) s438 s439 i440 n i441
  | 0, _ => rfl
  | n + 1, i441 => by
    simp only [ELp102_7, Lp102_7]
    congr 1
    funext i441
    exact eqLp102_7 m R s438 s439 i440 k n i441
def L18 (m : Nat) : LTbl := addB 102 7 (brLp102_7 m (L17 m)) (L17 m)
theorem okL18 (m : Nat) : LTOk Tryd.prog H (L18 m) := addB_ok (okT23 m) hM (okL17 m) (l := [0, 3, 4, 5, 69]) (by kernel_rfl) (by kernel_rfl) m (fun R n vs k => ELp102_7 m R n vs k) (fun R vs k => rfl) (fun R n vs k x h => by
      simp only [ELp102_7] at h
      split at h
      · exact (stLp102_7 m n R _ _ _ _ k).trans h
      · cases h) fun R vs k x h => by
    unfold brLp102_7 at h
    split at h
    · exact .inl ((eqLp102_7 m R _ _ _ k m _).trans h)
    · exact .inr h

/-- a round of a loop of hookflash/flashref2.setText -/
def Lp102_3_step {R : Type} (m : Nat) (kx0 : ByteArray → Int → Option R) (s435 : ByteArray) (REC : ByteArray → Int → Option R) (s436 : ByteArray) (i437 : Int) : Option R :=
  bif decide (i437 < (↑(ByteArray.size s435) : Int)) then (Lp102_7 m (fun i443 => bif IntKind.wrap IntKind.i64 (i443 - i437) == (0 : Int) then (bif decide ((0 : Int) ≤ IntKind.wrap IntKind.i64 (i437 + (1 : Int)) ∧ IntKind.wrap IntKind.i64 (i437 + (1 : Int)) ≤ (↑(ByteArray.size s435) : Int)) then (bif decide ((0 : Int) ≤ i437 ∧ i437 ≤ (↑(Int.toNat (IntKind.wrap IntKind.i64 (i437 + (1 : Int)))) : Int)) then (bif decide (ByteArray.size s436 + ByteArray.size (ByteArray.extract s435 (Int.toNat i437) (Int.toNat (IntKind.wrap IntKind.i64 (i437 + (1 : Int))))) ≤ strMax) then (REC (s436 ++ ByteArray.extract s435 (Int.toNat i437) (Int.toNat (IntKind.wrap IntKind.i64 (i437 + (1 : Int))))) (IntKind.wrap IntKind.i64 (i443 + (1 : Int)))) else
  (none)) else
  (none)) else
  (none)) else
  (bif IntKind.wrap IntKind.i64 (i443 - i437) == (1 : Int) then (bif decide ((0 : Int) ≤ IntKind.wrap IntKind.i64 (i437 + (2 : Int)) ∧ IntKind.wrap IntKind.i64 (i437 + (2 : Int)) ≤ (↑(ByteArray.size s435) : Int)) then (bif decide ((0 : Int) ≤ i437 ∧ i437 ≤ (↑(Int.toNat (IntKind.wrap IntKind.i64 (i437 + (2 : Int)))) : Int)) then (bif decide (ByteArray.size s436 + ByteArray.size (ByteArray.extract s435 (Int.toNat i437) (Int.toNat (IntKind.wrap IntKind.i64 (i437 + (2 : Int))))) ≤ strMax) then (REC (s436 ++ ByteArray.extract s435 (Int.toNat i437) (Int.toNat (IntKind.wrap IntKind.i64 (i437 + (2 : Int))))) (IntKind.wrap IntKind.i64 (i443 + (1 : Int)))) else
  (none)) else
  (none)) else
  (none)) else
  (bif decide ((0 : Int) ≤ IntKind.wrap IntKind.i64 (i437 + (1 : Int)) ∧ IntKind.wrap IntKind.i64 (i437 + (1 : Int)) ≤ (↑(ByteArray.size s435) : Int)) then (bif decide ((0 : Int) ≤ i437 ∧ i437 ≤ (↑(Int.toNat (IntKind.wrap IntKind.i64 (i437 + (1 : Int)))) : Int)) then (bif decide (ByteArray.size (ByteArray.extract s435 (Int.toNat i437) (Int.toNat (IntKind.wrap IntKind.i64 (i437 + (1 : Int))))) + ByteArray.size { data := #[(45 : UInt8)] } ≤ strMax) then (bif decide ((0 : Int) ≤ IntKind.wrap IntKind.i64 (i443 + (1 : Int)) ∧ IntKind.wrap IntKind.i64 (i443 + (1 : Int)) ≤ (↑(ByteArray.size s435) : Int)) then (bif decide ((0 : Int) ≤ i443 ∧ i443 ≤ (↑(Int.toNat (IntKind.wrap IntKind.i64 (i443 + (1 : Int)))) : Int)) then (bif decide (ByteArray.size (ByteArray.extract s435 (Int.toNat i437) (Int.toNat (IntKind.wrap IntKind.i64 (i437 + (1 : Int)))) ++ { data := #[(45 : UInt8)] }) + ByteArray.size (ByteArray.extract s435 (Int.toNat i443) (Int.toNat (IntKind.wrap IntKind.i64 (i443 + (1 : Int))))) ≤ strMax) then (letV (ByteArray.extract s435 (Int.toNat i437) (Int.toNat (IntKind.wrap IntKind.i64 (i437 + (1 : Int)))) ++ { data := #[(45 : UInt8)] } ++ ByteArray.extract s435 (Int.toNat i443) (Int.toNat (IntKind.wrap IntKind.i64 (i443 + (1 : Int))))) (fun s444 => bif decide (ByteArray.size s436 + ByteArray.size s444 ≤ strMax) then (REC (s436 ++ s444) (IntKind.wrap IntKind.i64 (i443 + (1 : Int)))) else
  (none))) else
  (none)) else
  (none)) else
  (none)) else
  (none)) else
  (none)) else
  (none)))) s435 s436 i437 m i437) else
  (kx0 s436 i437)
def Lp102_3 {R : Type} (m : Nat) (kx0 : ByteArray → Int → Option R) (s435 : ByteArray) : Nat → ByteArray → Int → Option R
  | 0, _, _ => none
  | n + 1, s436, i437 => Lp102_3_step m kx0 s435 (Lp102_3 m kx0 s435 n) s436 i437
def ELp102_3 (m : Nat) (R : Type) : Nat → List V → (Ex → List V → Option R) → Option R
  | 0, _, _ => none
  | n + 1, vs, k => match vs with
    | [V.f (F.lit (Value.string s435)), V.f (F.lit (Value.string s436)), V.f (F.lit (Value.int IntKind.i64 i437)), V.undef] => Lp102_3_step m (fun s445 i446 => k (Ex.exit (0 : Nat)) [V.f (F.lit (Value.string s435)), V.f (F.lit (Value.string s445)), V.f (F.lit (Value.int IntKind.i64 i446)), V.undef]) s435 (fun s436 i437 => ELp102_3 m R n [V.f (F.lit (Value.string s435)), V.f (F.lit (Value.string s436)), V.f (F.lit (Value.int IntKind.i64 i437)), V.undef] k) s436 i437
    | _ => none
def brLp102_3 (m : Nat) (L : LTbl) (R : Type) (vs : List V) (k : Ex → List V → Option R) : Option R := match vs with
  | [V.f (F.lit (Value.string s435)), V.f (F.lit (Value.string s436)), V.f (F.lit (Value.int IntKind.i64 i437)), V.undef] => Lp102_3 m (fun s445 i446 => k (Ex.exit (0 : Nat)) [V.f (F.lit (Value.string s435)), V.f (F.lit (Value.string s445)), V.f (F.lit (Value.int IntKind.i64 i446)), V.undef]) s435 m s436 i437
  | _ => L R 102 3 vs k
set_option maxRecDepth 100000 in
theorem stLp102_3 (m n : Nat) (R : Type) (s435 : ByteArray) (s436 : ByteArray) (i437 : Int) (k : Ex → List V → Option R) : codeK Tryd.prog H (T23 m) 102 (L18 m) 4 (loopBody Tryd.prog 102 3) (mkEnv [0, 3, 4, 69] [V.f (F.lit (Value.string s435)), V.f (F.lit (Value.string s436)), V.f (F.lit (Value.int IntKind.i64 i437)), V.undef] 0 (H.len 102)) (fun e env' => match e with | .normal => ELp102_3 m R n (vals [0, 3, 4, 69] env') k | e => k e (vals [0, 3, 4, 69] env')) = Lp102_3_step m (fun s445 i446 => k (Ex.exit (0 : Nat)) [V.f (F.lit (Value.string s435)), V.f (F.lit (Value.string s445)), V.f (F.lit (Value.int IntKind.i64 i446)), V.undef]) s435 (fun s436 i437 => ELp102_3 m R n [V.f (F.lit (Value.string s435)), V.f (F.lit (Value.string s436)), V.f (F.lit (Value.int IntKind.i64 i437)), V.undef] k) s436 i437 := by kernel_rfl
theorem eqLp102_3 (m : Nat) (R : Type) (s435 : ByteArray) (k : Ex → List V → Option R) : ∀ (n : Nat) (s436 : ByteArray) (i437 : Int), ELp102_3 m R n [V.f (F.lit (Value.string s435)), V.f (F.lit (Value.string s436)), V.f (F.lit (Value.int IntKind.i64 i437)), V.undef] k = Lp102_3 m (fun s445 i446 => k (Ex.exit (0 : Nat)) [V.f (F.lit (Value.string s435)), V.f (F.lit (Value.string s445)), V.f (F.lit (Value.int IntKind.i64 i446)), V.undef]) s435 n s436 i437
  | 0, _, _ => rfl
  | n + 1, s436, i437 => by
    simp only [ELp102_3, Lp102_3]
    congr 1
    funext s436 i437
    exact eqLp102_3 m R s435 k n s436 i437
def L19 (m : Nat) : LTbl := addB 102 3 (brLp102_3 m (L18 m)) (L18 m)
theorem okL19 (m : Nat) : LTOk Tryd.prog H (L19 m) := addB_ok (okT23 m) hM (okL18 m) (l := [0, 3, 4, 69]) (by kernel_rfl) (by kernel_rfl) m (fun R n vs k => ELp102_3 m R n vs k) (fun R vs k => rfl) (fun R n vs k x h => by
      simp only [ELp102_3] at h
      split at h
      · exact (stLp102_3 m n R _ _ _ k).trans h
      · cases h) fun R vs k x h => by
    unfold brLp102_3 at h
    split at h
    · exact .inl ((eqLp102_3 m R _ k m _ _).trans h)
    · exact .inr h

/-- hookflash/flashref2.setText -/
def Fn102 {R : Type} (m : Nat) : ByteArray → (ByteArray → Option R) → Option R := match m with
  | 0 => fun _ _ => none
  | m + 1 => fun s434 k =>
  Lp102_3 m (fun s447 i448 => bif decide (ByteArray.size { data := #[(91 : UInt8)] } + ByteArray.size s447 ≤ strMax) then (bif decide (ByteArray.size ({ data := #[(91 : UInt8)] } ++ s447) + ByteArray.size { data := #[(93 : UInt8)] } ≤ strMax) then (k ({ data := #[(91 : UInt8)] } ++ s447 ++ { data := #[(93 : UInt8)] })) else
  (none)) else
  (none)) s434 m ({ data := #[] }) ((0 : Int))
def brFn102 (m : Nat) (T : Tbl) (R : Type) (vs : List V) (k : V → List V → Option R) : Option R := match vs with
  | [V.f (F.lit (Value.string s434))] => Fn102 m s434 (fun s449 => k (V.f (F.lit (Value.string s449))) [V.undef])
  | _ => T R 102 vs k
set_option maxRecDepth 100000 in
theorem evFn102 (m : Nat) (R : Type) (s434 : ByteArray) (k : V → List V → Option R) : runK Tryd.prog H (T23 m) (L19 m) 102 [V.f (F.lit (Value.string s434))] k = Fn102 (m + 1) s434 (fun s449 => k (V.f (F.lit (Value.string s449))) [V.undef]) := by kernel_rfl
def T24 (m : Nat) : Tbl := addT 102 (brFn102 m (T23 m)) (T23 m)
theorem okT24 (m : Nat) : TblOk Tryd.prog (T24 m) := addT_ok (okT23 m) fun R vs k x h => by
  unfold brFn102 at h
  split at h
  · cases m with
    | zero => cases h
    | succ m => exact runK_some (okT23 m) hM (okL19 m) ((evFn102 m R _ k).trans h)
  · exact okT23 m R 102 _ k x h

/-- a round of a loop of hookflash/flashref2.setOf -/
def Lp82_2_step {R : Type} (m : Nat) (kx0 : ByteArray → Int → Option R) (kx1 : Int → Option R) (s420 : ByteArray) (s421 : ByteArray) (REC : Int → Option R) (i422 : Int) : Option R :=
  bif decide (i422 < (1024 : Int)) then (Lp82_8 m (fun s432 i433 => bif decide ((↑(ByteArray.size s432) : Int) > (1 : Int)) then (bif !ByteArray.toList s432 == ByteArray.toList { data := #[(48 : UInt8), (49 : UInt8), (50 : UInt8), (51 : UInt8), (52 : UInt8), (53 : UInt8), (54 : UInt8), (55 : UInt8), (56 : UInt8), (57 : UInt8)] } then (bif !ByteArray.toList s432 == ByteArray.toList (ByteArray.extract { data := #[(48 : UInt8), (49 : UInt8), (50 : UInt8), (51 : UInt8), (52 : UInt8), (53 : UInt8), (54 : UInt8), (55 : UInt8), (56 : UInt8), (57 : UInt8)] } (Int.toNat (1 : Int)) (ByteArray.size { data := #[(48 : UInt8), (49 : UInt8), (50 : UInt8), (51 : UInt8), (52 : UInt8), (53 : UInt8), (54 : UInt8), (55 : UInt8), (56 : UInt8), (57 : UInt8)] })) then (bif !ByteArray.toList s432 == ByteArray.toList (ByteArray.extract { data := #[(48 : UInt8), (49 : UInt8), (50 : UInt8), (51 : UInt8), (52 : UInt8), (53 : UInt8), (54 : UInt8), (55 : UInt8), (56 : UInt8), (57 : UInt8)] } (Int.toNat (2 : Int)) (ByteArray.size { data := #[(48 : UInt8), (49 : UInt8), (50 : UInt8), (51 : UInt8), (52 : UInt8), (53 : UInt8), (54 : UInt8), (55 : UInt8), (56 : UInt8), (57 : UInt8)] })) then (Fn102 m s432 (fun s450 => bif ByteArray.toList s450 == ByteArray.toList s420 then (kx0 s432 i422) else
  (REC (IntKind.wrap IntKind.i64 (i422 + (1 : Int)))))) else
  (REC (IntKind.wrap IntKind.i64 (i422 + (1 : Int))))) else
  (REC (IntKind.wrap IntKind.i64 (i422 + (1 : Int))))) else
  (REC (IntKind.wrap IntKind.i64 (i422 + (1 : Int))))) else
  (REC (IntKind.wrap IntKind.i64 (i422 + (1 : Int))))) s420 s421 i422 i422 m ({ data := #[] }) ((0 : Int))) else
  (kx1 i422)
def Lp82_2 {R : Type} (m : Nat) (kx0 : ByteArray → Int → Option R) (kx1 : Int → Option R) (s420 : ByteArray) (s421 : ByteArray) : Nat → Int → Option R
  | 0, _ => none
  | n + 1, i422 => Lp82_2_step m kx0 kx1 s420 s421 (Lp82_2 m kx0 kx1 s420 s421 n) i422
def ELp82_2 (m : Nat) (R : Type) : Nat → List V → (Ex → List V → Option R) → Option R
  | 0, _, _ => none
  | n + 1, vs, k => match vs with
    | [V.f (F.lit (Value.string s420)), V.f (F.lit (Value.string s421)), V.f (F.lit (Value.int IntKind.i64 i422)), V.undef] => Lp82_2_step m (fun s451 i452 => k Ex.ret [V.f (F.lit (Value.string s420)), V.f (F.lit (Value.string s451)), V.f (F.lit (Value.int IntKind.i64 i452)), V.undef]) (fun i453 => k (Ex.exit (0 : Nat)) [V.f (F.lit (Value.string s420)), V.f (F.lit (Value.string s421)), V.f (F.lit (Value.int IntKind.i64 i453)), V.undef]) s420 s421 (fun i422 => ELp82_2 m R n [V.f (F.lit (Value.string s420)), V.f (F.lit (Value.string s421)), V.f (F.lit (Value.int IntKind.i64 i422)), V.undef] k) i422
    | _ => none
def brLp82_2 (m : Nat) (L : LTbl) (R : Type) (vs : List V) (k : Ex → List V → Option R) : Option R := match vs with
  | [V.f (F.lit (Value.string s420)), V.f (F.lit (Value.string s421)), V.f (F.lit (Value.int IntKind.i64 i422)), V.undef] => Lp82_2 m (fun s451 i452 => k Ex.ret [V.f (F.lit (Value.string s420)), V.f (F.lit (Value.string s451)), V.f (F.lit (Value.int IntKind.i64 i452)), V.undef]) (fun i453 => k (Ex.exit (0 : Nat)) [V.f (F.lit (Value.string s420)), V.f (F.lit (Value.string s421)), V.f (F.lit (Value.int IntKind.i64 i453)), V.undef]) s420 s421 m i422
  | _ => L R 82 2 vs k
set_option maxRecDepth 100000 in
theorem stLp82_2 (m n : Nat) (R : Type) (s420 : ByteArray) (s421 : ByteArray) (i422 : Int) (k : Ex → List V → Option R) : codeK Tryd.prog H (T24 m) 82 (L19 m) 3 (loopBody Tryd.prog 82 2) (mkEnv [0, 2, 6, 49] [V.f (F.lit (Value.string s420)), V.f (F.lit (Value.string s421)), V.f (F.lit (Value.int IntKind.i64 i422)), V.undef] 0 (H.len 82)) (fun e env' => match e with | .normal => ELp82_2 m R n (vals [0, 2, 6, 49] env') k | e => k e (vals [0, 2, 6, 49] env')) = Lp82_2_step m (fun s451 i452 => k Ex.ret [V.f (F.lit (Value.string s420)), V.f (F.lit (Value.string s451)), V.f (F.lit (Value.int IntKind.i64 i452)), V.undef]) (fun i453 => k (Ex.exit (0 : Nat)) [V.f (F.lit (Value.string s420)), V.f (F.lit (Value.string s421)), V.f (F.lit (Value.int IntKind.i64 i453)), V.undef]) s420 s421 (fun i422 => ELp82_2 m R n [V.f (F.lit (Value.string s420)), V.f (F.lit (Value.string s421)), V.f (F.lit (Value.int IntKind.i64 i422)), V.undef] k) i422 := by kernel_rfl
theorem eqLp82_2 (m : Nat) (R : Type) (s420 : ByteArray) (s421 : ByteArray) (k : Ex → List V → Option R) : ∀ (n : Nat) (i422 : Int), ELp82_2 m R n [V.f (F.lit (Value.string s420)), V.f (F.lit (Value.string s421)), V.f (F.lit (Value.int IntKind.i64 i422)), V.undef] k = Lp82_2 m (fun s451 i452 => k Ex.ret [V.f (F.lit (Value.string s420)), V.f (F.lit (Value.string s451)), V.f (F.lit (Value.int IntKind.i64 i452)), V.undef]) (fun i453 => k (Ex.exit (0 : Nat)) [V.f (F.lit (Value.string s420)), V.f (F.lit (Value.string s421)), V.f (F.lit (Value.int IntKind.i64 i453)), V.undef]) s420 s421 n i422
  | 0, _ => rfl
  | n + 1, i422 => by
    simp only [ELp82_2, Lp82_2]
    congr 1
    funext i422
    exact eqLp82_2 m R s420 s421 k n i422
def L20 (m : Nat) : LTbl := addB 82 2 (brLp82_2 m (L19 m)) (L19 m)
theorem okL20 (m : Nat) : LTOk Tryd.prog H (L20 m) := addB_ok (okT24 m) hM (okL19 m) (l := [0, 2, 6, 49]) (by kernel_rfl) (by kernel_rfl) m (fun R n vs k => ELp82_2 m R n vs k) (fun R vs k => rfl) (fun R n vs k x h => by
      simp only [ELp82_2] at h
      split at h
      · exact (stLp82_2 m n R _ _ _ k).trans h
      · cases h) fun R vs k x h => by
    unfold brLp82_2 at h
    split at h
    · exact .inl ((eqLp82_2 m R _ _ k m _).trans h)
    · exact .inr h

/-- hookflash/flashref2.setOf -/
def Fn82 {R : Type} (m : Nat) : ByteArray → (ByteArray → Option R) → Option R := match m with
  | 0 => fun _ _ => none
  | m + 1 => fun s419 k =>
  Lp82_2 m (fun s454 i455 => k s454) (fun i456 => k ({ data := #[] })) s419 ({ data := #[] }) m ((0 : Int))
def brFn82 (m : Nat) (T : Tbl) (R : Type) (vs : List V) (k : V → List V → Option R) : Option R := match vs with
  | [V.f (F.lit (Value.string s419))] => Fn82 m s419 (fun s457 => k (V.f (F.lit (Value.string s457))) [V.undef])
  | _ => T R 82 vs k
set_option maxRecDepth 100000 in
theorem evFn82 (m : Nat) (R : Type) (s419 : ByteArray) (k : V → List V → Option R) : runK Tryd.prog H (T24 m) (L20 m) 82 [V.f (F.lit (Value.string s419))] k = Fn82 (m + 1) s419 (fun s457 => k (V.f (F.lit (Value.string s457))) [V.undef]) := by kernel_rfl
def T25 (m : Nat) : Tbl := addT 82 (brFn82 m (T24 m)) (T24 m)
theorem okT25 (m : Nat) : TblOk Tryd.prog (T25 m) := addT_ok (okT24 m) fun R vs k x h => by
  unfold brFn82 at h
  split at h
  · cases m with
    | zero => cases h
    | succ m => exact runK_some (okT24 m) hM (okL20 m) ((evFn82 m R _ k).trans h)
  · exact okT24 m R 82 _ k x h

/-- a rest of hookflash/flashref2.shapeOf -/
def Jn41_15 {R : Type} (m : Nat) (kx0 : Bool → Bool → Option R) (kx1 : Bool → Option R) (s465 : ByteArray) (r466 : Abs.Rows) (i467 : Int) (b468 : Bool) (r469 : Abs.Rows) (i470 : Int) (i471 : Int) (s472 : ByteArray) (i473 : Int) (b474 : Bool) : Option R :=
  bif b474 then (kx0 (decide ((↑(List.length r469) : Int) < (30 : Int))) true) else
  (kx1 false)
def brJn41_15 (m : Nat) (L : LTbl) (R : Type) (vs : List V) (k : Ex → List V → Option R) : Option R := match vs with
  | [V.f (F.lit (Value.string s465)), V.obj [V.own [LT.str] r466, V.f (F.lit (Value.int IntKind.u8 i467))], V.f (F.lit (Value.bool b468)), V.obj [V.own [LT.str] r469, V.f (F.lit (Value.int IntKind.u8 i470))], V.f (F.lit (Value.int IntKind.u8 i471)), V.f (F.lit (Value.string s472)), V.f (F.lit (Value.int IntKind.i64 i473)), V.f (F.lit (Value.bool b474)), V.undef] => Jn41_15 m (fun b475 b476 => k Ex.ret [V.f (F.lit (Value.string s465)), V.obj [V.f (F.lst [LT.str] r469), V.f (F.lit (Value.int IntKind.u8 i471))], V.f (F.lit (Value.bool b475)), V.obj [V.f (F.lst [LT.str] r469), V.f (F.lit (Value.int IntKind.u8 i471))], V.f (F.lit (Value.int IntKind.u8 i471)), V.f (F.lit (Value.string s472)), V.f (F.lit (Value.int IntKind.i64 i473)), V.f (F.lit (Value.bool b476)), V.undef]) (fun b477 => k Ex.normal [V.f (F.lit (Value.string s465)), V.obj [V.own [LT.str] r466, V.f (F.lit (Value.int IntKind.u8 i467))], V.f (F.lit (Value.bool b468)), V.obj [V.own [LT.str] r469, V.f (F.lit (Value.int IntKind.u8 i470))], V.f (F.lit (Value.int IntKind.u8 i471)), V.f (F.lit (Value.string s472)), V.f (F.lit (Value.int IntKind.i64 i473)), V.f (F.lit (Value.bool b477)), V.undef]) s465 r466 i467 b468 r469 i470 i471 s472 i473 b474
  | _ => L R 41 15 vs k
set_option maxRecDepth 100000 in
theorem evJn41_15 (m : Nat) (R : Type) (s465 : ByteArray) (r466 : Abs.Rows) (i467 : Int) (b468 : Bool) (r469 : Abs.Rows) (i470 : Int) (i471 : Int) (s472 : ByteArray) (i473 : Int) (b474 : Bool) (k : Ex → List V → Option R) : codeK Tryd.prog H (T25 m) 41 (L20 m) 16 (loopBody Tryd.prog 41 15) (mkEnv [0, 2, 3, 4, 5, 6, 7, 41, 72] [V.f (F.lit (Value.string s465)), V.obj [V.own [LT.str] r466, V.f (F.lit (Value.int IntKind.u8 i467))], V.f (F.lit (Value.bool b468)), V.obj [V.own [LT.str] r469, V.f (F.lit (Value.int IntKind.u8 i470))], V.f (F.lit (Value.int IntKind.u8 i471)), V.f (F.lit (Value.string s472)), V.f (F.lit (Value.int IntKind.i64 i473)), V.f (F.lit (Value.bool b474)), V.undef] 0 (H.len 41)) (fun e env' => k e (vals [0, 2, 3, 4, 5, 6, 7, 41, 72] env')) = Jn41_15 m (fun b475 b476 => k Ex.ret [V.f (F.lit (Value.string s465)), V.obj [V.f (F.lst [LT.str] r469), V.f (F.lit (Value.int IntKind.u8 i471))], V.f (F.lit (Value.bool b475)), V.obj [V.f (F.lst [LT.str] r469), V.f (F.lit (Value.int IntKind.u8 i471))], V.f (F.lit (Value.int IntKind.u8 i471)), V.f (F.lit (Value.string s472)), V.f (F.lit (Value.int IntKind.i64 i473)), V.f (F.lit (Value.bool b476)), V.undef]) (fun b477 => k Ex.normal [V.f (F.lit (Value.string s465)), V.obj [V.own [LT.str] r466, V.f (F.lit (Value.int IntKind.u8 i467))], V.f (F.lit (Value.bool b468)), V.obj [V.own [LT.str] r469, V.f (F.lit (Value.int IntKind.u8 i470))], V.f (F.lit (Value.int IntKind.u8 i471)), V.f (F.lit (Value.string s472)), V.f (F.lit (Value.int IntKind.i64 i473)), V.f (F.lit (Value.bool b477)), V.undef]) s465 r466 i467 b468 r469 i470 i471 s472 i473 b474 := by kernel_rfl
def L21 (m : Nat) : LTbl := addJ 41 15 (brJn41_15 m (L20 m)) (L20 m)
theorem okL21 (m : Nat) : LTOk Tryd.prog H (L21 m) := addJ_ok (okT25 m) hM (okL20 m) (l := [0, 2, 3, 4, 5, 6, 7, 41, 72]) (by kernel_rfl) (by kernel_rfl) fun R vs k x h => by
    unfold brJn41_15 at h
    split at h
    · exact .inl ((evJn41_15 m R _ _ _ _ _ _ _ _ _ _ k).trans h)
    · exact .inr h

/-- a round of a loop of hookflash/flashref2.shapeOf -/
def Lp41_2_step {R : Type} (m : Nat) (kx0 : ByteArray → Abs.Rows → Int → Bool → Abs.Rows → Int → Option R) (kx1 : ByteArray → Abs.Rows → Option R) (r388 : Abs.Rows) (i389 : Int) (b390 : Bool) (i392 : Int) (REC : ByteArray → Abs.Rows → Option R) (s387 : ByteArray) (r391 : Abs.Rows) : Option R :=
  bif !ByteArray.toList s387 == ByteArray.toList { data := #[] } then (bif decide ((0 : Int) ≤ (0 : Int) ∧ (0 : Int) < (↑(ByteArray.size s387) : Int)) then (Fn42 m ({ data := #[(35 : UInt8), (42 : UInt8), (48 : UInt8), (49 : UInt8), (50 : UInt8), (51 : UInt8), (52 : UInt8), (53 : UInt8), (54 : UInt8), (55 : UInt8), (56 : UInt8), (57 : UInt8)] }) ((↑(UInt8.toNat (Array.getD (ByteArray.data s387) (Int.toNat (0 : Int)) (0 : UInt8))) : Int)) (fun i393 => bif decide (i393 ≥ (0 : Int)) then (bif decide ((0 : Int) ≤ (1 : Int) ∧ (1 : Int) ≤ (↑(ByteArray.size s387) : Int)) then (Jn41_18 m (fun b406 => kx0 s387 r391 i392 b406 r391 i392) (fun s407 r408 => REC s407 r408) s387 r388 i389 b390 r391 i392 (ByteArray.extract s387 (0 : Nat) (Int.toNat (1 : Int))) ((1 : Int))) else
  (none)) else
  (bif (↑(UInt8.toNat (Array.getD (ByteArray.data s387) (Int.toNat (0 : Int)) (0 : UInt8))) : Int) == (88 : Int) then (Jn41_18 m (fun b409 => kx0 s387 r391 i392 b409 r391 i392) (fun s410 r411 => REC s410 r411) s387 r388 i389 b390 r391 i392 ({ data := #[(48 : UInt8), (49 : UInt8), (50 : UInt8), (51 : UInt8), (52 : UInt8), (53 : UInt8), (54 : UInt8), (55 : UInt8), (56 : UInt8), (57 : UInt8)] }) ((1 : Int))) else
  (bif (↑(UInt8.toNat (Array.getD (ByteArray.data s387) (Int.toNat (0 : Int)) (0 : UInt8))) : Int) == (90 : Int) then (Jn41_18 m (fun b412 => kx0 s387 r391 i392 b412 r391 i392) (fun s413 r414 => REC s413 r414) s387 r388 i389 b390 r391 i392 (ByteArray.extract { data := #[(48 : UInt8), (49 : UInt8), (50 : UInt8), (51 : UInt8), (52 : UInt8), (53 : UInt8), (54 : UInt8), (55 : UInt8), (56 : UInt8), (57 : UInt8)] } (Int.toNat (1 : Int)) (ByteArray.size { data := #[(48 : UInt8), (49 : UInt8), (50 : UInt8), (51 : UInt8), (52 : UInt8), (53 : UInt8), (54 : UInt8), (55 : UInt8), (56 : UInt8), (57 : UInt8)] })) ((1 : Int))) else
  (bif (↑(UInt8.toNat (Array.getD (ByteArray.data s387) (Int.toNat (0 : Int)) (0 : UInt8))) : Int) == (78 : Int) then (Jn41_18 m (fun b415 => kx0 s387 r391 i392 b415 r391 i392) (fun s416 r417 => REC s416 r417) s387 r388 i389 b390 r391 i392 (ByteArray.extract { data := #[(48 : UInt8), (49 : UInt8), (50 : UInt8), (51 : UInt8), (52 : UInt8), (53 : UInt8), (54 : UInt8), (55 : UInt8), (56 : UInt8), (57 : UInt8)] } (Int.toNat (2 : Int)) (ByteArray.size { data := #[(48 : UInt8), (49 : UInt8), (50 : UInt8), (51 : UInt8), (52 : UInt8), (53 : UInt8), (54 : UInt8), (55 : UInt8), (56 : UInt8), (57 : UInt8)] })) ((1 : Int))) else
  (bif (↑(UInt8.toNat (Array.getD (ByteArray.data s387) (Int.toNat (0 : Int)) (0 : UInt8))) : Int) == (91 : Int) then (Fn42 m s387 ((93 : Int)) (fun i418 => bif decide (IntKind.wrap IntKind.i64 (i418 + (1 : Int)) > (0 : Int)) then (bif decide ((0 : Int) ≤ IntKind.wrap IntKind.i64 (i418 + (1 : Int)) ∧ IntKind.wrap IntKind.i64 (i418 + (1 : Int)) ≤ (↑(ByteArray.size s387) : Int)) then (Fn82 m (ByteArray.extract s387 (0 : Nat) (Int.toNat (IntKind.wrap IntKind.i64 (i418 + (1 : Int))))) (fun s458 => Jn41_18 m (fun b459 => kx0 s387 r391 i392 b459 r391 i392) (fun s460 r461 => REC s460 r461) s387 r388 i389 b390 r391 i392 s458 (IntKind.wrap IntKind.i64 (i418 + (1 : Int))))) else
  (none)) else
  (Jn41_18 m (fun b462 => kx0 s387 r391 i392 b462 r391 i392) (fun s463 r464 => REC s463 r464) s387 r388 i389 b390 r391 i392 ({ data := #[] }) (IntKind.wrap IntKind.i64 (i418 + (1 : Int)))))) else
  (bif ByteArray.toList s387 == ByteArray.toList { data := #[(46 : UInt8)] } then (Jn41_15 m (fun b478 b479 => kx0 s387 r391 ((↑(UInt8.toNat (Array.getD (ByteArray.data s387) (Int.toNat (0 : Int)) (0 : UInt8))) : Int)) b478 r391 ((↑(UInt8.toNat (Array.getD (ByteArray.data s387) (Int.toNat (0 : Int)) (0 : UInt8))) : Int))) (fun b480 => Jn41_18 m (fun b481 => kx0 s387 r391 i392 b481 r391 i392) (fun s482 r483 => REC s482 r483) s387 r388 i389 b390 r391 i392 ({ data := #[] }) ((1 : Int))) s387 r388 i389 b390 r391 i392 ((↑(UInt8.toNat (Array.getD (ByteArray.data s387) (Int.toNat (0 : Int)) (0 : UInt8))) : Int)) ({ data := #[] }) ((1 : Int)) true) else
  (Jn41_15 m (fun b484 b485 => kx0 s387 r391 ((↑(UInt8.toNat (Array.getD (ByteArray.data s387) (Int.toNat (0 : Int)) (0 : UInt8))) : Int)) b484 r391 ((↑(UInt8.toNat (Array.getD (ByteArray.data s387) (Int.toNat (0 : Int)) (0 : UInt8))) : Int))) (fun b486 => Jn41_18 m (fun b487 => kx0 s387 r391 i392 b487 r391 i392) (fun s488 r489 => REC s488 r489) s387 r388 i389 b390 r391 i392 ({ data := #[] }) ((1 : Int))) s387 r388 i389 b390 r391 i392 ((↑(UInt8.toNat (Array.getD (ByteArray.data s387) (Int.toNat (0 : Int)) (0 : UInt8))) : Int)) ({ data := #[] }) ((1 : Int)) (ByteArray.toList s387 == ByteArray.toList { data := #[(33 : UInt8)] }))))))))) else
  (none)) else
  (kx1 s387 r391)
def Lp41_2 {R : Type} (m : Nat) (kx0 : ByteArray → Abs.Rows → Int → Bool → Abs.Rows → Int → Option R) (kx1 : ByteArray → Abs.Rows → Option R) (r388 : Abs.Rows) (i389 : Int) (b390 : Bool) (i392 : Int) : Nat → ByteArray → Abs.Rows → Option R
  | 0, _, _ => none
  | n + 1, s387, r391 => Lp41_2_step m kx0 kx1 r388 i389 b390 i392 (Lp41_2 m kx0 kx1 r388 i389 b390 i392 n) s387 r391
def ELp41_2 (m : Nat) (R : Type) : Nat → List V → (Ex → List V → Option R) → Option R
  | 0, _, _ => none
  | n + 1, vs, k => match vs with
    | [V.f (F.lit (Value.string s387)), V.obj [V.own [LT.str] r388, V.f (F.lit (Value.int IntKind.u8 i389))], V.f (F.lit (Value.bool b390)), V.obj [V.own [LT.str] r391, V.f (F.lit (Value.int IntKind.u8 i392))], V.undef] => Lp41_2_step m (fun s490 r491 i492 b493 r494 i495 => k Ex.ret [V.f (F.lit (Value.string s490)), V.obj [V.f (F.lst [LT.str] r491), V.f (F.lit (Value.int IntKind.u8 i492))], V.f (F.lit (Value.bool b493)), V.obj [V.f (F.lst [LT.str] r494), V.f (F.lit (Value.int IntKind.u8 i495))], V.undef]) (fun s496 r497 => k (Ex.exit (0 : Nat)) [V.f (F.lit (Value.string s496)), V.obj [V.own [LT.str] r388, V.f (F.lit (Value.int IntKind.u8 i389))], V.f (F.lit (Value.bool b390)), V.obj [V.own [LT.str] r497, V.f (F.lit (Value.int IntKind.u8 i392))], V.undef]) r388 i389 b390 i392 (fun s387 r391 => ELp41_2 m R n [V.f (F.lit (Value.string s387)), V.obj [V.own [LT.str] r388, V.f (F.lit (Value.int IntKind.u8 i389))], V.f (F.lit (Value.bool b390)), V.obj [V.own [LT.str] r391, V.f (F.lit (Value.int IntKind.u8 i392))], V.undef] k) s387 r391
    | _ => none
def brLp41_2 (m : Nat) (L : LTbl) (R : Type) (vs : List V) (k : Ex → List V → Option R) : Option R := match vs with
  | [V.f (F.lit (Value.string s387)), V.obj [V.own [LT.str] r388, V.f (F.lit (Value.int IntKind.u8 i389))], V.f (F.lit (Value.bool b390)), V.obj [V.own [LT.str] r391, V.f (F.lit (Value.int IntKind.u8 i392))], V.undef] => Lp41_2 m (fun s490 r491 i492 b493 r494 i495 => k Ex.ret [V.f (F.lit (Value.string s490)), V.obj [V.f (F.lst [LT.str] r491), V.f (F.lit (Value.int IntKind.u8 i492))], V.f (F.lit (Value.bool b493)), V.obj [V.f (F.lst [LT.str] r494), V.f (F.lit (Value.int IntKind.u8 i495))], V.undef]) (fun s496 r497 => k (Ex.exit (0 : Nat)) [V.f (F.lit (Value.string s496)), V.obj [V.own [LT.str] r388, V.f (F.lit (Value.int IntKind.u8 i389))], V.f (F.lit (Value.bool b390)), V.obj [V.own [LT.str] r497, V.f (F.lit (Value.int IntKind.u8 i392))], V.undef]) r388 i389 b390 i392 m s387 r391
  | _ => L R 41 2 vs k
set_option maxRecDepth 100000 in
theorem stLp41_2 (m n : Nat) (R : Type) (s387 : ByteArray) (r388 : Abs.Rows) (i389 : Int) (b390 : Bool) (r391 : Abs.Rows) (i392 : Int) (k : Ex → List V → Option R) : codeK Tryd.prog H (T25 m) 41 (L21 m) 3 (loopBody Tryd.prog 41 2) (mkEnv [0, 2, 3, 4, 72] [V.f (F.lit (Value.string s387)), V.obj [V.own [LT.str] r388, V.f (F.lit (Value.int IntKind.u8 i389))], V.f (F.lit (Value.bool b390)), V.obj [V.own [LT.str] r391, V.f (F.lit (Value.int IntKind.u8 i392))], V.undef] 0 (H.len 41)) (fun e env' => match e with | .normal => ELp41_2 m R n (vals [0, 2, 3, 4, 72] env') k | e => k e (vals [0, 2, 3, 4, 72] env')) = Lp41_2_step m (fun s490 r491 i492 b493 r494 i495 => k Ex.ret [V.f (F.lit (Value.string s490)), V.obj [V.f (F.lst [LT.str] r491), V.f (F.lit (Value.int IntKind.u8 i492))], V.f (F.lit (Value.bool b493)), V.obj [V.f (F.lst [LT.str] r494), V.f (F.lit (Value.int IntKind.u8 i495))], V.undef]) (fun s496 r497 => k (Ex.exit (0 : Nat)) [V.f (F.lit (Value.string s496)), V.obj [V.own [LT.str] r388, V.f (F.lit (Value.int IntKind.u8 i389))], V.f (F.lit (Value.bool b390)), V.obj [V.own [LT.str] r497, V.f (F.lit (Value.int IntKind.u8 i392))], V.undef]) r388 i389 b390 i392 (fun s387 r391 => ELp41_2 m R n [V.f (F.lit (Value.string s387)), V.obj [V.own [LT.str] r388, V.f (F.lit (Value.int IntKind.u8 i389))], V.f (F.lit (Value.bool b390)), V.obj [V.own [LT.str] r391, V.f (F.lit (Value.int IntKind.u8 i392))], V.undef] k) s387 r391 := by kernel_rfl
theorem eqLp41_2 (m : Nat) (R : Type) (r388 : Abs.Rows) (i389 : Int) (b390 : Bool) (i392 : Int) (k : Ex → List V → Option R) : ∀ (n : Nat) (s387 : ByteArray) (r391 : Abs.Rows), ELp41_2 m R n [V.f (F.lit (Value.string s387)), V.obj [V.own [LT.str] r388, V.f (F.lit (Value.int IntKind.u8 i389))], V.f (F.lit (Value.bool b390)), V.obj [V.own [LT.str] r391, V.f (F.lit (Value.int IntKind.u8 i392))], V.undef] k = Lp41_2 m (fun s490 r491 i492 b493 r494 i495 => k Ex.ret [V.f (F.lit (Value.string s490)), V.obj [V.f (F.lst [LT.str] r491), V.f (F.lit (Value.int IntKind.u8 i492))], V.f (F.lit (Value.bool b493)), V.obj [V.f (F.lst [LT.str] r494), V.f (F.lit (Value.int IntKind.u8 i495))], V.undef]) (fun s496 r497 => k (Ex.exit (0 : Nat)) [V.f (F.lit (Value.string s496)), V.obj [V.own [LT.str] r388, V.f (F.lit (Value.int IntKind.u8 i389))], V.f (F.lit (Value.bool b390)), V.obj [V.own [LT.str] r497, V.f (F.lit (Value.int IntKind.u8 i392))], V.undef]) r388 i389 b390 i392 n s387 r391
  | 0, _, _ => rfl
  | n + 1, s387, r391 => by
    simp only [ELp41_2, Lp41_2]
    congr 1
    funext s387 r391
    exact eqLp41_2 m R r388 i389 b390 i392 k n s387 r391
def L22 (m : Nat) : LTbl := addB 41 2 (brLp41_2 m (L21 m)) (L21 m)
theorem okL22 (m : Nat) : LTOk Tryd.prog H (L22 m) := addB_ok (okT25 m) hM (okL21 m) (l := [0, 2, 3, 4, 72]) (by kernel_rfl) (by kernel_rfl) m (fun R n vs k => ELp41_2 m R n vs k) (fun R vs k => rfl) (fun R n vs k x h => by
      simp only [ELp41_2] at h
      split at h
      · exact (stLp41_2 m n R _ _ _ _ _ _ k).trans h
      · cases h) fun R vs k x h => by
    unfold brLp41_2 at h
    split at h
    · exact .inl ((eqLp41_2 m R _ _ _ _ k m _ _).trans h)
    · exact .inr h

/-- hookflash/flashref2.in -/
def Fn48 {R : Type} (m : Nat) : Int → Int → Int → (Bool → Option R) → Option R := match m with
  | 0 => fun _ _ _ _ => none
  | m + 1 => fun i506 i507 i508 k =>
  bif decide (i507 ≤ i506) then (k (decide (i506 ≤ i508))) else
  (k false)
def brFn48 (m : Nat) (T : Tbl) (R : Type) (vs : List V) (k : V → List V → Option R) : Option R := match vs with
  | [V.f (F.lit (Value.int IntKind.i64 i506)), V.f (F.lit (Value.int IntKind.i64 i507)), V.f (F.lit (Value.int IntKind.i64 i508))] => Fn48 m i506 i507 i508 (fun b509 => k (V.f (F.lit (Value.bool b509))) [V.undef, V.undef, V.undef])
  | _ => T R 48 vs k
set_option maxRecDepth 100000 in
theorem evFn48 (m : Nat) (R : Type) (i506 : Int) (i507 : Int) (i508 : Int) (k : V → List V → Option R) : runK Tryd.prog H (T25 m) (L22 m) 48 [V.f (F.lit (Value.int IntKind.i64 i506)), V.f (F.lit (Value.int IntKind.i64 i507)), V.f (F.lit (Value.int IntKind.i64 i508))] k = Fn48 (m + 1) i506 i507 i508 (fun b509 => k (V.f (F.lit (Value.bool b509))) [V.undef, V.undef, V.undef]) := by kernel_rfl
def T26 (m : Nat) : Tbl := addT 48 (brFn48 m (T25 m)) (T25 m)
theorem okT26 (m : Nat) : TblOk Tryd.prog (T26 m) := addT_ok (okT25 m) fun R vs k x h => by
  unfold brFn48 at h
  split at h
  · cases m with
    | zero => cases h
    | succ m => exact runK_some (okT25 m) hM (okL22 m) ((evFn48 m R _ _ _ k).trans h)
  · exact okT25 m R 48 _ k x h

/-- hookflash/flashref2.shapeOf -/
def Fn41 {R : Type} (m : Nat) : ByteArray → (Abs.Rows → Int → Bool → Option R) → Option R := match m with
  | 0 => fun _ _ => none
  | m + 1 => fun s386 k =>
  Lp41_2 m (fun s498 r499 i500 b501 r502 i503 => k r499 i500 b501) (fun s504 r505 => Fn48 m ((↑(List.length r505) : Int)) ((1 : Int)) ((30 : Int)) (fun b510 => k r505 ((0 : Int)) b510)) rows0 ((0 : Int)) false ((0 : Int)) m s386 rows0
def brFn41 (m : Nat) (T : Tbl) (R : Type) (vs : List V) (k : V → List V → Option R) : Option R := match vs with
  | [V.f (F.lit (Value.string s386))] => Fn41 m s386 (fun r511 i512 b513 => k (V.tup [V.agg [V.f (F.lst [LT.str] r511), V.f (F.lit (Value.int IntKind.u8 i512))], V.f (F.lit (Value.bool b513))]) [V.undef])
  | _ => T R 41 vs k
set_option maxRecDepth 100000 in
theorem evFn41 (m : Nat) (R : Type) (s386 : ByteArray) (k : V → List V → Option R) : runK Tryd.prog H (T26 m) (L22 m) 41 [V.f (F.lit (Value.string s386))] (freezeK 1 k) = Fn41 (m + 1) s386 (fun r511 i512 b513 => k (V.tup [V.agg [V.f (F.lst [LT.str] r511), V.f (F.lit (Value.int IntKind.u8 i512))], V.f (F.lit (Value.bool b513))]) [V.undef]) := by kernel_rfl
def T27 (m : Nat) : Tbl := addT 41 (brFn41 m (T26 m)) (T26 m)
theorem okT27 (m : Nat) : TblOk Tryd.prog (T27 m) := addT_ok (okT26 m) fun R vs k x h => by
  unfold brFn41 at h
  split at h
  · cases m with
    | zero => cases h
    | succ m => exact runK_frz (okT26 m) hM (okL22 m) ((evFn41 m R _ k).trans h)
  · exact okT26 m R 41 _ k x h

/-- hookflash/flashref2.PatternFault -/
def Fn9 {R : Type} (m : Nat) : ByteArray → (Int → Option R) → Option R := match m with
  | 0 => fun _ _ => none
  | m + 1 => fun s385 k =>
  bif decide ((↑(ByteArray.size s385) : Int) > (60 : Int)) then (k ((2 : Int))) else
  (Fn41 m s385 (fun r514 i515 b516 => bif !b516 then (k ((9 : Int))) else
  (k ((0 : Int)))))
def brFn9 (m : Nat) (T : Tbl) (R : Type) (vs : List V) (k : V → List V → Option R) : Option R := match vs with
  | [V.f (F.lit (Value.string s385))] => Fn9 m s385 (fun i517 => k (V.f (F.lit (Value.int IntKind.i64 i517))) [V.undef])
  | _ => T R 9 vs k
set_option maxRecDepth 100000 in
theorem evFn9 (m : Nat) (R : Type) (s385 : ByteArray) (k : V → List V → Option R) : runK Tryd.prog H (T27 m) (L22 m) 9 [V.f (F.lit (Value.string s385))] k = Fn9 (m + 1) s385 (fun i517 => k (V.f (F.lit (Value.int IntKind.i64 i517))) [V.undef]) := by kernel_rfl
def T28 (m : Nat) : Tbl := addT 9 (brFn9 m (T27 m)) (T27 m)
theorem okT28 (m : Nat) : TblOk Tryd.prog (T28 m) := addT_ok (okT27 m) fun R vs k x h => by
  unfold brFn9 at h
  split at h
  · cases m with
    | zero => cases h
    | succ m => exact runK_some (okT27 m) hM (okL22 m) ((evFn9 m R _ k).trans h)
  · exact okT27 m R 9 _ k x h

/-- a round of a loop of hookflash/flashlaw2.errs -/
def Lp10_2_step {R : Type} (m : Nat) (kx0 : Int → Int → Option R) (kx1 : Int → Option R) (r522 : Abs.Rows) (i523 : Int) (r524 : Abs.Rows) (i525 : Int) (REC : Int → Option R) (i526 : Int) : Option R :=
  bif decide (i526 < i525) then (bif decide ((0 : Int) ≤ i526 ∧ i526 < (↑(List.length r524) : Int)) then (bif fI r524 (Int.toNat i526) (0 : Nat) != (0 : Int) then (kx0 (fI r524 (Int.toNat i526) (0 : Nat)) i526) else
  (REC (IntKind.wrap IntKind.i64 (i526 + (1 : Int))))) else
  (none)) else
  (kx1 i526)
def Lp10_2 {R : Type} (m : Nat) (kx0 : Int → Int → Option R) (kx1 : Int → Option R) (r522 : Abs.Rows) (i523 : Int) (r524 : Abs.Rows) (i525 : Int) : Nat → Int → Option R
  | 0, _ => none
  | n + 1, i526 => Lp10_2_step m kx0 kx1 r522 i523 r524 i525 (Lp10_2 m kx0 kx1 r522 i523 r524 i525 n) i526
def ELp10_2 (m : Nat) (R : Type) : Nat → List V → (Ex → List V → Option R) → Option R
  | 0, _, _ => none
  | n + 1, vs, k => match vs with
    | [V.bor [LT.int IntKind.i64] r522, V.f (F.lit (Value.int IntKind.i64 i523)), V.bor [LT.int IntKind.i64] r524, V.f (F.lit (Value.int IntKind.i64 i525)), V.f (F.lit (Value.int IntKind.i64 i526)), V.undef] => Lp10_2_step m (fun i527 i528 => k Ex.ret [V.bor [LT.int IntKind.i64] r522, V.f (F.lit (Value.int IntKind.i64 i527)), V.bor [LT.int IntKind.i64] r524, V.f (F.lit (Value.int IntKind.i64 i525)), V.f (F.lit (Value.int IntKind.i64 i528)), V.undef]) (fun i529 => k (Ex.exit (0 : Nat)) [V.bor [LT.int IntKind.i64] r522, V.f (F.lit (Value.int IntKind.i64 i523)), V.bor [LT.int IntKind.i64] r524, V.f (F.lit (Value.int IntKind.i64 i525)), V.f (F.lit (Value.int IntKind.i64 i529)), V.undef]) r522 i523 r524 i525 (fun i526 => ELp10_2 m R n [V.bor [LT.int IntKind.i64] r522, V.f (F.lit (Value.int IntKind.i64 i523)), V.bor [LT.int IntKind.i64] r524, V.f (F.lit (Value.int IntKind.i64 i525)), V.f (F.lit (Value.int IntKind.i64 i526)), V.undef] k) i526
    | _ => none
def brLp10_2 (m : Nat) (L : LTbl) (R : Type) (vs : List V) (k : Ex → List V → Option R) : Option R := match vs with
  | [V.bor [LT.int IntKind.i64] r522, V.f (F.lit (Value.int IntKind.i64 i523)), V.bor [LT.int IntKind.i64] r524, V.f (F.lit (Value.int IntKind.i64 i525)), V.f (F.lit (Value.int IntKind.i64 i526)), V.undef] => Lp10_2 m (fun i527 i528 => k Ex.ret [V.bor [LT.int IntKind.i64] r522, V.f (F.lit (Value.int IntKind.i64 i527)), V.bor [LT.int IntKind.i64] r524, V.f (F.lit (Value.int IntKind.i64 i525)), V.f (F.lit (Value.int IntKind.i64 i528)), V.undef]) (fun i529 => k (Ex.exit (0 : Nat)) [V.bor [LT.int IntKind.i64] r522, V.f (F.lit (Value.int IntKind.i64 i523)), V.bor [LT.int IntKind.i64] r524, V.f (F.lit (Value.int IntKind.i64 i525)), V.f (F.lit (Value.int IntKind.i64 i529)), V.undef]) r522 i523 r524 i525 m i526
  | _ => L R 10 2 vs k
set_option maxRecDepth 100000 in
theorem stLp10_2 (m n : Nat) (R : Type) (r522 : Abs.Rows) (i523 : Int) (r524 : Abs.Rows) (i525 : Int) (i526 : Int) (k : Ex → List V → Option R) : codeK Tryd.prog H (T28 m) 10 (L22 m) 3 (loopBody Tryd.prog 10 2) (mkEnv [0, 2, 5, 6, 7, 15] [V.bor [LT.int IntKind.i64] r522, V.f (F.lit (Value.int IntKind.i64 i523)), V.bor [LT.int IntKind.i64] r524, V.f (F.lit (Value.int IntKind.i64 i525)), V.f (F.lit (Value.int IntKind.i64 i526)), V.undef] 0 (H.len 10)) (fun e env' => match e with | .normal => ELp10_2 m R n (vals [0, 2, 5, 6, 7, 15] env') k | e => k e (vals [0, 2, 5, 6, 7, 15] env')) = Lp10_2_step m (fun i527 i528 => k Ex.ret [V.bor [LT.int IntKind.i64] r522, V.f (F.lit (Value.int IntKind.i64 i527)), V.bor [LT.int IntKind.i64] r524, V.f (F.lit (Value.int IntKind.i64 i525)), V.f (F.lit (Value.int IntKind.i64 i528)), V.undef]) (fun i529 => k (Ex.exit (0 : Nat)) [V.bor [LT.int IntKind.i64] r522, V.f (F.lit (Value.int IntKind.i64 i523)), V.bor [LT.int IntKind.i64] r524, V.f (F.lit (Value.int IntKind.i64 i525)), V.f (F.lit (Value.int IntKind.i64 i529)), V.undef]) r522 i523 r524 i525 (fun i526 => ELp10_2 m R n [V.bor [LT.int IntKind.i64] r522, V.f (F.lit (Value.int IntKind.i64 i523)), V.bor [LT.int IntKind.i64] r524, V.f (F.lit (Value.int IntKind.i64 i525)), V.f (F.lit (Value.int IntKind.i64 i526)), V.undef] k) i526 := by kernel_rfl
theorem eqLp10_2 (m : Nat) (R : Type) (r522 : Abs.Rows) (i523 : Int) (r524 : Abs.Rows) (i525 : Int) (k : Ex → List V → Option R) : ∀ (n : Nat) (i526 : Int), ELp10_2 m R n [V.bor [LT.int IntKind.i64] r522, V.f (F.lit (Value.int IntKind.i64 i523)), V.bor [LT.int IntKind.i64] r524, V.f (F.lit (Value.int IntKind.i64 i525)), V.f (F.lit (Value.int IntKind.i64 i526)), V.undef] k = Lp10_2 m (fun i527 i528 => k Ex.ret [V.bor [LT.int IntKind.i64] r522, V.f (F.lit (Value.int IntKind.i64 i527)), V.bor [LT.int IntKind.i64] r524, V.f (F.lit (Value.int IntKind.i64 i525)), V.f (F.lit (Value.int IntKind.i64 i528)), V.undef]) (fun i529 => k (Ex.exit (0 : Nat)) [V.bor [LT.int IntKind.i64] r522, V.f (F.lit (Value.int IntKind.i64 i523)), V.bor [LT.int IntKind.i64] r524, V.f (F.lit (Value.int IntKind.i64 i525)), V.f (F.lit (Value.int IntKind.i64 i529)), V.undef]) r522 i523 r524 i525 n i526
  | 0, _ => rfl
  | n + 1, i526 => by
    simp only [ELp10_2, Lp10_2]
    congr 1
    funext i526
    exact eqLp10_2 m R r522 i523 r524 i525 k n i526
def L23 (m : Nat) : LTbl := addB 10 2 (brLp10_2 m (L22 m)) (L22 m)
theorem okL23 (m : Nat) : LTOk Tryd.prog H (L23 m) := addB_ok (okT28 m) hM (okL22 m) (l := [0, 2, 5, 6, 7, 15]) (by kernel_rfl) (by kernel_rfl) m (fun R n vs k => ELp10_2 m R n vs k) (fun R vs k => rfl) (fun R n vs k x h => by
      simp only [ELp10_2] at h
      split at h
      · exact (stLp10_2 m n R _ _ _ _ _ k).trans h
      · cases h) fun R vs k x h => by
    unfold brLp10_2 at h
    split at h
    · exact .inl ((eqLp10_2 m R _ _ _ _ k m _).trans h)
    · exact .inr h

/-- hookflash/flashlaw2.errs -/
def Fn10 {R : Type} (m : Nat) : Abs.Rows → (Int → Option R) → Option R := match m with
  | 0 => fun _ _ => none
  | m + 1 => fun r521 k =>
  Lp10_2 m (fun i530 i531 => k i530) (fun i532 => k ((0 : Int))) r521 ((0 : Int)) r521 ((↑(List.length r521) : Int)) m ((0 : Int))
def brFn10 (m : Nat) (T : Tbl) (R : Type) (vs : List V) (k : V → List V → Option R) : Option R := match vs with
  | [V.bor [LT.int IntKind.i64] r521] => Fn10 m r521 (fun i533 => k (V.f (F.lit (Value.int IntKind.i64 i533))) [V.undef])
  | _ => T R 10 vs k
set_option maxRecDepth 100000 in
theorem evFn10 (m : Nat) (R : Type) (r521 : Abs.Rows) (k : V → List V → Option R) : runK Tryd.prog H (T28 m) (L23 m) 10 [V.bor [LT.int IntKind.i64] r521] k = Fn10 (m + 1) r521 (fun i533 => k (V.f (F.lit (Value.int IntKind.i64 i533))) [V.undef]) := by kernel_rfl
def T29 (m : Nat) : Tbl := addT 10 (brFn10 m (T28 m)) (T28 m)
theorem okT29 (m : Nat) : TblOk Tryd.prog (T29 m) := addT_ok (okT28 m) fun R vs k x h => by
  unfold brFn10 at h
  split at h
  · cases m with
    | zero => cases h
    | succ m => exact runK_some (okT28 m) hM (okL23 m) ((evFn10 m R _ k).trans h)
  · exact okT28 m R 10 _ k x h

/-- (hookflash/flashref2.shape).setAt -/
def Fn43 {R : Type} (m : Nat) : Abs.Rows → Int → Int → (ByteArray → Option R) → Option R := match m with
  | 0 => fun _ _ _ _ => none
  | m + 1 => fun r581 i582 i583 k =>
  bif decide (i583 < (↑(List.length r581) : Int)) then (bif decide ((0 : Int) ≤ i583 ∧ i583 < (↑(List.length r581) : Int)) then (k (fS r581 (Int.toNat i583) (0 : Nat))) else
  (none)) else
  (k ({ data := #[(35 : UInt8), (42 : UInt8), (48 : UInt8), (49 : UInt8), (50 : UInt8), (51 : UInt8), (52 : UInt8), (53 : UInt8), (54 : UInt8), (55 : UInt8), (56 : UInt8), (57 : UInt8)] }))
def brFn43 (m : Nat) (T : Tbl) (R : Type) (vs : List V) (k : V → List V → Option R) : Option R := match vs with
  | [V.agg [V.f (F.lst [LT.str] r581), V.f (F.lit (Value.int IntKind.u8 i582))], V.f (F.lit (Value.int IntKind.i64 i583))] => Fn43 m r581 i582 i583 (fun s584 => k (V.f (F.lit (Value.string s584))) [V.undef, V.undef])
  | _ => T R 43 vs k
set_option maxRecDepth 100000 in
theorem evFn43 (m : Nat) (R : Type) (r581 : Abs.Rows) (i582 : Int) (i583 : Int) (k : V → List V → Option R) : runK Tryd.prog H (T29 m) (L23 m) 43 [V.agg [V.f (F.lst [LT.str] r581), V.f (F.lit (Value.int IntKind.u8 i582))], V.f (F.lit (Value.int IntKind.i64 i583))] k = Fn43 (m + 1) r581 i582 i583 (fun s584 => k (V.f (F.lit (Value.string s584))) [V.undef, V.undef]) := by kernel_rfl
def T30 (m : Nat) : Tbl := addT 43 (brFn43 m (T29 m)) (T29 m)
theorem okT30 (m : Nat) : TblOk Tryd.prog (T30 m) := addT_ok (okT29 m) fun R vs k x h => by
  unfold brFn43 at h
  split at h
  · cases m with
    | zero => cases h
    | succ m => exact runK_some (okT29 m) hM (okL23 m) ((evFn43 m R _ _ _ k).trans h)
  · exact okT29 m R 43 _ k x h

/-- a round of a loop of hookflash/flashref2.SharedOf -/
def Lp11_14_step {R : Type} (m : Nat) (kx0 : ByteArray → Int → Option R) (s564 : ByteArray) (s565 : ByteArray) (s566 : ByteArray) (b567 : Bool) (r568 : Abs.Rows) (i569 : Int) (r570 : Abs.Rows) (i571 : Int) (i572 : Int) (s573 : ByteArray) (i574 : Int) (i575 : Int) (i576 : Int) (r577 : Abs.Rows) (n578 : Nat) (i579 : Int) (REC : Int → Option R) (i580 : Int) : Option R :=
  bif decide (i580 < i579) then (bif decide ((0 : Int) ≤ i580 ∧ i580 < (↑n578 : Int)) then (Fn43 m r568 i569 i574 (fun s585 => Fn42 m s585 (fI r577 (Int.toNat i580) (0 : Nat)) (fun i586 => bif decide (i586 ≥ (0 : Int)) then (Fn43 m r570 i571 i574 (fun s587 => Fn42 m s587 (fI r577 (Int.toNat i580) (0 : Nat)) (fun i588 => bif decide (i588 ≥ (0 : Int)) then (bif decide (ByteArray.size s573 + ByteArray.size (Utf8.encode (IntKind.wrap IntKind.i32 (fI r577 (Int.toNat i580) (0 : Nat)))) ≤ strMax) then (kx0 (s573 ++ Utf8.encode (IntKind.wrap IntKind.i32 (fI r577 (Int.toNat i580) (0 : Nat)))) i580) else
  (none)) else
  (REC (IntKind.wrap IntKind.i64 (i580 + (1 : Int))))))) else
  (REC (IntKind.wrap IntKind.i64 (i580 + (1 : Int))))))) else
  (none)) else
  (kx0 s573 i580)
def Lp11_14 {R : Type} (m : Nat) (kx0 : ByteArray → Int → Option R) (s564 : ByteArray) (s565 : ByteArray) (s566 : ByteArray) (b567 : Bool) (r568 : Abs.Rows) (i569 : Int) (r570 : Abs.Rows) (i571 : Int) (i572 : Int) (s573 : ByteArray) (i574 : Int) (i575 : Int) (i576 : Int) (r577 : Abs.Rows) (n578 : Nat) (i579 : Int) : Nat → Int → Option R
  | 0, _ => none
  | n + 1, i580 => Lp11_14_step m kx0 s564 s565 s566 b567 r568 i569 r570 i571 i572 s573 i574 i575 i576 r577 n578 i579 (Lp11_14 m kx0 s564 s565 s566 b567 r568 i569 r570 i571 i572 s573 i574 i575 i576 r577 n578 i579 n) i580
def ELp11_14 (m : Nat) (R : Type) : Nat → List V → (Ex → List V → Option R) → Option R
  | 0, _, _ => none
  | n + 1, vs, k => match vs with
    | [V.f (F.lit (Value.string s564)), V.f (F.lit (Value.string s565)), V.f (F.lit (Value.string s566)), V.f (F.lit (Value.bool b567)), V.obj [V.f (F.lst [LT.str] r568), V.f (F.lit (Value.int IntKind.u8 i569))], V.obj [V.f (F.lst [LT.str] r570), V.f (F.lit (Value.int IntKind.u8 i571))], V.f (F.lit (Value.int IntKind.i64 i572)), V.f (F.lit (Value.string s573)), V.f (F.lit (Value.int IntKind.i64 i574)), V.f (F.lit (Value.int IntKind.i64 i575)), V.f (F.lit (Value.int IntKind.i64 i576)), V.own [LT.int IntKind.u8] r577, V.lent { slot := (33 : Nat), leaf := none } (1 : Nat) n578, V.f (F.lit (Value.int IntKind.i64 i579)), V.f (F.lit (Value.int IntKind.i64 i580)), V.undef, V.undef] => Lp11_14_step m (fun s589 i590 => k (Ex.exit (4 : Nat)) [V.f (F.lit (Value.string s564)), V.f (F.lit (Value.string s565)), V.f (F.lit (Value.string s566)), V.f (F.lit (Value.bool b567)), V.obj [V.f (F.lst [LT.str] r568), V.f (F.lit (Value.int IntKind.u8 i569))], V.obj [V.f (F.lst [LT.str] r570), V.f (F.lit (Value.int IntKind.u8 i571))], V.f (F.lit (Value.int IntKind.i64 i572)), V.f (F.lit (Value.string s589)), V.f (F.lit (Value.int IntKind.i64 i574)), V.f (F.lit (Value.int IntKind.i64 i575)), V.f (F.lit (Value.int IntKind.i64 i576)), V.own [LT.int IntKind.u8] r577, V.lent { slot := (33 : Nat), leaf := none } (1 : Nat) n578, V.f (F.lit (Value.int IntKind.i64 i579)), V.f (F.lit (Value.int IntKind.i64 i590)), V.undef, V.undef]) s564 s565 s566 b567 r568 i569 r570 i571 i572 s573 i574 i575 i576 r577 n578 i579 (fun i580 => ELp11_14 m R n [V.f (F.lit (Value.string s564)), V.f (F.lit (Value.string s565)), V.f (F.lit (Value.string s566)), V.f (F.lit (Value.bool b567)), V.obj [V.f (F.lst [LT.str] r568), V.f (F.lit (Value.int IntKind.u8 i569))], V.obj [V.f (F.lst [LT.str] r570), V.f (F.lit (Value.int IntKind.u8 i571))], V.f (F.lit (Value.int IntKind.i64 i572)), V.f (F.lit (Value.string s573)), V.f (F.lit (Value.int IntKind.i64 i574)), V.f (F.lit (Value.int IntKind.i64 i575)), V.f (F.lit (Value.int IntKind.i64 i576)), V.own [LT.int IntKind.u8] r577, V.lent { slot := (33 : Nat), leaf := none } (1 : Nat) n578, V.f (F.lit (Value.int IntKind.i64 i579)), V.f (F.lit (Value.int IntKind.i64 i580)), V.undef, V.undef] k) i580
    | _ => none
def brLp11_14 (m : Nat) (L : LTbl) (R : Type) (vs : List V) (k : Ex → List V → Option R) : Option R := match vs with
  | [V.f (F.lit (Value.string s564)), V.f (F.lit (Value.string s565)), V.f (F.lit (Value.string s566)), V.f (F.lit (Value.bool b567)), V.obj [V.f (F.lst [LT.str] r568), V.f (F.lit (Value.int IntKind.u8 i569))], V.obj [V.f (F.lst [LT.str] r570), V.f (F.lit (Value.int IntKind.u8 i571))], V.f (F.lit (Value.int IntKind.i64 i572)), V.f (F.lit (Value.string s573)), V.f (F.lit (Value.int IntKind.i64 i574)), V.f (F.lit (Value.int IntKind.i64 i575)), V.f (F.lit (Value.int IntKind.i64 i576)), V.own [LT.int IntKind.u8] r577, V.lent { slot := (33 : Nat), leaf := none } (1 : Nat) n578, V.f (F.lit (Value.int IntKind.i64 i579)), V.f (F.lit (Value.int IntKind.i64 i580)), V.undef, V.undef] => Lp11_14 m (fun s589 i590 => k (Ex.exit (4 : Nat)) [V.f (F.lit (Value.string s564)), V.f (F.lit (Value.string s565)), V.f (F.lit (Value.string s566)), V.f (F.lit (Value.bool b567)), V.obj [V.f (F.lst [LT.str] r568), V.f (F.lit (Value.int IntKind.u8 i569))], V.obj [V.f (F.lst [LT.str] r570), V.f (F.lit (Value.int IntKind.u8 i571))], V.f (F.lit (Value.int IntKind.i64 i572)), V.f (F.lit (Value.string s589)), V.f (F.lit (Value.int IntKind.i64 i574)), V.f (F.lit (Value.int IntKind.i64 i575)), V.f (F.lit (Value.int IntKind.i64 i576)), V.own [LT.int IntKind.u8] r577, V.lent { slot := (33 : Nat), leaf := none } (1 : Nat) n578, V.f (F.lit (Value.int IntKind.i64 i579)), V.f (F.lit (Value.int IntKind.i64 i590)), V.undef, V.undef]) s564 s565 s566 b567 r568 i569 r570 i571 i572 s573 i574 i575 i576 r577 n578 i579 m i580
  | _ => L R 11 14 vs k
set_option maxRecDepth 100000 in
theorem stLp11_14 (m n : Nat) (R : Type) (s564 : ByteArray) (s565 : ByteArray) (s566 : ByteArray) (b567 : Bool) (r568 : Abs.Rows) (i569 : Int) (r570 : Abs.Rows) (i571 : Int) (i572 : Int) (s573 : ByteArray) (i574 : Int) (i575 : Int) (i576 : Int) (r577 : Abs.Rows) (n578 : Nat) (i579 : Int) (i580 : Int) (k : Ex → List V → Option R) : codeK Tryd.prog H (T30 m) 11 (L23 m) 15 (loopBody Tryd.prog 11 14) (mkEnv [0, 1, 4, 5, 6, 8, 10, 11, 12, 29, 30, 33, 34, 35, 36, 76, 77] [V.f (F.lit (Value.string s564)), V.f (F.lit (Value.string s565)), V.f (F.lit (Value.string s566)), V.f (F.lit (Value.bool b567)), V.obj [V.f (F.lst [LT.str] r568), V.f (F.lit (Value.int IntKind.u8 i569))], V.obj [V.f (F.lst [LT.str] r570), V.f (F.lit (Value.int IntKind.u8 i571))], V.f (F.lit (Value.int IntKind.i64 i572)), V.f (F.lit (Value.string s573)), V.f (F.lit (Value.int IntKind.i64 i574)), V.f (F.lit (Value.int IntKind.i64 i575)), V.f (F.lit (Value.int IntKind.i64 i576)), V.own [LT.int IntKind.u8] r577, V.lent { slot := (33 : Nat), leaf := none } (1 : Nat) n578, V.f (F.lit (Value.int IntKind.i64 i579)), V.f (F.lit (Value.int IntKind.i64 i580)), V.undef, V.undef] 0 (H.len 11)) (fun e env' => match e with | .normal => ELp11_14 m R n (vals [0, 1, 4, 5, 6, 8, 10, 11, 12, 29, 30, 33, 34, 35, 36, 76, 77] env') k | e => k e (vals [0, 1, 4, 5, 6, 8, 10, 11, 12, 29, 30, 33, 34, 35, 36, 76, 77] env')) = Lp11_14_step m (fun s589 i590 => k (Ex.exit (4 : Nat)) [V.f (F.lit (Value.string s564)), V.f (F.lit (Value.string s565)), V.f (F.lit (Value.string s566)), V.f (F.lit (Value.bool b567)), V.obj [V.f (F.lst [LT.str] r568), V.f (F.lit (Value.int IntKind.u8 i569))], V.obj [V.f (F.lst [LT.str] r570), V.f (F.lit (Value.int IntKind.u8 i571))], V.f (F.lit (Value.int IntKind.i64 i572)), V.f (F.lit (Value.string s589)), V.f (F.lit (Value.int IntKind.i64 i574)), V.f (F.lit (Value.int IntKind.i64 i575)), V.f (F.lit (Value.int IntKind.i64 i576)), V.own [LT.int IntKind.u8] r577, V.lent { slot := (33 : Nat), leaf := none } (1 : Nat) n578, V.f (F.lit (Value.int IntKind.i64 i579)), V.f (F.lit (Value.int IntKind.i64 i590)), V.undef, V.undef]) s564 s565 s566 b567 r568 i569 r570 i571 i572 s573 i574 i575 i576 r577 n578 i579 (fun i580 => ELp11_14 m R n [V.f (F.lit (Value.string s564)), V.f (F.lit (Value.string s565)), V.f (F.lit (Value.string s566)), V.f (F.lit (Value.bool b567)), V.obj [V.f (F.lst [LT.str] r568), V.f (F.lit (Value.int IntKind.u8 i569))], V.obj [V.f (F.lst [LT.str] r570), V.f (F.lit (Value.int IntKind.u8 i571))], V.f (F.lit (Value.int IntKind.i64 i572)), V.f (F.lit (Value.string s573)), V.f (F.lit (Value.int IntKind.i64 i574)), V.f (F.lit (Value.int IntKind.i64 i575)), V.f (F.lit (Value.int IntKind.i64 i576)), V.own [LT.int IntKind.u8] r577, V.lent { slot := (33 : Nat), leaf := none } (1 : Nat) n578, V.f (F.lit (Value.int IntKind.i64 i579)), V.f (F.lit (Value.int IntKind.i64 i580)), V.undef, V.undef] k) i580 := by kernel_rfl
theorem eqLp11_14 (m : Nat) (R : Type) (s564 : ByteArray) (s565 : ByteArray) (s566 : ByteArray) (b567 : Bool) (r568 : Abs.Rows) (i569 : Int) (r570 : Abs.Rows) (i571 : Int) (i572 : Int) (s573 : ByteArray) (i574 : Int) (i575 : Int) (i576 : Int) (r577 : Abs.Rows) (n578 : Nat) (i579 : Int) (k : Ex → List V → Option R) : ∀ (n : Nat) (i580 : Int), ELp11_14 m R n [V.f (F.lit (Value.string s564)), V.f (F.lit (Value.string s565)), V.f (F.lit (Value.string s566)), V.f (F.lit (Value.bool b567)), V.obj [V.f (F.lst [LT.str] r568), V.f (F.lit (Value.int IntKind.u8 i569))], V.obj [V.f (F.lst [LT.str] r570), V.f (F.lit (Value.int IntKind.u8 i571))], V.f (F.lit (Value.int IntKind.i64 i572)), V.f (F.lit (Value.string s573)), V.f (F.lit (Value.int IntKind.i64 i574)), V.f (F.lit (Value.int IntKind.i64 i575)), V.f (F.lit (Value.int IntKind.i64 i576)), V.own [LT.int IntKind.u8] r577, V.lent { slot := (33 : Nat), leaf := none } (1 : Nat) n578, V.f (F.lit (Value.int IntKind.i64 i579)), V.f (F.lit (Value.int IntKind.i64 i580)), V.undef, V.undef] k = Lp11_14 m (fun s589 i590 => k (Ex.exit (4 : Nat)) [V.f (F.lit (Value.string s564)), V.f (F.lit (Value.string s565)), V.f (F.lit (Value.string s566)), V.f (F.lit (Value.bool b567)), V.obj [V.f (F.lst [LT.str] r568), V.f (F.lit (Value.int IntKind.u8 i569))], V.obj [V.f (F.lst [LT.str] r570), V.f (F.lit (Value.int IntKind.u8 i571))], V.f (F.lit (Value.int IntKind.i64 i572)), V.f (F.lit (Value.string s589)), V.f (F.lit (Value.int IntKind.i64 i574)), V.f (F.lit (Value.int IntKind.i64 i575)), V.f (F.lit (Value.int IntKind.i64 i576)), V.own [LT.int IntKind.u8] r577, V.lent { slot := (33 : Nat), leaf := none } (1 : Nat) n578, V.f (F.lit (Value.int IntKind.i64 i579)), V.f (F.lit (Value.int IntKind.i64 i590)), V.undef, V.undef]) s564 s565 s566 b567 r568 i569 r570 i571 i572 s573 i574 i575 i576 r577 n578 i579 n i580
  | 0, _ => rfl
  | n + 1, i580 => by
    simp only [ELp11_14, Lp11_14]
    congr 1
    funext i580
    exact eqLp11_14 m R s564 s565 s566 b567 r568 i569 r570 i571 i572 s573 i574 i575 i576 r577 n578 i579 k n i580
def L24 (m : Nat) : LTbl := addB 11 14 (brLp11_14 m (L23 m)) (L23 m)
theorem okL24 (m : Nat) : LTOk Tryd.prog H (L24 m) := addB_ok (okT30 m) hM (okL23 m) (l := [0, 1, 4, 5, 6, 8, 10, 11, 12, 29, 30, 33, 34, 35, 36, 76, 77]) (by kernel_rfl) (by kernel_rfl) m (fun R n vs k => ELp11_14 m R n vs k) (fun R vs k => rfl) (fun R n vs k x h => by
      simp only [ELp11_14] at h
      split at h
      · exact (stLp11_14 m n R _ _ _ _ _ _ _ _ _ _ _ _ _ _ _ _ _ k).trans h
      · cases h) fun R vs k x h => by
    unfold brLp11_14 at h
    split at h
    · exact .inl ((eqLp11_14 m R _ _ _ _ _ _ _ _ _ _ _ _ _ _ _ _ k m _).trans h)
    · exact .inr h

/-- a round of a loop of hookflash/flashref2.SharedOf -/
def Lp11_9_step {R : Type} (m : Nat) (kx0 : ByteArray → Int → Option R) (s552 : ByteArray) (s553 : ByteArray) (s554 : ByteArray) (b555 : Bool) (r556 : Abs.Rows) (i557 : Int) (r558 : Abs.Rows) (i559 : Int) (i560 : Int) (i562 : Int) (REC : ByteArray → Int → Option R) (s561 : ByteArray) (i563 : Int) : Option R :=
  bif decide (i563 < i562) then (Lp11_14 m (fun s591 i592 => REC s591 (IntKind.wrap IntKind.i64 (i563 + (1 : Int)))) s552 s553 s554 b555 r556 i557 r558 i559 i560 s561 i563 i562 i563 ([[F.lit (Value.int IntKind.u8 (35 : Int))], [F.lit (Value.int IntKind.u8 (42 : Int))], [F.lit (Value.int IntKind.u8 (48 : Int))], [F.lit (Value.int IntKind.u8 (49 : Int))], [F.lit (Value.int IntKind.u8 (50 : Int))], [F.lit (Value.int IntKind.u8 (51 : Int))], [F.lit (Value.int IntKind.u8 (52 : Int))], [F.lit (Value.int IntKind.u8 (53 : Int))], [F.lit (Value.int IntKind.u8 (54 : Int))], [F.lit (Value.int IntKind.u8 (55 : Int))], [F.lit (Value.int IntKind.u8 (56 : Int))], [F.lit (Value.int IntKind.u8 (57 : Int))]]) (List.length [[F.lit (Value.int IntKind.u8 (35 : Int))], [F.lit (Value.int IntKind.u8 (42 : Int))], [F.lit (Value.int IntKind.u8 (48 : Int))], [F.lit (Value.int IntKind.u8 (49 : Int))], [F.lit (Value.int IntKind.u8 (50 : Int))], [F.lit (Value.int IntKind.u8 (51 : Int))], [F.lit (Value.int IntKind.u8 (52 : Int))], [F.lit (Value.int IntKind.u8 (53 : Int))], [F.lit (Value.int IntKind.u8 (54 : Int))], [F.lit (Value.int IntKind.u8 (55 : Int))], [F.lit (Value.int IntKind.u8 (56 : Int))], [F.lit (Value.int IntKind.u8 (57 : Int))]]) ((↑(List.length [[F.lit (Value.int IntKind.u8 (35 : Int))], [F.lit (Value.int IntKind.u8 (42 : Int))], [F.lit (Value.int IntKind.u8 (48 : Int))], [F.lit (Value.int IntKind.u8 (49 : Int))], [F.lit (Value.int IntKind.u8 (50 : Int))], [F.lit (Value.int IntKind.u8 (51 : Int))], [F.lit (Value.int IntKind.u8 (52 : Int))], [F.lit (Value.int IntKind.u8 (53 : Int))], [F.lit (Value.int IntKind.u8 (54 : Int))], [F.lit (Value.int IntKind.u8 (55 : Int))], [F.lit (Value.int IntKind.u8 (56 : Int))], [F.lit (Value.int IntKind.u8 (57 : Int))]]) : Int)) m ((0 : Int))) else
  (kx0 s561 i563)
def Lp11_9 {R : Type} (m : Nat) (kx0 : ByteArray → Int → Option R) (s552 : ByteArray) (s553 : ByteArray) (s554 : ByteArray) (b555 : Bool) (r556 : Abs.Rows) (i557 : Int) (r558 : Abs.Rows) (i559 : Int) (i560 : Int) (i562 : Int) : Nat → ByteArray → Int → Option R
  | 0, _, _ => none
  | n + 1, s561, i563 => Lp11_9_step m kx0 s552 s553 s554 b555 r556 i557 r558 i559 i560 i562 (Lp11_9 m kx0 s552 s553 s554 b555 r556 i557 r558 i559 i560 i562 n) s561 i563
def ELp11_9 (m : Nat) (R : Type) : Nat → List V → (Ex → List V → Option R) → Option R
  | 0, _, _ => none
  | n + 1, vs, k => match vs with
    | [V.f (F.lit (Value.string s552)), V.f (F.lit (Value.string s553)), V.f (F.lit (Value.string s554)), V.f (F.lit (Value.bool b555)), V.obj [V.f (F.lst [LT.str] r556), V.f (F.lit (Value.int IntKind.u8 i557))], V.obj [V.f (F.lst [LT.str] r558), V.f (F.lit (Value.int IntKind.u8 i559))], V.f (F.lit (Value.int IntKind.i64 i560)), V.f (F.lit (Value.string s561)), V.f (F.lit (Value.int IntKind.i64 i562)), V.f (F.lit (Value.int IntKind.i64 i563)), V.undef, V.undef] => Lp11_9_step m (fun s593 i594 => k (Ex.exit (2 : Nat)) [V.f (F.lit (Value.string s552)), V.f (F.lit (Value.string s553)), V.f (F.lit (Value.string s554)), V.f (F.lit (Value.bool b555)), V.obj [V.f (F.lst [LT.str] r556), V.f (F.lit (Value.int IntKind.u8 i557))], V.obj [V.f (F.lst [LT.str] r558), V.f (F.lit (Value.int IntKind.u8 i559))], V.f (F.lit (Value.int IntKind.i64 i560)), V.f (F.lit (Value.string s593)), V.f (F.lit (Value.int IntKind.i64 i562)), V.f (F.lit (Value.int IntKind.i64 i594)), V.undef, V.undef]) s552 s553 s554 b555 r556 i557 r558 i559 i560 i562 (fun s561 i563 => ELp11_9 m R n [V.f (F.lit (Value.string s552)), V.f (F.lit (Value.string s553)), V.f (F.lit (Value.string s554)), V.f (F.lit (Value.bool b555)), V.obj [V.f (F.lst [LT.str] r556), V.f (F.lit (Value.int IntKind.u8 i557))], V.obj [V.f (F.lst [LT.str] r558), V.f (F.lit (Value.int IntKind.u8 i559))], V.f (F.lit (Value.int IntKind.i64 i560)), V.f (F.lit (Value.string s561)), V.f (F.lit (Value.int IntKind.i64 i562)), V.f (F.lit (Value.int IntKind.i64 i563)), V.undef, V.undef] k) s561 i563
    | _ => none
def brLp11_9 (m : Nat) (L : LTbl) (R : Type) (vs : List V) (k : Ex → List V → Option R) : Option R := match vs with
  | [V.f (F.lit (Value.string s552)), V.f (F.lit (Value.string s553)), V.f (F.lit (Value.string s554)), V.f (F.lit (Value.bool b555)), V.obj [V.f (F.lst [LT.str] r556), V.f (F.lit (Value.int IntKind.u8 i557))], V.obj [V.f (F.lst [LT.str] r558), V.f (F.lit (Value.int IntKind.u8 i559))], V.f (F.lit (Value.int IntKind.i64 i560)), V.f (F.lit (Value.string s561)), V.f (F.lit (Value.int IntKind.i64 i562)), V.f (F.lit (Value.int IntKind.i64 i563)), V.undef, V.undef] => Lp11_9 m (fun s593 i594 => k (Ex.exit (2 : Nat)) [V.f (F.lit (Value.string s552)), V.f (F.lit (Value.string s553)), V.f (F.lit (Value.string s554)), V.f (F.lit (Value.bool b555)), V.obj [V.f (F.lst [LT.str] r556), V.f (F.lit (Value.int IntKind.u8 i557))], V.obj [V.f (F.lst [LT.str] r558), V.f (F.lit (Value.int IntKind.u8 i559))], V.f (F.lit (Value.int IntKind.i64 i560)), V.f (F.lit (Value.string s593)), V.f (F.lit (Value.int IntKind.i64 i562)), V.f (F.lit (Value.int IntKind.i64 i594)), V.undef, V.undef]) s552 s553 s554 b555 r556 i557 r558 i559 i560 i562 m s561 i563
  | _ => L R 11 9 vs k
set_option maxRecDepth 100000 in
theorem stLp11_9 (m n : Nat) (R : Type) (s552 : ByteArray) (s553 : ByteArray) (s554 : ByteArray) (b555 : Bool) (r556 : Abs.Rows) (i557 : Int) (r558 : Abs.Rows) (i559 : Int) (i560 : Int) (s561 : ByteArray) (i562 : Int) (i563 : Int) (k : Ex → List V → Option R) : codeK Tryd.prog H (T30 m) 11 (L24 m) 10 (loopBody Tryd.prog 11 9) (mkEnv [0, 1, 4, 5, 6, 8, 10, 11, 29, 30, 76, 77] [V.f (F.lit (Value.string s552)), V.f (F.lit (Value.string s553)), V.f (F.lit (Value.string s554)), V.f (F.lit (Value.bool b555)), V.obj [V.f (F.lst [LT.str] r556), V.f (F.lit (Value.int IntKind.u8 i557))], V.obj [V.f (F.lst [LT.str] r558), V.f (F.lit (Value.int IntKind.u8 i559))], V.f (F.lit (Value.int IntKind.i64 i560)), V.f (F.lit (Value.string s561)), V.f (F.lit (Value.int IntKind.i64 i562)), V.f (F.lit (Value.int IntKind.i64 i563)), V.undef, V.undef] 0 (H.len 11)) (fun e env' => match e with | .normal => ELp11_9 m R n (vals [0, 1, 4, 5, 6, 8, 10, 11, 29, 30, 76, 77] env') k | e => k e (vals [0, 1, 4, 5, 6, 8, 10, 11, 29, 30, 76, 77] env')) = Lp11_9_step m (fun s593 i594 => k (Ex.exit (2 : Nat)) [V.f (F.lit (Value.string s552)), V.f (F.lit (Value.string s553)), V.f (F.lit (Value.string s554)), V.f (F.lit (Value.bool b555)), V.obj [V.f (F.lst [LT.str] r556), V.f (F.lit (Value.int IntKind.u8 i557))], V.obj [V.f (F.lst [LT.str] r558), V.f (F.lit (Value.int IntKind.u8 i559))], V.f (F.lit (Value.int IntKind.i64 i560)), V.f (F.lit (Value.string s593)), V.f (F.lit (Value.int IntKind.i64 i562)), V.f (F.lit (Value.int IntKind.i64 i594)), V.undef, V.undef]) s552 s553 s554 b555 r556 i557 r558 i559 i560 i562 (fun s561 i563 => ELp11_9 m R n [V.f (F.lit (Value.string s552)), V.f (F.lit (Value.string s553)), V.f (F.lit (Value.string s554)), V.f (F.lit (Value.bool b555)), V.obj [V.f (F.lst [LT.str] r556), V.f (F.lit (Value.int IntKind.u8 i557))], V.obj [V.f (F.lst [LT.str] r558), V.f (F.lit (Value.int IntKind.u8 i559))], V.f (F.lit (Value.int IntKind.i64 i560)), V.f (F.lit (Value.string s561)), V.f (F.lit (Value.int IntKind.i64 i562)), V.f (F.lit (Value.int IntKind.i64 i563)), V.undef, V.undef] k) s561 i563 := by kernel_rfl
theorem eqLp11_9 (m : Nat) (R : Type) (s552 : ByteArray) (s553 : ByteArray) (s554 : ByteArray) (b555 : Bool) (r556 : Abs.Rows) (i557 : Int) (r558 : Abs.Rows) (i559 : Int) (i560 : Int) (i562 : Int) (k : Ex → List V → Option R) : ∀ (n : Nat) (s561 : ByteArray) (i563 : Int), ELp11_9 m R n [V.f (F.lit (Value.string s552)), V.f (F.lit (Value.string s553)), V.f (F.lit (Value.string s554)), V.f (F.lit (Value.bool b555)), V.obj [V.f (F.lst [LT.str] r556), V.f (F.lit (Value.int IntKind.u8 i557))], V.obj [V.f (F.lst [LT.str] r558), V.f (F.lit (Value.int IntKind.u8 i559))], V.f (F.lit (Value.int IntKind.i64 i560)), V.f (F.lit (Value.string s561)), V.f (F.lit (Value.int IntKind.i64 i562)), V.f (F.lit (Value.int IntKind.i64 i563)), V.undef, V.undef] k = Lp11_9 m (fun s593 i594 => k (Ex.exit (2 : Nat)) [V.f (F.lit (Value.string s552)), V.f (F.lit (Value.string s553)), V.f (F.lit (Value.string s554)), V.f (F.lit (Value.bool b555)), V.obj [V.f (F.lst [LT.str] r556), V.f (F.lit (Value.int IntKind.u8 i557))], V.obj [V.f (F.lst [LT.str] r558), V.f (F.lit (Value.int IntKind.u8 i559))], V.f (F.lit (Value.int IntKind.i64 i560)), V.f (F.lit (Value.string s593)), V.f (F.lit (Value.int IntKind.i64 i562)), V.f (F.lit (Value.int IntKind.i64 i594)), V.undef, V.undef]) s552 s553 s554 b555 r556 i557 r558 i559 i560 i562 n s561 i563
  | 0, _, _ => rfl
  | n + 1, s561, i563 => by
    simp only [ELp11_9, Lp11_9]
    congr 1
    funext s561 i563
    exact eqLp11_9 m R s552 s553 s554 b555 r556 i557 r558 i559 i560 i562 k n s561 i563
def L25 (m : Nat) : LTbl := addB 11 9 (brLp11_9 m (L24 m)) (L24 m)
theorem okL25 (m : Nat) : LTOk Tryd.prog H (L25 m) := addB_ok (okT30 m) hM (okL24 m) (l := [0, 1, 4, 5, 6, 8, 10, 11, 29, 30, 76, 77]) (by kernel_rfl) (by kernel_rfl) m (fun R n vs k => ELp11_9 m R n vs k) (fun R vs k => rfl) (fun R n vs k x h => by
      simp only [ELp11_9] at h
      split at h
      · exact (stLp11_9 m n R _ _ _ _ _ _ _ _ _ _ _ _ k).trans h
      · cases h) fun R vs k x h => by
    unfold brLp11_9 at h
    split at h
    · exact .inl ((eqLp11_9 m R _ _ _ _ _ _ _ _ _ _ k m _ _).trans h)
    · exact .inr h

/-- a round of a loop of hookflash/flashref2.MatchesOf -/
def Lp19_6_step {R : Type} (m : Nat) (kx0 : Bool → Int → Option R) (kx1 : Int → Option R) (s602 : ByteArray) (b603 : Bool) (r604 : Abs.Rows) (i605 : Int) (r606 : Abs.Rows) (i607 : Int) (REC : Int → Option R) (i608 : Int) : Option R :=
  bif decide (i608 < i607) then (bif decide ((0 : Int) ≤ i608 ∧ i608 < (↑(List.length r606) : Int)) then (bif decide ((0 : Int) ≤ i608 ∧ i608 < (↑(ByteArray.size s602) : Int)) then (Fn42 m (fS r606 (Int.toNat i608) (0 : Nat)) ((↑(UInt8.toNat (Array.getD (ByteArray.data s602) (Int.toNat i608) (0 : UInt8))) : Int)) (fun i609 => bif decide (i609 < (0 : Int)) then (kx0 false i608) else
  (REC (IntKind.wrap IntKind.i64 (i608 + (1 : Int)))))) else
  (none)) else
  (none)) else
  (kx1 i608)
def Lp19_6 {R : Type} (m : Nat) (kx0 : Bool → Int → Option R) (kx1 : Int → Option R) (s602 : ByteArray) (b603 : Bool) (r604 : Abs.Rows) (i605 : Int) (r606 : Abs.Rows) (i607 : Int) : Nat → Int → Option R
  | 0, _ => none
  | n + 1, i608 => Lp19_6_step m kx0 kx1 s602 b603 r604 i605 r606 i607 (Lp19_6 m kx0 kx1 s602 b603 r604 i605 r606 i607 n) i608
def ELp19_6 (m : Nat) (R : Type) : Nat → List V → (Ex → List V → Option R) → Option R
  | 0, _, _ => none
  | n + 1, vs, k => match vs with
    | [V.f (F.lit (Value.string s602)), V.f (F.lit (Value.bool b603)), V.obj [V.f (F.lst [LT.str] r604), V.f (F.lit (Value.int IntKind.u8 i605))], V.ref (5 : Nat) (0 : Nat), V.f (F.lst [LT.str] r606), V.f (F.lit (Value.int IntKind.i64 i607)), V.f (F.lit (Value.int IntKind.i64 i608)), V.undef, V.undef] => Lp19_6_step m (fun b610 i611 => k Ex.ret [V.f (F.lit (Value.string s602)), V.f (F.lit (Value.bool b610)), V.obj [V.f (F.lst [LT.str] r604), V.f (F.lit (Value.int IntKind.u8 i605))], V.ref (5 : Nat) (0 : Nat), V.f (F.lst [LT.str] r606), V.f (F.lit (Value.int IntKind.i64 i607)), V.f (F.lit (Value.int IntKind.i64 i611)), V.undef, V.undef]) (fun i612 => k (Ex.exit (0 : Nat)) [V.f (F.lit (Value.string s602)), V.f (F.lit (Value.bool b603)), V.obj [V.f (F.lst [LT.str] r604), V.f (F.lit (Value.int IntKind.u8 i605))], V.ref (5 : Nat) (0 : Nat), V.f (F.lst [LT.str] r606), V.f (F.lit (Value.int IntKind.i64 i607)), V.f (F.lit (Value.int IntKind.i64 i612)), V.undef, V.undef]) s602 b603 r604 i605 r606 i607 (fun i608 => ELp19_6 m R n [V.f (F.lit (Value.string s602)), V.f (F.lit (Value.bool b603)), V.obj [V.f (F.lst [LT.str] r604), V.f (F.lit (Value.int IntKind.u8 i605))], V.ref (5 : Nat) (0 : Nat), V.f (F.lst [LT.str] r606), V.f (F.lit (Value.int IntKind.i64 i607)), V.f (F.lit (Value.int IntKind.i64 i608)), V.undef, V.undef] k) i608
    | _ => none
def brLp19_6 (m : Nat) (L : LTbl) (R : Type) (vs : List V) (k : Ex → List V → Option R) : Option R := match vs with
  | [V.f (F.lit (Value.string s602)), V.f (F.lit (Value.bool b603)), V.obj [V.f (F.lst [LT.str] r604), V.f (F.lit (Value.int IntKind.u8 i605))], V.ref (5 : Nat) (0 : Nat), V.f (F.lst [LT.str] r606), V.f (F.lit (Value.int IntKind.i64 i607)), V.f (F.lit (Value.int IntKind.i64 i608)), V.undef, V.undef] => Lp19_6 m (fun b610 i611 => k Ex.ret [V.f (F.lit (Value.string s602)), V.f (F.lit (Value.bool b610)), V.obj [V.f (F.lst [LT.str] r604), V.f (F.lit (Value.int IntKind.u8 i605))], V.ref (5 : Nat) (0 : Nat), V.f (F.lst [LT.str] r606), V.f (F.lit (Value.int IntKind.i64 i607)), V.f (F.lit (Value.int IntKind.i64 i611)), V.undef, V.undef]) (fun i612 => k (Ex.exit (0 : Nat)) [V.f (F.lit (Value.string s602)), V.f (F.lit (Value.bool b603)), V.obj [V.f (F.lst [LT.str] r604), V.f (F.lit (Value.int IntKind.u8 i605))], V.ref (5 : Nat) (0 : Nat), V.f (F.lst [LT.str] r606), V.f (F.lit (Value.int IntKind.i64 i607)), V.f (F.lit (Value.int IntKind.i64 i612)), V.undef, V.undef]) s602 b603 r604 i605 r606 i607 m i608
  | _ => L R 19 6 vs k
set_option maxRecDepth 100000 in
theorem stLp19_6 (m n : Nat) (R : Type) (s602 : ByteArray) (b603 : Bool) (r604 : Abs.Rows) (i605 : Int) (r606 : Abs.Rows) (i607 : Int) (i608 : Int) (k : Ex → List V → Option R) : codeK Tryd.prog H (T30 m) 19 (L25 m) 7 (loopBody Tryd.prog 19 6) (mkEnv [1, 4, 5, 21, 22, 23, 24, 58, 59] [V.f (F.lit (Value.string s602)), V.f (F.lit (Value.bool b603)), V.obj [V.f (F.lst [LT.str] r604), V.f (F.lit (Value.int IntKind.u8 i605))], V.ref (5 : Nat) (0 : Nat), V.f (F.lst [LT.str] r606), V.f (F.lit (Value.int IntKind.i64 i607)), V.f (F.lit (Value.int IntKind.i64 i608)), V.undef, V.undef] 0 (H.len 19)) (fun e env' => match e with | .normal => ELp19_6 m R n (vals [1, 4, 5, 21, 22, 23, 24, 58, 59] env') k | e => k e (vals [1, 4, 5, 21, 22, 23, 24, 58, 59] env')) = Lp19_6_step m (fun b610 i611 => k Ex.ret [V.f (F.lit (Value.string s602)), V.f (F.lit (Value.bool b610)), V.obj [V.f (F.lst [LT.str] r604), V.f (F.lit (Value.int IntKind.u8 i605))], V.ref (5 : Nat) (0 : Nat), V.f (F.lst [LT.str] r606), V.f (F.lit (Value.int IntKind.i64 i607)), V.f (F.lit (Value.int IntKind.i64 i611)), V.undef, V.undef]) (fun i612 => k (Ex.exit (0 : Nat)) [V.f (F.lit (Value.string s602)), V.f (F.lit (Value.bool b603)), V.obj [V.f (F.lst [LT.str] r604), V.f (F.lit (Value.int IntKind.u8 i605))], V.ref (5 : Nat) (0 : Nat), V.f (F.lst [LT.str] r606), V.f (F.lit (Value.int IntKind.i64 i607)), V.f (F.lit (Value.int IntKind.i64 i612)), V.undef, V.undef]) s602 b603 r604 i605 r606 i607 (fun i608 => ELp19_6 m R n [V.f (F.lit (Value.string s602)), V.f (F.lit (Value.bool b603)), V.obj [V.f (F.lst [LT.str] r604), V.f (F.lit (Value.int IntKind.u8 i605))], V.ref (5 : Nat) (0 : Nat), V.f (F.lst [LT.str] r606), V.f (F.lit (Value.int IntKind.i64 i607)), V.f (F.lit (Value.int IntKind.i64 i608)), V.undef, V.undef] k) i608 := by kernel_rfl
theorem eqLp19_6 (m : Nat) (R : Type) (s602 : ByteArray) (b603 : Bool) (r604 : Abs.Rows) (i605 : Int) (r606 : Abs.Rows) (i607 : Int) (k : Ex → List V → Option R) : ∀ (n : Nat) (i608 : Int), ELp19_6 m R n [V.f (F.lit (Value.string s602)), V.f (F.lit (Value.bool b603)), V.obj [V.f (F.lst [LT.str] r604), V.f (F.lit (Value.int IntKind.u8 i605))], V.ref (5 : Nat) (0 : Nat), V.f (F.lst [LT.str] r606), V.f (F.lit (Value.int IntKind.i64 i607)), V.f (F.lit (Value.int IntKind.i64 i608)), V.undef, V.undef] k = Lp19_6 m (fun b610 i611 => k Ex.ret [V.f (F.lit (Value.string s602)), V.f (F.lit (Value.bool b610)), V.obj [V.f (F.lst [LT.str] r604), V.f (F.lit (Value.int IntKind.u8 i605))], V.ref (5 : Nat) (0 : Nat), V.f (F.lst [LT.str] r606), V.f (F.lit (Value.int IntKind.i64 i607)), V.f (F.lit (Value.int IntKind.i64 i611)), V.undef, V.undef]) (fun i612 => k (Ex.exit (0 : Nat)) [V.f (F.lit (Value.string s602)), V.f (F.lit (Value.bool b603)), V.obj [V.f (F.lst [LT.str] r604), V.f (F.lit (Value.int IntKind.u8 i605))], V.ref (5 : Nat) (0 : Nat), V.f (F.lst [LT.str] r606), V.f (F.lit (Value.int IntKind.i64 i607)), V.f (F.lit (Value.int IntKind.i64 i612)), V.undef, V.undef]) s602 b603 r604 i605 r606 i607 n i608
  | 0, _ => rfl
  | n + 1, i608 => by
    simp only [ELp19_6, Lp19_6]
    congr 1
    funext i608
    exact eqLp19_6 m R s602 b603 r604 i605 r606 i607 k n i608
def L26 (m : Nat) : LTbl := addB 19 6 (brLp19_6 m (L25 m)) (L25 m)
theorem okL26 (m : Nat) : LTOk Tryd.prog H (L26 m) := addB_ok (okT30 m) hM (okL25 m) (l := [1, 4, 5, 21, 22, 23, 24, 58, 59]) (by kernel_rfl) (by kernel_rfl) m (fun R n vs k => ELp19_6 m R n vs k) (fun R vs k => rfl) (fun R n vs k x h => by
      simp only [ELp19_6] at h
      split at h
      · exact (stLp19_6 m n R _ _ _ _ _ _ _ k).trans h
      · cases h) fun R vs k x h => by
    unfold brLp19_6 at h
    split at h
    · exact .inl ((eqLp19_6 m R _ _ _ _ _ _ k m _).trans h)
    · exact .inr h

/-- hookflash/flashref2.MatchesOf -/
def Fn19 {R : Type} (m : Nat) : ByteArray → ByteArray → (Bool → Option R) → Option R := match m with
  | 0 => fun _ _ _ => none
  | m + 1 => fun s597 s598 k =>
  Fn41 m s597 (fun r599 i600 b601 => bif decide ((↑(ByteArray.size s598) : Int) < (↑(List.length r599) : Int)) then (k false) else
  (Lp19_6 m (fun b613 i614 => k b613) (fun i615 => bif IntKind.wrap IntKind.i64 ((↑(ByteArray.size s598) : Int) - (↑(List.length r599) : Int)) == (0 : Int) then (bif i600 != (46 : Int) then (k true) else
  (bif decide (IntKind.wrap IntKind.i64 ((↑(ByteArray.size s598) : Int) - (↑(List.length r599) : Int)) > (0 : Int)) then (k (i600 != (0 : Int))) else
  (k false))) else
  (bif decide (IntKind.wrap IntKind.i64 ((↑(ByteArray.size s598) : Int) - (↑(List.length r599) : Int)) > (0 : Int)) then (k (i600 != (0 : Int))) else
  (k false))) s598 false r599 i600 r599 ((↑(List.length r599) : Int)) m ((0 : Int))))
def brFn19 (m : Nat) (T : Tbl) (R : Type) (vs : List V) (k : V → List V → Option R) : Option R := match vs with
  | [V.f (F.lit (Value.string s597)), V.f (F.lit (Value.string s598))] => Fn19 m s597 s598 (fun b616 => k (V.f (F.lit (Value.bool b616))) [V.undef, V.undef])
  | _ => T R 19 vs k
set_option maxRecDepth 100000 in
theorem evFn19 (m : Nat) (R : Type) (s597 : ByteArray) (s598 : ByteArray) (k : V → List V → Option R) : runK Tryd.prog H (T30 m) (L26 m) 19 [V.f (F.lit (Value.string s597)), V.f (F.lit (Value.string s598))] k = Fn19 (m + 1) s597 s598 (fun b616 => k (V.f (F.lit (Value.bool b616))) [V.undef, V.undef]) := by kernel_rfl
def T31 (m : Nat) : Tbl := addT 19 (brFn19 m (T30 m)) (T30 m)
theorem okT31 (m : Nat) : TblOk Tryd.prog (T31 m) := addT_ok (okT30 m) fun R vs k x h => by
  unfold brFn19 at h
  split at h
  · cases m with
    | zero => cases h
    | succ m => exact runK_some (okT30 m) hM (okL26 m) ((evFn19 m R _ _ k).trans h)
  · exact okT30 m R 19 _ k x h

/-- a round of a loop of hookflash/flashref2.SharedOf -/
def Lp11_4_step {R : Type} (m : Nat) (kx0 : ByteArray → Bool → Int → Option R) (kx1 : Int → Option R) (s543 : ByteArray) (s544 : ByteArray) (s545 : ByteArray) (b546 : Bool) (r547 : Abs.Rows) (i548 : Int) (r549 : Abs.Rows) (i550 : Int) (REC : Int → Option R) (i551 : Int) : Option R :=
  bif decide (i551 ≤ (30 : Int)) then (Lp11_9 m (fun s595 i596 => bif (↑(ByteArray.size s595) : Int) == i551 then (Fn19 m s543 s595 (fun b617 => bif b617 then (Fn19 m s544 s595 (fun b618 => bif b618 then (kx0 s595 true i551) else
  (REC (IntKind.wrap IntKind.i64 (i551 + (1 : Int)))))) else
  (REC (IntKind.wrap IntKind.i64 (i551 + (1 : Int)))))) else
  (REC (IntKind.wrap IntKind.i64 (i551 + (1 : Int))))) s543 s544 s545 b546 r547 i548 r549 i550 i551 i551 m ({ data := #[] }) ((0 : Int))) else
  (kx1 i551)
def Lp11_4 {R : Type} (m : Nat) (kx0 : ByteArray → Bool → Int → Option R) (kx1 : Int → Option R) (s543 : ByteArray) (s544 : ByteArray) (s545 : ByteArray) (b546 : Bool) (r547 : Abs.Rows) (i548 : Int) (r549 : Abs.Rows) (i550 : Int) : Nat → Int → Option R
  | 0, _ => none
  | n + 1, i551 => Lp11_4_step m kx0 kx1 s543 s544 s545 b546 r547 i548 r549 i550 (Lp11_4 m kx0 kx1 s543 s544 s545 b546 r547 i548 r549 i550 n) i551
def ELp11_4 (m : Nat) (R : Type) : Nat → List V → (Ex → List V → Option R) → Option R
  | 0, _, _ => none
  | n + 1, vs, k => match vs with
    | [V.f (F.lit (Value.string s543)), V.f (F.lit (Value.string s544)), V.f (F.lit (Value.string s545)), V.f (F.lit (Value.bool b546)), V.obj [V.f (F.lst [LT.str] r547), V.f (F.lit (Value.int IntKind.u8 i548))], V.obj [V.f (F.lst [LT.str] r549), V.f (F.lit (Value.int IntKind.u8 i550))], V.f (F.lit (Value.int IntKind.i64 i551)), V.undef, V.undef] => Lp11_4_step m (fun s619 b620 i621 => k Ex.ret [V.f (F.lit (Value.string s543)), V.f (F.lit (Value.string s544)), V.f (F.lit (Value.string s619)), V.f (F.lit (Value.bool b620)), V.obj [V.f (F.lst [LT.str] r547), V.f (F.lit (Value.int IntKind.u8 i548))], V.obj [V.f (F.lst [LT.str] r549), V.f (F.lit (Value.int IntKind.u8 i550))], V.f (F.lit (Value.int IntKind.i64 i621)), V.undef, V.undef]) (fun i622 => k (Ex.exit (0 : Nat)) [V.f (F.lit (Value.string s543)), V.f (F.lit (Value.string s544)), V.f (F.lit (Value.string s545)), V.f (F.lit (Value.bool b546)), V.obj [V.f (F.lst [LT.str] r547), V.f (F.lit (Value.int IntKind.u8 i548))], V.obj [V.f (F.lst [LT.str] r549), V.f (F.lit (Value.int IntKind.u8 i550))], V.f (F.lit (Value.int IntKind.i64 i622)), V.undef, V.undef]) s543 s544 s545 b546 r547 i548 r549 i550 (fun i551 => ELp11_4 m R n [V.f (F.lit (Value.string s543)), V.f (F.lit (Value.string s544)), V.f (F.lit (Value.string s545)), V.f (F.lit (Value.bool b546)), V.obj [V.f (F.lst [LT.str] r547), V.f (F.lit (Value.int IntKind.u8 i548))], V.obj [V.f (F.lst [LT.str] r549), V.f (F.lit (Value.int IntKind.u8 i550))], V.f (F.lit (Value.int IntKind.i64 i551)), V.undef, V.undef] k) i551
    | _ => none
def brLp11_4 (m : Nat) (L : LTbl) (R : Type) (vs : List V) (k : Ex → List V → Option R) : Option R := match vs with
  | [V.f (F.lit (Value.string s543)), V.f (F.lit (Value.string s544)), V.f (F.lit (Value.string s545)), V.f (F.lit (Value.bool b546)), V.obj [V.f (F.lst [LT.str] r547), V.f (F.lit (Value.int IntKind.u8 i548))], V.obj [V.f (F.lst [LT.str] r549), V.f (F.lit (Value.int IntKind.u8 i550))], V.f (F.lit (Value.int IntKind.i64 i551)), V.undef, V.undef] => Lp11_4 m (fun s619 b620 i621 => k Ex.ret [V.f (F.lit (Value.string s543)), V.f (F.lit (Value.string s544)), V.f (F.lit (Value.string s619)), V.f (F.lit (Value.bool b620)), V.obj [V.f (F.lst [LT.str] r547), V.f (F.lit (Value.int IntKind.u8 i548))], V.obj [V.f (F.lst [LT.str] r549), V.f (F.lit (Value.int IntKind.u8 i550))], V.f (F.lit (Value.int IntKind.i64 i621)), V.undef, V.undef]) (fun i622 => k (Ex.exit (0 : Nat)) [V.f (F.lit (Value.string s543)), V.f (F.lit (Value.string s544)), V.f (F.lit (Value.string s545)), V.f (F.lit (Value.bool b546)), V.obj [V.f (F.lst [LT.str] r547), V.f (F.lit (Value.int IntKind.u8 i548))], V.obj [V.f (F.lst [LT.str] r549), V.f (F.lit (Value.int IntKind.u8 i550))], V.f (F.lit (Value.int IntKind.i64 i622)), V.undef, V.undef]) s543 s544 s545 b546 r547 i548 r549 i550 m i551
  | _ => L R 11 4 vs k
set_option maxRecDepth 100000 in
theorem stLp11_4 (m n : Nat) (R : Type) (s543 : ByteArray) (s544 : ByteArray) (s545 : ByteArray) (b546 : Bool) (r547 : Abs.Rows) (i548 : Int) (r549 : Abs.Rows) (i550 : Int) (i551 : Int) (k : Ex → List V → Option R) : codeK Tryd.prog H (T31 m) 11 (L26 m) 5 (loopBody Tryd.prog 11 4) (mkEnv [0, 1, 4, 5, 6, 8, 10, 76, 77] [V.f (F.lit (Value.string s543)), V.f (F.lit (Value.string s544)), V.f (F.lit (Value.string s545)), V.f (F.lit (Value.bool b546)), V.obj [V.f (F.lst [LT.str] r547), V.f (F.lit (Value.int IntKind.u8 i548))], V.obj [V.f (F.lst [LT.str] r549), V.f (F.lit (Value.int IntKind.u8 i550))], V.f (F.lit (Value.int IntKind.i64 i551)), V.undef, V.undef] 0 (H.len 11)) (fun e env' => match e with | .normal => ELp11_4 m R n (vals [0, 1, 4, 5, 6, 8, 10, 76, 77] env') k | e => k e (vals [0, 1, 4, 5, 6, 8, 10, 76, 77] env')) = Lp11_4_step m (fun s619 b620 i621 => k Ex.ret [V.f (F.lit (Value.string s543)), V.f (F.lit (Value.string s544)), V.f (F.lit (Value.string s619)), V.f (F.lit (Value.bool b620)), V.obj [V.f (F.lst [LT.str] r547), V.f (F.lit (Value.int IntKind.u8 i548))], V.obj [V.f (F.lst [LT.str] r549), V.f (F.lit (Value.int IntKind.u8 i550))], V.f (F.lit (Value.int IntKind.i64 i621)), V.undef, V.undef]) (fun i622 => k (Ex.exit (0 : Nat)) [V.f (F.lit (Value.string s543)), V.f (F.lit (Value.string s544)), V.f (F.lit (Value.string s545)), V.f (F.lit (Value.bool b546)), V.obj [V.f (F.lst [LT.str] r547), V.f (F.lit (Value.int IntKind.u8 i548))], V.obj [V.f (F.lst [LT.str] r549), V.f (F.lit (Value.int IntKind.u8 i550))], V.f (F.lit (Value.int IntKind.i64 i622)), V.undef, V.undef]) s543 s544 s545 b546 r547 i548 r549 i550 (fun i551 => ELp11_4 m R n [V.f (F.lit (Value.string s543)), V.f (F.lit (Value.string s544)), V.f (F.lit (Value.string s545)), V.f (F.lit (Value.bool b546)), V.obj [V.f (F.lst [LT.str] r547), V.f (F.lit (Value.int IntKind.u8 i548))], V.obj [V.f (F.lst [LT.str] r549), V.f (F.lit (Value.int IntKind.u8 i550))], V.f (F.lit (Value.int IntKind.i64 i551)), V.undef, V.undef] k) i551 := by kernel_rfl
theorem eqLp11_4 (m : Nat) (R : Type) (s543 : ByteArray) (s544 : ByteArray) (s545 : ByteArray) (b546 : Bool) (r547 : Abs.Rows) (i548 : Int) (r549 : Abs.Rows) (i550 : Int) (k : Ex → List V → Option R) : ∀ (n : Nat) (i551 : Int), ELp11_4 m R n [V.f (F.lit (Value.string s543)), V.f (F.lit (Value.string s544)), V.f (F.lit (Value.string s545)), V.f (F.lit (Value.bool b546)), V.obj [V.f (F.lst [LT.str] r547), V.f (F.lit (Value.int IntKind.u8 i548))], V.obj [V.f (F.lst [LT.str] r549), V.f (F.lit (Value.int IntKind.u8 i550))], V.f (F.lit (Value.int IntKind.i64 i551)), V.undef, V.undef] k = Lp11_4 m (fun s619 b620 i621 => k Ex.ret [V.f (F.lit (Value.string s543)), V.f (F.lit (Value.string s544)), V.f (F.lit (Value.string s619)), V.f (F.lit (Value.bool b620)), V.obj [V.f (F.lst [LT.str] r547), V.f (F.lit (Value.int IntKind.u8 i548))], V.obj [V.f (F.lst [LT.str] r549), V.f (F.lit (Value.int IntKind.u8 i550))], V.f (F.lit (Value.int IntKind.i64 i621)), V.undef, V.undef]) (fun i622 => k (Ex.exit (0 : Nat)) [V.f (F.lit (Value.string s543)), V.f (F.lit (Value.string s544)), V.f (F.lit (Value.string s545)), V.f (F.lit (Value.bool b546)), V.obj [V.f (F.lst [LT.str] r547), V.f (F.lit (Value.int IntKind.u8 i548))], V.obj [V.f (F.lst [LT.str] r549), V.f (F.lit (Value.int IntKind.u8 i550))], V.f (F.lit (Value.int IntKind.i64 i622)), V.undef, V.undef]) s543 s544 s545 b546 r547 i548 r549 i550 n i551
  | 0, _ => rfl
  | n + 1, i551 => by
    simp only [ELp11_4, Lp11_4]
    congr 1
    funext i551
    exact eqLp11_4 m R s543 s544 s545 b546 r547 i548 r549 i550 k n i551
def L27 (m : Nat) : LTbl := addB 11 4 (brLp11_4 m (L26 m)) (L26 m)
theorem okL27 (m : Nat) : LTOk Tryd.prog H (L27 m) := addB_ok (okT31 m) hM (okL26 m) (l := [0, 1, 4, 5, 6, 8, 10, 76, 77]) (by kernel_rfl) (by kernel_rfl) m (fun R n vs k => ELp11_4 m R n vs k) (fun R vs k => rfl) (fun R n vs k x h => by
      simp only [ELp11_4] at h
      split at h
      · exact (stLp11_4 m n R _ _ _ _ _ _ _ _ _ k).trans h
      · cases h) fun R vs k x h => by
    unfold brLp11_4 at h
    split at h
    · exact .inl ((eqLp11_4 m R _ _ _ _ _ _ _ _ k m _).trans h)
    · exact .inr h

/-- hookflash/flashref2.SharedOf -/
def Fn11 {R : Type} (m : Nat) : ByteArray → ByteArray → (ByteArray → Bool → Option R) → Option R := match m with
  | 0 => fun _ _ _ => none
  | m + 1 => fun s535 s536 k =>
  Fn41 m s535 (fun r537 i538 b539 => Fn41 m s536 (fun r540 i541 b542 => Lp11_4 m (fun s623 b624 i625 => k s623 b624) (fun i626 => k ({ data := #[] }) false) s535 s536 ({ data := #[] }) false r537 i538 r540 i541 m ((1 : Int))))
def brFn11 (m : Nat) (T : Tbl) (R : Type) (vs : List V) (k : V → List V → Option R) : Option R := match vs with
  | [V.f (F.lit (Value.string s535)), V.f (F.lit (Value.string s536))] => Fn11 m s535 s536 (fun s627 b628 => k (V.tup [V.f (F.lit (Value.string s627)), V.f (F.lit (Value.bool b628))]) [V.undef, V.undef])
  | _ => T R 11 vs k
set_option maxRecDepth 100000 in
theorem evFn11 (m : Nat) (R : Type) (s535 : ByteArray) (s536 : ByteArray) (k : V → List V → Option R) : runK Tryd.prog H (T31 m) (L27 m) 11 [V.f (F.lit (Value.string s535)), V.f (F.lit (Value.string s536))] k = Fn11 (m + 1) s535 s536 (fun s627 b628 => k (V.tup [V.f (F.lit (Value.string s627)), V.f (F.lit (Value.bool b628))]) [V.undef, V.undef]) := by kernel_rfl
def T32 (m : Nat) : Tbl := addT 11 (brFn11 m (T31 m)) (T31 m)
theorem okT32 (m : Nat) : TblOk Tryd.prog (T32 m) := addT_ok (okT31 m) fun R vs k x h => by
  unfold brFn11 at h
  split at h
  · cases m with
    | zero => cases h
    | succ m => exact runK_some (okT31 m) hM (okL27 m) ((evFn11 m R _ _ k).trans h)
  · exact okT31 m R 11 _ k x h

/-- hookflash/flashlaw2.planned -/
def Fn12 {R : Type} (m : Nat) : (Bool → Option R) → Option R := match m with
  | 0 => fun _ => none
  | m + 1 => fun  k =>
  Fn8 m ({ data := #[(78 : UInt8), (49 : UInt8)] }) (fun s656 i657 => bif i657 == (0 : Int) then (k (ByteArray.toList s656 == ByteArray.toList { data := #[(50 : UInt8), (49 : UInt8)] })) else
  (k false))
def brFn12 (m : Nat) (T : Tbl) (R : Type) (vs : List V) (k : V → List V → Option R) : Option R := match vs with
  | [] => Fn12 m  (fun b658 => k (V.f (F.lit (Value.bool b658))) [])
  | _ => T R 12 vs k
set_option maxRecDepth 100000 in
theorem evFn12 (m : Nat) (R : Type)  (k : V → List V → Option R) : runK Tryd.prog H (T32 m) (L27 m) 12 [] k = Fn12 (m + 1)  (fun b658 => k (V.f (F.lit (Value.bool b658))) []) := by kernel_rfl
def T33 (m : Nat) : Tbl := addT 12 (brFn12 m (T32 m)) (T32 m)
theorem okT33 (m : Nat) : TblOk Tryd.prog (T33 m) := addT_ok (okT32 m) fun R vs k x h => by
  unfold brFn12 at h
  split at h
  · cases m with
    | zero => cases h
    | succ m => exact runK_some (okT32 m) hM (okL27 m) ((evFn12 m R k).trans h)
  · exact okT32 m R 12 _ k x h

/-- a rest of hookflash/flashlaw2.PatternsShare -/
def Jn3_10 {R : Type} (m : Nat) (kx0 : Bool → Option R) (b645 : Bool) (s646 : ByteArray) (b647 : Bool) (i648 : Int) (s649 : ByteArray) (i650 : Int) (i651 : Int) (i652 : Int) (s653 : ByteArray) (b654 : Bool) (s655 : ByteArray) : Option R :=
  bif i648 == i652 then (bif ByteArray.toList s646 == ByteArray.toList s653 then (bif b647 == b654 then (bif i650 == i651 then (bif ByteArray.toList s649 == ByteArray.toList s655 then (Fn12 m  (fun b659 => kx0 b659)) else
  (kx0 false)) else
  (kx0 false)) else
  (kx0 false)) else
  (kx0 false)) else
  (kx0 false)
def brJn3_10 (m : Nat) (L : LTbl) (R : Type) (vs : List V) (k : Ex → List V → Option R) : Option R := match vs with
  | [V.f (F.lit (Value.bool b645)), V.f (F.lit (Value.string s646)), V.f (F.lit (Value.bool b647)), V.f (F.lit (Value.int IntKind.i64 i648)), V.f (F.lit (Value.string s649)), V.f (F.lit (Value.int IntKind.i64 i650)), V.f (F.lit (Value.int IntKind.i64 i651)), V.f (F.lit (Value.int IntKind.i64 i652)), V.f (F.lit (Value.string s653)), V.f (F.lit (Value.bool b654)), V.f (F.lit (Value.string s655)), V.undef] => Jn3_10 m (fun b660 => k Ex.ret [V.f (F.lit (Value.bool b660)), V.f (F.lit (Value.string s646)), V.f (F.lit (Value.bool b647)), V.f (F.lit (Value.int IntKind.i64 i648)), V.f (F.lit (Value.string s649)), V.f (F.lit (Value.int IntKind.i64 i650)), V.f (F.lit (Value.int IntKind.i64 i651)), V.f (F.lit (Value.int IntKind.i64 i652)), V.f (F.lit (Value.string s653)), V.f (F.lit (Value.bool b654)), V.f (F.lit (Value.string s655)), V.undef]) b645 s646 b647 i648 s649 i650 i651 i652 s653 b654 s655
  | _ => L R 3 10 vs k
set_option maxRecDepth 100000 in
theorem evJn3_10 (m : Nat) (R : Type) (b645 : Bool) (s646 : ByteArray) (b647 : Bool) (i648 : Int) (s649 : ByteArray) (i650 : Int) (i651 : Int) (i652 : Int) (s653 : ByteArray) (b654 : Bool) (s655 : ByteArray) (k : Ex → List V → Option R) : codeK Tryd.prog H (T33 m) 3 (L27 m) 11 (loopBody Tryd.prog 3 10) (mkEnv [2, 6, 7, 8, 9, 10, 11, 12, 13, 14, 15, 85] [V.f (F.lit (Value.bool b645)), V.f (F.lit (Value.string s646)), V.f (F.lit (Value.bool b647)), V.f (F.lit (Value.int IntKind.i64 i648)), V.f (F.lit (Value.string s649)), V.f (F.lit (Value.int IntKind.i64 i650)), V.f (F.lit (Value.int IntKind.i64 i651)), V.f (F.lit (Value.int IntKind.i64 i652)), V.f (F.lit (Value.string s653)), V.f (F.lit (Value.bool b654)), V.f (F.lit (Value.string s655)), V.undef] 0 (H.len 3)) (fun e env' => k e (vals [2, 6, 7, 8, 9, 10, 11, 12, 13, 14, 15, 85] env')) = Jn3_10 m (fun b660 => k Ex.ret [V.f (F.lit (Value.bool b660)), V.f (F.lit (Value.string s646)), V.f (F.lit (Value.bool b647)), V.f (F.lit (Value.int IntKind.i64 i648)), V.f (F.lit (Value.string s649)), V.f (F.lit (Value.int IntKind.i64 i650)), V.f (F.lit (Value.int IntKind.i64 i651)), V.f (F.lit (Value.int IntKind.i64 i652)), V.f (F.lit (Value.string s653)), V.f (F.lit (Value.bool b654)), V.f (F.lit (Value.string s655)), V.undef]) b645 s646 b647 i648 s649 i650 i651 i652 s653 b654 s655 := by kernel_rfl
def L28 (m : Nat) : LTbl := addJ 3 10 (brJn3_10 m (L27 m)) (L27 m)
theorem okL28 (m : Nat) : LTOk Tryd.prog H (L28 m) := addJ_ok (okT33 m) hM (okL27 m) (l := [2, 6, 7, 8, 9, 10, 11, 12, 13, 14, 15, 85]) (by kernel_rfl) (by kernel_rfl) fun R vs k x h => by
    unfold brJn3_10 at h
    split at h
    · exact .inl ((evJn3_10 m R _ _ _ _ _ _ _ _ _ _ _ k).trans h)
    · exact .inr h

/-- a rest of hookflash/flashlaw2.PatternsShare -/
def Jn3_8 {R : Type} (m : Nat) (kx0 : Bool → ByteArray → Option R) (b631 : Bool) (s632 : ByteArray) (s633 : ByteArray) (b634 : Bool) (i635 : Int) (s636 : ByteArray) (i637 : Int) (i638 : Int) (i639 : Int) (s640 : ByteArray) (b641 : Bool) (s642 : ByteArray) : Option R :=
  bif i638 == (0 : Int) then (Fn11 m s632 s632 (fun s643 b644 => Jn3_10 m (fun b661 => kx0 b661 s643) b631 s633 b634 i635 s636 i637 i638 i639 s640 b641 s643)) else
  (Jn3_10 m (fun b662 => kx0 b662 s642) b631 s633 b634 i635 s636 i637 i638 i639 s640 b641 s642)
def brJn3_8 (m : Nat) (L : LTbl) (R : Type) (vs : List V) (k : Ex → List V → Option R) : Option R := match vs with
  | [V.f (F.lit (Value.bool b631)), V.f (F.lit (Value.string s632)), V.f (F.lit (Value.string s633)), V.f (F.lit (Value.bool b634)), V.f (F.lit (Value.int IntKind.i64 i635)), V.f (F.lit (Value.string s636)), V.f (F.lit (Value.int IntKind.i64 i637)), V.f (F.lit (Value.int IntKind.i64 i638)), V.f (F.lit (Value.int IntKind.i64 i639)), V.f (F.lit (Value.string s640)), V.f (F.lit (Value.bool b641)), V.f (F.lit (Value.string s642)), V.undef] => Jn3_8 m (fun b663 s664 => k Ex.ret [V.f (F.lit (Value.bool b663)), V.undef, V.f (F.lit (Value.string s633)), V.f (F.lit (Value.bool b634)), V.f (F.lit (Value.int IntKind.i64 i635)), V.f (F.lit (Value.string s636)), V.f (F.lit (Value.int IntKind.i64 i637)), V.f (F.lit (Value.int IntKind.i64 i638)), V.f (F.lit (Value.int IntKind.i64 i639)), V.f (F.lit (Value.string s640)), V.f (F.lit (Value.bool b641)), V.f (F.lit (Value.string s664)), V.undef]) b631 s632 s633 b634 i635 s636 i637 i638 i639 s640 b641 s642
  | _ => L R 3 8 vs k
set_option maxRecDepth 100000 in
theorem evJn3_8 (m : Nat) (R : Type) (b631 : Bool) (s632 : ByteArray) (s633 : ByteArray) (b634 : Bool) (i635 : Int) (s636 : ByteArray) (i637 : Int) (i638 : Int) (i639 : Int) (s640 : ByteArray) (b641 : Bool) (s642 : ByteArray) (k : Ex → List V → Option R) : codeK Tryd.prog H (T33 m) 3 (L28 m) 9 (loopBody Tryd.prog 3 8) (mkEnv [2, 4, 6, 7, 8, 9, 10, 11, 12, 13, 14, 15, 85] [V.f (F.lit (Value.bool b631)), V.f (F.lit (Value.string s632)), V.f (F.lit (Value.string s633)), V.f (F.lit (Value.bool b634)), V.f (F.lit (Value.int IntKind.i64 i635)), V.f (F.lit (Value.string s636)), V.f (F.lit (Value.int IntKind.i64 i637)), V.f (F.lit (Value.int IntKind.i64 i638)), V.f (F.lit (Value.int IntKind.i64 i639)), V.f (F.lit (Value.string s640)), V.f (F.lit (Value.bool b641)), V.f (F.lit (Value.string s642)), V.undef] 0 (H.len 3)) (fun e env' => k e (vals [2, 4, 6, 7, 8, 9, 10, 11, 12, 13, 14, 15, 85] env')) = Jn3_8 m (fun b663 s664 => k Ex.ret [V.f (F.lit (Value.bool b663)), V.undef, V.f (F.lit (Value.string s633)), V.f (F.lit (Value.bool b634)), V.f (F.lit (Value.int IntKind.i64 i635)), V.f (F.lit (Value.string s636)), V.f (F.lit (Value.int IntKind.i64 i637)), V.f (F.lit (Value.int IntKind.i64 i638)), V.f (F.lit (Value.int IntKind.i64 i639)), V.f (F.lit (Value.string s640)), V.f (F.lit (Value.bool b641)), V.f (F.lit (Value.string s664)), V.undef]) b631 s632 s633 b634 i635 s636 i637 i638 i639 s640 b641 s642 := by kernel_rfl
def L29 (m : Nat) : LTbl := addJ 3 8 (brJn3_8 m (L28 m)) (L28 m)
theorem okL29 (m : Nat) : LTOk Tryd.prog H (L29 m) := addJ_ok (okT33 m) hM (okL28 m) (l := [2, 4, 6, 7, 8, 9, 10, 11, 12, 13, 14, 15, 85]) (by kernel_rfl) (by kernel_rfl) fun R vs k x h => by
    unfold brJn3_8 at h
    split at h
    · exact .inl ((evJn3_8 m R _ _ _ _ _ _ _ _ _ _ _ _ k).trans h)
    · exact .inr h

/-- hookflash/flashlaw2.PatternsShare -/
def Fn3 {R : Type} (m : Nat) : Abs.Rows → (Bool → Option R) → Option R := match m with
  | 0 => fun _ _ => none
  | m + 1 => fun r1 k =>
  Fn6 m r1 ((0 : Int)) (fun s126 i127 => Fn6 m r1 i127 (fun s128 i129 => Fn7 m s126 s128 (fun s372 b373 i374 => Fn8 m s126 (fun s383 i384 => Fn9 m s126 (fun i518 => Fn9 m s126 (fun i519 => Fn9 m s128 (fun i520 => Fn10 m ([[F.lit (Value.int IntKind.i64 i519)], [F.lit (Value.int IntKind.i64 i520)]]) (fun i534 => bif i534 == (0 : Int) then (Fn11 m s126 s128 (fun s629 b630 => Jn3_8 m (fun b665 s666 => k b665) false s126 s372 b373 i374 s383 i384 i518 i534 s629 b630 ({ data := #[] }))) else
  (Jn3_8 m (fun b667 s668 => k b667) false s126 s372 b373 i374 s383 i384 i518 i534 ({ data := #[] }) false ({ data := #[] }))))))))))
def brFn3 (m : Nat) (T : Tbl) (R : Type) (vs : List V) (k : V → List V → Option R) : Option R := match vs with
  | [V.f (F.lst [LT.int IntKind.i64] r1)] => Fn3 m r1 (fun b669 => k (V.f (F.lit (Value.bool b669))) [V.undef])
  | _ => T R 3 vs k
set_option maxRecDepth 100000 in
theorem evFn3 (m : Nat) (R : Type) (r1 : Abs.Rows) (k : V → List V → Option R) : runK Tryd.prog H (T33 m) (L29 m) 3 [V.f (F.lst [LT.int IntKind.i64] r1)] k = Fn3 (m + 1) r1 (fun b669 => k (V.f (F.lit (Value.bool b669))) [V.undef]) := by kernel_rfl
def T34 (m : Nat) : Tbl := addT 3 (brFn3 m (T33 m)) (T33 m)
theorem okT34 (m : Nat) : TblOk Tryd.prog (T34 m) := addT_ok (okT33 m) fun R vs k x h => by
  unfold brFn3 at h
  split at h
  · cases m with
    | zero => cases h
    | succ m => exact runK_some (okT33 m) hM (okL29 m) ((evFn3 m R _ k).trans h)
  · exact okT33 m R 3 _ k x h

end Go.Proofs.YtngjadgglbkjlaaDoor.Med
end
