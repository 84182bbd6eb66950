/- A part of the proofs of the seat Ytjhfbmhblpjigaa: no statement of the seat stands here. -/
import Derived.Test.YtjhfbmhblpjigaaProg
import Derived.KernelRfl
import Derived.Test.YtjhfbmhblpjigaaAbsC
section
set_option linter.unusedVariables false
set_option linter.unusedSimpArgs false
namespace Go.Proofs.Ytjhfbmhblpjigaa.Med
open Go Go.Abs
def H : Hints where
  mode := fun f j => match f, j with
    | 62, 0 => .own
    | _, _ => .bor
  mv := fun f t => match f, t with
    | 3, 2 => true
    | 4, 2 => true
    | 5, 2 => true
    | 6, 2 => true
    | 7, 2 => true
    | 8, 2 => true
    | 10, 2 => true
    | 11, 2 => true
    | 11, 3 => true
    | 12, 2 => true
    | 13, 2 => true
    | 14, 3 => true
    | 15, 3 => true
    | 16, 2 => true
    | 17, 4 => true
    | 18, 4 => true
    | 19, 0 => true
    | 20, 4 => true
    | 21, 6 => true
    | 22, 4 => true
    | 23, 2 => true
    | 23, 3 => true
    | 24, 4 => true
    | 25, 2 => true
    | 26, 2 => true
    | 27, 2 => true
    | 27, 3 => true
    | 28, 2 => true
    | 29, 2 => true
    | 30, 2 => true
    | 30, 3 => true
    | 31, 2 => true
    | 32, 2 => true
    | 33, 4 => true
    | 34, 6 => true
    | 34, 7 => true
    | 35, 2 => true
    | 36, 2 => true
    | 37, 6 => true
    | 38, 4 => true
    | 39, 4 => true
    | 40, 2 => true
    | 40, 3 => true
    | 41, 4 => true
    | 41, 5 => true
    | 42, 6 => true
    | 42, 7 => true
    | 43, 2 => true
    | 44, 4 => true
    | 45, 6 => true
    | 46, 4 => true
    | 47, 2 => true
    | 47, 3 => true
    | 48, 3 => true
    | 49, 2 => true
    | 50, 2 => true
    | 52, 2 => true
    | 53, 2 => true
    | 54, 4 => true
    | 54, 5 => true
    | 55, 4 => true
    | 55, 5 => true
    | 56, 2 => true
    | 56, 3 => true
    | 57, 2 => true
    | 59, 4 => true
    | 60, 6 => true
    | 61, 4 => true
    | 62, 6 => true
    | 63, 6 => true
    | 64, 2 => true
    | 65, 2 => true
    | 66, 2 => true
    | 67, 6 => true
    | 68, 2 => true
    | 69, 4 => true
    | 70, 2 => true
    | 71, 4 => true
    | 72, 4 => true
    | 73, 2 => true
    | 74, 4 => true
    | 75, 4 => true
    | 76, 2 => true
    | 77, 2 => true
    | 78, 2 => true
    | 79, 2 => true
    | 80, 2 => true
    | 81, 2 => true
    | 82, 4 => true
    | 83, 4 => true
    | 84, 4 => true
    | 85, 0 => true
    | 86, 0 => true
    | 87, 4 => true
    | 88, 4 => true
    | 89, 0 => true
    | 90, 0 => true
    | 91, 4 => true
    | 91, 5 => true
    | 92, 4 => true
    | 93, 4 => true
    | 94, 4 => true
    | 95, 6 => true
    | 96, 4 => true
    | 97, 4 => true
    | 98, 4 => true
    | 99, 4 => true
    | _, _ => false
  live := fun f i => match f, i with
    | 3, 7 => some [2, 4, 5, 6, 7, 8, 9, 20, 21, 23, 24, 31, 69]
    | 4, 5 => some [3, 4, 5, 6, 21, 28, 30, 31, 147]
    | 4, 14 => some [2, 5, 6, 28, 38, 147]
    | 4, 20 => some [5, 6, 9, 10, 11, 12, 28, 38, 70, 72, 73, 79, 80, 81, 147]
    | 4, 25 => some [2, 5, 6, 9, 10, 11, 12, 28, 38, 70, 72, 73, 89, 147]
    | 4, 28 => some [2, 6, 38, 147]
    | 4, 31 => some [2, 6, 15, 16, 38, 106, 108, 109, 111, 112, 113, 147]
    | 5, 4 => some [2, 4, 5, 6, 7, 8, 9, 15, 22, 26, 27, 65]
    | 5, 7 => some [2, 7, 8, 9, 10, 22, 26, 27, 53, 65]
    | 6, 5 => some [3, 4, 5, 24, 26, 27, 149]
    | 6, 13 => some [2, 3, 4, 5, 24, 34, 43, 149]
    | 6, 20 => some [2, 5, 7, 8, 9, 10, 11, 12, 13, 14, 15, 16, 17, 45, 55, 57, 58, 60, 63, 64, 66, 70, 71, 76, 149]
    | 6, 21 => some [2, 5, 7, 8, 9, 10, 11, 12, 13, 14, 15, 16, 17, 18, 45, 55, 57, 58, 60, 63, 64, 66, 70, 71, 76, 149]
    | 6, 22 => some [2, 5, 7, 8, 9, 10, 11, 12, 13, 14, 15, 16, 17, 18, 19, 45, 55, 57, 58, 60, 63, 64, 66, 70, 71, 76, 149]
    | 6, 25 => some [2, 5, 7, 9, 10, 11, 12, 13, 14, 15, 16, 17, 18, 19, 20, 45, 55, 57, 58, 60, 63, 64, 66, 70, 71, 76, 111, 149]
    | 6, 28 => some [2, 5, 11, 12, 13, 14, 15, 16, 17, 18, 19, 20, 21, 55, 57, 58, 60, 63, 64, 66, 70, 71, 76, 111, 117, 149]
    | 8, 4 => some [2, 4, 5, 6, 24, 101]
    | 8, 7 => some [2, 4, 5, 6, 7, 8, 11, 24, 31, 34, 35, 101]
    | 8, 10 => some [2, 6, 7, 8, 11, 12, 24, 31, 34, 35, 56, 59, 60, 101]
    | 8, 13 => some [2, 6, 24, 101]
    | 10, 3 => some [0, 2, 3, 6, 11, 18, 19, 20]
    | 11, 7 => some [1, 2, 3, 5, 33, 34]
    | 12, 1 => some [1, 2, 3, 31]
    | 13, 3 => some [1, 2, 3, 10, 53, 54]
    | 13, 5 => some [1, 3, 10, 27, 28, 29, 54]
    | 13, 10 => some [1, 3, 5, 6, 10, 27, 28, 29, 54]
    | 14, 3 => some [0, 2, 3, 41]
    | 15, 3 => some [0, 2, 3, 45]
    | 16, 1 => some [1, 2, 3, 31]
    | 17, 5 => some [0, 1, 4, 12, 13, 26, 27]
    | 22, 3 => some [0, 5, 8, 9, 34, 35]
    | 22, 8 => some [0, 5, 16, 24, 34, 35]
    | 23, 6 => some [2, 3, 4, 5, 45]
    | 23, 9 => some [4, 5, 6, 45]
    | 26, 3 => some [2, 3, 4, 32]
    | 26, 6 => some [3, 4, 5, 32]
    | 27, 7 => some [0, 5, 15, 16, 17, 18, 33]
    | 29, 5 => some [0, 2, 8, 9, 10, 18]
    | 30, 6 => some [0, 4, 12, 13, 14, 15, 27]
    | 33, 2 => some [0, 5, 9, 16, 56, 57]
    | 34, 7 => some [0, 1, 2, 6, 7, 9, 33, 125, 126, 127, 128]
    | 34, 11 => some [0, 1, 9, 10, 33, 36, 37, 38, 39, 126, 127, 128]
    | 34, 19 => some [0, 1, 9, 10, 12, 13, 33, 36, 37, 38, 39, 64, 65, 66, 67, 68, 126, 127, 128]
    | 34, 24 => some [0, 1, 9, 10, 12, 13, 15, 16, 33, 36, 37, 38, 39, 64, 65, 66, 67, 68, 90, 126, 127, 128]
    | 34, 29 => some [9, 10, 33, 36, 102, 103, 126, 127, 128]
    | 34, 33 => some [9, 10, 17, 33, 36, 102, 103, 114, 126, 127, 128]
    | 35, 2 => some [0, 2, 5, 6, 7, 15]
    | 36, 5 => some [0, 2, 9, 10, 11, 51]
    | 36, 16 => some [0, 2, 4, 9, 10, 11, 26, 51]
    | 37, 4 => some [0, 1, 7, 8, 18, 21, 22, 23, 24, 112, 113, 114]
    | 37, 12 => some [0, 1, 7, 8, 10, 11, 18, 21, 22, 23, 24, 49, 50, 51, 52, 53, 112, 113, 114]
    | 37, 17 => some [0, 1, 7, 8, 10, 11, 13, 14, 18, 21, 22, 23, 24, 49, 50, 51, 52, 53, 72, 112, 113, 114]
    | 37, 25 => some [7, 8, 18, 21, 88, 89, 112, 113, 114]
    | 37, 29 => some [7, 8, 15, 18, 21, 88, 89, 100, 112, 113, 114]
    | 38, 5 => some [0, 1, 4, 12, 13, 26, 27]
    | 40, 6 => some [0, 2, 3, 4, 17, 18, 19, 72]
    | 40, 18 => some [0, 8, 34, 35, 36, 37, 72]
    | 40, 23 => some [0, 8, 10, 34, 35, 36, 37, 39, 40, 41, 42, 43, 72]
    | 40, 31 => some [8, 34, 58, 59, 72]
    | 41, 10 => some [0, 1, 7, 20, 21, 22, 23, 38, 39]
    | 42, 7 => some [0, 1, 2, 6, 7, 9, 55, 59, 60, 61, 62]
    | 42, 11 => some [0, 1, 2, 9, 10, 27, 28, 60, 61, 62]
    | 42, 16 => some [0, 1, 2, 9, 10, 11, 27, 28, 55, 60, 61, 62]
    | 43, 3 => some [0, 3, 9, 10, 11, 54]
    | 43, 7 => some [0, 3, 5, 9, 10, 11, 13, 14, 54]
    | 43, 12 => some [0, 3, 5, 9, 10, 11, 13, 14, 22, 23, 24, 25, 54]
    | 43, 20 => some [3, 22, 40, 41, 54]
    | 44, 3 => some [0, 1, 5, 8, 9, 10, 24, 25]
    | 45, 4 => some [0, 1, 2, 7, 8, 12, 13, 45, 46, 47]
    | 45, 9 => some [0, 1, 2, 7, 8, 9, 12, 13, 40, 45, 46, 47]
    | 46, 5 => some [0, 1, 4, 12, 13, 26, 27]
    | 48, 13 => some [0, 2, 5, 6, 7, 8, 9, 25, 32, 33, 34, 35, 123]
    | 48, 19 => some [0, 2, 5, 6, 7, 8, 9, 11, 25, 32, 33, 34, 35, 123]
    | 48, 26 => some [0, 2, 5, 12, 123]
    | 49, 5 => some [0, 2, 9, 10, 11, 49]
    | 49, 18 => some [0, 2, 4, 9, 10, 11, 49]
    | 50, 4 => some [0, 3, 4, 13, 14, 15, 88]
    | 50, 13 => some [0, 3, 4, 5, 7, 13, 14, 15, 39, 40, 41, 88]
    | 50, 20 => some [0, 3, 4, 5, 7, 13, 14, 15, 85, 88]
    | 51, 7 => some [0, 2, 3, 4, 10, 22, 23, 24, 112]
    | 51, 17 => some [0, 2, 4, 7, 112]
    | 53, 3 => some [0, 3, 13, 14, 84]
    | 53, 13 => some [0, 3, 6, 7, 13, 14, 68, 69, 84]
    | 54, 10 => some [7, 25, 32, 33, 34, 48, 49]
    | 55, 7 => some [7, 8, 20, 27, 29, 30, 45, 46]
    | 56, 8 => some [0, 5, 6, 7, 8, 71]
    | 56, 16 => some [0, 5, 6, 7, 8, 14, 68, 71]
    | 56, 18 => some [0, 5, 6, 7, 8, 14, 68, 71]
    | 57, 2 => some [0, 3, 82]
    | 57, 6 => some [0, 3, 4, 5, 27, 30, 38, 82]
    | 57, 11 => some [3, 6, 7, 30, 38, 82]
    | 57, 15 => some [3, 6, 7, 8, 30, 38, 82]
    | 57, 19 => some [3, 6, 7, 8, 30, 38, 71, 82]
    | 58, 3 => some [0, 2, 3, 20, 21, 33]
    | 61, 3 => some [0, 4, 5, 8, 10, 11, 64, 65]
    | 62, 2 => some [0, 1, 7, 23, 24, 25]
    | 64, 3 => some [0, 3, 6, 7, 8, 19]
    | 65, 3 => some [0, 3, 6, 7, 8, 19]
    | 71, 5 => some [0, 5, 6, 7, 8, 9, 25, 26, 128, 129]
    | 71, 10 => some [0, 5, 6, 7, 8, 9, 10, 25, 26, 35, 36, 128, 129]
    | 71, 17 => some [0, 5, 6, 7, 8, 9, 10, 25, 26, 66, 70, 83, 128, 129]
    | 71, 20 => some [0, 5, 6, 7, 8, 9, 25, 26, 66, 83, 125, 128, 129]
    | 71, 21 => some [0, 5, 6, 7, 8, 9, 25, 26, 66, 83, 113, 125, 128, 129]
    | 78, 4 => some [0, 3, 4, 8, 9, 10, 35]
    | 78, 10 => some [0, 3, 4, 7, 8, 9, 10, 32, 35]
    | 80, 2 => some [0, 2, 25]
    | 80, 5 => some [0, 3, 4, 25]
    | 81, 2 => some [0, 2, 25]
    | 81, 5 => some [0, 3, 4, 25]
    | 83, 2 => some [0, 1, 4, 7, 8, 19, 20]
    | 84, 3 => some [0, 5, 8, 10, 11, 43, 44]
    | 88, 3 => some [0, 5, 7, 8, 43, 44]
    | 91, 4 => some [0, 1, 6, 7, 12, 13, 14, 62, 63]
    | 91, 13 => some [4, 5, 6, 7, 24, 36, 37, 38, 62, 63]
    | 92, 3 => some [0, 1, 5, 11, 12, 13, 56, 57]
    | 92, 11 => some [4, 5, 8, 22, 28, 29, 30, 56, 57]
    | 94, 2 => some [0, 1, 4, 7, 8, 19, 20]
    | 96, 2 => some [0, 1, 4, 7, 8, 19, 20]
    | 98, 3 => some [0, 1, 5, 6, 10, 11, 12, 42, 43]
    | 99, 3 => some [0, 1, 5, 6, 9, 10, 11, 40, 41]
    | _, _ => none
  len := fun f => match f with
    | 3 => 70
    | 4 => 148
    | 5 => 66
    | 6 => 150
    | 7 => 76
    | 8 => 102
    | 9 => 37
    | 10 => 21
    | 11 => 35
    | 12 => 32
    | 13 => 55
    | 14 => 42
    | 15 => 46
    | 16 => 32
    | 17 => 28
    | 18 => 40
    | 19 => 3
    | 20 => 14
    | 21 => 22
    | 22 => 36
    | 23 => 46
    | 24 => 9
    | 25 => 6
    | 26 => 33
    | 27 => 34
    | 28 => 9
    | 29 => 19
    | 30 => 28
    | 31 => 25
    | 32 => 32
    | 33 => 58
    | 34 => 129
    | 35 => 16
    | 36 => 52
    | 37 => 115
    | 38 => 28
    | 39 => 11
    | 40 => 73
    | 41 => 40
    | 42 => 63
    | 43 => 55
    | 44 => 26
    | 45 => 48
    | 46 => 28
    | 47 => 13
    | 48 => 124
    | 49 => 50
    | 50 => 89
    | 51 => 113
    | 52 => 7
    | 53 => 85
    | 54 => 50
    | 55 => 47
    | 56 => 72
    | 57 => 83
    | 58 => 34
    | 59 => 66
    | 60 => 25
    | 61 => 66
    | 62 => 26
    | 63 => 18
    | 64 => 20
    | 65 => 20
    | 66 => 9
    | 67 => 18
    | 68 => 6
    | 69 => 11
    | 70 => 7
    | 71 => 130
    | 72 => 17
    | 73 => 6
    | 74 => 14
    | 75 => 18
    | 76 => 7
    | 77 => 7
    | 78 => 36
    | 79 => 10
    | 80 => 26
    | 81 => 26
    | 82 => 11
    | 83 => 21
    | 84 => 45
    | 85 => 2
    | 86 => 2
    | 87 => 10
    | 88 => 45
    | 89 => 2
    | 90 => 2
    | 91 => 64
    | 92 => 58
    | 93 => 18
    | 94 => 21
    | 95 => 27
    | 96 => 21
    | 97 => 10
    | 98 => 44
    | 99 => 42
    | _ => 0

end Go.Proofs.Ytjhfbmhblpjigaa.Med
end
section
set_option linter.unusedVariables false
set_option linter.unusedSimpArgs false
namespace Go.Proofs.Ytjhfbmhblpjigaa.Med
open Go Go.Abs Go.Proofs
set_option linter.unusedVariables false
theorem hM : Try.prog.follows .mixedOrders = true := by kernel_rfl
section
set_option maxRecDepth 100000
theorem cl66a (cap : Nat) (R : Type) (k : V → List V → Option R) : runK Try.prog H noT noL 66 [.f (.lit (.slice none 0 cap))] k = k (.own [.int .u8] []) [.undef] := by kernel_rfl
theorem cl66b (a : Addr) (cap : Nat) (R : Type) (k : V → List V → Option R) : runK Try.prog H noT noL 66 [.f (.lit (.slice (some a) 0 cap))] k = k (.own [.int .u8] []) [.undef] := by kernel_rfl
theorem cl66c (r : List F) (rs : Abs.Rows) (R : Type) (k : V → List V → Option R) : runK Try.prog H noT noL 66 [.bor [.int .u8] (r :: rs)] k = bif decide (0 + (r :: rs).length ≤ rowMax) then k (.own [.int .u8] (r :: rs)) [.undef] else none := by kernel_rfl
end
theorem clone66 (rows : Abs.Rows) (h : lenOk rows = true) : FnOk Try.prog 66 [.bor [.int .u8] rows] (.own [.int .u8] rows) [.undef] := by
  refine clone_ok (fun cap => fnOk_runK (tbl := noT) (lt := noL) (H := H) noT_ok hM noL_ok (cl66a cap)) (fun a cap => fnOk_runK (tbl := noT) (lt := noL) (H := H) noT_ok hM noL_ok (cl66b a cap)) (fun r rs hl => fnOk_runK (tbl := noT) (lt := noL) (H := H) noT_ok hM noL_ok fun R k => ?_) rows h
  rw [cl66c r rs R k, show decide (0 + (r :: rs).length ≤ rowMax) = true from by rw [Nat.zero_add]; exact hl]
  rfl
theorem idx100 (s : ByteArray) (c : Int) : FnOk Try.prog 100 [.f (.lit (.string s)), .f (.lit (.int .u8 c))] (vInt .i64 (idxByte s c)) [.undef, .undef] :=
  idx_ok (fn := Try.f100) Try.func100 (by kernel_rfl) (by kernel_rfl) (by kernel_rfl) (by kernel_rfl) s c
def T0 (_ : Nat) : Tbl := addT 100 (brIdx 100 (addT 66 (brClone [.int .u8] 66 noT) noT)) (addT 66 (brClone [.int .u8] 66 noT) noT)
def L0 (_ : Nat) : LTbl := noL
theorem okT0 (m : Nat) : TblOk Try.prog (T0 m) := brIdx_ok (brClone_ok noT_ok clone66) idx100
theorem okL0 (m : Nat) : LTOk Try.prog H (L0 m) := noL_ok
/-- hookflash/flashmake.Below -/
def Fn93 {R : Type} (m : Nat) : Int → Int → (Int → Option R) → Option R := match m with
  | 0 => fun _ _ _ => none
  | m + 1 => fun i14 i15 k =>
  bif decide (i15 < (1 : Int)) then (k ((0 : Int))) else
  (bif decide (i15 ≠ (0 : Int)) then (bif decide (Int.tmod i14 i15 < (0 : Int)) then (k (IntKind.wrap IntKind.i64 (Int.tmod i14 i15 + i15))) else
  (k (Int.tmod i14 i15))) else
  (none))
def brFn93 (m : Nat) (T : Tbl) (R : Type) (vs : List V) (k : V → List V → Option R) : Option R := match vs with
  | [V.f (F.lit (Value.int IntKind.i64 i14)), V.f (F.lit (Value.int IntKind.i64 i15))] => Fn93 m i14 i15 (fun i16 => k (V.f (F.lit (Value.int IntKind.i64 i16))) [V.undef, V.undef])
  | _ => T R 93 vs k
set_option maxRecDepth 100000 in
theorem evFn93 (m : Nat) (R : Type) (i14 : Int) (i15 : Int) (k : V → List V → Option R) : runK Try.prog H (T0 m) (L0 m) 93 [V.f (F.lit (Value.int IntKind.i64 i14)), V.f (F.lit (Value.int IntKind.i64 i15))] k = Fn93 (m + 1) i14 i15 (fun i16 => k (V.f (F.lit (Value.int IntKind.i64 i16))) [V.undef, V.undef]) := by kernel_rfl
def T1 (m : Nat) : Tbl := addT 93 (brFn93 m (T0 m)) (T0 m)
theorem okT1 (m : Nat) : TblOk Try.prog (T1 m) := addT_ok (okT0 m) fun R vs k x h => by
  unfold brFn93 at h
  split at h
  · cases m with
    | zero => cases h
    | succ m => exact runK_some (okT0 m) hM (okL0 m) ((evFn93 m R _ _ k).trans h)
  · exact okT0 m R 93 _ k x h

/-- (*hookflash/flashmake.Stream).Next -/
def Fn59 {R : Type} (m : Nat) : Abs.Rows → Int → Int → (Int → Int → Option R) → Option R := match m with
  | 0 => fun _ _ _ _ => none
  | m + 1 => fun r11 i12 i13 k =>
  bif (↑(List.length r11) : Int) == (0 : Int) then (Fn93 m (IntKind.wrap IntKind.i64 (IntKind.wrap IntKind.i64 (i12 + (1 : Int)) * (7919 : Int))) i13 (fun i17 => k i17 (IntKind.wrap IntKind.i64 (i12 + (1 : Int))))) else
  (bif decide ((↑(List.length r11) : Int) ≠ (0 : Int)) then (bif decide ((↑(List.length r11) : Int) ≠ (0 : Int)) then (bif decide ((0 : Int) ≤ Int.tmod (IntKind.wrap IntKind.i64 (IntKind.wrap IntKind.i64 (i12 + (1 : Int)) - (1 : Int))) (↑(List.length r11) : Int) ∧ Int.tmod (IntKind.wrap IntKind.i64 (IntKind.wrap IntKind.i64 (i12 + (1 : Int)) - (1 : Int))) (↑(List.length r11) : Int) < (↑(List.length r11) : Int)) then (Fn93 m (fI r11 (Int.toNat (Int.tmod (IntKind.wrap IntKind.i64 (IntKind.wrap IntKind.i64 (i12 + (1 : Int)) - (1 : Int))) (↑(List.length r11) : Int))) (0 : Nat)) ((1073741824 : Int)) (fun i18 => Fn93 m (IntKind.wrap IntKind.i64 (i18 + IntKind.wrap IntKind.i64 (IntKind.wrap IntKind.i64 (Int.tdiv (IntKind.wrap IntKind.i64 (IntKind.wrap IntKind.i64 (i12 + (1 : Int)) - (1 : Int))) (↑(List.length r11) : Int)) * IntKind.wrap IntKind.i64 ((7919 : Int) + Int.tmod (IntKind.wrap IntKind.i64 (IntKind.wrap IntKind.i64 (i12 + (1 : Int)) - (1 : Int))) (↑(List.length r11) : Int))))) i13 (fun i19 => letV (IntKind.wrap IntKind.i64 (i18 + IntKind.wrap IntKind.i64 (IntKind.wrap IntKind.i64 (Int.tdiv (IntKind.wrap IntKind.i64 (IntKind.wrap IntKind.i64 (i12 + (1 : Int)) - (1 : Int))) (↑(List.length r11) : Int)) * IntKind.wrap IntKind.i64 ((7919 : Int) + Int.tmod (IntKind.wrap IntKind.i64 (IntKind.wrap IntKind.i64 (i12 + (1 : Int)) - (1 : Int))) (↑(List.length r11) : Int))))) (fun i20 => letV (IntKind.wrap IntKind.i64 (IntKind.wrap IntKind.i64 (Int.tdiv (IntKind.wrap IntKind.i64 (IntKind.wrap IntKind.i64 (i12 + (1 : Int)) - (1 : Int))) (↑(List.length r11) : Int)) * IntKind.wrap IntKind.i64 ((7919 : Int) + Int.tmod (IntKind.wrap IntKind.i64 (IntKind.wrap IntKind.i64 (i12 + (1 : Int)) - (1 : Int))) (↑(List.length r11) : Int)))) (fun i21 => k i19 (IntKind.wrap IntKind.i64 (i12 + (1 : Int)))))))) else
  (none)) else
  (none)) else
  (none))
def brFn59 (m : Nat) (T : Tbl) (R : Type) (vs : List V) (k : V → List V → Option R) : Option R := match vs with
  | [V.obj [V.f (F.lst [LT.int IntKind.i64] r11), V.f (F.lit (Value.int IntKind.i64 i12))], V.f (F.lit (Value.int IntKind.i64 i13))] => Fn59 m r11 i12 i13 (fun i22 i23 => k (V.f (F.lit (Value.int IntKind.i64 i22))) [V.obj [V.f (F.lst [LT.int IntKind.i64] r11), V.f (F.lit (Value.int IntKind.i64 i23))], V.undef])
  | _ => T R 59 vs k
set_option maxRecDepth 100000 in
theorem evFn59 (m : Nat) (R : Type) (r11 : Abs.Rows) (i12 : Int) (i13 : Int) (k : V → List V → Option R) : runK Try.prog H (T1 m) (L0 m) 59 [V.obj [V.f (F.lst [LT.int IntKind.i64] r11), V.f (F.lit (Value.int IntKind.i64 i12))], V.f (F.lit (Value.int IntKind.i64 i13))] k = Fn59 (m + 1) r11 i12 i13 (fun i22 i23 => k (V.f (F.lit (Value.int IntKind.i64 i22))) [V.obj [V.f (F.lst [LT.int IntKind.i64] r11), V.f (F.lit (Value.int IntKind.i64 i23))], V.undef]) := by kernel_rfl
def T2 (m : Nat) : Tbl := addT 59 (brFn59 m (T1 m)) (T1 m)
theorem okT2 (m : Nat) : TblOk Try.prog (T2 m) := addT_ok (okT1 m) fun R vs k x h => by
  unfold brFn59 at h
  split at h
  · cases m with
    | zero => cases h
    | succ m => exact runK_some (okT1 m) hM (okL0 m) ((evFn59 m R _ _ _ k).trans h)
  · exact okT1 m R 59 _ k x h

/-- (*hookflash/flashmake.Stream).Pick -/
def Fn20 {R : Type} (m : Nat) : Abs.Rows → Int → Abs.Rows → (Int → Int → Option R) → Option R := match m with
  | 0 => fun _ _ _ _ => none
  | m + 1 => fun r8 i9 r10 k =>
  Fn59 m r8 i9 ((↑(List.length r10) : Int)) (fun i24 i25 => bif decide ((0 : Int) ≤ i24 ∧ i24 < (↑(List.length r10) : Int)) then (k (fI r10 (Int.toNat i24) (0 : Nat)) i25) else
  (none))
def brFn20 (m : Nat) (T : Tbl) (R : Type) (vs : List V) (k : V → List V → Option R) : Option R := match vs with
  | [V.obj [V.f (F.lst [LT.int IntKind.i64] r8), V.f (F.lit (Value.int IntKind.i64 i9))], V.bor [LT.int IntKind.i64] r10] => Fn20 m r8 i9 r10 (fun i26 i27 => k (V.f (F.lit (Value.int IntKind.i64 i26))) [V.obj [V.f (F.lst [LT.int IntKind.i64] r8), V.f (F.lit (Value.int IntKind.i64 i27))], V.undef])
  | _ => T R 20 vs k
set_option maxRecDepth 100000 in
theorem evFn20 (m : Nat) (R : Type) (r8 : Abs.Rows) (i9 : Int) (r10 : Abs.Rows) (k : V → List V → Option R) : runK Try.prog H (T2 m) (L0 m) 20 [V.obj [V.f (F.lst [LT.int IntKind.i64] r8), V.f (F.lit (Value.int IntKind.i64 i9))], V.bor [LT.int IntKind.i64] r10] k = Fn20 (m + 1) r8 i9 r10 (fun i26 i27 => k (V.f (F.lit (Value.int IntKind.i64 i26))) [V.obj [V.f (F.lst [LT.int IntKind.i64] r8), V.f (F.lit (Value.int IntKind.i64 i27))], V.undef]) := by kernel_rfl
def T3 (m : Nat) : Tbl := addT 20 (brFn20 m (T2 m)) (T2 m)
theorem okT3 (m : Nat) : TblOk Try.prog (T3 m) := addT_ok (okT2 m) fun R vs k x h => by
  unfold brFn20 at h
  split at h
  · cases m with
    | zero => cases h
    | succ m => exact runK_some (okT2 m) hM (okL0 m) ((evFn20 m R _ _ _ k).trans h)
  · exact okT2 m R 20 _ k x h

/-- (*hookflash/flashmake.Stream).Range -/
def Fn21 {R : Type} (m : Nat) : Abs.Rows → Int → Int → Int → (Int → Int → Option R) → Option R := match m with
  | 0 => fun _ _ _ _ _ => none
  | m + 1 => fun r32 i33 i34 i35 k =>
  bif decide (i35 < i34) then (k i34 i33) else
  (Fn59 m r32 i33 (IntKind.wrap IntKind.i64 (IntKind.wrap IntKind.i64 (i35 - i34) + (1 : Int))) (fun i36 i37 => k (IntKind.wrap IntKind.i64 (i34 + i36)) i37))
def brFn21 (m : Nat) (T : Tbl) (R : Type) (vs : List V) (k : V → List V → Option R) : Option R := match vs with
  | [V.obj [V.f (F.lst [LT.int IntKind.i64] r32), V.f (F.lit (Value.int IntKind.i64 i33))], V.f (F.lit (Value.int IntKind.i64 i34)), V.f (F.lit (Value.int IntKind.i64 i35))] => Fn21 m r32 i33 i34 i35 (fun i38 i39 => k (V.f (F.lit (Value.int IntKind.i64 i38))) [V.obj [V.f (F.lst [LT.int IntKind.i64] r32), V.f (F.lit (Value.int IntKind.i64 i39))], V.undef, V.undef])
  | _ => T R 21 vs k
set_option maxRecDepth 100000 in
theorem evFn21 (m : Nat) (R : Type) (r32 : Abs.Rows) (i33 : Int) (i34 : Int) (i35 : Int) (k : V → List V → Option R) : runK Try.prog H (T3 m) (L0 m) 21 [V.obj [V.f (F.lst [LT.int IntKind.i64] r32), V.f (F.lit (Value.int IntKind.i64 i33))], V.f (F.lit (Value.int IntKind.i64 i34)), V.f (F.lit (Value.int IntKind.i64 i35))] k = Fn21 (m + 1) r32 i33 i34 i35 (fun i38 i39 => k (V.f (F.lit (Value.int IntKind.i64 i38))) [V.obj [V.f (F.lst [LT.int IntKind.i64] r32), V.f (F.lit (Value.int IntKind.i64 i39))], V.undef, V.undef]) := by kernel_rfl
def T4 (m : Nat) : Tbl := addT 21 (brFn21 m (T3 m)) (T3 m)
theorem okT4 (m : Nat) : TblOk Try.prog (T4 m) := addT_ok (okT3 m) fun R vs k x h => by
  unfold brFn21 at h
  split at h
  · cases m with
    | zero => cases h
    | succ m => exact runK_some (okT3 m) hM (okL0 m) ((evFn21 m R _ _ _ _ k).trans h)
  · exact okT3 m R 21 _ k x h

/-- a round of a loop of (*hookflash/flashmake.Stream).RightArrivals -/
def Lp71_10_step {R : Type} (m : Nat) (kx0 : Abs.Rows → Int → Int → Option R) (r57 : Abs.Rows) (i58 : Int) (i59 : Int) (i60 : Int) (i61 : Int) (i62 : Int) (i63 : Int) (i64 : Int) (i65 : Int) (b66 : Bool) (i68 : Int) (i69 : Int) (i70 : Int) (r72 : Abs.Rows) (REC : Abs.Rows → Int → Int → Option R) (r67 : Abs.Rows) (i71 : Int) (i73 : Int) : Option R :=
  bif decide (i71 < i70) then (Fn21 m r72 i73 ((0 : Int)) ((255 : Int)) (fun i74 i75 => bif decide (List.length r67 + List.length [[F.lit (Value.int IntKind.u8 (IntKind.wrap IntKind.u8 i74))]] ≤ rowMax) then (letV (r67 ++ [[F.lit (Value.int IntKind.u8 (IntKind.wrap IntKind.u8 i74))]]) (fun r76 => REC r76 (IntKind.wrap IntKind.i64 (i71 + (1 : Int))) i75)) else
  (none))) else
  (kx0 r67 i71 i73)
def Lp71_10 {R : Type} (m : Nat) (kx0 : Abs.Rows → Int → Int → Option R) (r57 : Abs.Rows) (i58 : Int) (i59 : Int) (i60 : Int) (i61 : Int) (i62 : Int) (i63 : Int) (i64 : Int) (i65 : Int) (b66 : Bool) (i68 : Int) (i69 : Int) (i70 : Int) (r72 : Abs.Rows) : Nat → Abs.Rows → Int → Int → Option R
  | 0, _, _, _ => none
  | n + 1, r67, i71, i73 => Lp71_10_step m kx0 r57 i58 i59 i60 i61 i62 i63 i64 i65 b66 i68 i69 i70 r72 (Lp71_10 m kx0 r57 i58 i59 i60 i61 i62 i63 i64 i65 b66 i68 i69 i70 r72 n) r67 i71 i73
def ELp71_10 (m : Nat) (R : Type) : Nat → List V → (Ex → List V → Option R) → Option R
  | 0, _, _ => none
  | n + 1, vs, k => match vs with
    | [V.ref (128 : Nat) (0 : Nat), V.own [LT.int IntKind.i64, LT.int IntKind.i64, LT.int IntKind.i64, LT.int IntKind.i64, LT.int IntKind.i64, LT.bool, LT.lst [LT.int IntKind.u8]] r57, V.f (F.lit (Value.int IntKind.i64 i58)), V.f (F.lit (Value.int IntKind.i64 i59)), V.f (F.lit (Value.int IntKind.i64 i60)), V.f (F.lit (Value.int IntKind.i64 i61)), V.obj [V.f (F.lit (Value.int IntKind.i64 i62)), V.f (F.lit (Value.int IntKind.i64 i63)), V.f (F.lit (Value.int IntKind.i64 i64)), V.f (F.lit (Value.int IntKind.i64 i65)), V.f (F.lit (Value.bool b66)), V.own [LT.int IntKind.u8] r67], V.f (F.lit (Value.int IntKind.i64 i68)), V.f (F.lit (Value.int IntKind.i64 i69)), V.f (F.lit (Value.int IntKind.i64 i70)), V.f (F.lit (Value.int IntKind.i64 i71)), V.obj [V.f (F.lst [LT.int IntKind.i64] r72), V.f (F.lit (Value.int IntKind.i64 i73))], V.undef] => Lp71_10_step m (fun r77 i78 i79 => k (Ex.exit (2 : Nat)) [V.ref (128 : Nat) (0 : Nat), V.own [LT.int IntKind.i64, LT.int IntKind.i64, LT.int IntKind.i64, LT.int IntKind.i64, LT.int IntKind.i64, LT.bool, LT.lst [LT.int IntKind.u8]] r57, V.f (F.lit (Value.int IntKind.i64 i58)), V.f (F.lit (Value.int IntKind.i64 i59)), V.f (F.lit (Value.int IntKind.i64 i60)), V.f (F.lit (Value.int IntKind.i64 i61)), V.obj [V.f (F.lit (Value.int IntKind.i64 i62)), V.f (F.lit (Value.int IntKind.i64 i63)), V.f (F.lit (Value.int IntKind.i64 i64)), V.f (F.lit (Value.int IntKind.i64 i65)), V.f (F.lit (Value.bool b66)), V.own [LT.int IntKind.u8] r77], V.f (F.lit (Value.int IntKind.i64 i68)), V.f (F.lit (Value.int IntKind.i64 i69)), V.f (F.lit (Value.int IntKind.i64 i70)), V.f (F.lit (Value.int IntKind.i64 i78)), V.obj [V.f (F.lst [LT.int IntKind.i64] r72), V.f (F.lit (Value.int IntKind.i64 i79))], V.undef]) r57 i58 i59 i60 i61 i62 i63 i64 i65 b66 i68 i69 i70 r72 (fun r67 i71 i73 => ELp71_10 m R n [V.ref (128 : Nat) (0 : Nat), V.own [LT.int IntKind.i64, LT.int IntKind.i64, LT.int IntKind.i64, LT.int IntKind.i64, LT.int IntKind.i64, LT.bool, LT.lst [LT.int IntKind.u8]] r57, V.f (F.lit (Value.int IntKind.i64 i58)), V.f (F.lit (Value.int IntKind.i64 i59)), V.f (F.lit (Value.int IntKind.i64 i60)), V.f (F.lit (Value.int IntKind.i64 i61)), V.obj [V.f (F.lit (Value.int IntKind.i64 i62)), V.f (F.lit (Value.int IntKind.i64 i63)), V.f (F.lit (Value.int IntKind.i64 i64)), V.f (F.lit (Value.int IntKind.i64 i65)), V.f (F.lit (Value.bool b66)), V.own [LT.int IntKind.u8] r67], V.f (F.lit (Value.int IntKind.i64 i68)), V.f (F.lit (Value.int IntKind.i64 i69)), V.f (F.lit (Value.int IntKind.i64 i70)), V.f (F.lit (Value.int IntKind.i64 i71)), V.obj [V.f (F.lst [LT.int IntKind.i64] r72), V.f (F.lit (Value.int IntKind.i64 i73))], V.undef] k) r67 i71 i73
    | _ => none
def brLp71_10 (m : Nat) (L : LTbl) (R : Type) (vs : List V) (k : Ex → List V → Option R) : Option R := match vs with
  | [V.ref (128 : Nat) (0 : Nat), V.own [LT.int IntKind.i64, LT.int IntKind.i64, LT.int IntKind.i64, LT.int IntKind.i64, LT.int IntKind.i64, LT.bool, LT.lst [LT.int IntKind.u8]] r57, V.f (F.lit (Value.int IntKind.i64 i58)), V.f (F.lit (Value.int IntKind.i64 i59)), V.f (F.lit (Value.int IntKind.i64 i60)), V.f (F.lit (Value.int IntKind.i64 i61)), V.obj [V.f (F.lit (Value.int IntKind.i64 i62)), V.f (F.lit (Value.int IntKind.i64 i63)), V.f (F.lit (Value.int IntKind.i64 i64)), V.f (F.lit (Value.int IntKind.i64 i65)), V.f (F.lit (Value.bool b66)), V.own [LT.int IntKind.u8] r67], V.f (F.lit (Value.int IntKind.i64 i68)), V.f (F.lit (Value.int IntKind.i64 i69)), V.f (F.lit (Value.int IntKind.i64 i70)), V.f (F.lit (Value.int IntKind.i64 i71)), V.obj [V.f (F.lst [LT.int IntKind.i64] r72), V.f (F.lit (Value.int IntKind.i64 i73))], V.undef] => Lp71_10 m (fun r77 i78 i79 => k (Ex.exit (2 : Nat)) [V.ref (128 : Nat) (0 : Nat), V.own [LT.int IntKind.i64, LT.int IntKind.i64, LT.int IntKind.i64, LT.int IntKind.i64, LT.int IntKind.i64, LT.bool, LT.lst [LT.int IntKind.u8]] r57, V.f (F.lit (Value.int IntKind.i64 i58)), V.f (F.lit (Value.int IntKind.i64 i59)), V.f (F.lit (Value.int IntKind.i64 i60)), V.f (F.lit (Value.int IntKind.i64 i61)), V.obj [V.f (F.lit (Value.int IntKind.i64 i62)), V.f (F.lit (Value.int IntKind.i64 i63)), V.f (F.lit (Value.int IntKind.i64 i64)), V.f (F.lit (Value.int IntKind.i64 i65)), V.f (F.lit (Value.bool b66)), V.own [LT.int IntKind.u8] r77], V.f (F.lit (Value.int IntKind.i64 i68)), V.f (F.lit (Value.int IntKind.i64 i69)), V.f (F.lit (Value.int IntKind.i64 i70)), V.f (F.lit (Value.int IntKind.i64 i78)), V.obj [V.f (F.lst [LT.int IntKind.i64] r72), V.f (F.lit (Value.int IntKind.i64 i79))], V.undef]) r57 i58 i59 i60 i61 i62 i63 i64 i65 b66 i68 i69 i70 r72 m r67 i71 i73
  | _ => L R 71 10 vs k
set_option maxRecDepth 100000 in
theorem stLp71_10 (m n : Nat) (R : Type) (r57 : Abs.Rows) (i58 : Int) (i59 : Int) (i60 : Int) (i61 : Int) (i62 : Int) (i63 : Int) (i64 : Int) (i65 : Int) (b66 : Bool) (r67 : Abs.Rows) (i68 : Int) (i69 : Int) (i70 : Int) (i71 : Int) (r72 : Abs.Rows) (i73 : Int) (k : Ex → List V → Option R) : codeK Try.prog H (T4 m) 71 (L0 m) 11 (loopBody Try.prog 71 10) (mkEnv [0, 5, 6, 7, 8, 9, 10, 25, 26, 35, 36, 128, 129] [V.ref (128 : Nat) (0 : Nat), V.own [LT.int IntKind.i64, LT.int IntKind.i64, LT.int IntKind.i64, LT.int IntKind.i64, LT.int IntKind.i64, LT.bool, LT.lst [LT.int IntKind.u8]] r57, V.f (F.lit (Value.int IntKind.i64 i58)), V.f (F.lit (Value.int IntKind.i64 i59)), V.f (F.lit (Value.int IntKind.i64 i60)), V.f (F.lit (Value.int IntKind.i64 i61)), V.obj [V.f (F.lit (Value.int IntKind.i64 i62)), V.f (F.lit (Value.int IntKind.i64 i63)), V.f (F.lit (Value.int IntKind.i64 i64)), V.f (F.lit (Value.int IntKind.i64 i65)), V.f (F.lit (Value.bool b66)), V.own [LT.int IntKind.u8] r67], V.f (F.lit (Value.int IntKind.i64 i68)), V.f (F.lit (Value.int IntKind.i64 i69)), V.f (F.lit (Value.int IntKind.i64 i70)), V.f (F.lit (Value.int IntKind.i64 i71)), V.obj [V.f (F.lst [LT.int IntKind.i64] r72), V.f (F.lit (Value.int IntKind.i64 i73))], V.undef] 0 (H.len 71)) (fun e env' => match e with | .normal => ELp71_10 m R n (vals [0, 5, 6, 7, 8, 9, 10, 25, 26, 35, 36, 128, 129] env') k | e => k e (vals [0, 5, 6, 7, 8, 9, 10, 25, 26, 35, 36, 128, 129] env')) = Lp71_10_step m (fun r77 i78 i79 => k (Ex.exit (2 : Nat)) [V.ref (128 : Nat) (0 : Nat), V.own [LT.int IntKind.i64, LT.int IntKind.i64, LT.int IntKind.i64, LT.int IntKind.i64, LT.int IntKind.i64, LT.bool, LT.lst [LT.int IntKind.u8]] r57, V.f (F.lit (Value.int IntKind.i64 i58)), V.f (F.lit (Value.int IntKind.i64 i59)), V.f (F.lit (Value.int IntKind.i64 i60)), V.f (F.lit (Value.int IntKind.i64 i61)), V.obj [V.f (F.lit (Value.int IntKind.i64 i62)), V.f (F.lit (Value.int IntKind.i64 i63)), V.f (F.lit (Value.int IntKind.i64 i64)), V.f (F.lit (Value.int IntKind.i64 i65)), V.f (F.lit (Value.bool b66)), V.own [LT.int IntKind.u8] r77], V.f (F.lit (Value.int IntKind.i64 i68)), V.f (F.lit (Value.int IntKind.i64 i69)), V.f (F.lit (Value.int IntKind.i64 i70)), V.f (F.lit (Value.int IntKind.i64 i78)), V.obj [V.f (F.lst [LT.int IntKind.i64] r72), V.f (F.lit (Value.int IntKind.i64 i79))], V.undef]) r57 i58 i59 i60 i61 i62 i63 i64 i65 b66 i68 i69 i70 r72 (fun r67 i71 i73 => ELp71_10 m R n [V.ref (128 : Nat) (0 : Nat), V.own [LT.int IntKind.i64, LT.int IntKind.i64, LT.int IntKind.i64, LT.int IntKind.i64, LT.int IntKind.i64, LT.bool, LT.lst [LT.int IntKind.u8]] r57, V.f (F.lit (Value.int IntKind.i64 i58)), V.f (F.lit (Value.int IntKind.i64 i59)), V.f (F.lit (Value.int IntKind.i64 i60)), V.f (F.lit (Value.int IntKind.i64 i61)), V.obj [V.f (F.lit (Value.int IntKind.i64 i62)), V.f (F.lit (Value.int IntKind.i64 i63)), V.f (F.lit (Value.int IntKind.i64 i64)), V.f (F.lit (Value.int IntKind.i64 i65)), V.f (F.lit (Value.bool b66)), V.own [LT.int IntKind.u8] r67], V.f (F.lit (Value.int IntKind.i64 i68)), V.f (F.lit (Value.int IntKind.i64 i69)), V.f (F.lit (Value.int IntKind.i64 i70)), V.f (F.lit (Value.int IntKind.i64 i71)), V.obj [V.f (F.lst [LT.int IntKind.i64] r72), V.f (F.lit (Value.int IntKind.i64 i73))], V.undef] k) r67 i71 i73 := by kernel_rfl
theorem eqLp71_10 (m : Nat) (R : Type) (r57 : Abs.Rows) (i58 : Int) (i59 : Int) (i60 : Int) (i61 : Int) (i62 : Int) (i63 : Int) (i64 : Int) (i65 : Int) (b66 : Bool) (i68 : Int) (i69 : Int) (i70 : Int) (r72 : Abs.Rows) (k : Ex → List V → Option R) : ∀ (n : Nat) (r67 : Abs.Rows) (i71 : Int) (i73 : Int), ELp71_10 m R n [V.ref (128 : Nat) (0 : Nat), V.own [LT.int IntKind.i64, LT.int IntKind.i64, LT.int IntKind.i64, LT.int IntKind.i64, LT.int IntKind.i64, LT.bool, LT.lst [LT.int IntKind.u8]] r57, V.f (F.lit (Value.int IntKind.i64 i58)), V.f (F.lit (Value.int IntKind.i64 i59)), V.f (F.lit (Value.int IntKind.i64 i60)), V.f (F.lit (Value.int IntKind.i64 i61)), V.obj [V.f (F.lit (Value.int IntKind.i64 i62)), V.f (F.lit (Value.int IntKind.i64 i63)), V.f (F.lit (Value.int IntKind.i64 i64)), V.f (F.lit (Value.int IntKind.i64 i65)), V.f (F.lit (Value.bool b66)), V.own [LT.int IntKind.u8] r67], V.f (F.lit (Value.int IntKind.i64 i68)), V.f (F.lit (Value.int IntKind.i64 i69)), V.f (F.lit (Value.int IntKind.i64 i70)), V.f (F.lit (Value.int IntKind.i64 i71)), V.obj [V.f (F.lst [LT.int IntKind.i64] r72), V.f (F.lit (Value.int IntKind.i64 i73))], V.undef] k = Lp71_10 m (fun r77 i78 i79 => k (Ex.exit (2 : Nat)) [V.ref (128 : Nat) (0 : Nat), V.own [LT.int IntKind.i64, LT.int IntKind.i64, LT.int IntKind.i64, LT.int IntKind.i64, LT.int IntKind.i64, LT.bool, LT.lst [LT.int IntKind.u8]] r57, V.f (F.lit (Value.int IntKind.i64 i58)), V.f (F.lit (Value.int IntKind.i64 i59)), V.f (F.lit (Value.int IntKind.i64 i60)), V.f (F.lit (Value.int IntKind.i64 i61)), V.obj [V.f (F.lit (Value.int IntKind.i64 i62)), V.f (F.lit (Value.int IntKind.i64 i63)), V.f (F.lit (Value.int IntKind.i64 i64)), V.f (F.lit (Value.int IntKind.i64 i65)), V.f (F.lit (Value.bool b66)), V.own [LT.int IntKind.u8] r77], V.f (F.lit (Value.int IntKind.i64 i68)), V.f (F.lit (Value.int IntKind.i64 i69)), V.f (F.lit (Value.int IntKind.i64 i70)), V.f (F.lit (Value.int IntKind.i64 i78)), V.obj [V.f (F.lst [LT.int IntKind.i64] r72), V.f (F.lit (Value.int IntKind.i64 i79))], V.undef]) r57 i58 i59 i60 i61 i62 i63 i64 i65 b66 i68 i69 i70 r72 n r67 i71 i73
  | 0, _, _, _ => rfl
  | n + 1, r67, i71, i73 => by
    simp only [ELp71_10, Lp71_10]
    congr 1
    funext r67 i71 i73
    exact eqLp71_10 m R r57 i58 i59 i60 i61 i62 i63 i64 i65 b66 i68 i69 i70 r72 k n r67 i71 i73
def L1 (m : Nat) : LTbl := addB 71 10 (brLp71_10 m (L0 m)) (L0 m)
theorem okL1 (m : Nat) : LTOk Try.prog H (L1 m) := addB_ok (okT4 m) hM (okL0 m) (l := [0, 5, 6, 7, 8, 9, 10, 25, 26, 35, 36, 128, 129]) (by kernel_rfl) (by kernel_rfl) m (fun R n vs k => ELp71_10 m R n vs k) (fun R vs k => rfl) (fun R n vs k x h => by
      simp only [ELp71_10] at h
      split at h
      · exact (stLp71_10 m n R _ _ _ _ _ _ _ _ _ _ _ _ _ _ _ _ _ k).trans h
      · cases h) fun R vs k x h => by
    unfold brLp71_10 at h
    split at h
    · exact .inl ((eqLp71_10 m R _ _ _ _ _ _ _ _ _ _ _ _ _ _ k m _ _ _).trans h)
    · exact .inr h

/-- (*hookflash/flashmake.Stream).Flip -/
def Fn39 {R : Type} (m : Nat) : Abs.Rows → Int → Int → (Bool → Int → Option R) → Option R := match m with
  | 0 => fun _ _ _ _ => none
  | m + 1 => fun r85 i86 i87 k =>
  Fn59 m r85 i86 i87 (fun i88 i89 => k (i88 == (0 : Int)) i89)
def brFn39 (m : Nat) (T : Tbl) (R : Type) (vs : List V) (k : V → List V → Option R) : Option R := match vs with
  | [V.obj [V.f (F.lst [LT.int IntKind.i64] r85), V.f (F.lit (Value.int IntKind.i64 i86))], V.f (F.lit (Value.int IntKind.i64 i87))] => Fn39 m r85 i86 i87 (fun b90 i91 => k (V.f (F.lit (Value.bool b90))) [V.obj [V.f (F.lst [LT.int IntKind.i64] r85), V.f (F.lit (Value.int IntKind.i64 i91))], V.undef])
  | _ => T R 39 vs k
set_option maxRecDepth 100000 in
theorem evFn39 (m : Nat) (R : Type) (r85 : Abs.Rows) (i86 : Int) (i87 : Int) (k : V → List V → Option R) : runK Try.prog H (T4 m) (L1 m) 39 [V.obj [V.f (F.lst [LT.int IntKind.i64] r85), V.f (F.lit (Value.int IntKind.i64 i86))], V.f (F.lit (Value.int IntKind.i64 i87))] k = Fn39 (m + 1) r85 i86 i87 (fun b90 i91 => k (V.f (F.lit (Value.bool b90))) [V.obj [V.f (F.lst [LT.int IntKind.i64] r85), V.f (F.lit (Value.int IntKind.i64 i91))], V.undef]) := by kernel_rfl
def T5 (m : Nat) : Tbl := addT 39 (brFn39 m (T4 m)) (T4 m)
theorem okT5 (m : Nat) : TblOk Try.prog (T5 m) := addT_ok (okT4 m) fun R vs k x h => by
  unfold brFn39 at h
  split at h
  · cases m with
    | zero => cases h
    | succ m => exact runK_some (okT4 m) hM (okL1 m) ((evFn39 m R _ _ _ k).trans h)
  · exact okT4 m R 39 _ k x h

/-- a rest of (*hookflash/flashmake.Stream).RightArrivals -/
def Jn71_21 {R : Type} (m : Nat) (kx0 : Abs.Rows → Bool → Option R) (r105 : Abs.Rows) (i106 : Int) (i107 : Int) (i108 : Int) (i109 : Int) (i110 : Int) (i111 : Int) (b112 : Bool) (r113 : Abs.Rows) (i114 : Int) : Option R :=
  bif b112 then (bif decide ((0 : Int) ≤ IntKind.wrap IntKind.i64 ((↑(List.length r105) : Int) - (1 : Int)) ∧ IntKind.wrap IntKind.i64 ((↑(List.length r105) : Int) - (1 : Int)) < (↑(List.length r105) : Int)) then (bif decide (List.length r105 + List.length [[F.lit (Value.int IntKind.i64 i108), F.lit (Value.int IntKind.i64 (fI r105 (Int.toNat (IntKind.wrap IntKind.i64 ((↑(List.length r105) : Int) - (1 : Int)))) (1 : Nat))), F.lit (Value.int IntKind.i64 (fI r105 (Int.toNat (IntKind.wrap IntKind.i64 ((↑(List.length r105) : Int) - (1 : Int)))) (2 : Nat))), F.lit (Value.int IntKind.i64 (fI r105 (Int.toNat (IntKind.wrap IntKind.i64 ((↑(List.length r105) : Int) - (1 : Int)))) (3 : Nat))), F.lit (Value.int IntKind.i64 (fI r105 (Int.toNat (IntKind.wrap IntKind.i64 ((↑(List.length r105) : Int) - (1 : Int)))) (4 : Nat))), F.lit (Value.bool (fB r105 (Int.toNat (IntKind.wrap IntKind.i64 ((↑(List.length r105) : Int) - (1 : Int)))) (5 : Nat))), F.lst [LT.int IntKind.u8] (fR r105 (Int.toNat (IntKind.wrap IntKind.i64 ((↑(List.length r105) : Int) - (1 : Int)))) (6 : Nat))]] ≤ rowMax) then (letV (r105 ++ [[F.lit (Value.int IntKind.i64 i108), F.lit (Value.int IntKind.i64 (fI r105 (Int.toNat (IntKind.wrap IntKind.i64 ((↑(List.length r105) : Int) - (1 : Int)))) (1 : Nat))), F.lit (Value.int IntKind.i64 (fI r105 (Int.toNat (IntKind.wrap IntKind.i64 ((↑(List.length r105) : Int) - (1 : Int)))) (2 : Nat))), F.lit (Value.int IntKind.i64 (fI r105 (Int.toNat (IntKind.wrap IntKind.i64 ((↑(List.length r105) : Int) - (1 : Int)))) (3 : Nat))), F.lit (Value.int IntKind.i64 (fI r105 (Int.toNat (IntKind.wrap IntKind.i64 ((↑(List.length r105) : Int) - (1 : Int)))) (4 : Nat))), F.lit (Value.bool (fB r105 (Int.toNat (IntKind.wrap IntKind.i64 ((↑(List.length r105) : Int) - (1 : Int)))) (5 : Nat))), F.lst [LT.int IntKind.u8] (fR r105 (Int.toNat (IntKind.wrap IntKind.i64 ((↑(List.length r105) : Int) - (1 : Int)))) (6 : Nat))]]) (fun r115 => kx0 r115 true)) else
  (none)) else
  (none)) else
  (kx0 r105 false)
def brJn71_21 (m : Nat) (L : LTbl) (R : Type) (vs : List V) (k : Ex → List V → Option R) : Option R := match vs with
  | [V.ref (128 : Nat) (0 : Nat), V.own [LT.int IntKind.i64, LT.int IntKind.i64, LT.int IntKind.i64, LT.int IntKind.i64, LT.int IntKind.i64, LT.bool, LT.lst [LT.int IntKind.u8]] r105, V.f (F.lit (Value.int IntKind.i64 i106)), V.f (F.lit (Value.int IntKind.i64 i107)), V.f (F.lit (Value.int IntKind.i64 i108)), V.f (F.lit (Value.int IntKind.i64 i109)), V.f (F.lit (Value.int IntKind.i64 i110)), V.f (F.lit (Value.int IntKind.i64 i111)), V.undef, V.undef, V.f (F.lit (Value.bool b112)), V.undef, V.obj [V.f (F.lst [LT.int IntKind.i64] r113), V.f (F.lit (Value.int IntKind.i64 i114))], V.undef] => Jn71_21 m (fun r116 b117 => k Ex.normal [V.ref (128 : Nat) (0 : Nat), V.own [LT.int IntKind.i64, LT.int IntKind.i64, LT.int IntKind.i64, LT.int IntKind.i64, LT.int IntKind.i64, LT.bool, LT.lst [LT.int IntKind.u8]] r116, V.f (F.lit (Value.int IntKind.i64 i106)), V.f (F.lit (Value.int IntKind.i64 i107)), V.f (F.lit (Value.int IntKind.i64 i108)), V.f (F.lit (Value.int IntKind.i64 i109)), V.f (F.lit (Value.int IntKind.i64 i110)), V.f (F.lit (Value.int IntKind.i64 i111)), V.undef, V.undef, V.f (F.lit (Value.bool b117)), V.undef, V.obj [V.f (F.lst [LT.int IntKind.i64] r113), V.f (F.lit (Value.int IntKind.i64 i114))], V.undef]) r105 i106 i107 i108 i109 i110 i111 b112 r113 i114
  | _ => L R 71 21 vs k
set_option maxRecDepth 100000 in
theorem evJn71_21 (m : Nat) (R : Type) (r105 : Abs.Rows) (i106 : Int) (i107 : Int) (i108 : Int) (i109 : Int) (i110 : Int) (i111 : Int) (b112 : Bool) (r113 : Abs.Rows) (i114 : Int) (k : Ex → List V → Option R) : codeK Try.prog H (T5 m) 71 (L1 m) 22 (loopBody Try.prog 71 21) (mkEnv [0, 5, 6, 7, 8, 9, 25, 26, 66, 83, 113, 125, 128, 129] [V.ref (128 : Nat) (0 : Nat), V.own [LT.int IntKind.i64, LT.int IntKind.i64, LT.int IntKind.i64, LT.int IntKind.i64, LT.int IntKind.i64, LT.bool, LT.lst [LT.int IntKind.u8]] r105, V.f (F.lit (Value.int IntKind.i64 i106)), V.f (F.lit (Value.int IntKind.i64 i107)), V.f (F.lit (Value.int IntKind.i64 i108)), V.f (F.lit (Value.int IntKind.i64 i109)), V.f (F.lit (Value.int IntKind.i64 i110)), V.f (F.lit (Value.int IntKind.i64 i111)), V.undef, V.undef, V.f (F.lit (Value.bool b112)), V.undef, V.obj [V.f (F.lst [LT.int IntKind.i64] r113), V.f (F.lit (Value.int IntKind.i64 i114))], V.undef] 0 (H.len 71)) (fun e env' => k e (vals [0, 5, 6, 7, 8, 9, 25, 26, 66, 83, 113, 125, 128, 129] env')) = Jn71_21 m (fun r116 b117 => k Ex.normal [V.ref (128 : Nat) (0 : Nat), V.own [LT.int IntKind.i64, LT.int IntKind.i64, LT.int IntKind.i64, LT.int IntKind.i64, LT.int IntKind.i64, LT.bool, LT.lst [LT.int IntKind.u8]] r116, V.f (F.lit (Value.int IntKind.i64 i106)), V.f (F.lit (Value.int IntKind.i64 i107)), V.f (F.lit (Value.int IntKind.i64 i108)), V.f (F.lit (Value.int IntKind.i64 i109)), V.f (F.lit (Value.int IntKind.i64 i110)), V.f (F.lit (Value.int IntKind.i64 i111)), V.undef, V.undef, V.f (F.lit (Value.bool b117)), V.undef, V.obj [V.f (F.lst [LT.int IntKind.i64] r113), V.f (F.lit (Value.int IntKind.i64 i114))], V.undef]) r105 i106 i107 i108 i109 i110 i111 b112 r113 i114 := by kernel_rfl
def L2 (m : Nat) : LTbl := addJ 71 21 (brJn71_21 m (L1 m)) (L1 m)
theorem okL2 (m : Nat) : LTOk Try.prog H (L2 m) := addJ_ok (okT5 m) hM (okL1 m) (l := [0, 5, 6, 7, 8, 9, 25, 26, 66, 83, 113, 125, 128, 129]) (by kernel_rfl) (by kernel_rfl) fun R vs k x h => by
    unfold brJn71_21 at h
    split at h
    · exact .inl ((evJn71_21 m R _ _ _ _ _ _ _ _ _ _ k).trans h)
    · exact .inr h

/-- a rest of (*hookflash/flashmake.Stream).RightArrivals -/
def Jn71_20 {R : Type} (m : Nat) (kx0 : Abs.Rows → Int → Option R) (r94 : Abs.Rows) (i95 : Int) (i96 : Int) (i97 : Int) (i98 : Int) (i99 : Int) (i100 : Int) (r101 : Abs.Rows) (i102 : Int) : Option R :=
  bif decide ((↑(List.length r94) : Int) > (0 : Int)) then (Fn39 m r101 i102 ((8 : Int)) (fun b103 i104 => Jn71_21 m (fun r118 b119 => kx0 r118 i104) r94 i95 i96 i97 i98 i99 i100 b103 r101 i104)) else
  (Jn71_21 m (fun r120 b121 => kx0 r120 i102) r94 i95 i96 i97 i98 i99 i100 false r101 i102)
def brJn71_20 (m : Nat) (L : LTbl) (R : Type) (vs : List V) (k : Ex → List V → Option R) : Option R := match vs with
  | [V.ref (128 : Nat) (0 : Nat), V.own [LT.int IntKind.i64, LT.int IntKind.i64, LT.int IntKind.i64, LT.int IntKind.i64, LT.int IntKind.i64, LT.bool, LT.lst [LT.int IntKind.u8]] r94, V.f (F.lit (Value.int IntKind.i64 i95)), V.f (F.lit (Value.int IntKind.i64 i96)), V.f (F.lit (Value.int IntKind.i64 i97)), V.f (F.lit (Value.int IntKind.i64 i98)), V.f (F.lit (Value.int IntKind.i64 i99)), V.f (F.lit (Value.int IntKind.i64 i100)), V.undef, V.undef, V.undef, V.obj [V.f (F.lst [LT.int IntKind.i64] r101), V.f (F.lit (Value.int IntKind.i64 i102))], V.undef] => Jn71_20 m (fun r122 i123 => k Ex.normal [V.ref (128 : Nat) (0 : Nat), V.own [LT.int IntKind.i64, LT.int IntKind.i64, LT.int IntKind.i64, LT.int IntKind.i64, LT.int IntKind.i64, LT.bool, LT.lst [LT.int IntKind.u8]] r122, V.f (F.lit (Value.int IntKind.i64 i95)), V.f (F.lit (Value.int IntKind.i64 i96)), V.f (F.lit (Value.int IntKind.i64 i97)), V.f (F.lit (Value.int IntKind.i64 i98)), V.f (F.lit (Value.int IntKind.i64 i99)), V.f (F.lit (Value.int IntKind.i64 i100)), V.undef, V.undef, V.undef, V.obj [V.f (F.lst [LT.int IntKind.i64] r101), V.f (F.lit (Value.int IntKind.i64 i123))], V.undef]) r94 i95 i96 i97 i98 i99 i100 r101 i102
  | _ => L R 71 20 vs k
set_option maxRecDepth 100000 in
theorem evJn71_20 (m : Nat) (R : Type) (r94 : Abs.Rows) (i95 : Int) (i96 : Int) (i97 : Int) (i98 : Int) (i99 : Int) (i100 : Int) (r101 : Abs.Rows) (i102 : Int) (k : Ex → List V → Option R) : codeK Try.prog H (T5 m) 71 (L2 m) 21 (loopBody Try.prog 71 20) (mkEnv [0, 5, 6, 7, 8, 9, 25, 26, 66, 83, 125, 128, 129] [V.ref (128 : Nat) (0 : Nat), V.own [LT.int IntKind.i64, LT.int IntKind.i64, LT.int IntKind.i64, LT.int IntKind.i64, LT.int IntKind.i64, LT.bool, LT.lst [LT.int IntKind.u8]] r94, V.f (F.lit (Value.int IntKind.i64 i95)), V.f (F.lit (Value.int IntKind.i64 i96)), V.f (F.lit (Value.int IntKind.i64 i97)), V.f (F.lit (Value.int IntKind.i64 i98)), V.f (F.lit (Value.int IntKind.i64 i99)), V.f (F.lit (Value.int IntKind.i64 i100)), V.undef, V.undef, V.undef, V.obj [V.f (F.lst [LT.int IntKind.i64] r101), V.f (F.lit (Value.int IntKind.i64 i102))], V.undef] 0 (H.len 71)) (fun e env' => k e (vals [0, 5, 6, 7, 8, 9, 25, 26, 66, 83, 125, 128, 129] env')) = Jn71_20 m (fun r122 i123 => k Ex.normal [V.ref (128 : Nat) (0 : Nat), V.own [LT.int IntKind.i64, LT.int IntKind.i64, LT.int IntKind.i64, LT.int IntKind.i64, LT.int IntKind.i64, LT.bool, LT.lst [LT.int IntKind.u8]] r122, V.f (F.lit (Value.int IntKind.i64 i95)), V.f (F.lit (Value.int IntKind.i64 i96)), V.f (F.lit (Value.int IntKind.i64 i97)), V.f (F.lit (Value.int IntKind.i64 i98)), V.f (F.lit (Value.int IntKind.i64 i99)), V.f (F.lit (Value.int IntKind.i64 i100)), V.undef, V.undef, V.undef, V.obj [V.f (F.lst [LT.int IntKind.i64] r101), V.f (F.lit (Value.int IntKind.i64 i123))], V.undef]) r94 i95 i96 i97 i98 i99 i100 r101 i102 := by kernel_rfl
def L3 (m : Nat) : LTbl := addJ 71 20 (brJn71_20 m (L2 m)) (L2 m)
theorem okL3 (m : Nat) : LTOk Try.prog H (L3 m) := addJ_ok (okT5 m) hM (okL2 m) (l := [0, 5, 6, 7, 8, 9, 25, 26, 66, 83, 125, 128, 129]) (by kernel_rfl) (by kernel_rfl) fun R vs k x h => by
    unfold brJn71_20 at h
    split at h
    · exact .inl ((evJn71_20 m R _ _ _ _ _ _ _ _ _ k).trans h)
    · exact .inr h

/-- a rest of (*hookflash/flashmake.Stream).RightArrivals -/
def Jn71_17 {R : Type} (m : Nat) (kx0 : Abs.Rows → Bool → Option R) (r128 : Abs.Rows) (i129 : Int) (i130 : Int) (i131 : Int) (i132 : Int) (i133 : Int) (i134 : Int) (i135 : Int) (i136 : Int) (b137 : Bool) (r138 : Abs.Rows) (i139 : Int) (i140 : Int) (b141 : Bool) (r142 : Abs.Rows) (i143 : Int) : Option R :=
  bif b141 then (bif decide (List.length r128 + List.length [[F.lit (Value.int IntKind.i64 i131), F.lit (Value.int IntKind.i64 i133), F.lit (Value.int IntKind.i64 i134), F.lit (Value.int IntKind.i64 i135), F.lit (Value.int IntKind.i64 i136), F.lit (Value.bool b137), F.lst [LT.int IntKind.u8] r138]] ≤ rowMax) then (letV (r128 ++ [[F.lit (Value.int IntKind.i64 i131), F.lit (Value.int IntKind.i64 i133), F.lit (Value.int IntKind.i64 i134), F.lit (Value.int IntKind.i64 i135), F.lit (Value.int IntKind.i64 i136), F.lit (Value.bool b137), F.lst [LT.int IntKind.u8] r138]]) (fun r144 => bif decide ((0 : Int) ≤ IntKind.wrap IntKind.i64 (IntKind.wrap IntKind.i64 ((↑(List.length r144) : Int) - (1 : Int)) - (1 : Int)) ∧ IntKind.wrap IntKind.i64 (IntKind.wrap IntKind.i64 ((↑(List.length r144) : Int) - (1 : Int)) - (1 : Int)) < (↑(List.length r144) : Int)) then (bif decide ((0 : Int) ≤ IntKind.wrap IntKind.i64 ((↑(List.length r144) : Int) - (1 : Int)) ∧ IntKind.wrap IntKind.i64 ((↑(List.length r144) : Int) - (1 : Int)) < (↑(List.length r144) : Int)) then (bif decide ((0 : Int) ≤ IntKind.wrap IntKind.i64 ((↑(List.length r144) : Int) - (1 : Int)) ∧ IntKind.wrap IntKind.i64 ((↑(List.length r144) : Int) - (1 : Int)) < (↑(List.length r144) : Int)) then (bif decide ((0 : Int) ≤ IntKind.wrap IntKind.i64 (IntKind.wrap IntKind.i64 ((↑(List.length r144) : Int) - (1 : Int)) - (1 : Int)) ∧ IntKind.wrap IntKind.i64 (IntKind.wrap IntKind.i64 ((↑(List.length r144) : Int) - (1 : Int)) - (1 : Int)) < (↑(List.length r144) : Int)) then (letV (stR [LT.int IntKind.i64, LT.int IntKind.i64, LT.int IntKind.i64, LT.int IntKind.i64, LT.int IntKind.i64, LT.bool, LT.lst [LT.int IntKind.u8]] r144 (Int.toNat (IntKind.wrap IntKind.i64 ((↑(List.length r144) : Int) - (1 : Int)))) ((0 : Nat) + (1 : Nat)) [F.lit (Value.int IntKind.i64 (fI r144 (Int.toNat (IntKind.wrap IntKind.i64 (IntKind.wrap IntKind.i64 ((↑(List.length r144) : Int) - (1 : Int)) - (1 : Int)))) (1 : Nat))), F.lit (Value.int IntKind.i64 (fI r144 (Int.toNat (IntKind.wrap IntKind.i64 (IntKind.wrap IntKind.i64 ((↑(List.length r144) : Int) - (1 : Int)) - (1 : Int)))) (2 : Nat))), F.lit (Value.int IntKind.i64 (fI r144 (Int.toNat (IntKind.wrap IntKind.i64 (IntKind.wrap IntKind.i64 ((↑(List.length r144) : Int) - (1 : Int)) - (1 : Int)))) (3 : Nat))), F.lit (Value.int IntKind.i64 (fI r144 (Int.toNat (IntKind.wrap IntKind.i64 (IntKind.wrap IntKind.i64 ((↑(List.length r144) : Int) - (1 : Int)) - (1 : Int)))) (4 : Nat))), F.lit (Value.bool (fB r144 (Int.toNat (IntKind.wrap IntKind.i64 (IntKind.wrap IntKind.i64 ((↑(List.length r144) : Int) - (1 : Int)) - (1 : Int)))) (5 : Nat))), F.lst [LT.int IntKind.u8] (fR r144 (Int.toNat (IntKind.wrap IntKind.i64 (IntKind.wrap IntKind.i64 ((↑(List.length r144) : Int) - (1 : Int)) - (1 : Int)))) (6 : Nat))]) (fun r145 => kx0 (stR [LT.int IntKind.i64, LT.int IntKind.i64, LT.int IntKind.i64, LT.int IntKind.i64, LT.int IntKind.i64, LT.bool, LT.lst [LT.int IntKind.u8]] r145 (Int.toNat (IntKind.wrap IntKind.i64 (IntKind.wrap IntKind.i64 ((↑(List.length r144) : Int) - (1 : Int)) - (1 : Int)))) ((0 : Nat) + (1 : Nat)) [F.lit (Value.int IntKind.i64 (fI r144 (Int.toNat (IntKind.wrap IntKind.i64 ((↑(List.length r144) : Int) - (1 : Int)))) (1 : Nat))), F.lit (Value.int IntKind.i64 (fI r144 (Int.toNat (IntKind.wrap IntKind.i64 ((↑(List.length r144) : Int) - (1 : Int)))) (2 : Nat))), F.lit (Value.int IntKind.i64 (fI r144 (Int.toNat (IntKind.wrap IntKind.i64 ((↑(List.length r144) : Int) - (1 : Int)))) (3 : Nat))), F.lit (Value.int IntKind.i64 (fI r144 (Int.toNat (IntKind.wrap IntKind.i64 ((↑(List.length r144) : Int) - (1 : Int)))) (4 : Nat))), F.lit (Value.bool (fB r144 (Int.toNat (IntKind.wrap IntKind.i64 ((↑(List.length r144) : Int) - (1 : Int)))) (5 : Nat))), F.lst [LT.int IntKind.u8] (fR r144 (Int.toNat (IntKind.wrap IntKind.i64 ((↑(List.length r144) : Int) - (1 : Int)))) (6 : Nat))]) true)) else
  (none)) else
  (none)) else
  (none)) else
  (none))) else
  (none)) else
  (bif decide (List.length r128 + List.length [[F.lit (Value.int IntKind.i64 i131), F.lit (Value.int IntKind.i64 i133), F.lit (Value.int IntKind.i64 i134), F.lit (Value.int IntKind.i64 i135), F.lit (Value.int IntKind.i64 i136), F.lit (Value.bool b137), F.lst [LT.int IntKind.u8] r138]] ≤ rowMax) then (letV (r128 ++ [[F.lit (Value.int IntKind.i64 i131), F.lit (Value.int IntKind.i64 i133), F.lit (Value.int IntKind.i64 i134), F.lit (Value.int IntKind.i64 i135), F.lit (Value.int IntKind.i64 i136), F.lit (Value.bool b137), F.lst [LT.int IntKind.u8] r138]]) (fun r146 => kx0 r146 false)) else
  (none))
def brJn71_17 (m : Nat) (L : LTbl) (R : Type) (vs : List V) (k : Ex → List V → Option R) : Option R := match vs with
  | [V.ref (128 : Nat) (0 : Nat), V.own [LT.int IntKind.i64, LT.int IntKind.i64, LT.int IntKind.i64, LT.int IntKind.i64, LT.int IntKind.i64, LT.bool, LT.lst [LT.int IntKind.u8]] r128, V.f (F.lit (Value.int IntKind.i64 i129)), V.f (F.lit (Value.int IntKind.i64 i130)), V.f (F.lit (Value.int IntKind.i64 i131)), V.f (F.lit (Value.int IntKind.i64 i132)), V.obj [V.f (F.lit (Value.int IntKind.i64 i133)), V.f (F.lit (Value.int IntKind.i64 i134)), V.f (F.lit (Value.int IntKind.i64 i135)), V.f (F.lit (Value.int IntKind.i64 i136)), V.f (F.lit (Value.bool b137)), V.own [LT.int IntKind.u8] r138], V.f (F.lit (Value.int IntKind.i64 i139)), V.f (F.lit (Value.int IntKind.i64 i140)), V.undef, V.f (F.lit (Value.bool b141)), V.undef, V.obj [V.f (F.lst [LT.int IntKind.i64] r142), V.f (F.lit (Value.int IntKind.i64 i143))], V.undef] => Jn71_17 m (fun r147 b148 => k Ex.normal [V.ref (128 : Nat) (0 : Nat), V.own [LT.int IntKind.i64, LT.int IntKind.i64, LT.int IntKind.i64, LT.int IntKind.i64, LT.int IntKind.i64, LT.bool, LT.lst [LT.int IntKind.u8]] r147, V.f (F.lit (Value.int IntKind.i64 i129)), V.f (F.lit (Value.int IntKind.i64 i130)), V.f (F.lit (Value.int IntKind.i64 i131)), V.f (F.lit (Value.int IntKind.i64 i132)), V.obj [V.f (F.lit (Value.int IntKind.i64 i133)), V.f (F.lit (Value.int IntKind.i64 i134)), V.f (F.lit (Value.int IntKind.i64 i135)), V.f (F.lit (Value.int IntKind.i64 i136)), V.f (F.lit (Value.bool b137)), V.f (F.lst [LT.int IntKind.u8] r138)], V.f (F.lit (Value.int IntKind.i64 i139)), V.f (F.lit (Value.int IntKind.i64 i140)), V.undef, V.f (F.lit (Value.bool b148)), V.undef, V.obj [V.f (F.lst [LT.int IntKind.i64] r142), V.f (F.lit (Value.int IntKind.i64 i143))], V.undef]) r128 i129 i130 i131 i132 i133 i134 i135 i136 b137 r138 i139 i140 b141 r142 i143
  | _ => L R 71 17 vs k
set_option maxRecDepth 100000 in
theorem evJn71_17 (m : Nat) (R : Type) (r128 : Abs.Rows) (i129 : Int) (i130 : Int) (i131 : Int) (i132 : Int) (i133 : Int) (i134 : Int) (i135 : Int) (i136 : Int) (b137 : Bool) (r138 : Abs.Rows) (i139 : Int) (i140 : Int) (b141 : Bool) (r142 : Abs.Rows) (i143 : Int) (k : Ex → List V → Option R) : codeK Try.prog H (T5 m) 71 (L3 m) 18 (loopBody Try.prog 71 17) (mkEnv [0, 5, 6, 7, 8, 9, 10, 25, 26, 66, 70, 83, 128, 129] [V.ref (128 : Nat) (0 : Nat), V.own [LT.int IntKind.i64, LT.int IntKind.i64, LT.int IntKind.i64, LT.int IntKind.i64, LT.int IntKind.i64, LT.bool, LT.lst [LT.int IntKind.u8]] r128, V.f (F.lit (Value.int IntKind.i64 i129)), V.f (F.lit (Value.int IntKind.i64 i130)), V.f (F.lit (Value.int IntKind.i64 i131)), V.f (F.lit (Value.int IntKind.i64 i132)), V.obj [V.f (F.lit (Value.int IntKind.i64 i133)), V.f (F.lit (Value.int IntKind.i64 i134)), V.f (F.lit (Value.int IntKind.i64 i135)), V.f (F.lit (Value.int IntKind.i64 i136)), V.f (F.lit (Value.bool b137)), V.own [LT.int IntKind.u8] r138], V.f (F.lit (Value.int IntKind.i64 i139)), V.f (F.lit (Value.int IntKind.i64 i140)), V.undef, V.f (F.lit (Value.bool b141)), V.undef, V.obj [V.f (F.lst [LT.int IntKind.i64] r142), V.f (F.lit (Value.int IntKind.i64 i143))], V.undef] 0 (H.len 71)) (fun e env' => k e (vals [0, 5, 6, 7, 8, 9, 10, 25, 26, 66, 70, 83, 128, 129] env')) = Jn71_17 m (fun r147 b148 => k Ex.normal [V.ref (128 : Nat) (0 : Nat), V.own [LT.int IntKind.i64, LT.int IntKind.i64, LT.int IntKind.i64, LT.int IntKind.i64, LT.int IntKind.i64, LT.bool, LT.lst [LT.int IntKind.u8]] r147, V.f (F.lit (Value.int IntKind.i64 i129)), V.f (F.lit (Value.int IntKind.i64 i130)), V.f (F.lit (Value.int IntKind.i64 i131)), V.f (F.lit (Value.int IntKind.i64 i132)), V.obj [V.f (F.lit (Value.int IntKind.i64 i133)), V.f (F.lit (Value.int IntKind.i64 i134)), V.f (F.lit (Value.int IntKind.i64 i135)), V.f (F.lit (Value.int IntKind.i64 i136)), V.f (F.lit (Value.bool b137)), V.f (F.lst [LT.int IntKind.u8] r138)], V.f (F.lit (Value.int IntKind.i64 i139)), V.f (F.lit (Value.int IntKind.i64 i140)), V.undef, V.f (F.lit (Value.bool b148)), V.undef, V.obj [V.f (F.lst [LT.int IntKind.i64] r142), V.f (F.lit (Value.int IntKind.i64 i143))], V.undef]) r128 i129 i130 i131 i132 i133 i134 i135 i136 b137 r138 i139 i140 b141 r142 i143 := by kernel_rfl
def L4 (m : Nat) : LTbl := addJ 71 17 (brJn71_17 m (L3 m)) (L3 m)
theorem okL4 (m : Nat) : LTOk Try.prog H (L4 m) := addJ_ok (okT5 m) hM (okL3 m) (l := [0, 5, 6, 7, 8, 9, 10, 25, 26, 66, 70, 83, 128, 129]) (by kernel_rfl) (by kernel_rfl) fun R vs k x h => by
    unfold brJn71_17 at h
    split at h
    · exact .inl ((evJn71_17 m R _ _ _ _ _ _ _ _ _ _ _ _ _ _ _ _ k).trans h)
    · exact .inr h

/-- a round of a loop of (*hookflash/flashmake.Stream).RightArrivals -/
def Lp71_5_step {R : Type} (m : Nat) (kx0 : Abs.Rows → Int → Int → Int → Int → Int → Option R) (i50 : Int) (i51 : Int) (r53 : Abs.Rows) (REC : Abs.Rows → Int → Int → Int → Int → Int → Option R) (r46 : Abs.Rows) (i47 : Int) (i48 : Int) (i49 : Int) (i52 : Int) (i54 : Int) : Option R :=
  bif decide (i52 < i51) then (Fn20 m r53 i54 ([[F.lit (Value.int IntKind.i64 (0 : Int))], [F.lit (Value.int IntKind.i64 (3 : Int))], [F.lit (Value.int IntKind.i64 (8 : Int))]]) (fun i55 i56 => Lp71_10 m (fun r80 i81 i82 => Fn20 m r53 i82 ([[F.lit (Value.int IntKind.i64 (0 : Int))], [F.lit (Value.int IntKind.i64 (1 : Int))], [F.lit (Value.int IntKind.i64 (IntKind.wrap IntKind.i64 (Int.tdiv i50 (8 : Int))))], [F.lit (Value.int IntKind.i64 (IntKind.wrap IntKind.i64 (Int.tdiv i50 (8 : Int))))], [F.lit (Value.int IntKind.i64 (25 : Int))]]) (fun i83 i84 => Fn39 m r53 i84 ((5 : Int)) (fun b92 i93 => bif b92 then (Jn71_20 m (fun r124 i125 => REC r124 (IntKind.wrap IntKind.i64 (i47 + (1 : Int))) (IntKind.wrap IntKind.i64 (i48 + i50)) (IntKind.wrap IntKind.i64 (i49 + i83)) (IntKind.wrap IntKind.i64 (i52 + (1 : Int))) i125) r46 (IntKind.wrap IntKind.i64 (i47 + (1 : Int))) (IntKind.wrap IntKind.i64 (i48 + i50)) (IntKind.wrap IntKind.i64 (i49 + i83)) i50 i51 i52 r53 i93) else
  (bif decide ((↑(List.length r46) : Int) > (0 : Int)) then (Fn39 m r53 i93 ((5 : Int)) (fun b126 i127 => Jn71_17 m (fun r149 b150 => Jn71_20 m (fun r151 i152 => REC r151 (IntKind.wrap IntKind.i64 (i47 + (1 : Int))) (IntKind.wrap IntKind.i64 (i48 + i50)) (IntKind.wrap IntKind.i64 (i49 + i83)) (IntKind.wrap IntKind.i64 (i52 + (1 : Int))) i152) r149 (IntKind.wrap IntKind.i64 (i47 + (1 : Int))) (IntKind.wrap IntKind.i64 (i48 + i50)) (IntKind.wrap IntKind.i64 (i49 + i83)) i50 i51 i52 r53 i127) r46 (IntKind.wrap IntKind.i64 (i47 + (1 : Int))) (IntKind.wrap IntKind.i64 (i48 + i50)) (IntKind.wrap IntKind.i64 (i49 + i83)) i50 ((0 : Int)) (Int.tmod i47 (65536 : Int)) (Int.tmod i48 (4294967296 : Int)) ((7 : Int)) false r80 i51 i52 b126 r53 i127)) else
  (Jn71_17 m (fun r153 b154 => Jn71_20 m (fun r155 i156 => REC r155 (IntKind.wrap IntKind.i64 (i47 + (1 : Int))) (IntKind.wrap IntKind.i64 (i48 + i50)) (IntKind.wrap IntKind.i64 (i49 + i83)) (IntKind.wrap IntKind.i64 (i52 + (1 : Int))) i156) r153 (IntKind.wrap IntKind.i64 (i47 + (1 : Int))) (IntKind.wrap IntKind.i64 (i48 + i50)) (IntKind.wrap IntKind.i64 (i49 + i83)) i50 i51 i52 r53 i93) r46 (IntKind.wrap IntKind.i64 (i47 + (1 : Int))) (IntKind.wrap IntKind.i64 (i48 + i50)) (IntKind.wrap IntKind.i64 (i49 + i83)) i50 ((0 : Int)) (Int.tmod i47 (65536 : Int)) (Int.tmod i48 (4294967296 : Int)) ((7 : Int)) false r80 i51 i52 false r53 i93))))) r46 i47 i48 i49 i50 ((0 : Int)) (Int.tmod i47 (65536 : Int)) (Int.tmod i48 (4294967296 : Int)) ((7 : Int)) false i51 i52 i55 r53 m rows0 ((0 : Int)) i56)) else
  (kx0 r46 i47 i48 i49 i52 i54)
def Lp71_5 {R : Type} (m : Nat) (kx0 : Abs.Rows → Int → Int → Int → Int → Int → Option R) (i50 : Int) (i51 : Int) (r53 : Abs.Rows) : Nat → Abs.Rows → Int → Int → Int → Int → Int → Option R
  | 0, _, _, _, _, _, _ => none
  | n + 1, r46, i47, i48, i49, i52, i54 => Lp71_5_step m kx0 i50 i51 r53 (Lp71_5 m kx0 i50 i51 r53 n) r46 i47 i48 i49 i52 i54
def ELp71_5 (m : Nat) (R : Type) : Nat → List V → (Ex → List V → Option R) → Option R
  | 0, _, _ => none
  | n + 1, vs, k => match vs with
    | [V.ref (128 : Nat) (0 : Nat), V.own [LT.int IntKind.i64, LT.int IntKind.i64, LT.int IntKind.i64, LT.int IntKind.i64, LT.int IntKind.i64, LT.bool, LT.lst [LT.int IntKind.u8]] r46, V.f (F.lit (Value.int IntKind.i64 i47)), V.f (F.lit (Value.int IntKind.i64 i48)), V.f (F.lit (Value.int IntKind.i64 i49)), V.f (F.lit (Value.int IntKind.i64 i50)), V.f (F.lit (Value.int IntKind.i64 i51)), V.f (F.lit (Value.int IntKind.i64 i52)), V.obj [V.f (F.lst [LT.int IntKind.i64] r53), V.f (F.lit (Value.int IntKind.i64 i54))], V.undef] => Lp71_5_step m (fun r157 i158 i159 i160 i161 i162 => k (Ex.exit (0 : Nat)) [V.ref (128 : Nat) (0 : Nat), V.own [LT.int IntKind.i64, LT.int IntKind.i64, LT.int IntKind.i64, LT.int IntKind.i64, LT.int IntKind.i64, LT.bool, LT.lst [LT.int IntKind.u8]] r157, V.f (F.lit (Value.int IntKind.i64 i158)), V.f (F.lit (Value.int IntKind.i64 i159)), V.f (F.lit (Value.int IntKind.i64 i160)), V.f (F.lit (Value.int IntKind.i64 i50)), V.f (F.lit (Value.int IntKind.i64 i51)), V.f (F.lit (Value.int IntKind.i64 i161)), V.obj [V.f (F.lst [LT.int IntKind.i64] r53), V.f (F.lit (Value.int IntKind.i64 i162))], V.undef]) i50 i51 r53 (fun r46 i47 i48 i49 i52 i54 => ELp71_5 m R n [V.ref (128 : Nat) (0 : Nat), V.own [LT.int IntKind.i64, LT.int IntKind.i64, LT.int IntKind.i64, LT.int IntKind.i64, LT.int IntKind.i64, LT.bool, LT.lst [LT.int IntKind.u8]] r46, V.f (F.lit (Value.int IntKind.i64 i47)), V.f (F.lit (Value.int IntKind.i64 i48)), V.f (F.lit (Value.int IntKind.i64 i49)), V.f (F.lit (Value.int IntKind.i64 i50)), V.f (F.lit (Value.int IntKind.i64 i51)), V.f (F.lit (Value.int IntKind.i64 i52)), V.obj [V.f (F.lst [LT.int IntKind.i64] r53), V.f (F.lit (Value.int IntKind.i64 i54))], V.undef] k) r46 i47 i48 i49 i52 i54
    | _ => none
def brLp71_5 (m : Nat) (L : LTbl) (R : Type) (vs : List V) (k : Ex → List V → Option R) : Option R := match vs with
  | [V.ref (128 : Nat) (0 : Nat), V.own [LT.int IntKind.i64, LT.int IntKind.i64, LT.int IntKind.i64, LT.int IntKind.i64, LT.int IntKind.i64, LT.bool, LT.lst [LT.int IntKind.u8]] r46, V.f (F.lit (Value.int IntKind.i64 i47)), V.f (F.lit (Value.int IntKind.i64 i48)), V.f (F.lit (Value.int IntKind.i64 i49)), V.f (F.lit (Value.int IntKind.i64 i50)), V.f (F.lit (Value.int IntKind.i64 i51)), V.f (F.lit (Value.int IntKind.i64 i52)), V.obj [V.f (F.lst [LT.int IntKind.i64] r53), V.f (F.lit (Value.int IntKind.i64 i54))], V.undef] => Lp71_5 m (fun r157 i158 i159 i160 i161 i162 => k (Ex.exit (0 : Nat)) [V.ref (128 : Nat) (0 : Nat), V.own [LT.int IntKind.i64, LT.int IntKind.i64, LT.int IntKind.i64, LT.int IntKind.i64, LT.int IntKind.i64, LT.bool, LT.lst [LT.int IntKind.u8]] r157, V.f (F.lit (Value.int IntKind.i64 i158)), V.f (F.lit (Value.int IntKind.i64 i159)), V.f (F.lit (Value.int IntKind.i64 i160)), V.f (F.lit (Value.int IntKind.i64 i50)), V.f (F.lit (Value.int IntKind.i64 i51)), V.f (F.lit (Value.int IntKind.i64 i161)), V.obj [V.f (F.lst [LT.int IntKind.i64] r53), V.f (F.lit (Value.int IntKind.i64 i162))], V.undef]) i50 i51 r53 m r46 i47 i48 i49 i52 i54
  | _ => L R 71 5 vs k
set_option maxRecDepth 100000 in
theorem stLp71_5 (m n : Nat) (R : Type) (r46 : Abs.Rows) (i47 : Int) (i48 : Int) (i49 : Int) (i50 : Int) (i51 : Int) (i52 : Int) (r53 : Abs.Rows) (i54 : Int) (k : Ex → List V → Option R) : codeK Try.prog H (T5 m) 71 (L4 m) 6 (loopBody Try.prog 71 5) (mkEnv [0, 5, 6, 7, 8, 9, 25, 26, 128, 129] [V.ref (128 : Nat) (0 : Nat), V.own [LT.int IntKind.i64, LT.int IntKind.i64, LT.int IntKind.i64, LT.int IntKind.i64, LT.int IntKind.i64, LT.bool, LT.lst [LT.int IntKind.u8]] r46, V.f (F.lit (Value.int IntKind.i64 i47)), V.f (F.lit (Value.int IntKind.i64 i48)), V.f (F.lit (Value.int IntKind.i64 i49)), V.f (F.lit (Value.int IntKind.i64 i50)), V.f (F.lit (Value.int IntKind.i64 i51)), V.f (F.lit (Value.int IntKind.i64 i52)), V.obj [V.f (F.lst [LT.int IntKind.i64] r53), V.f (F.lit (Value.int IntKind.i64 i54))], V.undef] 0 (H.len 71)) (fun e env' => match e with | .normal => ELp71_5 m R n (vals [0, 5, 6, 7, 8, 9, 25, 26, 128, 129] env') k | e => k e (vals [0, 5, 6, 7, 8, 9, 25, 26, 128, 129] env')) = Lp71_5_step m (fun r157 i158 i159 i160 i161 i162 => k (Ex.exit (0 : Nat)) [V.ref (128 : Nat) (0 : Nat), V.own [LT.int IntKind.i64, LT.int IntKind.i64, LT.int IntKind.i64, LT.int IntKind.i64, LT.int IntKind.i64, LT.bool, LT.lst [LT.int IntKind.u8]] r157, V.f (F.lit (Value.int IntKind.i64 i158)), V.f (F.lit (Value.int IntKind.i64 i159)), V.f (F.lit (Value.int IntKind.i64 i160)), V.f (F.lit (Value.int IntKind.i64 i50)), V.f (F.lit (Value.int IntKind.i64 i51)), V.f (F.lit (Value.int IntKind.i64 i161)), V.obj [V.f (F.lst [LT.int IntKind.i64] r53), V.f (F.lit (Value.int IntKind.i64 i162))], V.undef]) i50 i51 r53 (fun r46 i47 i48 i49 i52 i54 => ELp71_5 m R n [V.ref (128 : Nat) (0 : Nat), V.own [LT.int IntKind.i64, LT.int IntKind.i64, LT.int IntKind.i64, LT.int IntKind.i64, LT.int IntKind.i64, LT.bool, LT.lst [LT.int IntKind.u8]] r46, V.f (F.lit (Value.int IntKind.i64 i47)), V.f (F.lit (Value.int IntKind.i64 i48)), V.f (F.lit (Value.int IntKind.i64 i49)), V.f (F.lit (Value.int IntKind.i64 i50)), V.f (F.lit (Value.int IntKind.i64 i51)), V.f (F.lit (Value.int IntKind.i64 i52)), V.obj [V.f (F.lst [LT.int IntKind.i64] r53), V.f (F.lit (Value.int IntKind.i64 i54))], V.undef] k) r46 i47 i48 i49 i52 i54 := by kernel_rfl
theorem eqLp71_5 (m : Nat) (R : Type) (i50 : Int) (i51 : Int) (r53 : Abs.Rows) (k : Ex → List V → Option R) : ∀ (n : Nat) (r46 : Abs.Rows) (i47 : Int) (i48 : Int) (i49 : Int) (i52 : Int) (i54 : Int), ELp71_5 m R n [V.ref (128 : Nat) (0 : Nat), V.own [LT.int IntKind.i64, LT.int IntKind.i64, LT.int IntKind.i64, LT.int IntKind.i64, LT.int IntKind.i64, LT.bool, LT.lst [LT.int IntKind.u8]] r46, V.f (F.lit (Value.int IntKind.i64 i47)), V.f (F.lit (Value.int IntKind.i64 i48)), V.f (F.lit (Value.int IntKind.i64 i49)), V.f (F.lit (Value.int IntKind.i64 i50)), V.f (F.lit (Value.int IntKind.i64 i51)), V.f (F.lit (Value.int IntKind.i64 i52)), V.obj [V.f (F.lst [LT.int IntKind.i64] r53), V.f (F.lit (Value.int IntKind.i64 i54))], V.undef] k = Lp71_5 m (fun r157 i158 i159 i160 i161 i162 => k (Ex.exit (0 : Nat)) [V.ref (128 : Nat) (0 : Nat), V.own [LT.int IntKind.i64, LT.int IntKind.i64, LT.int IntKind.i64, LT.int IntKind.i64, LT.int IntKind.i64, LT.bool, LT.lst [LT.int IntKind.u8]] r157, V.f (F.lit (Value.int IntKind.i64 i158)), V.f (F.lit (Value.int IntKind.i64 i159)), V.f (F.lit (Value.int IntKind.i64 i160)), V.f (F.lit (Value.int IntKind.i64 i50)), V.f (F.lit (Value.int IntKind.i64 i51)), V.f (F.lit (Value.int IntKind.i64 i161)), V.obj [V.f (F.lst [LT.int IntKind.i64] r53), V.f (F.lit (Value.int IntKind.i64 i162))], V.undef]) i50 i51 r53 n r46 i47 i48 i49 i52 i54
  | 0, _, _, _, _, _, _ => rfl
  | n + 1, r46, i47, i48, i49, i52, i54 => by
    simp only [ELp71_5, Lp71_5]
    congr 1
    funext r46 i47 i48 i49 i52 i54
    exact eqLp71_5 m R i50 i51 r53 k n r46 i47 i48 i49 i52 i54
def L5 (m : Nat) : LTbl := addB 71 5 (brLp71_5 m (L4 m)) (L4 m)
theorem okL5 (m : Nat) : LTOk Try.prog H (L5 m) := addB_ok (okT5 m) hM (okL4 m) (l := [0, 5, 6, 7, 8, 9, 25, 26, 128, 129]) (by kernel_rfl) (by kernel_rfl) m (fun R n vs k => ELp71_5 m R n vs k) (fun R vs k => rfl) (fun R n vs k x h => by
      simp only [ELp71_5] at h
      split at h
      · exact (stLp71_5 m n R _ _ _ _ _ _ _ _ _ k).trans h
      · cases h) fun R vs k x h => by
    unfold brLp71_5 at h
    split at h
    · exact .inl ((eqLp71_5 m R _ _ _ k m _ _ _ _ _ _).trans h)
    · exact .inr h

/-- (*hookflash/flashmake.Stream).RightArrivals -/
def Fn71 {R : Type} (m : Nat) : Abs.Rows → Int → Int → (Abs.Rows → Int → Option R) → Option R := match m with
  | 0 => fun _ _ _ _ => none
  | m + 1 => fun r5 i6 i7 k =>
  Fn20 m r5 i6 ([[F.lit (Value.int IntKind.i64 (0 : Int))], [F.lit (Value.int IntKind.i64 (5 : Int))], [F.lit (Value.int IntKind.i64 (65533 : Int))]]) (fun i28 i29 => Fn20 m r5 i29 ([[F.lit (Value.int IntKind.i64 (0 : Int))], [F.lit (Value.int IntKind.i64 (100 : Int))], [F.lit (Value.int IntKind.i64 (4294967096 : Int))]]) (fun i30 i31 => Fn21 m r5 i31 ((0 : Int)) ((50 : Int)) (fun i40 i41 => Fn20 m r5 i41 ([[F.lit (Value.int IntKind.i64 (8 : Int))], [F.lit (Value.int IntKind.i64 (80 : Int))], [F.lit (Value.int IntKind.i64 (160 : Int))]]) (fun i42 i43 => Fn21 m r5 i43 ((0 : Int)) i7 (fun i44 i45 => Lp71_5 m (fun r163 i164 i165 i166 i167 i168 => k r163 i168) i42 i44 r5 m rows0 i28 i30 i40 ((0 : Int)) i45)))))
def brFn71 (m : Nat) (T : Tbl) (R : Type) (vs : List V) (k : V → List V → Option R) : Option R := match vs with
  | [V.obj [V.f (F.lst [LT.int IntKind.i64] r5), V.f (F.lit (Value.int IntKind.i64 i6))], V.f (F.lit (Value.int IntKind.i64 i7))] => Fn71 m r5 i6 i7 (fun r169 i170 => k (V.own [LT.int IntKind.i64, LT.int IntKind.i64, LT.int IntKind.i64, LT.int IntKind.i64, LT.int IntKind.i64, LT.bool, LT.lst [LT.int IntKind.u8]] r169) [V.obj [V.f (F.lst [LT.int IntKind.i64] r5), V.f (F.lit (Value.int IntKind.i64 i170))], V.undef])
  | _ => T R 71 vs k
set_option maxRecDepth 100000 in
theorem evFn71 (m : Nat) (R : Type) (r5 : Abs.Rows) (i6 : Int) (i7 : Int) (k : V → List V → Option R) : runK Try.prog H (T5 m) (L5 m) 71 [V.obj [V.f (F.lst [LT.int IntKind.i64] r5), V.f (F.lit (Value.int IntKind.i64 i6))], V.f (F.lit (Value.int IntKind.i64 i7))] k = Fn71 (m + 1) r5 i6 i7 (fun r169 i170 => k (V.own [LT.int IntKind.i64, LT.int IntKind.i64, LT.int IntKind.i64, LT.int IntKind.i64, LT.int IntKind.i64, LT.bool, LT.lst [LT.int IntKind.u8]] r169) [V.obj [V.f (F.lst [LT.int IntKind.i64] r5), V.f (F.lit (Value.int IntKind.i64 i170))], V.undef]) := by kernel_rfl
def T6 (m : Nat) : Tbl := addT 71 (brFn71 m (T5 m)) (T5 m)
theorem okT6 (m : Nat) : TblOk Try.prog (T6 m) := addT_ok (okT5 m) fun R vs k x h => by
  unfold brFn71 at h
  split at h
  · cases m with
    | zero => cases h
    | succ m => exact runK_some (okT5 m) hM (okL5 m) ((evFn71 m R _ _ _ k).trans h)
  · exact okT5 m R 71 _ k x h

/-- (*hookflash/flashmake.Stream).Odd -/
def Fn60 {R : Type} (m : Nat) : Abs.Rows → Int → Int → Int → (Int → Int → Option R) → Option R := match m with
  | 0 => fun _ _ _ _ _ => none
  | m + 1 => fun r183 i184 i185 i186 k =>
  Fn39 m r183 i184 ((12 : Int)) (fun b187 i188 => bif b187 then (Fn20 m r183 i188 ([[F.lit (Value.int IntKind.i64 (IntKind.wrap IntKind.i64 (i185 - (1 : Int))))], [F.lit (Value.int IntKind.i64 (IntKind.wrap IntKind.i64 (i186 + (1 : Int))))], [F.lit (Value.int IntKind.i64 i185)], [F.lit (Value.int IntKind.i64 i186)], [F.lit (Value.int IntKind.i64 (-1099511627776 : Int))], [F.lit (Value.int IntKind.i64 (1099511627776 : Int))]]) (fun i189 i190 => k i189 i190)) else
  (Fn21 m r183 i188 i185 i186 (fun i191 i192 => k i191 i192)))
def brFn60 (m : Nat) (T : Tbl) (R : Type) (vs : List V) (k : V → List V → Option R) : Option R := match vs with
  | [V.obj [V.f (F.lst [LT.int IntKind.i64] r183), V.f (F.lit (Value.int IntKind.i64 i184))], V.f (F.lit (Value.int IntKind.i64 i185)), V.f (F.lit (Value.int IntKind.i64 i186))] => Fn60 m r183 i184 i185 i186 (fun i193 i194 => k (V.f (F.lit (Value.int IntKind.i64 i193))) [V.obj [V.f (F.lst [LT.int IntKind.i64] r183), V.f (F.lit (Value.int IntKind.i64 i194))], V.undef, V.undef])
  | _ => T R 60 vs k
set_option maxRecDepth 100000 in
theorem evFn60 (m : Nat) (R : Type) (r183 : Abs.Rows) (i184 : Int) (i185 : Int) (i186 : Int) (k : V → List V → Option R) : runK Try.prog H (T6 m) (L5 m) 60 [V.obj [V.f (F.lst [LT.int IntKind.i64] r183), V.f (F.lit (Value.int IntKind.i64 i184))], V.f (F.lit (Value.int IntKind.i64 i185)), V.f (F.lit (Value.int IntKind.i64 i186))] k = Fn60 (m + 1) r183 i184 i185 i186 (fun i193 i194 => k (V.f (F.lit (Value.int IntKind.i64 i193))) [V.obj [V.f (F.lst [LT.int IntKind.i64] r183), V.f (F.lit (Value.int IntKind.i64 i194))], V.undef, V.undef]) := by kernel_rfl
def T7 (m : Nat) : Tbl := addT 60 (brFn60 m (T6 m)) (T6 m)
theorem okT7 (m : Nat) : TblOk Try.prog (T7 m) := addT_ok (okT6 m) fun R vs k x h => by
  unfold brFn60 at h
  split at h
  · cases m with
    | zero => cases h
    | succ m => exact runK_some (okT6 m) hM (okL5 m) ((evFn60 m R _ _ _ _ k).trans h)
  · exact okT6 m R 60 _ k x h

/-- a rest of (*hookflash/flashmake.Stream).Arrivals -/
def Jn33_2 {R : Type} (m : Nat) (kx0 : Abs.Rows → Bool → Int → Option R) (r175 : Abs.Rows) (b176 : Bool) (r177 : Abs.Rows) (i178 : Int) : Option R :=
  bif b176 then (Fn59 m r177 i178 ((↑(List.length r175) : Int)) (fun i179 i180 => bif decide ((0 : Int) ≤ i179 ∧ i179 < (↑(List.length r175) : Int)) then (Fn59 m r177 i180 ((4 : Int)) (fun i181 i182 => bif i181 == (0 : Int) then (Fn60 m r177 i182 ((0 : Int)) ((50 : Int)) (fun i195 i196 => kx0 (stR [LT.int IntKind.i64, LT.int IntKind.i64, LT.int IntKind.i64, LT.int IntKind.i64, LT.int IntKind.i64, LT.bool, LT.lst [LT.int IntKind.u8]] r175 (Int.toNat i179) ((0 : Nat) + (0 : Nat)) [F.lit (Value.int IntKind.i64 i195)]) true i196)) else
  (bif i181 == (1 : Int) then (Fn20 m r177 i182 ([[F.lit (Value.int IntKind.i64 (7 : Int))], [F.lit (Value.int IntKind.i64 (8 : Int))]]) (fun i197 i198 => kx0 (stR [LT.int IntKind.i64, LT.int IntKind.i64, LT.int IntKind.i64, LT.int IntKind.i64, LT.int IntKind.i64, LT.bool, LT.lst [LT.int IntKind.u8]] r175 (Int.toNat i179) ((0 : Nat) + (1 : Nat) + (3 : Nat)) [F.lit (Value.int IntKind.i64 i197)]) true i198)) else
  (bif i181 == (2 : Int) then (Fn60 m r177 i182 ((0 : Int)) ((65535 : Int)) (fun i199 i200 => kx0 (stR [LT.int IntKind.i64, LT.int IntKind.i64, LT.int IntKind.i64, LT.int IntKind.i64, LT.int IntKind.i64, LT.bool, LT.lst [LT.int IntKind.u8]] r175 (Int.toNat i179) ((0 : Nat) + (1 : Nat) + (1 : Nat)) [F.lit (Value.int IntKind.i64 i199)]) true i200)) else
  (Fn60 m r177 i182 ((0 : Int)) ((4294967295 : Int)) (fun i201 i202 => kx0 (stR [LT.int IntKind.i64, LT.int IntKind.i64, LT.int IntKind.i64, LT.int IntKind.i64, LT.int IntKind.i64, LT.bool, LT.lst [LT.int IntKind.u8]] r175 (Int.toNat i179) ((0 : Nat) + (1 : Nat) + (2 : Nat)) [F.lit (Value.int IntKind.i64 i201)]) true i202)))))) else
  (none))) else
  (kx0 r175 false i178)
def brJn33_2 (m : Nat) (L : LTbl) (R : Type) (vs : List V) (k : Ex → List V → Option R) : Option R := match vs with
  | [V.ref (56 : Nat) (0 : Nat), V.own [LT.int IntKind.i64, LT.int IntKind.i64, LT.int IntKind.i64, LT.int IntKind.i64, LT.int IntKind.i64, LT.bool, LT.lst [LT.int IntKind.u8]] r175, V.undef, V.f (F.lit (Value.bool b176)), V.obj [V.f (F.lst [LT.int IntKind.i64] r177), V.f (F.lit (Value.int IntKind.i64 i178))], V.undef] => Jn33_2 m (fun r203 b204 i205 => k Ex.normal [V.ref (56 : Nat) (0 : Nat), V.own [LT.int IntKind.i64, LT.int IntKind.i64, LT.int IntKind.i64, LT.int IntKind.i64, LT.int IntKind.i64, LT.bool, LT.lst [LT.int IntKind.u8]] r203, V.undef, V.f (F.lit (Value.bool b204)), V.obj [V.f (F.lst [LT.int IntKind.i64] r177), V.f (F.lit (Value.int IntKind.i64 i205))], V.undef]) r175 b176 r177 i178
  | _ => L R 33 2 vs k
set_option maxRecDepth 100000 in
theorem evJn33_2 (m : Nat) (R : Type) (r175 : Abs.Rows) (b176 : Bool) (r177 : Abs.Rows) (i178 : Int) (k : Ex → List V → Option R) : codeK Try.prog H (T7 m) 33 (L5 m) 3 (loopBody Try.prog 33 2) (mkEnv [0, 5, 9, 16, 56, 57] [V.ref (56 : Nat) (0 : Nat), V.own [LT.int IntKind.i64, LT.int IntKind.i64, LT.int IntKind.i64, LT.int IntKind.i64, LT.int IntKind.i64, LT.bool, LT.lst [LT.int IntKind.u8]] r175, V.undef, V.f (F.lit (Value.bool b176)), V.obj [V.f (F.lst [LT.int IntKind.i64] r177), V.f (F.lit (Value.int IntKind.i64 i178))], V.undef] 0 (H.len 33)) (fun e env' => k e (vals [0, 5, 9, 16, 56, 57] env')) = Jn33_2 m (fun r203 b204 i205 => k Ex.normal [V.ref (56 : Nat) (0 : Nat), V.own [LT.int IntKind.i64, LT.int IntKind.i64, LT.int IntKind.i64, LT.int IntKind.i64, LT.int IntKind.i64, LT.bool, LT.lst [LT.int IntKind.u8]] r203, V.undef, V.f (F.lit (Value.bool b204)), V.obj [V.f (F.lst [LT.int IntKind.i64] r177), V.f (F.lit (Value.int IntKind.i64 i205))], V.undef]) r175 b176 r177 i178 := by kernel_rfl
def L6 (m : Nat) : LTbl := addJ 33 2 (brJn33_2 m (L5 m)) (L5 m)
theorem okL6 (m : Nat) : LTOk Try.prog H (L6 m) := addJ_ok (okT7 m) hM (okL5 m) (l := [0, 5, 9, 16, 56, 57]) (by kernel_rfl) (by kernel_rfl) fun R vs k x h => by
    unfold brJn33_2 at h
    split at h
    · exact .inl ((evJn33_2 m R _ _ _ _ k).trans h)
    · exact .inr h

/-- (*hookflash/flashmake.Stream).Arrivals -/
def Fn33 {R : Type} (m : Nat) : Abs.Rows → Int → Int → (Abs.Rows → Int → Option R) → Option R := match m with
  | 0 => fun _ _ _ _ => none
  | m + 1 => fun r2 i3 i4 k =>
  Fn71 m r2 i3 i4 (fun r171 i172 => bif decide ((↑(List.length r171) : Int) > (0 : Int)) then (Fn39 m r2 i172 ((12 : Int)) (fun b173 i174 => Jn33_2 m (fun r206 b207 i208 => k r206 i208) r171 b173 r2 i174)) else
  (Jn33_2 m (fun r209 b210 i211 => k r209 i211) r171 false r2 i172))
def brFn33 (m : Nat) (T : Tbl) (R : Type) (vs : List V) (k : V → List V → Option R) : Option R := match vs with
  | [V.obj [V.f (F.lst [LT.int IntKind.i64] r2), V.f (F.lit (Value.int IntKind.i64 i3))], V.f (F.lit (Value.int IntKind.i64 i4))] => Fn33 m r2 i3 i4 (fun r212 i213 => k (V.own [LT.int IntKind.i64, LT.int IntKind.i64, LT.int IntKind.i64, LT.int IntKind.i64, LT.int IntKind.i64, LT.bool, LT.lst [LT.int IntKind.u8]] r212) [V.obj [V.f (F.lst [LT.int IntKind.i64] r2), V.f (F.lit (Value.int IntKind.i64 i213))], V.undef])
  | _ => T R 33 vs k
set_option maxRecDepth 100000 in
theorem evFn33 (m : Nat) (R : Type) (r2 : Abs.Rows) (i3 : Int) (i4 : Int) (k : V → List V → Option R) : runK Try.prog H (T7 m) (L6 m) 33 [V.obj [V.f (F.lst [LT.int IntKind.i64] r2), V.f (F.lit (Value.int IntKind.i64 i3))], V.f (F.lit (Value.int IntKind.i64 i4))] k = Fn33 (m + 1) r2 i3 i4 (fun r212 i213 => k (V.own [LT.int IntKind.i64, LT.int IntKind.i64, LT.int IntKind.i64, LT.int IntKind.i64, LT.int IntKind.i64, LT.bool, LT.lst [LT.int IntKind.u8]] r212) [V.obj [V.f (F.lst [LT.int IntKind.i64] r2), V.f (F.lit (Value.int IntKind.i64 i213))], V.undef]) := by kernel_rfl
def T8 (m : Nat) : Tbl := addT 33 (brFn33 m (T7 m)) (T7 m)
theorem okT8 (m : Nat) : TblOk Try.prog (T8 m) := addT_ok (okT7 m) fun R vs k x h => by
  unfold brFn33 at h
  split at h
  · cases m with
    | zero => cases h
    | succ m => exact runK_some (okT7 m) hM (okL6 m) ((evFn33 m R _ _ _ k).trans h)
  · exact okT7 m R 33 _ k x h

/-- hookflash/number.IsMoment -/
def Fn79 {R : Type} (m : Nat) : Int → (Bool → Option R) → Option R := match m with
  | 0 => fun _ _ => none
  | m + 1 => fun i223 k =>
  bif decide (i223 ≥ (0 : Int)) then (k (decide (i223 < (345686400000 : Int)))) else
  (k false)
def brFn79 (m : Nat) (T : Tbl) (R : Type) (vs : List V) (k : V → List V → Option R) : Option R := match vs with
  | [V.f (F.lit (Value.int IntKind.i64 i223))] => Fn79 m i223 (fun b224 => k (V.f (F.lit (Value.bool b224))) [V.undef])
  | _ => T R 79 vs k
set_option maxRecDepth 100000 in
theorem evFn79 (m : Nat) (R : Type) (i223 : Int) (k : V → List V → Option R) : runK Try.prog H (T8 m) (L6 m) 79 [V.f (F.lit (Value.int IntKind.i64 i223))] k = Fn79 (m + 1) i223 (fun b224 => k (V.f (F.lit (Value.bool b224))) [V.undef]) := by kernel_rfl
def T9 (m : Nat) : Tbl := addT 79 (brFn79 m (T8 m)) (T8 m)
theorem okT9 (m : Nat) : TblOk Try.prog (T9 m) := addT_ok (okT8 m) fun R vs k x h => by
  unfold brFn79 at h
  split at h
  · cases m with
    | zero => cases h
    | succ m => exact runK_some (okT8 m) hM (okL6 m) ((evFn79 m R _ k).trans h)
  · exact okT8 m R 79 _ k x h

/-- hookflash/media.within -/
def Fn67 {R : Type} (m : Nat) : Int → Int → Int → (Bool → Option R) → Option R := match m with
  | 0 => fun _ _ _ _ => none
  | m + 1 => fun i232 i233 i234 k =>
  bif decide (i232 ≥ i233) then (k (decide (i232 ≤ i234))) else
  (k false)
def brFn67 (m : Nat) (T : Tbl) (R : Type) (vs : List V) (k : V → List V → Option R) : Option R := match vs with
  | [V.f (F.lit (Value.int IntKind.i64 i232)), V.f (F.lit (Value.int IntKind.i64 i233)), V.f (F.lit (Value.int IntKind.i64 i234))] => Fn67 m i232 i233 i234 (fun b235 => k (V.f (F.lit (Value.bool b235))) [V.undef, V.undef, V.undef])
  | _ => T R 67 vs k
set_option maxRecDepth 100000 in
theorem evFn67 (m : Nat) (R : Type) (i232 : Int) (i233 : Int) (i234 : Int) (k : V → List V → Option R) : runK Try.prog H (T9 m) (L6 m) 67 [V.f (F.lit (Value.int IntKind.i64 i232)), V.f (F.lit (Value.int IntKind.i64 i233)), V.f (F.lit (Value.int IntKind.i64 i234))] k = Fn67 (m + 1) i232 i233 i234 (fun b235 => k (V.f (F.lit (Value.bool b235))) [V.undef, V.undef, V.undef]) := by kernel_rfl
def T10 (m : Nat) : Tbl := addT 67 (brFn67 m (T9 m)) (T9 m)
theorem okT10 (m : Nat) : TblOk Try.prog (T10 m) := addT_ok (okT9 m) fun R vs k x h => by
  unfold brFn67 at h
  split at h
  · cases m with
    | zero => cases h
    | succ m => exact runK_some (okT9 m) hM (okL6 m) ((evFn67 m R _ _ _ k).trans h)
  · exact okT9 m R 67 _ k x h

/-- a rest of hookflash/media.CheckPacket -/
def Jn16_1 {R : Type} (m : Nat) (kx0 : Int → Bool → Option R) (kx1 : Bool → Option R) (i237 : Int) (i238 : Int) (i239 : Int) (i240 : Int) (b241 : Bool) (r242 : Abs.Rows) (i243 : Int) (b244 : Bool) : Option R :=
  bif b244 then (kx0 ((1 : Int)) true) else
  (bif decide ((↑(List.length r242) : Int) > (1000 : Int)) then (kx0 ((2 : Int)) false) else
  (kx1 false))
def brJn16_1 (m : Nat) (L : LTbl) (R : Type) (vs : List V) (k : Ex → List V → Option R) : Option R := match vs with
  | [V.obj [V.f (F.lit (Value.int IntKind.i64 i237)), V.f (F.lit (Value.int IntKind.i64 i238)), V.f (F.lit (Value.int IntKind.i64 i239)), V.f (F.lit (Value.int IntKind.i64 i240)), V.f (F.lit (Value.bool b241)), V.f (F.lst [LT.int IntKind.u8] r242)], V.f (F.lit (Value.int IntKind.i64 i243)), V.f (F.lit (Value.bool b244)), V.undef] => Jn16_1 m (fun i245 b246 => k Ex.ret [V.obj [V.f (F.lit (Value.int IntKind.i64 i237)), V.f (F.lit (Value.int IntKind.i64 i238)), V.f (F.lit (Value.int IntKind.i64 i239)), V.f (F.lit (Value.int IntKind.i64 i240)), V.f (F.lit (Value.bool b241)), V.f (F.lst [LT.int IntKind.u8] r242)], V.f (F.lit (Value.int IntKind.i64 i245)), V.f (F.lit (Value.bool b246)), V.undef]) (fun b247 => k Ex.normal [V.obj [V.f (F.lit (Value.int IntKind.i64 i237)), V.f (F.lit (Value.int IntKind.i64 i238)), V.f (F.lit (Value.int IntKind.i64 i239)), V.f (F.lit (Value.int IntKind.i64 i240)), V.f (F.lit (Value.bool b241)), V.f (F.lst [LT.int IntKind.u8] r242)], V.f (F.lit (Value.int IntKind.i64 i243)), V.f (F.lit (Value.bool b247)), V.undef]) i237 i238 i239 i240 b241 r242 i243 b244
  | _ => L R 16 1 vs k
set_option maxRecDepth 100000 in
theorem evJn16_1 (m : Nat) (R : Type) (i237 : Int) (i238 : Int) (i239 : Int) (i240 : Int) (b241 : Bool) (r242 : Abs.Rows) (i243 : Int) (b244 : Bool) (k : Ex → List V → Option R) : codeK Try.prog H (T10 m) 16 (L6 m) 2 (loopBody Try.prog 16 1) (mkEnv [1, 2, 3, 31] [V.obj [V.f (F.lit (Value.int IntKind.i64 i237)), V.f (F.lit (Value.int IntKind.i64 i238)), V.f (F.lit (Value.int IntKind.i64 i239)), V.f (F.lit (Value.int IntKind.i64 i240)), V.f (F.lit (Value.bool b241)), V.f (F.lst [LT.int IntKind.u8] r242)], V.f (F.lit (Value.int IntKind.i64 i243)), V.f (F.lit (Value.bool b244)), V.undef] 0 (H.len 16)) (fun e env' => k e (vals [1, 2, 3, 31] env')) = Jn16_1 m (fun i245 b246 => k Ex.ret [V.obj [V.f (F.lit (Value.int IntKind.i64 i237)), V.f (F.lit (Value.int IntKind.i64 i238)), V.f (F.lit (Value.int IntKind.i64 i239)), V.f (F.lit (Value.int IntKind.i64 i240)), V.f (F.lit (Value.bool b241)), V.f (F.lst [LT.int IntKind.u8] r242)], V.f (F.lit (Value.int IntKind.i64 i245)), V.f (F.lit (Value.bool b246)), V.undef]) (fun b247 => k Ex.normal [V.obj [V.f (F.lit (Value.int IntKind.i64 i237)), V.f (F.lit (Value.int IntKind.i64 i238)), V.f (F.lit (Value.int IntKind.i64 i239)), V.f (F.lit (Value.int IntKind.i64 i240)), V.f (F.lit (Value.bool b241)), V.f (F.lst [LT.int IntKind.u8] r242)], V.f (F.lit (Value.int IntKind.i64 i243)), V.f (F.lit (Value.bool b247)), V.undef]) i237 i238 i239 i240 b241 r242 i243 b244 := by kernel_rfl
def L7 (m : Nat) : LTbl := addJ 16 1 (brJn16_1 m (L6 m)) (L6 m)
theorem okL7 (m : Nat) : LTOk Try.prog H (L7 m) := addJ_ok (okT10 m) hM (okL6 m) (l := [1, 2, 3, 31]) (by kernel_rfl) (by kernel_rfl) fun R vs k x h => by
    unfold brJn16_1 at h
    split at h
    · exact .inl ((evJn16_1 m R _ _ _ _ _ _ _ _ k).trans h)
    · exact .inr h

/-- hookflash/media.CheckPacket -/
def Fn16 {R : Type} (m : Nat) : Int → Int → Int → Int → Bool → Abs.Rows → (Int → Option R) → Option R := match m with
  | 0 => fun _ _ _ _ _ _ _ => none
  | m + 1 => fun i226 i227 i228 i229 b230 r231 k =>
  Fn67 m i226 ((0 : Int)) ((127 : Int)) (fun b236 => bif !b236 then (Jn16_1 m (fun i248 b249 => k i248) (fun b250 => k ((0 : Int))) i226 i227 i228 i229 b230 r231 ((0 : Int)) true) else
  (Fn67 m i227 ((0 : Int)) ((65535 : Int)) (fun b251 => bif !b251 then (Jn16_1 m (fun i252 b253 => k i252) (fun b254 => k ((0 : Int))) i226 i227 i228 i229 b230 r231 ((0 : Int)) true) else
  (Fn67 m i228 ((0 : Int)) ((4294967295 : Int)) (fun b255 => bif !b255 then (Jn16_1 m (fun i256 b257 => k i256) (fun b258 => k ((0 : Int))) i226 i227 i228 i229 b230 r231 ((0 : Int)) true) else
  (Fn67 m i229 ((0 : Int)) ((4294967295 : Int)) (fun b259 => Jn16_1 m (fun i260 b261 => k i260) (fun b262 => k ((0 : Int))) i226 i227 i228 i229 b230 r231 ((0 : Int)) (!b259))))))))
def brFn16 (m : Nat) (T : Tbl) (R : Type) (vs : List V) (k : V → List V → Option R) : Option R := match vs with
  | [V.agg [V.f (F.lit (Value.int IntKind.i64 i226)), V.f (F.lit (Value.int IntKind.i64 i227)), V.f (F.lit (Value.int IntKind.i64 i228)), V.f (F.lit (Value.int IntKind.i64 i229)), V.f (F.lit (Value.bool b230)), V.f (F.lst [LT.int IntKind.u8] r231)]] => Fn16 m i226 i227 i228 i229 b230 r231 (fun i263 => k (V.f (F.lit (Value.int IntKind.i64 i263))) [V.undef])
  | _ => T R 16 vs k
set_option maxRecDepth 100000 in
theorem evFn16 (m : Nat) (R : Type) (i226 : Int) (i227 : Int) (i228 : Int) (i229 : Int) (b230 : Bool) (r231 : Abs.Rows) (k : V → List V → Option R) : runK Try.prog H (T10 m) (L7 m) 16 [V.agg [V.f (F.lit (Value.int IntKind.i64 i226)), V.f (F.lit (Value.int IntKind.i64 i227)), V.f (F.lit (Value.int IntKind.i64 i228)), V.f (F.lit (Value.int IntKind.i64 i229)), V.f (F.lit (Value.bool b230)), V.f (F.lst [LT.int IntKind.u8] r231)]] k = Fn16 (m + 1) i226 i227 i228 i229 b230 r231 (fun i263 => k (V.f (F.lit (Value.int IntKind.i64 i263))) [V.undef]) := by kernel_rfl
def T11 (m : Nat) : Tbl := addT 16 (brFn16 m (T10 m)) (T10 m)
theorem okT11 (m : Nat) : TblOk Try.prog (T11 m) := addT_ok (okT10 m) fun R vs k x h => by
  unfold brFn16 at h
  split at h
  · cases m with
    | zero => cases h
    | succ m => exact runK_some (okT10 m) hM (okL7 m) ((evFn16 m R _ _ _ _ _ _ k).trans h)
  · exact okT10 m R 16 _ k x h

/-- a rest of hookflash/media.CheckArrivals -/
def Jn49_18 {R : Type} (m : Nat) (kx0 : Int → Option R) (kx1 : Option R) (r265 : Abs.Rows) (i266 : Int) (i267 : Int) (i268 : Int) (i269 : Int) (i270 : Int) (i271 : Int) (b272 : Bool) (r273 : Abs.Rows) (r274 : Abs.Rows) (i275 : Int) (i276 : Int) : Option R :=
  bif decide ((0 : Int) ≤ (0 : Int) ∧ (0 : Int) < (↑(List.length r265) : Int)) then (bif i271 != fI r265 (Int.toNat (0 : Int)) (4 : Nat) then (kx0 ((13 : Int))) else
  (kx1 )) else
  (none)
def brJn49_18 (m : Nat) (L : LTbl) (R : Type) (vs : List V) (k : Ex → List V → Option R) : Option R := match vs with
  | [V.bor [LT.int IntKind.i64, LT.int IntKind.i64, LT.int IntKind.i64, LT.int IntKind.i64, LT.int IntKind.i64, LT.bool, LT.lst [LT.int IntKind.u8]] r265, V.f (F.lit (Value.int IntKind.i64 i266)), V.obj [V.f (F.lit (Value.int IntKind.i64 i267)), V.f (F.lit (Value.int IntKind.i64 i268)), V.f (F.lit (Value.int IntKind.i64 i269)), V.f (F.lit (Value.int IntKind.i64 i270)), V.f (F.lit (Value.int IntKind.i64 i271)), V.f (F.lit (Value.bool b272)), V.f (F.lst [LT.int IntKind.u8] r273)], V.bor [LT.int IntKind.i64, LT.int IntKind.i64, LT.int IntKind.i64, LT.int IntKind.i64, LT.int IntKind.i64, LT.bool, LT.lst [LT.int IntKind.u8]] r274, V.f (F.lit (Value.int IntKind.i64 i275)), V.f (F.lit (Value.int IntKind.i64 i276)), V.undef] => Jn49_18 m (fun i277 => k Ex.ret [V.bor [LT.int IntKind.i64, LT.int IntKind.i64, LT.int IntKind.i64, LT.int IntKind.i64, LT.int IntKind.i64, LT.bool, LT.lst [LT.int IntKind.u8]] r265, V.f (F.lit (Value.int IntKind.i64 i277)), V.obj [V.f (F.lit (Value.int IntKind.i64 i267)), V.f (F.lit (Value.int IntKind.i64 i268)), V.f (F.lit (Value.int IntKind.i64 i269)), V.f (F.lit (Value.int IntKind.i64 i270)), V.f (F.lit (Value.int IntKind.i64 i271)), V.f (F.lit (Value.bool b272)), V.f (F.lst [LT.int IntKind.u8] r273)], V.bor [LT.int IntKind.i64, LT.int IntKind.i64, LT.int IntKind.i64, LT.int IntKind.i64, LT.int IntKind.i64, LT.bool, LT.lst [LT.int IntKind.u8]] r274, V.f (F.lit (Value.int IntKind.i64 i275)), V.f (F.lit (Value.int IntKind.i64 i276)), V.undef]) (k Ex.normal [V.bor [LT.int IntKind.i64, LT.int IntKind.i64, LT.int IntKind.i64, LT.int IntKind.i64, LT.int IntKind.i64, LT.bool, LT.lst [LT.int IntKind.u8]] r265, V.f (F.lit (Value.int IntKind.i64 i266)), V.obj [V.f (F.lit (Value.int IntKind.i64 i267)), V.f (F.lit (Value.int IntKind.i64 i268)), V.f (F.lit (Value.int IntKind.i64 i269)), V.f (F.lit (Value.int IntKind.i64 i270)), V.f (F.lit (Value.int IntKind.i64 i271)), V.f (F.lit (Value.bool b272)), V.f (F.lst [LT.int IntKind.u8] r273)], V.bor [LT.int IntKind.i64, LT.int IntKind.i64, LT.int IntKind.i64, LT.int IntKind.i64, LT.int IntKind.i64, LT.bool, LT.lst [LT.int IntKind.u8]] r274, V.f (F.lit (Value.int IntKind.i64 i275)), V.f (F.lit (Value.int IntKind.i64 i276)), V.undef]) r265 i266 i267 i268 i269 i270 i271 b272 r273 r274 i275 i276
  | _ => L R 49 18 vs k
set_option maxRecDepth 100000 in
theorem evJn49_18 (m : Nat) (R : Type) (r265 : Abs.Rows) (i266 : Int) (i267 : Int) (i268 : Int) (i269 : Int) (i270 : Int) (i271 : Int) (b272 : Bool) (r273 : Abs.Rows) (r274 : Abs.Rows) (i275 : Int) (i276 : Int) (k : Ex → List V → Option R) : codeK Try.prog H (T11 m) 49 (L7 m) 19 (loopBody Try.prog 49 18) (mkEnv [0, 2, 4, 9, 10, 11, 49] [V.bor [LT.int IntKind.i64, LT.int IntKind.i64, LT.int IntKind.i64, LT.int IntKind.i64, LT.int IntKind.i64, LT.bool, LT.lst [LT.int IntKind.u8]] r265, V.f (F.lit (Value.int IntKind.i64 i266)), V.obj [V.f (F.lit (Value.int IntKind.i64 i267)), V.f (F.lit (Value.int IntKind.i64 i268)), V.f (F.lit (Value.int IntKind.i64 i269)), V.f (F.lit (Value.int IntKind.i64 i270)), V.f (F.lit (Value.int IntKind.i64 i271)), V.f (F.lit (Value.bool b272)), V.f (F.lst [LT.int IntKind.u8] r273)], V.bor [LT.int IntKind.i64, LT.int IntKind.i64, LT.int IntKind.i64, LT.int IntKind.i64, LT.int IntKind.i64, LT.bool, LT.lst [LT.int IntKind.u8]] r274, V.f (F.lit (Value.int IntKind.i64 i275)), V.f (F.lit (Value.int IntKind.i64 i276)), V.undef] 0 (H.len 49)) (fun e env' => k e (vals [0, 2, 4, 9, 10, 11, 49] env')) = Jn49_18 m (fun i277 => k Ex.ret [V.bor [LT.int IntKind.i64, LT.int IntKind.i64, LT.int IntKind.i64, LT.int IntKind.i64, LT.int IntKind.i64, LT.bool, LT.lst [LT.int IntKind.u8]] r265, V.f (F.lit (Value.int IntKind.i64 i277)), V.obj [V.f (F.lit (Value.int IntKind.i64 i267)), V.f (F.lit (Value.int IntKind.i64 i268)), V.f (F.lit (Value.int IntKind.i64 i269)), V.f (F.lit (Value.int IntKind.i64 i270)), V.f (F.lit (Value.int IntKind.i64 i271)), V.f (F.lit (Value.bool b272)), V.f (F.lst [LT.int IntKind.u8] r273)], V.bor [LT.int IntKind.i64, LT.int IntKind.i64, LT.int IntKind.i64, LT.int IntKind.i64, LT.int IntKind.i64, LT.bool, LT.lst [LT.int IntKind.u8]] r274, V.f (F.lit (Value.int IntKind.i64 i275)), V.f (F.lit (Value.int IntKind.i64 i276)), V.undef]) (k Ex.normal [V.bor [LT.int IntKind.i64, LT.int IntKind.i64, LT.int IntKind.i64, LT.int IntKind.i64, LT.int IntKind.i64, LT.bool, LT.lst [LT.int IntKind.u8]] r265, V.f (F.lit (Value.int IntKind.i64 i266)), V.obj [V.f (F.lit (Value.int IntKind.i64 i267)), V.f (F.lit (Value.int IntKind.i64 i268)), V.f (F.lit (Value.int IntKind.i64 i269)), V.f (F.lit (Value.int IntKind.i64 i270)), V.f (F.lit (Value.int IntKind.i64 i271)), V.f (F.lit (Value.bool b272)), V.f (F.lst [LT.int IntKind.u8] r273)], V.bor [LT.int IntKind.i64, LT.int IntKind.i64, LT.int IntKind.i64, LT.int IntKind.i64, LT.int IntKind.i64, LT.bool, LT.lst [LT.int IntKind.u8]] r274, V.f (F.lit (Value.int IntKind.i64 i275)), V.f (F.lit (Value.int IntKind.i64 i276)), V.undef]) r265 i266 i267 i268 i269 i270 i271 b272 r273 r274 i275 i276 := by kernel_rfl
def L8 (m : Nat) : LTbl := addJ 49 18 (brJn49_18 m (L7 m)) (L7 m)
theorem okL8 (m : Nat) : LTOk Try.prog H (L8 m) := addJ_ok (okT11 m) hM (okL7 m) (l := [0, 2, 4, 9, 10, 11, 49]) (by kernel_rfl) (by kernel_rfl) fun R vs k x h => by
    unfold brJn49_18 at h
    split at h
    · exact .inl ((evJn49_18 m R _ _ _ _ _ _ _ _ _ _ _ _ k).trans h)
    · exact .inr h

/-- a round of a loop of hookflash/media.CheckArrivals -/
def Lp49_5_step {R : Type} (m : Nat) (kx0 : Int → Int → Option R) (kx1 : Int → Option R) (r218 : Abs.Rows) (i219 : Int) (r220 : Abs.Rows) (i221 : Int) (REC : Int → Option R) (i222 : Int) : Option R :=
  bif decide (i222 < i221) then (bif decide ((0 : Int) ≤ i222 ∧ i222 < (↑(List.length r220) : Int)) then (Fn79 m (fI r220 (Int.toNat i222) (0 : Nat)) (fun b225 => bif !b225 then (kx0 ((1 : Int)) i222) else
  (Fn16 m (fI r220 (Int.toNat i222) (1 : Nat)) (fI r220 (Int.toNat i222) (2 : Nat)) (fI r220 (Int.toNat i222) (3 : Nat)) (fI r220 (Int.toNat i222) (4 : Nat)) (fB r220 (Int.toNat i222) (5 : Nat)) (fR r220 (Int.toNat i222) (6 : Nat)) (fun i264 => bif i264 != (0 : Int) then (kx0 i264 i222) else
  (bif decide (i222 > (0 : Int)) then (bif decide ((0 : Int) ≤ IntKind.wrap IntKind.i64 (i222 - (1 : Int)) ∧ IntKind.wrap IntKind.i64 (i222 - (1 : Int)) < (↑(List.length r218) : Int)) then (bif decide (fI r220 (Int.toNat i222) (0 : Nat) < fI r218 (Int.toNat (IntKind.wrap IntKind.i64 (i222 - (1 : Int)))) (0 : Nat)) then (kx0 ((7 : Int)) i222) else
  (Jn49_18 m (fun i278 => kx0 i278 i222) (REC (IntKind.wrap IntKind.i64 (i222 + (1 : Int)))) r218 i219 (fI r220 (Int.toNat i222) (0 : Nat)) (fI r220 (Int.toNat i222) (1 : Nat)) (fI r220 (Int.toNat i222) (2 : Nat)) (fI r220 (Int.toNat i222) (3 : Nat)) (fI r220 (Int.toNat i222) (4 : Nat)) (fB r220 (Int.toNat i222) (5 : Nat)) (fR r220 (Int.toNat i222) (6 : Nat)) r220 i221 i222)) else
  (none)) else
  (Jn49_18 m (fun i279 => kx0 i279 i222) (REC (IntKind.wrap IntKind.i64 (i222 + (1 : Int)))) r218 i219 (fI r220 (Int.toNat i222) (0 : Nat)) (fI r220 (Int.toNat i222) (1 : Nat)) (fI r220 (Int.toNat i222) (2 : Nat)) (fI r220 (Int.toNat i222) (3 : Nat)) (fI r220 (Int.toNat i222) (4 : Nat)) (fB r220 (Int.toNat i222) (5 : Nat)) (fR r220 (Int.toNat i222) (6 : Nat)) r220 i221 i222)))))) else
  (none)) else
  (kx1 i222)
def Lp49_5 {R : Type} (m : Nat) (kx0 : Int → Int → Option R) (kx1 : Int → Option R) (r218 : Abs.Rows) (i219 : Int) (r220 : Abs.Rows) (i221 : Int) : Nat → Int → Option R
  | 0, _ => none
  | n + 1, i222 => Lp49_5_step m kx0 kx1 r218 i219 r220 i221 (Lp49_5 m kx0 kx1 r218 i219 r220 i221 n) i222
def ELp49_5 (m : Nat) (R : Type) : Nat → List V → (Ex → List V → Option R) → Option R
  | 0, _, _ => none
  | n + 1, vs, k => match vs with
    | [V.bor [LT.int IntKind.i64, LT.int IntKind.i64, LT.int IntKind.i64, LT.int IntKind.i64, LT.int IntKind.i64, LT.bool, LT.lst [LT.int IntKind.u8]] r218, V.f (F.lit (Value.int IntKind.i64 i219)), V.bor [LT.int IntKind.i64, LT.int IntKind.i64, LT.int IntKind.i64, LT.int IntKind.i64, LT.int IntKind.i64, LT.bool, LT.lst [LT.int IntKind.u8]] r220, V.f (F.lit (Value.int IntKind.i64 i221)), V.f (F.lit (Value.int IntKind.i64 i222)), V.undef] => Lp49_5_step m (fun i280 i281 => k Ex.ret [V.bor [LT.int IntKind.i64, LT.int IntKind.i64, LT.int IntKind.i64, LT.int IntKind.i64, LT.int IntKind.i64, LT.bool, LT.lst [LT.int IntKind.u8]] r218, V.f (F.lit (Value.int IntKind.i64 i280)), V.bor [LT.int IntKind.i64, LT.int IntKind.i64, LT.int IntKind.i64, LT.int IntKind.i64, LT.int IntKind.i64, LT.bool, LT.lst [LT.int IntKind.u8]] r220, V.f (F.lit (Value.int IntKind.i64 i221)), V.f (F.lit (Value.int IntKind.i64 i281)), V.undef]) (fun i282 => k (Ex.exit (0 : Nat)) [V.bor [LT.int IntKind.i64, LT.int IntKind.i64, LT.int IntKind.i64, LT.int IntKind.i64, LT.int IntKind.i64, LT.bool, LT.lst [LT.int IntKind.u8]] r218, V.f (F.lit (Value.int IntKind.i64 i219)), V.bor [LT.int IntKind.i64, LT.int IntKind.i64, LT.int IntKind.i64, LT.int IntKind.i64, LT.int IntKind.i64, LT.bool, LT.lst [LT.int IntKind.u8]] r220, V.f (F.lit (Value.int IntKind.i64 i221)), V.f (F.lit (Value.int IntKind.i64 i282)), V.undef]) r218 i219 r220 i221 (fun i222 => ELp49_5 m R n [V.bor [LT.int IntKind.i64, LT.int IntKind.i64, LT.int IntKind.i64, LT.int IntKind.i64, LT.int IntKind.i64, LT.bool, LT.lst [LT.int IntKind.u8]] r218, V.f (F.lit (Value.int IntKind.i64 i219)), V.bor [LT.int IntKind.i64, LT.int IntKind.i64, LT.int IntKind.i64, LT.int IntKind.i64, LT.int IntKind.i64, LT.bool, LT.lst [LT.int IntKind.u8]] r220, V.f (F.lit (Value.int IntKind.i64 i221)), V.f (F.lit (Value.int IntKind.i64 i222)), V.undef] k) i222
    | _ => none
def brLp49_5 (m : Nat) (L : LTbl) (R : Type) (vs : List V) (k : Ex → List V → Option R) : Option R := match vs with
  | [V.bor [LT.int IntKind.i64, LT.int IntKind.i64, LT.int IntKind.i64, LT.int IntKind.i64, LT.int IntKind.i64, LT.bool, LT.lst [LT.int IntKind.u8]] r218, V.f (F.lit (Value.int IntKind.i64 i219)), V.bor [LT.int IntKind.i64, LT.int IntKind.i64, LT.int IntKind.i64, LT.int IntKind.i64, LT.int IntKind.i64, LT.bool, LT.lst [LT.int IntKind.u8]] r220, V.f (F.lit (Value.int IntKind.i64 i221)), V.f (F.lit (Value.int IntKind.i64 i222)), V.undef] => Lp49_5 m (fun i280 i281 => k Ex.ret [V.bor [LT.int IntKind.i64, LT.int IntKind.i64, LT.int IntKind.i64, LT.int IntKind.i64, LT.int IntKind.i64, LT.bool, LT.lst [LT.int IntKind.u8]] r218, V.f (F.lit (Value.int IntKind.i64 i280)), V.bor [LT.int IntKind.i64, LT.int IntKind.i64, LT.int IntKind.i64, LT.int IntKind.i64, LT.int IntKind.i64, LT.bool, LT.lst [LT.int IntKind.u8]] r220, V.f (F.lit (Value.int IntKind.i64 i221)), V.f (F.lit (Value.int IntKind.i64 i281)), V.undef]) (fun i282 => k (Ex.exit (0 : Nat)) [V.bor [LT.int IntKind.i64, LT.int IntKind.i64, LT.int IntKind.i64, LT.int IntKind.i64, LT.int IntKind.i64, LT.bool, LT.lst [LT.int IntKind.u8]] r218, V.f (F.lit (Value.int IntKind.i64 i219)), V.bor [LT.int IntKind.i64, LT.int IntKind.i64, LT.int IntKind.i64, LT.int IntKind.i64, LT.int IntKind.i64, LT.bool, LT.lst [LT.int IntKind.u8]] r220, V.f (F.lit (Value.int IntKind.i64 i221)), V.f (F.lit (Value.int IntKind.i64 i282)), V.undef]) r218 i219 r220 i221 m i222
  | _ => L R 49 5 vs k
set_option maxRecDepth 100000 in
theorem stLp49_5 (m n : Nat) (R : Type) (r218 : Abs.Rows) (i219 : Int) (r220 : Abs.Rows) (i221 : Int) (i222 : Int) (k : Ex → List V → Option R) : codeK Try.prog H (T11 m) 49 (L8 m) 6 (loopBody Try.prog 49 5) (mkEnv [0, 2, 9, 10, 11, 49] [V.bor [LT.int IntKind.i64, LT.int IntKind.i64, LT.int IntKind.i64, LT.int IntKind.i64, LT.int IntKind.i64, LT.bool, LT.lst [LT.int IntKind.u8]] r218, V.f (F.lit (Value.int IntKind.i64 i219)), V.bor [LT.int IntKind.i64, LT.int IntKind.i64, LT.int IntKind.i64, LT.int IntKind.i64, LT.int IntKind.i64, LT.bool, LT.lst [LT.int IntKind.u8]] r220, V.f (F.lit (Value.int IntKind.i64 i221)), V.f (F.lit (Value.int IntKind.i64 i222)), V.undef] 0 (H.len 49)) (fun e env' => match e with | .normal => ELp49_5 m R n (vals [0, 2, 9, 10, 11, 49] env') k | e => k e (vals [0, 2, 9, 10, 11, 49] env')) = Lp49_5_step m (fun i280 i281 => k Ex.ret [V.bor [LT.int IntKind.i64, LT.int IntKind.i64, LT.int IntKind.i64, LT.int IntKind.i64, LT.int IntKind.i64, LT.bool, LT.lst [LT.int IntKind.u8]] r218, V.f (F.lit (Value.int IntKind.i64 i280)), V.bor [LT.int IntKind.i64, LT.int IntKind.i64, LT.int IntKind.i64, LT.int IntKind.i64, LT.int IntKind.i64, LT.bool, LT.lst [LT.int IntKind.u8]] r220, V.f (F.lit (Value.int IntKind.i64 i221)), V.f (F.lit (Value.int IntKind.i64 i281)), V.undef]) (fun i282 => k (Ex.exit (0 : Nat)) [V.bor [LT.int IntKind.i64, LT.int IntKind.i64, LT.int IntKind.i64, LT.int IntKind.i64, LT.int IntKind.i64, LT.bool, LT.lst [LT.int IntKind.u8]] r218, V.f (F.lit (Value.int IntKind.i64 i219)), V.bor [LT.int IntKind.i64, LT.int IntKind.i64, LT.int IntKind.i64, LT.int IntKind.i64, LT.int IntKind.i64, LT.bool, LT.lst [LT.int IntKind.u8]] r220, V.f (F.lit (Value.int IntKind.i64 i221)), V.f (F.lit (Value.int IntKind.i64 i282)), V.undef]) r218 i219 r220 i221 (fun i222 => ELp49_5 m R n [V.bor [LT.int IntKind.i64, LT.int IntKind.i64, LT.int IntKind.i64, LT.int IntKind.i64, LT.int IntKind.i64, LT.bool, LT.lst [LT.int IntKind.u8]] r218, V.f (F.lit (Value.int IntKind.i64 i219)), V.bor [LT.int IntKind.i64, LT.int IntKind.i64, LT.int IntKind.i64, LT.int IntKind.i64, LT.int IntKind.i64, LT.bool, LT.lst [LT.int IntKind.u8]] r220, V.f (F.lit (Value.int IntKind.i64 i221)), V.f (F.lit (Value.int IntKind.i64 i222)), V.undef] k) i222 := by kernel_rfl
theorem eqLp49_5 (m : Nat) (R : Type) (r218 : Abs.Rows) (i219 : Int) (r220 : Abs.Rows) (i221 : Int) (k : Ex → List V → Option R) : ∀ (n : Nat) (i222 : Int), ELp49_5 m R n [V.bor [LT.int IntKind.i64, LT.int IntKind.i64, LT.int IntKind.i64, LT.int IntKind.i64, LT.int IntKind.i64, LT.bool, LT.lst [LT.int IntKind.u8]] r218, V.f (F.lit (Value.int IntKind.i64 i219)), V.bor [LT.int IntKind.i64, LT.int IntKind.i64, LT.int IntKind.i64, LT.int IntKind.i64, LT.int IntKind.i64, LT.bool, LT.lst [LT.int IntKind.u8]] r220, V.f (F.lit (Value.int IntKind.i64 i221)), V.f (F.lit (Value.int IntKind.i64 i222)), V.undef] k = Lp49_5 m (fun i280 i281 => k Ex.ret [V.bor [LT.int IntKind.i64, LT.int IntKind.i64, LT.int IntKind.i64, LT.int IntKind.i64, LT.int IntKind.i64, LT.bool, LT.lst [LT.int IntKind.u8]] r218, V.f (F.lit (Value.int IntKind.i64 i280)), V.bor [LT.int IntKind.i64, LT.int IntKind.i64, LT.int IntKind.i64, LT.int IntKind.i64, LT.int IntKind.i64, LT.bool, LT.lst [LT.int IntKind.u8]] r220, V.f (F.lit (Value.int IntKind.i64 i221)), V.f (F.lit (Value.int IntKind.i64 i281)), V.undef]) (fun i282 => k (Ex.exit (0 : Nat)) [V.bor [LT.int IntKind.i64, LT.int IntKind.i64, LT.int IntKind.i64, LT.int IntKind.i64, LT.int IntKind.i64, LT.bool, LT.lst [LT.int IntKind.u8]] r218, V.f (F.lit (Value.int IntKind.i64 i219)), V.bor [LT.int IntKind.i64, LT.int IntKind.i64, LT.int IntKind.i64, LT.int IntKind.i64, LT.int IntKind.i64, LT.bool, LT.lst [LT.int IntKind.u8]] r220, V.f (F.lit (Value.int IntKind.i64 i221)), V.f (F.lit (Value.int IntKind.i64 i282)), V.undef]) r218 i219 r220 i221 n i222
  | 0, _ => rfl
  | n + 1, i222 => by
    simp only [ELp49_5, Lp49_5]
    congr 1
    funext i222
    exact eqLp49_5 m R r218 i219 r220 i221 k n i222
def L9 (m : Nat) : LTbl := addB 49 5 (brLp49_5 m (L8 m)) (L8 m)
theorem okL9 (m : Nat) : LTOk Try.prog H (L9 m) := addB_ok (okT11 m) hM (okL8 m) (l := [0, 2, 9, 10, 11, 49]) (by kernel_rfl) (by kernel_rfl) m (fun R n vs k => ELp49_5 m R n vs k) (fun R vs k => rfl) (fun R n vs k x h => by
      simp only [ELp49_5] at h
      split at h
      · exact (stLp49_5 m n R _ _ _ _ _ k).trans h
      · cases h) fun R vs k x h => by
    unfold brLp49_5 at h
    split at h
    · exact .inl ((eqLp49_5 m R _ _ _ _ k m _).trans h)
    · exact .inr h

/-- hookflash/media.CheckArrivals -/
def Fn49 {R : Type} (m : Nat) : Abs.Rows → (Int → Option R) → Option R := match m with
  | 0 => fun _ _ => none
  | m + 1 => fun r217 k =>
  bif decide ((↑(List.length r217) : Int) > (2000 : Int)) then (k ((2 : Int))) else
  (Lp49_5 m (fun i283 i284 => k i283) (fun i285 => k ((0 : Int))) r217 ((0 : Int)) r217 ((↑(List.length r217) : Int)) m ((0 : Int)))
def brFn49 (m : Nat) (T : Tbl) (R : Type) (vs : List V) (k : V → List V → Option R) : Option R := match vs with
  | [V.bor [LT.int IntKind.i64, LT.int IntKind.i64, LT.int IntKind.i64, LT.int IntKind.i64, LT.int IntKind.i64, LT.bool, LT.lst [LT.int IntKind.u8]] r217] => Fn49 m r217 (fun i286 => k (V.f (F.lit (Value.int IntKind.i64 i286))) [V.undef])
  | _ => T R 49 vs k
set_option maxRecDepth 100000 in
theorem evFn49 (m : Nat) (R : Type) (r217 : Abs.Rows) (k : V → List V → Option R) : runK Try.prog H (T11 m) (L9 m) 49 [V.bor [LT.int IntKind.i64, LT.int IntKind.i64, LT.int IntKind.i64, LT.int IntKind.i64, LT.int IntKind.i64, LT.bool, LT.lst [LT.int IntKind.u8]] r217] k = Fn49 (m + 1) r217 (fun i286 => k (V.f (F.lit (Value.int IntKind.i64 i286))) [V.undef]) := by kernel_rfl
def T12 (m : Nat) : Tbl := addT 49 (brFn49 m (T11 m)) (T11 m)
theorem okT12 (m : Nat) : TblOk Try.prog (T12 m) := addT_ok (okT11 m) fun R vs k x h => by
  unfold brFn49 at h
  split at h
  · cases m with
    | zero => cases h
    | succ m => exact runK_some (okT11 m) hM (okL9 m) ((evFn49 m R _ k).trans h)
  · exact okT11 m R 49 _ k x h

/-- hookflash/media.near -/
def Fn95 {R : Type} (m : Nat) : Int → Int → Int → (Int → Option R) → Option R := match m with
  | 0 => fun _ _ _ _ => none
  | m + 1 => fun i295 i296 i297 k =>
  bif decide (bitsOp IntKind.i64 (BitVec.ofInt (64 : Nat) (IntKind.wrap IntKind.i64 (i296 - i295)) &&& BitVec.ofInt (64 : Nat) (IntKind.wrap IntKind.i64 (i297 - (1 : Int)))) > IntKind.wrap IntKind.i64 (Int.tdiv i297 (2 : Int))) then (k (IntKind.wrap IntKind.i64 (i295 + IntKind.wrap IntKind.i64 (bitsOp IntKind.i64 (BitVec.ofInt (64 : Nat) (IntKind.wrap IntKind.i64 (i296 - i295)) &&& BitVec.ofInt (64 : Nat) (IntKind.wrap IntKind.i64 (i297 - (1 : Int)))) - i297)))) else
  (k (IntKind.wrap IntKind.i64 (i295 + bitsOp IntKind.i64 (BitVec.ofInt (64 : Nat) (IntKind.wrap IntKind.i64 (i296 - i295)) &&& BitVec.ofInt (64 : Nat) (IntKind.wrap IntKind.i64 (i297 - (1 : Int)))))))
def brFn95 (m : Nat) (T : Tbl) (R : Type) (vs : List V) (k : V → List V → Option R) : Option R := match vs with
  | [V.f (F.lit (Value.int IntKind.i64 i295)), V.f (F.lit (Value.int IntKind.i64 i296)), V.f (F.lit (Value.int IntKind.i64 i297))] => Fn95 m i295 i296 i297 (fun i298 => k (V.f (F.lit (Value.int IntKind.i64 i298))) [V.undef, V.undef, V.undef])
  | _ => T R 95 vs k
set_option maxRecDepth 100000 in
theorem evFn95 (m : Nat) (R : Type) (i295 : Int) (i296 : Int) (i297 : Int) (k : V → List V → Option R) : runK Try.prog H (T12 m) (L9 m) 95 [V.f (F.lit (Value.int IntKind.i64 i295)), V.f (F.lit (Value.int IntKind.i64 i296)), V.f (F.lit (Value.int IntKind.i64 i297))] k = Fn95 (m + 1) i295 i296 i297 (fun i298 => k (V.f (F.lit (Value.int IntKind.i64 i298))) [V.undef, V.undef, V.undef]) := by kernel_rfl
def T13 (m : Nat) : Tbl := addT 95 (brFn95 m (T12 m)) (T12 m)
theorem okT13 (m : Nat) : TblOk Try.prog (T13 m) := addT_ok (okT12 m) fun R vs k x h => by
  unfold brFn95 at h
  split at h
  · cases m with
    | zero => cases h
    | succ m => exact runK_some (okT12 m) hM (okL9 m) ((evFn95 m R _ _ _ k).trans h)
  · exact okT12 m R 95 _ k x h

/-- a rest of hookflash/media.numbers -/
def Jn78_10 {R : Type} (m : Nat) (kx0 : Abs.Rows → Int → Option R) (r300 : Abs.Rows) (r301 : Abs.Rows) (i302 : Int) (i303 : Int) (r304 : Abs.Rows) (i305 : Int) (i306 : Int) : Option R :=
  bif decide (List.length r301 + List.length [[F.lit (Value.int IntKind.i64 i303)]] ≤ rowMax) then (letV (r301 ++ [[F.lit (Value.int IntKind.i64 i303)]]) (fun r307 => kx0 r307 (if i303 > i302 then i303 else i302))) else
  (none)
def brJn78_10 (m : Nat) (L : LTbl) (R : Type) (vs : List V) (k : Ex → List V → Option R) : Option R := match vs with
  | [V.bor [LT.int IntKind.i64, LT.int IntKind.i64, LT.int IntKind.i64, LT.int IntKind.i64, LT.int IntKind.i64, LT.bool, LT.lst [LT.int IntKind.u8]] r300, V.own [LT.int IntKind.i64] r301, V.f (F.lit (Value.int IntKind.i64 i302)), V.f (F.lit (Value.int IntKind.i64 i303)), V.bor [LT.int IntKind.i64, LT.int IntKind.i64, LT.int IntKind.i64, LT.int IntKind.i64, LT.int IntKind.i64, LT.bool, LT.lst [LT.int IntKind.u8]] r304, V.f (F.lit (Value.int IntKind.i64 i305)), V.f (F.lit (Value.int IntKind.i64 i306)), V.undef, V.undef] => Jn78_10 m (fun r308 i309 => k Ex.normal [V.bor [LT.int IntKind.i64, LT.int IntKind.i64, LT.int IntKind.i64, LT.int IntKind.i64, LT.int IntKind.i64, LT.bool, LT.lst [LT.int IntKind.u8]] r300, V.own [LT.int IntKind.i64] r308, V.f (F.lit (Value.int IntKind.i64 i309)), V.f (F.lit (Value.int IntKind.i64 i303)), V.bor [LT.int IntKind.i64, LT.int IntKind.i64, LT.int IntKind.i64, LT.int IntKind.i64, LT.int IntKind.i64, LT.bool, LT.lst [LT.int IntKind.u8]] r304, V.f (F.lit (Value.int IntKind.i64 i305)), V.f (F.lit (Value.int IntKind.i64 i306)), V.undef, V.undef]) r300 r301 i302 i303 r304 i305 i306
  | _ => L R 78 10 vs k
set_option maxRecDepth 100000 in
theorem evJn78_10 (m : Nat) (R : Type) (r300 : Abs.Rows) (r301 : Abs.Rows) (i302 : Int) (i303 : Int) (r304 : Abs.Rows) (i305 : Int) (i306 : Int) (k : Ex → List V → Option R) : codeK Try.prog H (T13 m) 78 (L9 m) 11 (loopBody Try.prog 78 10) (mkEnv [0, 3, 4, 7, 8, 9, 10, 32, 35] [V.bor [LT.int IntKind.i64, LT.int IntKind.i64, LT.int IntKind.i64, LT.int IntKind.i64, LT.int IntKind.i64, LT.bool, LT.lst [LT.int IntKind.u8]] r300, V.own [LT.int IntKind.i64] r301, V.f (F.lit (Value.int IntKind.i64 i302)), V.f (F.lit (Value.int IntKind.i64 i303)), V.bor [LT.int IntKind.i64, LT.int IntKind.i64, LT.int IntKind.i64, LT.int IntKind.i64, LT.int IntKind.i64, LT.bool, LT.lst [LT.int IntKind.u8]] r304, V.f (F.lit (Value.int IntKind.i64 i305)), V.f (F.lit (Value.int IntKind.i64 i306)), V.undef, V.undef] 0 (H.len 78)) (fun e env' => k e (vals [0, 3, 4, 7, 8, 9, 10, 32, 35] env')) = Jn78_10 m (fun r308 i309 => k Ex.normal [V.bor [LT.int IntKind.i64, LT.int IntKind.i64, LT.int IntKind.i64, LT.int IntKind.i64, LT.int IntKind.i64, LT.bool, LT.lst [LT.int IntKind.u8]] r300, V.own [LT.int IntKind.i64] r308, V.f (F.lit (Value.int IntKind.i64 i309)), V.f (F.lit (Value.int IntKind.i64 i303)), V.bor [LT.int IntKind.i64, LT.int IntKind.i64, LT.int IntKind.i64, LT.int IntKind.i64, LT.int IntKind.i64, LT.bool, LT.lst [LT.int IntKind.u8]] r304, V.f (F.lit (Value.int IntKind.i64 i305)), V.f (F.lit (Value.int IntKind.i64 i306)), V.undef, V.undef]) r300 r301 i302 i303 r304 i305 i306 := by kernel_rfl
def L10 (m : Nat) : LTbl := addJ 78 10 (brJn78_10 m (L9 m)) (L9 m)
theorem okL10 (m : Nat) : LTOk Try.prog H (L10 m) := addJ_ok (okT13 m) hM (okL9 m) (l := [0, 3, 4, 7, 8, 9, 10, 32, 35]) (by kernel_rfl) (by kernel_rfl) fun R vs k x h => by
    unfold brJn78_10 at h
    split at h
    · exact .inl ((evJn78_10 m R _ _ _ _ _ _ _ k).trans h)
    · exact .inr h

/-- a round of a loop of hookflash/media.numbers -/
def Lp78_4_step {R : Type} (m : Nat) (kx0 : Abs.Rows → Int → Int → Option R) (r289 : Abs.Rows) (r292 : Abs.Rows) (i293 : Int) (REC : Abs.Rows → Int → Int → Option R) (r290 : Abs.Rows) (i291 : Int) (i294 : Int) : Option R :=
  bif decide (i294 < i293) then (bif decide ((0 : Int) ≤ i294 ∧ i294 < (↑(List.length r292) : Int)) then (bif decide (i294 > (0 : Int)) then (Fn95 m i291 (fI r292 (Int.toNat i294) (2 : Nat)) ((65536 : Int)) (fun i299 => Jn78_10 m (fun r310 i311 => REC r310 i311 (IntKind.wrap IntKind.i64 (i294 + (1 : Int)))) r289 r290 i291 i299 r292 i293 i294)) else
  (Jn78_10 m (fun r312 i313 => REC r312 i313 (IntKind.wrap IntKind.i64 (i294 + (1 : Int)))) r289 r290 i291 (IntKind.wrap IntKind.i64 (fI r292 (Int.toNat i294) (2 : Nat) + (65536 : Int))) r292 i293 i294)) else
  (none)) else
  (kx0 r290 i291 i294)
def Lp78_4 {R : Type} (m : Nat) (kx0 : Abs.Rows → Int → Int → Option R) (r289 : Abs.Rows) (r292 : Abs.Rows) (i293 : Int) : Nat → Abs.Rows → Int → Int → Option R
  | 0, _, _, _ => none
  | n + 1, r290, i291, i294 => Lp78_4_step m kx0 r289 r292 i293 (Lp78_4 m kx0 r289 r292 i293 n) r290 i291 i294
def ELp78_4 (m : Nat) (R : Type) : Nat → List V → (Ex → List V → Option R) → Option R
  | 0, _, _ => none
  | n + 1, vs, k => match vs with
    | [V.bor [LT.int IntKind.i64, LT.int IntKind.i64, LT.int IntKind.i64, LT.int IntKind.i64, LT.int IntKind.i64, LT.bool, LT.lst [LT.int IntKind.u8]] r289, V.own [LT.int IntKind.i64] r290, V.f (F.lit (Value.int IntKind.i64 i291)), V.bor [LT.int IntKind.i64, LT.int IntKind.i64, LT.int IntKind.i64, LT.int IntKind.i64, LT.int IntKind.i64, LT.bool, LT.lst [LT.int IntKind.u8]] r292, V.f (F.lit (Value.int IntKind.i64 i293)), V.f (F.lit (Value.int IntKind.i64 i294)), V.undef] => Lp78_4_step m (fun r314 i315 i316 => k (Ex.exit (0 : Nat)) [V.bor [LT.int IntKind.i64, LT.int IntKind.i64, LT.int IntKind.i64, LT.int IntKind.i64, LT.int IntKind.i64, LT.bool, LT.lst [LT.int IntKind.u8]] r289, V.own [LT.int IntKind.i64] r314, V.f (F.lit (Value.int IntKind.i64 i315)), V.bor [LT.int IntKind.i64, LT.int IntKind.i64, LT.int IntKind.i64, LT.int IntKind.i64, LT.int IntKind.i64, LT.bool, LT.lst [LT.int IntKind.u8]] r292, V.f (F.lit (Value.int IntKind.i64 i293)), V.f (F.lit (Value.int IntKind.i64 i316)), V.undef]) r289 r292 i293 (fun r290 i291 i294 => ELp78_4 m R n [V.bor [LT.int IntKind.i64, LT.int IntKind.i64, LT.int IntKind.i64, LT.int IntKind.i64, LT.int IntKind.i64, LT.bool, LT.lst [LT.int IntKind.u8]] r289, V.own [LT.int IntKind.i64] r290, V.f (F.lit (Value.int IntKind.i64 i291)), V.bor [LT.int IntKind.i64, LT.int IntKind.i64, LT.int IntKind.i64, LT.int IntKind.i64, LT.int IntKind.i64, LT.bool, LT.lst [LT.int IntKind.u8]] r292, V.f (F.lit (Value.int IntKind.i64 i293)), V.f (F.lit (Value.int IntKind.i64 i294)), V.undef] k) r290 i291 i294
    | _ => none
def brLp78_4 (m : Nat) (L : LTbl) (R : Type) (vs : List V) (k : Ex → List V → Option R) : Option R := match vs with
  | [V.bor [LT.int IntKind.i64, LT.int IntKind.i64, LT.int IntKind.i64, LT.int IntKind.i64, LT.int IntKind.i64, LT.bool, LT.lst [LT.int IntKind.u8]] r289, V.own [LT.int IntKind.i64] r290, V.f (F.lit (Value.int IntKind.i64 i291)), V.bor [LT.int IntKind.i64, LT.int IntKind.i64, LT.int IntKind.i64, LT.int IntKind.i64, LT.int IntKind.i64, LT.bool, LT.lst [LT.int IntKind.u8]] r292, V.f (F.lit (Value.int IntKind.i64 i293)), V.f (F.lit (Value.int IntKind.i64 i294)), V.undef] => Lp78_4 m (fun r314 i315 i316 => k (Ex.exit (0 : Nat)) [V.bor [LT.int IntKind.i64, LT.int IntKind.i64, LT.int IntKind.i64, LT.int IntKind.i64, LT.int IntKind.i64, LT.bool, LT.lst [LT.int IntKind.u8]] r289, V.own [LT.int IntKind.i64] r314, V.f (F.lit (Value.int IntKind.i64 i315)), V.bor [LT.int IntKind.i64, LT.int IntKind.i64, LT.int IntKind.i64, LT.int IntKind.i64, LT.int IntKind.i64, LT.bool, LT.lst [LT.int IntKind.u8]] r292, V.f (F.lit (Value.int IntKind.i64 i293)), V.f (F.lit (Value.int IntKind.i64 i316)), V.undef]) r289 r292 i293 m r290 i291 i294
  | _ => L R 78 4 vs k
set_option maxRecDepth 100000 in
theorem stLp78_4 (m n : Nat) (R : Type) (r289 : Abs.Rows) (r290 : Abs.Rows) (i291 : Int) (r292 : Abs.Rows) (i293 : Int) (i294 : Int) (k : Ex → List V → Option R) : codeK Try.prog H (T13 m) 78 (L10 m) 5 (loopBody Try.prog 78 4) (mkEnv [0, 3, 4, 8, 9, 10, 35] [V.bor [LT.int IntKind.i64, LT.int IntKind.i64, LT.int IntKind.i64, LT.int IntKind.i64, LT.int IntKind.i64, LT.bool, LT.lst [LT.int IntKind.u8]] r289, V.own [LT.int IntKind.i64] r290, V.f (F.lit (Value.int IntKind.i64 i291)), V.bor [LT.int IntKind.i64, LT.int IntKind.i64, LT.int IntKind.i64, LT.int IntKind.i64, LT.int IntKind.i64, LT.bool, LT.lst [LT.int IntKind.u8]] r292, V.f (F.lit (Value.int IntKind.i64 i293)), V.f (F.lit (Value.int IntKind.i64 i294)), V.undef] 0 (H.len 78)) (fun e env' => match e with | .normal => ELp78_4 m R n (vals [0, 3, 4, 8, 9, 10, 35] env') k | e => k e (vals [0, 3, 4, 8, 9, 10, 35] env')) = Lp78_4_step m (fun r314 i315 i316 => k (Ex.exit (0 : Nat)) [V.bor [LT.int IntKind.i64, LT.int IntKind.i64, LT.int IntKind.i64, LT.int IntKind.i64, LT.int IntKind.i64, LT.bool, LT.lst [LT.int IntKind.u8]] r289, V.own [LT.int IntKind.i64] r314, V.f (F.lit (Value.int IntKind.i64 i315)), V.bor [LT.int IntKind.i64, LT.int IntKind.i64, LT.int IntKind.i64, LT.int IntKind.i64, LT.int IntKind.i64, LT.bool, LT.lst [LT.int IntKind.u8]] r292, V.f (F.lit (Value.int IntKind.i64 i293)), V.f (F.lit (Value.int IntKind.i64 i316)), V.undef]) r289 r292 i293 (fun r290 i291 i294 => ELp78_4 m R n [V.bor [LT.int IntKind.i64, LT.int IntKind.i64, LT.int IntKind.i64, LT.int IntKind.i64, LT.int IntKind.i64, LT.bool, LT.lst [LT.int IntKind.u8]] r289, V.own [LT.int IntKind.i64] r290, V.f (F.lit (Value.int IntKind.i64 i291)), V.bor [LT.int IntKind.i64, LT.int IntKind.i64, LT.int IntKind.i64, LT.int IntKind.i64, LT.int IntKind.i64, LT.bool, LT.lst [LT.int IntKind.u8]] r292, V.f (F.lit (Value.int IntKind.i64 i293)), V.f (F.lit (Value.int IntKind.i64 i294)), V.undef] k) r290 i291 i294 := by kernel_rfl
theorem eqLp78_4 (m : Nat) (R : Type) (r289 : Abs.Rows) (r292 : Abs.Rows) (i293 : Int) (k : Ex → List V → Option R) : ∀ (n : Nat) (r290 : Abs.Rows) (i291 : Int) (i294 : Int), ELp78_4 m R n [V.bor [LT.int IntKind.i64, LT.int IntKind.i64, LT.int IntKind.i64, LT.int IntKind.i64, LT.int IntKind.i64, LT.bool, LT.lst [LT.int IntKind.u8]] r289, V.own [LT.int IntKind.i64] r290, V.f (F.lit (Value.int IntKind.i64 i291)), V.bor [LT.int IntKind.i64, LT.int IntKind.i64, LT.int IntKind.i64, LT.int IntKind.i64, LT.int IntKind.i64, LT.bool, LT.lst [LT.int IntKind.u8]] r292, V.f (F.lit (Value.int IntKind.i64 i293)), V.f (F.lit (Value.int IntKind.i64 i294)), V.undef] k = Lp78_4 m (fun r314 i315 i316 => k (Ex.exit (0 : Nat)) [V.bor [LT.int IntKind.i64, LT.int IntKind.i64, LT.int IntKind.i64, LT.int IntKind.i64, LT.int IntKind.i64, LT.bool, LT.lst [LT.int IntKind.u8]] r289, V.own [LT.int IntKind.i64] r314, V.f (F.lit (Value.int IntKind.i64 i315)), V.bor [LT.int IntKind.i64, LT.int IntKind.i64, LT.int IntKind.i64, LT.int IntKind.i64, LT.int IntKind.i64, LT.bool, LT.lst [LT.int IntKind.u8]] r292, V.f (F.lit (Value.int IntKind.i64 i293)), V.f (F.lit (Value.int IntKind.i64 i316)), V.undef]) r289 r292 i293 n r290 i291 i294
  | 0, _, _, _ => rfl
  | n + 1, r290, i291, i294 => by
    simp only [ELp78_4, Lp78_4]
    congr 1
    funext r290 i291 i294
    exact eqLp78_4 m R r289 r292 i293 k n r290 i291 i294
def L11 (m : Nat) : LTbl := addB 78 4 (brLp78_4 m (L10 m)) (L10 m)
theorem okL11 (m : Nat) : LTOk Try.prog H (L11 m) := addB_ok (okT13 m) hM (okL10 m) (l := [0, 3, 4, 8, 9, 10, 35]) (by kernel_rfl) (by kernel_rfl) m (fun R n vs k => ELp78_4 m R n vs k) (fun R vs k => rfl) (fun R n vs k x h => by
      simp only [ELp78_4] at h
      split at h
      · exact (stLp78_4 m n R _ _ _ _ _ _ k).trans h
      · cases h) fun R vs k x h => by
    unfold brLp78_4 at h
    split at h
    · exact .inl ((eqLp78_4 m R _ _ _ k m _ _ _).trans h)
    · exact .inr h

/-- hookflash/media.numbers -/
def Fn78 {R : Type} (m : Nat) : Abs.Rows → (Abs.Rows → Option R) → Option R := match m with
  | 0 => fun _ _ => none
  | m + 1 => fun r288 k =>
  Lp78_4 m (fun r317 i318 i319 => k r317) r288 r288 ((↑(List.length r288) : Int)) m rows0 ((0 : Int)) ((0 : Int))
def brFn78 (m : Nat) (T : Tbl) (R : Type) (vs : List V) (k : V → List V → Option R) : Option R := match vs with
  | [V.bor [LT.int IntKind.i64, LT.int IntKind.i64, LT.int IntKind.i64, LT.int IntKind.i64, LT.int IntKind.i64, LT.bool, LT.lst [LT.int IntKind.u8]] r288] => Fn78 m r288 (fun r320 => k (V.own [LT.int IntKind.i64] r320) [V.undef])
  | _ => T R 78 vs k
set_option maxRecDepth 100000 in
theorem evFn78 (m : Nat) (R : Type) (r288 : Abs.Rows) (k : V → List V → Option R) : runK Try.prog H (T13 m) (L11 m) 78 [V.bor [LT.int IntKind.i64, LT.int IntKind.i64, LT.int IntKind.i64, LT.int IntKind.i64, LT.int IntKind.i64, LT.bool, LT.lst [LT.int IntKind.u8]] r288] k = Fn78 (m + 1) r288 (fun r320 => k (V.own [LT.int IntKind.i64] r320) [V.undef]) := by kernel_rfl
def T14 (m : Nat) : Tbl := addT 78 (brFn78 m (T13 m)) (T13 m)
theorem okT14 (m : Nat) : TblOk Try.prog (T14 m) := addT_ok (okT13 m) fun R vs k x h => by
  unfold brFn78 at h
  split at h
  · cases m with
    | zero => cases h
    | succ m => exact runK_some (okT13 m) hM (okL11 m) ((evFn78 m R _ k).trans h)
  · exact okT13 m R 78 _ k x h

/-- hookflash/media.Numbers -/
def Fn47 {R : Type} (m : Nat) : Abs.Rows → (Abs.Rows → Int → Option R) → Option R := match m with
  | 0 => fun _ _ => none
  | m + 1 => fun r216 k =>
  Fn49 m r216 (fun i287 => bif i287 != (0 : Int) then (k rows0 i287) else
  (Fn78 m r216 (fun r321 => k r321 ((0 : Int)))))
def brFn47 (m : Nat) (T : Tbl) (R : Type) (vs : List V) (k : V → List V → Option R) : Option R := match vs with
  | [V.bor [LT.int IntKind.i64, LT.int IntKind.i64, LT.int IntKind.i64, LT.int IntKind.i64, LT.int IntKind.i64, LT.bool, LT.lst [LT.int IntKind.u8]] r216] => Fn47 m r216 (fun r322 i323 => k (V.tup [V.own [LT.int IntKind.i64] r322, V.f (F.lit (Value.int IntKind.i64 i323))]) [V.undef])
  | _ => T R 47 vs k
set_option maxRecDepth 100000 in
theorem evFn47 (m : Nat) (R : Type) (r216 : Abs.Rows) (k : V → List V → Option R) : runK Try.prog H (T14 m) (L11 m) 47 [V.bor [LT.int IntKind.i64, LT.int IntKind.i64, LT.int IntKind.i64, LT.int IntKind.i64, LT.int IntKind.i64, LT.bool, LT.lst [LT.int IntKind.u8]] r216] k = Fn47 (m + 1) r216 (fun r322 i323 => k (V.tup [V.own [LT.int IntKind.i64] r322, V.f (F.lit (Value.int IntKind.i64 i323))]) [V.undef]) := by kernel_rfl
def T15 (m : Nat) : Tbl := addT 47 (brFn47 m (T14 m)) (T14 m)
theorem okT15 (m : Nat) : TblOk Try.prog (T15 m) := addT_ok (okT14 m) fun R vs k x h => by
  unfold brFn47 at h
  split at h
  · cases m with
    | zero => cases h
    | succ m => exact runK_some (okT14 m) hM (okL11 m) ((evFn47 m R _ k).trans h)
  · exact okT14 m R 47 _ k x h

/-- a rest of hookflash/media.Losses -/
def Jn48_19 {R : Type} (m : Nat) (kx0 : Int → Int → Abs.Rows → Option R) (r347 : Abs.Rows) (i348 : Int) (i349 : Int) (i350 : Int) (i351 : Int) (i352 : Int) (i353 : Int) (i354 : Int) (i355 : Int) (i356 : Int) (i357 : Int) (r358 : Abs.Rows) (i359 : Int) (i360 : Int) (r361 : Abs.Rows) (i362 : Int) (n363 : Nat) (i364 : Int) (i365 : Int) : Option R :=
  bif decide (List.length r361 < rowMax) then (kx0 (if i362 < i359 then i362 else i359) (if i362 > i360 then i362 else i360) (mPut (F.lit (Value.int IntKind.i64 i362)) [F.lit (Value.bool true)] r361)) else
  (none)
def brJn48_19 (m : Nat) (L : LTbl) (R : Type) (vs : List V) (k : Ex → List V → Option R) : Option R := match vs with
  | [V.bor [LT.int IntKind.i64, LT.int IntKind.i64, LT.int IntKind.i64, LT.int IntKind.i64, LT.int IntKind.i64, LT.bool, LT.lst [LT.int IntKind.u8]] r347, V.obj [V.f (F.lit (Value.int IntKind.i64 i348)), V.f (F.lit (Value.int IntKind.i64 i349)), V.f (F.lit (Value.int IntKind.i64 i350)), V.f (F.lit (Value.int IntKind.i64 i351)), V.f (F.lit (Value.int IntKind.i64 i352))], V.obj [V.f (F.lit (Value.int IntKind.i64 i353)), V.f (F.lit (Value.int IntKind.i64 i354)), V.f (F.lit (Value.int IntKind.i64 i355)), V.f (F.lit (Value.int IntKind.i64 i356)), V.f (F.lit (Value.int IntKind.i64 i357))], V.own [LT.int IntKind.i64] r358, V.f (F.lit (Value.int IntKind.i64 i359)), V.f (F.lit (Value.int IntKind.i64 i360)), V.own [LT.mp false, LT.int IntKind.i64, LT.bool] r361, V.f (F.lit (Value.int IntKind.i64 i362)), V.undef, V.undef, V.lent { slot := (6 : Nat), leaf := none } (1 : Nat) n363, V.f (F.lit (Value.int IntKind.i64 i364)), V.f (F.lit (Value.int IntKind.i64 i365)), V.undef] => Jn48_19 m (fun i366 i367 r368 => k Ex.normal [V.bor [LT.int IntKind.i64, LT.int IntKind.i64, LT.int IntKind.i64, LT.int IntKind.i64, LT.int IntKind.i64, LT.bool, LT.lst [LT.int IntKind.u8]] r347, V.obj [V.f (F.lit (Value.int IntKind.i64 i348)), V.f (F.lit (Value.int IntKind.i64 i349)), V.f (F.lit (Value.int IntKind.i64 i350)), V.f (F.lit (Value.int IntKind.i64 i351)), V.f (F.lit (Value.int IntKind.i64 i352))], V.obj [V.f (F.lit (Value.int IntKind.i64 i353)), V.f (F.lit (Value.int IntKind.i64 i354)), V.f (F.lit (Value.int IntKind.i64 i355)), V.f (F.lit (Value.int IntKind.i64 i356)), V.f (F.lit (Value.int IntKind.i64 i357))], V.own [LT.int IntKind.i64] r358, V.f (F.lit (Value.int IntKind.i64 i366)), V.f (F.lit (Value.int IntKind.i64 i367)), V.own [LT.mp false, LT.int IntKind.i64, LT.bool] r368, V.f (F.lit (Value.int IntKind.i64 i362)), V.undef, V.undef, V.lent { slot := (6 : Nat), leaf := none } (1 : Nat) n363, V.f (F.lit (Value.int IntKind.i64 i364)), V.f (F.lit (Value.int IntKind.i64 i365)), V.undef]) r347 i348 i349 i350 i351 i352 i353 i354 i355 i356 i357 r358 i359 i360 r361 i362 n363 i364 i365
  | _ => L R 48 19 vs k
set_option maxRecDepth 100000 in
theorem evJn48_19 (m : Nat) (R : Type) (r347 : Abs.Rows) (i348 : Int) (i349 : Int) (i350 : Int) (i351 : Int) (i352 : Int) (i353 : Int) (i354 : Int) (i355 : Int) (i356 : Int) (i357 : Int) (r358 : Abs.Rows) (i359 : Int) (i360 : Int) (r361 : Abs.Rows) (i362 : Int) (n363 : Nat) (i364 : Int) (i365 : Int) (k : Ex → List V → Option R) : codeK Try.prog H (T15 m) 48 (L11 m) 20 (loopBody Try.prog 48 19) (mkEnv [0, 2, 5, 6, 7, 8, 9, 11, 25, 32, 33, 34, 35, 123] [V.bor [LT.int IntKind.i64, LT.int IntKind.i64, LT.int IntKind.i64, LT.int IntKind.i64, LT.int IntKind.i64, LT.bool, LT.lst [LT.int IntKind.u8]] r347, V.obj [V.f (F.lit (Value.int IntKind.i64 i348)), V.f (F.lit (Value.int IntKind.i64 i349)), V.f (F.lit (Value.int IntKind.i64 i350)), V.f (F.lit (Value.int IntKind.i64 i351)), V.f (F.lit (Value.int IntKind.i64 i352))], V.obj [V.f (F.lit (Value.int IntKind.i64 i353)), V.f (F.lit (Value.int IntKind.i64 i354)), V.f (F.lit (Value.int IntKind.i64 i355)), V.f (F.lit (Value.int IntKind.i64 i356)), V.f (F.lit (Value.int IntKind.i64 i357))], V.own [LT.int IntKind.i64] r358, V.f (F.lit (Value.int IntKind.i64 i359)), V.f (F.lit (Value.int IntKind.i64 i360)), V.own [LT.mp false, LT.int IntKind.i64, LT.bool] r361, V.f (F.lit (Value.int IntKind.i64 i362)), V.undef, V.undef, V.lent { slot := (6 : Nat), leaf := none } (1 : Nat) n363, V.f (F.lit (Value.int IntKind.i64 i364)), V.f (F.lit (Value.int IntKind.i64 i365)), V.undef] 0 (H.len 48)) (fun e env' => k e (vals [0, 2, 5, 6, 7, 8, 9, 11, 25, 32, 33, 34, 35, 123] env')) = Jn48_19 m (fun i366 i367 r368 => k Ex.normal [V.bor [LT.int IntKind.i64, LT.int IntKind.i64, LT.int IntKind.i64, LT.int IntKind.i64, LT.int IntKind.i64, LT.bool, LT.lst [LT.int IntKind.u8]] r347, V.obj [V.f (F.lit (Value.int IntKind.i64 i348)), V.f (F.lit (Value.int IntKind.i64 i349)), V.f (F.lit (Value.int IntKind.i64 i350)), V.f (F.lit (Value.int IntKind.i64 i351)), V.f (F.lit (Value.int IntKind.i64 i352))], V.obj [V.f (F.lit (Value.int IntKind.i64 i353)), V.f (F.lit (Value.int IntKind.i64 i354)), V.f (F.lit (Value.int IntKind.i64 i355)), V.f (F.lit (Value.int IntKind.i64 i356)), V.f (F.lit (Value.int IntKind.i64 i357))], V.own [LT.int IntKind.i64] r358, V.f (F.lit (Value.int IntKind.i64 i366)), V.f (F.lit (Value.int IntKind.i64 i367)), V.own [LT.mp false, LT.int IntKind.i64, LT.bool] r368, V.f (F.lit (Value.int IntKind.i64 i362)), V.undef, V.undef, V.lent { slot := (6 : Nat), leaf := none } (1 : Nat) n363, V.f (F.lit (Value.int IntKind.i64 i364)), V.f (F.lit (Value.int IntKind.i64 i365)), V.undef]) r347 i348 i349 i350 i351 i352 i353 i354 i355 i356 i357 r358 i359 i360 r361 i362 n363 i364 i365 := by kernel_rfl
def L12 (m : Nat) : LTbl := addJ 48 19 (brJn48_19 m (L11 m)) (L11 m)
theorem okL12 (m : Nat) : LTOk Try.prog H (L12 m) := addJ_ok (okT15 m) hM (okL11 m) (l := [0, 2, 5, 6, 7, 8, 9, 11, 25, 32, 33, 34, 35, 123]) (by kernel_rfl) (by kernel_rfl) fun R vs k x h => by
    unfold brJn48_19 at h
    split at h
    · exact .inl ((evJn48_19 m R _ _ _ _ _ _ _ _ _ _ _ _ _ _ _ _ _ _ _ k).trans h)
    · exact .inr h

/-- a round of a loop of hookflash/media.Losses -/
def Lp48_13_step {R : Type} (m : Nat) (kx0 : Int → Int → Int → Int → Abs.Rows → Int → Option R) (r329 : Abs.Rows) (i330 : Int) (i331 : Int) (i332 : Int) (i333 : Int) (i334 : Int) (i335 : Int) (i336 : Int) (i339 : Int) (r340 : Abs.Rows) (n344 : Nat) (i345 : Int) (REC : Int → Int → Int → Int → Abs.Rows → Int → Option R) (i337 : Int) (i338 : Int) (i341 : Int) (i342 : Int) (r343 : Abs.Rows) (i346 : Int) : Option R :=
  bif decide (i346 < i345) then (bif decide ((0 : Int) ≤ i346 ∧ i346 < (↑n344 : Int)) then (bif F.toBool (List.headD (mRow (F.lit (Value.int IntKind.i64 (fI r340 (Int.toNat i346) (0 : Nat)))) [F.lit (Value.bool false)] r343) default) then (Jn48_19 m (fun i369 i370 r371 => REC (IntKind.wrap IntKind.i64 (i337 + (1 : Int))) i338 i369 i370 r371 (IntKind.wrap IntKind.i64 (i346 + (1 : Int)))) r329 i330 i331 i332 i333 i334 i335 i336 (IntKind.wrap IntKind.i64 (i337 + (1 : Int))) i338 i339 r340 i341 i342 r343 (fI r340 (Int.toNat i346) (0 : Nat)) n344 i345 i346) else
  (bif decide (fI r340 (Int.toNat i346) (0 : Nat) < i342) then (Jn48_19 m (fun i372 i373 r374 => REC i337 (IntKind.wrap IntKind.i64 (i338 + (1 : Int))) i372 i373 r374 (IntKind.wrap IntKind.i64 (i346 + (1 : Int)))) r329 i330 i331 i332 i333 i334 i335 i336 i337 (IntKind.wrap IntKind.i64 (i338 + (1 : Int))) i339 r340 i341 i342 r343 (fI r340 (Int.toNat i346) (0 : Nat)) n344 i345 i346) else
  (Jn48_19 m (fun i375 i376 r377 => REC i337 i338 i375 i376 r377 (IntKind.wrap IntKind.i64 (i346 + (1 : Int)))) r329 i330 i331 i332 i333 i334 i335 i336 i337 i338 i339 r340 i341 i342 r343 (fI r340 (Int.toNat i346) (0 : Nat)) n344 i345 i346))) else
  (none)) else
  (kx0 i337 i338 i341 i342 r343 i346)
def Lp48_13 {R : Type} (m : Nat) (kx0 : Int → Int → Int → Int → Abs.Rows → Int → Option R) (r329 : Abs.Rows) (i330 : Int) (i331 : Int) (i332 : Int) (i333 : Int) (i334 : Int) (i335 : Int) (i336 : Int) (i339 : Int) (r340 : Abs.Rows) (n344 : Nat) (i345 : Int) : Nat → Int → Int → Int → Int → Abs.Rows → Int → Option R
  | 0, _, _, _, _, _, _ => none
  | n + 1, i337, i338, i341, i342, r343, i346 => Lp48_13_step m kx0 r329 i330 i331 i332 i333 i334 i335 i336 i339 r340 n344 i345 (Lp48_13 m kx0 r329 i330 i331 i332 i333 i334 i335 i336 i339 r340 n344 i345 n) i337 i338 i341 i342 r343 i346
def ELp48_13 (m : Nat) (R : Type) : Nat → List V → (Ex → List V → Option R) → Option R
  | 0, _, _ => none
  | n + 1, vs, k => match vs with
    | [V.bor [LT.int IntKind.i64, LT.int IntKind.i64, LT.int IntKind.i64, LT.int IntKind.i64, LT.int IntKind.i64, LT.bool, LT.lst [LT.int IntKind.u8]] r329, V.obj [V.f (F.lit (Value.int IntKind.i64 i330)), V.f (F.lit (Value.int IntKind.i64 i331)), V.f (F.lit (Value.int IntKind.i64 i332)), V.f (F.lit (Value.int IntKind.i64 i333)), V.f (F.lit (Value.int IntKind.i64 i334))], V.obj [V.f (F.lit (Value.int IntKind.i64 i335)), V.f (F.lit (Value.int IntKind.i64 i336)), V.f (F.lit (Value.int IntKind.i64 i337)), V.f (F.lit (Value.int IntKind.i64 i338)), V.f (F.lit (Value.int IntKind.i64 i339))], V.own [LT.int IntKind.i64] r340, V.f (F.lit (Value.int IntKind.i64 i341)), V.f (F.lit (Value.int IntKind.i64 i342)), V.own [LT.mp false, LT.int IntKind.i64, LT.bool] r343, V.undef, V.undef, V.lent { slot := (6 : Nat), leaf := none } (1 : Nat) n344, V.f (F.lit (Value.int IntKind.i64 i345)), V.f (F.lit (Value.int IntKind.i64 i346)), V.undef] => Lp48_13_step m (fun i378 i379 i380 i381 r382 i383 => k (Ex.exit (0 : Nat)) [V.bor [LT.int IntKind.i64, LT.int IntKind.i64, LT.int IntKind.i64, LT.int IntKind.i64, LT.int IntKind.i64, LT.bool, LT.lst [LT.int IntKind.u8]] r329, V.obj [V.f (F.lit (Value.int IntKind.i64 i330)), V.f (F.lit (Value.int IntKind.i64 i331)), V.f (F.lit (Value.int IntKind.i64 i332)), V.f (F.lit (Value.int IntKind.i64 i333)), V.f (F.lit (Value.int IntKind.i64 i334))], V.obj [V.f (F.lit (Value.int IntKind.i64 i335)), V.f (F.lit (Value.int IntKind.i64 i336)), V.f (F.lit (Value.int IntKind.i64 i378)), V.f (F.lit (Value.int IntKind.i64 i379)), V.f (F.lit (Value.int IntKind.i64 i339))], V.own [LT.int IntKind.i64] r340, V.f (F.lit (Value.int IntKind.i64 i380)), V.f (F.lit (Value.int IntKind.i64 i381)), V.own [LT.mp false, LT.int IntKind.i64, LT.bool] r382, V.undef, V.undef, V.lent { slot := (6 : Nat), leaf := none } (1 : Nat) n344, V.f (F.lit (Value.int IntKind.i64 i345)), V.f (F.lit (Value.int IntKind.i64 i383)), V.undef]) r329 i330 i331 i332 i333 i334 i335 i336 i339 r340 n344 i345 (fun i337 i338 i341 i342 r343 i346 => ELp48_13 m R n [V.bor [LT.int IntKind.i64, LT.int IntKind.i64, LT.int IntKind.i64, LT.int IntKind.i64, LT.int IntKind.i64, LT.bool, LT.lst [LT.int IntKind.u8]] r329, V.obj [V.f (F.lit (Value.int IntKind.i64 i330)), V.f (F.lit (Value.int IntKind.i64 i331)), V.f (F.lit (Value.int IntKind.i64 i332)), V.f (F.lit (Value.int IntKind.i64 i333)), V.f (F.lit (Value.int IntKind.i64 i334))], V.obj [V.f (F.lit (Value.int IntKind.i64 i335)), V.f (F.lit (Value.int IntKind.i64 i336)), V.f (F.lit (Value.int IntKind.i64 i337)), V.f (F.lit (Value.int IntKind.i64 i338)), V.f (F.lit (Value.int IntKind.i64 i339))], V.own [LT.int IntKind.i64] r340, V.f (F.lit (Value.int IntKind.i64 i341)), V.f (F.lit (Value.int IntKind.i64 i342)), V.own [LT.mp false, LT.int IntKind.i64, LT.bool] r343, V.undef, V.undef, V.lent { slot := (6 : Nat), leaf := none } (1 : Nat) n344, V.f (F.lit (Value.int IntKind.i64 i345)), V.f (F.lit (Value.int IntKind.i64 i346)), V.undef] k) i337 i338 i341 i342 r343 i346
    | _ => none
def brLp48_13 (m : Nat) (L : LTbl) (R : Type) (vs : List V) (k : Ex → List V → Option R) : Option R := match vs with
  | [V.bor [LT.int IntKind.i64, LT.int IntKind.i64, LT.int IntKind.i64, LT.int IntKind.i64, LT.int IntKind.i64, LT.bool, LT.lst [LT.int IntKind.u8]] r329, V.obj [V.f (F.lit (Value.int IntKind.i64 i330)), V.f (F.lit (Value.int IntKind.i64 i331)), V.f (F.lit (Value.int IntKind.i64 i332)), V.f (F.lit (Value.int IntKind.i64 i333)), V.f (F.lit (Value.int IntKind.i64 i334))], V.obj [V.f (F.lit (Value.int IntKind.i64 i335)), V.f (F.lit (Value.int IntKind.i64 i336)), V.f (F.lit (Value.int IntKind.i64 i337)), V.f (F.lit (Value.int IntKind.i64 i338)), V.f (F.lit (Value.int IntKind.i64 i339))], V.own [LT.int IntKind.i64] r340, V.f (F.lit (Value.int IntKind.i64 i341)), V.f (F.lit (Value.int IntKind.i64 i342)), V.own [LT.mp false, LT.int IntKind.i64, LT.bool] r343, V.undef, V.undef, V.lent { slot := (6 : Nat), leaf := none } (1 : Nat) n344, V.f (F.lit (Value.int IntKind.i64 i345)), V.f (F.lit (Value.int IntKind.i64 i346)), V.undef] => Lp48_13 m (fun i378 i379 i380 i381 r382 i383 => k (Ex.exit (0 : Nat)) [V.bor [LT.int IntKind.i64, LT.int IntKind.i64, LT.int IntKind.i64, LT.int IntKind.i64, LT.int IntKind.i64, LT.bool, LT.lst [LT.int IntKind.u8]] r329, V.obj [V.f (F.lit (Value.int IntKind.i64 i330)), V.f (F.lit (Value.int IntKind.i64 i331)), V.f (F.lit (Value.int IntKind.i64 i332)), V.f (F.lit (Value.int IntKind.i64 i333)), V.f (F.lit (Value.int IntKind.i64 i334))], V.obj [V.f (F.lit (Value.int IntKind.i64 i335)), V.f (F.lit (Value.int IntKind.i64 i336)), V.f (F.lit (Value.int IntKind.i64 i378)), V.f (F.lit (Value.int IntKind.i64 i379)), V.f (F.lit (Value.int IntKind.i64 i339))], V.own [LT.int IntKind.i64] r340, V.f (F.lit (Value.int IntKind.i64 i380)), V.f (F.lit (Value.int IntKind.i64 i381)), V.own [LT.mp false, LT.int IntKind.i64, LT.bool] r382, V.undef, V.undef, V.lent { slot := (6 : Nat), leaf := none } (1 : Nat) n344, V.f (F.lit (Value.int IntKind.i64 i345)), V.f (F.lit (Value.int IntKind.i64 i383)), V.undef]) r329 i330 i331 i332 i333 i334 i335 i336 i339 r340 n344 i345 m i337 i338 i341 i342 r343 i346
  | _ => L R 48 13 vs k
set_option maxRecDepth 100000 in
theorem stLp48_13 (m n : Nat) (R : Type) (r329 : Abs.Rows) (i330 : Int) (i331 : Int) (i332 : Int) (i333 : Int) (i334 : Int) (i335 : Int) (i336 : Int) (i337 : Int) (i338 : Int) (i339 : Int) (r340 : Abs.Rows) (i341 : Int) (i342 : Int) (r343 : Abs.Rows) (n344 : Nat) (i345 : Int) (i346 : Int) (k : Ex → List V → Option R) : codeK Try.prog H (T15 m) 48 (L12 m) 14 (loopBody Try.prog 48 13) (mkEnv [0, 2, 5, 6, 7, 8, 9, 25, 32, 33, 34, 35, 123] [V.bor [LT.int IntKind.i64, LT.int IntKind.i64, LT.int IntKind.i64, LT.int IntKind.i64, LT.int IntKind.i64, LT.bool, LT.lst [LT.int IntKind.u8]] r329, V.obj [V.f (F.lit (Value.int IntKind.i64 i330)), V.f (F.lit (Value.int IntKind.i64 i331)), V.f (F.lit (Value.int IntKind.i64 i332)), V.f (F.lit (Value.int IntKind.i64 i333)), V.f (F.lit (Value.int IntKind.i64 i334))], V.obj [V.f (F.lit (Value.int IntKind.i64 i335)), V.f (F.lit (Value.int IntKind.i64 i336)), V.f (F.lit (Value.int IntKind.i64 i337)), V.f (F.lit (Value.int IntKind.i64 i338)), V.f (F.lit (Value.int IntKind.i64 i339))], V.own [LT.int IntKind.i64] r340, V.f (F.lit (Value.int IntKind.i64 i341)), V.f (F.lit (Value.int IntKind.i64 i342)), V.own [LT.mp false, LT.int IntKind.i64, LT.bool] r343, V.undef, V.undef, V.lent { slot := (6 : Nat), leaf := none } (1 : Nat) n344, V.f (F.lit (Value.int IntKind.i64 i345)), V.f (F.lit (Value.int IntKind.i64 i346)), V.undef] 0 (H.len 48)) (fun e env' => match e with | .normal => ELp48_13 m R n (vals [0, 2, 5, 6, 7, 8, 9, 25, 32, 33, 34, 35, 123] env') k | e => k e (vals [0, 2, 5, 6, 7, 8, 9, 25, 32, 33, 34, 35, 123] env')) = Lp48_13_step m (fun i378 i379 i380 i381 r382 i383 => k (Ex.exit (0 : Nat)) [V.bor [LT.int IntKind.i64, LT.int IntKind.i64, LT.int IntKind.i64, LT.int IntKind.i64, LT.int IntKind.i64, LT.bool, LT.lst [LT.int IntKind.u8]] r329, V.obj [V.f (F.lit (Value.int IntKind.i64 i330)), V.f (F.lit (Value.int IntKind.i64 i331)), V.f (F.lit (Value.int IntKind.i64 i332)), V.f (F.lit (Value.int IntKind.i64 i333)), V.f (F.lit (Value.int IntKind.i64 i334))], V.obj [V.f (F.lit (Value.int IntKind.i64 i335)), V.f (F.lit (Value.int IntKind.i64 i336)), V.f (F.lit (Value.int IntKind.i64 i378)), V.f (F.lit (Value.int IntKind.i64 i379)), V.f (F.lit (Value.int IntKind.i64 i339))], V.own [LT.int IntKind.i64] r340, V.f (F.lit (Value.int IntKind.i64 i380)), V.f (F.lit (Value.int IntKind.i64 i381)), V.own [LT.mp false, LT.int IntKind.i64, LT.bool] r382, V.undef, V.undef, V.lent { slot := (6 : Nat), leaf := none } (1 : Nat) n344, V.f (F.lit (Value.int IntKind.i64 i345)), V.f (F.lit (Value.int IntKind.i64 i383)), V.undef]) r329 i330 i331 i332 i333 i334 i335 i336 i339 r340 n344 i345 (fun i337 i338 i341 i342 r343 i346 => ELp48_13 m R n [V.bor [LT.int IntKind.i64, LT.int IntKind.i64, LT.int IntKind.i64, LT.int IntKind.i64, LT.int IntKind.i64, LT.bool, LT.lst [LT.int IntKind.u8]] r329, V.obj [V.f (F.lit (Value.int IntKind.i64 i330)), V.f (F.lit (Value.int IntKind.i64 i331)), V.f (F.lit (Value.int IntKind.i64 i332)), V.f (F.lit (Value.int IntKind.i64 i333)), V.f (F.lit (Value.int IntKind.i64 i334))], V.obj [V.f (F.lit (Value.int IntKind.i64 i335)), V.f (F.lit (Value.int IntKind.i64 i336)), V.f (F.lit (Value.int IntKind.i64 i337)), V.f (F.lit (Value.int IntKind.i64 i338)), V.f (F.lit (Value.int IntKind.i64 i339))], V.own [LT.int IntKind.i64] r340, V.f (F.lit (Value.int IntKind.i64 i341)), V.f (F.lit (Value.int IntKind.i64 i342)), V.own [LT.mp false, LT.int IntKind.i64, LT.bool] r343, V.undef, V.undef, V.lent { slot := (6 : Nat), leaf := none } (1 : Nat) n344, V.f (F.lit (Value.int IntKind.i64 i345)), V.f (F.lit (Value.int IntKind.i64 i346)), V.undef] k) i337 i338 i341 i342 r343 i346 := by kernel_rfl
theorem eqLp48_13 (m : Nat) (R : Type) (r329 : Abs.Rows) (i330 : Int) (i331 : Int) (i332 : Int) (i333 : Int) (i334 : Int) (i335 : Int) (i336 : Int) (i339 : Int) (r340 : Abs.Rows) (n344 : Nat) (i345 : Int) (k : Ex → List V → Option R) : ∀ (n : Nat) (i337 : Int) (i338 : Int) (i341 : Int) (i342 : Int) (r343 : Abs.Rows) (i346 : Int), ELp48_13 m R n [V.bor [LT.int IntKind.i64, LT.int IntKind.i64, LT.int IntKind.i64, LT.int IntKind.i64, LT.int IntKind.i64, LT.bool, LT.lst [LT.int IntKind.u8]] r329, V.obj [V.f (F.lit (Value.int IntKind.i64 i330)), V.f (F.lit (Value.int IntKind.i64 i331)), V.f (F.lit (Value.int IntKind.i64 i332)), V.f (F.lit (Value.int IntKind.i64 i333)), V.f (F.lit (Value.int IntKind.i64 i334))], V.obj [V.f (F.lit (Value.int IntKind.i64 i335)), V.f (F.lit (Value.int IntKind.i64 i336)), V.f (F.lit (Value.int IntKind.i64 i337)), V.f (F.lit (Value.int IntKind.i64 i338)), V.f (F.lit (Value.int IntKind.i64 i339))], V.own [LT.int IntKind.i64] r340, V.f (F.lit (Value.int IntKind.i64 i341)), V.f (F.lit (Value.int IntKind.i64 i342)), V.own [LT.mp false, LT.int IntKind.i64, LT.bool] r343, V.undef, V.undef, V.lent { slot := (6 : Nat), leaf := none } (1 : Nat) n344, V.f (F.lit (Value.int IntKind.i64 i345)), V.f (F.lit (Value.int IntKind.i64 i346)), V.undef] k = Lp48_13 m (fun i378 i379 i380 i381 r382 i383 => k (Ex.exit (0 : Nat)) [V.bor [LT.int IntKind.i64, LT.int IntKind.i64, LT.int IntKind.i64, LT.int IntKind.i64, LT.int IntKind.i64, LT.bool, LT.lst [LT.int IntKind.u8]] r329, V.obj [V.f (F.lit (Value.int IntKind.i64 i330)), V.f (F.lit (Value.int IntKind.i64 i331)), V.f (F.lit (Value.int IntKind.i64 i332)), V.f (F.lit (Value.int IntKind.i64 i333)), V.f (F.lit (Value.int IntKind.i64 i334))], V.obj [V.f (F.lit (Value.int IntKind.i64 i335)), V.f (F.lit (Value.int IntKind.i64 i336)), V.f (F.lit (Value.int IntKind.i64 i378)), V.f (F.lit (Value.int IntKind.i64 i379)), V.f (F.lit (Value.int IntKind.i64 i339))], V.own [LT.int IntKind.i64] r340, V.f (F.lit (Value.int IntKind.i64 i380)), V.f (F.lit (Value.int IntKind.i64 i381)), V.own [LT.mp false, LT.int IntKind.i64, LT.bool] r382, V.undef, V.undef, V.lent { slot := (6 : Nat), leaf := none } (1 : Nat) n344, V.f (F.lit (Value.int IntKind.i64 i345)), V.f (F.lit (Value.int IntKind.i64 i383)), V.undef]) r329 i330 i331 i332 i333 i334 i335 i336 i339 r340 n344 i345 n i337 i338 i341 i342 r343 i346
  | 0, _, _, _, _, _, _ => rfl
  | n + 1, i337, i338, i341, i342, r343, i346 => by
    simp only [ELp48_13, Lp48_13]
    congr 1
    funext i337 i338 i341 i342 r343 i346
    exact eqLp48_13 m R r329 i330 i331 i332 i333 i334 i335 i336 i339 r340 n344 i345 k n i337 i338 i341 i342 r343 i346
def L13 (m : Nat) : LTbl := addB 48 13 (brLp48_13 m (L12 m)) (L12 m)
theorem okL13 (m : Nat) : LTOk Try.prog H (L13 m) := addB_ok (okT15 m) hM (okL12 m) (l := [0, 2, 5, 6, 7, 8, 9, 25, 32, 33, 34, 35, 123]) (by kernel_rfl) (by kernel_rfl) m (fun R n vs k => ELp48_13 m R n vs k) (fun R vs k => rfl) (fun R n vs k x h => by
      simp only [ELp48_13] at h
      split at h
      · exact (stLp48_13 m n R _ _ _ _ _ _ _ _ _ _ _ _ _ _ _ _ _ _ k).trans h
      · cases h) fun R vs k x h => by
    unfold brLp48_13 at h
    split at h
    · exact .inl ((eqLp48_13 m R _ _ _ _ _ _ _ _ _ _ _ _ k m _ _ _ _ _ _).trans h)
    · exact .inr h

/-- hookflash/media.apart -/
def Fn72 {R : Type} (m : Nat) : Int → Int → (Int → Option R) → Option R := match m with
  | 0 => fun _ _ _ => none
  | m + 1 => fun i402 i403 k =>
  bif decide (bitsOp IntKind.i64 (BitVec.ofInt (64 : Nat) (IntKind.wrap IntKind.i64 (i402 - i403)) &&& BitVec.ofInt (64 : Nat) (4294967295 : Int)) ≥ (2147483648 : Int)) then (k (IntKind.wrap IntKind.i64 (bitsOp IntKind.i64 (BitVec.ofInt (64 : Nat) (IntKind.wrap IntKind.i64 (i402 - i403)) &&& BitVec.ofInt (64 : Nat) (4294967295 : Int)) - (4294967296 : Int)))) else
  (k (bitsOp IntKind.i64 (BitVec.ofInt (64 : Nat) (IntKind.wrap IntKind.i64 (i402 - i403)) &&& BitVec.ofInt (64 : Nat) (4294967295 : Int))))
def brFn72 (m : Nat) (T : Tbl) (R : Type) (vs : List V) (k : V → List V → Option R) : Option R := match vs with
  | [V.f (F.lit (Value.int IntKind.i64 i402)), V.f (F.lit (Value.int IntKind.i64 i403))] => Fn72 m i402 i403 (fun i404 => k (V.f (F.lit (Value.int IntKind.i64 i404))) [V.undef, V.undef])
  | _ => T R 72 vs k
set_option maxRecDepth 100000 in
theorem evFn72 (m : Nat) (R : Type) (i402 : Int) (i403 : Int) (k : V → List V → Option R) : runK Try.prog H (T15 m) (L13 m) 72 [V.f (F.lit (Value.int IntKind.i64 i402)), V.f (F.lit (Value.int IntKind.i64 i403))] k = Fn72 (m + 1) i402 i403 (fun i404 => k (V.f (F.lit (Value.int IntKind.i64 i404))) [V.undef, V.undef]) := by kernel_rfl
def T16 (m : Nat) : Tbl := addT 72 (brFn72 m (T15 m)) (T15 m)
theorem okT16 (m : Nat) : TblOk Try.prog (T16 m) := addT_ok (okT15 m) fun R vs k x h => by
  unfold brFn72 at h
  split at h
  · cases m with
    | zero => cases h
    | succ m => exact runK_some (okT15 m) hM (okL13 m) ((evFn72 m R _ _ k).trans h)
  · exact okT15 m R 72 _ k x h

/-- a round of a loop of hookflash/media.Losses -/
def Lp48_26_step {R : Type} (m : Nat) (kx0 : Int → Int → Option R) (r390 : Abs.Rows) (i391 : Int) (i392 : Int) (i393 : Int) (i394 : Int) (i395 : Int) (i396 : Int) (i397 : Int) (i398 : Int) (i399 : Int) (REC : Int → Int → Option R) (i400 : Int) (i401 : Int) : Option R :=
  bif decide (i401 < (↑(List.length r390) : Int)) then (bif decide ((0 : Int) ≤ i401 ∧ i401 < (↑(List.length r390) : Int)) then (bif decide ((0 : Int) ≤ IntKind.wrap IntKind.i64 (i401 - (1 : Int)) ∧ IntKind.wrap IntKind.i64 (i401 - (1 : Int)) < (↑(List.length r390) : Int)) then (bif decide ((0 : Int) ≤ i401 ∧ i401 < (↑(List.length r390) : Int)) then (bif decide ((0 : Int) ≤ IntKind.wrap IntKind.i64 (i401 - (1 : Int)) ∧ IntKind.wrap IntKind.i64 (i401 - (1 : Int)) < (↑(List.length r390) : Int)) then (Fn72 m (fI r390 (Int.toNat i401) (3 : Nat)) (fI r390 (Int.toNat (IntKind.wrap IntKind.i64 (i401 - (1 : Int)))) (3 : Nat)) (fun i405 => REC (IntKind.wrap IntKind.i64 (i400 + IntKind.wrap IntKind.i64 ((if IntKind.wrap IntKind.i64 ((0 : Int) - IntKind.wrap IntKind.i64 (IntKind.wrap IntKind.i64 (fI r390 (Int.toNat i401) (0 : Nat) - fI r390 (Int.toNat (IntKind.wrap IntKind.i64 (i401 - (1 : Int)))) (0 : Nat)) - Int.fdiv i405 ((2 : Int) ^ min (Int.toNat (3 : Int)) (64 : Nat)))) > IntKind.wrap IntKind.i64 (IntKind.wrap IntKind.i64 (fI r390 (Int.toNat i401) (0 : Nat) - fI r390 (Int.toNat (IntKind.wrap IntKind.i64 (i401 - (1 : Int)))) (0 : Nat)) - Int.fdiv i405 ((2 : Int) ^ min (Int.toNat (3 : Int)) (64 : Nat))) then IntKind.wrap IntKind.i64 ((0 : Int) - IntKind.wrap IntKind.i64 (IntKind.wrap IntKind.i64 (fI r390 (Int.toNat i401) (0 : Nat) - fI r390 (Int.toNat (IntKind.wrap IntKind.i64 (i401 - (1 : Int)))) (0 : Nat)) - Int.fdiv i405 ((2 : Int) ^ min (Int.toNat (3 : Int)) (64 : Nat)))) else IntKind.wrap IntKind.i64 (IntKind.wrap IntKind.i64 (fI r390 (Int.toNat i401) (0 : Nat) - fI r390 (Int.toNat (IntKind.wrap IntKind.i64 (i401 - (1 : Int)))) (0 : Nat)) - Int.fdiv i405 ((2 : Int) ^ min (Int.toNat (3 : Int)) (64 : Nat)))) - Int.fdiv (IntKind.wrap IntKind.i64 (i400 + (8 : Int))) ((2 : Int) ^ min (Int.toNat (4 : Int)) (64 : Nat))))) (IntKind.wrap IntKind.i64 (i401 + (1 : Int))))) else
  (none)) else
  (none)) else
  (none)) else
  (none)) else
  (kx0 i400 i401)
def Lp48_26 {R : Type} (m : Nat) (kx0 : Int → Int → Option R) (r390 : Abs.Rows) (i391 : Int) (i392 : Int) (i393 : Int) (i394 : Int) (i395 : Int) (i396 : Int) (i397 : Int) (i398 : Int) (i399 : Int) : Nat → Int → Int → Option R
  | 0, _, _ => none
  | n + 1, i400, i401 => Lp48_26_step m kx0 r390 i391 i392 i393 i394 i395 i396 i397 i398 i399 (Lp48_26 m kx0 r390 i391 i392 i393 i394 i395 i396 i397 i398 i399 n) i400 i401
def ELp48_26 (m : Nat) (R : Type) : Nat → List V → (Ex → List V → Option R) → Option R
  | 0, _, _ => none
  | n + 1, vs, k => match vs with
    | [V.bor [LT.int IntKind.i64, LT.int IntKind.i64, LT.int IntKind.i64, LT.int IntKind.i64, LT.int IntKind.i64, LT.bool, LT.lst [LT.int IntKind.u8]] r390, V.obj [V.f (F.lit (Value.int IntKind.i64 i391)), V.f (F.lit (Value.int IntKind.i64 i392)), V.f (F.lit (Value.int IntKind.i64 i393)), V.f (F.lit (Value.int IntKind.i64 i394)), V.f (F.lit (Value.int IntKind.i64 i395))], V.obj [V.f (F.lit (Value.int IntKind.i64 i396)), V.f (F.lit (Value.int IntKind.i64 i397)), V.f (F.lit (Value.int IntKind.i64 i398)), V.f (F.lit (Value.int IntKind.i64 i399)), V.f (F.lit (Value.int IntKind.i64 i400))], V.f (F.lit (Value.int IntKind.i64 i401)), V.undef] => Lp48_26_step m (fun i406 i407 => k (Ex.exit (3 : Nat)) [V.bor [LT.int IntKind.i64, LT.int IntKind.i64, LT.int IntKind.i64, LT.int IntKind.i64, LT.int IntKind.i64, LT.bool, LT.lst [LT.int IntKind.u8]] r390, V.obj [V.f (F.lit (Value.int IntKind.i64 i391)), V.f (F.lit (Value.int IntKind.i64 i392)), V.f (F.lit (Value.int IntKind.i64 i393)), V.f (F.lit (Value.int IntKind.i64 i394)), V.f (F.lit (Value.int IntKind.i64 i395))], V.obj [V.f (F.lit (Value.int IntKind.i64 i396)), V.f (F.lit (Value.int IntKind.i64 i397)), V.f (F.lit (Value.int IntKind.i64 i398)), V.f (F.lit (Value.int IntKind.i64 i399)), V.f (F.lit (Value.int IntKind.i64 i406))], V.f (F.lit (Value.int IntKind.i64 i407)), V.undef]) r390 i391 i392 i393 i394 i395 i396 i397 i398 i399 (fun i400 i401 => ELp48_26 m R n [V.bor [LT.int IntKind.i64, LT.int IntKind.i64, LT.int IntKind.i64, LT.int IntKind.i64, LT.int IntKind.i64, LT.bool, LT.lst [LT.int IntKind.u8]] r390, V.obj [V.f (F.lit (Value.int IntKind.i64 i391)), V.f (F.lit (Value.int IntKind.i64 i392)), V.f (F.lit (Value.int IntKind.i64 i393)), V.f (F.lit (Value.int IntKind.i64 i394)), V.f (F.lit (Value.int IntKind.i64 i395))], V.obj [V.f (F.lit (Value.int IntKind.i64 i396)), V.f (F.lit (Value.int IntKind.i64 i397)), V.f (F.lit (Value.int IntKind.i64 i398)), V.f (F.lit (Value.int IntKind.i64 i399)), V.f (F.lit (Value.int IntKind.i64 i400))], V.f (F.lit (Value.int IntKind.i64 i401)), V.undef] k) i400 i401
    | _ => none
def brLp48_26 (m : Nat) (L : LTbl) (R : Type) (vs : List V) (k : Ex → List V → Option R) : Option R := match vs with
  | [V.bor [LT.int IntKind.i64, LT.int IntKind.i64, LT.int IntKind.i64, LT.int IntKind.i64, LT.int IntKind.i64, LT.bool, LT.lst [LT.int IntKind.u8]] r390, V.obj [V.f (F.lit (Value.int IntKind.i64 i391)), V.f (F.lit (Value.int IntKind.i64 i392)), V.f (F.lit (Value.int IntKind.i64 i393)), V.f (F.lit (Value.int IntKind.i64 i394)), V.f (F.lit (Value.int IntKind.i64 i395))], V.obj [V.f (F.lit (Value.int IntKind.i64 i396)), V.f (F.lit (Value.int IntKind.i64 i397)), V.f (F.lit (Value.int IntKind.i64 i398)), V.f (F.lit (Value.int IntKind.i64 i399)), V.f (F.lit (Value.int IntKind.i64 i400))], V.f (F.lit (Value.int IntKind.i64 i401)), V.undef] => Lp48_26 m (fun i406 i407 => k (Ex.exit (3 : Nat)) [V.bor [LT.int IntKind.i64, LT.int IntKind.i64, LT.int IntKind.i64, LT.int IntKind.i64, LT.int IntKind.i64, LT.bool, LT.lst [LT.int IntKind.u8]] r390, V.obj [V.f (F.lit (Value.int IntKind.i64 i391)), V.f (F.lit (Value.int IntKind.i64 i392)), V.f (F.lit (Value.int IntKind.i64 i393)), V.f (F.lit (Value.int IntKind.i64 i394)), V.f (F.lit (Value.int IntKind.i64 i395))], V.obj [V.f (F.lit (Value.int IntKind.i64 i396)), V.f (F.lit (Value.int IntKind.i64 i397)), V.f (F.lit (Value.int IntKind.i64 i398)), V.f (F.lit (Value.int IntKind.i64 i399)), V.f (F.lit (Value.int IntKind.i64 i406))], V.f (F.lit (Value.int IntKind.i64 i407)), V.undef]) r390 i391 i392 i393 i394 i395 i396 i397 i398 i399 m i400 i401
  | _ => L R 48 26 vs k
set_option maxRecDepth 100000 in
theorem stLp48_26 (m n : Nat) (R : Type) (r390 : Abs.Rows) (i391 : Int) (i392 : Int) (i393 : Int) (i394 : Int) (i395 : Int) (i396 : Int) (i397 : Int) (i398 : Int) (i399 : Int) (i400 : Int) (i401 : Int) (k : Ex → List V → Option R) : codeK Try.prog H (T16 m) 48 (L13 m) 27 (loopBody Try.prog 48 26) (mkEnv [0, 2, 5, 12, 123] [V.bor [LT.int IntKind.i64, LT.int IntKind.i64, LT.int IntKind.i64, LT.int IntKind.i64, LT.int IntKind.i64, LT.bool, LT.lst [LT.int IntKind.u8]] r390, V.obj [V.f (F.lit (Value.int IntKind.i64 i391)), V.f (F.lit (Value.int IntKind.i64 i392)), V.f (F.lit (Value.int IntKind.i64 i393)), V.f (F.lit (Value.int IntKind.i64 i394)), V.f (F.lit (Value.int IntKind.i64 i395))], V.obj [V.f (F.lit (Value.int IntKind.i64 i396)), V.f (F.lit (Value.int IntKind.i64 i397)), V.f (F.lit (Value.int IntKind.i64 i398)), V.f (F.lit (Value.int IntKind.i64 i399)), V.f (F.lit (Value.int IntKind.i64 i400))], V.f (F.lit (Value.int IntKind.i64 i401)), V.undef] 0 (H.len 48)) (fun e env' => match e with | .normal => ELp48_26 m R n (vals [0, 2, 5, 12, 123] env') k | e => k e (vals [0, 2, 5, 12, 123] env')) = Lp48_26_step m (fun i406 i407 => k (Ex.exit (3 : Nat)) [V.bor [LT.int IntKind.i64, LT.int IntKind.i64, LT.int IntKind.i64, LT.int IntKind.i64, LT.int IntKind.i64, LT.bool, LT.lst [LT.int IntKind.u8]] r390, V.obj [V.f (F.lit (Value.int IntKind.i64 i391)), V.f (F.lit (Value.int IntKind.i64 i392)), V.f (F.lit (Value.int IntKind.i64 i393)), V.f (F.lit (Value.int IntKind.i64 i394)), V.f (F.lit (Value.int IntKind.i64 i395))], V.obj [V.f (F.lit (Value.int IntKind.i64 i396)), V.f (F.lit (Value.int IntKind.i64 i397)), V.f (F.lit (Value.int IntKind.i64 i398)), V.f (F.lit (Value.int IntKind.i64 i399)), V.f (F.lit (Value.int IntKind.i64 i406))], V.f (F.lit (Value.int IntKind.i64 i407)), V.undef]) r390 i391 i392 i393 i394 i395 i396 i397 i398 i399 (fun i400 i401 => ELp48_26 m R n [V.bor [LT.int IntKind.i64, LT.int IntKind.i64, LT.int IntKind.i64, LT.int IntKind.i64, LT.int IntKind.i64, LT.bool, LT.lst [LT.int IntKind.u8]] r390, V.obj [V.f (F.lit (Value.int IntKind.i64 i391)), V.f (F.lit (Value.int IntKind.i64 i392)), V.f (F.lit (Value.int IntKind.i64 i393)), V.f (F.lit (Value.int IntKind.i64 i394)), V.f (F.lit (Value.int IntKind.i64 i395))], V.obj [V.f (F.lit (Value.int IntKind.i64 i396)), V.f (F.lit (Value.int IntKind.i64 i397)), V.f (F.lit (Value.int IntKind.i64 i398)), V.f (F.lit (Value.int IntKind.i64 i399)), V.f (F.lit (Value.int IntKind.i64 i400))], V.f (F.lit (Value.int IntKind.i64 i401)), V.undef] k) i400 i401 := by kernel_rfl
theorem eqLp48_26 (m : Nat) (R : Type) (r390 : Abs.Rows) (i391 : Int) (i392 : Int) (i393 : Int) (i394 : Int) (i395 : Int) (i396 : Int) (i397 : Int) (i398 : Int) (i399 : Int) (k : Ex → List V → Option R) : ∀ (n : Nat) (i400 : Int) (i401 : Int), ELp48_26 m R n [V.bor [LT.int IntKind.i64, LT.int IntKind.i64, LT.int IntKind.i64, LT.int IntKind.i64, LT.int IntKind.i64, LT.bool, LT.lst [LT.int IntKind.u8]] r390, V.obj [V.f (F.lit (Value.int IntKind.i64 i391)), V.f (F.lit (Value.int IntKind.i64 i392)), V.f (F.lit (Value.int IntKind.i64 i393)), V.f (F.lit (Value.int IntKind.i64 i394)), V.f (F.lit (Value.int IntKind.i64 i395))], V.obj [V.f (F.lit (Value.int IntKind.i64 i396)), V.f (F.lit (Value.int IntKind.i64 i397)), V.f (F.lit (Value.int IntKind.i64 i398)), V.f (F.lit (Value.int IntKind.i64 i399)), V.f (F.lit (Value.int IntKind.i64 i400))], V.f (F.lit (Value.int IntKind.i64 i401)), V.undef] k = Lp48_26 m (fun i406 i407 => k (Ex.exit (3 : Nat)) [V.bor [LT.int IntKind.i64, LT.int IntKind.i64, LT.int IntKind.i64, LT.int IntKind.i64, LT.int IntKind.i64, LT.bool, LT.lst [LT.int IntKind.u8]] r390, V.obj [V.f (F.lit (Value.int IntKind.i64 i391)), V.f (F.lit (Value.int IntKind.i64 i392)), V.f (F.lit (Value.int IntKind.i64 i393)), V.f (F.lit (Value.int IntKind.i64 i394)), V.f (F.lit (Value.int IntKind.i64 i395))], V.obj [V.f (F.lit (Value.int IntKind.i64 i396)), V.f (F.lit (Value.int IntKind.i64 i397)), V.f (F.lit (Value.int IntKind.i64 i398)), V.f (F.lit (Value.int IntKind.i64 i399)), V.f (F.lit (Value.int IntKind.i64 i406))], V.f (F.lit (Value.int IntKind.i64 i407)), V.undef]) r390 i391 i392 i393 i394 i395 i396 i397 i398 i399 n i400 i401
  | 0, _, _ => rfl
  | n + 1, i400, i401 => by
    simp only [ELp48_26, Lp48_26]
    congr 1
    funext i400 i401
    exact eqLp48_26 m R r390 i391 i392 i393 i394 i395 i396 i397 i398 i399 k n i400 i401
def L14 (m : Nat) : LTbl := addB 48 26 (brLp48_26 m (L13 m)) (L13 m)
theorem okL14 (m : Nat) : LTOk Try.prog H (L14 m) := addB_ok (okT16 m) hM (okL13 m) (l := [0, 2, 5, 12, 123]) (by kernel_rfl) (by kernel_rfl) m (fun R n vs k => ELp48_26 m R n vs k) (fun R vs k => rfl) (fun R n vs k x h => by
      simp only [ELp48_26] at h
      split at h
      · exact (stLp48_26 m n R _ _ _ _ _ _ _ _ _ _ _ _ k).trans h
      · cases h) fun R vs k x h => by
    unfold brLp48_26 at h
    split at h
    · exact .inl ((eqLp48_26 m R _ _ _ _ _ _ _ _ _ _ k m _ _).trans h)
    · exact .inr h

/-- hookflash/media.Losses -/
def Fn48 {R : Type} (m : Nat) : Abs.Rows → (Int → Int → Int → Int → Int → Int → Option R) → Option R := match m with
  | 0 => fun _ _ => none
  | m + 1 => fun r326 k =>
  Fn49 m r326 (fun i327 => bif i327 != (0 : Int) then (k ((0 : Int)) ((0 : Int)) ((0 : Int)) ((0 : Int)) ((0 : Int)) i327) else
  (bif (↑(List.length r326) : Int) == (0 : Int) then (k ((0 : Int)) ((0 : Int)) ((0 : Int)) ((0 : Int)) ((0 : Int)) ((0 : Int))) else
  (Fn78 m r326 (fun r328 => bif decide ((0 : Int) ≤ (0 : Int) ∧ (0 : Int) < (↑(List.length r328) : Int)) then (bif decide ((0 : Int) ≤ (0 : Int) ∧ (0 : Int) < (↑(List.length r328) : Int)) then (Lp48_13 m (fun i384 i385 i386 i387 r388 i389 => Lp48_26 m (fun i408 i409 => k (IntKind.wrap IntKind.i64 (IntKind.wrap IntKind.i64 (i387 - i386) + (1 : Int))) (IntKind.wrap IntKind.i64 (IntKind.wrap IntKind.i64 (IntKind.wrap IntKind.i64 (i387 - i386) + (1 : Int)) - (↑(List.length r388) : Int))) i384 i385 i408 ((0 : Int))) r326 ((0 : Int)) ((0 : Int)) ((0 : Int)) ((0 : Int)) ((0 : Int)) (IntKind.wrap IntKind.i64 (IntKind.wrap IntKind.i64 (i387 - i386) + (1 : Int))) (IntKind.wrap IntKind.i64 (IntKind.wrap IntKind.i64 (IntKind.wrap IntKind.i64 (i387 - i386) + (1 : Int)) - (↑(List.length r388) : Int))) i384 i385 m ((0 : Int)) ((1 : Int))) r326 ((0 : Int)) ((0 : Int)) ((0 : Int)) ((0 : Int)) ((0 : Int)) ((0 : Int)) ((0 : Int)) ((0 : Int)) r328 (List.length r328) ((↑(List.length r328) : Int)) m ((0 : Int)) ((0 : Int)) (fI r328 (Int.toNat (0 : Int)) (0 : Nat)) (fI r328 (Int.toNat (0 : Int)) (0 : Nat)) rows0 ((0 : Int))) else
  (none)) else
  (none)))))
def brFn48 (m : Nat) (T : Tbl) (R : Type) (vs : List V) (k : V → List V → Option R) : Option R := match vs with
  | [V.bor [LT.int IntKind.i64, LT.int IntKind.i64, LT.int IntKind.i64, LT.int IntKind.i64, LT.int IntKind.i64, LT.bool, LT.lst [LT.int IntKind.u8]] r326] => Fn48 m r326 (fun i410 i411 i412 i413 i414 i415 => k (V.tup [V.agg [V.f (F.lit (Value.int IntKind.i64 i410)), V.f (F.lit (Value.int IntKind.i64 i411)), V.f (F.lit (Value.int IntKind.i64 i412)), V.f (F.lit (Value.int IntKind.i64 i413)), V.f (F.lit (Value.int IntKind.i64 i414))], V.f (F.lit (Value.int IntKind.i64 i415))]) [V.undef])
  | _ => T R 48 vs k
set_option maxRecDepth 100000 in
theorem evFn48 (m : Nat) (R : Type) (r326 : Abs.Rows) (k : V → List V → Option R) : runK Try.prog H (T16 m) (L14 m) 48 [V.bor [LT.int IntKind.i64, LT.int IntKind.i64, LT.int IntKind.i64, LT.int IntKind.i64, LT.int IntKind.i64, LT.bool, LT.lst [LT.int IntKind.u8]] r326] k = Fn48 (m + 1) r326 (fun i410 i411 i412 i413 i414 i415 => k (V.tup [V.agg [V.f (F.lit (Value.int IntKind.i64 i410)), V.f (F.lit (Value.int IntKind.i64 i411)), V.f (F.lit (Value.int IntKind.i64 i412)), V.f (F.lit (Value.int IntKind.i64 i413)), V.f (F.lit (Value.int IntKind.i64 i414))], V.f (F.lit (Value.int IntKind.i64 i415))]) [V.undef]) := by kernel_rfl
def T17 (m : Nat) : Tbl := addT 48 (brFn48 m (T16 m)) (T16 m)
theorem okT17 (m : Nat) : TblOk Try.prog (T17 m) := addT_ok (okT16 m) fun R vs k x h => by
  unfold brFn48 at h
  split at h
  · cases m with
    | zero => cases h
    | succ m => exact runK_some (okT16 m) hM (okL14 m) ((evFn48 m R _ k).trans h)
  · exact okT16 m R 48 _ k x h

/-- hookflash/flashref2.in -/
def Fn63 {R : Type} (m : Nat) : Int → Int → Int → (Bool → Option R) → Option R := match m with
  | 0 => fun _ _ _ _ => none
  | m + 1 => fun i429 i430 i431 k =>
  bif decide (i430 ≤ i429) then (k (decide (i429 ≤ i431))) else
  (k false)
def brFn63 (m : Nat) (T : Tbl) (R : Type) (vs : List V) (k : V → List V → Option R) : Option R := match vs with
  | [V.f (F.lit (Value.int IntKind.i64 i429)), V.f (F.lit (Value.int IntKind.i64 i430)), V.f (F.lit (Value.int IntKind.i64 i431))] => Fn63 m i429 i430 i431 (fun b432 => k (V.f (F.lit (Value.bool b432))) [V.undef, V.undef, V.undef])
  | _ => T R 63 vs k
set_option maxRecDepth 100000 in
theorem evFn63 (m : Nat) (R : Type) (i429 : Int) (i430 : Int) (i431 : Int) (k : V → List V → Option R) : runK Try.prog H (T17 m) (L14 m) 63 [V.f (F.lit (Value.int IntKind.i64 i429)), V.f (F.lit (Value.int IntKind.i64 i430)), V.f (F.lit (Value.int IntKind.i64 i431))] k = Fn63 (m + 1) i429 i430 i431 (fun b432 => k (V.f (F.lit (Value.bool b432))) [V.undef, V.undef, V.undef]) := by kernel_rfl
def T18 (m : Nat) : Tbl := addT 63 (brFn63 m (T17 m)) (T17 m)
theorem okT18 (m : Nat) : TblOk Try.prog (T18 m) := addT_ok (okT17 m) fun R vs k x h => by
  unfold brFn63 at h
  split at h
  · cases m with
    | zero => cases h
    | succ m => exact runK_some (okT17 m) hM (okL14 m) ((evFn63 m R _ _ _ k).trans h)
  · exact okT17 m R 63 _ k x h

/-- hookflash/flashref2.Moment -/
def Fn73 {R : Type} (m : Nat) : Int → (Bool → Option R) → Option R := match m with
  | 0 => fun _ _ => none
  | m + 1 => fun i428 k =>
  Fn63 m i428 ((0 : Int)) ((345686399999 : Int)) (fun b433 => k b433)
def brFn73 (m : Nat) (T : Tbl) (R : Type) (vs : List V) (k : V → List V → Option R) : Option R := match vs with
  | [V.f (F.lit (Value.int IntKind.i64 i428))] => Fn73 m i428 (fun b434 => k (V.f (F.lit (Value.bool b434))) [V.undef])
  | _ => T R 73 vs k
set_option maxRecDepth 100000 in
theorem evFn73 (m : Nat) (R : Type) (i428 : Int) (k : V → List V → Option R) : runK Try.prog H (T18 m) (L14 m) 73 [V.f (F.lit (Value.int IntKind.i64 i428))] k = Fn73 (m + 1) i428 (fun b434 => k (V.f (F.lit (Value.bool b434))) [V.undef]) := by kernel_rfl
def T19 (m : Nat) : Tbl := addT 73 (brFn73 m (T18 m)) (T18 m)
theorem okT19 (m : Nat) : TblOk Try.prog (T19 m) := addT_ok (okT18 m) fun R vs k x h => by
  unfold brFn73 at h
  split at h
  · cases m with
    | zero => cases h
    | succ m => exact runK_some (okT18 m) hM (okL14 m) ((evFn73 m R _ k).trans h)
  · exact okT18 m R 73 _ k x h

/-- a rest of hookflash/flashref2.PacketFault -/
def Jn12_1 {R : Type} (m : Nat) (kx0 : Int → Bool → Option R) (kx1 : Bool → Option R) (i443 : Int) (i444 : Int) (i445 : Int) (i446 : Int) (b447 : Bool) (r448 : Abs.Rows) (i449 : Int) (b450 : Bool) : Option R :=
  bif b450 then (kx0 ((1 : Int)) true) else
  (bif decide ((↑(List.length r448) : Int) > (1000 : Int)) then (kx0 ((2 : Int)) false) else
  (kx1 false))
def brJn12_1 (m : Nat) (L : LTbl) (R : Type) (vs : List V) (k : Ex → List V → Option R) : Option R := match vs with
  | [V.obj [V.f (F.lit (Value.int IntKind.i64 i443)), V.f (F.lit (Value.int IntKind.i64 i444)), V.f (F.lit (Value.int IntKind.i64 i445)), V.f (F.lit (Value.int IntKind.i64 i446)), V.f (F.lit (Value.bool b447)), V.f (F.lst [LT.int IntKind.u8] r448)], V.f (F.lit (Value.int IntKind.i64 i449)), V.f (F.lit (Value.bool b450)), V.undef] => Jn12_1 m (fun i451 b452 => k Ex.ret [V.obj [V.f (F.lit (Value.int IntKind.i64 i443)), V.f (F.lit (Value.int IntKind.i64 i444)), V.f (F.lit (Value.int IntKind.i64 i445)), V.f (F.lit (Value.int IntKind.i64 i446)), V.f (F.lit (Value.bool b447)), V.f (F.lst [LT.int IntKind.u8] r448)], V.f (F.lit (Value.int IntKind.i64 i451)), V.f (F.lit (Value.bool b452)), V.undef]) (fun b453 => k Ex.normal [V.obj [V.f (F.lit (Value.int IntKind.i64 i443)), V.f (F.lit (Value.int IntKind.i64 i444)), V.f (F.lit (Value.int IntKind.i64 i445)), V.f (F.lit (Value.int IntKind.i64 i446)), V.f (F.lit (Value.bool b447)), V.f (F.lst [LT.int IntKind.u8] r448)], V.f (F.lit (Value.int IntKind.i64 i449)), V.f (F.lit (Value.bool b453)), V.undef]) i443 i444 i445 i446 b447 r448 i449 b450
  | _ => L R 12 1 vs k
set_option maxRecDepth 100000 in
theorem evJn12_1 (m : Nat) (R : Type) (i443 : Int) (i444 : Int) (i445 : Int) (i446 : Int) (b447 : Bool) (r448 : Abs.Rows) (i449 : Int) (b450 : Bool) (k : Ex → List V → Option R) : codeK Try.prog H (T19 m) 12 (L14 m) 2 (loopBody Try.prog 12 1) (mkEnv [1, 2, 3, 31] [V.obj [V.f (F.lit (Value.int IntKind.i64 i443)), V.f (F.lit (Value.int IntKind.i64 i444)), V.f (F.lit (Value.int IntKind.i64 i445)), V.f (F.lit (Value.int IntKind.i64 i446)), V.f (F.lit (Value.bool b447)), V.f (F.lst [LT.int IntKind.u8] r448)], V.f (F.lit (Value.int IntKind.i64 i449)), V.f (F.lit (Value.bool b450)), V.undef] 0 (H.len 12)) (fun e env' => k e (vals [1, 2, 3, 31] env')) = Jn12_1 m (fun i451 b452 => k Ex.ret [V.obj [V.f (F.lit (Value.int IntKind.i64 i443)), V.f (F.lit (Value.int IntKind.i64 i444)), V.f (F.lit (Value.int IntKind.i64 i445)), V.f (F.lit (Value.int IntKind.i64 i446)), V.f (F.lit (Value.bool b447)), V.f (F.lst [LT.int IntKind.u8] r448)], V.f (F.lit (Value.int IntKind.i64 i451)), V.f (F.lit (Value.bool b452)), V.undef]) (fun b453 => k Ex.normal [V.obj [V.f (F.lit (Value.int IntKind.i64 i443)), V.f (F.lit (Value.int IntKind.i64 i444)), V.f (F.lit (Value.int IntKind.i64 i445)), V.f (F.lit (Value.int IntKind.i64 i446)), V.f (F.lit (Value.bool b447)), V.f (F.lst [LT.int IntKind.u8] r448)], V.f (F.lit (Value.int IntKind.i64 i449)), V.f (F.lit (Value.bool b453)), V.undef]) i443 i444 i445 i446 b447 r448 i449 b450 := by kernel_rfl
def L15 (m : Nat) : LTbl := addJ 12 1 (brJn12_1 m (L14 m)) (L14 m)
theorem okL15 (m : Nat) : LTOk Try.prog H (L15 m) := addJ_ok (okT19 m) hM (okL14 m) (l := [1, 2, 3, 31]) (by kernel_rfl) (by kernel_rfl) fun R vs k x h => by
    unfold brJn12_1 at h
    split at h
    · exact .inl ((evJn12_1 m R _ _ _ _ _ _ _ _ k).trans h)
    · exact .inr h

/-- hookflash/flashref2.PacketFault -/
def Fn12 {R : Type} (m : Nat) : Int → Int → Int → Int → Bool → Abs.Rows → (Int → Option R) → Option R := match m with
  | 0 => fun _ _ _ _ _ _ _ => none
  | m + 1 => fun i436 i437 i438 i439 b440 r441 k =>
  Fn63 m i436 ((0 : Int)) ((127 : Int)) (fun b442 => bif !b442 then (Jn12_1 m (fun i454 b455 => k i454) (fun b456 => k ((0 : Int))) i436 i437 i438 i439 b440 r441 ((0 : Int)) true) else
  (Fn63 m i437 ((0 : Int)) ((65535 : Int)) (fun b457 => bif !b457 then (Jn12_1 m (fun i458 b459 => k i458) (fun b460 => k ((0 : Int))) i436 i437 i438 i439 b440 r441 ((0 : Int)) true) else
  (Fn63 m i438 ((0 : Int)) ((4294967295 : Int)) (fun b461 => bif !b461 then (Jn12_1 m (fun i462 b463 => k i462) (fun b464 => k ((0 : Int))) i436 i437 i438 i439 b440 r441 ((0 : Int)) true) else
  (Fn63 m i439 ((0 : Int)) ((4294967295 : Int)) (fun b465 => Jn12_1 m (fun i466 b467 => k i466) (fun b468 => k ((0 : Int))) i436 i437 i438 i439 b440 r441 ((0 : Int)) (!b465))))))))
def brFn12 (m : Nat) (T : Tbl) (R : Type) (vs : List V) (k : V → List V → Option R) : Option R := match vs with
  | [V.agg [V.f (F.lit (Value.int IntKind.i64 i436)), V.f (F.lit (Value.int IntKind.i64 i437)), V.f (F.lit (Value.int IntKind.i64 i438)), V.f (F.lit (Value.int IntKind.i64 i439)), V.f (F.lit (Value.bool b440)), V.f (F.lst [LT.int IntKind.u8] r441)]] => Fn12 m i436 i437 i438 i439 b440 r441 (fun i469 => k (V.f (F.lit (Value.int IntKind.i64 i469))) [V.undef])
  | _ => T R 12 vs k
set_option maxRecDepth 100000 in
theorem evFn12 (m : Nat) (R : Type) (i436 : Int) (i437 : Int) (i438 : Int) (i439 : Int) (b440 : Bool) (r441 : Abs.Rows) (k : V → List V → Option R) : runK Try.prog H (T19 m) (L15 m) 12 [V.agg [V.f (F.lit (Value.int IntKind.i64 i436)), V.f (F.lit (Value.int IntKind.i64 i437)), V.f (F.lit (Value.int IntKind.i64 i438)), V.f (F.lit (Value.int IntKind.i64 i439)), V.f (F.lit (Value.bool b440)), V.f (F.lst [LT.int IntKind.u8] r441)]] k = Fn12 (m + 1) i436 i437 i438 i439 b440 r441 (fun i469 => k (V.f (F.lit (Value.int IntKind.i64 i469))) [V.undef]) := by kernel_rfl
def T20 (m : Nat) : Tbl := addT 12 (brFn12 m (T19 m)) (T19 m)
theorem okT20 (m : Nat) : TblOk Try.prog (T20 m) := addT_ok (okT19 m) fun R vs k x h => by
  unfold brFn12 at h
  split at h
  · cases m with
    | zero => cases h
    | succ m => exact runK_some (okT19 m) hM (okL15 m) ((evFn12 m R _ _ _ _ _ _ k).trans h)
  · exact okT19 m R 12 _ k x h

/-- a rest of hookflash/flashref2.ArrivalsFault -/
def Jn36_16 {R : Type} (m : Nat) (kx0 : Int → Bool → Option R) (kx1 : Bool → Option R) (r471 : Abs.Rows) (i472 : Int) (i473 : Int) (i474 : Int) (i475 : Int) (i476 : Int) (i477 : Int) (b478 : Bool) (r479 : Abs.Rows) (r480 : Abs.Rows) (i481 : Int) (i482 : Int) (b483 : Bool) : Option R :=
  bif b483 then (kx0 ((7 : Int)) true) else
  (bif decide ((0 : Int) ≤ (0 : Int) ∧ (0 : Int) < (↑(List.length r471) : Int)) then (bif i477 != fI r471 (Int.toNat (0 : Int)) (4 : Nat) then (kx0 ((13 : Int)) false) else
  (kx1 false)) else
  (none))
def brJn36_16 (m : Nat) (L : LTbl) (R : Type) (vs : List V) (k : Ex → List V → Option R) : Option R := match vs with
  | [V.bor [LT.int IntKind.i64, LT.int IntKind.i64, LT.int IntKind.i64, LT.int IntKind.i64, LT.int IntKind.i64, LT.bool, LT.lst [LT.int IntKind.u8]] r471, V.f (F.lit (Value.int IntKind.i64 i472)), V.obj [V.f (F.lit (Value.int IntKind.i64 i473)), V.f (F.lit (Value.int IntKind.i64 i474)), V.f (F.lit (Value.int IntKind.i64 i475)), V.f (F.lit (Value.int IntKind.i64 i476)), V.f (F.lit (Value.int IntKind.i64 i477)), V.f (F.lit (Value.bool b478)), V.f (F.lst [LT.int IntKind.u8] r479)], V.bor [LT.int IntKind.i64, LT.int IntKind.i64, LT.int IntKind.i64, LT.int IntKind.i64, LT.int IntKind.i64, LT.bool, LT.lst [LT.int IntKind.u8]] r480, V.f (F.lit (Value.int IntKind.i64 i481)), V.f (F.lit (Value.int IntKind.i64 i482)), V.f (F.lit (Value.bool b483)), V.undef] => Jn36_16 m (fun i484 b485 => k Ex.ret [V.bor [LT.int IntKind.i64, LT.int IntKind.i64, LT.int IntKind.i64, LT.int IntKind.i64, LT.int IntKind.i64, LT.bool, LT.lst [LT.int IntKind.u8]] r471, V.f (F.lit (Value.int IntKind.i64 i484)), V.obj [V.f (F.lit (Value.int IntKind.i64 i473)), V.f (F.lit (Value.int IntKind.i64 i474)), V.f (F.lit (Value.int IntKind.i64 i475)), V.f (F.lit (Value.int IntKind.i64 i476)), V.f (F.lit (Value.int IntKind.i64 i477)), V.f (F.lit (Value.bool b478)), V.f (F.lst [LT.int IntKind.u8] r479)], V.bor [LT.int IntKind.i64, LT.int IntKind.i64, LT.int IntKind.i64, LT.int IntKind.i64, LT.int IntKind.i64, LT.bool, LT.lst [LT.int IntKind.u8]] r480, V.f (F.lit (Value.int IntKind.i64 i481)), V.f (F.lit (Value.int IntKind.i64 i482)), V.f (F.lit (Value.bool b485)), V.undef]) (fun b486 => k Ex.normal [V.bor [LT.int IntKind.i64, LT.int IntKind.i64, LT.int IntKind.i64, LT.int IntKind.i64, LT.int IntKind.i64, LT.bool, LT.lst [LT.int IntKind.u8]] r471, V.f (F.lit (Value.int IntKind.i64 i472)), V.obj [V.f (F.lit (Value.int IntKind.i64 i473)), V.f (F.lit (Value.int IntKind.i64 i474)), V.f (F.lit (Value.int IntKind.i64 i475)), V.f (F.lit (Value.int IntKind.i64 i476)), V.f (F.lit (Value.int IntKind.i64 i477)), V.f (F.lit (Value.bool b478)), V.f (F.lst [LT.int IntKind.u8] r479)], V.bor [LT.int IntKind.i64, LT.int IntKind.i64, LT.int IntKind.i64, LT.int IntKind.i64, LT.int IntKind.i64, LT.bool, LT.lst [LT.int IntKind.u8]] r480, V.f (F.lit (Value.int IntKind.i64 i481)), V.f (F.lit (Value.int IntKind.i64 i482)), V.f (F.lit (Value.bool b486)), V.undef]) r471 i472 i473 i474 i475 i476 i477 b478 r479 r480 i481 i482 b483
  | _ => L R 36 16 vs k
set_option maxRecDepth 100000 in
theorem evJn36_16 (m : Nat) (R : Type) (r471 : Abs.Rows) (i472 : Int) (i473 : Int) (i474 : Int) (i475 : Int) (i476 : Int) (i477 : Int) (b478 : Bool) (r479 : Abs.Rows) (r480 : Abs.Rows) (i481 : Int) (i482 : Int) (b483 : Bool) (k : Ex → List V → Option R) : codeK Try.prog H (T20 m) 36 (L15 m) 17 (loopBody Try.prog 36 16) (mkEnv [0, 2, 4, 9, 10, 11, 26, 51] [V.bor [LT.int IntKind.i64, LT.int IntKind.i64, LT.int IntKind.i64, LT.int IntKind.i64, LT.int IntKind.i64, LT.bool, LT.lst [LT.int IntKind.u8]] r471, V.f (F.lit (Value.int IntKind.i64 i472)), V.obj [V.f (F.lit (Value.int IntKind.i64 i473)), V.f (F.lit (Value.int IntKind.i64 i474)), V.f (F.lit (Value.int IntKind.i64 i475)), V.f (F.lit (Value.int IntKind.i64 i476)), V.f (F.lit (Value.int IntKind.i64 i477)), V.f (F.lit (Value.bool b478)), V.f (F.lst [LT.int IntKind.u8] r479)], V.bor [LT.int IntKind.i64, LT.int IntKind.i64, LT.int IntKind.i64, LT.int IntKind.i64, LT.int IntKind.i64, LT.bool, LT.lst [LT.int IntKind.u8]] r480, V.f (F.lit (Value.int IntKind.i64 i481)), V.f (F.lit (Value.int IntKind.i64 i482)), V.f (F.lit (Value.bool b483)), V.undef] 0 (H.len 36)) (fun e env' => k e (vals [0, 2, 4, 9, 10, 11, 26, 51] env')) = Jn36_16 m (fun i484 b485 => k Ex.ret [V.bor [LT.int IntKind.i64, LT.int IntKind.i64, LT.int IntKind.i64, LT.int IntKind.i64, LT.int IntKind.i64, LT.bool, LT.lst [LT.int IntKind.u8]] r471, V.f (F.lit (Value.int IntKind.i64 i484)), V.obj [V.f (F.lit (Value.int IntKind.i64 i473)), V.f (F.lit (Value.int IntKind.i64 i474)), V.f (F.lit (Value.int IntKind.i64 i475)), V.f (F.lit (Value.int IntKind.i64 i476)), V.f (F.lit (Value.int IntKind.i64 i477)), V.f (F.lit (Value.bool b478)), V.f (F.lst [LT.int IntKind.u8] r479)], V.bor [LT.int IntKind.i64, LT.int IntKind.i64, LT.int IntKind.i64, LT.int IntKind.i64, LT.int IntKind.i64, LT.bool, LT.lst [LT.int IntKind.u8]] r480, V.f (F.lit (Value.int IntKind.i64 i481)), V.f (F.lit (Value.int IntKind.i64 i482)), V.f (F.lit (Value.bool b485)), V.undef]) (fun b486 => k Ex.normal [V.bor [LT.int IntKind.i64, LT.int IntKind.i64, LT.int IntKind.i64, LT.int IntKind.i64, LT.int IntKind.i64, LT.bool, LT.lst [LT.int IntKind.u8]] r471, V.f (F.lit (Value.int IntKind.i64 i472)), V.obj [V.f (F.lit (Value.int IntKind.i64 i473)), V.f (F.lit (Value.int IntKind.i64 i474)), V.f (F.lit (Value.int IntKind.i64 i475)), V.f (F.lit (Value.int IntKind.i64 i476)), V.f (F.lit (Value.int IntKind.i64 i477)), V.f (F.lit (Value.bool b478)), V.f (F.lst [LT.int IntKind.u8] r479)], V.bor [LT.int IntKind.i64, LT.int IntKind.i64, LT.int IntKind.i64, LT.int IntKind.i64, LT.int IntKind.i64, LT.bool, LT.lst [LT.int IntKind.u8]] r480, V.f (F.lit (Value.int IntKind.i64 i481)), V.f (F.lit (Value.int IntKind.i64 i482)), V.f (F.lit (Value.bool b486)), V.undef]) r471 i472 i473 i474 i475 i476 i477 b478 r479 r480 i481 i482 b483 := by kernel_rfl
def L16 (m : Nat) : LTbl := addJ 36 16 (brJn36_16 m (L15 m)) (L15 m)
theorem okL16 (m : Nat) : LTOk Try.prog H (L16 m) := addJ_ok (okT20 m) hM (okL15 m) (l := [0, 2, 4, 9, 10, 11, 26, 51]) (by kernel_rfl) (by kernel_rfl) fun R vs k x h => by
    unfold brJn36_16 at h
    split at h
    · exact .inl ((evJn36_16 m R _ _ _ _ _ _ _ _ _ _ _ _ _ k).trans h)
    · exact .inr h

/-- a round of a loop of hookflash/flashref2.ArrivalsFault -/
def Lp36_5_step {R : Type} (m : Nat) (kx0 : Int → Int → Option R) (kx1 : Int → Option R) (r423 : Abs.Rows) (i424 : Int) (r425 : Abs.Rows) (i426 : Int) (REC : Int → Option R) (i427 : Int) : Option R :=
  bif decide (i427 < i426) then (bif decide ((0 : Int) ≤ i427 ∧ i427 < (↑(List.length r425) : Int)) then (Fn73 m (fI r425 (Int.toNat i427) (0 : Nat)) (fun b435 => bif !b435 then (kx0 ((1 : Int)) i427) else
  (Fn12 m (fI r425 (Int.toNat i427) (1 : Nat)) (fI r425 (Int.toNat i427) (2 : Nat)) (fI r425 (Int.toNat i427) (3 : Nat)) (fI r425 (Int.toNat i427) (4 : Nat)) (fB r425 (Int.toNat i427) (5 : Nat)) (fR r425 (Int.toNat i427) (6 : Nat)) (fun i470 => bif i470 != (0 : Int) then (kx0 i470 i427) else
  (bif decide (i427 > (0 : Int)) then (bif decide ((0 : Int) ≤ IntKind.wrap IntKind.i64 (i427 - (1 : Int)) ∧ IntKind.wrap IntKind.i64 (i427 - (1 : Int)) < (↑(List.length r423) : Int)) then (Jn36_16 m (fun i487 b488 => kx0 i487 i427) (fun b489 => REC (IntKind.wrap IntKind.i64 (i427 + (1 : Int)))) r423 i424 (fI r425 (Int.toNat i427) (0 : Nat)) (fI r425 (Int.toNat i427) (1 : Nat)) (fI r425 (Int.toNat i427) (2 : Nat)) (fI r425 (Int.toNat i427) (3 : Nat)) (fI r425 (Int.toNat i427) (4 : Nat)) (fB r425 (Int.toNat i427) (5 : Nat)) (fR r425 (Int.toNat i427) (6 : Nat)) r425 i426 i427 (decide (fI r425 (Int.toNat i427) (0 : Nat) < fI r423 (Int.toNat (IntKind.wrap IntKind.i64 (i427 - (1 : Int)))) (0 : Nat)))) else
  (none)) else
  (Jn36_16 m (fun i490 b491 => kx0 i490 i427) (fun b492 => REC (IntKind.wrap IntKind.i64 (i427 + (1 : Int)))) r423 i424 (fI r425 (Int.toNat i427) (0 : Nat)) (fI r425 (Int.toNat i427) (1 : Nat)) (fI r425 (Int.toNat i427) (2 : Nat)) (fI r425 (Int.toNat i427) (3 : Nat)) (fI r425 (Int.toNat i427) (4 : Nat)) (fB r425 (Int.toNat i427) (5 : Nat)) (fR r425 (Int.toNat i427) (6 : Nat)) r425 i426 i427 false)))))) else
  (none)) else
  (kx1 i427)
def Lp36_5 {R : Type} (m : Nat) (kx0 : Int → Int → Option R) (kx1 : Int → Option R) (r423 : Abs.Rows) (i424 : Int) (r425 : Abs.Rows) (i426 : Int) : Nat → Int → Option R
  | 0, _ => none
  | n + 1, i427 => Lp36_5_step m kx0 kx1 r423 i424 r425 i426 (Lp36_5 m kx0 kx1 r423 i424 r425 i426 n) i427
def ELp36_5 (m : Nat) (R : Type) : Nat → List V → (Ex → List V → Option R) → Option R
  | 0, _, _ => none
  | n + 1, vs, k => match vs with
    | [V.bor [LT.int IntKind.i64, LT.int IntKind.i64, LT.int IntKind.i64, LT.int IntKind.i64, LT.int IntKind.i64, LT.bool, LT.lst [LT.int IntKind.u8]] r423, V.f (F.lit (Value.int IntKind.i64 i424)), V.bor [LT.int IntKind.i64, LT.int IntKind.i64, LT.int IntKind.i64, LT.int IntKind.i64, LT.int IntKind.i64, LT.bool, LT.lst [LT.int IntKind.u8]] r425, V.f (F.lit (Value.int IntKind.i64 i426)), V.f (F.lit (Value.int IntKind.i64 i427)), V.undef] => Lp36_5_step m (fun i493 i494 => k Ex.ret [V.bor [LT.int IntKind.i64, LT.int IntKind.i64, LT.int IntKind.i64, LT.int IntKind.i64, LT.int IntKind.i64, LT.bool, LT.lst [LT.int IntKind.u8]] r423, V.f (F.lit (Value.int IntKind.i64 i493)), V.bor [LT.int IntKind.i64, LT.int IntKind.i64, LT.int IntKind.i64, LT.int IntKind.i64, LT.int IntKind.i64, LT.bool, LT.lst [LT.int IntKind.u8]] r425, V.f (F.lit (Value.int IntKind.i64 i426)), V.f (F.lit (Value.int IntKind.i64 i494)), V.undef]) (fun i495 => k (Ex.exit (0 : Nat)) [V.bor [LT.int IntKind.i64, LT.int IntKind.i64, LT.int IntKind.i64, LT.int IntKind.i64, LT.int IntKind.i64, LT.bool, LT.lst [LT.int IntKind.u8]] r423, V.f (F.lit (Value.int IntKind.i64 i424)), V.bor [LT.int IntKind.i64, LT.int IntKind.i64, LT.int IntKind.i64, LT.int IntKind.i64, LT.int IntKind.i64, LT.bool, LT.lst [LT.int IntKind.u8]] r425, V.f (F.lit (Value.int IntKind.i64 i426)), V.f (F.lit (Value.int IntKind.i64 i495)), V.undef]) r423 i424 r425 i426 (fun i427 => ELp36_5 m R n [V.bor [LT.int IntKind.i64, LT.int IntKind.i64, LT.int IntKind.i64, LT.int IntKind.i64, LT.int IntKind.i64, LT.bool, LT.lst [LT.int IntKind.u8]] r423, V.f (F.lit (Value.int IntKind.i64 i424)), V.bor [LT.int IntKind.i64, LT.int IntKind.i64, LT.int IntKind.i64, LT.int IntKind.i64, LT.int IntKind.i64, LT.bool, LT.lst [LT.int IntKind.u8]] r425, V.f (F.lit (Value.int IntKind.i64 i426)), V.f (F.lit (Value.int IntKind.i64 i427)), V.undef] k) i427
    | _ => none
def brLp36_5 (m : Nat) (L : LTbl) (R : Type) (vs : List V) (k : Ex → List V → Option R) : Option R := match vs with
  | [V.bor [LT.int IntKind.i64, LT.int IntKind.i64, LT.int IntKind.i64, LT.int IntKind.i64, LT.int IntKind.i64, LT.bool, LT.lst [LT.int IntKind.u8]] r423, V.f (F.lit (Value.int IntKind.i64 i424)), V.bor [LT.int IntKind.i64, LT.int IntKind.i64, LT.int IntKind.i64, LT.int IntKind.i64, LT.int IntKind.i64, LT.bool, LT.lst [LT.int IntKind.u8]] r425, V.f (F.lit (Value.int IntKind.i64 i426)), V.f (F.lit (Value.int IntKind.i64 i427)), V.undef] => Lp36_5 m (fun i493 i494 => k Ex.ret [V.bor [LT.int IntKind.i64, LT.int IntKind.i64, LT.int IntKind.i64, LT.int IntKind.i64, LT.int IntKind.i64, LT.bool, LT.lst [LT.int IntKind.u8]] r423, V.f (F.lit (Value.int IntKind.i64 i493)), V.bor [LT.int IntKind.i64, LT.int IntKind.i64, LT.int IntKind.i64, LT.int IntKind.i64, LT.int IntKind.i64, LT.bool, LT.lst [LT.int IntKind.u8]] r425, V.f (F.lit (Value.int IntKind.i64 i426)), V.f (F.lit (Value.int IntKind.i64 i494)), V.undef]) (fun i495 => k (Ex.exit (0 : Nat)) [V.bor [LT.int IntKind.i64, LT.int IntKind.i64, LT.int IntKind.i64, LT.int IntKind.i64, LT.int IntKind.i64, LT.bool, LT.lst [LT.int IntKind.u8]] r423, V.f (F.lit (Value.int IntKind.i64 i424)), V.bor [LT.int IntKind.i64, LT.int IntKind.i64, LT.int IntKind.i64, LT.int IntKind.i64, LT.int IntKind.i64, LT.bool, LT.lst [LT.int IntKind.u8]] r425, V.f (F.lit (Value.int IntKind.i64 i426)), V.f (F.lit (Value.int IntKind.i64 i495)), V.undef]) r423 i424 r425 i426 m i427
  | _ => L R 36 5 vs k
set_option maxRecDepth 100000 in
theorem stLp36_5 (m n : Nat) (R : Type) (r423 : Abs.Rows) (i424 : Int) (r425 : Abs.Rows) (i426 : Int) (i427 : Int) (k : Ex → List V → Option R) : codeK Try.prog H (T20 m) 36 (L16 m) 6 (loopBody Try.prog 36 5) (mkEnv [0, 2, 9, 10, 11, 51] [V.bor [LT.int IntKind.i64, LT.int IntKind.i64, LT.int IntKind.i64, LT.int IntKind.i64, LT.int IntKind.i64, LT.bool, LT.lst [LT.int IntKind.u8]] r423, V.f (F.lit (Value.int IntKind.i64 i424)), V.bor [LT.int IntKind.i64, LT.int IntKind.i64, LT.int IntKind.i64, LT.int IntKind.i64, LT.int IntKind.i64, LT.bool, LT.lst [LT.int IntKind.u8]] r425, V.f (F.lit (Value.int IntKind.i64 i426)), V.f (F.lit (Value.int IntKind.i64 i427)), V.undef] 0 (H.len 36)) (fun e env' => match e with | .normal => ELp36_5 m R n (vals [0, 2, 9, 10, 11, 51] env') k | e => k e (vals [0, 2, 9, 10, 11, 51] env')) = Lp36_5_step m (fun i493 i494 => k Ex.ret [V.bor [LT.int IntKind.i64, LT.int IntKind.i64, LT.int IntKind.i64, LT.int IntKind.i64, LT.int IntKind.i64, LT.bool, LT.lst [LT.int IntKind.u8]] r423, V.f (F.lit (Value.int IntKind.i64 i493)), V.bor [LT.int IntKind.i64, LT.int IntKind.i64, LT.int IntKind.i64, LT.int IntKind.i64, LT.int IntKind.i64, LT.bool, LT.lst [LT.int IntKind.u8]] r425, V.f (F.lit (Value.int IntKind.i64 i426)), V.f (F.lit (Value.int IntKind.i64 i494)), V.undef]) (fun i495 => k (Ex.exit (0 : Nat)) [V.bor [LT.int IntKind.i64, LT.int IntKind.i64, LT.int IntKind.i64, LT.int IntKind.i64, LT.int IntKind.i64, LT.bool, LT.lst [LT.int IntKind.u8]] r423, V.f (F.lit (Value.int IntKind.i64 i424)), V.bor [LT.int IntKind.i64, LT.int IntKind.i64, LT.int IntKind.i64, LT.int IntKind.i64, LT.int IntKind.i64, LT.bool, LT.lst [LT.int IntKind.u8]] r425, V.f (F.lit (Value.int IntKind.i64 i426)), V.f (F.lit (Value.int IntKind.i64 i495)), V.undef]) r423 i424 r425 i426 (fun i427 => ELp36_5 m R n [V.bor [LT.int IntKind.i64, LT.int IntKind.i64, LT.int IntKind.i64, LT.int IntKind.i64, LT.int IntKind.i64, LT.bool, LT.lst [LT.int IntKind.u8]] r423, V.f (F.lit (Value.int IntKind.i64 i424)), V.bor [LT.int IntKind.i64, LT.int IntKind.i64, LT.int IntKind.i64, LT.int IntKind.i64, LT.int IntKind.i64, LT.bool, LT.lst [LT.int IntKind.u8]] r425, V.f (F.lit (Value.int IntKind.i64 i426)), V.f (F.lit (Value.int IntKind.i64 i427)), V.undef] k) i427 := by kernel_rfl
theorem eqLp36_5 (m : Nat) (R : Type) (r423 : Abs.Rows) (i424 : Int) (r425 : Abs.Rows) (i426 : Int) (k : Ex → List V → Option R) : ∀ (n : Nat) (i427 : Int), ELp36_5 m R n [V.bor [LT.int IntKind.i64, LT.int IntKind.i64, LT.int IntKind.i64, LT.int IntKind.i64, LT.int IntKind.i64, LT.bool, LT.lst [LT.int IntKind.u8]] r423, V.f (F.lit (Value.int IntKind.i64 i424)), V.bor [LT.int IntKind.i64, LT.int IntKind.i64, LT.int IntKind.i64, LT.int IntKind.i64, LT.int IntKind.i64, LT.bool, LT.lst [LT.int IntKind.u8]] r425, V.f (F.lit (Value.int IntKind.i64 i426)), V.f (F.lit (Value.int IntKind.i64 i427)), V.undef] k = Lp36_5 m (fun i493 i494 => k Ex.ret [V.bor [LT.int IntKind.i64, LT.int IntKind.i64, LT.int IntKind.i64, LT.int IntKind.i64, LT.int IntKind.i64, LT.bool, LT.lst [LT.int IntKind.u8]] r423, V.f (F.lit (Value.int IntKind.i64 i493)), V.bor [LT.int IntKind.i64, LT.int IntKind.i64, LT.int IntKind.i64, LT.int IntKind.i64, LT.int IntKind.i64, LT.bool, LT.lst [LT.int IntKind.u8]] r425, V.f (F.lit (Value.int IntKind.i64 i426)), V.f (F.lit (Value.int IntKind.i64 i494)), V.undef]) (fun i495 => k (Ex.exit (0 : Nat)) [V.bor [LT.int IntKind.i64, LT.int IntKind.i64, LT.int IntKind.i64, LT.int IntKind.i64, LT.int IntKind.i64, LT.bool, LT.lst [LT.int IntKind.u8]] r423, V.f (F.lit (Value.int IntKind.i64 i424)), V.bor [LT.int IntKind.i64, LT.int IntKind.i64, LT.int IntKind.i64, LT.int IntKind.i64, LT.int IntKind.i64, LT.bool, LT.lst [LT.int IntKind.u8]] r425, V.f (F.lit (Value.int IntKind.i64 i426)), V.f (F.lit (Value.int IntKind.i64 i495)), V.undef]) r423 i424 r425 i426 n i427
  | 0, _ => rfl
  | n + 1, i427 => by
    simp only [ELp36_5, Lp36_5]
    congr 1
    funext i427
    exact eqLp36_5 m R r423 i424 r425 i426 k n i427
def L17 (m : Nat) : LTbl := addB 36 5 (brLp36_5 m (L16 m)) (L16 m)
theorem okL17 (m : Nat) : LTOk Try.prog H (L17 m) := addB_ok (okT20 m) hM (okL16 m) (l := [0, 2, 9, 10, 11, 51]) (by kernel_rfl) (by kernel_rfl) m (fun R n vs k => ELp36_5 m R n vs k) (fun R vs k => rfl) (fun R n vs k x h => by
      simp only [ELp36_5] at h
      split at h
      · exact (stLp36_5 m n R _ _ _ _ _ k).trans h
      · cases h) fun R vs k x h => by
    unfold brLp36_5 at h
    split at h
    · exact .inl ((eqLp36_5 m R _ _ _ _ k m _).trans h)
    · exact .inr h

/-- hookflash/flashref2.ArrivalsFault -/
def Fn36 {R : Type} (m : Nat) : Abs.Rows → (Int → Option R) → Option R := match m with
  | 0 => fun _ _ => none
  | m + 1 => fun r422 k =>
  bif decide ((↑(List.length r422) : Int) > (2000 : Int)) then (k ((2 : Int))) else
  (Lp36_5 m (fun i496 i497 => k i496) (fun i498 => k ((0 : Int))) r422 ((0 : Int)) r422 ((↑(List.length r422) : Int)) m ((0 : Int)))
def brFn36 (m : Nat) (T : Tbl) (R : Type) (vs : List V) (k : V → List V → Option R) : Option R := match vs with
  | [V.bor [LT.int IntKind.i64, LT.int IntKind.i64, LT.int IntKind.i64, LT.int IntKind.i64, LT.int IntKind.i64, LT.bool, LT.lst [LT.int IntKind.u8]] r422] => Fn36 m r422 (fun i499 => k (V.f (F.lit (Value.int IntKind.i64 i499))) [V.undef])
  | _ => T R 36 vs k
set_option maxRecDepth 100000 in
theorem evFn36 (m : Nat) (R : Type) (r422 : Abs.Rows) (k : V → List V → Option R) : runK Try.prog H (T20 m) (L17 m) 36 [V.bor [LT.int IntKind.i64, LT.int IntKind.i64, LT.int IntKind.i64, LT.int IntKind.i64, LT.int IntKind.i64, LT.bool, LT.lst [LT.int IntKind.u8]] r422] k = Fn36 (m + 1) r422 (fun i499 => k (V.f (F.lit (Value.int IntKind.i64 i499))) [V.undef]) := by kernel_rfl
def T21 (m : Nat) : Tbl := addT 36 (brFn36 m (T20 m)) (T20 m)
theorem okT21 (m : Nat) : TblOk Try.prog (T21 m) := addT_ok (okT20 m) fun R vs k x h => by
  unfold brFn36 at h
  split at h
  · cases m with
    | zero => cases h
    | succ m => exact runK_some (okT20 m) hM (okL17 m) ((evFn36 m R _ k).trans h)
  · exact okT20 m R 36 _ k x h

/-- hookflash/media.Expand -/
def Fn32 {R : Type} (m : Nat) : Int → (Int → Option R) → Option R := match m with
  | 0 => fun _ _ => none
  | m + 1 => fun i502 k =>
  bif decide ((0 : Int) ≤ Int.tmod (IntKind.wrap IntKind.i64 (Int.tdiv (IntKind.wrap IntKind.i64 ((255 : Int) - IntKind.wrap IntKind.i64 i502)) (16 : Int))) (8 : Int)) then (letV (IntKind.wrap IntKind.i64 (IntKind.wrap IntKind.i64 (IntKind.wrap IntKind.i64 ((2 : Int) * Int.tmod (IntKind.wrap IntKind.i64 ((255 : Int) - IntKind.wrap IntKind.i64 i502)) (16 : Int)) + (33 : Int)) * (2 : Int) ^ min (Int.toNat (Int.tmod (IntKind.wrap IntKind.i64 (Int.tdiv (IntKind.wrap IntKind.i64 ((255 : Int) - IntKind.wrap IntKind.i64 i502)) (16 : Int))) (8 : Int))) (64 : Nat))) (fun i503 => bif IntKind.wrap IntKind.i64 (Int.tdiv (IntKind.wrap IntKind.i64 ((255 : Int) - IntKind.wrap IntKind.i64 i502)) (128 : Int)) == (1 : Int) then (k (IntKind.wrap IntKind.i64 (IntKind.wrap IntKind.i64 ((0 : Int) - IntKind.wrap IntKind.i64 (IntKind.wrap IntKind.i64 (i503 - (33 : Int)) * (4 : Int))) - (1 : Int)))) else
  (k (IntKind.wrap IntKind.i64 (IntKind.wrap IntKind.i64 (i503 - (33 : Int)) * (4 : Int)))))) else
  (none)
def brFn32 (m : Nat) (T : Tbl) (R : Type) (vs : List V) (k : V → List V → Option R) : Option R := match vs with
  | [V.f (F.lit (Value.int IntKind.u8 i502))] => Fn32 m i502 (fun i504 => k (V.f (F.lit (Value.int IntKind.i64 i504))) [V.undef])
  | _ => T R 32 vs k
set_option maxRecDepth 100000 in
theorem evFn32 (m : Nat) (R : Type) (i502 : Int) (k : V → List V → Option R) : runK Try.prog H (T21 m) (L17 m) 32 [V.f (F.lit (Value.int IntKind.u8 i502))] k = Fn32 (m + 1) i502 (fun i504 => k (V.f (F.lit (Value.int IntKind.i64 i504))) [V.undef]) := by kernel_rfl
def T22 (m : Nat) : Tbl := addT 32 (brFn32 m (T21 m)) (T21 m)
theorem okT22 (m : Nat) : TblOk Try.prog (T22 m) := addT_ok (okT21 m) fun R vs k x h => by
  unfold brFn32 at h
  split at h
  · cases m with
    | zero => cases h
    | succ m => exact runK_some (okT21 m) hM (okL17 m) ((evFn32 m R _ k).trans h)
  · exact okT21 m R 32 _ k x h

/-- hookflash/flashlaw2.sounded -/
def Fn19 {R : Type} (m : Nat) : (Bool → Option R) → Option R := match m with
  | 0 => fun _ => none
  | m + 1 => fun  k =>
  Fn32 m ((128 : Int)) (fun i505 => k (i505 == (32124 : Int)))
def brFn19 (m : Nat) (T : Tbl) (R : Type) (vs : List V) (k : V → List V → Option R) : Option R := match vs with
  | [] => Fn19 m  (fun b506 => k (V.f (F.lit (Value.bool b506))) [])
  | _ => T R 19 vs k
set_option maxRecDepth 100000 in
theorem evFn19 (m : Nat) (R : Type)  (k : V → List V → Option R) : runK Try.prog H (T22 m) (L17 m) 19 [] k = Fn19 (m + 1)  (fun b506 => k (V.f (F.lit (Value.bool b506))) []) := by kernel_rfl
def T23 (m : Nat) : Tbl := addT 19 (brFn19 m (T22 m)) (T22 m)
theorem okT23 (m : Nat) : TblOk Try.prog (T23 m) := addT_ok (okT22 m) fun R vs k x h => by
  unfold brFn19 at h
  split at h
  · cases m with
    | zero => cases h
    | succ m => exact runK_some (okT22 m) hM (okL17 m) ((evFn19 m R k).trans h)
  · exact okT22 m R 19 _ k x h

/-- a round of a loop of hookflash/flashref2.NumbersOf -/
def Lp50_13_step {R : Type} (m : Nat) (kx0 : Int → Int → Option R) (r515 : Abs.Rows) (r516 : Abs.Rows) (i517 : Int) (i518 : Int) (r520 : Abs.Rows) (i521 : Int) (i522 : Int) (r523 : Abs.Rows) (i524 : Int) (REC : Int → Int → Option R) (i519 : Int) (i525 : Int) : Option R :=
  bif decide (i525 < i524) then (bif decide ((0 : Int) ≤ i525 ∧ i525 < (↑(List.length r523) : Int)) then (bif decide ((if IntKind.wrap IntKind.i64 (i517 - fI r523 (Int.toNat i525) (0 : Nat)) > IntKind.wrap IntKind.i64 (fI r523 (Int.toNat i525) (0 : Nat) - i517) then IntKind.wrap IntKind.i64 (i517 - fI r523 (Int.toNat i525) (0 : Nat)) else IntKind.wrap IntKind.i64 (fI r523 (Int.toNat i525) (0 : Nat) - i517)) < if IntKind.wrap IntKind.i64 (i517 - i519) > IntKind.wrap IntKind.i64 (i519 - i517) then IntKind.wrap IntKind.i64 (i517 - i519) else IntKind.wrap IntKind.i64 (i519 - i517)) then (REC (fI r523 (Int.toNat i525) (0 : Nat)) (IntKind.wrap IntKind.i64 (i525 + (1 : Int)))) else
  (bif (if IntKind.wrap IntKind.i64 (i517 - fI r523 (Int.toNat i525) (0 : Nat)) > IntKind.wrap IntKind.i64 (fI r523 (Int.toNat i525) (0 : Nat) - i517) then IntKind.wrap IntKind.i64 (i517 - fI r523 (Int.toNat i525) (0 : Nat)) else IntKind.wrap IntKind.i64 (fI r523 (Int.toNat i525) (0 : Nat) - i517)) == if IntKind.wrap IntKind.i64 (i517 - i519) > IntKind.wrap IntKind.i64 (i519 - i517) then IntKind.wrap IntKind.i64 (i517 - i519) else IntKind.wrap IntKind.i64 (i519 - i517) then (bif decide (fI r523 (Int.toNat i525) (0 : Nat) > i519) then (REC (fI r523 (Int.toNat i525) (0 : Nat)) (IntKind.wrap IntKind.i64 (i525 + (1 : Int)))) else
  (REC i519 (IntKind.wrap IntKind.i64 (i525 + (1 : Int))))) else
  (REC i519 (IntKind.wrap IntKind.i64 (i525 + (1 : Int)))))) else
  (none)) else
  (kx0 i519 i525)
def Lp50_13 {R : Type} (m : Nat) (kx0 : Int → Int → Option R) (r515 : Abs.Rows) (r516 : Abs.Rows) (i517 : Int) (i518 : Int) (r520 : Abs.Rows) (i521 : Int) (i522 : Int) (r523 : Abs.Rows) (i524 : Int) : Nat → Int → Int → Option R
  | 0, _, _ => none
  | n + 1, i519, i525 => Lp50_13_step m kx0 r515 r516 i517 i518 r520 i521 i522 r523 i524 (Lp50_13 m kx0 r515 r516 i517 i518 r520 i521 i522 r523 i524 n) i519 i525
def ELp50_13 (m : Nat) (R : Type) : Nat → List V → (Ex → List V → Option R) → Option R
  | 0, _, _ => none
  | n + 1, vs, k => match vs with
    | [V.bor [LT.int IntKind.i64, LT.int IntKind.i64, LT.int IntKind.i64, LT.int IntKind.i64, LT.int IntKind.i64, LT.bool, LT.lst [LT.int IntKind.u8]] r515, V.own [LT.int IntKind.i64] r516, V.f (F.lit (Value.int IntKind.i64 i517)), V.f (F.lit (Value.int IntKind.i64 i518)), V.f (F.lit (Value.int IntKind.i64 i519)), V.bor [LT.int IntKind.i64, LT.int IntKind.i64, LT.int IntKind.i64, LT.int IntKind.i64, LT.int IntKind.i64, LT.bool, LT.lst [LT.int IntKind.u8]] r520, V.f (F.lit (Value.int IntKind.i64 i521)), V.f (F.lit (Value.int IntKind.i64 i522)), V.own [LT.int IntKind.i64] r523, V.f (F.lit (Value.int IntKind.i64 i524)), V.f (F.lit (Value.int IntKind.i64 i525)), V.undef] => Lp50_13_step m (fun i526 i527 => k (Ex.exit (2 : Nat)) [V.bor [LT.int IntKind.i64, LT.int IntKind.i64, LT.int IntKind.i64, LT.int IntKind.i64, LT.int IntKind.i64, LT.bool, LT.lst [LT.int IntKind.u8]] r515, V.own [LT.int IntKind.i64] r516, V.f (F.lit (Value.int IntKind.i64 i517)), V.f (F.lit (Value.int IntKind.i64 i518)), V.f (F.lit (Value.int IntKind.i64 i526)), V.bor [LT.int IntKind.i64, LT.int IntKind.i64, LT.int IntKind.i64, LT.int IntKind.i64, LT.int IntKind.i64, LT.bool, LT.lst [LT.int IntKind.u8]] r520, V.f (F.lit (Value.int IntKind.i64 i521)), V.f (F.lit (Value.int IntKind.i64 i522)), V.own [LT.int IntKind.i64] r523, V.f (F.lit (Value.int IntKind.i64 i524)), V.f (F.lit (Value.int IntKind.i64 i527)), V.undef]) r515 r516 i517 i518 r520 i521 i522 r523 i524 (fun i519 i525 => ELp50_13 m R n [V.bor [LT.int IntKind.i64, LT.int IntKind.i64, LT.int IntKind.i64, LT.int IntKind.i64, LT.int IntKind.i64, LT.bool, LT.lst [LT.int IntKind.u8]] r515, V.own [LT.int IntKind.i64] r516, V.f (F.lit (Value.int IntKind.i64 i517)), V.f (F.lit (Value.int IntKind.i64 i518)), V.f (F.lit (Value.int IntKind.i64 i519)), V.bor [LT.int IntKind.i64, LT.int IntKind.i64, LT.int IntKind.i64, LT.int IntKind.i64, LT.int IntKind.i64, LT.bool, LT.lst [LT.int IntKind.u8]] r520, V.f (F.lit (Value.int IntKind.i64 i521)), V.f (F.lit (Value.int IntKind.i64 i522)), V.own [LT.int IntKind.i64] r523, V.f (F.lit (Value.int IntKind.i64 i524)), V.f (F.lit (Value.int IntKind.i64 i525)), V.undef] k) i519 i525
    | _ => none
def brLp50_13 (m : Nat) (L : LTbl) (R : Type) (vs : List V) (k : Ex → List V → Option R) : Option R := match vs with
  | [V.bor [LT.int IntKind.i64, LT.int IntKind.i64, LT.int IntKind.i64, LT.int IntKind.i64, LT.int IntKind.i64, LT.bool, LT.lst [LT.int IntKind.u8]] r515, V.own [LT.int IntKind.i64] r516, V.f (F.lit (Value.int IntKind.i64 i517)), V.f (F.lit (Value.int IntKind.i64 i518)), V.f (F.lit (Value.int IntKind.i64 i519)), V.bor [LT.int IntKind.i64, LT.int IntKind.i64, LT.int IntKind.i64, LT.int IntKind.i64, LT.int IntKind.i64, LT.bool, LT.lst [LT.int IntKind.u8]] r520, V.f (F.lit (Value.int IntKind.i64 i521)), V.f (F.lit (Value.int IntKind.i64 i522)), V.own [LT.int IntKind.i64] r523, V.f (F.lit (Value.int IntKind.i64 i524)), V.f (F.lit (Value.int IntKind.i64 i525)), V.undef] => Lp50_13 m (fun i526 i527 => k (Ex.exit (2 : Nat)) [V.bor [LT.int IntKind.i64, LT.int IntKind.i64, LT.int IntKind.i64, LT.int IntKind.i64, LT.int IntKind.i64, LT.bool, LT.lst [LT.int IntKind.u8]] r515, V.own [LT.int IntKind.i64] r516, V.f (F.lit (Value.int IntKind.i64 i517)), V.f (F.lit (Value.int IntKind.i64 i518)), V.f (F.lit (Value.int IntKind.i64 i526)), V.bor [LT.int IntKind.i64, LT.int IntKind.i64, LT.int IntKind.i64, LT.int IntKind.i64, LT.int IntKind.i64, LT.bool, LT.lst [LT.int IntKind.u8]] r520, V.f (F.lit (Value.int IntKind.i64 i521)), V.f (F.lit (Value.int IntKind.i64 i522)), V.own [LT.int IntKind.i64] r523, V.f (F.lit (Value.int IntKind.i64 i524)), V.f (F.lit (Value.int IntKind.i64 i527)), V.undef]) r515 r516 i517 i518 r520 i521 i522 r523 i524 m i519 i525
  | _ => L R 50 13 vs k
set_option maxRecDepth 100000 in
theorem stLp50_13 (m n : Nat) (R : Type) (r515 : Abs.Rows) (r516 : Abs.Rows) (i517 : Int) (i518 : Int) (i519 : Int) (r520 : Abs.Rows) (i521 : Int) (i522 : Int) (r523 : Abs.Rows) (i524 : Int) (i525 : Int) (k : Ex → List V → Option R) : codeK Try.prog H (T23 m) 50 (L17 m) 14 (loopBody Try.prog 50 13) (mkEnv [0, 3, 4, 5, 7, 13, 14, 15, 39, 40, 41, 88] [V.bor [LT.int IntKind.i64, LT.int IntKind.i64, LT.int IntKind.i64, LT.int IntKind.i64, LT.int IntKind.i64, LT.bool, LT.lst [LT.int IntKind.u8]] r515, V.own [LT.int IntKind.i64] r516, V.f (F.lit (Value.int IntKind.i64 i517)), V.f (F.lit (Value.int IntKind.i64 i518)), V.f (F.lit (Value.int IntKind.i64 i519)), V.bor [LT.int IntKind.i64, LT.int IntKind.i64, LT.int IntKind.i64, LT.int IntKind.i64, LT.int IntKind.i64, LT.bool, LT.lst [LT.int IntKind.u8]] r520, V.f (F.lit (Value.int IntKind.i64 i521)), V.f (F.lit (Value.int IntKind.i64 i522)), V.own [LT.int IntKind.i64] r523, V.f (F.lit (Value.int IntKind.i64 i524)), V.f (F.lit (Value.int IntKind.i64 i525)), V.undef] 0 (H.len 50)) (fun e env' => match e with | .normal => ELp50_13 m R n (vals [0, 3, 4, 5, 7, 13, 14, 15, 39, 40, 41, 88] env') k | e => k e (vals [0, 3, 4, 5, 7, 13, 14, 15, 39, 40, 41, 88] env')) = Lp50_13_step m (fun i526 i527 => k (Ex.exit (2 : Nat)) [V.bor [LT.int IntKind.i64, LT.int IntKind.i64, LT.int IntKind.i64, LT.int IntKind.i64, LT.int IntKind.i64, LT.bool, LT.lst [LT.int IntKind.u8]] r515, V.own [LT.int IntKind.i64] r516, V.f (F.lit (Value.int IntKind.i64 i517)), V.f (F.lit (Value.int IntKind.i64 i518)), V.f (F.lit (Value.int IntKind.i64 i526)), V.bor [LT.int IntKind.i64, LT.int IntKind.i64, LT.int IntKind.i64, LT.int IntKind.i64, LT.int IntKind.i64, LT.bool, LT.lst [LT.int IntKind.u8]] r520, V.f (F.lit (Value.int IntKind.i64 i521)), V.f (F.lit (Value.int IntKind.i64 i522)), V.own [LT.int IntKind.i64] r523, V.f (F.lit (Value.int IntKind.i64 i524)), V.f (F.lit (Value.int IntKind.i64 i527)), V.undef]) r515 r516 i517 i518 r520 i521 i522 r523 i524 (fun i519 i525 => ELp50_13 m R n [V.bor [LT.int IntKind.i64, LT.int IntKind.i64, LT.int IntKind.i64, LT.int IntKind.i64, LT.int IntKind.i64, LT.bool, LT.lst [LT.int IntKind.u8]] r515, V.own [LT.int IntKind.i64] r516, V.f (F.lit (Value.int IntKind.i64 i517)), V.f (F.lit (Value.int IntKind.i64 i518)), V.f (F.lit (Value.int IntKind.i64 i519)), V.bor [LT.int IntKind.i64, LT.int IntKind.i64, LT.int IntKind.i64, LT.int IntKind.i64, LT.int IntKind.i64, LT.bool, LT.lst [LT.int IntKind.u8]] r520, V.f (F.lit (Value.int IntKind.i64 i521)), V.f (F.lit (Value.int IntKind.i64 i522)), V.own [LT.int IntKind.i64] r523, V.f (F.lit (Value.int IntKind.i64 i524)), V.f (F.lit (Value.int IntKind.i64 i525)), V.undef] k) i519 i525 := by kernel_rfl
theorem eqLp50_13 (m : Nat) (R : Type) (r515 : Abs.Rows) (r516 : Abs.Rows) (i517 : Int) (i518 : Int) (r520 : Abs.Rows) (i521 : Int) (i522 : Int) (r523 : Abs.Rows) (i524 : Int) (k : Ex → List V → Option R) : ∀ (n : Nat) (i519 : Int) (i525 : Int), ELp50_13 m R n [V.bor [LT.int IntKind.i64, LT.int IntKind.i64, LT.int IntKind.i64, LT.int IntKind.i64, LT.int IntKind.i64, LT.bool, LT.lst [LT.int IntKind.u8]] r515, V.own [LT.int IntKind.i64] r516, V.f (F.lit (Value.int IntKind.i64 i517)), V.f (F.lit (Value.int IntKind.i64 i518)), V.f (F.lit (Value.int IntKind.i64 i519)), V.bor [LT.int IntKind.i64, LT.int IntKind.i64, LT.int IntKind.i64, LT.int IntKind.i64, LT.int IntKind.i64, LT.bool, LT.lst [LT.int IntKind.u8]] r520, V.f (F.lit (Value.int IntKind.i64 i521)), V.f (F.lit (Value.int IntKind.i64 i522)), V.own [LT.int IntKind.i64] r523, V.f (F.lit (Value.int IntKind.i64 i524)), V.f (F.lit (Value.int IntKind.i64 i525)), V.undef] k = Lp50_13 m (fun i526 i527 => k (Ex.exit (2 : Nat)) [V.bor [LT.int IntKind.i64, LT.int IntKind.i64, LT.int IntKind.i64, LT.int IntKind.i64, LT.int IntKind.i64, LT.bool, LT.lst [LT.int IntKind.u8]] r515, V.own [LT.int IntKind.i64] r516, V.f (F.lit (Value.int IntKind.i64 i517)), V.f (F.lit (Value.int IntKind.i64 i518)), V.f (F.lit (Value.int IntKind.i64 i526)), V.bor [LT.int IntKind.i64, LT.int IntKind.i64, LT.int IntKind.i64, LT.int IntKind.i64, LT.int IntKind.i64, LT.bool, LT.lst [LT.int IntKind.u8]] r520, V.f (F.lit (Value.int IntKind.i64 i521)), V.f (F.lit (Value.int IntKind.i64 i522)), V.own [LT.int IntKind.i64] r523, V.f (F.lit (Value.int IntKind.i64 i524)), V.f (F.lit (Value.int IntKind.i64 i527)), V.undef]) r515 r516 i517 i518 r520 i521 i522 r523 i524 n i519 i525
  | 0, _, _ => rfl
  | n + 1, i519, i525 => by
    simp only [ELp50_13, Lp50_13]
    congr 1
    funext i519 i525
    exact eqLp50_13 m R r515 r516 i517 i518 r520 i521 i522 r523 i524 k n i519 i525
def L18 (m : Nat) : LTbl := addB 50 13 (brLp50_13 m (L17 m)) (L17 m)
theorem okL18 (m : Nat) : LTOk Try.prog H (L18 m) := addB_ok (okT23 m) hM (okL17 m) (l := [0, 3, 4, 5, 7, 13, 14, 15, 39, 40, 41, 88]) (by kernel_rfl) (by kernel_rfl) m (fun R n vs k => ELp50_13 m R n vs k) (fun R vs k => rfl) (fun R n vs k x h => by
      simp only [ELp50_13] at h
      split at h
      · exact (stLp50_13 m n R _ _ _ _ _ _ _ _ _ _ _ k).trans h
      · cases h) fun R vs k x h => by
    unfold brLp50_13 at h
    split at h
    · exact .inl ((eqLp50_13 m R _ _ _ _ _ _ _ _ _ k m _ _).trans h)
    · exact .inr h

/-- a rest of hookflash/flashref2.NumbersOf -/
def Jn50_20 {R : Type} (m : Nat) (kx0 : Abs.Rows → Int → Option R) (r530 : Abs.Rows) (r531 : Abs.Rows) (i532 : Int) (i533 : Int) (i534 : Int) (r535 : Abs.Rows) (i536 : Int) (i537 : Int) : Option R :=
  bif i533 == (0 : Int) then (bif decide (List.length r531 + List.length [[F.lit (Value.int IntKind.i64 i534)]] ≤ rowMax) then (letV (r531 ++ [[F.lit (Value.int IntKind.i64 i534)]]) (fun r538 => kx0 r538 i534)) else
  (none)) else
  (bif decide (i534 > i532) then (bif decide (List.length r531 + List.length [[F.lit (Value.int IntKind.i64 i534)]] ≤ rowMax) then (letV (r531 ++ [[F.lit (Value.int IntKind.i64 i534)]]) (fun r539 => kx0 r539 i534)) else
  (none)) else
  (bif decide (List.length r531 + List.length [[F.lit (Value.int IntKind.i64 i534)]] ≤ rowMax) then (letV (r531 ++ [[F.lit (Value.int IntKind.i64 i534)]]) (fun r540 => kx0 r540 i532)) else
  (none)))
def brJn50_20 (m : Nat) (L : LTbl) (R : Type) (vs : List V) (k : Ex → List V → Option R) : Option R := match vs with
  | [V.bor [LT.int IntKind.i64, LT.int IntKind.i64, LT.int IntKind.i64, LT.int IntKind.i64, LT.int IntKind.i64, LT.bool, LT.lst [LT.int IntKind.u8]] r530, V.own [LT.int IntKind.i64] r531, V.f (F.lit (Value.int IntKind.i64 i532)), V.f (F.lit (Value.int IntKind.i64 i533)), V.f (F.lit (Value.int IntKind.i64 i534)), V.bor [LT.int IntKind.i64, LT.int IntKind.i64, LT.int IntKind.i64, LT.int IntKind.i64, LT.int IntKind.i64, LT.bool, LT.lst [LT.int IntKind.u8]] r535, V.f (F.lit (Value.int IntKind.i64 i536)), V.f (F.lit (Value.int IntKind.i64 i537)), V.undef, V.undef] => Jn50_20 m (fun r541 i542 => k Ex.normal [V.bor [LT.int IntKind.i64, LT.int IntKind.i64, LT.int IntKind.i64, LT.int IntKind.i64, LT.int IntKind.i64, LT.bool, LT.lst [LT.int IntKind.u8]] r530, V.own [LT.int IntKind.i64] r541, V.f (F.lit (Value.int IntKind.i64 i542)), V.f (F.lit (Value.int IntKind.i64 i533)), V.f (F.lit (Value.int IntKind.i64 i534)), V.bor [LT.int IntKind.i64, LT.int IntKind.i64, LT.int IntKind.i64, LT.int IntKind.i64, LT.int IntKind.i64, LT.bool, LT.lst [LT.int IntKind.u8]] r535, V.f (F.lit (Value.int IntKind.i64 i536)), V.f (F.lit (Value.int IntKind.i64 i537)), V.undef, V.undef]) r530 r531 i532 i533 i534 r535 i536 i537
  | _ => L R 50 20 vs k
set_option maxRecDepth 100000 in
theorem evJn50_20 (m : Nat) (R : Type) (r530 : Abs.Rows) (r531 : Abs.Rows) (i532 : Int) (i533 : Int) (i534 : Int) (r535 : Abs.Rows) (i536 : Int) (i537 : Int) (k : Ex → List V → Option R) : codeK Try.prog H (T23 m) 50 (L18 m) 21 (loopBody Try.prog 50 20) (mkEnv [0, 3, 4, 5, 7, 13, 14, 15, 85, 88] [V.bor [LT.int IntKind.i64, LT.int IntKind.i64, LT.int IntKind.i64, LT.int IntKind.i64, LT.int IntKind.i64, LT.bool, LT.lst [LT.int IntKind.u8]] r530, V.own [LT.int IntKind.i64] r531, V.f (F.lit (Value.int IntKind.i64 i532)), V.f (F.lit (Value.int IntKind.i64 i533)), V.f (F.lit (Value.int IntKind.i64 i534)), V.bor [LT.int IntKind.i64, LT.int IntKind.i64, LT.int IntKind.i64, LT.int IntKind.i64, LT.int IntKind.i64, LT.bool, LT.lst [LT.int IntKind.u8]] r535, V.f (F.lit (Value.int IntKind.i64 i536)), V.f (F.lit (Value.int IntKind.i64 i537)), V.undef, V.undef] 0 (H.len 50)) (fun e env' => k e (vals [0, 3, 4, 5, 7, 13, 14, 15, 85, 88] env')) = Jn50_20 m (fun r541 i542 => k Ex.normal [V.bor [LT.int IntKind.i64, LT.int IntKind.i64, LT.int IntKind.i64, LT.int IntKind.i64, LT.int IntKind.i64, LT.bool, LT.lst [LT.int IntKind.u8]] r530, V.own [LT.int IntKind.i64] r541, V.f (F.lit (Value.int IntKind.i64 i542)), V.f (F.lit (Value.int IntKind.i64 i533)), V.f (F.lit (Value.int IntKind.i64 i534)), V.bor [LT.int IntKind.i64, LT.int IntKind.i64, LT.int IntKind.i64, LT.int IntKind.i64, LT.int IntKind.i64, LT.bool, LT.lst [LT.int IntKind.u8]] r535, V.f (F.lit (Value.int IntKind.i64 i536)), V.f (F.lit (Value.int IntKind.i64 i537)), V.undef, V.undef]) r530 r531 i532 i533 i534 r535 i536 i537 := by kernel_rfl
def L19 (m : Nat) : LTbl := addJ 50 20 (brJn50_20 m (L18 m)) (L18 m)
theorem okL19 (m : Nat) : LTOk Try.prog H (L19 m) := addJ_ok (okT23 m) hM (okL18 m) (l := [0, 3, 4, 5, 7, 13, 14, 15, 85, 88]) (by kernel_rfl) (by kernel_rfl) fun R vs k x h => by
    unfold brJn50_20 at h
    split at h
    · exact .inl ((evJn50_20 m R _ _ _ _ _ _ _ _ k).trans h)
    · exact .inr h

/-- a round of a loop of hookflash/flashref2.NumbersOf -/
def Lp50_4_step {R : Type} (m : Nat) (kx0 : Abs.Rows → Int → Int → Option R) (r509 : Abs.Rows) (r512 : Abs.Rows) (i513 : Int) (REC : Abs.Rows → Int → Int → Option R) (r510 : Abs.Rows) (i511 : Int) (i514 : Int) : Option R :=
  bif decide (i514 < i513) then (bif decide ((0 : Int) ≤ i514 ∧ i514 < (↑(List.length r512) : Int)) then (bif decide (i514 > (0 : Int)) then (Lp50_13 m (fun i528 i529 => Jn50_20 m (fun r543 i544 => REC r543 i544 (IntKind.wrap IntKind.i64 (i514 + (1 : Int)))) r509 r510 i511 i514 i528 r512 i513 i514) r509 r510 i511 i514 r512 i513 i514 ([[F.lit (Value.int IntKind.i64 (IntKind.wrap IntKind.i64 (IntKind.wrap IntKind.i64 (IntKind.wrap IntKind.i64 (i511 - Int.tmod i511 (65536 : Int)) + fI r512 (Int.toNat i514) (2 : Nat)) - (65536 : Int))))], [F.lit (Value.int IntKind.i64 (IntKind.wrap IntKind.i64 (IntKind.wrap IntKind.i64 (IntKind.wrap IntKind.i64 (i511 - Int.tmod i511 (65536 : Int)) + fI r512 (Int.toNat i514) (2 : Nat)) + (65536 : Int))))]]) ((↑(List.length [[F.lit (Value.int IntKind.i64 (IntKind.wrap IntKind.i64 (IntKind.wrap IntKind.i64 (IntKind.wrap IntKind.i64 (i511 - Int.tmod i511 (65536 : Int)) + fI r512 (Int.toNat i514) (2 : Nat)) - (65536 : Int))))], [F.lit (Value.int IntKind.i64 (IntKind.wrap IntKind.i64 (IntKind.wrap IntKind.i64 (IntKind.wrap IntKind.i64 (i511 - Int.tmod i511 (65536 : Int)) + fI r512 (Int.toNat i514) (2 : Nat)) + (65536 : Int))))]]) : Int)) m (IntKind.wrap IntKind.i64 (IntKind.wrap IntKind.i64 (i511 - Int.tmod i511 (65536 : Int)) + fI r512 (Int.toNat i514) (2 : Nat))) ((0 : Int))) else
  (Jn50_20 m (fun r545 i546 => REC r545 i546 (IntKind.wrap IntKind.i64 (i514 + (1 : Int)))) r509 r510 i511 i514 (IntKind.wrap IntKind.i64 (fI r512 (Int.toNat i514) (2 : Nat) + (65536 : Int))) r512 i513 i514)) else
  (none)) else
  (kx0 r510 i511 i514)
def Lp50_4 {R : Type} (m : Nat) (kx0 : Abs.Rows → Int → Int → Option R) (r509 : Abs.Rows) (r512 : Abs.Rows) (i513 : Int) : Nat → Abs.Rows → Int → Int → Option R
  | 0, _, _, _ => none
  | n + 1, r510, i511, i514 => Lp50_4_step m kx0 r509 r512 i513 (Lp50_4 m kx0 r509 r512 i513 n) r510 i511 i514
def ELp50_4 (m : Nat) (R : Type) : Nat → List V → (Ex → List V → Option R) → Option R
  | 0, _, _ => none
  | n + 1, vs, k => match vs with
    | [V.bor [LT.int IntKind.i64, LT.int IntKind.i64, LT.int IntKind.i64, LT.int IntKind.i64, LT.int IntKind.i64, LT.bool, LT.lst [LT.int IntKind.u8]] r509, V.own [LT.int IntKind.i64] r510, V.f (F.lit (Value.int IntKind.i64 i511)), V.bor [LT.int IntKind.i64, LT.int IntKind.i64, LT.int IntKind.i64, LT.int IntKind.i64, LT.int IntKind.i64, LT.bool, LT.lst [LT.int IntKind.u8]] r512, V.f (F.lit (Value.int IntKind.i64 i513)), V.f (F.lit (Value.int IntKind.i64 i514)), V.undef] => Lp50_4_step m (fun r547 i548 i549 => k (Ex.exit (0 : Nat)) [V.bor [LT.int IntKind.i64, LT.int IntKind.i64, LT.int IntKind.i64, LT.int IntKind.i64, LT.int IntKind.i64, LT.bool, LT.lst [LT.int IntKind.u8]] r509, V.own [LT.int IntKind.i64] r547, V.f (F.lit (Value.int IntKind.i64 i548)), V.bor [LT.int IntKind.i64, LT.int IntKind.i64, LT.int IntKind.i64, LT.int IntKind.i64, LT.int IntKind.i64, LT.bool, LT.lst [LT.int IntKind.u8]] r512, V.f (F.lit (Value.int IntKind.i64 i513)), V.f (F.lit (Value.int IntKind.i64 i549)), V.undef]) r509 r512 i513 (fun r510 i511 i514 => ELp50_4 m R n [V.bor [LT.int IntKind.i64, LT.int IntKind.i64, LT.int IntKind.i64, LT.int IntKind.i64, LT.int IntKind.i64, LT.bool, LT.lst [LT.int IntKind.u8]] r509, V.own [LT.int IntKind.i64] r510, V.f (F.lit (Value.int IntKind.i64 i511)), V.bor [LT.int IntKind.i64, LT.int IntKind.i64, LT.int IntKind.i64, LT.int IntKind.i64, LT.int IntKind.i64, LT.bool, LT.lst [LT.int IntKind.u8]] r512, V.f (F.lit (Value.int IntKind.i64 i513)), V.f (F.lit (Value.int IntKind.i64 i514)), V.undef] k) r510 i511 i514
    | _ => none
def brLp50_4 (m : Nat) (L : LTbl) (R : Type) (vs : List V) (k : Ex → List V → Option R) : Option R := match vs with
  | [V.bor [LT.int IntKind.i64, LT.int IntKind.i64, LT.int IntKind.i64, LT.int IntKind.i64, LT.int IntKind.i64, LT.bool, LT.lst [LT.int IntKind.u8]] r509, V.own [LT.int IntKind.i64] r510, V.f (F.lit (Value.int IntKind.i64 i511)), V.bor [LT.int IntKind.i64, LT.int IntKind.i64, LT.int IntKind.i64, LT.int IntKind.i64, LT.int IntKind.i64, LT.bool, LT.lst [LT.int IntKind.u8]] r512, V.f (F.lit (Value.int IntKind.i64 i513)), V.f (F.lit (Value.int IntKind.i64 i514)), V.undef] => Lp50_4 m (fun r547 i548 i549 => k (Ex.exit (0 : Nat)) [V.bor [LT.int IntKind.i64, LT.int IntKind.i64, LT.int IntKind.i64, LT.int IntKind.i64, LT.int IntKind.i64, LT.bool, LT.lst [LT.int IntKind.u8]] r509, V.own [LT.int IntKind.i64] r547, V.f (F.lit (Value.int IntKind.i64 i548)), V.bor [LT.int IntKind.i64, LT.int IntKind.i64, LT.int IntKind.i64, LT.int IntKind.i64, LT.int IntKind.i64, LT.bool, LT.lst [LT.int IntKind.u8]] r512, V.f (F.lit (Value.int IntKind.i64 i513)), V.f (F.lit (Value.int IntKind.i64 i549)), V.undef]) r509 r512 i513 m r510 i511 i514
  | _ => L R 50 4 vs k
set_option maxRecDepth 100000 in
theorem stLp50_4 (m n : Nat) (R : Type) (r509 : Abs.Rows) (r510 : Abs.Rows) (i511 : Int) (r512 : Abs.Rows) (i513 : Int) (i514 : Int) (k : Ex → List V → Option R) : codeK Try.prog H (T23 m) 50 (L19 m) 5 (loopBody Try.prog 50 4) (mkEnv [0, 3, 4, 13, 14, 15, 88] [V.bor [LT.int IntKind.i64, LT.int IntKind.i64, LT.int IntKind.i64, LT.int IntKind.i64, LT.int IntKind.i64, LT.bool, LT.lst [LT.int IntKind.u8]] r509, V.own [LT.int IntKind.i64] r510, V.f (F.lit (Value.int IntKind.i64 i511)), V.bor [LT.int IntKind.i64, LT.int IntKind.i64, LT.int IntKind.i64, LT.int IntKind.i64, LT.int IntKind.i64, LT.bool, LT.lst [LT.int IntKind.u8]] r512, V.f (F.lit (Value.int IntKind.i64 i513)), V.f (F.lit (Value.int IntKind.i64 i514)), V.undef] 0 (H.len 50)) (fun e env' => match e with | .normal => ELp50_4 m R n (vals [0, 3, 4, 13, 14, 15, 88] env') k | e => k e (vals [0, 3, 4, 13, 14, 15, 88] env')) = Lp50_4_step m (fun r547 i548 i549 => k (Ex.exit (0 : Nat)) [V.bor [LT.int IntKind.i64, LT.int IntKind.i64, LT.int IntKind.i64, LT.int IntKind.i64, LT.int IntKind.i64, LT.bool, LT.lst [LT.int IntKind.u8]] r509, V.own [LT.int IntKind.i64] r547, V.f (F.lit (Value.int IntKind.i64 i548)), V.bor [LT.int IntKind.i64, LT.int IntKind.i64, LT.int IntKind.i64, LT.int IntKind.i64, LT.int IntKind.i64, LT.bool, LT.lst [LT.int IntKind.u8]] r512, V.f (F.lit (Value.int IntKind.i64 i513)), V.f (F.lit (Value.int IntKind.i64 i549)), V.undef]) r509 r512 i513 (fun r510 i511 i514 => ELp50_4 m R n [V.bor [LT.int IntKind.i64, LT.int IntKind.i64, LT.int IntKind.i64, LT.int IntKind.i64, LT.int IntKind.i64, LT.bool, LT.lst [LT.int IntKind.u8]] r509, V.own [LT.int IntKind.i64] r510, V.f (F.lit (Value.int IntKind.i64 i511)), V.bor [LT.int IntKind.i64, LT.int IntKind.i64, LT.int IntKind.i64, LT.int IntKind.i64, LT.int IntKind.i64, LT.bool, LT.lst [LT.int IntKind.u8]] r512, V.f (F.lit (Value.int IntKind.i64 i513)), V.f (F.lit (Value.int IntKind.i64 i514)), V.undef] k) r510 i511 i514 := by kernel_rfl
theorem eqLp50_4 (m : Nat) (R : Type) (r509 : Abs.Rows) (r512 : Abs.Rows) (i513 : Int) (k : Ex → List V → Option R) : ∀ (n : Nat) (r510 : Abs.Rows) (i511 : Int) (i514 : Int), ELp50_4 m R n [V.bor [LT.int IntKind.i64, LT.int IntKind.i64, LT.int IntKind.i64, LT.int IntKind.i64, LT.int IntKind.i64, LT.bool, LT.lst [LT.int IntKind.u8]] r509, V.own [LT.int IntKind.i64] r510, V.f (F.lit (Value.int IntKind.i64 i511)), V.bor [LT.int IntKind.i64, LT.int IntKind.i64, LT.int IntKind.i64, LT.int IntKind.i64, LT.int IntKind.i64, LT.bool, LT.lst [LT.int IntKind.u8]] r512, V.f (F.lit (Value.int IntKind.i64 i513)), V.f (F.lit (Value.int IntKind.i64 i514)), V.undef] k = Lp50_4 m (fun r547 i548 i549 => k (Ex.exit (0 : Nat)) [V.bor [LT.int IntKind.i64, LT.int IntKind.i64, LT.int IntKind.i64, LT.int IntKind.i64, LT.int IntKind.i64, LT.bool, LT.lst [LT.int IntKind.u8]] r509, V.own [LT.int IntKind.i64] r547, V.f (F.lit (Value.int IntKind.i64 i548)), V.bor [LT.int IntKind.i64, LT.int IntKind.i64, LT.int IntKind.i64, LT.int IntKind.i64, LT.int IntKind.i64, LT.bool, LT.lst [LT.int IntKind.u8]] r512, V.f (F.lit (Value.int IntKind.i64 i513)), V.f (F.lit (Value.int IntKind.i64 i549)), V.undef]) r509 r512 i513 n r510 i511 i514
  | 0, _, _, _ => rfl
  | n + 1, r510, i511, i514 => by
    simp only [ELp50_4, Lp50_4]
    congr 1
    funext r510 i511 i514
    exact eqLp50_4 m R r509 r512 i513 k n r510 i511 i514
def L20 (m : Nat) : LTbl := addB 50 4 (brLp50_4 m (L19 m)) (L19 m)
theorem okL20 (m : Nat) : LTOk Try.prog H (L20 m) := addB_ok (okT23 m) hM (okL19 m) (l := [0, 3, 4, 13, 14, 15, 88]) (by kernel_rfl) (by kernel_rfl) m (fun R n vs k => ELp50_4 m R n vs k) (fun R vs k => rfl) (fun R n vs k x h => by
      simp only [ELp50_4] at h
      split at h
      · exact (stLp50_4 m n R _ _ _ _ _ _ k).trans h
      · cases h) fun R vs k x h => by
    unfold brLp50_4 at h
    split at h
    · exact .inl ((eqLp50_4 m R _ _ _ k m _ _ _).trans h)
    · exact .inr h

/-- hookflash/flashref2.NumbersOf -/
def Fn50 {R : Type} (m : Nat) : Abs.Rows → (Abs.Rows → Option R) → Option R := match m with
  | 0 => fun _ _ => none
  | m + 1 => fun r508 k =>
  Lp50_4 m (fun r550 i551 i552 => k r550) r508 r508 ((↑(List.length r508) : Int)) m rows0 ((0 : Int)) ((0 : Int))
def brFn50 (m : Nat) (T : Tbl) (R : Type) (vs : List V) (k : V → List V → Option R) : Option R := match vs with
  | [V.bor [LT.int IntKind.i64, LT.int IntKind.i64, LT.int IntKind.i64, LT.int IntKind.i64, LT.int IntKind.i64, LT.bool, LT.lst [LT.int IntKind.u8]] r508] => Fn50 m r508 (fun r553 => k (V.own [LT.int IntKind.i64] r553) [V.undef])
  | _ => T R 50 vs k
set_option maxRecDepth 100000 in
theorem evFn50 (m : Nat) (R : Type) (r508 : Abs.Rows) (k : V → List V → Option R) : runK Try.prog H (T23 m) (L20 m) 50 [V.bor [LT.int IntKind.i64, LT.int IntKind.i64, LT.int IntKind.i64, LT.int IntKind.i64, LT.int IntKind.i64, LT.bool, LT.lst [LT.int IntKind.u8]] r508] k = Fn50 (m + 1) r508 (fun r553 => k (V.own [LT.int IntKind.i64] r553) [V.undef]) := by kernel_rfl
def T24 (m : Nat) : Tbl := addT 50 (brFn50 m (T23 m)) (T23 m)
theorem okT24 (m : Nat) : TblOk Try.prog (T24 m) := addT_ok (okT23 m) fun R vs k x h => by
  unfold brFn50 at h
  split at h
  · cases m with
    | zero => cases h
    | succ m => exact runK_some (okT23 m) hM (okL20 m) ((evFn50 m R _ k).trans h)
  · exact okT23 m R 50 _ k x h

/-- a round of a loop of slices.Equal[[]int,int] -/
def Lp38_5_step {R : Type} (m : Nat) (kx0 : Bool → Int → Option R) (kx1 : Int → Option R) (r557 : Abs.Rows) (r558 : Abs.Rows) (b559 : Bool) (i560 : Int) (REC : Int → Option R) (i561 : Int) : Option R :=
  bif decide (i561 < i560) then (bif decide ((0 : Int) ≤ i561 ∧ i561 < (↑(List.length r557) : Int)) then (bif decide ((0 : Int) ≤ i561 ∧ i561 < (↑(List.length r558) : Int)) then (bif fI r557 (Int.toNat i561) (0 : Nat) != fI r558 (Int.toNat i561) (0 : Nat) then (kx0 false i561) else
  (REC (IntKind.wrap IntKind.i64 (i561 + (1 : Int))))) else
  (none)) else
  (none)) else
  (kx1 i561)
def Lp38_5 {R : Type} (m : Nat) (kx0 : Bool → Int → Option R) (kx1 : Int → Option R) (r557 : Abs.Rows) (r558 : Abs.Rows) (b559 : Bool) (i560 : Int) : Nat → Int → Option R
  | 0, _ => none
  | n + 1, i561 => Lp38_5_step m kx0 kx1 r557 r558 b559 i560 (Lp38_5 m kx0 kx1 r557 r558 b559 i560 n) i561
def ELp38_5 (m : Nat) (R : Type) : Nat → List V → (Ex → List V → Option R) → Option R
  | 0, _, _ => none
  | n + 1, vs, k => match vs with
    | [V.bor [LT.int IntKind.i64] r557, V.bor [LT.int IntKind.i64] r558, V.f (F.lit (Value.bool b559)), V.f (F.lit (Value.int IntKind.i64 i560)), V.f (F.lit (Value.int IntKind.i64 i561)), V.undef, V.undef] => Lp38_5_step m (fun b562 i563 => k Ex.ret [V.bor [LT.int IntKind.i64] r557, V.bor [LT.int IntKind.i64] r558, V.f (F.lit (Value.bool b562)), V.f (F.lit (Value.int IntKind.i64 i560)), V.f (F.lit (Value.int IntKind.i64 i563)), V.undef, V.undef]) (fun i564 => k (Ex.exit (0 : Nat)) [V.bor [LT.int IntKind.i64] r557, V.bor [LT.int IntKind.i64] r558, V.f (F.lit (Value.bool b559)), V.f (F.lit (Value.int IntKind.i64 i560)), V.f (F.lit (Value.int IntKind.i64 i564)), V.undef, V.undef]) r557 r558 b559 i560 (fun i561 => ELp38_5 m R n [V.bor [LT.int IntKind.i64] r557, V.bor [LT.int IntKind.i64] r558, V.f (F.lit (Value.bool b559)), V.f (F.lit (Value.int IntKind.i64 i560)), V.f (F.lit (Value.int IntKind.i64 i561)), V.undef, V.undef] k) i561
    | _ => none
def brLp38_5 (m : Nat) (L : LTbl) (R : Type) (vs : List V) (k : Ex → List V → Option R) : Option R := match vs with
  | [V.bor [LT.int IntKind.i64] r557, V.bor [LT.int IntKind.i64] r558, V.f (F.lit (Value.bool b559)), V.f (F.lit (Value.int IntKind.i64 i560)), V.f (F.lit (Value.int IntKind.i64 i561)), V.undef, V.undef] => Lp38_5 m (fun b562 i563 => k Ex.ret [V.bor [LT.int IntKind.i64] r557, V.bor [LT.int IntKind.i64] r558, V.f (F.lit (Value.bool b562)), V.f (F.lit (Value.int IntKind.i64 i560)), V.f (F.lit (Value.int IntKind.i64 i563)), V.undef, V.undef]) (fun i564 => k (Ex.exit (0 : Nat)) [V.bor [LT.int IntKind.i64] r557, V.bor [LT.int IntKind.i64] r558, V.f (F.lit (Value.bool b559)), V.f (F.lit (Value.int IntKind.i64 i560)), V.f (F.lit (Value.int IntKind.i64 i564)), V.undef, V.undef]) r557 r558 b559 i560 m i561
  | _ => L R 38 5 vs k
set_option maxRecDepth 100000 in
theorem stLp38_5 (m n : Nat) (R : Type) (r557 : Abs.Rows) (r558 : Abs.Rows) (b559 : Bool) (i560 : Int) (i561 : Int) (k : Ex → List V → Option R) : codeK Try.prog H (T24 m) 38 (L20 m) 6 (loopBody Try.prog 38 5) (mkEnv [0, 1, 4, 12, 13, 26, 27] [V.bor [LT.int IntKind.i64] r557, V.bor [LT.int IntKind.i64] r558, V.f (F.lit (Value.bool b559)), V.f (F.lit (Value.int IntKind.i64 i560)), V.f (F.lit (Value.int IntKind.i64 i561)), V.undef, V.undef] 0 (H.len 38)) (fun e env' => match e with | .normal => ELp38_5 m R n (vals [0, 1, 4, 12, 13, 26, 27] env') k | e => k e (vals [0, 1, 4, 12, 13, 26, 27] env')) = Lp38_5_step m (fun b562 i563 => k Ex.ret [V.bor [LT.int IntKind.i64] r557, V.bor [LT.int IntKind.i64] r558, V.f (F.lit (Value.bool b562)), V.f (F.lit (Value.int IntKind.i64 i560)), V.f (F.lit (Value.int IntKind.i64 i563)), V.undef, V.undef]) (fun i564 => k (Ex.exit (0 : Nat)) [V.bor [LT.int IntKind.i64] r557, V.bor [LT.int IntKind.i64] r558, V.f (F.lit (Value.bool b559)), V.f (F.lit (Value.int IntKind.i64 i560)), V.f (F.lit (Value.int IntKind.i64 i564)), V.undef, V.undef]) r557 r558 b559 i560 (fun i561 => ELp38_5 m R n [V.bor [LT.int IntKind.i64] r557, V.bor [LT.int IntKind.i64] r558, V.f (F.lit (Value.bool b559)), V.f (F.lit (Value.int IntKind.i64 i560)), V.f (F.lit (Value.int IntKind.i64 i561)), V.undef, V.undef] k) i561 := by kernel_rfl
theorem eqLp38_5 (m : Nat) (R : Type) (r557 : Abs.Rows) (r558 : Abs.Rows) (b559 : Bool) (i560 : Int) (k : Ex → List V → Option R) : ∀ (n : Nat) (i561 : Int), ELp38_5 m R n [V.bor [LT.int IntKind.i64] r557, V.bor [LT.int IntKind.i64] r558, V.f (F.lit (Value.bool b559)), V.f (F.lit (Value.int IntKind.i64 i560)), V.f (F.lit (Value.int IntKind.i64 i561)), V.undef, V.undef] k = Lp38_5 m (fun b562 i563 => k Ex.ret [V.bor [LT.int IntKind.i64] r557, V.bor [LT.int IntKind.i64] r558, V.f (F.lit (Value.bool b562)), V.f (F.lit (Value.int IntKind.i64 i560)), V.f (F.lit (Value.int IntKind.i64 i563)), V.undef, V.undef]) (fun i564 => k (Ex.exit (0 : Nat)) [V.bor [LT.int IntKind.i64] r557, V.bor [LT.int IntKind.i64] r558, V.f (F.lit (Value.bool b559)), V.f (F.lit (Value.int IntKind.i64 i560)), V.f (F.lit (Value.int IntKind.i64 i564)), V.undef, V.undef]) r557 r558 b559 i560 n i561
  | 0, _ => rfl
  | n + 1, i561 => by
    simp only [ELp38_5, Lp38_5]
    congr 1
    funext i561
    exact eqLp38_5 m R r557 r558 b559 i560 k n i561
def L21 (m : Nat) : LTbl := addB 38 5 (brLp38_5 m (L20 m)) (L20 m)
theorem okL21 (m : Nat) : LTOk Try.prog H (L21 m) := addB_ok (okT24 m) hM (okL20 m) (l := [0, 1, 4, 12, 13, 26, 27]) (by kernel_rfl) (by kernel_rfl) m (fun R n vs k => ELp38_5 m R n vs k) (fun R vs k => rfl) (fun R n vs k x h => by
      simp only [ELp38_5] at h
      split at h
      · exact (stLp38_5 m n R _ _ _ _ _ k).trans h
      · cases h) fun R vs k x h => by
    unfold brLp38_5 at h
    split at h
    · exact .inl ((eqLp38_5 m R _ _ _ _ k m _).trans h)
    · exact .inr h

/-- slices.Equal[[]int,int] -/
def Fn38 {R : Type} (m : Nat) : Abs.Rows → Abs.Rows → (Bool → Option R) → Option R := match m with
  | 0 => fun _ _ _ => none
  | m + 1 => fun r555 r556 k =>
  bif (↑(List.length r555) : Int) != (↑(List.length r556) : Int) then (k false) else
  (Lp38_5 m (fun b565 i566 => k b565) (fun i567 => k true) r555 r556 false ((↑(List.length r555) : Int)) m ((0 : Int)))
def brFn38 (m : Nat) (T : Tbl) (R : Type) (vs : List V) (k : V → List V → Option R) : Option R := match vs with
  | [V.bor [LT.int IntKind.i64] r555, V.bor [LT.int IntKind.i64] r556] => Fn38 m r555 r556 (fun b568 => k (V.f (F.lit (Value.bool b568))) [V.undef, V.undef])
  | _ => T R 38 vs k
set_option maxRecDepth 100000 in
theorem evFn38 (m : Nat) (R : Type) (r555 : Abs.Rows) (r556 : Abs.Rows) (k : V → List V → Option R) : runK Try.prog H (T24 m) (L21 m) 38 [V.bor [LT.int IntKind.i64] r555, V.bor [LT.int IntKind.i64] r556] k = Fn38 (m + 1) r555 r556 (fun b568 => k (V.f (F.lit (Value.bool b568))) [V.undef, V.undef]) := by kernel_rfl
def T25 (m : Nat) : Tbl := addT 38 (brFn38 m (T24 m)) (T24 m)
theorem okT25 (m : Nat) : TblOk Try.prog (T25 m) := addT_ok (okT24 m) fun R vs k x h => by
  unfold brFn38 at h
  split at h
  · cases m with
    | zero => cases h
    | succ m => exact runK_some (okT24 m) hM (okL21 m) ((evFn38 m R _ _ k).trans h)
  · exact okT24 m R 38 _ k x h

/-- a round of a loop of slices.Max[[]int,int] -/
def Lp80_5_step {R : Type} (m : Nat) (kx0 : Int → Int → Option R) (r575 : Abs.Rows) (REC : Int → Int → Option R) (i576 : Int) (i577 : Int) : Option R :=
  bif decide (i577 < (↑(List.length r575) : Int)) then (bif decide ((0 : Int) ≤ i577 ∧ i577 < (↑(List.length r575) : Int)) then (REC (if fI r575 (Int.toNat i577) (0 : Nat) > i576 then fI r575 (Int.toNat i577) (0 : Nat) else i576) (IntKind.wrap IntKind.i64 (i577 + (1 : Int)))) else
  (none)) else
  (kx0 i576 i577)
def Lp80_5 {R : Type} (m : Nat) (kx0 : Int → Int → Option R) (r575 : Abs.Rows) : Nat → Int → Int → Option R
  | 0, _, _ => none
  | n + 1, i576, i577 => Lp80_5_step m kx0 r575 (Lp80_5 m kx0 r575 n) i576 i577
def ELp80_5 (m : Nat) (R : Type) : Nat → List V → (Ex → List V → Option R) → Option R
  | 0, _, _ => none
  | n + 1, vs, k => match vs with
    | [V.bor [LT.int IntKind.i64] r575, V.f (F.lit (Value.int IntKind.i64 i576)), V.f (F.lit (Value.int IntKind.i64 i577)), V.undef] => Lp80_5_step m (fun i578 i579 => k (Ex.exit (0 : Nat)) [V.bor [LT.int IntKind.i64] r575, V.f (F.lit (Value.int IntKind.i64 i578)), V.f (F.lit (Value.int IntKind.i64 i579)), V.undef]) r575 (fun i576 i577 => ELp80_5 m R n [V.bor [LT.int IntKind.i64] r575, V.f (F.lit (Value.int IntKind.i64 i576)), V.f (F.lit (Value.int IntKind.i64 i577)), V.undef] k) i576 i577
    | _ => none
def brLp80_5 (m : Nat) (L : LTbl) (R : Type) (vs : List V) (k : Ex → List V → Option R) : Option R := match vs with
  | [V.bor [LT.int IntKind.i64] r575, V.f (F.lit (Value.int IntKind.i64 i576)), V.f (F.lit (Value.int IntKind.i64 i577)), V.undef] => Lp80_5 m (fun i578 i579 => k (Ex.exit (0 : Nat)) [V.bor [LT.int IntKind.i64] r575, V.f (F.lit (Value.int IntKind.i64 i578)), V.f (F.lit (Value.int IntKind.i64 i579)), V.undef]) r575 m i576 i577
  | _ => L R 80 5 vs k
set_option maxRecDepth 100000 in
theorem stLp80_5 (m n : Nat) (R : Type) (r575 : Abs.Rows) (i576 : Int) (i577 : Int) (k : Ex → List V → Option R) : codeK Try.prog H (T25 m) 80 (L21 m) 6 (loopBody Try.prog 80 5) (mkEnv [0, 3, 4, 25] [V.bor [LT.int IntKind.i64] r575, V.f (F.lit (Value.int IntKind.i64 i576)), V.f (F.lit (Value.int IntKind.i64 i577)), V.undef] 0 (H.len 80)) (fun e env' => match e with | .normal => ELp80_5 m R n (vals [0, 3, 4, 25] env') k | e => k e (vals [0, 3, 4, 25] env')) = Lp80_5_step m (fun i578 i579 => k (Ex.exit (0 : Nat)) [V.bor [LT.int IntKind.i64] r575, V.f (F.lit (Value.int IntKind.i64 i578)), V.f (F.lit (Value.int IntKind.i64 i579)), V.undef]) r575 (fun i576 i577 => ELp80_5 m R n [V.bor [LT.int IntKind.i64] r575, V.f (F.lit (Value.int IntKind.i64 i576)), V.f (F.lit (Value.int IntKind.i64 i577)), V.undef] k) i576 i577 := by kernel_rfl
theorem eqLp80_5 (m : Nat) (R : Type) (r575 : Abs.Rows) (k : Ex → List V → Option R) : ∀ (n : Nat) (i576 : Int) (i577 : Int), ELp80_5 m R n [V.bor [LT.int IntKind.i64] r575, V.f (F.lit (Value.int IntKind.i64 i576)), V.f (F.lit (Value.int IntKind.i64 i577)), V.undef] k = Lp80_5 m (fun i578 i579 => k (Ex.exit (0 : Nat)) [V.bor [LT.int IntKind.i64] r575, V.f (F.lit (Value.int IntKind.i64 i578)), V.f (F.lit (Value.int IntKind.i64 i579)), V.undef]) r575 n i576 i577
  | 0, _, _ => rfl
  | n + 1, i576, i577 => by
    simp only [ELp80_5, Lp80_5]
    congr 1
    funext i576 i577
    exact eqLp80_5 m R r575 k n i576 i577
def L22 (m : Nat) : LTbl := addB 80 5 (brLp80_5 m (L21 m)) (L21 m)
theorem okL22 (m : Nat) : LTOk Try.prog H (L22 m) := addB_ok (okT25 m) hM (okL21 m) (l := [0, 3, 4, 25]) (by kernel_rfl) (by kernel_rfl) m (fun R n vs k => ELp80_5 m R n vs k) (fun R vs k => rfl) (fun R n vs k x h => by
      simp only [ELp80_5] at h
      split at h
      · exact (stLp80_5 m n R _ _ _ k).trans h
      · cases h) fun R vs k x h => by
    unfold brLp80_5 at h
    split at h
    · exact .inl ((eqLp80_5 m R _ k m _ _).trans h)
    · exact .inr h

/-- a rest of slices.Max[[]int,int] -/
def Jn80_2 {R : Type} (m : Nat) (kx0 : Int → Option R) (r573 : Abs.Rows) (i574 : Int) : Option R :=
  bif decide ((0 : Int) ≤ (0 : Int) ∧ (0 : Int) < (↑(List.length r573) : Int)) then (Lp80_5 m (fun i580 i581 => kx0 i580) r573 m (fI r573 (Int.toNat (0 : Int)) (0 : Nat)) ((1 : Int))) else
  (none)
def brJn80_2 (m : Nat) (L : LTbl) (R : Type) (vs : List V) (k : Ex → List V → Option R) : Option R := match vs with
  | [V.bor [LT.int IntKind.i64] r573, V.f (F.lit (Value.int IntKind.i64 i574)), V.undef] => Jn80_2 m (fun i582 => k Ex.ret [V.bor [LT.int IntKind.i64] r573, V.f (F.lit (Value.int IntKind.i64 i582)), V.undef]) r573 i574
  | _ => L R 80 2 vs k
set_option maxRecDepth 100000 in
theorem evJn80_2 (m : Nat) (R : Type) (r573 : Abs.Rows) (i574 : Int) (k : Ex → List V → Option R) : codeK Try.prog H (T25 m) 80 (L22 m) 3 (loopBody Try.prog 80 2) (mkEnv [0, 2, 25] [V.bor [LT.int IntKind.i64] r573, V.f (F.lit (Value.int IntKind.i64 i574)), V.undef] 0 (H.len 80)) (fun e env' => k e (vals [0, 2, 25] env')) = Jn80_2 m (fun i582 => k Ex.ret [V.bor [LT.int IntKind.i64] r573, V.f (F.lit (Value.int IntKind.i64 i582)), V.undef]) r573 i574 := by kernel_rfl
def L23 (m : Nat) : LTbl := addJ 80 2 (brJn80_2 m (L22 m)) (L22 m)
theorem okL23 (m : Nat) : LTOk Try.prog H (L23 m) := addJ_ok (okT25 m) hM (okL22 m) (l := [0, 2, 25]) (by kernel_rfl) (by kernel_rfl) fun R vs k x h => by
    unfold brJn80_2 at h
    split at h
    · exact .inl ((evJn80_2 m R _ _ k).trans h)
    · exact .inr h

/-- slices.Max[[]int,int] -/
def Fn80 {R : Type} (m : Nat) : Abs.Rows → (Int → Option R) → Option R := match m with
  | 0 => fun _ _ => none
  | m + 1 => fun r572 k =>
  bif decide ((↑(List.length r572) : Int) < (1 : Int)) then (none) else
  (Jn80_2 m (fun i583 => k i583) r572 ((0 : Int)))
def brFn80 (m : Nat) (T : Tbl) (R : Type) (vs : List V) (k : V → List V → Option R) : Option R := match vs with
  | [V.bor [LT.int IntKind.i64] r572] => Fn80 m r572 (fun i584 => k (V.f (F.lit (Value.int IntKind.i64 i584))) [V.undef])
  | _ => T R 80 vs k
set_option maxRecDepth 100000 in
theorem evFn80 (m : Nat) (R : Type) (r572 : Abs.Rows) (k : V → List V → Option R) : runK Try.prog H (T25 m) (L23 m) 80 [V.bor [LT.int IntKind.i64] r572] k = Fn80 (m + 1) r572 (fun i584 => k (V.f (F.lit (Value.int IntKind.i64 i584))) [V.undef]) := by kernel_rfl
def T26 (m : Nat) : Tbl := addT 80 (brFn80 m (T25 m)) (T25 m)
theorem okT26 (m : Nat) : TblOk Try.prog (T26 m) := addT_ok (okT25 m) fun R vs k x h => by
  unfold brFn80 at h
  split at h
  · cases m with
    | zero => cases h
    | succ m => exact runK_some (okT25 m) hM (okL23 m) ((evFn80 m R _ k).trans h)
  · exact okT25 m R 80 _ k x h

/-- a round of a loop of slices.Min[[]int,int] -/
def Lp81_5_step {R : Type} (m : Nat) (kx0 : Int → Int → Option R) (r589 : Abs.Rows) (REC : Int → Int → Option R) (i590 : Int) (i591 : Int) : Option R :=
  bif decide (i591 < (↑(List.length r589) : Int)) then (bif decide ((0 : Int) ≤ i591 ∧ i591 < (↑(List.length r589) : Int)) then (REC (if fI r589 (Int.toNat i591) (0 : Nat) < i590 then fI r589 (Int.toNat i591) (0 : Nat) else i590) (IntKind.wrap IntKind.i64 (i591 + (1 : Int)))) else
  (none)) else
  (kx0 i590 i591)
def Lp81_5 {R : Type} (m : Nat) (kx0 : Int → Int → Option R) (r589 : Abs.Rows) : Nat → Int → Int → Option R
  | 0, _, _ => none
  | n + 1, i590, i591 => Lp81_5_step m kx0 r589 (Lp81_5 m kx0 r589 n) i590 i591
def ELp81_5 (m : Nat) (R : Type) : Nat → List V → (Ex → List V → Option R) → Option R
  | 0, _, _ => none
  | n + 1, vs, k => match vs with
    | [V.bor [LT.int IntKind.i64] r589, V.f (F.lit (Value.int IntKind.i64 i590)), V.f (F.lit (Value.int IntKind.i64 i591)), V.undef] => Lp81_5_step m (fun i592 i593 => k (Ex.exit (0 : Nat)) [V.bor [LT.int IntKind.i64] r589, V.f (F.lit (Value.int IntKind.i64 i592)), V.f (F.lit (Value.int IntKind.i64 i593)), V.undef]) r589 (fun i590 i591 => ELp81_5 m R n [V.bor [LT.int IntKind.i64] r589, V.f (F.lit (Value.int IntKind.i64 i590)), V.f (F.lit (Value.int IntKind.i64 i591)), V.undef] k) i590 i591
    | _ => none
def brLp81_5 (m : Nat) (L : LTbl) (R : Type) (vs : List V) (k : Ex → List V → Option R) : Option R := match vs with
  | [V.bor [LT.int IntKind.i64] r589, V.f (F.lit (Value.int IntKind.i64 i590)), V.f (F.lit (Value.int IntKind.i64 i591)), V.undef] => Lp81_5 m (fun i592 i593 => k (Ex.exit (0 : Nat)) [V.bor [LT.int IntKind.i64] r589, V.f (F.lit (Value.int IntKind.i64 i592)), V.f (F.lit (Value.int IntKind.i64 i593)), V.undef]) r589 m i590 i591
  | _ => L R 81 5 vs k
set_option maxRecDepth 100000 in
theorem stLp81_5 (m n : Nat) (R : Type) (r589 : Abs.Rows) (i590 : Int) (i591 : Int) (k : Ex → List V → Option R) : codeK Try.prog H (T26 m) 81 (L23 m) 6 (loopBody Try.prog 81 5) (mkEnv [0, 3, 4, 25] [V.bor [LT.int IntKind.i64] r589, V.f (F.lit (Value.int IntKind.i64 i590)), V.f (F.lit (Value.int IntKind.i64 i591)), V.undef] 0 (H.len 81)) (fun e env' => match e with | .normal => ELp81_5 m R n (vals [0, 3, 4, 25] env') k | e => k e (vals [0, 3, 4, 25] env')) = Lp81_5_step m (fun i592 i593 => k (Ex.exit (0 : Nat)) [V.bor [LT.int IntKind.i64] r589, V.f (F.lit (Value.int IntKind.i64 i592)), V.f (F.lit (Value.int IntKind.i64 i593)), V.undef]) r589 (fun i590 i591 => ELp81_5 m R n [V.bor [LT.int IntKind.i64] r589, V.f (F.lit (Value.int IntKind.i64 i590)), V.f (F.lit (Value.int IntKind.i64 i591)), V.undef] k) i590 i591 := by kernel_rfl
theorem eqLp81_5 (m : Nat) (R : Type) (r589 : Abs.Rows) (k : Ex → List V → Option R) : ∀ (n : Nat) (i590 : Int) (i591 : Int), ELp81_5 m R n [V.bor [LT.int IntKind.i64] r589, V.f (F.lit (Value.int IntKind.i64 i590)), V.f (F.lit (Value.int IntKind.i64 i591)), V.undef] k = Lp81_5 m (fun i592 i593 => k (Ex.exit (0 : Nat)) [V.bor [LT.int IntKind.i64] r589, V.f (F.lit (Value.int IntKind.i64 i592)), V.f (F.lit (Value.int IntKind.i64 i593)), V.undef]) r589 n i590 i591
  | 0, _, _ => rfl
  | n + 1, i590, i591 => by
    simp only [ELp81_5, Lp81_5]
    congr 1
    funext i590 i591
    exact eqLp81_5 m R r589 k n i590 i591
def L24 (m : Nat) : LTbl := addB 81 5 (brLp81_5 m (L23 m)) (L23 m)
theorem okL24 (m : Nat) : LTOk Try.prog H (L24 m) := addB_ok (okT26 m) hM (okL23 m) (l := [0, 3, 4, 25]) (by kernel_rfl) (by kernel_rfl) m (fun R n vs k => ELp81_5 m R n vs k) (fun R vs k => rfl) (fun R n vs k x h => by
      simp only [ELp81_5] at h
      split at h
      · exact (stLp81_5 m n R _ _ _ k).trans h
      · cases h) fun R vs k x h => by
    unfold brLp81_5 at h
    split at h
    · exact .inl ((eqLp81_5 m R _ k m _ _).trans h)
    · exact .inr h

/-- a rest of slices.Min[[]int,int] -/
def Jn81_2 {R : Type} (m : Nat) (kx0 : Int → Option R) (r587 : Abs.Rows) (i588 : Int) : Option R :=
  bif decide ((0 : Int) ≤ (0 : Int) ∧ (0 : Int) < (↑(List.length r587) : Int)) then (Lp81_5 m (fun i594 i595 => kx0 i594) r587 m (fI r587 (Int.toNat (0 : Int)) (0 : Nat)) ((1 : Int))) else
  (none)
def brJn81_2 (m : Nat) (L : LTbl) (R : Type) (vs : List V) (k : Ex → List V → Option R) : Option R := match vs with
  | [V.bor [LT.int IntKind.i64] r587, V.f (F.lit (Value.int IntKind.i64 i588)), V.undef] => Jn81_2 m (fun i596 => k Ex.ret [V.bor [LT.int IntKind.i64] r587, V.f (F.lit (Value.int IntKind.i64 i596)), V.undef]) r587 i588
  | _ => L R 81 2 vs k
set_option maxRecDepth 100000 in
theorem evJn81_2 (m : Nat) (R : Type) (r587 : Abs.Rows) (i588 : Int) (k : Ex → List V → Option R) : codeK Try.prog H (T26 m) 81 (L24 m) 3 (loopBody Try.prog 81 2) (mkEnv [0, 2, 25] [V.bor [LT.int IntKind.i64] r587, V.f (F.lit (Value.int IntKind.i64 i588)), V.undef] 0 (H.len 81)) (fun e env' => k e (vals [0, 2, 25] env')) = Jn81_2 m (fun i596 => k Ex.ret [V.bor [LT.int IntKind.i64] r587, V.f (F.lit (Value.int IntKind.i64 i596)), V.undef]) r587 i588 := by kernel_rfl
def L25 (m : Nat) : LTbl := addJ 81 2 (brJn81_2 m (L24 m)) (L24 m)
theorem okL25 (m : Nat) : LTOk Try.prog H (L25 m) := addJ_ok (okT26 m) hM (okL24 m) (l := [0, 2, 25]) (by kernel_rfl) (by kernel_rfl) fun R vs k x h => by
    unfold brJn81_2 at h
    split at h
    · exact .inl ((evJn81_2 m R _ _ k).trans h)
    · exact .inr h

/-- slices.Min[[]int,int] -/
def Fn81 {R : Type} (m : Nat) : Abs.Rows → (Int → Option R) → Option R := match m with
  | 0 => fun _ _ => none
  | m + 1 => fun r586 k =>
  bif decide ((↑(List.length r586) : Int) < (1 : Int)) then (none) else
  (Jn81_2 m (fun i597 => k i597) r586 ((0 : Int)))
def brFn81 (m : Nat) (T : Tbl) (R : Type) (vs : List V) (k : V → List V → Option R) : Option R := match vs with
  | [V.bor [LT.int IntKind.i64] r586] => Fn81 m r586 (fun i598 => k (V.f (F.lit (Value.int IntKind.i64 i598))) [V.undef])
  | _ => T R 81 vs k
set_option maxRecDepth 100000 in
theorem evFn81 (m : Nat) (R : Type) (r586 : Abs.Rows) (k : V → List V → Option R) : runK Try.prog H (T26 m) (L25 m) 81 [V.bor [LT.int IntKind.i64] r586] k = Fn81 (m + 1) r586 (fun i598 => k (V.f (F.lit (Value.int IntKind.i64 i598))) [V.undef]) := by kernel_rfl
def T27 (m : Nat) : Tbl := addT 81 (brFn81 m (T26 m)) (T26 m)
theorem okT27 (m : Nat) : TblOk Try.prog (T27 m) := addT_ok (okT26 m) fun R vs k x h => by
  unfold brFn81 at h
  split at h
  · cases m with
    | zero => cases h
    | succ m => exact runK_some (okT26 m) hM (okL25 m) ((evFn81 m R _ k).trans h)
  · exact okT26 m R 81 _ k x h

/-- a round of a loop of slices.Index[[]int,int] -/
def Lp96_2_step {R : Type} (m : Nat) (kx0 : Int → Int → Option R) (kx1 : Int → Option R) (r619 : Abs.Rows) (i620 : Int) (i621 : Int) (i622 : Int) (REC : Int → Option R) (i623 : Int) : Option R :=
  bif decide (i623 < i622) then (bif decide ((0 : Int) ≤ i623 ∧ i623 < (↑(List.length r619) : Int)) then (bif i620 == fI r619 (Int.toNat i623) (0 : Nat) then (kx0 i623 i623) else
  (REC (IntKind.wrap IntKind.i64 (i623 + (1 : Int))))) else
  (none)) else
  (kx1 i623)
def Lp96_2 {R : Type} (m : Nat) (kx0 : Int → Int → Option R) (kx1 : Int → Option R) (r619 : Abs.Rows) (i620 : Int) (i621 : Int) (i622 : Int) : Nat → Int → Option R
  | 0, _ => none
  | n + 1, i623 => Lp96_2_step m kx0 kx1 r619 i620 i621 i622 (Lp96_2 m kx0 kx1 r619 i620 i621 i622 n) i623
def ELp96_2 (m : Nat) (R : Type) : Nat → List V → (Ex → List V → Option R) → Option R
  | 0, _, _ => none
  | n + 1, vs, k => match vs with
    | [V.bor [LT.int IntKind.i64] r619, V.f (F.lit (Value.int IntKind.i64 i620)), V.f (F.lit (Value.int IntKind.i64 i621)), V.f (F.lit (Value.int IntKind.i64 i622)), V.f (F.lit (Value.int IntKind.i64 i623)), V.undef, V.undef] => Lp96_2_step m (fun i624 i625 => k Ex.ret [V.bor [LT.int IntKind.i64] r619, V.f (F.lit (Value.int IntKind.i64 i620)), V.f (F.lit (Value.int IntKind.i64 i624)), V.f (F.lit (Value.int IntKind.i64 i622)), V.f (F.lit (Value.int IntKind.i64 i625)), V.undef, V.undef]) (fun i626 => k (Ex.exit (0 : Nat)) [V.bor [LT.int IntKind.i64] r619, V.f (F.lit (Value.int IntKind.i64 i620)), V.f (F.lit (Value.int IntKind.i64 i621)), V.f (F.lit (Value.int IntKind.i64 i622)), V.f (F.lit (Value.int IntKind.i64 i626)), V.undef, V.undef]) r619 i620 i621 i622 (fun i623 => ELp96_2 m R n [V.bor [LT.int IntKind.i64] r619, V.f (F.lit (Value.int IntKind.i64 i620)), V.f (F.lit (Value.int IntKind.i64 i621)), V.f (F.lit (Value.int IntKind.i64 i622)), V.f (F.lit (Value.int IntKind.i64 i623)), V.undef, V.undef] k) i623
    | _ => none
def brLp96_2 (m : Nat) (L : LTbl) (R : Type) (vs : List V) (k : Ex → List V → Option R) : Option R := match vs with
  | [V.bor [LT.int IntKind.i64] r619, V.f (F.lit (Value.int IntKind.i64 i620)), V.f (F.lit (Value.int IntKind.i64 i621)), V.f (F.lit (Value.int IntKind.i64 i622)), V.f (F.lit (Value.int IntKind.i64 i623)), V.undef, V.undef] => Lp96_2 m (fun i624 i625 => k Ex.ret [V.bor [LT.int IntKind.i64] r619, V.f (F.lit (Value.int IntKind.i64 i620)), V.f (F.lit (Value.int IntKind.i64 i624)), V.f (F.lit (Value.int IntKind.i64 i622)), V.f (F.lit (Value.int IntKind.i64 i625)), V.undef, V.undef]) (fun i626 => k (Ex.exit (0 : Nat)) [V.bor [LT.int IntKind.i64] r619, V.f (F.lit (Value.int IntKind.i64 i620)), V.f (F.lit (Value.int IntKind.i64 i621)), V.f (F.lit (Value.int IntKind.i64 i622)), V.f (F.lit (Value.int IntKind.i64 i626)), V.undef, V.undef]) r619 i620 i621 i622 m i623
  | _ => L R 96 2 vs k
set_option maxRecDepth 100000 in
theorem stLp96_2 (m n : Nat) (R : Type) (r619 : Abs.Rows) (i620 : Int) (i621 : Int) (i622 : Int) (i623 : Int) (k : Ex → List V → Option R) : codeK Try.prog H (T27 m) 96 (L25 m) 3 (loopBody Try.prog 96 2) (mkEnv [0, 1, 4, 7, 8, 19, 20] [V.bor [LT.int IntKind.i64] r619, V.f (F.lit (Value.int IntKind.i64 i620)), V.f (F.lit (Value.int IntKind.i64 i621)), V.f (F.lit (Value.int IntKind.i64 i622)), V.f (F.lit (Value.int IntKind.i64 i623)), V.undef, V.undef] 0 (H.len 96)) (fun e env' => match e with | .normal => ELp96_2 m R n (vals [0, 1, 4, 7, 8, 19, 20] env') k | e => k e (vals [0, 1, 4, 7, 8, 19, 20] env')) = Lp96_2_step m (fun i624 i625 => k Ex.ret [V.bor [LT.int IntKind.i64] r619, V.f (F.lit (Value.int IntKind.i64 i620)), V.f (F.lit (Value.int IntKind.i64 i624)), V.f (F.lit (Value.int IntKind.i64 i622)), V.f (F.lit (Value.int IntKind.i64 i625)), V.undef, V.undef]) (fun i626 => k (Ex.exit (0 : Nat)) [V.bor [LT.int IntKind.i64] r619, V.f (F.lit (Value.int IntKind.i64 i620)), V.f (F.lit (Value.int IntKind.i64 i621)), V.f (F.lit (Value.int IntKind.i64 i622)), V.f (F.lit (Value.int IntKind.i64 i626)), V.undef, V.undef]) r619 i620 i621 i622 (fun i623 => ELp96_2 m R n [V.bor [LT.int IntKind.i64] r619, V.f (F.lit (Value.int IntKind.i64 i620)), V.f (F.lit (Value.int IntKind.i64 i621)), V.f (F.lit (Value.int IntKind.i64 i622)), V.f (F.lit (Value.int IntKind.i64 i623)), V.undef, V.undef] k) i623 := by kernel_rfl
theorem eqLp96_2 (m : Nat) (R : Type) (r619 : Abs.Rows) (i620 : Int) (i621 : Int) (i622 : Int) (k : Ex → List V → Option R) : ∀ (n : Nat) (i623 : Int), ELp96_2 m R n [V.bor [LT.int IntKind.i64] r619, V.f (F.lit (Value.int IntKind.i64 i620)), V.f (F.lit (Value.int IntKind.i64 i621)), V.f (F.lit (Value.int IntKind.i64 i622)), V.f (F.lit (Value.int IntKind.i64 i623)), V.undef, V.undef] k = Lp96_2 m (fun i624 i625 => k Ex.ret [V.bor [LT.int IntKind.i64] r619, V.f (F.lit (Value.int IntKind.i64 i620)), V.f (F.lit (Value.int IntKind.i64 i624)), V.f (F.lit (Value.int IntKind.i64 i622)), V.f (F.lit (Value.int IntKind.i64 i625)), V.undef, V.undef]) (fun i626 => k (Ex.exit (0 : Nat)) [V.bor [LT.int IntKind.i64] r619, V.f (F.lit (Value.int IntKind.i64 i620)), V.f (F.lit (Value.int IntKind.i64 i621)), V.f (F.lit (Value.int IntKind.i64 i622)), V.f (F.lit (Value.int IntKind.i64 i626)), V.undef, V.undef]) r619 i620 i621 i622 n i623
  | 0, _ => rfl
  | n + 1, i623 => by
    simp only [ELp96_2, Lp96_2]
    congr 1
    funext i623
    exact eqLp96_2 m R r619 i620 i621 i622 k n i623
def L26 (m : Nat) : LTbl := addB 96 2 (brLp96_2 m (L25 m)) (L25 m)
theorem okL26 (m : Nat) : LTOk Try.prog H (L26 m) := addB_ok (okT27 m) hM (okL25 m) (l := [0, 1, 4, 7, 8, 19, 20]) (by kernel_rfl) (by kernel_rfl) m (fun R n vs k => ELp96_2 m R n vs k) (fun R vs k => rfl) (fun R n vs k x h => by
      simp only [ELp96_2] at h
      split at h
      · exact (stLp96_2 m n R _ _ _ _ _ k).trans h
      · cases h) fun R vs k x h => by
    unfold brLp96_2 at h
    split at h
    · exact .inl ((eqLp96_2 m R _ _ _ _ k m _).trans h)
    · exact .inr h

/-- slices.Index[[]int,int] -/
def Fn96 {R : Type} (m : Nat) : Abs.Rows → Int → (Int → Option R) → Option R := match m with
  | 0 => fun _ _ _ => none
  | m + 1 => fun r617 i618 k =>
  Lp96_2 m (fun i627 i628 => k i627) (fun i629 => k ((-1 : Int))) r617 i618 ((0 : Int)) ((↑(List.length r617) : Int)) m ((0 : Int))
def brFn96 (m : Nat) (T : Tbl) (R : Type) (vs : List V) (k : V → List V → Option R) : Option R := match vs with
  | [V.bor [LT.int IntKind.i64] r617, V.f (F.lit (Value.int IntKind.i64 i618))] => Fn96 m r617 i618 (fun i630 => k (V.f (F.lit (Value.int IntKind.i64 i630))) [V.undef, V.undef])
  | _ => T R 96 vs k
set_option maxRecDepth 100000 in
theorem evFn96 (m : Nat) (R : Type) (r617 : Abs.Rows) (i618 : Int) (k : V → List V → Option R) : runK Try.prog H (T27 m) (L26 m) 96 [V.bor [LT.int IntKind.i64] r617, V.f (F.lit (Value.int IntKind.i64 i618))] k = Fn96 (m + 1) r617 i618 (fun i630 => k (V.f (F.lit (Value.int IntKind.i64 i630))) [V.undef, V.undef]) := by kernel_rfl
def T28 (m : Nat) : Tbl := addT 96 (brFn96 m (T27 m)) (T27 m)
theorem okT28 (m : Nat) : TblOk Try.prog (T28 m) := addT_ok (okT27 m) fun R vs k x h => by
  unfold brFn96 at h
  split at h
  · cases m with
    | zero => cases h
    | succ m => exact runK_some (okT27 m) hM (okL26 m) ((evFn96 m R _ _ k).trans h)
  · exact okT27 m R 96 _ k x h

/-- slices.Contains[[]int,int] -/
def Fn82 {R : Type} (m : Nat) : Abs.Rows → Int → (Bool → Option R) → Option R := match m with
  | 0 => fun _ _ _ => none
  | m + 1 => fun r615 i616 k =>
  Fn96 m r615 i616 (fun i631 => k (decide (i631 ≥ (0 : Int))))
def brFn82 (m : Nat) (T : Tbl) (R : Type) (vs : List V) (k : V → List V → Option R) : Option R := match vs with
  | [V.bor [LT.int IntKind.i64] r615, V.f (F.lit (Value.int IntKind.i64 i616))] => Fn82 m r615 i616 (fun b632 => k (V.f (F.lit (Value.bool b632))) [V.undef, V.undef])
  | _ => T R 82 vs k
set_option maxRecDepth 100000 in
theorem evFn82 (m : Nat) (R : Type) (r615 : Abs.Rows) (i616 : Int) (k : V → List V → Option R) : runK Try.prog H (T28 m) (L26 m) 82 [V.bor [LT.int IntKind.i64] r615, V.f (F.lit (Value.int IntKind.i64 i616))] k = Fn82 (m + 1) r615 i616 (fun b632 => k (V.f (F.lit (Value.bool b632))) [V.undef, V.undef]) := by kernel_rfl
def T29 (m : Nat) : Tbl := addT 82 (brFn82 m (T28 m)) (T28 m)
theorem okT29 (m : Nat) : TblOk Try.prog (T29 m) := addT_ok (okT28 m) fun R vs k x h => by
  unfold brFn82 at h
  split at h
  · cases m with
    | zero => cases h
    | succ m => exact runK_some (okT28 m) hM (okL26 m) ((evFn82 m R _ _ k).trans h)
  · exact okT28 m R 82 _ k x h

/-- a round of a loop of hookflash/flashref2.LossesOf -/
def Lp51_7_step {R : Type} (m : Nat) (kx0 : Int → Int → Int → Option R) (r600 : Abs.Rows) (i601 : Int) (i602 : Int) (i603 : Int) (i604 : Int) (i605 : Int) (r606 : Abs.Rows) (i607 : Int) (i608 : Int) (i611 : Int) (n612 : Nat) (i613 : Int) (REC : Int → Int → Int → Option R) (i609 : Int) (i610 : Int) (i614 : Int) : Option R :=
  bif decide (i614 < i613) then (bif decide ((0 : Int) ≤ i614 ∧ i614 < (↑n612 : Int)) then (bif decide ((0 : Int) ≤ i614 ∧ i614 ≤ (↑(List.length r606) : Int)) then (Fn82 m (List.take (Int.toNat i614 - (0 : Nat)) (List.drop (0 : Nat) r606)) (fI r606 (Int.toNat i614) (0 : Nat)) (fun b633 => bif b633 then (REC (IntKind.wrap IntKind.i64 (i609 + (1 : Int))) i610 (IntKind.wrap IntKind.i64 (i614 + (1 : Int)))) else
  (bif decide (i614 > (0 : Int)) then (bif decide ((0 : Int) ≤ i614 ∧ i614 ≤ (↑(List.length r606) : Int)) then (Fn80 m (List.take (Int.toNat i614 - (0 : Nat)) (List.drop (0 : Nat) r606)) (fun i634 => bif decide (i634 > fI r606 (Int.toNat i614) (0 : Nat)) then (REC i609 (IntKind.wrap IntKind.i64 (i610 + (1 : Int))) (IntKind.wrap IntKind.i64 (i614 + (1 : Int)))) else
  (REC i609 i610 (IntKind.wrap IntKind.i64 (i614 + (1 : Int)))))) else
  (none)) else
  (REC i609 i610 (IntKind.wrap IntKind.i64 (i614 + (1 : Int))))))) else
  (none)) else
  (none)) else
  (kx0 i609 i610 i614)
def Lp51_7 {R : Type} (m : Nat) (kx0 : Int → Int → Int → Option R) (r600 : Abs.Rows) (i601 : Int) (i602 : Int) (i603 : Int) (i604 : Int) (i605 : Int) (r606 : Abs.Rows) (i607 : Int) (i608 : Int) (i611 : Int) (n612 : Nat) (i613 : Int) : Nat → Int → Int → Int → Option R
  | 0, _, _, _ => none
  | n + 1, i609, i610, i614 => Lp51_7_step m kx0 r600 i601 i602 i603 i604 i605 r606 i607 i608 i611 n612 i613 (Lp51_7 m kx0 r600 i601 i602 i603 i604 i605 r606 i607 i608 i611 n612 i613 n) i609 i610 i614
def ELp51_7 (m : Nat) (R : Type) : Nat → List V → (Ex → List V → Option R) → Option R
  | 0, _, _ => none
  | n + 1, vs, k => match vs with
    | [V.bor [LT.int IntKind.i64, LT.int IntKind.i64, LT.int IntKind.i64, LT.int IntKind.i64, LT.int IntKind.i64, LT.bool, LT.lst [LT.int IntKind.u8]] r600, V.obj [V.f (F.lit (Value.int IntKind.i64 i601)), V.f (F.lit (Value.int IntKind.i64 i602)), V.f (F.lit (Value.int IntKind.i64 i603)), V.f (F.lit (Value.int IntKind.i64 i604)), V.f (F.lit (Value.int IntKind.i64 i605))], V.own [LT.int IntKind.i64] r606, V.obj [V.f (F.lit (Value.int IntKind.i64 i607)), V.f (F.lit (Value.int IntKind.i64 i608)), V.f (F.lit (Value.int IntKind.i64 i609)), V.f (F.lit (Value.int IntKind.i64 i610)), V.f (F.lit (Value.int IntKind.i64 i611))], V.undef, V.lent { slot := (3 : Nat), leaf := none } (1 : Nat) n612, V.f (F.lit (Value.int IntKind.i64 i613)), V.f (F.lit (Value.int IntKind.i64 i614)), V.undef] => Lp51_7_step m (fun i635 i636 i637 => k (Ex.exit (0 : Nat)) [V.bor [LT.int IntKind.i64, LT.int IntKind.i64, LT.int IntKind.i64, LT.int IntKind.i64, LT.int IntKind.i64, LT.bool, LT.lst [LT.int IntKind.u8]] r600, V.obj [V.f (F.lit (Value.int IntKind.i64 i601)), V.f (F.lit (Value.int IntKind.i64 i602)), V.f (F.lit (Value.int IntKind.i64 i603)), V.f (F.lit (Value.int IntKind.i64 i604)), V.f (F.lit (Value.int IntKind.i64 i605))], V.own [LT.int IntKind.i64] r606, V.obj [V.f (F.lit (Value.int IntKind.i64 i607)), V.f (F.lit (Value.int IntKind.i64 i608)), V.f (F.lit (Value.int IntKind.i64 i635)), V.f (F.lit (Value.int IntKind.i64 i636)), V.f (F.lit (Value.int IntKind.i64 i611))], V.undef, V.lent { slot := (3 : Nat), leaf := none } (1 : Nat) n612, V.f (F.lit (Value.int IntKind.i64 i613)), V.f (F.lit (Value.int IntKind.i64 i637)), V.undef]) r600 i601 i602 i603 i604 i605 r606 i607 i608 i611 n612 i613 (fun i609 i610 i614 => ELp51_7 m R n [V.bor [LT.int IntKind.i64, LT.int IntKind.i64, LT.int IntKind.i64, LT.int IntKind.i64, LT.int IntKind.i64, LT.bool, LT.lst [LT.int IntKind.u8]] r600, V.obj [V.f (F.lit (Value.int IntKind.i64 i601)), V.f (F.lit (Value.int IntKind.i64 i602)), V.f (F.lit (Value.int IntKind.i64 i603)), V.f (F.lit (Value.int IntKind.i64 i604)), V.f (F.lit (Value.int IntKind.i64 i605))], V.own [LT.int IntKind.i64] r606, V.obj [V.f (F.lit (Value.int IntKind.i64 i607)), V.f (F.lit (Value.int IntKind.i64 i608)), V.f (F.lit (Value.int IntKind.i64 i609)), V.f (F.lit (Value.int IntKind.i64 i610)), V.f (F.lit (Value.int IntKind.i64 i611))], V.undef, V.lent { slot := (3 : Nat), leaf := none } (1 : Nat) n612, V.f (F.lit (Value.int IntKind.i64 i613)), V.f (F.lit (Value.int IntKind.i64 i614)), V.undef] k) i609 i610 i614
    | _ => none
def brLp51_7 (m : Nat) (L : LTbl) (R : Type) (vs : List V) (k : Ex → List V → Option R) : Option R := match vs with
  | [V.bor [LT.int IntKind.i64, LT.int IntKind.i64, LT.int IntKind.i64, LT.int IntKind.i64, LT.int IntKind.i64, LT.bool, LT.lst [LT.int IntKind.u8]] r600, V.obj [V.f (F.lit (Value.int IntKind.i64 i601)), V.f (F.lit (Value.int IntKind.i64 i602)), V.f (F.lit (Value.int IntKind.i64 i603)), V.f (F.lit (Value.int IntKind.i64 i604)), V.f (F.lit (Value.int IntKind.i64 i605))], V.own [LT.int IntKind.i64] r606, V.obj [V.f (F.lit (Value.int IntKind.i64 i607)), V.f (F.lit (Value.int IntKind.i64 i608)), V.f (F.lit (Value.int IntKind.i64 i609)), V.f (F.lit (Value.int IntKind.i64 i610)), V.f (F.lit (Value.int IntKind.i64 i611))], V.undef, V.lent { slot := (3 : Nat), leaf := none } (1 : Nat) n612, V.f (F.lit (Value.int IntKind.i64 i613)), V.f (F.lit (Value.int IntKind.i64 i614)), V.undef] => Lp51_7 m (fun i635 i636 i637 => k (Ex.exit (0 : Nat)) [V.bor [LT.int IntKind.i64, LT.int IntKind.i64, LT.int IntKind.i64, LT.int IntKind.i64, LT.int IntKind.i64, LT.bool, LT.lst [LT.int IntKind.u8]] r600, V.obj [V.f (F.lit (Value.int IntKind.i64 i601)), V.f (F.lit (Value.int IntKind.i64 i602)), V.f (F.lit (Value.int IntKind.i64 i603)), V.f (F.lit (Value.int IntKind.i64 i604)), V.f (F.lit (Value.int IntKind.i64 i605))], V.own [LT.int IntKind.i64] r606, V.obj [V.f (F.lit (Value.int IntKind.i64 i607)), V.f (F.lit (Value.int IntKind.i64 i608)), V.f (F.lit (Value.int IntKind.i64 i635)), V.f (F.lit (Value.int IntKind.i64 i636)), V.f (F.lit (Value.int IntKind.i64 i611))], V.undef, V.lent { slot := (3 : Nat), leaf := none } (1 : Nat) n612, V.f (F.lit (Value.int IntKind.i64 i613)), V.f (F.lit (Value.int IntKind.i64 i637)), V.undef]) r600 i601 i602 i603 i604 i605 r606 i607 i608 i611 n612 i613 m i609 i610 i614
  | _ => L R 51 7 vs k
set_option maxRecDepth 100000 in
theorem stLp51_7 (m n : Nat) (R : Type) (r600 : Abs.Rows) (i601 : Int) (i602 : Int) (i603 : Int) (i604 : Int) (i605 : Int) (r606 : Abs.Rows) (i607 : Int) (i608 : Int) (i609 : Int) (i610 : Int) (i611 : Int) (n612 : Nat) (i613 : Int) (i614 : Int) (k : Ex → List V → Option R) : codeK Try.prog H (T29 m) 51 (L26 m) 8 (loopBody Try.prog 51 7) (mkEnv [0, 2, 3, 4, 10, 22, 23, 24, 112] [V.bor [LT.int IntKind.i64, LT.int IntKind.i64, LT.int IntKind.i64, LT.int IntKind.i64, LT.int IntKind.i64, LT.bool, LT.lst [LT.int IntKind.u8]] r600, V.obj [V.f (F.lit (Value.int IntKind.i64 i601)), V.f (F.lit (Value.int IntKind.i64 i602)), V.f (F.lit (Value.int IntKind.i64 i603)), V.f (F.lit (Value.int IntKind.i64 i604)), V.f (F.lit (Value.int IntKind.i64 i605))], V.own [LT.int IntKind.i64] r606, V.obj [V.f (F.lit (Value.int IntKind.i64 i607)), V.f (F.lit (Value.int IntKind.i64 i608)), V.f (F.lit (Value.int IntKind.i64 i609)), V.f (F.lit (Value.int IntKind.i64 i610)), V.f (F.lit (Value.int IntKind.i64 i611))], V.undef, V.lent { slot := (3 : Nat), leaf := none } (1 : Nat) n612, V.f (F.lit (Value.int IntKind.i64 i613)), V.f (F.lit (Value.int IntKind.i64 i614)), V.undef] 0 (H.len 51)) (fun e env' => match e with | .normal => ELp51_7 m R n (vals [0, 2, 3, 4, 10, 22, 23, 24, 112] env') k | e => k e (vals [0, 2, 3, 4, 10, 22, 23, 24, 112] env')) = Lp51_7_step m (fun i635 i636 i637 => k (Ex.exit (0 : Nat)) [V.bor [LT.int IntKind.i64, LT.int IntKind.i64, LT.int IntKind.i64, LT.int IntKind.i64, LT.int IntKind.i64, LT.bool, LT.lst [LT.int IntKind.u8]] r600, V.obj [V.f (F.lit (Value.int IntKind.i64 i601)), V.f (F.lit (Value.int IntKind.i64 i602)), V.f (F.lit (Value.int IntKind.i64 i603)), V.f (F.lit (Value.int IntKind.i64 i604)), V.f (F.lit (Value.int IntKind.i64 i605))], V.own [LT.int IntKind.i64] r606, V.obj [V.f (F.lit (Value.int IntKind.i64 i607)), V.f (F.lit (Value.int IntKind.i64 i608)), V.f (F.lit (Value.int IntKind.i64 i635)), V.f (F.lit (Value.int IntKind.i64 i636)), V.f (F.lit (Value.int IntKind.i64 i611))], V.undef, V.lent { slot := (3 : Nat), leaf := none } (1 : Nat) n612, V.f (F.lit (Value.int IntKind.i64 i613)), V.f (F.lit (Value.int IntKind.i64 i637)), V.undef]) r600 i601 i602 i603 i604 i605 r606 i607 i608 i611 n612 i613 (fun i609 i610 i614 => ELp51_7 m R n [V.bor [LT.int IntKind.i64, LT.int IntKind.i64, LT.int IntKind.i64, LT.int IntKind.i64, LT.int IntKind.i64, LT.bool, LT.lst [LT.int IntKind.u8]] r600, V.obj [V.f (F.lit (Value.int IntKind.i64 i601)), V.f (F.lit (Value.int IntKind.i64 i602)), V.f (F.lit (Value.int IntKind.i64 i603)), V.f (F.lit (Value.int IntKind.i64 i604)), V.f (F.lit (Value.int IntKind.i64 i605))], V.own [LT.int IntKind.i64] r606, V.obj [V.f (F.lit (Value.int IntKind.i64 i607)), V.f (F.lit (Value.int IntKind.i64 i608)), V.f (F.lit (Value.int IntKind.i64 i609)), V.f (F.lit (Value.int IntKind.i64 i610)), V.f (F.lit (Value.int IntKind.i64 i611))], V.undef, V.lent { slot := (3 : Nat), leaf := none } (1 : Nat) n612, V.f (F.lit (Value.int IntKind.i64 i613)), V.f (F.lit (Value.int IntKind.i64 i614)), V.undef] k) i609 i610 i614 := by kernel_rfl
theorem eqLp51_7 (m : Nat) (R : Type) (r600 : Abs.Rows) (i601 : Int) (i602 : Int) (i603 : Int) (i604 : Int) (i605 : Int) (r606 : Abs.Rows) (i607 : Int) (i608 : Int) (i611 : Int) (n612 : Nat) (i613 : Int) (k : Ex → List V → Option R) : ∀ (n : Nat) (i609 : Int) (i610 : Int) (i614 : Int), ELp51_7 m R n [V.bor [LT.int IntKind.i64, LT.int IntKind.i64, LT.int IntKind.i64, LT.int IntKind.i64, LT.int IntKind.i64, LT.bool, LT.lst [LT.int IntKind.u8]] r600, V.obj [V.f (F.lit (Value.int IntKind.i64 i601)), V.f (F.lit (Value.int IntKind.i64 i602)), V.f (F.lit (Value.int IntKind.i64 i603)), V.f (F.lit (Value.int IntKind.i64 i604)), V.f (F.lit (Value.int IntKind.i64 i605))], V.own [LT.int IntKind.i64] r606, V.obj [V.f (F.lit (Value.int IntKind.i64 i607)), V.f (F.lit (Value.int IntKind.i64 i608)), V.f (F.lit (Value.int IntKind.i64 i609)), V.f (F.lit (Value.int IntKind.i64 i610)), V.f (F.lit (Value.int IntKind.i64 i611))], V.undef, V.lent { slot := (3 : Nat), leaf := none } (1 : Nat) n612, V.f (F.lit (Value.int IntKind.i64 i613)), V.f (F.lit (Value.int IntKind.i64 i614)), V.undef] k = Lp51_7 m (fun i635 i636 i637 => k (Ex.exit (0 : Nat)) [V.bor [LT.int IntKind.i64, LT.int IntKind.i64, LT.int IntKind.i64, LT.int IntKind.i64, LT.int IntKind.i64, LT.bool, LT.lst [LT.int IntKind.u8]] r600, V.obj [V.f (F.lit (Value.int IntKind.i64 i601)), V.f (F.lit (Value.int IntKind.i64 i602)), V.f (F.lit (Value.int IntKind.i64 i603)), V.f (F.lit (Value.int IntKind.i64 i604)), V.f (F.lit (Value.int IntKind.i64 i605))], V.own [LT.int IntKind.i64] r606, V.obj [V.f (F.lit (Value.int IntKind.i64 i607)), V.f (F.lit (Value.int IntKind.i64 i608)), V.f (F.lit (Value.int IntKind.i64 i635)), V.f (F.lit (Value.int IntKind.i64 i636)), V.f (F.lit (Value.int IntKind.i64 i611))], V.undef, V.lent { slot := (3 : Nat), leaf := none } (1 : Nat) n612, V.f (F.lit (Value.int IntKind.i64 i613)), V.f (F.lit (Value.int IntKind.i64 i637)), V.undef]) r600 i601 i602 i603 i604 i605 r606 i607 i608 i611 n612 i613 n i609 i610 i614
  | 0, _, _, _ => rfl
  | n + 1, i609, i610, i614 => by
    simp only [ELp51_7, Lp51_7]
    congr 1
    funext i609 i610 i614
    exact eqLp51_7 m R r600 i601 i602 i603 i604 i605 r606 i607 i608 i611 n612 i613 k n i609 i610 i614
def L27 (m : Nat) : LTbl := addB 51 7 (brLp51_7 m (L26 m)) (L26 m)
theorem okL27 (m : Nat) : LTOk Try.prog H (L27 m) := addB_ok (okT29 m) hM (okL26 m) (l := [0, 2, 3, 4, 10, 22, 23, 24, 112]) (by kernel_rfl) (by kernel_rfl) m (fun R n vs k => ELp51_7 m R n vs k) (fun R vs k => rfl) (fun R n vs k x h => by
      simp only [ELp51_7] at h
      split at h
      · exact (stLp51_7 m n R _ _ _ _ _ _ _ _ _ _ _ _ _ _ _ k).trans h
      · cases h) fun R vs k x h => by
    unfold brLp51_7 at h
    split at h
    · exact .inl ((eqLp51_7 m R _ _ _ _ _ _ _ _ _ _ _ _ k m _ _ _).trans h)
    · exact .inr h

/-- hookflash/flashref2.timeApart -/
def Fn74 {R : Type} (m : Nat) : Int → Int → (Int → Option R) → Option R := match m with
  | 0 => fun _ _ _ => none
  | m + 1 => fun i653 i654 k =>
  k (IntKind.wrap IntKind.i64 (IntKind.wrap IntKind.i32 (IntKind.wrap IntKind.u32 (IntKind.wrap IntKind.u32 i653 - IntKind.wrap IntKind.u32 i654))))
def brFn74 (m : Nat) (T : Tbl) (R : Type) (vs : List V) (k : V → List V → Option R) : Option R := match vs with
  | [V.f (F.lit (Value.int IntKind.i64 i653)), V.f (F.lit (Value.int IntKind.i64 i654))] => Fn74 m i653 i654 (fun i655 => k (V.f (F.lit (Value.int IntKind.i64 i655))) [V.undef, V.undef])
  | _ => T R 74 vs k
set_option maxRecDepth 100000 in
theorem evFn74 (m : Nat) (R : Type) (i653 : Int) (i654 : Int) (k : V → List V → Option R) : runK Try.prog H (T29 m) (L27 m) 74 [V.f (F.lit (Value.int IntKind.i64 i653)), V.f (F.lit (Value.int IntKind.i64 i654))] k = Fn74 (m + 1) i653 i654 (fun i655 => k (V.f (F.lit (Value.int IntKind.i64 i655))) [V.undef, V.undef]) := by kernel_rfl
def T30 (m : Nat) : Tbl := addT 74 (brFn74 m (T29 m)) (T29 m)
theorem okT30 (m : Nat) : TblOk Try.prog (T30 m) := addT_ok (okT29 m) fun R vs k x h => by
  unfold brFn74 at h
  split at h
  · cases m with
    | zero => cases h
    | succ m => exact runK_some (okT29 m) hM (okL27 m) ((evFn74 m R _ _ k).trans h)
  · exact okT29 m R 74 _ k x h

/-- hookflash/flashref2.floor -/
def Fn75 {R : Type} (m : Nat) : Int → Int → (Int → Option R) → Option R := match m with
  | 0 => fun _ _ _ => none
  | m + 1 => fun i657 i658 k =>
  bif decide (i658 ≠ (0 : Int)) then (bif decide (Int.tmod i657 i658 < (0 : Int)) then (bif decide (i658 ≠ (0 : Int)) then (k (IntKind.wrap IntKind.i64 (IntKind.wrap IntKind.i64 (Int.tdiv i657 i658) - (1 : Int)))) else
  (none)) else
  (bif decide (i658 ≠ (0 : Int)) then (k (IntKind.wrap IntKind.i64 (Int.tdiv i657 i658))) else
  (none))) else
  (none)
def brFn75 (m : Nat) (T : Tbl) (R : Type) (vs : List V) (k : V → List V → Option R) : Option R := match vs with
  | [V.f (F.lit (Value.int IntKind.i64 i657)), V.f (F.lit (Value.int IntKind.i64 i658))] => Fn75 m i657 i658 (fun i659 => k (V.f (F.lit (Value.int IntKind.i64 i659))) [V.undef, V.undef])
  | _ => T R 75 vs k
set_option maxRecDepth 100000 in
theorem evFn75 (m : Nat) (R : Type) (i657 : Int) (i658 : Int) (k : V → List V → Option R) : runK Try.prog H (T30 m) (L27 m) 75 [V.f (F.lit (Value.int IntKind.i64 i657)), V.f (F.lit (Value.int IntKind.i64 i658))] k = Fn75 (m + 1) i657 i658 (fun i659 => k (V.f (F.lit (Value.int IntKind.i64 i659))) [V.undef, V.undef]) := by kernel_rfl
def T31 (m : Nat) : Tbl := addT 75 (brFn75 m (T30 m)) (T30 m)
theorem okT31 (m : Nat) : TblOk Try.prog (T31 m) := addT_ok (okT30 m) fun R vs k x h => by
  unfold brFn75 at h
  split at h
  · cases m with
    | zero => cases h
    | succ m => exact runK_some (okT30 m) hM (okL27 m) ((evFn75 m R _ _ k).trans h)
  · exact okT30 m R 75 _ k x h

/-- a round of a loop of hookflash/flashref2.LossesOf -/
def Lp51_17_step {R : Type} (m : Nat) (kx0 : Int → Int → Option R) (r641 : Abs.Rows) (i642 : Int) (i643 : Int) (i644 : Int) (i645 : Int) (i646 : Int) (i647 : Int) (i648 : Int) (i649 : Int) (i650 : Int) (REC : Int → Int → Option R) (i651 : Int) (i652 : Int) : Option R :=
  bif decide (i652 < (↑(List.length r641) : Int)) then (bif decide ((0 : Int) ≤ i652 ∧ i652 < (↑(List.length r641) : Int)) then (bif decide ((0 : Int) ≤ IntKind.wrap IntKind.i64 (i652 - (1 : Int)) ∧ IntKind.wrap IntKind.i64 (i652 - (1 : Int)) < (↑(List.length r641) : Int)) then (bif decide ((0 : Int) ≤ i652 ∧ i652 < (↑(List.length r641) : Int)) then (bif decide ((0 : Int) ≤ IntKind.wrap IntKind.i64 (i652 - (1 : Int)) ∧ IntKind.wrap IntKind.i64 (i652 - (1 : Int)) < (↑(List.length r641) : Int)) then (Fn74 m (fI r641 (Int.toNat i652) (3 : Nat)) (fI r641 (Int.toNat (IntKind.wrap IntKind.i64 (i652 - (1 : Int)))) (3 : Nat)) (fun i656 => Fn75 m i656 ((8 : Int)) (fun i660 => REC (IntKind.wrap IntKind.i64 (i651 + IntKind.wrap IntKind.i64 ((if IntKind.wrap IntKind.i64 ((0 : Int) - IntKind.wrap IntKind.i64 (IntKind.wrap IntKind.i64 (fI r641 (Int.toNat i652) (0 : Nat) - fI r641 (Int.toNat (IntKind.wrap IntKind.i64 (i652 - (1 : Int)))) (0 : Nat)) - i660)) > IntKind.wrap IntKind.i64 (IntKind.wrap IntKind.i64 (fI r641 (Int.toNat i652) (0 : Nat) - fI r641 (Int.toNat (IntKind.wrap IntKind.i64 (i652 - (1 : Int)))) (0 : Nat)) - i660) then IntKind.wrap IntKind.i64 ((0 : Int) - IntKind.wrap IntKind.i64 (IntKind.wrap IntKind.i64 (fI r641 (Int.toNat i652) (0 : Nat) - fI r641 (Int.toNat (IntKind.wrap IntKind.i64 (i652 - (1 : Int)))) (0 : Nat)) - i660)) else IntKind.wrap IntKind.i64 (IntKind.wrap IntKind.i64 (fI r641 (Int.toNat i652) (0 : Nat) - fI r641 (Int.toNat (IntKind.wrap IntKind.i64 (i652 - (1 : Int)))) (0 : Nat)) - i660)) - IntKind.wrap IntKind.i64 (Int.tdiv (IntKind.wrap IntKind.i64 (i651 + (8 : Int))) (16 : Int))))) (IntKind.wrap IntKind.i64 (i652 + (1 : Int)))))) else
  (none)) else
  (none)) else
  (none)) else
  (none)) else
  (kx0 i651 i652)
def Lp51_17 {R : Type} (m : Nat) (kx0 : Int → Int → Option R) (r641 : Abs.Rows) (i642 : Int) (i643 : Int) (i644 : Int) (i645 : Int) (i646 : Int) (i647 : Int) (i648 : Int) (i649 : Int) (i650 : Int) : Nat → Int → Int → Option R
  | 0, _, _ => none
  | n + 1, i651, i652 => Lp51_17_step m kx0 r641 i642 i643 i644 i645 i646 i647 i648 i649 i650 (Lp51_17 m kx0 r641 i642 i643 i644 i645 i646 i647 i648 i649 i650 n) i651 i652
def ELp51_17 (m : Nat) (R : Type) : Nat → List V → (Ex → List V → Option R) → Option R
  | 0, _, _ => none
  | n + 1, vs, k => match vs with
    | [V.bor [LT.int IntKind.i64, LT.int IntKind.i64, LT.int IntKind.i64, LT.int IntKind.i64, LT.int IntKind.i64, LT.bool, LT.lst [LT.int IntKind.u8]] r641, V.obj [V.f (F.lit (Value.int IntKind.i64 i642)), V.f (F.lit (Value.int IntKind.i64 i643)), V.f (F.lit (Value.int IntKind.i64 i644)), V.f (F.lit (Value.int IntKind.i64 i645)), V.f (F.lit (Value.int IntKind.i64 i646))], V.obj [V.f (F.lit (Value.int IntKind.i64 i647)), V.f (F.lit (Value.int IntKind.i64 i648)), V.f (F.lit (Value.int IntKind.i64 i649)), V.f (F.lit (Value.int IntKind.i64 i650)), V.f (F.lit (Value.int IntKind.i64 i651))], V.f (F.lit (Value.int IntKind.i64 i652)), V.undef] => Lp51_17_step m (fun i661 i662 => k (Ex.exit (3 : Nat)) [V.bor [LT.int IntKind.i64, LT.int IntKind.i64, LT.int IntKind.i64, LT.int IntKind.i64, LT.int IntKind.i64, LT.bool, LT.lst [LT.int IntKind.u8]] r641, V.obj [V.f (F.lit (Value.int IntKind.i64 i642)), V.f (F.lit (Value.int IntKind.i64 i643)), V.f (F.lit (Value.int IntKind.i64 i644)), V.f (F.lit (Value.int IntKind.i64 i645)), V.f (F.lit (Value.int IntKind.i64 i646))], V.obj [V.f (F.lit (Value.int IntKind.i64 i647)), V.f (F.lit (Value.int IntKind.i64 i648)), V.f (F.lit (Value.int IntKind.i64 i649)), V.f (F.lit (Value.int IntKind.i64 i650)), V.f (F.lit (Value.int IntKind.i64 i661))], V.f (F.lit (Value.int IntKind.i64 i662)), V.undef]) r641 i642 i643 i644 i645 i646 i647 i648 i649 i650 (fun i651 i652 => ELp51_17 m R n [V.bor [LT.int IntKind.i64, LT.int IntKind.i64, LT.int IntKind.i64, LT.int IntKind.i64, LT.int IntKind.i64, LT.bool, LT.lst [LT.int IntKind.u8]] r641, V.obj [V.f (F.lit (Value.int IntKind.i64 i642)), V.f (F.lit (Value.int IntKind.i64 i643)), V.f (F.lit (Value.int IntKind.i64 i644)), V.f (F.lit (Value.int IntKind.i64 i645)), V.f (F.lit (Value.int IntKind.i64 i646))], V.obj [V.f (F.lit (Value.int IntKind.i64 i647)), V.f (F.lit (Value.int IntKind.i64 i648)), V.f (F.lit (Value.int IntKind.i64 i649)), V.f (F.lit (Value.int IntKind.i64 i650)), V.f (F.lit (Value.int IntKind.i64 i651))], V.f (F.lit (Value.int IntKind.i64 i652)), V.undef] k) i651 i652
    | _ => none
def brLp51_17 (m : Nat) (L : LTbl) (R : Type) (vs : List V) (k : Ex → List V → Option R) : Option R := match vs with
  | [V.bor [LT.int IntKind.i64, LT.int IntKind.i64, LT.int IntKind.i64, LT.int IntKind.i64, LT.int IntKind.i64, LT.bool, LT.lst [LT.int IntKind.u8]] r641, V.obj [V.f (F.lit (Value.int IntKind.i64 i642)), V.f (F.lit (Value.int IntKind.i64 i643)), V.f (F.lit (Value.int IntKind.i64 i644)), V.f (F.lit (Value.int IntKind.i64 i645)), V.f (F.lit (Value.int IntKind.i64 i646))], V.obj [V.f (F.lit (Value.int IntKind.i64 i647)), V.f (F.lit (Value.int IntKind.i64 i648)), V.f (F.lit (Value.int IntKind.i64 i649)), V.f (F.lit (Value.int IntKind.i64 i650)), V.f (F.lit (Value.int IntKind.i64 i651))], V.f (F.lit (Value.int IntKind.i64 i652)), V.undef] => Lp51_17 m (fun i661 i662 => k (Ex.exit (3 : Nat)) [V.bor [LT.int IntKind.i64, LT.int IntKind.i64, LT.int IntKind.i64, LT.int IntKind.i64, LT.int IntKind.i64, LT.bool, LT.lst [LT.int IntKind.u8]] r641, V.obj [V.f (F.lit (Value.int IntKind.i64 i642)), V.f (F.lit (Value.int IntKind.i64 i643)), V.f (F.lit (Value.int IntKind.i64 i644)), V.f (F.lit (Value.int IntKind.i64 i645)), V.f (F.lit (Value.int IntKind.i64 i646))], V.obj [V.f (F.lit (Value.int IntKind.i64 i647)), V.f (F.lit (Value.int IntKind.i64 i648)), V.f (F.lit (Value.int IntKind.i64 i649)), V.f (F.lit (Value.int IntKind.i64 i650)), V.f (F.lit (Value.int IntKind.i64 i661))], V.f (F.lit (Value.int IntKind.i64 i662)), V.undef]) r641 i642 i643 i644 i645 i646 i647 i648 i649 i650 m i651 i652
  | _ => L R 51 17 vs k
set_option maxRecDepth 100000 in
theorem stLp51_17 (m n : Nat) (R : Type) (r641 : Abs.Rows) (i642 : Int) (i643 : Int) (i644 : Int) (i645 : Int) (i646 : Int) (i647 : Int) (i648 : Int) (i649 : Int) (i650 : Int) (i651 : Int) (i652 : Int) (k : Ex → List V → Option R) : codeK Try.prog H (T31 m) 51 (L27 m) 18 (loopBody Try.prog 51 17) (mkEnv [0, 2, 4, 7, 112] [V.bor [LT.int IntKind.i64, LT.int IntKind.i64, LT.int IntKind.i64, LT.int IntKind.i64, LT.int IntKind.i64, LT.bool, LT.lst [LT.int IntKind.u8]] r641, V.obj [V.f (F.lit (Value.int IntKind.i64 i642)), V.f (F.lit (Value.int IntKind.i64 i643)), V.f (F.lit (Value.int IntKind.i64 i644)), V.f (F.lit (Value.int IntKind.i64 i645)), V.f (F.lit (Value.int IntKind.i64 i646))], V.obj [V.f (F.lit (Value.int IntKind.i64 i647)), V.f (F.lit (Value.int IntKind.i64 i648)), V.f (F.lit (Value.int IntKind.i64 i649)), V.f (F.lit (Value.int IntKind.i64 i650)), V.f (F.lit (Value.int IntKind.i64 i651))], V.f (F.lit (Value.int IntKind.i64 i652)), V.undef] 0 (H.len 51)) (fun e env' => match e with | .normal => ELp51_17 m R n (vals [0, 2, 4, 7, 112] env') k | e => k e (vals [0, 2, 4, 7, 112] env')) = Lp51_17_step m (fun i661 i662 => k (Ex.exit (3 : Nat)) [V.bor [LT.int IntKind.i64, LT.int IntKind.i64, LT.int IntKind.i64, LT.int IntKind.i64, LT.int IntKind.i64, LT.bool, LT.lst [LT.int IntKind.u8]] r641, V.obj [V.f (F.lit (Value.int IntKind.i64 i642)), V.f (F.lit (Value.int IntKind.i64 i643)), V.f (F.lit (Value.int IntKind.i64 i644)), V.f (F.lit (Value.int IntKind.i64 i645)), V.f (F.lit (Value.int IntKind.i64 i646))], V.obj [V.f (F.lit (Value.int IntKind.i64 i647)), V.f (F.lit (Value.int IntKind.i64 i648)), V.f (F.lit (Value.int IntKind.i64 i649)), V.f (F.lit (Value.int IntKind.i64 i650)), V.f (F.lit (Value.int IntKind.i64 i661))], V.f (F.lit (Value.int IntKind.i64 i662)), V.undef]) r641 i642 i643 i644 i645 i646 i647 i648 i649 i650 (fun i651 i652 => ELp51_17 m R n [V.bor [LT.int IntKind.i64, LT.int IntKind.i64, LT.int IntKind.i64, LT.int IntKind.i64, LT.int IntKind.i64, LT.bool, LT.lst [LT.int IntKind.u8]] r641, V.obj [V.f (F.lit (Value.int IntKind.i64 i642)), V.f (F.lit (Value.int IntKind.i64 i643)), V.f (F.lit (Value.int IntKind.i64 i644)), V.f (F.lit (Value.int IntKind.i64 i645)), V.f (F.lit (Value.int IntKind.i64 i646))], V.obj [V.f (F.lit (Value.int IntKind.i64 i647)), V.f (F.lit (Value.int IntKind.i64 i648)), V.f (F.lit (Value.int IntKind.i64 i649)), V.f (F.lit (Value.int IntKind.i64 i650)), V.f (F.lit (Value.int IntKind.i64 i651))], V.f (F.lit (Value.int IntKind.i64 i652)), V.undef] k) i651 i652 := by kernel_rfl
theorem eqLp51_17 (m : Nat) (R : Type) (r641 : Abs.Rows) (i642 : Int) (i643 : Int) (i644 : Int) (i645 : Int) (i646 : Int) (i647 : Int) (i648 : Int) (i649 : Int) (i650 : Int) (k : Ex → List V → Option R) : ∀ (n : Nat) (i651 : Int) (i652 : Int), ELp51_17 m R n [V.bor [LT.int IntKind.i64, LT.int IntKind.i64, LT.int IntKind.i64, LT.int IntKind.i64, LT.int IntKind.i64, LT.bool, LT.lst [LT.int IntKind.u8]] r641, V.obj [V.f (F.lit (Value.int IntKind.i64 i642)), V.f (F.lit (Value.int IntKind.i64 i643)), V.f (F.lit (Value.int IntKind.i64 i644)), V.f (F.lit (Value.int IntKind.i64 i645)), V.f (F.lit (Value.int IntKind.i64 i646))], V.obj [V.f (F.lit (Value.int IntKind.i64 i647)), V.f (F.lit (Value.int IntKind.i64 i648)), V.f (F.lit (Value.int IntKind.i64 i649)), V.f (F.lit (Value.int IntKind.i64 i650)), V.f (F.lit (Value.int IntKind.i64 i651))], V.f (F.lit (Value.int IntKind.i64 i652)), V.undef] k = Lp51_17 m (fun i661 i662 => k (Ex.exit (3 : Nat)) [V.bor [LT.int IntKind.i64, LT.int IntKind.i64, LT.int IntKind.i64, LT.int IntKind.i64, LT.int IntKind.i64, LT.bool, LT.lst [LT.int IntKind.u8]] r641, V.obj [V.f (F.lit (Value.int IntKind.i64 i642)), V.f (F.lit (Value.int IntKind.i64 i643)), V.f (F.lit (Value.int IntKind.i64 i644)), V.f (F.lit (Value.int IntKind.i64 i645)), V.f (F.lit (Value.int IntKind.i64 i646))], V.obj [V.f (F.lit (Value.int IntKind.i64 i647)), V.f (F.lit (Value.int IntKind.i64 i648)), V.f (F.lit (Value.int IntKind.i64 i649)), V.f (F.lit (Value.int IntKind.i64 i650)), V.f (F.lit (Value.int IntKind.i64 i661))], V.f (F.lit (Value.int IntKind.i64 i662)), V.undef]) r641 i642 i643 i644 i645 i646 i647 i648 i649 i650 n i651 i652
  | 0, _, _ => rfl
  | n + 1, i651, i652 => by
    simp only [ELp51_17, Lp51_17]
    congr 1
    funext i651 i652
    exact eqLp51_17 m R r641 i642 i643 i644 i645 i646 i647 i648 i649 i650 k n i651 i652
def L28 (m : Nat) : LTbl := addB 51 17 (brLp51_17 m (L27 m)) (L27 m)
theorem okL28 (m : Nat) : LTOk Try.prog H (L28 m) := addB_ok (okT31 m) hM (okL27 m) (l := [0, 2, 4, 7, 112]) (by kernel_rfl) (by kernel_rfl) m (fun R n vs k => ELp51_17 m R n vs k) (fun R vs k => rfl) (fun R n vs k x h => by
      simp only [ELp51_17] at h
      split at h
      · exact (stLp51_17 m n R _ _ _ _ _ _ _ _ _ _ _ _ k).trans h
      · cases h) fun R vs k x h => by
    unfold brLp51_17 at h
    split at h
    · exact .inl ((eqLp51_17 m R _ _ _ _ _ _ _ _ _ _ k m _ _).trans h)
    · exact .inr h

/-- hookflash/flashref2.LossesOf -/
def Fn51 {R : Type} (m : Nat) : Abs.Rows → (Int → Int → Int → Int → Int → Option R) → Option R := match m with
  | 0 => fun _ _ => none
  | m + 1 => fun r570 k =>
  Fn50 m r570 (fun r571 => bif (↑(List.length r571) : Int) == (0 : Int) then (k ((0 : Int)) ((0 : Int)) ((0 : Int)) ((0 : Int)) ((0 : Int))) else
  (Fn80 m r571 (fun i585 => Fn81 m r571 (fun i599 => Lp51_7 m (fun i638 i639 i640 => Lp51_17 m (fun i663 i664 => k (IntKind.wrap IntKind.i64 (IntKind.wrap IntKind.i64 (i585 - i599) + (1 : Int))) (IntKind.wrap IntKind.i64 (IntKind.wrap IntKind.i64 (IntKind.wrap IntKind.i64 (i585 - i599) + (1 : Int)) - IntKind.wrap IntKind.i64 ((↑(List.length r571) : Int) - i638))) i638 i639 i663) r570 ((0 : Int)) ((0 : Int)) ((0 : Int)) ((0 : Int)) ((0 : Int)) (IntKind.wrap IntKind.i64 (IntKind.wrap IntKind.i64 (i585 - i599) + (1 : Int))) (IntKind.wrap IntKind.i64 (IntKind.wrap IntKind.i64 (IntKind.wrap IntKind.i64 (i585 - i599) + (1 : Int)) - IntKind.wrap IntKind.i64 ((↑(List.length r571) : Int) - i638))) i638 i639 m ((0 : Int)) ((1 : Int))) r570 ((0 : Int)) ((0 : Int)) ((0 : Int)) ((0 : Int)) ((0 : Int)) r571 (IntKind.wrap IntKind.i64 (IntKind.wrap IntKind.i64 (i585 - i599) + (1 : Int))) ((0 : Int)) ((0 : Int)) (List.length r571) ((↑(List.length r571) : Int)) m ((0 : Int)) ((0 : Int)) ((0 : Int))))))
def brFn51 (m : Nat) (T : Tbl) (R : Type) (vs : List V) (k : V → List V → Option R) : Option R := match vs with
  | [V.bor [LT.int IntKind.i64, LT.int IntKind.i64, LT.int IntKind.i64, LT.int IntKind.i64, LT.int IntKind.i64, LT.bool, LT.lst [LT.int IntKind.u8]] r570] => Fn51 m r570 (fun i665 i666 i667 i668 i669 => k (V.agg [V.f (F.lit (Value.int IntKind.i64 i665)), V.f (F.lit (Value.int IntKind.i64 i666)), V.f (F.lit (Value.int IntKind.i64 i667)), V.f (F.lit (Value.int IntKind.i64 i668)), V.f (F.lit (Value.int IntKind.i64 i669))]) [V.undef])
  | _ => T R 51 vs k
set_option maxRecDepth 100000 in
theorem evFn51 (m : Nat) (R : Type) (r570 : Abs.Rows) (k : V → List V → Option R) : runK Try.prog H (T31 m) (L28 m) 51 [V.bor [LT.int IntKind.i64, LT.int IntKind.i64, LT.int IntKind.i64, LT.int IntKind.i64, LT.int IntKind.i64, LT.bool, LT.lst [LT.int IntKind.u8]] r570] k = Fn51 (m + 1) r570 (fun i665 i666 i667 i668 i669 => k (V.agg [V.f (F.lit (Value.int IntKind.i64 i665)), V.f (F.lit (Value.int IntKind.i64 i666)), V.f (F.lit (Value.int IntKind.i64 i667)), V.f (F.lit (Value.int IntKind.i64 i668)), V.f (F.lit (Value.int IntKind.i64 i669))]) [V.undef]) := by kernel_rfl
def T32 (m : Nat) : Tbl := addT 51 (brFn51 m (T31 m)) (T31 m)
theorem okT32 (m : Nat) : TblOk Try.prog (T32 m) := addT_ok (okT31 m) fun R vs k x h => by
  unfold brFn51 at h
  split at h
  · cases m with
    | zero => cases h
    | succ m => exact runK_some (okT31 m) hM (okL28 m) ((evFn51 m R _ k).trans h)
  · exact okT31 m R 51 _ k x h

/-- hookflash/flashlaw2.PacketsCounted -/
def Fn7 {R : Type} (m : Nat) : Abs.Rows → (Bool → Option R) → Option R := match m with
  | 0 => fun _ _ => none
  | m + 1 => fun r1 k =>
  Fn33 m r1 ((0 : Int)) ((12 : Int)) (fun r214 i215 => Fn47 m r214 (fun r324 i325 => Fn48 m r214 (fun i416 i417 i418 i419 i420 i421 => Fn36 m r214 (fun i500 => Fn49 m r214 (fun i501 => bif i501 != i500 then (k false) else
  (bif i500 != (0 : Int) then (bif i325 == i500 then (bif i421 == i500 then (bif (↑(List.length r324) : Int) == (0 : Int) then (bif i416 == (0 : Int) && (i417 == (0 : Int) && (i418 == (0 : Int) && (i419 == (0 : Int) && (i420 == (0 : Int) && true)))) then (Fn19 m  (fun b507 => k b507)) else
  (k false)) else
  (k false)) else
  (k false)) else
  (k false)) else
  (bif i325 == (0 : Int) then (bif i421 == (0 : Int) then (Fn50 m r214 (fun r554 => Fn38 m r324 r554 (fun b569 => bif b569 then (Fn51 m r214 (fun i670 i671 i672 i673 i674 => bif i416 == i670 && (i417 == i671 && (i418 == i672 && (i419 == i673 && (i420 == i674 && true)))) then (Fn19 m  (fun b675 => k b675)) else
  (k false))) else
  (k false)))) else
  (k false)) else
  (k false))))))))
def brFn7 (m : Nat) (T : Tbl) (R : Type) (vs : List V) (k : V → List V → Option R) : Option R := match vs with
  | [V.f (F.lst [LT.int IntKind.i64] r1)] => Fn7 m r1 (fun b676 => k (V.f (F.lit (Value.bool b676))) [V.undef])
  | _ => T R 7 vs k
set_option maxRecDepth 100000 in
theorem evFn7 (m : Nat) (R : Type) (r1 : Abs.Rows) (k : V → List V → Option R) : runK Try.prog H (T32 m) (L28 m) 7 [V.f (F.lst [LT.int IntKind.i64] r1)] k = Fn7 (m + 1) r1 (fun b676 => k (V.f (F.lit (Value.bool b676))) [V.undef]) := by kernel_rfl
def T33 (m : Nat) : Tbl := addT 7 (brFn7 m (T32 m)) (T32 m)
theorem okT33 (m : Nat) : TblOk Try.prog (T33 m) := addT_ok (okT32 m) fun R vs k x h => by
  unfold brFn7 at h
  split at h
  · cases m with
    | zero => cases h
    | succ m => exact runK_some (okT32 m) hM (okL28 m) ((evFn7 m R _ k).trans h)
  · exact okT32 m R 7 _ k x h

end Go.Proofs.Ytjhfbmhblpjigaa.Med
end
