/- A part of the proofs of the seat Ytjhfbmhblpjigaa: no statement of the seat stands here. -/
import Derived.Test.YtjhfbmhblpjigaaProg
import Derived.KernelRfl
import Derived.Test.YtjhfbmhblpjigaaAbsC
section
set_option linter.unusedVariables false
set_option linter.unusedSimpArgs false
namespace Go.Proofs.Ytjhfbmhblpjigaa.Med
open Go Go.Abs
def H : Hints where
  mode := fun f j => match f, j with
    | 62, 0 => .own
    | _, _ => .bor
  mv := fun f t => match f, t with
    | 3, 2 => true
    | 4, 2 => true
    | 5, 2 => true
    | 6, 2 => true
    | 7, 2 => true
    | 8, 2 => true
    | 10, 2 => true
    | 11, 2 => true
    | 11, 3 => true
    | 12, 2 => true
    | 13, 2 => true
    | 14, 3 => true
    | 15, 3 => true
    | 16, 2 => true
    | 17, 4 => true
    | 18, 4 => true
    | 19, 0 => true
    | 20, 4 => true
    | 21, 6 => true
    | 22, 4 => true
    | 23, 2 => true
    | 23, 3 => true
    | 24, 4 => true
    | 25, 2 => true
    | 26, 2 => true
    | 27, 2 => true
    | 27, 3 => true
    | 28, 2 => true
    | 29, 2 => true
    | 30, 2 => true
    | 30, 3 => true
    | 31, 2 => true
    | 32, 2 => true
    | 33, 4 => true
    | 34, 6 => true
    | 34, 7 => true
    | 35, 2 => true
    | 36, 2 => true
    | 37, 6 => true
    | 38, 4 => true
    | 39, 4 => true
    | 40, 2 => true
    | 40, 3 => true
    | 41, 4 => true
    | 41, 5 => true
    | 42, 6 => true
    | 42, 7 => true
    | 43, 2 => true
    | 44, 4 => true
    | 45, 6 => true
    | 46, 4 => true
    | 47, 2 => true
    | 47, 3 => true
    | 48, 3 => true
    | 49, 2 => true
    | 50, 2 => true
    | 52, 2 => true
    | 53, 2 => true
    | 54, 4 => true
    | 54, 5 => true
    | 55, 4 => true
    | 55, 5 => true
    | 56, 2 => true
    | 56, 3 => true
    | 57, 2 => true
    | 59, 4 => true
    | 60, 6 => true
    | 61, 4 => true
    | 62, 6 => true
    | 63, 6 => true
    | 64, 2 => true
    | 65, 2 => true
    | 66, 2 => true
    | 67, 6 => true
    | 68, 2 => true
    | 69, 4 => true
    | 70, 2 => true
    | 71, 4 => true
    | 72, 4 => true
    | 73, 2 => true
    | 74, 4 => true
    | 75, 4 => true
    | 76, 2 => true
    | 77, 2 => true
    | 78, 2 => true
    | 79, 2 => true
    | 80, 2 => true
    | 81, 2 => true
    | 82, 4 => true
    | 83, 4 => true
    | 84, 4 => true
    | 85, 0 => true
    | 86, 0 => true
    | 87, 4 => true
    | 88, 4 => true
    | 89, 0 => true
    | 90, 0 => true
    | 91, 4 => true
    | 91, 5 => true
    | 92, 4 => true
    | 93, 4 => true
    | 94, 4 => true
    | 95, 6 => true
    | 96, 4 => true
    | 97, 4 => true
    | 98, 4 => true
    | 99, 4 => true
    | _, _ => false
  live := fun f i => match f, i with
    | 3, 7 => some [2, 4, 5, 6, 7, 8, 9, 20, 21, 23, 24, 31, 69]
    | 4, 5 => some [3, 4, 5, 6, 21, 28, 30, 31, 147]
    | 4, 14 => some [2, 5, 6, 28, 38, 147]
    | 4, 20 => some [5, 6, 9, 10, 11, 12, 28, 38, 70, 72, 73, 79, 80, 81, 147]
    | 4, 25 => some [2, 5, 6, 9, 10, 11, 12, 28, 38, 70, 72, 73, 89, 147]
    | 4, 28 => some [2, 6, 38, 147]
    | 4, 31 => some [2, 6, 15, 16, 38, 106, 108, 109, 111, 112, 113, 147]
    | 5, 4 => some [2, 4, 5, 6, 7, 8, 9, 15, 22, 26, 27, 65]
    | 5, 7 => some [2, 7, 8, 9, 10, 22, 26, 27, 53, 65]
    | 6, 5 => some [3, 4, 5, 24, 26, 27, 149]
    | 6, 13 => some [2, 3, 4, 5, 24, 34, 43, 149]
    | 6, 20 => some [2, 5, 7, 8, 9, 10, 11, 12, 13, 14, 15, 16, 17, 45, 55, 57, 58, 60, 63, 64, 66, 70, 71, 76, 149]
    | 6, 21 => some [2, 5, 7, 8, 9, 10, 11, 12, 13, 14, 15, 16, 17, 18, 45, 55, 57, 58, 60, 63, 64, 66, 70, 71, 76, 149]
    | 6, 22 => some [2, 5, 7, 8, 9, 10, 11, 12, 13, 14, 15, 16, 17, 18, 19, 45, 55, 57, 58, 60, 63, 64, 66, 70, 71, 76, 149]
    | 6, 25 => some [2, 5, 7, 9, 10, 11, 12, 13, 14, 15, 16, 17, 18, 19, 20, 45, 55, 57, 58, 60, 63, 64, 66, 70, 71, 76, 111, 149]
    | 6, 28 => some [2, 5, 11, 12, 13, 14, 15, 16, 17, 18, 19, 20, 21, 55, 57, 58, 60, 63, 64, 66, 70, 71, 76, 111, 117, 149]
    | 8, 4 => some [2, 4, 5, 6, 24, 101]
    | 8, 7 => some [2, 4, 5, 6, 7, 8, 11, 24, 31, 34, 35, 101]
    | 8, 10 => some [2, 6, 7, 8, 11, 12, 24, 31, 34, 35, 56, 59, 60, 101]
    | 8, 13 => some [2, 6, 24, 101]
    | 10, 3 => some [0, 2, 3, 6, 11, 18, 19, 20]
    | 11, 7 => some [1, 2, 3, 5, 33, 34]
    | 12, 1 => some [1, 2, 3, 31]
    | 13, 3 => some [1, 2, 3, 10, 53, 54]
    | 13, 5 => some [1, 3, 10, 27, 28, 29, 54]
    | 13, 10 => some [1, 3, 5, 6, 10, 27, 28, 29, 54]
    | 14, 3 => some [0, 2, 3, 41]
    | 15, 3 => some [0, 2, 3, 45]
    | 16, 1 => some [1, 2, 3, 31]
    | 17, 5 => some [0, 1, 4, 12, 13, 26, 27]
    | 22, 3 => some [0, 5, 8, 9, 34, 35]
    | 22, 8 => some [0, 5, 16, 24, 34, 35]
    | 23, 6 => some [2, 3, 4, 5, 45]
    | 23, 9 => some [4, 5, 6, 45]
    | 26, 3 => some [2, 3, 4, 32]
    | 26, 6 => some [3, 4, 5, 32]
    | 27, 7 => some [0, 5, 15, 16, 17, 18, 33]
    | 29, 5 => some [0, 2, 8, 9, 10, 18]
    | 30, 6 => some [0, 4, 12, 13, 14, 15, 27]
    | 33, 2 => some [0, 5, 9, 16, 56, 57]
    | 34, 7 => some [0, 1, 2, 6, 7, 9, 33, 125, 126, 127, 128]
    | 34, 11 => some [0, 1, 9, 10, 33, 36, 37, 38, 39, 126, 127, 128]
    | 34, 19 => some [0, 1, 9, 10, 12, 13, 33, 36, 37, 38, 39, 64, 65, 66, 67, 68, 126, 127, 128]
    | 34, 24 => some [0, 1, 9, 10, 12, 13, 15, 16, 33, 36, 37, 38, 39, 64, 65, 66, 67, 68, 90, 126, 127, 128]
    | 34, 29 => some [9, 10, 33, 36, 102, 103, 126, 127, 128]
    | 34, 33 => some [9, 10, 17, 33, 36, 102, 103, 114, 126, 127, 128]
    | 35, 2 => some [0, 2, 5, 6, 7, 15]
    | 36, 5 => some [0, 2, 9, 10, 11, 51]
    | 36, 16 => some [0, 2, 4, 9, 10, 11, 26, 51]
    | 37, 4 => some [0, 1, 7, 8, 18, 21, 22, 23, 24, 112, 113, 114]
    | 37, 12 => some [0, 1, 7, 8, 10, 11, 18, 21, 22, 23, 24, 49, 50, 51, 52, 53, 112, 113, 114]
    | 37, 17 => some [0, 1, 7, 8, 10, 11, 13, 14, 18, 21, 22, 23, 24, 49, 50, 51, 52, 53, 72, 112, 113, 114]
    | 37, 25 => some [7, 8, 18, 21, 88, 89, 112, 113, 114]
    | 37, 29 => some [7, 8, 15, 18, 21, 88, 89, 100, 112, 113, 114]
    | 38, 5 => some [0, 1, 4, 12, 13, 26, 27]
    | 40, 6 => some [0, 2, 3, 4, 17, 18, 19, 72]
    | 40, 18 => some [0, 8, 34, 35, 36, 37, 72]
    | 40, 23 => some [0, 8, 10, 34, 35, 36, 37, 39, 40, 41, 42, 43, 72]
    | 40, 31 => some [8, 34, 58, 59, 72]
    | 41, 10 => some [0, 1, 7, 20, 21, 22, 23, 38, 39]
    | 42, 7 => some [0, 1, 2, 6, 7, 9, 55, 59, 60, 61, 62]
    | 42, 11 => some [0, 1, 2, 9, 10, 27, 28, 60, 61, 62]
    | 42, 16 => some [0, 1, 2, 9, 10, 11, 27, 28, 55, 60, 61, 62]
    | 43, 3 => some [0, 3, 9, 10, 11, 54]
    | 43, 7 => some [0, 3, 5, 9, 10, 11, 13, 14, 54]
    | 43, 12 => some [0, 3, 5, 9, 10, 11, 13, 14, 22, 23, 24, 25, 54]
    | 43, 20 => some [3, 22, 40, 41, 54]
    | 44, 3 => some [0, 1, 5, 8, 9, 10, 24, 25]
    | 45, 4 => some [0, 1, 2, 7, 8, 12, 13, 45, 46, 47]
    | 45, 9 => some [0, 1, 2, 7, 8, 9, 12, 13, 40, 45, 46, 47]
    | 46, 5 => some [0, 1, 4, 12, 13, 26, 27]
    | 48, 13 => some [0, 2, 5, 6, 7, 8, 9, 25, 32, 33, 34, 35, 123]
    | 48, 19 => some [0, 2, 5, 6, 7, 8, 9, 11, 25, 32, 33, 34, 35, 123]
    | 48, 26 => some [0, 2, 5, 12, 123]
    | 49, 5 => some [0, 2, 9, 10, 11, 49]
    | 49, 18 => some [0, 2, 4, 9, 10, 11, 49]
    | 50, 4 => some [0, 3, 4, 13, 14, 15, 88]
    | 50, 13 => some [0, 3, 4, 5, 7, 13, 14, 15, 39, 40, 41, 88]
    | 50, 20 => some [0, 3, 4, 5, 7, 13, 14, 15, 85, 88]
    | 51, 7 => some [0, 2, 3, 4, 10, 22, 23, 24, 112]
    | 51, 17 => some [0, 2, 4, 7, 112]
    | 53, 3 => some [0, 3, 13, 14, 84]
    | 53, 13 => some [0, 3, 6, 7, 13, 14, 68, 69, 84]
    | 54, 10 => some [7, 25, 32, 33, 34, 48, 49]
    | 55, 7 => some [7, 8, 20, 27, 29, 30, 45, 46]
    | 56, 8 => some [0, 5, 6, 7, 8, 71]
    | 56, 16 => some [0, 5, 6, 7, 8, 14, 68, 71]
    | 56, 18 => some [0, 5, 6, 7, 8, 14, 68, 71]
    | 57, 2 => some [0, 3, 82]
    | 57, 6 => some [0, 3, 4, 5, 27, 30, 38, 82]
    | 57, 11 => some [3, 6, 7, 30, 38, 82]
    | 57, 15 => some [3, 6, 7, 8, 30, 38, 82]
    | 57, 19 => some [3, 6, 7, 8, 30, 38, 71, 82]
    | 58, 3 => some [0, 2, 3, 20, 21, 33]
    | 61, 3 => some [0, 4, 5, 8, 10, 11, 64, 65]
    | 62, 2 => some [0, 1, 7, 23, 24, 25]
    | 64, 3 => some [0, 3, 6, 7, 8, 19]
    | 65, 3 => some [0, 3, 6, 7, 8, 19]
    | 71, 5 => some [0, 5, 6, 7, 8, 9, 25, 26, 128, 129]
    | 71, 10 => some [0, 5, 6, 7, 8, 9, 10, 25, 26, 35, 36, 128, 129]
    | 71, 17 => some [0, 5, 6, 7, 8, 9, 10, 25, 26, 66, 70, 83, 128, 129]
    | 71, 20 => some [0, 5, 6, 7, 8, 9, 25, 26, 66, 83, 125, 128, 129]
    | 71, 21 => some [0, 5, 6, 7, 8, 9, 25, 26, 66, 83, 113, 125, 128, 129]
    | 78, 4 => some [0, 3, 4, 8, 9, 10, 35]
    | 78, 10 => some [0, 3, 4, 7, 8, 9, 10, 32, 35]
    | 80, 2 => some [0, 2, 25]
    | 80, 5 => some [0, 3, 4, 25]
    | 81, 2 => some [0, 2, 25]
    | 81, 5 => some [0, 3, 4, 25]
    | 83, 2 => some [0, 1, 4, 7, 8, 19, 20]
    | 84, 3 => some [0, 5, 8, 10, 11, 43, 44]
    | 88, 3 => some [0, 5, 7, 8, 43, 44]
    | 91, 4 => some [0, 1, 6, 7, 12, 13, 14, 62, 63]
    | 91, 13 => some [4, 5, 6, 7, 24, 36, 37, 38, 62, 63]
    | 92, 3 => some [0, 1, 5, 11, 12, 13, 56, 57]
    | 92, 11 => some [4, 5, 8, 22, 28, 29, 30, 56, 57]
    | 94, 2 => some [0, 1, 4, 7, 8, 19, 20]
    | 96, 2 => some [0, 1, 4, 7, 8, 19, 20]
    | 98, 3 => some [0, 1, 5, 6, 10, 11, 12, 42, 43]
    | 99, 3 => some [0, 1, 5, 6, 9, 10, 11, 40, 41]
    | _, _ => none
  len := fun f => match f with
    | 3 => 70
    | 4 => 148
    | 5 => 66
    | 6 => 150
    | 7 => 76
    | 8 => 102
    | 9 => 37
    | 10 => 21
    | 11 => 35
    | 12 => 32
    | 13 => 55
    | 14 => 42
    | 15 => 46
    | 16 => 32
    | 17 => 28
    | 18 => 40
    | 19 => 3
    | 20 => 14
    | 21 => 22
    | 22 => 36
    | 23 => 46
    | 24 => 9
    | 25 => 6
    | 26 => 33
    | 27 => 34
    | 28 => 9
    | 29 => 19
    | 30 => 28
    | 31 => 25
    | 32 => 32
    | 33 => 58
    | 34 => 129
    | 35 => 16
    | 36 => 52
    | 37 => 115
    | 38 => 28
    | 39 => 11
    | 40 => 73
    | 41 => 40
    | 42 => 63
    | 43 => 55
    | 44 => 26
    | 45 => 48
    | 46 => 28
    | 47 => 13
    | 48 => 124
    | 49 => 50
    | 50 => 89
    | 51 => 113
    | 52 => 7
    | 53 => 85
    | 54 => 50
    | 55 => 47
    | 56 => 72
    | 57 => 83
    | 58 => 34
    | 59 => 66
    | 60 => 25
    | 61 => 66
    | 62 => 26
    | 63 => 18
    | 64 => 20
    | 65 => 20
    | 66 => 9
    | 67 => 18
    | 68 => 6
    | 69 => 11
    | 70 => 7
    | 71 => 130
    | 72 => 17
    | 73 => 6
    | 74 => 14
    | 75 => 18
    | 76 => 7
    | 77 => 7
    | 78 => 36
    | 79 => 10
    | 80 => 26
    | 81 => 26
    | 82 => 11
    | 83 => 21
    | 84 => 45
    | 85 => 2
    | 86 => 2
    | 87 => 10
    | 88 => 45
    | 89 => 2
    | 90 => 2
    | 91 => 64
    | 92 => 58
    | 93 => 18
    | 94 => 21
    | 95 => 27
    | 96 => 21
    | 97 => 10
    | 98 => 44
    | 99 => 42
    | _ => 0

end Go.Proofs.Ytjhfbmhblpjigaa.Med
end
section
set_option linter.unusedVariables false
set_option linter.unusedSimpArgs false
namespace Go.Proofs.Ytjhfbmhblpjigaa.Med
open Go Go.Abs Go.Proofs
set_option linter.unusedVariables false
theorem hM : Try.prog.follows .mixedOrders = true := by kernel_rfl
section
set_option maxRecDepth 100000
theorem cl66a (cap : Nat) (R : Type) (k : V → List V → Option R) : runK Try.prog H noT noL 66 [.f (.lit (.slice none 0 cap))] k = k (.own [.int .u8] []) [.undef] := by kernel_rfl
theorem cl66b (a : Addr) (cap : Nat) (R : Type) (k : V → List V → Option R) : runK Try.prog H noT noL 66 [.f (.lit (.slice (some a) 0 cap))] k = k (.own [.int .u8] []) [.undef] := by kernel_rfl
theorem cl66c (r : List F) (rs : Abs.Rows) (R : Type) (k : V → List V → Option R) : runK Try.prog H noT noL 66 [.bor [.int .u8] (r :: rs)] k = bif decide (0 + (r :: rs).length ≤ rowMax) then k (.own [.int .u8] (r :: rs)) [.undef] else none := by kernel_rfl
end
theorem clone66 (rows : Abs.Rows) (h : lenOk rows = true) : FnOk Try.prog 66 [.bor [.int .u8] rows] (.own [.int .u8] rows) [.undef] := by
  refine clone_ok (fun cap => fnOk_runK (tbl := noT) (lt := noL) (H := H) noT_ok hM noL_ok (cl66a cap)) (fun a cap => fnOk_runK (tbl := noT) (lt := noL) (H := H) noT_ok hM noL_ok (cl66b a cap)) (fun r rs hl => fnOk_runK (tbl := noT) (lt := noL) (H := H) noT_ok hM noL_ok fun R k => ?_) rows h
  rw [cl66c r rs R k, show decide (0 + (r :: rs).length ≤ rowMax) = true from by rw [Nat.zero_add]; exact hl]
  rfl
theorem idx100 (s : ByteArray) (c : Int) : FnOk Try.prog 100 [.f (.lit (.string s)), .f (.lit (.int .u8 c))] (vInt .i64 (idxByte s c)) [.undef, .undef] :=
  idx_ok (fn := Try.f100) Try.func100 (by kernel_rfl) (by kernel_rfl) (by kernel_rfl) (by kernel_rfl) s c
def T0 (_ : Nat) : Tbl := addT 100 (brIdx 100 (addT 66 (brClone [.int .u8] 66 noT) noT)) (addT 66 (brClone [.int .u8] 66 noT) noT)
def L0 (_ : Nat) : LTbl := noL
theorem okT0 (m : Nat) : TblOk Try.prog (T0 m) := brIdx_ok (brClone_ok noT_ok clone66) idx100
theorem okL0 (m : Nat) : LTOk Try.prog H (L0 m) := noL_ok
/-- hookflash/flashmake.Below -/
def Fn93 {R : Type} (m : Nat) : Int → Int → (Int → Option R) → Option R := match m with
  | 0 => fun _ _ _ => none
  | m + 1 => fun i7 i8 k =>
  bif decide (i8 < (1 : Int)) then (k ((0 : Int))) else
  (bif decide (i8 ≠ (0 : Int)) then (bif decide (Int.tmod i7 i8 < (0 : Int)) then (k (IntKind.wrap IntKind.i64 (Int.tmod i7 i8 + i8))) else
  (k (Int.tmod i7 i8))) else
  (none))
def brFn93 (m : Nat) (T : Tbl) (R : Type) (vs : List V) (k : V → List V → Option R) : Option R := match vs with
  | [V.f (F.lit (Value.int IntKind.i64 i7)), V.f (F.lit (Value.int IntKind.i64 i8))] => Fn93 m i7 i8 (fun i9 => k (V.f (F.lit (Value.int IntKind.i64 i9))) [V.undef, V.undef])
  | _ => T R 93 vs k
set_option maxRecDepth 100000 in
theorem evFn93 (m : Nat) (R : Type) (i7 : Int) (i8 : Int) (k : V → List V → Option R) : runK Try.prog H (T0 m) (L0 m) 93 [V.f (F.lit (Value.int IntKind.i64 i7)), V.f (F.lit (Value.int IntKind.i64 i8))] k = Fn93 (m + 1) i7 i8 (fun i9 => k (V.f (F.lit (Value.int IntKind.i64 i9))) [V.undef, V.undef]) := by kernel_rfl
def T1 (m : Nat) : Tbl := addT 93 (brFn93 m (T0 m)) (T0 m)
theorem okT1 (m : Nat) : TblOk Try.prog (T1 m) := addT_ok (okT0 m) fun R vs k x h => by
  unfold brFn93 at h
  split at h
  · cases m with
    | zero => cases h
    | succ m => exact runK_some (okT0 m) hM (okL0 m) ((evFn93 m R _ _ k).trans h)
  · exact okT0 m R 93 _ k x h

/-- (*hookflash/flashmake.Stream).Next -/
def Fn59 {R : Type} (m : Nat) : Abs.Rows → Int → Int → (Int → Int → Option R) → Option R := match m with
  | 0 => fun _ _ _ _ => none
  | m + 1 => fun r4 i5 i6 k =>
  bif (↑(List.length r4) : Int) == (0 : Int) then (Fn93 m (IntKind.wrap IntKind.i64 (IntKind.wrap IntKind.i64 (i5 + (1 : Int)) * (7919 : Int))) i6 (fun i10 => k i10 (IntKind.wrap IntKind.i64 (i5 + (1 : Int))))) else
  (bif decide ((↑(List.length r4) : Int) ≠ (0 : Int)) then (bif decide ((↑(List.length r4) : Int) ≠ (0 : Int)) then (bif decide ((0 : Int) ≤ Int.tmod (IntKind.wrap IntKind.i64 (IntKind.wrap IntKind.i64 (i5 + (1 : Int)) - (1 : Int))) (↑(List.length r4) : Int) ∧ Int.tmod (IntKind.wrap IntKind.i64 (IntKind.wrap IntKind.i64 (i5 + (1 : Int)) - (1 : Int))) (↑(List.length r4) : Int) < (↑(List.length r4) : Int)) then (Fn93 m (fI r4 (Int.toNat (Int.tmod (IntKind.wrap IntKind.i64 (IntKind.wrap IntKind.i64 (i5 + (1 : Int)) - (1 : Int))) (↑(List.length r4) : Int))) (0 : Nat)) ((1073741824 : Int)) (fun i11 => Fn93 m (IntKind.wrap IntKind.i64 (i11 + IntKind.wrap IntKind.i64 (IntKind.wrap IntKind.i64 (Int.tdiv (IntKind.wrap IntKind.i64 (IntKind.wrap IntKind.i64 (i5 + (1 : Int)) - (1 : Int))) (↑(List.length r4) : Int)) * IntKind.wrap IntKind.i64 ((7919 : Int) + Int.tmod (IntKind.wrap IntKind.i64 (IntKind.wrap IntKind.i64 (i5 + (1 : Int)) - (1 : Int))) (↑(List.length r4) : Int))))) i6 (fun i12 => letV (IntKind.wrap IntKind.i64 (i11 + IntKind.wrap IntKind.i64 (IntKind.wrap IntKind.i64 (Int.tdiv (IntKind.wrap IntKind.i64 (IntKind.wrap IntKind.i64 (i5 + (1 : Int)) - (1 : Int))) (↑(List.length r4) : Int)) * IntKind.wrap IntKind.i64 ((7919 : Int) + Int.tmod (IntKind.wrap IntKind.i64 (IntKind.wrap IntKind.i64 (i5 + (1 : Int)) - (1 : Int))) (↑(List.length r4) : Int))))) (fun i13 => letV (IntKind.wrap IntKind.i64 (IntKind.wrap IntKind.i64 (Int.tdiv (IntKind.wrap IntKind.i64 (IntKind.wrap IntKind.i64 (i5 + (1 : Int)) - (1 : Int))) (↑(List.length r4) : Int)) * IntKind.wrap IntKind.i64 ((7919 : Int) + Int.tmod (IntKind.wrap IntKind.i64 (IntKind.wrap IntKind.i64 (i5 + (1 : Int)) - (1 : Int))) (↑(List.length r4) : Int)))) (fun i14 => k i12 (IntKind.wrap IntKind.i64 (i5 + (1 : Int)))))))) else
  (none)) else
  (none)) else
  (none))
def brFn59 (m : Nat) (T : Tbl) (R : Type) (vs : List V) (k : V → List V → Option R) : Option R := match vs with
  | [V.obj [V.f (F.lst [LT.int IntKind.i64] r4), V.f (F.lit (Value.int IntKind.i64 i5))], V.f (F.lit (Value.int IntKind.i64 i6))] => Fn59 m r4 i5 i6 (fun i15 i16 => k (V.f (F.lit (Value.int IntKind.i64 i15))) [V.obj [V.f (F.lst [LT.int IntKind.i64] r4), V.f (F.lit (Value.int IntKind.i64 i16))], V.undef])
  | _ => T R 59 vs k
set_option maxRecDepth 100000 in
theorem evFn59 (m : Nat) (R : Type) (r4 : Abs.Rows) (i5 : Int) (i6 : Int) (k : V → List V → Option R) : runK Try.prog H (T1 m) (L0 m) 59 [V.obj [V.f (F.lst [LT.int IntKind.i64] r4), V.f (F.lit (Value.int IntKind.i64 i5))], V.f (F.lit (Value.int IntKind.i64 i6))] k = Fn59 (m + 1) r4 i5 i6 (fun i15 i16 => k (V.f (F.lit (Value.int IntKind.i64 i15))) [V.obj [V.f (F.lst [LT.int IntKind.i64] r4), V.f (F.lit (Value.int IntKind.i64 i16))], V.undef]) := by kernel_rfl
def T2 (m : Nat) : Tbl := addT 59 (brFn59 m (T1 m)) (T1 m)
theorem okT2 (m : Nat) : TblOk Try.prog (T2 m) := addT_ok (okT1 m) fun R vs k x h => by
  unfold brFn59 at h
  split at h
  · cases m with
    | zero => cases h
    | succ m => exact runK_some (okT1 m) hM (okL0 m) ((evFn59 m R _ _ _ k).trans h)
  · exact okT1 m R 59 _ k x h

/-- (*hookflash/flashmake.Stream).KeyByte -/
def Fn52 {R : Type} (m : Nat) : Abs.Rows → Int → (Int → Int → Option R) → Option R := match m with
  | 0 => fun _ _ _ => none
  | m + 1 => fun r2 i3 k =>
  Fn59 m r2 i3 ((16 : Int)) (fun i17 i18 => bif decide ((0 : Int) ≤ i17 ∧ i17 < (↑(ByteArray.size { data := #[(49 : UInt8), (50 : UInt8), (51 : UInt8), (65 : UInt8), (52 : UInt8), (53 : UInt8), (54 : UInt8), (66 : UInt8), (55 : UInt8), (56 : UInt8), (57 : UInt8), (67 : UInt8), (42 : UInt8), (48 : UInt8), (35 : UInt8), (68 : UInt8)] }) : Int)) then (k ((↑(UInt8.toNat (Array.getD (ByteArray.data { data := #[(49 : UInt8), (50 : UInt8), (51 : UInt8), (65 : UInt8), (52 : UInt8), (53 : UInt8), (54 : UInt8), (66 : UInt8), (55 : UInt8), (56 : UInt8), (57 : UInt8), (67 : UInt8), (42 : UInt8), (48 : UInt8), (35 : UInt8), (68 : UInt8)] }) (Int.toNat i17) (0 : UInt8))) : Int)) i18) else
  (none))
def brFn52 (m : Nat) (T : Tbl) (R : Type) (vs : List V) (k : V → List V → Option R) : Option R := match vs with
  | [V.obj [V.f (F.lst [LT.int IntKind.i64] r2), V.f (F.lit (Value.int IntKind.i64 i3))]] => Fn52 m r2 i3 (fun i19 i20 => k (V.f (F.lit (Value.int IntKind.u8 i19))) [V.obj [V.f (F.lst [LT.int IntKind.i64] r2), V.f (F.lit (Value.int IntKind.i64 i20))]])
  | _ => T R 52 vs k
set_option maxRecDepth 100000 in
theorem evFn52 (m : Nat) (R : Type) (r2 : Abs.Rows) (i3 : Int) (k : V → List V → Option R) : runK Try.prog H (T2 m) (L0 m) 52 [V.obj [V.f (F.lst [LT.int IntKind.i64] r2), V.f (F.lit (Value.int IntKind.i64 i3))]] k = Fn52 (m + 1) r2 i3 (fun i19 i20 => k (V.f (F.lit (Value.int IntKind.u8 i19))) [V.obj [V.f (F.lst [LT.int IntKind.i64] r2), V.f (F.lit (Value.int IntKind.i64 i20))]]) := by kernel_rfl
def T3 (m : Nat) : Tbl := addT 52 (brFn52 m (T2 m)) (T2 m)
theorem okT3 (m : Nat) : TblOk Try.prog (T3 m) := addT_ok (okT2 m) fun R vs k x h => by
  unfold brFn52 at h
  split at h
  · cases m with
    | zero => cases h
    | succ m => exact runK_some (okT2 m) hM (okL0 m) ((evFn52 m R _ _ k).trans h)
  · exact okT2 m R 52 _ k x h

/-- (*hookflash/flashmake.Stream).Pick -/
def Fn20 {R : Type} (m : Nat) : Abs.Rows → Int → Abs.Rows → (Int → Int → Option R) → Option R := match m with
  | 0 => fun _ _ _ _ => none
  | m + 1 => fun r23 i24 r25 k =>
  Fn59 m r23 i24 ((↑(List.length r25) : Int)) (fun i26 i27 => bif decide ((0 : Int) ≤ i26 ∧ i26 < (↑(List.length r25) : Int)) then (k (fI r25 (Int.toNat i26) (0 : Nat)) i27) else
  (none))
def brFn20 (m : Nat) (T : Tbl) (R : Type) (vs : List V) (k : V → List V → Option R) : Option R := match vs with
  | [V.obj [V.f (F.lst [LT.int IntKind.i64] r23), V.f (F.lit (Value.int IntKind.i64 i24))], V.bor [LT.int IntKind.i64] r25] => Fn20 m r23 i24 r25 (fun i28 i29 => k (V.f (F.lit (Value.int IntKind.i64 i28))) [V.obj [V.f (F.lst [LT.int IntKind.i64] r23), V.f (F.lit (Value.int IntKind.i64 i29))], V.undef])
  | _ => T R 20 vs k
set_option maxRecDepth 100000 in
theorem evFn20 (m : Nat) (R : Type) (r23 : Abs.Rows) (i24 : Int) (r25 : Abs.Rows) (k : V → List V → Option R) : runK Try.prog H (T3 m) (L0 m) 20 [V.obj [V.f (F.lst [LT.int IntKind.i64] r23), V.f (F.lit (Value.int IntKind.i64 i24))], V.bor [LT.int IntKind.i64] r25] k = Fn20 (m + 1) r23 i24 r25 (fun i28 i29 => k (V.f (F.lit (Value.int IntKind.i64 i28))) [V.obj [V.f (F.lst [LT.int IntKind.i64] r23), V.f (F.lit (Value.int IntKind.i64 i29))], V.undef]) := by kernel_rfl
def T4 (m : Nat) : Tbl := addT 20 (brFn20 m (T3 m)) (T3 m)
theorem okT4 (m : Nat) : TblOk Try.prog (T4 m) := addT_ok (okT3 m) fun R vs k x h => by
  unfold brFn20 at h
  split at h
  · cases m with
    | zero => cases h
    | succ m => exact runK_some (okT3 m) hM (okL0 m) ((evFn20 m R _ _ _ k).trans h)
  · exact okT3 m R 20 _ k x h

/-- (*hookflash/flashmake.Stream).Range -/
def Fn21 {R : Type} (m : Nat) : Abs.Rows → Int → Int → Int → (Int → Int → Option R) → Option R := match m with
  | 0 => fun _ _ _ _ _ => none
  | m + 1 => fun r34 i35 i36 i37 k =>
  bif decide (i37 < i36) then (k i36 i35) else
  (Fn59 m r34 i35 (IntKind.wrap IntKind.i64 (IntKind.wrap IntKind.i64 (i37 - i36) + (1 : Int))) (fun i38 i39 => k (IntKind.wrap IntKind.i64 (i36 + i38)) i39))
def brFn21 (m : Nat) (T : Tbl) (R : Type) (vs : List V) (k : V → List V → Option R) : Option R := match vs with
  | [V.obj [V.f (F.lst [LT.int IntKind.i64] r34), V.f (F.lit (Value.int IntKind.i64 i35))], V.f (F.lit (Value.int IntKind.i64 i36)), V.f (F.lit (Value.int IntKind.i64 i37))] => Fn21 m r34 i35 i36 i37 (fun i40 i41 => k (V.f (F.lit (Value.int IntKind.i64 i40))) [V.obj [V.f (F.lst [LT.int IntKind.i64] r34), V.f (F.lit (Value.int IntKind.i64 i41))], V.undef, V.undef])
  | _ => T R 21 vs k
set_option maxRecDepth 100000 in
theorem evFn21 (m : Nat) (R : Type) (r34 : Abs.Rows) (i35 : Int) (i36 : Int) (i37 : Int) (k : V → List V → Option R) : runK Try.prog H (T4 m) (L0 m) 21 [V.obj [V.f (F.lst [LT.int IntKind.i64] r34), V.f (F.lit (Value.int IntKind.i64 i35))], V.f (F.lit (Value.int IntKind.i64 i36)), V.f (F.lit (Value.int IntKind.i64 i37))] k = Fn21 (m + 1) r34 i35 i36 i37 (fun i40 i41 => k (V.f (F.lit (Value.int IntKind.i64 i40))) [V.obj [V.f (F.lst [LT.int IntKind.i64] r34), V.f (F.lit (Value.int IntKind.i64 i41))], V.undef, V.undef]) := by kernel_rfl
def T5 (m : Nat) : Tbl := addT 21 (brFn21 m (T4 m)) (T4 m)
theorem okT5 (m : Nat) : TblOk Try.prog (T5 m) := addT_ok (okT4 m) fun R vs k x h => by
  unfold brFn21 at h
  split at h
  · cases m with
    | zero => cases h
    | succ m => exact runK_some (okT4 m) hM (okL0 m) ((evFn21 m R _ _ _ _ k).trans h)
  · exact okT4 m R 21 _ k x h

/-- internal/stringslite.IndexByte -/
def Fn97 {R : Type} (m : Nat) : ByteArray → Int → (Int → Option R) → Option R := match m with
  | 0 => fun _ _ _ => none
  | m + 1 => fun s59 i60 k =>
  k (idxByte s59 i60)
def brFn97 (m : Nat) (T : Tbl) (R : Type) (vs : List V) (k : V → List V → Option R) : Option R := match vs with
  | [V.f (F.lit (Value.string s59)), V.f (F.lit (Value.int IntKind.u8 i60))] => Fn97 m s59 i60 (fun i61 => k (V.f (F.lit (Value.int IntKind.i64 i61))) [V.undef, V.undef])
  | _ => T R 97 vs k
set_option maxRecDepth 100000 in
theorem evFn97 (m : Nat) (R : Type) (s59 : ByteArray) (i60 : Int) (k : V → List V → Option R) : runK Try.prog H (T5 m) (L0 m) 97 [V.f (F.lit (Value.string s59)), V.f (F.lit (Value.int IntKind.u8 i60))] k = Fn97 (m + 1) s59 i60 (fun i61 => k (V.f (F.lit (Value.int IntKind.i64 i61))) [V.undef, V.undef]) := by kernel_rfl
def T6 (m : Nat) : Tbl := addT 97 (brFn97 m (T5 m)) (T5 m)
theorem okT6 (m : Nat) : TblOk Try.prog (T6 m) := addT_ok (okT5 m) fun R vs k x h => by
  unfold brFn97 at h
  split at h
  · cases m with
    | zero => cases h
    | succ m => exact runK_some (okT5 m) hM (okL0 m) ((evFn97 m R _ _ k).trans h)
  · exact okT5 m R 97 _ k x h

/-- strings.IndexByte -/
def Fn87 {R : Type} (m : Nat) : ByteArray → Int → (Int → Option R) → Option R := match m with
  | 0 => fun _ _ _ => none
  | m + 1 => fun s57 i58 k =>
  Fn97 m s57 i58 (fun i62 => k i62)
def brFn87 (m : Nat) (T : Tbl) (R : Type) (vs : List V) (k : V → List V → Option R) : Option R := match vs with
  | [V.f (F.lit (Value.string s57)), V.f (F.lit (Value.int IntKind.u8 i58))] => Fn87 m s57 i58 (fun i63 => k (V.f (F.lit (Value.int IntKind.i64 i63))) [V.undef, V.undef])
  | _ => T R 87 vs k
set_option maxRecDepth 100000 in
theorem evFn87 (m : Nat) (R : Type) (s57 : ByteArray) (i58 : Int) (k : V → List V → Option R) : runK Try.prog H (T6 m) (L0 m) 87 [V.f (F.lit (Value.string s57)), V.f (F.lit (Value.int IntKind.u8 i58))] k = Fn87 (m + 1) s57 i58 (fun i63 => k (V.f (F.lit (Value.int IntKind.i64 i63))) [V.undef, V.undef]) := by kernel_rfl
def T7 (m : Nat) : Tbl := addT 87 (brFn87 m (T6 m)) (T6 m)
theorem okT7 (m : Nat) : TblOk Try.prog (T7 m) := addT_ok (okT6 m) fun R vs k x h => by
  unfold brFn87 at h
  split at h
  · cases m with
    | zero => cases h
    | succ m => exact runK_some (okT6 m) hM (okL0 m) ((evFn87 m R _ _ k).trans h)
  · exact okT6 m R 87 _ k x h

/-- hookflash/flashref2.rowNumbers -/
def Fn89 {R : Type} (m : Nat) : (Abs.Rows → Option R) → Option R := match m with
  | 0 => fun _ => none
  | m + 1 => fun  k =>
  k ([[F.lit (Value.int IntKind.i64 (27980 : Int))], [F.lit (Value.int IntKind.i64 (26956 : Int))], [F.lit (Value.int IntKind.i64 (25701 : Int))], [F.lit (Value.int IntKind.i64 (24219 : Int))]])
def brFn89 (m : Nat) (T : Tbl) (R : Type) (vs : List V) (k : V → List V → Option R) : Option R := match vs with
  | [] => Fn89 m  (fun r65 => k (V.own [LT.int IntKind.i64] r65) [])
  | _ => T R 89 vs k
set_option maxRecDepth 100000 in
theorem evFn89 (m : Nat) (R : Type)  (k : V → List V → Option R) : runK Try.prog H (T7 m) (L0 m) 89 [] k = Fn89 (m + 1)  (fun r65 => k (V.own [LT.int IntKind.i64] r65) []) := by kernel_rfl
def T8 (m : Nat) : Tbl := addT 89 (brFn89 m (T7 m)) (T7 m)
theorem okT8 (m : Nat) : TblOk Try.prog (T8 m) := addT_ok (okT7 m) fun R vs k x h => by
  unfold brFn89 at h
  split at h
  · cases m with
    | zero => cases h
    | succ m => exact runK_some (okT7 m) hM (okL0 m) ((evFn89 m R k).trans h)
  · exact okT7 m R 89 _ k x h

/-- hookflash/flashref2.floor -/
def Fn75 {R : Type} (m : Nat) : Int → Int → (Int → Option R) → Option R := match m with
  | 0 => fun _ _ _ => none
  | m + 1 => fun i75 i76 k =>
  bif decide (i76 ≠ (0 : Int)) then (bif decide (Int.tmod i75 i76 < (0 : Int)) then (bif decide (i76 ≠ (0 : Int)) then (k (IntKind.wrap IntKind.i64 (IntKind.wrap IntKind.i64 (Int.tdiv i75 i76) - (1 : Int)))) else
  (none)) else
  (bif decide (i76 ≠ (0 : Int)) then (k (IntKind.wrap IntKind.i64 (Int.tdiv i75 i76))) else
  (none))) else
  (none)
def brFn75 (m : Nat) (T : Tbl) (R : Type) (vs : List V) (k : V → List V → Option R) : Option R := match vs with
  | [V.f (F.lit (Value.int IntKind.i64 i75)), V.f (F.lit (Value.int IntKind.i64 i76))] => Fn75 m i75 i76 (fun i77 => k (V.f (F.lit (Value.int IntKind.i64 i77))) [V.undef, V.undef])
  | _ => T R 75 vs k
set_option maxRecDepth 100000 in
theorem evFn75 (m : Nat) (R : Type) (i75 : Int) (i76 : Int) (k : V → List V → Option R) : runK Try.prog H (T8 m) (L0 m) 75 [V.f (F.lit (Value.int IntKind.i64 i75)), V.f (F.lit (Value.int IntKind.i64 i76))] k = Fn75 (m + 1) i75 i76 (fun i77 => k (V.f (F.lit (Value.int IntKind.i64 i77))) [V.undef, V.undef]) := by kernel_rfl
def T9 (m : Nat) : Tbl := addT 75 (brFn75 m (T8 m)) (T8 m)
theorem okT9 (m : Nat) : TblOk Try.prog (T9 m) := addT_ok (okT8 m) fun R vs k x h => by
  unfold brFn75 at h
  split at h
  · cases m with
    | zero => cases h
    | succ m => exact runK_some (okT8 m) hM (okL0 m) ((evFn75 m R _ _ k).trans h)
  · exact okT8 m R 75 _ k x h

/-- a round of a loop of hookflash/flashref2.hum -/
def Lp88_3_step {R : Type} (m : Nat) (kx0 : Abs.Rows → Int → Option R) (i69 : Int) (i71 : Int) (REC : Abs.Rows → Int → Option R) (r70 : Abs.Rows) (i72 : Int) : Option R :=
  bif decide (i72 < i71) then (bif i72 == (0 : Int) then (bif decide (List.length r70 + List.length [[F.lit (Value.int IntKind.i64 (0 : Int))]] ≤ rowMax) then (letV (r70 ++ [[F.lit (Value.int IntKind.i64 (0 : Int))]]) (fun r73 => REC r73 (IntKind.wrap IntKind.i64 (i72 + (1 : Int))))) else
  (none)) else
  (bif i72 == (1 : Int) then (bif decide (List.length r70 + List.length [[F.lit (Value.int IntKind.i64 (IntKind.wrap IntKind.i64 (Int.tdiv i69 (8 : Int))))]] ≤ rowMax) then (letV (r70 ++ [[F.lit (Value.int IntKind.i64 (IntKind.wrap IntKind.i64 (Int.tdiv i69 (8 : Int))))]]) (fun r74 => REC r74 (IntKind.wrap IntKind.i64 (i72 + (1 : Int))))) else
  (none)) else
  (bif decide ((0 : Int) ≤ IntKind.wrap IntKind.i64 (i72 - (1 : Int)) ∧ IntKind.wrap IntKind.i64 (i72 - (1 : Int)) < (↑(List.length r70) : Int)) then (Fn75 m (IntKind.wrap IntKind.i64 (i69 * fI r70 (Int.toNat (IntKind.wrap IntKind.i64 (i72 - (1 : Int)))) (0 : Nat))) ((16384 : Int)) (fun i78 => bif decide ((0 : Int) ≤ IntKind.wrap IntKind.i64 (i72 - (2 : Int)) ∧ IntKind.wrap IntKind.i64 (i72 - (2 : Int)) < (↑(List.length r70) : Int)) then (bif decide (List.length r70 + List.length [[F.lit (Value.int IntKind.i64 (IntKind.wrap IntKind.i64 (i78 - fI r70 (Int.toNat (IntKind.wrap IntKind.i64 (i72 - (2 : Int)))) (0 : Nat))))]] ≤ rowMax) then (letV (r70 ++ [[F.lit (Value.int IntKind.i64 (IntKind.wrap IntKind.i64 (i78 - fI r70 (Int.toNat (IntKind.wrap IntKind.i64 (i72 - (2 : Int)))) (0 : Nat))))]]) (fun r79 => REC r79 (IntKind.wrap IntKind.i64 (i72 + (1 : Int))))) else
  (none)) else
  (none))) else
  (none)))) else
  (kx0 r70 i72)
def Lp88_3 {R : Type} (m : Nat) (kx0 : Abs.Rows → Int → Option R) (i69 : Int) (i71 : Int) : Nat → Abs.Rows → Int → Option R
  | 0, _, _ => none
  | n + 1, r70, i72 => Lp88_3_step m kx0 i69 i71 (Lp88_3 m kx0 i69 i71 n) r70 i72
def ELp88_3 (m : Nat) (R : Type) : Nat → List V → (Ex → List V → Option R) → Option R
  | 0, _, _ => none
  | n + 1, vs, k => match vs with
    | [V.f (F.lit (Value.int IntKind.i64 i69)), V.own [LT.int IntKind.i64] r70, V.f (F.lit (Value.int IntKind.i64 i71)), V.f (F.lit (Value.int IntKind.i64 i72)), V.undef, V.undef] => Lp88_3_step m (fun r80 i81 => k (Ex.exit (0 : Nat)) [V.f (F.lit (Value.int IntKind.i64 i69)), V.own [LT.int IntKind.i64] r80, V.f (F.lit (Value.int IntKind.i64 i71)), V.f (F.lit (Value.int IntKind.i64 i81)), V.undef, V.undef]) i69 i71 (fun r70 i72 => ELp88_3 m R n [V.f (F.lit (Value.int IntKind.i64 i69)), V.own [LT.int IntKind.i64] r70, V.f (F.lit (Value.int IntKind.i64 i71)), V.f (F.lit (Value.int IntKind.i64 i72)), V.undef, V.undef] k) r70 i72
    | _ => none
def brLp88_3 (m : Nat) (L : LTbl) (R : Type) (vs : List V) (k : Ex → List V → Option R) : Option R := match vs with
  | [V.f (F.lit (Value.int IntKind.i64 i69)), V.own [LT.int IntKind.i64] r70, V.f (F.lit (Value.int IntKind.i64 i71)), V.f (F.lit (Value.int IntKind.i64 i72)), V.undef, V.undef] => Lp88_3 m (fun r80 i81 => k (Ex.exit (0 : Nat)) [V.f (F.lit (Value.int IntKind.i64 i69)), V.own [LT.int IntKind.i64] r80, V.f (F.lit (Value.int IntKind.i64 i71)), V.f (F.lit (Value.int IntKind.i64 i81)), V.undef, V.undef]) i69 i71 m r70 i72
  | _ => L R 88 3 vs k
set_option maxRecDepth 100000 in
theorem stLp88_3 (m n : Nat) (R : Type) (i69 : Int) (r70 : Abs.Rows) (i71 : Int) (i72 : Int) (k : Ex → List V → Option R) : codeK Try.prog H (T9 m) 88 (L0 m) 4 (loopBody Try.prog 88 3) (mkEnv [0, 5, 7, 8, 43, 44] [V.f (F.lit (Value.int IntKind.i64 i69)), V.own [LT.int IntKind.i64] r70, V.f (F.lit (Value.int IntKind.i64 i71)), V.f (F.lit (Value.int IntKind.i64 i72)), V.undef, V.undef] 0 (H.len 88)) (fun e env' => match e with | .normal => ELp88_3 m R n (vals [0, 5, 7, 8, 43, 44] env') k | e => k e (vals [0, 5, 7, 8, 43, 44] env')) = Lp88_3_step m (fun r80 i81 => k (Ex.exit (0 : Nat)) [V.f (F.lit (Value.int IntKind.i64 i69)), V.own [LT.int IntKind.i64] r80, V.f (F.lit (Value.int IntKind.i64 i71)), V.f (F.lit (Value.int IntKind.i64 i81)), V.undef, V.undef]) i69 i71 (fun r70 i72 => ELp88_3 m R n [V.f (F.lit (Value.int IntKind.i64 i69)), V.own [LT.int IntKind.i64] r70, V.f (F.lit (Value.int IntKind.i64 i71)), V.f (F.lit (Value.int IntKind.i64 i72)), V.undef, V.undef] k) r70 i72 := by kernel_rfl
theorem eqLp88_3 (m : Nat) (R : Type) (i69 : Int) (i71 : Int) (k : Ex → List V → Option R) : ∀ (n : Nat) (r70 : Abs.Rows) (i72 : Int), ELp88_3 m R n [V.f (F.lit (Value.int IntKind.i64 i69)), V.own [LT.int IntKind.i64] r70, V.f (F.lit (Value.int IntKind.i64 i71)), V.f (F.lit (Value.int IntKind.i64 i72)), V.undef, V.undef] k = Lp88_3 m (fun r80 i81 => k (Ex.exit (0 : Nat)) [V.f (F.lit (Value.int IntKind.i64 i69)), V.own [LT.int IntKind.i64] r80, V.f (F.lit (Value.int IntKind.i64 i71)), V.f (F.lit (Value.int IntKind.i64 i81)), V.undef, V.undef]) i69 i71 n r70 i72
  | 0, _, _ => rfl
  | n + 1, r70, i72 => by
    simp only [ELp88_3, Lp88_3]
    congr 1
    funext r70 i72
    exact eqLp88_3 m R i69 i71 k n r70 i72
def L1 (m : Nat) : LTbl := addB 88 3 (brLp88_3 m (L0 m)) (L0 m)
theorem okL1 (m : Nat) : LTOk Try.prog H (L1 m) := addB_ok (okT9 m) hM (okL0 m) (l := [0, 5, 7, 8, 43, 44]) (by kernel_rfl) (by kernel_rfl) m (fun R n vs k => ELp88_3 m R n vs k) (fun R vs k => rfl) (fun R n vs k x h => by
      simp only [ELp88_3] at h
      split at h
      · exact (stLp88_3 m n R _ _ _ _ k).trans h
      · cases h) fun R vs k x h => by
    unfold brLp88_3 at h
    split at h
    · exact .inl ((eqLp88_3 m R _ _ k m _ _).trans h)
    · exact .inr h

/-- hookflash/flashref2.hum -/
def Fn88 {R : Type} (m : Nat) : Int → Int → (Abs.Rows → Option R) → Option R := match m with
  | 0 => fun _ _ _ => none
  | m + 1 => fun i67 i68 k =>
  Lp88_3 m (fun r82 i83 => k r82) i67 i68 m rows0 ((0 : Int))
def brFn88 (m : Nat) (T : Tbl) (R : Type) (vs : List V) (k : V → List V → Option R) : Option R := match vs with
  | [V.f (F.lit (Value.int IntKind.i64 i67)), V.f (F.lit (Value.int IntKind.i64 i68))] => Fn88 m i67 i68 (fun r84 => k (V.own [LT.int IntKind.i64] r84) [V.undef, V.undef])
  | _ => T R 88 vs k
set_option maxRecDepth 100000 in
theorem evFn88 (m : Nat) (R : Type) (i67 : Int) (i68 : Int) (k : V → List V → Option R) : runK Try.prog H (T9 m) (L1 m) 88 [V.f (F.lit (Value.int IntKind.i64 i67)), V.f (F.lit (Value.int IntKind.i64 i68))] k = Fn88 (m + 1) i67 i68 (fun r84 => k (V.own [LT.int IntKind.i64] r84) [V.undef, V.undef]) := by kernel_rfl
def T10 (m : Nat) : Tbl := addT 88 (brFn88 m (T9 m)) (T9 m)
theorem okT10 (m : Nat) : TblOk Try.prog (T10 m) := addT_ok (okT9 m) fun R vs k x h => by
  unfold brFn88 at h
  split at h
  · cases m with
    | zero => cases h
    | succ m => exact runK_some (okT9 m) hM (okL1 m) ((evFn88 m R _ _ k).trans h)
  · exact okT9 m R 88 _ k x h

/-- hookflash/flashref2.columnNumbers -/
def Fn90 {R : Type} (m : Nat) : (Abs.Rows → Option R) → Option R := match m with
  | 0 => fun _ => none
  | m + 1 => fun  k =>
  k ([[F.lit (Value.int IntKind.i64 (19073 : Int))], [F.lit (Value.int IntKind.i64 (16325 : Int))], [F.lit (Value.int IntKind.i64 (13085 : Int))], [F.lit (Value.int IntKind.i64 (9315 : Int))]])
def brFn90 (m : Nat) (T : Tbl) (R : Type) (vs : List V) (k : V → List V → Option R) : Option R := match vs with
  | [] => Fn90 m  (fun r86 => k (V.own [LT.int IntKind.i64] r86) [])
  | _ => T R 90 vs k
set_option maxRecDepth 100000 in
theorem evFn90 (m : Nat) (R : Type)  (k : V → List V → Option R) : runK Try.prog H (T10 m) (L1 m) 90 [] k = Fn90 (m + 1)  (fun r86 => k (V.own [LT.int IntKind.i64] r86) []) := by kernel_rfl
def T11 (m : Nat) : Tbl := addT 90 (brFn90 m (T10 m)) (T10 m)
theorem okT11 (m : Nat) : TblOk Try.prog (T11 m) := addT_ok (okT10 m) fun R vs k x h => by
  unfold brFn90 at h
  split at h
  · cases m with
    | zero => cases h
    | succ m => exact runK_some (okT10 m) hM (okL1 m) ((evFn90 m R k).trans h)
  · exact okT10 m R 90 _ k x h

/-- a round of a loop of hookflash/flashref2.ToneOf -/
def Lp55_7_step {R : Type} (m : Nat) (kx0 : Abs.Rows → Int → Option R) (r90 : Abs.Rows) (i91 : Int) (REC : Abs.Rows → Int → Option R) (r89 : Abs.Rows) (i92 : Int) : Option R :=
  bif decide (i92 < i91) then (bif decide ((0 : Int) ≤ i92 ∧ i92 < (↑(List.length r89) : Int)) then (bif decide ((0 : Int) ≤ i92 ∧ i92 < (↑(List.length r90) : Int)) then (bif decide ((0 : Int) ≤ i92 ∧ i92 < (↑(List.length r89) : Int)) then (REC (stR [LT.int IntKind.i64] r89 (Int.toNat i92) (0 : Nat) [F.lit (Value.int IntKind.i64 (IntKind.wrap IntKind.i64 (fI r89 (Int.toNat i92) (0 : Nat) + fI r90 (Int.toNat i92) (0 : Nat))))]) (IntKind.wrap IntKind.i64 (i92 + (1 : Int)))) else
  (none)) else
  (none)) else
  (none)) else
  (kx0 r89 i92)
def Lp55_7 {R : Type} (m : Nat) (kx0 : Abs.Rows → Int → Option R) (r90 : Abs.Rows) (i91 : Int) : Nat → Abs.Rows → Int → Option R
  | 0, _, _ => none
  | n + 1, r89, i92 => Lp55_7_step m kx0 r90 i91 (Lp55_7 m kx0 r90 i91 n) r89 i92
def ELp55_7 (m : Nat) (R : Type) : Nat → List V → (Ex → List V → Option R) → Option R
  | 0, _, _ => none
  | n + 1, vs, k => match vs with
    | [V.own [LT.int IntKind.i64] r89, V.own [LT.int IntKind.i64] r90, V.undef, V.undef, V.f (F.lit (Value.int IntKind.i64 i91)), V.f (F.lit (Value.int IntKind.i64 i92)), V.undef, V.undef] => Lp55_7_step m (fun r93 i94 => k (Ex.exit (0 : Nat)) [V.own [LT.int IntKind.i64] r93, V.own [LT.int IntKind.i64] r90, V.undef, V.undef, V.f (F.lit (Value.int IntKind.i64 i91)), V.f (F.lit (Value.int IntKind.i64 i94)), V.undef, V.undef]) r90 i91 (fun r89 i92 => ELp55_7 m R n [V.own [LT.int IntKind.i64] r89, V.own [LT.int IntKind.i64] r90, V.undef, V.undef, V.f (F.lit (Value.int IntKind.i64 i91)), V.f (F.lit (Value.int IntKind.i64 i92)), V.undef, V.undef] k) r89 i92
    | _ => none
def brLp55_7 (m : Nat) (L : LTbl) (R : Type) (vs : List V) (k : Ex → List V → Option R) : Option R := match vs with
  | [V.own [LT.int IntKind.i64] r89, V.own [LT.int IntKind.i64] r90, V.undef, V.undef, V.f (F.lit (Value.int IntKind.i64 i91)), V.f (F.lit (Value.int IntKind.i64 i92)), V.undef, V.undef] => Lp55_7 m (fun r93 i94 => k (Ex.exit (0 : Nat)) [V.own [LT.int IntKind.i64] r93, V.own [LT.int IntKind.i64] r90, V.undef, V.undef, V.f (F.lit (Value.int IntKind.i64 i91)), V.f (F.lit (Value.int IntKind.i64 i94)), V.undef, V.undef]) r90 i91 m r89 i92
  | _ => L R 55 7 vs k
set_option maxRecDepth 100000 in
theorem stLp55_7 (m n : Nat) (R : Type) (r89 : Abs.Rows) (r90 : Abs.Rows) (i91 : Int) (i92 : Int) (k : Ex → List V → Option R) : codeK Try.prog H (T11 m) 55 (L1 m) 8 (loopBody Try.prog 55 7) (mkEnv [7, 8, 20, 27, 29, 30, 45, 46] [V.own [LT.int IntKind.i64] r89, V.own [LT.int IntKind.i64] r90, V.undef, V.undef, V.f (F.lit (Value.int IntKind.i64 i91)), V.f (F.lit (Value.int IntKind.i64 i92)), V.undef, V.undef] 0 (H.len 55)) (fun e env' => match e with | .normal => ELp55_7 m R n (vals [7, 8, 20, 27, 29, 30, 45, 46] env') k | e => k e (vals [7, 8, 20, 27, 29, 30, 45, 46] env')) = Lp55_7_step m (fun r93 i94 => k (Ex.exit (0 : Nat)) [V.own [LT.int IntKind.i64] r93, V.own [LT.int IntKind.i64] r90, V.undef, V.undef, V.f (F.lit (Value.int IntKind.i64 i91)), V.f (F.lit (Value.int IntKind.i64 i94)), V.undef, V.undef]) r90 i91 (fun r89 i92 => ELp55_7 m R n [V.own [LT.int IntKind.i64] r89, V.own [LT.int IntKind.i64] r90, V.undef, V.undef, V.f (F.lit (Value.int IntKind.i64 i91)), V.f (F.lit (Value.int IntKind.i64 i92)), V.undef, V.undef] k) r89 i92 := by kernel_rfl
theorem eqLp55_7 (m : Nat) (R : Type) (r90 : Abs.Rows) (i91 : Int) (k : Ex → List V → Option R) : ∀ (n : Nat) (r89 : Abs.Rows) (i92 : Int), ELp55_7 m R n [V.own [LT.int IntKind.i64] r89, V.own [LT.int IntKind.i64] r90, V.undef, V.undef, V.f (F.lit (Value.int IntKind.i64 i91)), V.f (F.lit (Value.int IntKind.i64 i92)), V.undef, V.undef] k = Lp55_7 m (fun r93 i94 => k (Ex.exit (0 : Nat)) [V.own [LT.int IntKind.i64] r93, V.own [LT.int IntKind.i64] r90, V.undef, V.undef, V.f (F.lit (Value.int IntKind.i64 i91)), V.f (F.lit (Value.int IntKind.i64 i94)), V.undef, V.undef]) r90 i91 n r89 i92
  | 0, _, _ => rfl
  | n + 1, r89, i92 => by
    simp only [ELp55_7, Lp55_7]
    congr 1
    funext r89 i92
    exact eqLp55_7 m R r90 i91 k n r89 i92
def L2 (m : Nat) : LTbl := addB 55 7 (brLp55_7 m (L1 m)) (L1 m)
theorem okL2 (m : Nat) : LTOk Try.prog H (L2 m) := addB_ok (okT11 m) hM (okL1 m) (l := [7, 8, 20, 27, 29, 30, 45, 46]) (by kernel_rfl) (by kernel_rfl) m (fun R n vs k => ELp55_7 m R n vs k) (fun R vs k => rfl) (fun R n vs k x h => by
      simp only [ELp55_7] at h
      split at h
      · exact (stLp55_7 m n R _ _ _ _ k).trans h
      · cases h) fun R vs k x h => by
    unfold brLp55_7 at h
    split at h
    · exact .inl ((eqLp55_7 m R _ _ k m _ _).trans h)
    · exact .inr h

/-- hookflash/flashref2.ToneOf -/
def Fn55 {R : Type} (m : Nat) : Int → Int → (Abs.Rows → Bool → Option R) → Option R := match m with
  | 0 => fun _ _ _ => none
  | m + 1 => fun i55 i56 k =>
  Fn87 m ({ data := #[(49 : UInt8), (50 : UInt8), (51 : UInt8), (65 : UInt8), (52 : UInt8), (53 : UInt8), (54 : UInt8), (66 : UInt8), (55 : UInt8), (56 : UInt8), (57 : UInt8), (67 : UInt8), (42 : UInt8), (48 : UInt8), (35 : UInt8), (68 : UInt8)] }) i55 (fun i64 => bif decide (i64 < (0 : Int)) then (k rows0 false) else
  (Fn89 m  (fun r66 => bif decide ((0 : Int) ≤ IntKind.wrap IntKind.i64 (Int.tdiv i64 (4 : Int)) ∧ IntKind.wrap IntKind.i64 (Int.tdiv i64 (4 : Int)) < (↑(List.length r66) : Int)) then (Fn88 m (fI r66 (Int.toNat (IntKind.wrap IntKind.i64 (Int.tdiv i64 (4 : Int)))) (0 : Nat)) i56 (fun r85 => Fn90 m  (fun r87 => bif decide ((0 : Int) ≤ Int.tmod i64 (4 : Int) ∧ Int.tmod i64 (4 : Int) < (↑(List.length r87) : Int)) then (Fn88 m (fI r87 (Int.toNat (Int.tmod i64 (4 : Int))) (0 : Nat)) i56 (fun r88 => Lp55_7 m (fun r95 i96 => k r95 true) r88 ((↑(List.length r85) : Int)) m r85 ((0 : Int)))) else
  (none)))) else
  (none))))
def brFn55 (m : Nat) (T : Tbl) (R : Type) (vs : List V) (k : V → List V → Option R) : Option R := match vs with
  | [V.f (F.lit (Value.int IntKind.u8 i55)), V.f (F.lit (Value.int IntKind.i64 i56))] => Fn55 m i55 i56 (fun r97 b98 => k (V.tup [V.f (F.lst [LT.int IntKind.i64] r97), V.f (F.lit (Value.bool b98))]) [V.undef, V.undef])
  | _ => T R 55 vs k
set_option maxRecDepth 100000 in
theorem evFn55 (m : Nat) (R : Type) (i55 : Int) (i56 : Int) (k : V → List V → Option R) : runK Try.prog H (T11 m) (L2 m) 55 [V.f (F.lit (Value.int IntKind.u8 i55)), V.f (F.lit (Value.int IntKind.i64 i56))] k = Fn55 (m + 1) i55 i56 (fun r97 b98 => k (V.tup [V.own [LT.int IntKind.i64] r97, V.f (F.lit (Value.bool b98))]) [V.undef, V.undef]) := by kernel_rfl
def T12 (m : Nat) : Tbl := addT 55 (brFn55 m (T11 m)) (T11 m)
theorem okT12 (m : Nat) : TblOk Try.prog (T12 m) := addT_ok (okT11 m) fun R vs k x h => by
  unfold brFn55 at h
  split at h
  · cases m with
    | zero => cases h
    | succ m => exact runK_frz (okT11 m) hM (okL2 m) ((evFn55 m R _ _ (freezeK 2 k)).trans h)
  · exact okT11 m R 55 _ k x h

/-- hookflash/flashref2.cut -/
def Fn77 {R : Type} (m : Nat) : Int → (Int → Option R) → Option R := match m with
  | 0 => fun _ _ => none
  | m + 1 => fun i112 k =>
  k (if (32767 : Int) < if (-32768 : Int) > i112 then (-32768 : Int) else i112 then (32767 : Int) else if (-32768 : Int) > i112 then (-32768 : Int) else i112)
def brFn77 (m : Nat) (T : Tbl) (R : Type) (vs : List V) (k : V → List V → Option R) : Option R := match vs with
  | [V.f (F.lit (Value.int IntKind.i64 i112))] => Fn77 m i112 (fun i113 => k (V.f (F.lit (Value.int IntKind.i64 i113))) [V.undef])
  | _ => T R 77 vs k
set_option maxRecDepth 100000 in
theorem evFn77 (m : Nat) (R : Type) (i112 : Int) (k : V → List V → Option R) : runK Try.prog H (T12 m) (L2 m) 77 [V.f (F.lit (Value.int IntKind.i64 i112))] k = Fn77 (m + 1) i112 (fun i113 => k (V.f (F.lit (Value.int IntKind.i64 i113))) [V.undef]) := by kernel_rfl
def T13 (m : Nat) : Tbl := addT 77 (brFn77 m (T12 m)) (T12 m)
theorem okT13 (m : Nat) : TblOk Try.prog (T13 m) := addT_ok (okT12 m) fun R vs k x h => by
  unfold brFn77 at h
  split at h
  · cases m with
    | zero => cases h
    | succ m => exact runK_some (okT12 m) hM (okL2 m) ((evFn77 m R _ k).trans h)
  · exact okT12 m R 77 _ k x h

/-- a round of a loop of hookflash/flashref2.LouderOf -/
def Lp44_3_step {R : Type} (m : Nat) (kx0 : Abs.Rows → Int → Option R) (r105 : Abs.Rows) (i106 : Int) (r108 : Abs.Rows) (i109 : Int) (REC : Abs.Rows → Int → Option R) (r107 : Abs.Rows) (i110 : Int) : Option R :=
  bif decide (i110 < i109) then (bif decide ((0 : Int) ≤ i110 ∧ i110 < (↑(List.length r108) : Int)) then (Fn75 m (IntKind.wrap IntKind.i64 (fI r108 (Int.toNat i110) (0 : Nat) * i106)) ((256 : Int)) (fun i111 => Fn77 m i111 (fun i114 => bif decide (List.length r107 + List.length [[F.lit (Value.int IntKind.i64 i114)]] ≤ rowMax) then (letV (r107 ++ [[F.lit (Value.int IntKind.i64 i114)]]) (fun r115 => REC r115 (IntKind.wrap IntKind.i64 (i110 + (1 : Int))))) else
  (none)))) else
  (none)) else
  (kx0 r107 i110)
def Lp44_3 {R : Type} (m : Nat) (kx0 : Abs.Rows → Int → Option R) (r105 : Abs.Rows) (i106 : Int) (r108 : Abs.Rows) (i109 : Int) : Nat → Abs.Rows → Int → Option R
  | 0, _, _ => none
  | n + 1, r107, i110 => Lp44_3_step m kx0 r105 i106 r108 i109 (Lp44_3 m kx0 r105 i106 r108 i109 n) r107 i110
def ELp44_3 (m : Nat) (R : Type) : Nat → List V → (Ex → List V → Option R) → Option R
  | 0, _, _ => none
  | n + 1, vs, k => match vs with
    | [V.f (F.lst [LT.int IntKind.i64] r105), V.f (F.lit (Value.int IntKind.i64 i106)), V.own [LT.int IntKind.i64] r107, V.f (F.lst [LT.int IntKind.i64] r108), V.f (F.lit (Value.int IntKind.i64 i109)), V.f (F.lit (Value.int IntKind.i64 i110)), V.undef, V.undef] => Lp44_3_step m (fun r116 i117 => k (Ex.exit (0 : Nat)) [V.f (F.lst [LT.int IntKind.i64] r105), V.f (F.lit (Value.int IntKind.i64 i106)), V.own [LT.int IntKind.i64] r116, V.f (F.lst [LT.int IntKind.i64] r108), V.f (F.lit (Value.int IntKind.i64 i109)), V.f (F.lit (Value.int IntKind.i64 i117)), V.undef, V.undef]) r105 i106 r108 i109 (fun r107 i110 => ELp44_3 m R n [V.f (F.lst [LT.int IntKind.i64] r105), V.f (F.lit (Value.int IntKind.i64 i106)), V.own [LT.int IntKind.i64] r107, V.f (F.lst [LT.int IntKind.i64] r108), V.f (F.lit (Value.int IntKind.i64 i109)), V.f (F.lit (Value.int IntKind.i64 i110)), V.undef, V.undef] k) r107 i110
    | _ => none
def brLp44_3 (m : Nat) (L : LTbl) (R : Type) (vs : List V) (k : Ex → List V → Option R) : Option R := match vs with
  | [V.f (F.lst [LT.int IntKind.i64] r105), V.f (F.lit (Value.int IntKind.i64 i106)), V.own [LT.int IntKind.i64] r107, V.f (F.lst [LT.int IntKind.i64] r108), V.f (F.lit (Value.int IntKind.i64 i109)), V.f (F.lit (Value.int IntKind.i64 i110)), V.undef, V.undef] => Lp44_3 m (fun r116 i117 => k (Ex.exit (0 : Nat)) [V.f (F.lst [LT.int IntKind.i64] r105), V.f (F.lit (Value.int IntKind.i64 i106)), V.own [LT.int IntKind.i64] r116, V.f (F.lst [LT.int IntKind.i64] r108), V.f (F.lit (Value.int IntKind.i64 i109)), V.f (F.lit (Value.int IntKind.i64 i117)), V.undef, V.undef]) r105 i106 r108 i109 m r107 i110
  | _ => L R 44 3 vs k
set_option maxRecDepth 100000 in
theorem stLp44_3 (m n : Nat) (R : Type) (r105 : Abs.Rows) (i106 : Int) (r107 : Abs.Rows) (r108 : Abs.Rows) (i109 : Int) (i110 : Int) (k : Ex → List V → Option R) : codeK Try.prog H (T13 m) 44 (L2 m) 4 (loopBody Try.prog 44 3) (mkEnv [0, 1, 5, 8, 9, 10, 24, 25] [V.f (F.lst [LT.int IntKind.i64] r105), V.f (F.lit (Value.int IntKind.i64 i106)), V.own [LT.int IntKind.i64] r107, V.f (F.lst [LT.int IntKind.i64] r108), V.f (F.lit (Value.int IntKind.i64 i109)), V.f (F.lit (Value.int IntKind.i64 i110)), V.undef, V.undef] 0 (H.len 44)) (fun e env' => match e with | .normal => ELp44_3 m R n (vals [0, 1, 5, 8, 9, 10, 24, 25] env') k | e => k e (vals [0, 1, 5, 8, 9, 10, 24, 25] env')) = Lp44_3_step m (fun r116 i117 => k (Ex.exit (0 : Nat)) [V.f (F.lst [LT.int IntKind.i64] r105), V.f (F.lit (Value.int IntKind.i64 i106)), V.own [LT.int IntKind.i64] r116, V.f (F.lst [LT.int IntKind.i64] r108), V.f (F.lit (Value.int IntKind.i64 i109)), V.f (F.lit (Value.int IntKind.i64 i117)), V.undef, V.undef]) r105 i106 r108 i109 (fun r107 i110 => ELp44_3 m R n [V.f (F.lst [LT.int IntKind.i64] r105), V.f (F.lit (Value.int IntKind.i64 i106)), V.own [LT.int IntKind.i64] r107, V.f (F.lst [LT.int IntKind.i64] r108), V.f (F.lit (Value.int IntKind.i64 i109)), V.f (F.lit (Value.int IntKind.i64 i110)), V.undef, V.undef] k) r107 i110 := by kernel_rfl
theorem eqLp44_3 (m : Nat) (R : Type) (r105 : Abs.Rows) (i106 : Int) (r108 : Abs.Rows) (i109 : Int) (k : Ex → List V → Option R) : ∀ (n : Nat) (r107 : Abs.Rows) (i110 : Int), ELp44_3 m R n [V.f (F.lst [LT.int IntKind.i64] r105), V.f (F.lit (Value.int IntKind.i64 i106)), V.own [LT.int IntKind.i64] r107, V.f (F.lst [LT.int IntKind.i64] r108), V.f (F.lit (Value.int IntKind.i64 i109)), V.f (F.lit (Value.int IntKind.i64 i110)), V.undef, V.undef] k = Lp44_3 m (fun r116 i117 => k (Ex.exit (0 : Nat)) [V.f (F.lst [LT.int IntKind.i64] r105), V.f (F.lit (Value.int IntKind.i64 i106)), V.own [LT.int IntKind.i64] r116, V.f (F.lst [LT.int IntKind.i64] r108), V.f (F.lit (Value.int IntKind.i64 i109)), V.f (F.lit (Value.int IntKind.i64 i117)), V.undef, V.undef]) r105 i106 r108 i109 n r107 i110
  | 0, _, _ => rfl
  | n + 1, r107, i110 => by
    simp only [ELp44_3, Lp44_3]
    congr 1
    funext r107 i110
    exact eqLp44_3 m R r105 i106 r108 i109 k n r107 i110
def L3 (m : Nat) : LTbl := addB 44 3 (brLp44_3 m (L2 m)) (L2 m)
theorem okL3 (m : Nat) : LTOk Try.prog H (L3 m) := addB_ok (okT13 m) hM (okL2 m) (l := [0, 1, 5, 8, 9, 10, 24, 25]) (by kernel_rfl) (by kernel_rfl) m (fun R n vs k => ELp44_3 m R n vs k) (fun R vs k => rfl) (fun R n vs k x h => by
      simp only [ELp44_3] at h
      split at h
      · exact (stLp44_3 m n R _ _ _ _ _ _ k).trans h
      · cases h) fun R vs k x h => by
    unfold brLp44_3 at h
    split at h
    · exact .inl ((eqLp44_3 m R _ _ _ _ k m _ _).trans h)
    · exact .inr h

/-- hookflash/flashref2.LouderOf -/
def Fn44 {R : Type} (m : Nat) : Abs.Rows → Int → (Abs.Rows → Option R) → Option R := match m with
  | 0 => fun _ _ _ => none
  | m + 1 => fun r103 i104 k =>
  Lp44_3 m (fun r118 i119 => k r118) r103 i104 r103 ((↑(List.length r103) : Int)) m rows0 ((0 : Int))
def brFn44 (m : Nat) (T : Tbl) (R : Type) (vs : List V) (k : V → List V → Option R) : Option R := match vs with
  | [V.f (F.lst [LT.int IntKind.i64] r103), V.f (F.lit (Value.int IntKind.i64 i104))] => Fn44 m r103 i104 (fun r120 => k (V.own [LT.int IntKind.i64] r120) [V.undef, V.undef])
  | _ => T R 44 vs k
set_option maxRecDepth 100000 in
theorem evFn44 (m : Nat) (R : Type) (r103 : Abs.Rows) (i104 : Int) (k : V → List V → Option R) : runK Try.prog H (T13 m) (L3 m) 44 [V.f (F.lst [LT.int IntKind.i64] r103), V.f (F.lit (Value.int IntKind.i64 i104))] k = Fn44 (m + 1) r103 i104 (fun r120 => k (V.own [LT.int IntKind.i64] r120) [V.undef, V.undef]) := by kernel_rfl
def T14 (m : Nat) : Tbl := addT 44 (brFn44 m (T13 m)) (T13 m)
theorem okT14 (m : Nat) : TblOk Try.prog (T14 m) := addT_ok (okT13 m) fun R vs k x h => by
  unfold brFn44 at h
  split at h
  · cases m with
    | zero => cases h
    | succ m => exact runK_some (okT13 m) hM (okL3 m) ((evFn44 m R _ _ k).trans h)
  · exact okT13 m R 44 _ k x h

/-- a round of a loop of (*hookflash/flashmake.Stream).Noise -/
def Lp53_13_step {R : Type} (m : Nat) (kx0 : Abs.Rows → Int → Int → Option R) (i133 : Int) (i134 : Int) (i135 : Int) (i136 : Int) (r138 : Abs.Rows) (i139 : Int) (REC : Abs.Rows → Int → Int → Option R) (r131 : Abs.Rows) (i132 : Int) (i137 : Int) : Option R :=
  bif decide (i137 < i136) then (bif decide (List.length r131 + List.length [[F.lit (Value.int IntKind.i64 (IntKind.wrap IntKind.i64 (Int.tmod (IntKind.wrap IntKind.i64 (IntKind.wrap IntKind.i64 (i132 * i133) + (17 : Int))) (6007 : Int) - (3000 : Int))))]] ≤ rowMax) then (letV (r131 ++ [[F.lit (Value.int IntKind.i64 (IntKind.wrap IntKind.i64 (Int.tmod (IntKind.wrap IntKind.i64 (IntKind.wrap IntKind.i64 (i132 * i133) + (17 : Int))) (6007 : Int) - (3000 : Int))))]]) (fun r140 => REC r140 (Int.tmod (IntKind.wrap IntKind.i64 (IntKind.wrap IntKind.i64 (i132 * i133) + (17 : Int))) (6007 : Int)) (IntKind.wrap IntKind.i64 (i137 + (1 : Int))))) else
  (none)) else
  (kx0 r131 i132 i137)
def Lp53_13 {R : Type} (m : Nat) (kx0 : Abs.Rows → Int → Int → Option R) (i133 : Int) (i134 : Int) (i135 : Int) (i136 : Int) (r138 : Abs.Rows) (i139 : Int) : Nat → Abs.Rows → Int → Int → Option R
  | 0, _, _, _ => none
  | n + 1, r131, i132, i137 => Lp53_13_step m kx0 i133 i134 i135 i136 r138 i139 (Lp53_13 m kx0 i133 i134 i135 i136 r138 i139 n) r131 i132 i137
def ELp53_13 (m : Nat) (R : Type) : Nat → List V → (Ex → List V → Option R) → Option R
  | 0, _, _ => none
  | n + 1, vs, k => match vs with
    | [V.ref (84 : Nat) (0 : Nat), V.own [LT.int IntKind.i64] r131, V.f (F.lit (Value.int IntKind.i64 i132)), V.f (F.lit (Value.int IntKind.i64 i133)), V.f (F.lit (Value.int IntKind.i64 i134)), V.f (F.lit (Value.int IntKind.i64 i135)), V.f (F.lit (Value.int IntKind.i64 i136)), V.f (F.lit (Value.int IntKind.i64 i137)), V.obj [V.f (F.lst [LT.int IntKind.i64] r138), V.f (F.lit (Value.int IntKind.i64 i139))]] => Lp53_13_step m (fun r141 i142 i143 => k (Ex.exit (3 : Nat)) [V.ref (84 : Nat) (0 : Nat), V.own [LT.int IntKind.i64] r141, V.f (F.lit (Value.int IntKind.i64 i142)), V.f (F.lit (Value.int IntKind.i64 i133)), V.f (F.lit (Value.int IntKind.i64 i134)), V.f (F.lit (Value.int IntKind.i64 i135)), V.f (F.lit (Value.int IntKind.i64 i136)), V.f (F.lit (Value.int IntKind.i64 i143)), V.obj [V.f (F.lst [LT.int IntKind.i64] r138), V.f (F.lit (Value.int IntKind.i64 i139))]]) i133 i134 i135 i136 r138 i139 (fun r131 i132 i137 => ELp53_13 m R n [V.ref (84 : Nat) (0 : Nat), V.own [LT.int IntKind.i64] r131, V.f (F.lit (Value.int IntKind.i64 i132)), V.f (F.lit (Value.int IntKind.i64 i133)), V.f (F.lit (Value.int IntKind.i64 i134)), V.f (F.lit (Value.int IntKind.i64 i135)), V.f (F.lit (Value.int IntKind.i64 i136)), V.f (F.lit (Value.int IntKind.i64 i137)), V.obj [V.f (F.lst [LT.int IntKind.i64] r138), V.f (F.lit (Value.int IntKind.i64 i139))]] k) r131 i132 i137
    | _ => none
def brLp53_13 (m : Nat) (L : LTbl) (R : Type) (vs : List V) (k : Ex → List V → Option R) : Option R := match vs with
  | [V.ref (84 : Nat) (0 : Nat), V.own [LT.int IntKind.i64] r131, V.f (F.lit (Value.int IntKind.i64 i132)), V.f (F.lit (Value.int IntKind.i64 i133)), V.f (F.lit (Value.int IntKind.i64 i134)), V.f (F.lit (Value.int IntKind.i64 i135)), V.f (F.lit (Value.int IntKind.i64 i136)), V.f (F.lit (Value.int IntKind.i64 i137)), V.obj [V.f (F.lst [LT.int IntKind.i64] r138), V.f (F.lit (Value.int IntKind.i64 i139))]] => Lp53_13 m (fun r141 i142 i143 => k (Ex.exit (3 : Nat)) [V.ref (84 : Nat) (0 : Nat), V.own [LT.int IntKind.i64] r141, V.f (F.lit (Value.int IntKind.i64 i142)), V.f (F.lit (Value.int IntKind.i64 i133)), V.f (F.lit (Value.int IntKind.i64 i134)), V.f (F.lit (Value.int IntKind.i64 i135)), V.f (F.lit (Value.int IntKind.i64 i136)), V.f (F.lit (Value.int IntKind.i64 i143)), V.obj [V.f (F.lst [LT.int IntKind.i64] r138), V.f (F.lit (Value.int IntKind.i64 i139))]]) i133 i134 i135 i136 r138 i139 m r131 i132 i137
  | _ => L R 53 13 vs k
set_option maxRecDepth 100000 in
theorem stLp53_13 (m n : Nat) (R : Type) (r131 : Abs.Rows) (i132 : Int) (i133 : Int) (i134 : Int) (i135 : Int) (i136 : Int) (i137 : Int) (r138 : Abs.Rows) (i139 : Int) (k : Ex → List V → Option R) : codeK Try.prog H (T14 m) 53 (L3 m) 14 (loopBody Try.prog 53 13) (mkEnv [0, 3, 6, 7, 13, 14, 68, 69, 84] [V.ref (84 : Nat) (0 : Nat), V.own [LT.int IntKind.i64] r131, V.f (F.lit (Value.int IntKind.i64 i132)), V.f (F.lit (Value.int IntKind.i64 i133)), V.f (F.lit (Value.int IntKind.i64 i134)), V.f (F.lit (Value.int IntKind.i64 i135)), V.f (F.lit (Value.int IntKind.i64 i136)), V.f (F.lit (Value.int IntKind.i64 i137)), V.obj [V.f (F.lst [LT.int IntKind.i64] r138), V.f (F.lit (Value.int IntKind.i64 i139))]] 0 (H.len 53)) (fun e env' => match e with | .normal => ELp53_13 m R n (vals [0, 3, 6, 7, 13, 14, 68, 69, 84] env') k | e => k e (vals [0, 3, 6, 7, 13, 14, 68, 69, 84] env')) = Lp53_13_step m (fun r141 i142 i143 => k (Ex.exit (3 : Nat)) [V.ref (84 : Nat) (0 : Nat), V.own [LT.int IntKind.i64] r141, V.f (F.lit (Value.int IntKind.i64 i142)), V.f (F.lit (Value.int IntKind.i64 i133)), V.f (F.lit (Value.int IntKind.i64 i134)), V.f (F.lit (Value.int IntKind.i64 i135)), V.f (F.lit (Value.int IntKind.i64 i136)), V.f (F.lit (Value.int IntKind.i64 i143)), V.obj [V.f (F.lst [LT.int IntKind.i64] r138), V.f (F.lit (Value.int IntKind.i64 i139))]]) i133 i134 i135 i136 r138 i139 (fun r131 i132 i137 => ELp53_13 m R n [V.ref (84 : Nat) (0 : Nat), V.own [LT.int IntKind.i64] r131, V.f (F.lit (Value.int IntKind.i64 i132)), V.f (F.lit (Value.int IntKind.i64 i133)), V.f (F.lit (Value.int IntKind.i64 i134)), V.f (F.lit (Value.int IntKind.i64 i135)), V.f (F.lit (Value.int IntKind.i64 i136)), V.f (F.lit (Value.int IntKind.i64 i137)), V.obj [V.f (F.lst [LT.int IntKind.i64] r138), V.f (F.lit (Value.int IntKind.i64 i139))]] k) r131 i132 i137 := by kernel_rfl
theorem eqLp53_13 (m : Nat) (R : Type) (i133 : Int) (i134 : Int) (i135 : Int) (i136 : Int) (r138 : Abs.Rows) (i139 : Int) (k : Ex → List V → Option R) : ∀ (n : Nat) (r131 : Abs.Rows) (i132 : Int) (i137 : Int), ELp53_13 m R n [V.ref (84 : Nat) (0 : Nat), V.own [LT.int IntKind.i64] r131, V.f (F.lit (Value.int IntKind.i64 i132)), V.f (F.lit (Value.int IntKind.i64 i133)), V.f (F.lit (Value.int IntKind.i64 i134)), V.f (F.lit (Value.int IntKind.i64 i135)), V.f (F.lit (Value.int IntKind.i64 i136)), V.f (F.lit (Value.int IntKind.i64 i137)), V.obj [V.f (F.lst [LT.int IntKind.i64] r138), V.f (F.lit (Value.int IntKind.i64 i139))]] k = Lp53_13 m (fun r141 i142 i143 => k (Ex.exit (3 : Nat)) [V.ref (84 : Nat) (0 : Nat), V.own [LT.int IntKind.i64] r141, V.f (F.lit (Value.int IntKind.i64 i142)), V.f (F.lit (Value.int IntKind.i64 i133)), V.f (F.lit (Value.int IntKind.i64 i134)), V.f (F.lit (Value.int IntKind.i64 i135)), V.f (F.lit (Value.int IntKind.i64 i136)), V.f (F.lit (Value.int IntKind.i64 i143)), V.obj [V.f (F.lst [LT.int IntKind.i64] r138), V.f (F.lit (Value.int IntKind.i64 i139))]]) i133 i134 i135 i136 r138 i139 n r131 i132 i137
  | 0, _, _, _ => rfl
  | n + 1, r131, i132, i137 => by
    simp only [ELp53_13, Lp53_13]
    congr 1
    funext r131 i132 i137
    exact eqLp53_13 m R i133 i134 i135 i136 r138 i139 k n r131 i132 i137
def L4 (m : Nat) : LTbl := addB 53 13 (brLp53_13 m (L3 m)) (L3 m)
theorem okL4 (m : Nat) : LTOk Try.prog H (L4 m) := addB_ok (okT14 m) hM (okL3 m) (l := [0, 3, 6, 7, 13, 14, 68, 69, 84]) (by kernel_rfl) (by kernel_rfl) m (fun R n vs k => ELp53_13 m R n vs k) (fun R vs k => rfl) (fun R n vs k x h => by
      simp only [ELp53_13] at h
      split at h
      · exact (stLp53_13 m n R _ _ _ _ _ _ _ _ _ k).trans h
      · cases h) fun R vs k x h => by
    unfold brLp53_13 at h
    split at h
    · exact .inl ((eqLp53_13 m R _ _ _ _ _ _ k m _ _ _).trans h)
    · exact .inr h

/-- a round of a loop of hookflash/flashref2.MixOf -/
def Lp43_7_step {R : Type} (m : Nat) (kx0 : Abs.Rows → Option R) (r159 : Abs.Rows) (r161 : Abs.Rows) (r162 : Abs.Rows) (i163 : Int) (i164 : Int) (r165 : Abs.Rows) (n166 : Nat) (r167 : Abs.Rows) (REC : Abs.Rows → Option R) (r160 : Abs.Rows) : Option R :=
  bif decide ((↑(List.length r160) : Int) < (↑(List.length r161) : Int)) then (bif decide (List.length r160 + List.length [[F.lit (Value.int IntKind.i64 (0 : Int))]] ≤ rowMax) then (letV (r160 ++ [[F.lit (Value.int IntKind.i64 (0 : Int))]]) (fun r168 => REC r168)) else
  (none)) else
  (kx0 r160)
def Lp43_7 {R : Type} (m : Nat) (kx0 : Abs.Rows → Option R) (r159 : Abs.Rows) (r161 : Abs.Rows) (r162 : Abs.Rows) (i163 : Int) (i164 : Int) (r165 : Abs.Rows) (n166 : Nat) (r167 : Abs.Rows) : Nat → Abs.Rows → Option R
  | 0, _ => none
  | n + 1, r160 => Lp43_7_step m kx0 r159 r161 r162 i163 i164 r165 n166 r167 (Lp43_7 m kx0 r159 r161 r162 i163 i164 r165 n166 r167 n) r160
def ELp43_7 (m : Nat) (R : Type) : Nat → List V → (Ex → List V → Option R) → Option R
  | 0, _, _ => none
  | n + 1, vs, k => match vs with
    | [V.bor [LT.lst [LT.int IntKind.i64]] r159, V.own [LT.int IntKind.i64] r160, V.f (F.lst [LT.int IntKind.i64] r161), V.bor [LT.lst [LT.int IntKind.i64]] r162, V.f (F.lit (Value.int IntKind.i64 i163)), V.f (F.lit (Value.int IntKind.i64 i164)), V.iref [LT.lst [LT.int IntKind.i64]] r165 n166 (0 : Nat), V.f (F.lst [LT.int IntKind.i64] r167), V.undef] => Lp43_7_step m (fun r169 => k (Ex.exit (2 : Nat)) [V.bor [LT.lst [LT.int IntKind.i64]] r159, V.own [LT.int IntKind.i64] r169, V.f (F.lst [LT.int IntKind.i64] r161), V.bor [LT.lst [LT.int IntKind.i64]] r162, V.f (F.lit (Value.int IntKind.i64 i163)), V.f (F.lit (Value.int IntKind.i64 i164)), V.iref [LT.lst [LT.int IntKind.i64]] r165 n166 (0 : Nat), V.f (F.lst [LT.int IntKind.i64] r167), V.undef]) r159 r161 r162 i163 i164 r165 n166 r167 (fun r160 => ELp43_7 m R n [V.bor [LT.lst [LT.int IntKind.i64]] r159, V.own [LT.int IntKind.i64] r160, V.f (F.lst [LT.int IntKind.i64] r161), V.bor [LT.lst [LT.int IntKind.i64]] r162, V.f (F.lit (Value.int IntKind.i64 i163)), V.f (F.lit (Value.int IntKind.i64 i164)), V.iref [LT.lst [LT.int IntKind.i64]] r165 n166 (0 : Nat), V.f (F.lst [LT.int IntKind.i64] r167), V.undef] k) r160
    | _ => none
def brLp43_7 (m : Nat) (L : LTbl) (R : Type) (vs : List V) (k : Ex → List V → Option R) : Option R := match vs with
  | [V.bor [LT.lst [LT.int IntKind.i64]] r159, V.own [LT.int IntKind.i64] r160, V.f (F.lst [LT.int IntKind.i64] r161), V.bor [LT.lst [LT.int IntKind.i64]] r162, V.f (F.lit (Value.int IntKind.i64 i163)), V.f (F.lit (Value.int IntKind.i64 i164)), V.iref [LT.lst [LT.int IntKind.i64]] r165 n166 (0 : Nat), V.f (F.lst [LT.int IntKind.i64] r167), V.undef] => Lp43_7 m (fun r169 => k (Ex.exit (2 : Nat)) [V.bor [LT.lst [LT.int IntKind.i64]] r159, V.own [LT.int IntKind.i64] r169, V.f (F.lst [LT.int IntKind.i64] r161), V.bor [LT.lst [LT.int IntKind.i64]] r162, V.f (F.lit (Value.int IntKind.i64 i163)), V.f (F.lit (Value.int IntKind.i64 i164)), V.iref [LT.lst [LT.int IntKind.i64]] r165 n166 (0 : Nat), V.f (F.lst [LT.int IntKind.i64] r167), V.undef]) r159 r161 r162 i163 i164 r165 n166 r167 m r160
  | _ => L R 43 7 vs k
set_option maxRecDepth 100000 in
theorem stLp43_7 (m n : Nat) (R : Type) (r159 : Abs.Rows) (r160 : Abs.Rows) (r161 : Abs.Rows) (r162 : Abs.Rows) (i163 : Int) (i164 : Int) (r165 : Abs.Rows) (n166 : Nat) (r167 : Abs.Rows) (k : Ex → List V → Option R) : codeK Try.prog H (T14 m) 43 (L4 m) 8 (loopBody Try.prog 43 7) (mkEnv [0, 3, 5, 9, 10, 11, 13, 14, 54] [V.bor [LT.lst [LT.int IntKind.i64]] r159, V.own [LT.int IntKind.i64] r160, V.f (F.lst [LT.int IntKind.i64] r161), V.bor [LT.lst [LT.int IntKind.i64]] r162, V.f (F.lit (Value.int IntKind.i64 i163)), V.f (F.lit (Value.int IntKind.i64 i164)), V.iref [LT.lst [LT.int IntKind.i64]] r165 n166 (0 : Nat), V.f (F.lst [LT.int IntKind.i64] r167), V.undef] 0 (H.len 43)) (fun e env' => match e with | .normal => ELp43_7 m R n (vals [0, 3, 5, 9, 10, 11, 13, 14, 54] env') k | e => k e (vals [0, 3, 5, 9, 10, 11, 13, 14, 54] env')) = Lp43_7_step m (fun r169 => k (Ex.exit (2 : Nat)) [V.bor [LT.lst [LT.int IntKind.i64]] r159, V.own [LT.int IntKind.i64] r169, V.f (F.lst [LT.int IntKind.i64] r161), V.bor [LT.lst [LT.int IntKind.i64]] r162, V.f (F.lit (Value.int IntKind.i64 i163)), V.f (F.lit (Value.int IntKind.i64 i164)), V.iref [LT.lst [LT.int IntKind.i64]] r165 n166 (0 : Nat), V.f (F.lst [LT.int IntKind.i64] r167), V.undef]) r159 r161 r162 i163 i164 r165 n166 r167 (fun r160 => ELp43_7 m R n [V.bor [LT.lst [LT.int IntKind.i64]] r159, V.own [LT.int IntKind.i64] r160, V.f (F.lst [LT.int IntKind.i64] r161), V.bor [LT.lst [LT.int IntKind.i64]] r162, V.f (F.lit (Value.int IntKind.i64 i163)), V.f (F.lit (Value.int IntKind.i64 i164)), V.iref [LT.lst [LT.int IntKind.i64]] r165 n166 (0 : Nat), V.f (F.lst [LT.int IntKind.i64] r167), V.undef] k) r160 := by kernel_rfl
theorem eqLp43_7 (m : Nat) (R : Type) (r159 : Abs.Rows) (r161 : Abs.Rows) (r162 : Abs.Rows) (i163 : Int) (i164 : Int) (r165 : Abs.Rows) (n166 : Nat) (r167 : Abs.Rows) (k : Ex → List V → Option R) : ∀ (n : Nat) (r160 : Abs.Rows), ELp43_7 m R n [V.bor [LT.lst [LT.int IntKind.i64]] r159, V.own [LT.int IntKind.i64] r160, V.f (F.lst [LT.int IntKind.i64] r161), V.bor [LT.lst [LT.int IntKind.i64]] r162, V.f (F.lit (Value.int IntKind.i64 i163)), V.f (F.lit (Value.int IntKind.i64 i164)), V.iref [LT.lst [LT.int IntKind.i64]] r165 n166 (0 : Nat), V.f (F.lst [LT.int IntKind.i64] r167), V.undef] k = Lp43_7 m (fun r169 => k (Ex.exit (2 : Nat)) [V.bor [LT.lst [LT.int IntKind.i64]] r159, V.own [LT.int IntKind.i64] r169, V.f (F.lst [LT.int IntKind.i64] r161), V.bor [LT.lst [LT.int IntKind.i64]] r162, V.f (F.lit (Value.int IntKind.i64 i163)), V.f (F.lit (Value.int IntKind.i64 i164)), V.iref [LT.lst [LT.int IntKind.i64]] r165 n166 (0 : Nat), V.f (F.lst [LT.int IntKind.i64] r167), V.undef]) r159 r161 r162 i163 i164 r165 n166 r167 n r160
  | 0, _ => rfl
  | n + 1, r160 => by
    simp only [ELp43_7, Lp43_7]
    congr 1
    funext r160
    exact eqLp43_7 m R r159 r161 r162 i163 i164 r165 n166 r167 k n r160
def L5 (m : Nat) : LTbl := addB 43 7 (brLp43_7 m (L4 m)) (L4 m)
theorem okL5 (m : Nat) : LTOk Try.prog H (L5 m) := addB_ok (okT14 m) hM (okL4 m) (l := [0, 3, 5, 9, 10, 11, 13, 14, 54]) (by kernel_rfl) (by kernel_rfl) m (fun R n vs k => ELp43_7 m R n vs k) (fun R vs k => rfl) (fun R n vs k x h => by
      simp only [ELp43_7] at h
      split at h
      · exact (stLp43_7 m n R _ _ _ _ _ _ _ _ _ k).trans h
      · cases h) fun R vs k x h => by
    unfold brLp43_7 at h
    split at h
    · exact .inl ((eqLp43_7 m R _ _ _ _ _ _ _ _ k m _).trans h)
    · exact .inr h

/-- a round of a loop of hookflash/flashref2.MixOf -/
def Lp43_12_step {R : Type} (m : Nat) (kx0 : Abs.Rows → Int → Option R) (r171 : Abs.Rows) (r173 : Abs.Rows) (r174 : Abs.Rows) (i175 : Int) (i176 : Int) (r177 : Abs.Rows) (n178 : Nat) (r179 : Abs.Rows) (r180 : Abs.Rows) (i181 : Int) (REC : Abs.Rows → Int → Option R) (r172 : Abs.Rows) (i182 : Int) : Option R :=
  bif decide (i182 < i181) then (bif decide ((0 : Int) ≤ i182 ∧ i182 < (↑(List.length r180) : Int)) then (bif decide ((0 : Int) ≤ i182 ∧ i182 < (↑(List.length r172) : Int)) then (bif decide ((0 : Int) ≤ i182 ∧ i182 < (↑(List.length r172) : Int)) then (REC (stR [LT.int IntKind.i64] r172 (Int.toNat i182) (0 : Nat) [F.lit (Value.int IntKind.i64 (IntKind.wrap IntKind.i64 (fI r172 (Int.toNat i182) (0 : Nat) + fI r180 (Int.toNat i182) (0 : Nat))))]) (IntKind.wrap IntKind.i64 (i182 + (1 : Int)))) else
  (none)) else
  (none)) else
  (none)) else
  (kx0 r172 i182)
def Lp43_12 {R : Type} (m : Nat) (kx0 : Abs.Rows → Int → Option R) (r171 : Abs.Rows) (r173 : Abs.Rows) (r174 : Abs.Rows) (i175 : Int) (i176 : Int) (r177 : Abs.Rows) (n178 : Nat) (r179 : Abs.Rows) (r180 : Abs.Rows) (i181 : Int) : Nat → Abs.Rows → Int → Option R
  | 0, _, _ => none
  | n + 1, r172, i182 => Lp43_12_step m kx0 r171 r173 r174 i175 i176 r177 n178 r179 r180 i181 (Lp43_12 m kx0 r171 r173 r174 i175 i176 r177 n178 r179 r180 i181 n) r172 i182
def ELp43_12 (m : Nat) (R : Type) : Nat → List V → (Ex → List V → Option R) → Option R
  | 0, _, _ => none
  | n + 1, vs, k => match vs with
    | [V.bor [LT.lst [LT.int IntKind.i64]] r171, V.own [LT.int IntKind.i64] r172, V.f (F.lst [LT.int IntKind.i64] r173), V.bor [LT.lst [LT.int IntKind.i64]] r174, V.f (F.lit (Value.int IntKind.i64 i175)), V.f (F.lit (Value.int IntKind.i64 i176)), V.iref [LT.lst [LT.int IntKind.i64]] r177 n178 (0 : Nat), V.f (F.lst [LT.int IntKind.i64] r179), V.undef, V.f (F.lst [LT.int IntKind.i64] r180), V.f (F.lit (Value.int IntKind.i64 i181)), V.f (F.lit (Value.int IntKind.i64 i182)), V.undef] => Lp43_12_step m (fun r183 i184 => k (Ex.exit (4 : Nat)) [V.bor [LT.lst [LT.int IntKind.i64]] r171, V.own [LT.int IntKind.i64] r183, V.f (F.lst [LT.int IntKind.i64] r173), V.bor [LT.lst [LT.int IntKind.i64]] r174, V.f (F.lit (Value.int IntKind.i64 i175)), V.f (F.lit (Value.int IntKind.i64 i176)), V.iref [LT.lst [LT.int IntKind.i64]] r177 n178 (0 : Nat), V.f (F.lst [LT.int IntKind.i64] r179), V.undef, V.f (F.lst [LT.int IntKind.i64] r180), V.f (F.lit (Value.int IntKind.i64 i181)), V.f (F.lit (Value.int IntKind.i64 i184)), V.undef]) r171 r173 r174 i175 i176 r177 n178 r179 r180 i181 (fun r172 i182 => ELp43_12 m R n [V.bor [LT.lst [LT.int IntKind.i64]] r171, V.own [LT.int IntKind.i64] r172, V.f (F.lst [LT.int IntKind.i64] r173), V.bor [LT.lst [LT.int IntKind.i64]] r174, V.f (F.lit (Value.int IntKind.i64 i175)), V.f (F.lit (Value.int IntKind.i64 i176)), V.iref [LT.lst [LT.int IntKind.i64]] r177 n178 (0 : Nat), V.f (F.lst [LT.int IntKind.i64] r179), V.undef, V.f (F.lst [LT.int IntKind.i64] r180), V.f (F.lit (Value.int IntKind.i64 i181)), V.f (F.lit (Value.int IntKind.i64 i182)), V.undef] k) r172 i182
    | _ => none
def brLp43_12 (m : Nat) (L : LTbl) (R : Type) (vs : List V) (k : Ex → List V → Option R) : Option R := match vs with
  | [V.bor [LT.lst [LT.int IntKind.i64]] r171, V.own [LT.int IntKind.i64] r172, V.f (F.lst [LT.int IntKind.i64] r173), V.bor [LT.lst [LT.int IntKind.i64]] r174, V.f (F.lit (Value.int IntKind.i64 i175)), V.f (F.lit (Value.int IntKind.i64 i176)), V.iref [LT.lst [LT.int IntKind.i64]] r177 n178 (0 : Nat), V.f (F.lst [LT.int IntKind.i64] r179), V.undef, V.f (F.lst [LT.int IntKind.i64] r180), V.f (F.lit (Value.int IntKind.i64 i181)), V.f (F.lit (Value.int IntKind.i64 i182)), V.undef] => Lp43_12 m (fun r183 i184 => k (Ex.exit (4 : Nat)) [V.bor [LT.lst [LT.int IntKind.i64]] r171, V.own [LT.int IntKind.i64] r183, V.f (F.lst [LT.int IntKind.i64] r173), V.bor [LT.lst [LT.int IntKind.i64]] r174, V.f (F.lit (Value.int IntKind.i64 i175)), V.f (F.lit (Value.int IntKind.i64 i176)), V.iref [LT.lst [LT.int IntKind.i64]] r177 n178 (0 : Nat), V.f (F.lst [LT.int IntKind.i64] r179), V.undef, V.f (F.lst [LT.int IntKind.i64] r180), V.f (F.lit (Value.int IntKind.i64 i181)), V.f (F.lit (Value.int IntKind.i64 i184)), V.undef]) r171 r173 r174 i175 i176 r177 n178 r179 r180 i181 m r172 i182
  | _ => L R 43 12 vs k
set_option maxRecDepth 100000 in
theorem stLp43_12 (m n : Nat) (R : Type) (r171 : Abs.Rows) (r172 : Abs.Rows) (r173 : Abs.Rows) (r174 : Abs.Rows) (i175 : Int) (i176 : Int) (r177 : Abs.Rows) (n178 : Nat) (r179 : Abs.Rows) (r180 : Abs.Rows) (i181 : Int) (i182 : Int) (k : Ex → List V → Option R) : codeK Try.prog H (T14 m) 43 (L5 m) 13 (loopBody Try.prog 43 12) (mkEnv [0, 3, 5, 9, 10, 11, 13, 14, 22, 23, 24, 25, 54] [V.bor [LT.lst [LT.int IntKind.i64]] r171, V.own [LT.int IntKind.i64] r172, V.f (F.lst [LT.int IntKind.i64] r173), V.bor [LT.lst [LT.int IntKind.i64]] r174, V.f (F.lit (Value.int IntKind.i64 i175)), V.f (F.lit (Value.int IntKind.i64 i176)), V.iref [LT.lst [LT.int IntKind.i64]] r177 n178 (0 : Nat), V.f (F.lst [LT.int IntKind.i64] r179), V.undef, V.f (F.lst [LT.int IntKind.i64] r180), V.f (F.lit (Value.int IntKind.i64 i181)), V.f (F.lit (Value.int IntKind.i64 i182)), V.undef] 0 (H.len 43)) (fun e env' => match e with | .normal => ELp43_12 m R n (vals [0, 3, 5, 9, 10, 11, 13, 14, 22, 23, 24, 25, 54] env') k | e => k e (vals [0, 3, 5, 9, 10, 11, 13, 14, 22, 23, 24, 25, 54] env')) = Lp43_12_step m (fun r183 i184 => k (Ex.exit (4 : Nat)) [V.bor [LT.lst [LT.int IntKind.i64]] r171, V.own [LT.int IntKind.i64] r183, V.f (F.lst [LT.int IntKind.i64] r173), V.bor [LT.lst [LT.int IntKind.i64]] r174, V.f (F.lit (Value.int IntKind.i64 i175)), V.f (F.lit (Value.int IntKind.i64 i176)), V.iref [LT.lst [LT.int IntKind.i64]] r177 n178 (0 : Nat), V.f (F.lst [LT.int IntKind.i64] r179), V.undef, V.f (F.lst [LT.int IntKind.i64] r180), V.f (F.lit (Value.int IntKind.i64 i181)), V.f (F.lit (Value.int IntKind.i64 i184)), V.undef]) r171 r173 r174 i175 i176 r177 n178 r179 r180 i181 (fun r172 i182 => ELp43_12 m R n [V.bor [LT.lst [LT.int IntKind.i64]] r171, V.own [LT.int IntKind.i64] r172, V.f (F.lst [LT.int IntKind.i64] r173), V.bor [LT.lst [LT.int IntKind.i64]] r174, V.f (F.lit (Value.int IntKind.i64 i175)), V.f (F.lit (Value.int IntKind.i64 i176)), V.iref [LT.lst [LT.int IntKind.i64]] r177 n178 (0 : Nat), V.f (F.lst [LT.int IntKind.i64] r179), V.undef, V.f (F.lst [LT.int IntKind.i64] r180), V.f (F.lit (Value.int IntKind.i64 i181)), V.f (F.lit (Value.int IntKind.i64 i182)), V.undef] k) r172 i182 := by kernel_rfl
theorem eqLp43_12 (m : Nat) (R : Type) (r171 : Abs.Rows) (r173 : Abs.Rows) (r174 : Abs.Rows) (i175 : Int) (i176 : Int) (r177 : Abs.Rows) (n178 : Nat) (r179 : Abs.Rows) (r180 : Abs.Rows) (i181 : Int) (k : Ex → List V → Option R) : ∀ (n : Nat) (r172 : Abs.Rows) (i182 : Int), ELp43_12 m R n [V.bor [LT.lst [LT.int IntKind.i64]] r171, V.own [LT.int IntKind.i64] r172, V.f (F.lst [LT.int IntKind.i64] r173), V.bor [LT.lst [LT.int IntKind.i64]] r174, V.f (F.lit (Value.int IntKind.i64 i175)), V.f (F.lit (Value.int IntKind.i64 i176)), V.iref [LT.lst [LT.int IntKind.i64]] r177 n178 (0 : Nat), V.f (F.lst [LT.int IntKind.i64] r179), V.undef, V.f (F.lst [LT.int IntKind.i64] r180), V.f (F.lit (Value.int IntKind.i64 i181)), V.f (F.lit (Value.int IntKind.i64 i182)), V.undef] k = Lp43_12 m (fun r183 i184 => k (Ex.exit (4 : Nat)) [V.bor [LT.lst [LT.int IntKind.i64]] r171, V.own [LT.int IntKind.i64] r183, V.f (F.lst [LT.int IntKind.i64] r173), V.bor [LT.lst [LT.int IntKind.i64]] r174, V.f (F.lit (Value.int IntKind.i64 i175)), V.f (F.lit (Value.int IntKind.i64 i176)), V.iref [LT.lst [LT.int IntKind.i64]] r177 n178 (0 : Nat), V.f (F.lst [LT.int IntKind.i64] r179), V.undef, V.f (F.lst [LT.int IntKind.i64] r180), V.f (F.lit (Value.int IntKind.i64 i181)), V.f (F.lit (Value.int IntKind.i64 i184)), V.undef]) r171 r173 r174 i175 i176 r177 n178 r179 r180 i181 n r172 i182
  | 0, _, _ => rfl
  | n + 1, r172, i182 => by
    simp only [ELp43_12, Lp43_12]
    congr 1
    funext r172 i182
    exact eqLp43_12 m R r171 r173 r174 i175 i176 r177 n178 r179 r180 i181 k n r172 i182
def L6 (m : Nat) : LTbl := addB 43 12 (brLp43_12 m (L5 m)) (L5 m)
theorem okL6 (m : Nat) : LTOk Try.prog H (L6 m) := addB_ok (okT14 m) hM (okL5 m) (l := [0, 3, 5, 9, 10, 11, 13, 14, 22, 23, 24, 25, 54]) (by kernel_rfl) (by kernel_rfl) m (fun R n vs k => ELp43_12 m R n vs k) (fun R vs k => rfl) (fun R n vs k x h => by
      simp only [ELp43_12] at h
      split at h
      · exact (stLp43_12 m n R _ _ _ _ _ _ _ _ _ _ _ _ k).trans h
      · cases h) fun R vs k x h => by
    unfold brLp43_12 at h
    split at h
    · exact .inl ((eqLp43_12 m R _ _ _ _ _ _ _ _ _ _ k m _ _).trans h)
    · exact .inr h

/-- a round of a loop of hookflash/flashref2.MixOf -/
def Lp43_3_step {R : Type} (m : Nat) (kx0 : Abs.Rows → Int → Option R) (r154 : Abs.Rows) (r156 : Abs.Rows) (i157 : Int) (REC : Abs.Rows → Int → Option R) (r155 : Abs.Rows) (i158 : Int) : Option R :=
  bif decide (i158 < i157) then (bif decide ((0 : Int) ≤ i158 ∧ i158 < (↑(List.length r156) : Int)) then (Lp43_7 m (fun r170 => Lp43_12 m (fun r185 i186 => REC r185 (IntKind.wrap IntKind.i64 (i158 + (1 : Int)))) r154 (fR r156 (Int.toNat i158) (0 : Nat)) r156 i157 i158 r156 (Int.toNat i158) (fR r156 (Int.toNat i158) (0 : Nat)) (fR r156 (Int.toNat i158) (0 : Nat)) ((↑(List.length (fR r156 (Int.toNat i158) (0 : Nat))) : Int)) m r170 ((0 : Int))) r154 (fR r156 (Int.toNat i158) (0 : Nat)) r156 i157 i158 r156 (Int.toNat i158) (fR r156 (Int.toNat i158) (0 : Nat)) m r155) else
  (none)) else
  (kx0 r155 i158)
def Lp43_3 {R : Type} (m : Nat) (kx0 : Abs.Rows → Int → Option R) (r154 : Abs.Rows) (r156 : Abs.Rows) (i157 : Int) : Nat → Abs.Rows → Int → Option R
  | 0, _, _ => none
  | n + 1, r155, i158 => Lp43_3_step m kx0 r154 r156 i157 (Lp43_3 m kx0 r154 r156 i157 n) r155 i158
def ELp43_3 (m : Nat) (R : Type) : Nat → List V → (Ex → List V → Option R) → Option R
  | 0, _, _ => none
  | n + 1, vs, k => match vs with
    | [V.bor [LT.lst [LT.int IntKind.i64]] r154, V.own [LT.int IntKind.i64] r155, V.bor [LT.lst [LT.int IntKind.i64]] r156, V.f (F.lit (Value.int IntKind.i64 i157)), V.f (F.lit (Value.int IntKind.i64 i158)), V.undef] => Lp43_3_step m (fun r187 i188 => k (Ex.exit (0 : Nat)) [V.bor [LT.lst [LT.int IntKind.i64]] r154, V.own [LT.int IntKind.i64] r187, V.bor [LT.lst [LT.int IntKind.i64]] r156, V.f (F.lit (Value.int IntKind.i64 i157)), V.f (F.lit (Value.int IntKind.i64 i188)), V.undef]) r154 r156 i157 (fun r155 i158 => ELp43_3 m R n [V.bor [LT.lst [LT.int IntKind.i64]] r154, V.own [LT.int IntKind.i64] r155, V.bor [LT.lst [LT.int IntKind.i64]] r156, V.f (F.lit (Value.int IntKind.i64 i157)), V.f (F.lit (Value.int IntKind.i64 i158)), V.undef] k) r155 i158
    | _ => none
def brLp43_3 (m : Nat) (L : LTbl) (R : Type) (vs : List V) (k : Ex → List V → Option R) : Option R := match vs with
  | [V.bor [LT.lst [LT.int IntKind.i64]] r154, V.own [LT.int IntKind.i64] r155, V.bor [LT.lst [LT.int IntKind.i64]] r156, V.f (F.lit (Value.int IntKind.i64 i157)), V.f (F.lit (Value.int IntKind.i64 i158)), V.undef] => Lp43_3 m (fun r187 i188 => k (Ex.exit (0 : Nat)) [V.bor [LT.lst [LT.int IntKind.i64]] r154, V.own [LT.int IntKind.i64] r187, V.bor [LT.lst [LT.int IntKind.i64]] r156, V.f (F.lit (Value.int IntKind.i64 i157)), V.f (F.lit (Value.int IntKind.i64 i188)), V.undef]) r154 r156 i157 m r155 i158
  | _ => L R 43 3 vs k
set_option maxRecDepth 100000 in
theorem stLp43_3 (m n : Nat) (R : Type) (r154 : Abs.Rows) (r155 : Abs.Rows) (r156 : Abs.Rows) (i157 : Int) (i158 : Int) (k : Ex → List V → Option R) : codeK Try.prog H (T14 m) 43 (L6 m) 4 (loopBody Try.prog 43 3) (mkEnv [0, 3, 9, 10, 11, 54] [V.bor [LT.lst [LT.int IntKind.i64]] r154, V.own [LT.int IntKind.i64] r155, V.bor [LT.lst [LT.int IntKind.i64]] r156, V.f (F.lit (Value.int IntKind.i64 i157)), V.f (F.lit (Value.int IntKind.i64 i158)), V.undef] 0 (H.len 43)) (fun e env' => match e with | .normal => ELp43_3 m R n (vals [0, 3, 9, 10, 11, 54] env') k | e => k e (vals [0, 3, 9, 10, 11, 54] env')) = Lp43_3_step m (fun r187 i188 => k (Ex.exit (0 : Nat)) [V.bor [LT.lst [LT.int IntKind.i64]] r154, V.own [LT.int IntKind.i64] r187, V.bor [LT.lst [LT.int IntKind.i64]] r156, V.f (F.lit (Value.int IntKind.i64 i157)), V.f (F.lit (Value.int IntKind.i64 i188)), V.undef]) r154 r156 i157 (fun r155 i158 => ELp43_3 m R n [V.bor [LT.lst [LT.int IntKind.i64]] r154, V.own [LT.int IntKind.i64] r155, V.bor [LT.lst [LT.int IntKind.i64]] r156, V.f (F.lit (Value.int IntKind.i64 i157)), V.f (F.lit (Value.int IntKind.i64 i158)), V.undef] k) r155 i158 := by kernel_rfl
theorem eqLp43_3 (m : Nat) (R : Type) (r154 : Abs.Rows) (r156 : Abs.Rows) (i157 : Int) (k : Ex → List V → Option R) : ∀ (n : Nat) (r155 : Abs.Rows) (i158 : Int), ELp43_3 m R n [V.bor [LT.lst [LT.int IntKind.i64]] r154, V.own [LT.int IntKind.i64] r155, V.bor [LT.lst [LT.int IntKind.i64]] r156, V.f (F.lit (Value.int IntKind.i64 i157)), V.f (F.lit (Value.int IntKind.i64 i158)), V.undef] k = Lp43_3 m (fun r187 i188 => k (Ex.exit (0 : Nat)) [V.bor [LT.lst [LT.int IntKind.i64]] r154, V.own [LT.int IntKind.i64] r187, V.bor [LT.lst [LT.int IntKind.i64]] r156, V.f (F.lit (Value.int IntKind.i64 i157)), V.f (F.lit (Value.int IntKind.i64 i188)), V.undef]) r154 r156 i157 n r155 i158
  | 0, _, _ => rfl
  | n + 1, r155, i158 => by
    simp only [ELp43_3, Lp43_3]
    congr 1
    funext r155 i158
    exact eqLp43_3 m R r154 r156 i157 k n r155 i158
def L7 (m : Nat) : LTbl := addB 43 3 (brLp43_3 m (L6 m)) (L6 m)
theorem okL7 (m : Nat) : LTOk Try.prog H (L7 m) := addB_ok (okT14 m) hM (okL6 m) (l := [0, 3, 9, 10, 11, 54]) (by kernel_rfl) (by kernel_rfl) m (fun R n vs k => ELp43_3 m R n vs k) (fun R vs k => rfl) (fun R n vs k x h => by
      simp only [ELp43_3] at h
      split at h
      · exact (stLp43_3 m n R _ _ _ _ _ k).trans h
      · cases h) fun R vs k x h => by
    unfold brLp43_3 at h
    split at h
    · exact .inl ((eqLp43_3 m R _ _ _ k m _ _).trans h)
    · exact .inr h

/-- a round of a loop of hookflash/flashref2.MixOf -/
def Lp43_20_step {R : Type} (m : Nat) (kx0 : Abs.Rows → Int → Option R) (i192 : Int) (REC : Abs.Rows → Int → Option R) (r191 : Abs.Rows) (i193 : Int) : Option R :=
  bif decide (i193 < i192) then (bif decide ((0 : Int) ≤ i193 ∧ i193 < (↑(List.length r191) : Int)) then (Fn77 m (fI r191 (Int.toNat i193) (0 : Nat)) (fun i194 => bif decide ((0 : Int) ≤ i193 ∧ i193 < (↑(List.length r191) : Int)) then (REC (stR [LT.int IntKind.i64] r191 (Int.toNat i193) (0 : Nat) [F.lit (Value.int IntKind.i64 i194)]) (IntKind.wrap IntKind.i64 (i193 + (1 : Int)))) else
  (none))) else
  (none)) else
  (kx0 r191 i193)
def Lp43_20 {R : Type} (m : Nat) (kx0 : Abs.Rows → Int → Option R) (i192 : Int) : Nat → Abs.Rows → Int → Option R
  | 0, _, _ => none
  | n + 1, r191, i193 => Lp43_20_step m kx0 i192 (Lp43_20 m kx0 i192 n) r191 i193
def ELp43_20 (m : Nat) (R : Type) : Nat → List V → (Ex → List V → Option R) → Option R
  | 0, _, _ => none
  | n + 1, vs, k => match vs with
    | [V.own [LT.int IntKind.i64] r191, V.undef, V.f (F.lit (Value.int IntKind.i64 i192)), V.f (F.lit (Value.int IntKind.i64 i193)), V.undef] => Lp43_20_step m (fun r195 i196 => k (Ex.exit (6 : Nat)) [V.own [LT.int IntKind.i64] r195, V.undef, V.f (F.lit (Value.int IntKind.i64 i192)), V.f (F.lit (Value.int IntKind.i64 i196)), V.undef]) i192 (fun r191 i193 => ELp43_20 m R n [V.own [LT.int IntKind.i64] r191, V.undef, V.f (F.lit (Value.int IntKind.i64 i192)), V.f (F.lit (Value.int IntKind.i64 i193)), V.undef] k) r191 i193
    | _ => none
def brLp43_20 (m : Nat) (L : LTbl) (R : Type) (vs : List V) (k : Ex → List V → Option R) : Option R := match vs with
  | [V.own [LT.int IntKind.i64] r191, V.undef, V.f (F.lit (Value.int IntKind.i64 i192)), V.f (F.lit (Value.int IntKind.i64 i193)), V.undef] => Lp43_20 m (fun r195 i196 => k (Ex.exit (6 : Nat)) [V.own [LT.int IntKind.i64] r195, V.undef, V.f (F.lit (Value.int IntKind.i64 i192)), V.f (F.lit (Value.int IntKind.i64 i196)), V.undef]) i192 m r191 i193
  | _ => L R 43 20 vs k
set_option maxRecDepth 100000 in
theorem stLp43_20 (m n : Nat) (R : Type) (r191 : Abs.Rows) (i192 : Int) (i193 : Int) (k : Ex → List V → Option R) : codeK Try.prog H (T14 m) 43 (L7 m) 21 (loopBody Try.prog 43 20) (mkEnv [3, 22, 40, 41, 54] [V.own [LT.int IntKind.i64] r191, V.undef, V.f (F.lit (Value.int IntKind.i64 i192)), V.f (F.lit (Value.int IntKind.i64 i193)), V.undef] 0 (H.len 43)) (fun e env' => match e with | .normal => ELp43_20 m R n (vals [3, 22, 40, 41, 54] env') k | e => k e (vals [3, 22, 40, 41, 54] env')) = Lp43_20_step m (fun r195 i196 => k (Ex.exit (6 : Nat)) [V.own [LT.int IntKind.i64] r195, V.undef, V.f (F.lit (Value.int IntKind.i64 i192)), V.f (F.lit (Value.int IntKind.i64 i196)), V.undef]) i192 (fun r191 i193 => ELp43_20 m R n [V.own [LT.int IntKind.i64] r191, V.undef, V.f (F.lit (Value.int IntKind.i64 i192)), V.f (F.lit (Value.int IntKind.i64 i193)), V.undef] k) r191 i193 := by kernel_rfl
theorem eqLp43_20 (m : Nat) (R : Type) (i192 : Int) (k : Ex → List V → Option R) : ∀ (n : Nat) (r191 : Abs.Rows) (i193 : Int), ELp43_20 m R n [V.own [LT.int IntKind.i64] r191, V.undef, V.f (F.lit (Value.int IntKind.i64 i192)), V.f (F.lit (Value.int IntKind.i64 i193)), V.undef] k = Lp43_20 m (fun r195 i196 => k (Ex.exit (6 : Nat)) [V.own [LT.int IntKind.i64] r195, V.undef, V.f (F.lit (Value.int IntKind.i64 i192)), V.f (F.lit (Value.int IntKind.i64 i196)), V.undef]) i192 n r191 i193
  | 0, _, _ => rfl
  | n + 1, r191, i193 => by
    simp only [ELp43_20, Lp43_20]
    congr 1
    funext r191 i193
    exact eqLp43_20 m R i192 k n r191 i193
def L8 (m : Nat) : LTbl := addB 43 20 (brLp43_20 m (L7 m)) (L7 m)
theorem okL8 (m : Nat) : LTOk Try.prog H (L8 m) := addB_ok (okT14 m) hM (okL7 m) (l := [3, 22, 40, 41, 54]) (by kernel_rfl) (by kernel_rfl) m (fun R n vs k => ELp43_20 m R n vs k) (fun R vs k => rfl) (fun R n vs k x h => by
      simp only [ELp43_20] at h
      split at h
      · exact (stLp43_20 m n R _ _ _ k).trans h
      · cases h) fun R vs k x h => by
    unfold brLp43_20 at h
    split at h
    · exact .inl ((eqLp43_20 m R _ k m _ _).trans h)
    · exact .inr h

/-- hookflash/flashref2.MixOf -/
def Fn43 {R : Type} (m : Nat) : Abs.Rows → (Abs.Rows → Option R) → Option R := match m with
  | 0 => fun _ _ => none
  | m + 1 => fun r153 k =>
  Lp43_3 m (fun r189 i190 => Lp43_20 m (fun r197 i198 => k r197) ((↑(List.length r189) : Int)) m r189 ((0 : Int))) r153 r153 ((↑(List.length r153) : Int)) m rows0 ((0 : Int))
def brFn43 (m : Nat) (T : Tbl) (R : Type) (vs : List V) (k : V → List V → Option R) : Option R := match vs with
  | [V.bor [LT.lst [LT.int IntKind.i64]] r153] => Fn43 m r153 (fun r199 => k (V.own [LT.int IntKind.i64] r199) [V.undef])
  | _ => T R 43 vs k
set_option maxRecDepth 100000 in
theorem evFn43 (m : Nat) (R : Type) (r153 : Abs.Rows) (k : V → List V → Option R) : runK Try.prog H (T14 m) (L8 m) 43 [V.bor [LT.lst [LT.int IntKind.i64]] r153] k = Fn43 (m + 1) r153 (fun r199 => k (V.own [LT.int IntKind.i64] r199) [V.undef]) := by kernel_rfl
def T15 (m : Nat) : Tbl := addT 43 (brFn43 m (T14 m)) (T14 m)
theorem okT15 (m : Nat) : TblOk Try.prog (T15 m) := addT_ok (okT14 m) fun R vs k x h => by
  unfold brFn43 at h
  split at h
  · cases m with
    | zero => cases h
    | succ m => exact runK_some (okT14 m) hM (okL8 m) ((evFn43 m R _ k).trans h)
  · exact okT14 m R 43 _ k x h

/-- a round of a loop of (*hookflash/flashmake.Stream).Noise -/
def Lp53_3_step {R : Type} (m : Nat) (kx0 : Abs.Rows → Int → Int → Option R) (i45 : Int) (r47 : Abs.Rows) (REC : Abs.Rows → Int → Int → Option R) (r44 : Abs.Rows) (i46 : Int) (i48 : Int) : Option R :=
  bif decide (i46 < i45) then (Fn59 m r47 i48 ((4 : Int)) (fun i49 i50 => bif i49 == (0 : Int) then (Fn59 m r47 i50 ((4 : Int)) (fun i51 i52 => bif decide ((0 : Int) ≤ i51 ∧ i51 < (↑(ByteArray.size { data := #[(49 : UInt8), (53 : UInt8), (57 : UInt8), (68 : UInt8)] }) : Int)) then (Fn20 m r47 i52 ([[F.lit (Value.int IntKind.i64 (100 : Int))], [F.lit (Value.int IntKind.i64 (205 : Int))], [F.lit (Value.int IntKind.i64 (300 : Int))], [F.lit (Value.int IntKind.i64 (411 : Int))], [F.lit (Value.int IntKind.i64 (500 : Int))]]) (fun i53 i54 => Fn55 m ((↑(UInt8.toNat (Array.getD (ByteArray.data { data := #[(49 : UInt8), (53 : UInt8), (57 : UInt8), (68 : UInt8)] }) (Int.toNat i51) (0 : UInt8))) : Int)) i53 (fun r99 b100 => Fn20 m r47 i54 ([[F.lit (Value.int IntKind.i64 (256 : Int))], [F.lit (Value.int IntKind.i64 (64 : Int))], [F.lit (Value.int IntKind.i64 (16 : Int))], [F.lit (Value.int IntKind.i64 (1000 : Int))]]) (fun i101 i102 => Fn44 m r99 i101 (fun r121 => bif decide (List.length r44 + List.length r121 ≤ rowMax) then (REC (r44 ++ r121) (IntKind.wrap IntKind.i64 (i46 + (1 : Int))) i102) else
  (none)))))) else
  (none))) else
  (bif i49 == (1 : Int) then (Fn20 m r47 i50 ([[F.lit (Value.int IntKind.i64 (50 : Int))], [F.lit (Value.int IntKind.i64 (205 : Int))], [F.lit (Value.int IntKind.i64 (300 : Int))]]) (fun i122 i123 => bif decide ((0 : Int) ≤ i122 ∧ i122 ≤ (↑rowMax : Int)) then (letV (r44 ++ List.replicate (Int.toNat i122) [F.lit (Value.int IntKind.i64 (0 : Int))]) (fun r124 => bif decide (List.length r44 + List.length (List.replicate (Int.toNat i122) [F.lit (Value.int IntKind.i64 (0 : Int))]) ≤ rowMax) then (REC r124 (IntKind.wrap IntKind.i64 (i46 + (1 : Int))) i123) else
  (none))) else
  (none))) else
  (bif i49 == (2 : Int) then (Fn21 m r47 i50 ((0 : Int)) ((3000 : Int)) (fun i125 i126 => Fn21 m r47 i126 ((1 : Int)) ((900 : Int)) (fun i127 i128 => Fn20 m r47 i128 ([[F.lit (Value.int IntKind.i64 (205 : Int))], [F.lit (Value.int IntKind.i64 (410 : Int))]]) (fun i129 i130 => Lp53_13 m (fun r144 i145 i146 => REC r144 (IntKind.wrap IntKind.i64 (i46 + (1 : Int))) i130) i127 i45 i46 i129 r47 i130 m r44 i125 ((0 : Int)))))) else
  (Fn55 m ((49 : Int)) ((410 : Int)) (fun r147 b148 => Fn52 m r47 i50 (fun i149 i150 => Fn55 m i149 ((410 : Int)) (fun r151 b152 => Fn43 m ([[F.lst [LT.int IntKind.i64] r147], [F.lst [LT.int IntKind.i64] r151]]) (fun r200 => bif decide (List.length r44 + List.length r200 ≤ rowMax) then (REC (r44 ++ r200) (IntKind.wrap IntKind.i64 (i46 + (1 : Int))) i150) else
  (none)))))))))) else
  (kx0 r44 i46 i48)
def Lp53_3 {R : Type} (m : Nat) (kx0 : Abs.Rows → Int → Int → Option R) (i45 : Int) (r47 : Abs.Rows) : Nat → Abs.Rows → Int → Int → Option R
  | 0, _, _, _ => none
  | n + 1, r44, i46, i48 => Lp53_3_step m kx0 i45 r47 (Lp53_3 m kx0 i45 r47 n) r44 i46 i48
def ELp53_3 (m : Nat) (R : Type) : Nat → List V → (Ex → List V → Option R) → Option R
  | 0, _, _ => none
  | n + 1, vs, k => match vs with
    | [V.ref (84 : Nat) (0 : Nat), V.own [LT.int IntKind.i64] r44, V.f (F.lit (Value.int IntKind.i64 i45)), V.f (F.lit (Value.int IntKind.i64 i46)), V.obj [V.f (F.lst [LT.int IntKind.i64] r47), V.f (F.lit (Value.int IntKind.i64 i48))]] => Lp53_3_step m (fun r201 i202 i203 => k (Ex.exit (0 : Nat)) [V.ref (84 : Nat) (0 : Nat), V.own [LT.int IntKind.i64] r201, V.f (F.lit (Value.int IntKind.i64 i45)), V.f (F.lit (Value.int IntKind.i64 i202)), V.obj [V.f (F.lst [LT.int IntKind.i64] r47), V.f (F.lit (Value.int IntKind.i64 i203))]]) i45 r47 (fun r44 i46 i48 => ELp53_3 m R n [V.ref (84 : Nat) (0 : Nat), V.own [LT.int IntKind.i64] r44, V.f (F.lit (Value.int IntKind.i64 i45)), V.f (F.lit (Value.int IntKind.i64 i46)), V.obj [V.f (F.lst [LT.int IntKind.i64] r47), V.f (F.lit (Value.int IntKind.i64 i48))]] k) r44 i46 i48
    | _ => none
def brLp53_3 (m : Nat) (L : LTbl) (R : Type) (vs : List V) (k : Ex → List V → Option R) : Option R := match vs with
  | [V.ref (84 : Nat) (0 : Nat), V.own [LT.int IntKind.i64] r44, V.f (F.lit (Value.int IntKind.i64 i45)), V.f (F.lit (Value.int IntKind.i64 i46)), V.obj [V.f (F.lst [LT.int IntKind.i64] r47), V.f (F.lit (Value.int IntKind.i64 i48))]] => Lp53_3 m (fun r201 i202 i203 => k (Ex.exit (0 : Nat)) [V.ref (84 : Nat) (0 : Nat), V.own [LT.int IntKind.i64] r201, V.f (F.lit (Value.int IntKind.i64 i45)), V.f (F.lit (Value.int IntKind.i64 i202)), V.obj [V.f (F.lst [LT.int IntKind.i64] r47), V.f (F.lit (Value.int IntKind.i64 i203))]]) i45 r47 m r44 i46 i48
  | _ => L R 53 3 vs k
set_option maxRecDepth 100000 in
theorem stLp53_3 (m n : Nat) (R : Type) (r44 : Abs.Rows) (i45 : Int) (i46 : Int) (r47 : Abs.Rows) (i48 : Int) (k : Ex → List V → Option R) : codeK Try.prog H (T15 m) 53 (L8 m) 4 (loopBody Try.prog 53 3) (mkEnv [0, 3, 13, 14, 84] [V.ref (84 : Nat) (0 : Nat), V.own [LT.int IntKind.i64] r44, V.f (F.lit (Value.int IntKind.i64 i45)), V.f (F.lit (Value.int IntKind.i64 i46)), V.obj [V.f (F.lst [LT.int IntKind.i64] r47), V.f (F.lit (Value.int IntKind.i64 i48))]] 0 (H.len 53)) (fun e env' => match e with | .normal => ELp53_3 m R n (vals [0, 3, 13, 14, 84] env') k | e => k e (vals [0, 3, 13, 14, 84] env')) = Lp53_3_step m (fun r201 i202 i203 => k (Ex.exit (0 : Nat)) [V.ref (84 : Nat) (0 : Nat), V.own [LT.int IntKind.i64] r201, V.f (F.lit (Value.int IntKind.i64 i45)), V.f (F.lit (Value.int IntKind.i64 i202)), V.obj [V.f (F.lst [LT.int IntKind.i64] r47), V.f (F.lit (Value.int IntKind.i64 i203))]]) i45 r47 (fun r44 i46 i48 => ELp53_3 m R n [V.ref (84 : Nat) (0 : Nat), V.own [LT.int IntKind.i64] r44, V.f (F.lit (Value.int IntKind.i64 i45)), V.f (F.lit (Value.int IntKind.i64 i46)), V.obj [V.f (F.lst [LT.int IntKind.i64] r47), V.f (F.lit (Value.int IntKind.i64 i48))]] k) r44 i46 i48 := by kernel_rfl
theorem eqLp53_3 (m : Nat) (R : Type) (i45 : Int) (r47 : Abs.Rows) (k : Ex → List V → Option R) : ∀ (n : Nat) (r44 : Abs.Rows) (i46 : Int) (i48 : Int), ELp53_3 m R n [V.ref (84 : Nat) (0 : Nat), V.own [LT.int IntKind.i64] r44, V.f (F.lit (Value.int IntKind.i64 i45)), V.f (F.lit (Value.int IntKind.i64 i46)), V.obj [V.f (F.lst [LT.int IntKind.i64] r47), V.f (F.lit (Value.int IntKind.i64 i48))]] k = Lp53_3 m (fun r201 i202 i203 => k (Ex.exit (0 : Nat)) [V.ref (84 : Nat) (0 : Nat), V.own [LT.int IntKind.i64] r201, V.f (F.lit (Value.int IntKind.i64 i45)), V.f (F.lit (Value.int IntKind.i64 i202)), V.obj [V.f (F.lst [LT.int IntKind.i64] r47), V.f (F.lit (Value.int IntKind.i64 i203))]]) i45 r47 n r44 i46 i48
  | 0, _, _, _ => rfl
  | n + 1, r44, i46, i48 => by
    simp only [ELp53_3, Lp53_3]
    congr 1
    funext r44 i46 i48
    exact eqLp53_3 m R i45 r47 k n r44 i46 i48
def L9 (m : Nat) : LTbl := addB 53 3 (brLp53_3 m (L8 m)) (L8 m)
theorem okL9 (m : Nat) : LTOk Try.prog H (L9 m) := addB_ok (okT15 m) hM (okL8 m) (l := [0, 3, 13, 14, 84]) (by kernel_rfl) (by kernel_rfl) m (fun R n vs k => ELp53_3 m R n vs k) (fun R vs k => rfl) (fun R n vs k x h => by
      simp only [ELp53_3] at h
      split at h
      · exact (stLp53_3 m n R _ _ _ _ _ k).trans h
      · cases h) fun R vs k x h => by
    unfold brLp53_3 at h
    split at h
    · exact .inl ((eqLp53_3 m R _ _ k m _ _ _).trans h)
    · exact .inr h

/-- (*hookflash/flashmake.Stream).Noise -/
def Fn53 {R : Type} (m : Nat) : Abs.Rows → Int → (Abs.Rows → Int → Option R) → Option R := match m with
  | 0 => fun _ _ _ => none
  | m + 1 => fun r32 i33 k =>
  Fn21 m r32 i33 ((0 : Int)) ((3 : Int)) (fun i42 i43 => Lp53_3 m (fun r204 i205 i206 => k r204 i206) i42 r32 m rows0 ((0 : Int)) i43)
def brFn53 (m : Nat) (T : Tbl) (R : Type) (vs : List V) (k : V → List V → Option R) : Option R := match vs with
  | [V.obj [V.f (F.lst [LT.int IntKind.i64] r32), V.f (F.lit (Value.int IntKind.i64 i33))]] => Fn53 m r32 i33 (fun r207 i208 => k (V.own [LT.int IntKind.i64] r207) [V.obj [V.f (F.lst [LT.int IntKind.i64] r32), V.f (F.lit (Value.int IntKind.i64 i208))]])
  | _ => T R 53 vs k
set_option maxRecDepth 100000 in
theorem evFn53 (m : Nat) (R : Type) (r32 : Abs.Rows) (i33 : Int) (k : V → List V → Option R) : runK Try.prog H (T15 m) (L9 m) 53 [V.obj [V.f (F.lst [LT.int IntKind.i64] r32), V.f (F.lit (Value.int IntKind.i64 i33))]] k = Fn53 (m + 1) r32 i33 (fun r207 i208 => k (V.own [LT.int IntKind.i64] r207) [V.obj [V.f (F.lst [LT.int IntKind.i64] r32), V.f (F.lit (Value.int IntKind.i64 i208))]]) := by kernel_rfl
def T16 (m : Nat) : Tbl := addT 53 (brFn53 m (T15 m)) (T15 m)
theorem okT16 (m : Nat) : TblOk Try.prog (T16 m) := addT_ok (okT15 m) fun R vs k x h => by
  unfold brFn53 at h
  split at h
  · cases m with
    | zero => cases h
    | succ m => exact runK_some (okT15 m) hM (okL9 m) ((evFn53 m R _ _ k).trans h)
  · exact okT15 m R 53 _ k x h

/-- (*hookflash/flashmake.Stream).Flip -/
def Fn39 {R : Type} (m : Nat) : Abs.Rows → Int → Int → (Bool → Int → Option R) → Option R := match m with
  | 0 => fun _ _ _ _ => none
  | m + 1 => fun r211 i212 i213 k =>
  Fn59 m r211 i212 i213 (fun i214 i215 => k (i214 == (0 : Int)) i215)
def brFn39 (m : Nat) (T : Tbl) (R : Type) (vs : List V) (k : V → List V → Option R) : Option R := match vs with
  | [V.obj [V.f (F.lst [LT.int IntKind.i64] r211), V.f (F.lit (Value.int IntKind.i64 i212))], V.f (F.lit (Value.int IntKind.i64 i213))] => Fn39 m r211 i212 i213 (fun b216 i217 => k (V.f (F.lit (Value.bool b216))) [V.obj [V.f (F.lst [LT.int IntKind.i64] r211), V.f (F.lit (Value.int IntKind.i64 i217))], V.undef])
  | _ => T R 39 vs k
set_option maxRecDepth 100000 in
theorem evFn39 (m : Nat) (R : Type) (r211 : Abs.Rows) (i212 : Int) (i213 : Int) (k : V → List V → Option R) : runK Try.prog H (T16 m) (L9 m) 39 [V.obj [V.f (F.lst [LT.int IntKind.i64] r211), V.f (F.lit (Value.int IntKind.i64 i212))], V.f (F.lit (Value.int IntKind.i64 i213))] k = Fn39 (m + 1) r211 i212 i213 (fun b216 i217 => k (V.f (F.lit (Value.bool b216))) [V.obj [V.f (F.lst [LT.int IntKind.i64] r211), V.f (F.lit (Value.int IntKind.i64 i217))], V.undef]) := by kernel_rfl
def T17 (m : Nat) : Tbl := addT 39 (brFn39 m (T16 m)) (T16 m)
theorem okT17 (m : Nat) : TblOk Try.prog (T17 m) := addT_ok (okT16 m) fun R vs k x h => by
  unfold brFn39 at h
  split at h
  · cases m with
    | zero => cases h
    | succ m => exact runK_some (okT16 m) hM (okL9 m) ((evFn39 m R _ _ _ k).trans h)
  · exact okT16 m R 39 _ k x h

/-- a round of a loop of slices.Index[[]byte,byte] -/
def Lp83_2_step {R : Type} (m : Nat) (kx0 : Int → Int → Option R) (kx1 : Int → Option R) (r230 : Abs.Rows) (i231 : Int) (i232 : Int) (i233 : Int) (REC : Int → Option R) (i234 : Int) : Option R :=
  bif decide (i234 < i233) then (bif decide ((0 : Int) ≤ i234 ∧ i234 < (↑(List.length r230) : Int)) then (bif i231 == fI r230 (Int.toNat i234) (0 : Nat) then (kx0 i234 i234) else
  (REC (IntKind.wrap IntKind.i64 (i234 + (1 : Int))))) else
  (none)) else
  (kx1 i234)
def Lp83_2 {R : Type} (m : Nat) (kx0 : Int → Int → Option R) (kx1 : Int → Option R) (r230 : Abs.Rows) (i231 : Int) (i232 : Int) (i233 : Int) : Nat → Int → Option R
  | 0, _ => none
  | n + 1, i234 => Lp83_2_step m kx0 kx1 r230 i231 i232 i233 (Lp83_2 m kx0 kx1 r230 i231 i232 i233 n) i234
def ELp83_2 (m : Nat) (R : Type) : Nat → List V → (Ex → List V → Option R) → Option R
  | 0, _, _ => none
  | n + 1, vs, k => match vs with
    | [V.bor [LT.int IntKind.u8] r230, V.f (F.lit (Value.int IntKind.u8 i231)), V.f (F.lit (Value.int IntKind.i64 i232)), V.f (F.lit (Value.int IntKind.i64 i233)), V.f (F.lit (Value.int IntKind.i64 i234)), V.undef, V.undef] => Lp83_2_step m (fun i235 i236 => k Ex.ret [V.bor [LT.int IntKind.u8] r230, V.f (F.lit (Value.int IntKind.u8 i231)), V.f (F.lit (Value.int IntKind.i64 i235)), V.f (F.lit (Value.int IntKind.i64 i233)), V.f (F.lit (Value.int IntKind.i64 i236)), V.undef, V.undef]) (fun i237 => k (Ex.exit (0 : Nat)) [V.bor [LT.int IntKind.u8] r230, V.f (F.lit (Value.int IntKind.u8 i231)), V.f (F.lit (Value.int IntKind.i64 i232)), V.f (F.lit (Value.int IntKind.i64 i233)), V.f (F.lit (Value.int IntKind.i64 i237)), V.undef, V.undef]) r230 i231 i232 i233 (fun i234 => ELp83_2 m R n [V.bor [LT.int IntKind.u8] r230, V.f (F.lit (Value.int IntKind.u8 i231)), V.f (F.lit (Value.int IntKind.i64 i232)), V.f (F.lit (Value.int IntKind.i64 i233)), V.f (F.lit (Value.int IntKind.i64 i234)), V.undef, V.undef] k) i234
    | _ => none
def brLp83_2 (m : Nat) (L : LTbl) (R : Type) (vs : List V) (k : Ex → List V → Option R) : Option R := match vs with
  | [V.bor [LT.int IntKind.u8] r230, V.f (F.lit (Value.int IntKind.u8 i231)), V.f (F.lit (Value.int IntKind.i64 i232)), V.f (F.lit (Value.int IntKind.i64 i233)), V.f (F.lit (Value.int IntKind.i64 i234)), V.undef, V.undef] => Lp83_2 m (fun i235 i236 => k Ex.ret [V.bor [LT.int IntKind.u8] r230, V.f (F.lit (Value.int IntKind.u8 i231)), V.f (F.lit (Value.int IntKind.i64 i235)), V.f (F.lit (Value.int IntKind.i64 i233)), V.f (F.lit (Value.int IntKind.i64 i236)), V.undef, V.undef]) (fun i237 => k (Ex.exit (0 : Nat)) [V.bor [LT.int IntKind.u8] r230, V.f (F.lit (Value.int IntKind.u8 i231)), V.f (F.lit (Value.int IntKind.i64 i232)), V.f (F.lit (Value.int IntKind.i64 i233)), V.f (F.lit (Value.int IntKind.i64 i237)), V.undef, V.undef]) r230 i231 i232 i233 m i234
  | _ => L R 83 2 vs k
set_option maxRecDepth 100000 in
theorem stLp83_2 (m n : Nat) (R : Type) (r230 : Abs.Rows) (i231 : Int) (i232 : Int) (i233 : Int) (i234 : Int) (k : Ex → List V → Option R) : codeK Try.prog H (T17 m) 83 (L9 m) 3 (loopBody Try.prog 83 2) (mkEnv [0, 1, 4, 7, 8, 19, 20] [V.bor [LT.int IntKind.u8] r230, V.f (F.lit (Value.int IntKind.u8 i231)), V.f (F.lit (Value.int IntKind.i64 i232)), V.f (F.lit (Value.int IntKind.i64 i233)), V.f (F.lit (Value.int IntKind.i64 i234)), V.undef, V.undef] 0 (H.len 83)) (fun e env' => match e with | .normal => ELp83_2 m R n (vals [0, 1, 4, 7, 8, 19, 20] env') k | e => k e (vals [0, 1, 4, 7, 8, 19, 20] env')) = Lp83_2_step m (fun i235 i236 => k Ex.ret [V.bor [LT.int IntKind.u8] r230, V.f (F.lit (Value.int IntKind.u8 i231)), V.f (F.lit (Value.int IntKind.i64 i235)), V.f (F.lit (Value.int IntKind.i64 i233)), V.f (F.lit (Value.int IntKind.i64 i236)), V.undef, V.undef]) (fun i237 => k (Ex.exit (0 : Nat)) [V.bor [LT.int IntKind.u8] r230, V.f (F.lit (Value.int IntKind.u8 i231)), V.f (F.lit (Value.int IntKind.i64 i232)), V.f (F.lit (Value.int IntKind.i64 i233)), V.f (F.lit (Value.int IntKind.i64 i237)), V.undef, V.undef]) r230 i231 i232 i233 (fun i234 => ELp83_2 m R n [V.bor [LT.int IntKind.u8] r230, V.f (F.lit (Value.int IntKind.u8 i231)), V.f (F.lit (Value.int IntKind.i64 i232)), V.f (F.lit (Value.int IntKind.i64 i233)), V.f (F.lit (Value.int IntKind.i64 i234)), V.undef, V.undef] k) i234 := by kernel_rfl
theorem eqLp83_2 (m : Nat) (R : Type) (r230 : Abs.Rows) (i231 : Int) (i232 : Int) (i233 : Int) (k : Ex → List V → Option R) : ∀ (n : Nat) (i234 : Int), ELp83_2 m R n [V.bor [LT.int IntKind.u8] r230, V.f (F.lit (Value.int IntKind.u8 i231)), V.f (F.lit (Value.int IntKind.i64 i232)), V.f (F.lit (Value.int IntKind.i64 i233)), V.f (F.lit (Value.int IntKind.i64 i234)), V.undef, V.undef] k = Lp83_2 m (fun i235 i236 => k Ex.ret [V.bor [LT.int IntKind.u8] r230, V.f (F.lit (Value.int IntKind.u8 i231)), V.f (F.lit (Value.int IntKind.i64 i235)), V.f (F.lit (Value.int IntKind.i64 i233)), V.f (F.lit (Value.int IntKind.i64 i236)), V.undef, V.undef]) (fun i237 => k (Ex.exit (0 : Nat)) [V.bor [LT.int IntKind.u8] r230, V.f (F.lit (Value.int IntKind.u8 i231)), V.f (F.lit (Value.int IntKind.i64 i232)), V.f (F.lit (Value.int IntKind.i64 i233)), V.f (F.lit (Value.int IntKind.i64 i237)), V.undef, V.undef]) r230 i231 i232 i233 n i234
  | 0, _ => rfl
  | n + 1, i234 => by
    simp only [ELp83_2, Lp83_2]
    congr 1
    funext i234
    exact eqLp83_2 m R r230 i231 i232 i233 k n i234
def L10 (m : Nat) : LTbl := addB 83 2 (brLp83_2 m (L9 m)) (L9 m)
theorem okL10 (m : Nat) : LTOk Try.prog H (L10 m) := addB_ok (okT17 m) hM (okL9 m) (l := [0, 1, 4, 7, 8, 19, 20]) (by kernel_rfl) (by kernel_rfl) m (fun R n vs k => ELp83_2 m R n vs k) (fun R vs k => rfl) (fun R n vs k x h => by
      simp only [ELp83_2] at h
      split at h
      · exact (stLp83_2 m n R _ _ _ _ _ k).trans h
      · cases h) fun R vs k x h => by
    unfold brLp83_2 at h
    split at h
    · exact .inl ((eqLp83_2 m R _ _ _ _ k m _).trans h)
    · exact .inr h

/-- slices.Index[[]byte,byte] -/
def Fn83 {R : Type} (m : Nat) : Abs.Rows → Int → (Int → Option R) → Option R := match m with
  | 0 => fun _ _ _ => none
  | m + 1 => fun r228 i229 k =>
  Lp83_2 m (fun i238 i239 => k i238) (fun i240 => k ((-1 : Int))) r228 i229 ((0 : Int)) ((↑(List.length r228) : Int)) m ((0 : Int))
def brFn83 (m : Nat) (T : Tbl) (R : Type) (vs : List V) (k : V → List V → Option R) : Option R := match vs with
  | [V.bor [LT.int IntKind.u8] r228, V.f (F.lit (Value.int IntKind.u8 i229))] => Fn83 m r228 i229 (fun i241 => k (V.f (F.lit (Value.int IntKind.i64 i241))) [V.undef, V.undef])
  | _ => T R 83 vs k
set_option maxRecDepth 100000 in
theorem evFn83 (m : Nat) (R : Type) (r228 : Abs.Rows) (i229 : Int) (k : V → List V → Option R) : runK Try.prog H (T17 m) (L10 m) 83 [V.bor [LT.int IntKind.u8] r228, V.f (F.lit (Value.int IntKind.u8 i229))] k = Fn83 (m + 1) r228 i229 (fun i241 => k (V.f (F.lit (Value.int IntKind.i64 i241))) [V.undef, V.undef]) := by kernel_rfl
def T18 (m : Nat) : Tbl := addT 83 (brFn83 m (T17 m)) (T17 m)
theorem okT18 (m : Nat) : TblOk Try.prog (T18 m) := addT_ok (okT17 m) fun R vs k x h => by
  unfold brFn83 at h
  split at h
  · cases m with
    | zero => cases h
    | succ m => exact runK_some (okT17 m) hM (okL10 m) ((evFn83 m R _ _ k).trans h)
  · exact okT17 m R 83 _ k x h

/-- hookflash/media.within -/
def Fn67 {R : Type} (m : Nat) : Int → Int → Int → (Bool → Option R) → Option R := match m with
  | 0 => fun _ _ _ _ => none
  | m + 1 => fun i243 i244 i245 k =>
  bif decide (i243 ≥ i244) then (k (decide (i243 ≤ i245))) else
  (k false)
def brFn67 (m : Nat) (T : Tbl) (R : Type) (vs : List V) (k : V → List V → Option R) : Option R := match vs with
  | [V.f (F.lit (Value.int IntKind.i64 i243)), V.f (F.lit (Value.int IntKind.i64 i244)), V.f (F.lit (Value.int IntKind.i64 i245))] => Fn67 m i243 i244 i245 (fun b246 => k (V.f (F.lit (Value.bool b246))) [V.undef, V.undef, V.undef])
  | _ => T R 67 vs k
set_option maxRecDepth 100000 in
theorem evFn67 (m : Nat) (R : Type) (i243 : Int) (i244 : Int) (i245 : Int) (k : V → List V → Option R) : runK Try.prog H (T18 m) (L10 m) 67 [V.f (F.lit (Value.int IntKind.i64 i243)), V.f (F.lit (Value.int IntKind.i64 i244)), V.f (F.lit (Value.int IntKind.i64 i245))] k = Fn67 (m + 1) i243 i244 i245 (fun b246 => k (V.f (F.lit (Value.bool b246))) [V.undef, V.undef, V.undef]) := by kernel_rfl
def T19 (m : Nat) : Tbl := addT 67 (brFn67 m (T18 m)) (T18 m)
theorem okT19 (m : Nat) : TblOk Try.prog (T19 m) := addT_ok (okT18 m) fun R vs k x h => by
  unfold brFn67 at h
  split at h
  · cases m with
    | zero => cases h
    | succ m => exact runK_some (okT18 m) hM (okL10 m) ((evFn67 m R _ _ _ k).trans h)
  · exact okT18 m R 67 _ k x h

/-- hookflash/media.rows -/
def Fn85 {R : Type} (m : Nat) : (Abs.Rows → Option R) → Option R := match m with
  | 0 => fun _ => none
  | m + 1 => fun  k =>
  k ([[F.lit (Value.int IntKind.i64 (27980 : Int))], [F.lit (Value.int IntKind.i64 (26956 : Int))], [F.lit (Value.int IntKind.i64 (25701 : Int))], [F.lit (Value.int IntKind.i64 (24219 : Int))]])
def brFn85 (m : Nat) (T : Tbl) (R : Type) (vs : List V) (k : V → List V → Option R) : Option R := match vs with
  | [] => Fn85 m  (fun r248 => k (V.own [LT.int IntKind.i64] r248) [])
  | _ => T R 85 vs k
set_option maxRecDepth 100000 in
theorem evFn85 (m : Nat) (R : Type)  (k : V → List V → Option R) : runK Try.prog H (T19 m) (L10 m) 85 [] k = Fn85 (m + 1)  (fun r248 => k (V.own [LT.int IntKind.i64] r248) []) := by kernel_rfl
def T20 (m : Nat) : Tbl := addT 85 (brFn85 m (T19 m)) (T19 m)
theorem okT20 (m : Nat) : TblOk Try.prog (T20 m) := addT_ok (okT19 m) fun R vs k x h => by
  unfold brFn85 at h
  split at h
  · cases m with
    | zero => cases h
    | succ m => exact runK_some (okT19 m) hM (okL10 m) ((evFn85 m R k).trans h)
  · exact okT19 m R 85 _ k x h

/-- a round of a loop of hookflash/media.hum -/
def Lp84_3_step {R : Type} (m : Nat) (kx0 : Abs.Rows → Int → Option R) (i252 : Int) (i254 : Int) (REC : Abs.Rows → Int → Option R) (r253 : Abs.Rows) (i255 : Int) : Option R :=
  bif decide (i255 < i254) then (bif i255 == (0 : Int) then (REC r253 (IntKind.wrap IntKind.i64 (i255 + (1 : Int)))) else
  (bif i255 == (1 : Int) then (bif decide ((0 : Int) ≤ i255 ∧ i255 < (↑(List.length r253) : Int)) then (REC (stR [LT.int IntKind.i64] r253 (Int.toNat i255) (0 : Nat) [F.lit (Value.int IntKind.i64 (Int.fdiv i252 ((2 : Int) ^ min (Int.toNat (3 : Int)) (64 : Nat))))]) (IntKind.wrap IntKind.i64 (i255 + (1 : Int)))) else
  (none)) else
  (bif decide ((0 : Int) ≤ IntKind.wrap IntKind.i64 (i255 - (1 : Int)) ∧ IntKind.wrap IntKind.i64 (i255 - (1 : Int)) < (↑(List.length r253) : Int)) then (bif decide ((0 : Int) ≤ IntKind.wrap IntKind.i64 (i255 - (2 : Int)) ∧ IntKind.wrap IntKind.i64 (i255 - (2 : Int)) < (↑(List.length r253) : Int)) then (bif decide ((0 : Int) ≤ i255 ∧ i255 < (↑(List.length r253) : Int)) then (letV (IntKind.wrap IntKind.i64 (Int.fdiv (IntKind.wrap IntKind.i64 (i252 * fI r253 (Int.toNat (IntKind.wrap IntKind.i64 (i255 - (1 : Int)))) (0 : Nat))) ((2 : Int) ^ min (Int.toNat (14 : Int)) (64 : Nat)) - fI r253 (Int.toNat (IntKind.wrap IntKind.i64 (i255 - (2 : Int)))) (0 : Nat))) (fun i256 => REC (stR [LT.int IntKind.i64] r253 (Int.toNat i255) (0 : Nat) [F.lit (Value.int IntKind.i64 i256)]) (IntKind.wrap IntKind.i64 (i255 + (1 : Int))))) else
  (none)) else
  (none)) else
  (none)))) else
  (kx0 r253 i255)
def Lp84_3 {R : Type} (m : Nat) (kx0 : Abs.Rows → Int → Option R) (i252 : Int) (i254 : Int) : Nat → Abs.Rows → Int → Option R
  | 0, _, _ => none
  | n + 1, r253, i255 => Lp84_3_step m kx0 i252 i254 (Lp84_3 m kx0 i252 i254 n) r253 i255
def ELp84_3 (m : Nat) (R : Type) : Nat → List V → (Ex → List V → Option R) → Option R
  | 0, _, _ => none
  | n + 1, vs, k => match vs with
    | [V.f (F.lit (Value.int IntKind.i64 i252)), V.own [LT.int IntKind.i64] r253, V.undef, V.f (F.lit (Value.int IntKind.i64 i254)), V.f (F.lit (Value.int IntKind.i64 i255)), V.undef, V.undef] => Lp84_3_step m (fun r257 i258 => k (Ex.exit (0 : Nat)) [V.f (F.lit (Value.int IntKind.i64 i252)), V.own [LT.int IntKind.i64] r257, V.undef, V.f (F.lit (Value.int IntKind.i64 i254)), V.f (F.lit (Value.int IntKind.i64 i258)), V.undef, V.undef]) i252 i254 (fun r253 i255 => ELp84_3 m R n [V.f (F.lit (Value.int IntKind.i64 i252)), V.own [LT.int IntKind.i64] r253, V.undef, V.f (F.lit (Value.int IntKind.i64 i254)), V.f (F.lit (Value.int IntKind.i64 i255)), V.undef, V.undef] k) r253 i255
    | _ => none
def brLp84_3 (m : Nat) (L : LTbl) (R : Type) (vs : List V) (k : Ex → List V → Option R) : Option R := match vs with
  | [V.f (F.lit (Value.int IntKind.i64 i252)), V.own [LT.int IntKind.i64] r253, V.undef, V.f (F.lit (Value.int IntKind.i64 i254)), V.f (F.lit (Value.int IntKind.i64 i255)), V.undef, V.undef] => Lp84_3 m (fun r257 i258 => k (Ex.exit (0 : Nat)) [V.f (F.lit (Value.int IntKind.i64 i252)), V.own [LT.int IntKind.i64] r257, V.undef, V.f (F.lit (Value.int IntKind.i64 i254)), V.f (F.lit (Value.int IntKind.i64 i258)), V.undef, V.undef]) i252 i254 m r253 i255
  | _ => L R 84 3 vs k
set_option maxRecDepth 100000 in
theorem stLp84_3 (m n : Nat) (R : Type) (i252 : Int) (r253 : Abs.Rows) (i254 : Int) (i255 : Int) (k : Ex → List V → Option R) : codeK Try.prog H (T20 m) 84 (L10 m) 4 (loopBody Try.prog 84 3) (mkEnv [0, 5, 8, 10, 11, 43, 44] [V.f (F.lit (Value.int IntKind.i64 i252)), V.own [LT.int IntKind.i64] r253, V.undef, V.f (F.lit (Value.int IntKind.i64 i254)), V.f (F.lit (Value.int IntKind.i64 i255)), V.undef, V.undef] 0 (H.len 84)) (fun e env' => match e with | .normal => ELp84_3 m R n (vals [0, 5, 8, 10, 11, 43, 44] env') k | e => k e (vals [0, 5, 8, 10, 11, 43, 44] env')) = Lp84_3_step m (fun r257 i258 => k (Ex.exit (0 : Nat)) [V.f (F.lit (Value.int IntKind.i64 i252)), V.own [LT.int IntKind.i64] r257, V.undef, V.f (F.lit (Value.int IntKind.i64 i254)), V.f (F.lit (Value.int IntKind.i64 i258)), V.undef, V.undef]) i252 i254 (fun r253 i255 => ELp84_3 m R n [V.f (F.lit (Value.int IntKind.i64 i252)), V.own [LT.int IntKind.i64] r253, V.undef, V.f (F.lit (Value.int IntKind.i64 i254)), V.f (F.lit (Value.int IntKind.i64 i255)), V.undef, V.undef] k) r253 i255 := by kernel_rfl
theorem eqLp84_3 (m : Nat) (R : Type) (i252 : Int) (i254 : Int) (k : Ex → List V → Option R) : ∀ (n : Nat) (r253 : Abs.Rows) (i255 : Int), ELp84_3 m R n [V.f (F.lit (Value.int IntKind.i64 i252)), V.own [LT.int IntKind.i64] r253, V.undef, V.f (F.lit (Value.int IntKind.i64 i254)), V.f (F.lit (Value.int IntKind.i64 i255)), V.undef, V.undef] k = Lp84_3 m (fun r257 i258 => k (Ex.exit (0 : Nat)) [V.f (F.lit (Value.int IntKind.i64 i252)), V.own [LT.int IntKind.i64] r257, V.undef, V.f (F.lit (Value.int IntKind.i64 i254)), V.f (F.lit (Value.int IntKind.i64 i258)), V.undef, V.undef]) i252 i254 n r253 i255
  | 0, _, _ => rfl
  | n + 1, r253, i255 => by
    simp only [ELp84_3, Lp84_3]
    congr 1
    funext r253 i255
    exact eqLp84_3 m R i252 i254 k n r253 i255
def L11 (m : Nat) : LTbl := addB 84 3 (brLp84_3 m (L10 m)) (L10 m)
theorem okL11 (m : Nat) : LTOk Try.prog H (L11 m) := addB_ok (okT20 m) hM (okL10 m) (l := [0, 5, 8, 10, 11, 43, 44]) (by kernel_rfl) (by kernel_rfl) m (fun R n vs k => ELp84_3 m R n vs k) (fun R vs k => rfl) (fun R n vs k x h => by
      simp only [ELp84_3] at h
      split at h
      · exact (stLp84_3 m n R _ _ _ _ k).trans h
      · cases h) fun R vs k x h => by
    unfold brLp84_3 at h
    split at h
    · exact .inl ((eqLp84_3 m R _ _ k m _ _).trans h)
    · exact .inr h

/-- hookflash/media.hum -/
def Fn84 {R : Type} (m : Nat) : Int → Int → (Abs.Rows → Option R) → Option R := match m with
  | 0 => fun _ _ _ => none
  | m + 1 => fun i250 i251 k =>
  bif decide ((0 : Int) ≤ i251 ∧ i251 ≤ i251 ∧ i251 ≤ (↑rowMax : Int)) then (Lp84_3 m (fun r259 i260 => k r259) i250 ((↑(List.length (List.replicate (Int.toNat i251) [F.lit (Value.int IntKind.i64 (0 : Int))])) : Int)) m (List.replicate (Int.toNat i251) [F.lit (Value.int IntKind.i64 (0 : Int))]) ((0 : Int))) else
  (none)
def brFn84 (m : Nat) (T : Tbl) (R : Type) (vs : List V) (k : V → List V → Option R) : Option R := match vs with
  | [V.f (F.lit (Value.int IntKind.i64 i250)), V.f (F.lit (Value.int IntKind.i64 i251))] => Fn84 m i250 i251 (fun r261 => k (V.own [LT.int IntKind.i64] r261) [V.undef, V.undef])
  | _ => T R 84 vs k
set_option maxRecDepth 100000 in
theorem evFn84 (m : Nat) (R : Type) (i250 : Int) (i251 : Int) (k : V → List V → Option R) : runK Try.prog H (T20 m) (L11 m) 84 [V.f (F.lit (Value.int IntKind.i64 i250)), V.f (F.lit (Value.int IntKind.i64 i251))] k = Fn84 (m + 1) i250 i251 (fun r261 => k (V.own [LT.int IntKind.i64] r261) [V.undef, V.undef]) := by kernel_rfl
def T21 (m : Nat) : Tbl := addT 84 (brFn84 m (T20 m)) (T20 m)
theorem okT21 (m : Nat) : TblOk Try.prog (T21 m) := addT_ok (okT20 m) fun R vs k x h => by
  unfold brFn84 at h
  split at h
  · cases m with
    | zero => cases h
    | succ m => exact runK_some (okT20 m) hM (okL11 m) ((evFn84 m R _ _ k).trans h)
  · exact okT20 m R 84 _ k x h

/-- hookflash/media.columns -/
def Fn86 {R : Type} (m : Nat) : (Abs.Rows → Option R) → Option R := match m with
  | 0 => fun _ => none
  | m + 1 => fun  k =>
  k ([[F.lit (Value.int IntKind.i64 (19073 : Int))], [F.lit (Value.int IntKind.i64 (16325 : Int))], [F.lit (Value.int IntKind.i64 (13085 : Int))], [F.lit (Value.int IntKind.i64 (9315 : Int))]])
def brFn86 (m : Nat) (T : Tbl) (R : Type) (vs : List V) (k : V → List V → Option R) : Option R := match vs with
  | [] => Fn86 m  (fun r263 => k (V.own [LT.int IntKind.i64] r263) [])
  | _ => T R 86 vs k
set_option maxRecDepth 100000 in
theorem evFn86 (m : Nat) (R : Type)  (k : V → List V → Option R) : runK Try.prog H (T21 m) (L11 m) 86 [] k = Fn86 (m + 1)  (fun r263 => k (V.own [LT.int IntKind.i64] r263) []) := by kernel_rfl
def T22 (m : Nat) : Tbl := addT 86 (brFn86 m (T21 m)) (T21 m)
theorem okT22 (m : Nat) : TblOk Try.prog (T22 m) := addT_ok (okT21 m) fun R vs k x h => by
  unfold brFn86 at h
  split at h
  · cases m with
    | zero => cases h
    | succ m => exact runK_some (okT21 m) hM (okL11 m) ((evFn86 m R k).trans h)
  · exact okT21 m R 86 _ k x h

/-- a round of a loop of hookflash/media.Tone -/
def Lp54_10_step {R : Type} (m : Nat) (kx0 : Abs.Rows → Int → Option R) (r267 : Abs.Rows) (i268 : Int) (REC : Abs.Rows → Int → Option R) (r266 : Abs.Rows) (i269 : Int) : Option R :=
  bif decide (i269 < i268) then (bif decide ((0 : Int) ≤ i269 ∧ i269 < (↑(List.length r267) : Int)) then (bif decide ((0 : Int) ≤ i269 ∧ i269 < (↑(List.length r266) : Int)) then (bif decide ((0 : Int) ≤ i269 ∧ i269 < (↑(List.length r266) : Int)) then (REC (stR [LT.int IntKind.i64] r266 (Int.toNat i269) (0 : Nat) [F.lit (Value.int IntKind.i64 (IntKind.wrap IntKind.i64 (fI r266 (Int.toNat i269) (0 : Nat) + fI r267 (Int.toNat i269) (0 : Nat))))]) (IntKind.wrap IntKind.i64 (i269 + (1 : Int)))) else
  (none)) else
  (none)) else
  (none)) else
  (kx0 r266 i269)
def Lp54_10 {R : Type} (m : Nat) (kx0 : Abs.Rows → Int → Option R) (r267 : Abs.Rows) (i268 : Int) : Nat → Abs.Rows → Int → Option R
  | 0, _, _ => none
  | n + 1, r266, i269 => Lp54_10_step m kx0 r267 i268 (Lp54_10 m kx0 r267 i268 n) r266 i269
def ELp54_10 (m : Nat) (R : Type) : Nat → List V → (Ex → List V → Option R) → Option R
  | 0, _, _ => none
  | n + 1, vs, k => match vs with
    | [V.own [LT.int IntKind.i64] r266, V.undef, V.own [LT.int IntKind.i64] r267, V.f (F.lit (Value.int IntKind.i64 i268)), V.f (F.lit (Value.int IntKind.i64 i269)), V.undef, V.undef] => Lp54_10_step m (fun r270 i271 => k (Ex.exit (0 : Nat)) [V.own [LT.int IntKind.i64] r270, V.undef, V.own [LT.int IntKind.i64] r267, V.f (F.lit (Value.int IntKind.i64 i268)), V.f (F.lit (Value.int IntKind.i64 i271)), V.undef, V.undef]) r267 i268 (fun r266 i269 => ELp54_10 m R n [V.own [LT.int IntKind.i64] r266, V.undef, V.own [LT.int IntKind.i64] r267, V.f (F.lit (Value.int IntKind.i64 i268)), V.f (F.lit (Value.int IntKind.i64 i269)), V.undef, V.undef] k) r266 i269
    | _ => none
def brLp54_10 (m : Nat) (L : LTbl) (R : Type) (vs : List V) (k : Ex → List V → Option R) : Option R := match vs with
  | [V.own [LT.int IntKind.i64] r266, V.undef, V.own [LT.int IntKind.i64] r267, V.f (F.lit (Value.int IntKind.i64 i268)), V.f (F.lit (Value.int IntKind.i64 i269)), V.undef, V.undef] => Lp54_10 m (fun r270 i271 => k (Ex.exit (0 : Nat)) [V.own [LT.int IntKind.i64] r270, V.undef, V.own [LT.int IntKind.i64] r267, V.f (F.lit (Value.int IntKind.i64 i268)), V.f (F.lit (Value.int IntKind.i64 i271)), V.undef, V.undef]) r267 i268 m r266 i269
  | _ => L R 54 10 vs k
set_option maxRecDepth 100000 in
theorem stLp54_10 (m n : Nat) (R : Type) (r266 : Abs.Rows) (r267 : Abs.Rows) (i268 : Int) (i269 : Int) (k : Ex → List V → Option R) : codeK Try.prog H (T22 m) 54 (L11 m) 11 (loopBody Try.prog 54 10) (mkEnv [7, 25, 32, 33, 34, 48, 49] [V.own [LT.int IntKind.i64] r266, V.undef, V.own [LT.int IntKind.i64] r267, V.f (F.lit (Value.int IntKind.i64 i268)), V.f (F.lit (Value.int IntKind.i64 i269)), V.undef, V.undef] 0 (H.len 54)) (fun e env' => match e with | .normal => ELp54_10 m R n (vals [7, 25, 32, 33, 34, 48, 49] env') k | e => k e (vals [7, 25, 32, 33, 34, 48, 49] env')) = Lp54_10_step m (fun r270 i271 => k (Ex.exit (0 : Nat)) [V.own [LT.int IntKind.i64] r270, V.undef, V.own [LT.int IntKind.i64] r267, V.f (F.lit (Value.int IntKind.i64 i268)), V.f (F.lit (Value.int IntKind.i64 i271)), V.undef, V.undef]) r267 i268 (fun r266 i269 => ELp54_10 m R n [V.own [LT.int IntKind.i64] r266, V.undef, V.own [LT.int IntKind.i64] r267, V.f (F.lit (Value.int IntKind.i64 i268)), V.f (F.lit (Value.int IntKind.i64 i269)), V.undef, V.undef] k) r266 i269 := by kernel_rfl
theorem eqLp54_10 (m : Nat) (R : Type) (r267 : Abs.Rows) (i268 : Int) (k : Ex → List V → Option R) : ∀ (n : Nat) (r266 : Abs.Rows) (i269 : Int), ELp54_10 m R n [V.own [LT.int IntKind.i64] r266, V.undef, V.own [LT.int IntKind.i64] r267, V.f (F.lit (Value.int IntKind.i64 i268)), V.f (F.lit (Value.int IntKind.i64 i269)), V.undef, V.undef] k = Lp54_10 m (fun r270 i271 => k (Ex.exit (0 : Nat)) [V.own [LT.int IntKind.i64] r270, V.undef, V.own [LT.int IntKind.i64] r267, V.f (F.lit (Value.int IntKind.i64 i268)), V.f (F.lit (Value.int IntKind.i64 i271)), V.undef, V.undef]) r267 i268 n r266 i269
  | 0, _, _ => rfl
  | n + 1, r266, i269 => by
    simp only [ELp54_10, Lp54_10]
    congr 1
    funext r266 i269
    exact eqLp54_10 m R r267 i268 k n r266 i269
def L12 (m : Nat) : LTbl := addB 54 10 (brLp54_10 m (L11 m)) (L11 m)
theorem okL12 (m : Nat) : LTOk Try.prog H (L12 m) := addB_ok (okT22 m) hM (okL11 m) (l := [7, 25, 32, 33, 34, 48, 49]) (by kernel_rfl) (by kernel_rfl) m (fun R n vs k => ELp54_10 m R n vs k) (fun R vs k => rfl) (fun R n vs k x h => by
      simp only [ELp54_10] at h
      split at h
      · exact (stLp54_10 m n R _ _ _ _ k).trans h
      · cases h) fun R vs k x h => by
    unfold brLp54_10 at h
    split at h
    · exact .inl ((eqLp54_10 m R _ _ k m _ _).trans h)
    · exact .inr h

/-- hookflash/media.Tone -/
def Fn54 {R : Type} (m : Nat) : Int → Int → (Abs.Rows → Int → Option R) → Option R := match m with
  | 0 => fun _ _ _ => none
  | m + 1 => fun i226 i227 k =>
  Fn83 m ([[F.lit (Value.int IntKind.u8 (49 : Int))], [F.lit (Value.int IntKind.u8 (50 : Int))], [F.lit (Value.int IntKind.u8 (51 : Int))], [F.lit (Value.int IntKind.u8 (65 : Int))], [F.lit (Value.int IntKind.u8 (52 : Int))], [F.lit (Value.int IntKind.u8 (53 : Int))], [F.lit (Value.int IntKind.u8 (54 : Int))], [F.lit (Value.int IntKind.u8 (66 : Int))], [F.lit (Value.int IntKind.u8 (55 : Int))], [F.lit (Value.int IntKind.u8 (56 : Int))], [F.lit (Value.int IntKind.u8 (57 : Int))], [F.lit (Value.int IntKind.u8 (67 : Int))], [F.lit (Value.int IntKind.u8 (42 : Int))], [F.lit (Value.int IntKind.u8 (48 : Int))], [F.lit (Value.int IntKind.u8 (35 : Int))], [F.lit (Value.int IntKind.u8 (68 : Int))]]) i226 (fun i242 => bif decide (i242 < (0 : Int)) then (k rows0 ((4 : Int))) else
  (Fn67 m i227 ((0 : Int)) ((20000 : Int)) (fun b247 => bif !b247 then (k rows0 ((1 : Int))) else
  (Fn85 m  (fun r249 => bif decide ((0 : Int) ≤ IntKind.wrap IntKind.i64 (Int.tdiv i242 (4 : Int)) ∧ IntKind.wrap IntKind.i64 (Int.tdiv i242 (4 : Int)) < (↑(List.length r249) : Int)) then (Fn84 m (fI r249 (Int.toNat (IntKind.wrap IntKind.i64 (Int.tdiv i242 (4 : Int)))) (0 : Nat)) i227 (fun r262 => Fn86 m  (fun r264 => bif decide ((0 : Int) ≤ Int.tmod i242 (4 : Int) ∧ Int.tmod i242 (4 : Int) < (↑(List.length r264) : Int)) then (Fn84 m (fI r264 (Int.toNat (Int.tmod i242 (4 : Int))) (0 : Nat)) i227 (fun r265 => Lp54_10 m (fun r272 i273 => k r272 ((0 : Int))) r265 ((↑(List.length r265) : Int)) m r262 ((0 : Int)))) else
  (none)))) else
  (none))))))
def brFn54 (m : Nat) (T : Tbl) (R : Type) (vs : List V) (k : V → List V → Option R) : Option R := match vs with
  | [V.f (F.lit (Value.int IntKind.u8 i226)), V.f (F.lit (Value.int IntKind.i64 i227))] => Fn54 m i226 i227 (fun r274 i275 => k (V.tup [V.own [LT.int IntKind.i64] r274, V.f (F.lit (Value.int IntKind.i64 i275))]) [V.undef, V.undef])
  | _ => T R 54 vs k
set_option maxRecDepth 100000 in
theorem evFn54 (m : Nat) (R : Type) (i226 : Int) (i227 : Int) (k : V → List V → Option R) : runK Try.prog H (T22 m) (L12 m) 54 [V.f (F.lit (Value.int IntKind.u8 i226)), V.f (F.lit (Value.int IntKind.i64 i227))] k = Fn54 (m + 1) i226 i227 (fun r274 i275 => k (V.tup [V.own [LT.int IntKind.i64] r274, V.f (F.lit (Value.int IntKind.i64 i275))]) [V.undef, V.undef]) := by kernel_rfl
def T23 (m : Nat) : Tbl := addT 54 (brFn54 m (T22 m)) (T22 m)
theorem okT23 (m : Nat) : TblOk Try.prog (T23 m) := addT_ok (okT22 m) fun R vs k x h => by
  unfold brFn54 at h
  split at h
  · cases m with
    | zero => cases h
    | succ m => exact runK_some (okT22 m) hM (okL12 m) ((evFn54 m R _ _ k).trans h)
  · exact okT22 m R 54 _ k x h

/-- hookflash/flashlaw2.when -/
def Fn24 {R : Type} (m : Nat) : Bool → Int → (Int → Option R) → Option R := match m with
  | 0 => fun _ _ _ => none
  | m + 1 => fun b280 i281 k =>
  bif b280 then (k i281) else
  (k ((0 : Int)))
def brFn24 (m : Nat) (T : Tbl) (R : Type) (vs : List V) (k : V → List V → Option R) : Option R := match vs with
  | [V.f (F.lit (Value.bool b280)), V.f (F.lit (Value.int IntKind.i64 i281))] => Fn24 m b280 i281 (fun i282 => k (V.f (F.lit (Value.int IntKind.i64 i282))) [V.undef, V.undef])
  | _ => T R 24 vs k
set_option maxRecDepth 100000 in
theorem evFn24 (m : Nat) (R : Type) (b280 : Bool) (i281 : Int) (k : V → List V → Option R) : runK Try.prog H (T23 m) (L12 m) 24 [V.f (F.lit (Value.bool b280)), V.f (F.lit (Value.int IntKind.i64 i281))] k = Fn24 (m + 1) b280 i281 (fun i282 => k (V.f (F.lit (Value.int IntKind.i64 i282))) [V.undef, V.undef]) := by kernel_rfl
def T24 (m : Nat) : Tbl := addT 24 (brFn24 m (T23 m)) (T23 m)
theorem okT24 (m : Nat) : TblOk Try.prog (T24 m) := addT_ok (okT23 m) fun R vs k x h => by
  unfold brFn24 at h
  split at h
  · cases m with
    | zero => cases h
    | succ m => exact runK_some (okT23 m) hM (okL12 m) ((evFn24 m R _ _ k).trans h)
  · exact okT23 m R 24 _ k x h

/-- a round of a loop of hookflash/flashlaw2.errs -/
def Lp35_2_step {R : Type} (m : Nat) (kx0 : Int → Int → Option R) (kx1 : Int → Option R) (r286 : Abs.Rows) (i287 : Int) (r288 : Abs.Rows) (i289 : Int) (REC : Int → Option R) (i290 : Int) : Option R :=
  bif decide (i290 < i289) then (bif decide ((0 : Int) ≤ i290 ∧ i290 < (↑(List.length r288) : Int)) then (bif fI r288 (Int.toNat i290) (0 : Nat) != (0 : Int) then (kx0 (fI r288 (Int.toNat i290) (0 : Nat)) i290) else
  (REC (IntKind.wrap IntKind.i64 (i290 + (1 : Int))))) else
  (none)) else
  (kx1 i290)
def Lp35_2 {R : Type} (m : Nat) (kx0 : Int → Int → Option R) (kx1 : Int → Option R) (r286 : Abs.Rows) (i287 : Int) (r288 : Abs.Rows) (i289 : Int) : Nat → Int → Option R
  | 0, _ => none
  | n + 1, i290 => Lp35_2_step m kx0 kx1 r286 i287 r288 i289 (Lp35_2 m kx0 kx1 r286 i287 r288 i289 n) i290
def ELp35_2 (m : Nat) (R : Type) : Nat → List V → (Ex → List V → Option R) → Option R
  | 0, _, _ => none
  | n + 1, vs, k => match vs with
    | [V.bor [LT.int IntKind.i64] r286, V.f (F.lit (Value.int IntKind.i64 i287)), V.bor [LT.int IntKind.i64] r288, V.f (F.lit (Value.int IntKind.i64 i289)), V.f (F.lit (Value.int IntKind.i64 i290)), V.undef] => Lp35_2_step m (fun i291 i292 => k Ex.ret [V.bor [LT.int IntKind.i64] r286, V.f (F.lit (Value.int IntKind.i64 i291)), V.bor [LT.int IntKind.i64] r288, V.f (F.lit (Value.int IntKind.i64 i289)), V.f (F.lit (Value.int IntKind.i64 i292)), V.undef]) (fun i293 => k (Ex.exit (0 : Nat)) [V.bor [LT.int IntKind.i64] r286, V.f (F.lit (Value.int IntKind.i64 i287)), V.bor [LT.int IntKind.i64] r288, V.f (F.lit (Value.int IntKind.i64 i289)), V.f (F.lit (Value.int IntKind.i64 i293)), V.undef]) r286 i287 r288 i289 (fun i290 => ELp35_2 m R n [V.bor [LT.int IntKind.i64] r286, V.f (F.lit (Value.int IntKind.i64 i287)), V.bor [LT.int IntKind.i64] r288, V.f (F.lit (Value.int IntKind.i64 i289)), V.f (F.lit (Value.int IntKind.i64 i290)), V.undef] k) i290
    | _ => none
def brLp35_2 (m : Nat) (L : LTbl) (R : Type) (vs : List V) (k : Ex → List V → Option R) : Option R := match vs with
  | [V.bor [LT.int IntKind.i64] r286, V.f (F.lit (Value.int IntKind.i64 i287)), V.bor [LT.int IntKind.i64] r288, V.f (F.lit (Value.int IntKind.i64 i289)), V.f (F.lit (Value.int IntKind.i64 i290)), V.undef] => Lp35_2 m (fun i291 i292 => k Ex.ret [V.bor [LT.int IntKind.i64] r286, V.f (F.lit (Value.int IntKind.i64 i291)), V.bor [LT.int IntKind.i64] r288, V.f (F.lit (Value.int IntKind.i64 i289)), V.f (F.lit (Value.int IntKind.i64 i292)), V.undef]) (fun i293 => k (Ex.exit (0 : Nat)) [V.bor [LT.int IntKind.i64] r286, V.f (F.lit (Value.int IntKind.i64 i287)), V.bor [LT.int IntKind.i64] r288, V.f (F.lit (Value.int IntKind.i64 i289)), V.f (F.lit (Value.int IntKind.i64 i293)), V.undef]) r286 i287 r288 i289 m i290
  | _ => L R 35 2 vs k
set_option maxRecDepth 100000 in
theorem stLp35_2 (m n : Nat) (R : Type) (r286 : Abs.Rows) (i287 : Int) (r288 : Abs.Rows) (i289 : Int) (i290 : Int) (k : Ex → List V → Option R) : codeK Try.prog H (T24 m) 35 (L12 m) 3 (loopBody Try.prog 35 2) (mkEnv [0, 2, 5, 6, 7, 15] [V.bor [LT.int IntKind.i64] r286, V.f (F.lit (Value.int IntKind.i64 i287)), V.bor [LT.int IntKind.i64] r288, V.f (F.lit (Value.int IntKind.i64 i289)), V.f (F.lit (Value.int IntKind.i64 i290)), V.undef] 0 (H.len 35)) (fun e env' => match e with | .normal => ELp35_2 m R n (vals [0, 2, 5, 6, 7, 15] env') k | e => k e (vals [0, 2, 5, 6, 7, 15] env')) = Lp35_2_step m (fun i291 i292 => k Ex.ret [V.bor [LT.int IntKind.i64] r286, V.f (F.lit (Value.int IntKind.i64 i291)), V.bor [LT.int IntKind.i64] r288, V.f (F.lit (Value.int IntKind.i64 i289)), V.f (F.lit (Value.int IntKind.i64 i292)), V.undef]) (fun i293 => k (Ex.exit (0 : Nat)) [V.bor [LT.int IntKind.i64] r286, V.f (F.lit (Value.int IntKind.i64 i287)), V.bor [LT.int IntKind.i64] r288, V.f (F.lit (Value.int IntKind.i64 i289)), V.f (F.lit (Value.int IntKind.i64 i293)), V.undef]) r286 i287 r288 i289 (fun i290 => ELp35_2 m R n [V.bor [LT.int IntKind.i64] r286, V.f (F.lit (Value.int IntKind.i64 i287)), V.bor [LT.int IntKind.i64] r288, V.f (F.lit (Value.int IntKind.i64 i289)), V.f (F.lit (Value.int IntKind.i64 i290)), V.undef] k) i290 := by kernel_rfl
theorem eqLp35_2 (m : Nat) (R : Type) (r286 : Abs.Rows) (i287 : Int) (r288 : Abs.Rows) (i289 : Int) (k : Ex → List V → Option R) : ∀ (n : Nat) (i290 : Int), ELp35_2 m R n [V.bor [LT.int IntKind.i64] r286, V.f (F.lit (Value.int IntKind.i64 i287)), V.bor [LT.int IntKind.i64] r288, V.f (F.lit (Value.int IntKind.i64 i289)), V.f (F.lit (Value.int IntKind.i64 i290)), V.undef] k = Lp35_2 m (fun i291 i292 => k Ex.ret [V.bor [LT.int IntKind.i64] r286, V.f (F.lit (Value.int IntKind.i64 i291)), V.bor [LT.int IntKind.i64] r288, V.f (F.lit (Value.int IntKind.i64 i289)), V.f (F.lit (Value.int IntKind.i64 i292)), V.undef]) (fun i293 => k (Ex.exit (0 : Nat)) [V.bor [LT.int IntKind.i64] r286, V.f (F.lit (Value.int IntKind.i64 i287)), V.bor [LT.int IntKind.i64] r288, V.f (F.lit (Value.int IntKind.i64 i289)), V.f (F.lit (Value.int IntKind.i64 i293)), V.undef]) r286 i287 r288 i289 n i290
  | 0, _ => rfl
  | n + 1, i290 => by
    simp only [ELp35_2, Lp35_2]
    congr 1
    funext i290
    exact eqLp35_2 m R r286 i287 r288 i289 k n i290
def L13 (m : Nat) : LTbl := addB 35 2 (brLp35_2 m (L12 m)) (L12 m)
theorem okL13 (m : Nat) : LTOk Try.prog H (L13 m) := addB_ok (okT24 m) hM (okL12 m) (l := [0, 2, 5, 6, 7, 15]) (by kernel_rfl) (by kernel_rfl) m (fun R n vs k => ELp35_2 m R n vs k) (fun R vs k => rfl) (fun R n vs k x h => by
      simp only [ELp35_2] at h
      split at h
      · exact (stLp35_2 m n R _ _ _ _ _ k).trans h
      · cases h) fun R vs k x h => by
    unfold brLp35_2 at h
    split at h
    · exact .inl ((eqLp35_2 m R _ _ _ _ k m _).trans h)
    · exact .inr h

/-- hookflash/flashlaw2.errs -/
def Fn35 {R : Type} (m : Nat) : Abs.Rows → (Int → Option R) → Option R := match m with
  | 0 => fun _ _ => none
  | m + 1 => fun r285 k =>
  Lp35_2 m (fun i294 i295 => k i294) (fun i296 => k ((0 : Int))) r285 ((0 : Int)) r285 ((↑(List.length r285) : Int)) m ((0 : Int))
def brFn35 (m : Nat) (T : Tbl) (R : Type) (vs : List V) (k : V → List V → Option R) : Option R := match vs with
  | [V.bor [LT.int IntKind.i64] r285] => Fn35 m r285 (fun i297 => k (V.f (F.lit (Value.int IntKind.i64 i297))) [V.undef])
  | _ => T R 35 vs k
set_option maxRecDepth 100000 in
theorem evFn35 (m : Nat) (R : Type) (r285 : Abs.Rows) (k : V → List V → Option R) : runK Try.prog H (T24 m) (L13 m) 35 [V.bor [LT.int IntKind.i64] r285] k = Fn35 (m + 1) r285 (fun i297 => k (V.f (F.lit (Value.int IntKind.i64 i297))) [V.undef]) := by kernel_rfl
def T25 (m : Nat) : Tbl := addT 35 (brFn35 m (T24 m)) (T24 m)
theorem okT25 (m : Nat) : TblOk Try.prog (T25 m) := addT_ok (okT24 m) fun R vs k x h => by
  unfold brFn35 at h
  split at h
  · cases m with
    | zero => cases h
    | succ m => exact runK_some (okT24 m) hM (okL13 m) ((evFn35 m R _ k).trans h)
  · exact okT24 m R 35 _ k x h

/-- a round of a loop of slices.Equal[[]int,int] -/
def Lp38_5_step {R : Type} (m : Nat) (kx0 : Bool → Int → Option R) (kx1 : Int → Option R) (r321 : Abs.Rows) (r322 : Abs.Rows) (b323 : Bool) (i324 : Int) (REC : Int → Option R) (i325 : Int) : Option R :=
  bif decide (i325 < i324) then (bif decide ((0 : Int) ≤ i325 ∧ i325 < (↑(List.length r321) : Int)) then (bif decide ((0 : Int) ≤ i325 ∧ i325 < (↑(List.length r322) : Int)) then (bif fI r321 (Int.toNat i325) (0 : Nat) != fI r322 (Int.toNat i325) (0 : Nat) then (kx0 false i325) else
  (REC (IntKind.wrap IntKind.i64 (i325 + (1 : Int))))) else
  (none)) else
  (none)) else
  (kx1 i325)
def Lp38_5 {R : Type} (m : Nat) (kx0 : Bool → Int → Option R) (kx1 : Int → Option R) (r321 : Abs.Rows) (r322 : Abs.Rows) (b323 : Bool) (i324 : Int) : Nat → Int → Option R
  | 0, _ => none
  | n + 1, i325 => Lp38_5_step m kx0 kx1 r321 r322 b323 i324 (Lp38_5 m kx0 kx1 r321 r322 b323 i324 n) i325
def ELp38_5 (m : Nat) (R : Type) : Nat → List V → (Ex → List V → Option R) → Option R
  | 0, _, _ => none
  | n + 1, vs, k => match vs with
    | [V.bor [LT.int IntKind.i64] r321, V.f (F.lst [LT.int IntKind.i64] r322), V.f (F.lit (Value.bool b323)), V.f (F.lit (Value.int IntKind.i64 i324)), V.f (F.lit (Value.int IntKind.i64 i325)), V.undef, V.undef] => Lp38_5_step m (fun b326 i327 => k Ex.ret [V.bor [LT.int IntKind.i64] r321, V.f (F.lst [LT.int IntKind.i64] r322), V.f (F.lit (Value.bool b326)), V.f (F.lit (Value.int IntKind.i64 i324)), V.f (F.lit (Value.int IntKind.i64 i327)), V.undef, V.undef]) (fun i328 => k (Ex.exit (0 : Nat)) [V.bor [LT.int IntKind.i64] r321, V.f (F.lst [LT.int IntKind.i64] r322), V.f (F.lit (Value.bool b323)), V.f (F.lit (Value.int IntKind.i64 i324)), V.f (F.lit (Value.int IntKind.i64 i328)), V.undef, V.undef]) r321 r322 b323 i324 (fun i325 => ELp38_5 m R n [V.bor [LT.int IntKind.i64] r321, V.f (F.lst [LT.int IntKind.i64] r322), V.f (F.lit (Value.bool b323)), V.f (F.lit (Value.int IntKind.i64 i324)), V.f (F.lit (Value.int IntKind.i64 i325)), V.undef, V.undef] k) i325
    | _ => none
def brLp38_5 (m : Nat) (L : LTbl) (R : Type) (vs : List V) (k : Ex → List V → Option R) : Option R := match vs with
  | [V.bor [LT.int IntKind.i64] r321, V.f (F.lst [LT.int IntKind.i64] r322), V.f (F.lit (Value.bool b323)), V.f (F.lit (Value.int IntKind.i64 i324)), V.f (F.lit (Value.int IntKind.i64 i325)), V.undef, V.undef] => Lp38_5 m (fun b326 i327 => k Ex.ret [V.bor [LT.int IntKind.i64] r321, V.f (F.lst [LT.int IntKind.i64] r322), V.f (F.lit (Value.bool b326)), V.f (F.lit (Value.int IntKind.i64 i324)), V.f (F.lit (Value.int IntKind.i64 i327)), V.undef, V.undef]) (fun i328 => k (Ex.exit (0 : Nat)) [V.bor [LT.int IntKind.i64] r321, V.f (F.lst [LT.int IntKind.i64] r322), V.f (F.lit (Value.bool b323)), V.f (F.lit (Value.int IntKind.i64 i324)), V.f (F.lit (Value.int IntKind.i64 i328)), V.undef, V.undef]) r321 r322 b323 i324 m i325
  | _ => L R 38 5 vs k
set_option maxRecDepth 100000 in
theorem stLp38_5 (m n : Nat) (R : Type) (r321 : Abs.Rows) (r322 : Abs.Rows) (b323 : Bool) (i324 : Int) (i325 : Int) (k : Ex → List V → Option R) : codeK Try.prog H (T25 m) 38 (L13 m) 6 (loopBody Try.prog 38 5) (mkEnv [0, 1, 4, 12, 13, 26, 27] [V.bor [LT.int IntKind.i64] r321, V.f (F.lst [LT.int IntKind.i64] r322), V.f (F.lit (Value.bool b323)), V.f (F.lit (Value.int IntKind.i64 i324)), V.f (F.lit (Value.int IntKind.i64 i325)), V.undef, V.undef] 0 (H.len 38)) (fun e env' => match e with | .normal => ELp38_5 m R n (vals [0, 1, 4, 12, 13, 26, 27] env') k | e => k e (vals [0, 1, 4, 12, 13, 26, 27] env')) = Lp38_5_step m (fun b326 i327 => k Ex.ret [V.bor [LT.int IntKind.i64] r321, V.f (F.lst [LT.int IntKind.i64] r322), V.f (F.lit (Value.bool b326)), V.f (F.lit (Value.int IntKind.i64 i324)), V.f (F.lit (Value.int IntKind.i64 i327)), V.undef, V.undef]) (fun i328 => k (Ex.exit (0 : Nat)) [V.bor [LT.int IntKind.i64] r321, V.f (F.lst [LT.int IntKind.i64] r322), V.f (F.lit (Value.bool b323)), V.f (F.lit (Value.int IntKind.i64 i324)), V.f (F.lit (Value.int IntKind.i64 i328)), V.undef, V.undef]) r321 r322 b323 i324 (fun i325 => ELp38_5 m R n [V.bor [LT.int IntKind.i64] r321, V.f (F.lst [LT.int IntKind.i64] r322), V.f (F.lit (Value.bool b323)), V.f (F.lit (Value.int IntKind.i64 i324)), V.f (F.lit (Value.int IntKind.i64 i325)), V.undef, V.undef] k) i325 := by kernel_rfl
theorem eqLp38_5 (m : Nat) (R : Type) (r321 : Abs.Rows) (r322 : Abs.Rows) (b323 : Bool) (i324 : Int) (k : Ex → List V → Option R) : ∀ (n : Nat) (i325 : Int), ELp38_5 m R n [V.bor [LT.int IntKind.i64] r321, V.f (F.lst [LT.int IntKind.i64] r322), V.f (F.lit (Value.bool b323)), V.f (F.lit (Value.int IntKind.i64 i324)), V.f (F.lit (Value.int IntKind.i64 i325)), V.undef, V.undef] k = Lp38_5 m (fun b326 i327 => k Ex.ret [V.bor [LT.int IntKind.i64] r321, V.f (F.lst [LT.int IntKind.i64] r322), V.f (F.lit (Value.bool b326)), V.f (F.lit (Value.int IntKind.i64 i324)), V.f (F.lit (Value.int IntKind.i64 i327)), V.undef, V.undef]) (fun i328 => k (Ex.exit (0 : Nat)) [V.bor [LT.int IntKind.i64] r321, V.f (F.lst [LT.int IntKind.i64] r322), V.f (F.lit (Value.bool b323)), V.f (F.lit (Value.int IntKind.i64 i324)), V.f (F.lit (Value.int IntKind.i64 i328)), V.undef, V.undef]) r321 r322 b323 i324 n i325
  | 0, _ => rfl
  | n + 1, i325 => by
    simp only [ELp38_5, Lp38_5]
    congr 1
    funext i325
    exact eqLp38_5 m R r321 r322 b323 i324 k n i325
def L14 (m : Nat) : LTbl := addB 38 5 (brLp38_5 m (L13 m)) (L13 m)
theorem okL14 (m : Nat) : LTOk Try.prog H (L14 m) := addB_ok (okT25 m) hM (okL13 m) (l := [0, 1, 4, 12, 13, 26, 27]) (by kernel_rfl) (by kernel_rfl) m (fun R n vs k => ELp38_5 m R n vs k) (fun R vs k => rfl) (fun R n vs k x h => by
      simp only [ELp38_5] at h
      split at h
      · exact (stLp38_5 m n R _ _ _ _ _ k).trans h
      · cases h) fun R vs k x h => by
    unfold brLp38_5 at h
    split at h
    · exact .inl ((eqLp38_5 m R _ _ _ _ k m _).trans h)
    · exact .inr h

/-- slices.Equal[[]int,int] -/
def Fn38 {R : Type} (m : Nat) : Abs.Rows → Abs.Rows → (Bool → Option R) → Option R := match m with
  | 0 => fun _ _ _ => none
  | m + 1 => fun r319 r320 k =>
  bif (↑(List.length r319) : Int) != (↑(List.length r320) : Int) then (k false) else
  (Lp38_5 m (fun b329 i330 => k b329) (fun i331 => k true) r319 r320 false ((↑(List.length r319) : Int)) m ((0 : Int)))
def brFn38 (m : Nat) (T : Tbl) (R : Type) (vs : List V) (k : V → List V → Option R) : Option R := match vs with
  | [V.bor [LT.int IntKind.i64] r319, V.f (F.lst [LT.int IntKind.i64] r320)] => Fn38 m r319 r320 (fun b332 => k (V.f (F.lit (Value.bool b332))) [V.undef, V.undef])
  | _ => T R 38 vs k
set_option maxRecDepth 100000 in
theorem evFn38 (m : Nat) (R : Type) (r319 : Abs.Rows) (r320 : Abs.Rows) (k : V → List V → Option R) : runK Try.prog H (T25 m) (L14 m) 38 [V.bor [LT.int IntKind.i64] r319, V.f (F.lst [LT.int IntKind.i64] r320)] k = Fn38 (m + 1) r319 r320 (fun b332 => k (V.f (F.lit (Value.bool b332))) [V.undef, V.undef]) := by kernel_rfl
def T26 (m : Nat) : Tbl := addT 38 (brFn38 m (T25 m)) (T25 m)
theorem okT26 (m : Nat) : TblOk Try.prog (T26 m) := addT_ok (okT25 m) fun R vs k x h => by
  unfold brFn38 at h
  split at h
  · cases m with
    | zero => cases h
    | succ m => exact runK_some (okT25 m) hM (okL14 m) ((evFn38 m R _ _ k).trans h)
  · exact okT25 m R 38 _ k x h

/-- hookflash/media.isSample -/
def Fn68 {R : Type} (m : Nat) : Int → (Bool → Option R) → Option R := match m with
  | 0 => fun _ _ => none
  | m + 1 => fun i343 k =>
  Fn67 m i343 ((-32768 : Int)) ((32767 : Int)) (fun b344 => k b344)
def brFn68 (m : Nat) (T : Tbl) (R : Type) (vs : List V) (k : V → List V → Option R) : Option R := match vs with
  | [V.f (F.lit (Value.int IntKind.i64 i343))] => Fn68 m i343 (fun b345 => k (V.f (F.lit (Value.bool b345))) [V.undef])
  | _ => T R 68 vs k
set_option maxRecDepth 100000 in
theorem evFn68 (m : Nat) (R : Type) (i343 : Int) (k : V → List V → Option R) : runK Try.prog H (T26 m) (L14 m) 68 [V.f (F.lit (Value.int IntKind.i64 i343))] k = Fn68 (m + 1) i343 (fun b345 => k (V.f (F.lit (Value.bool b345))) [V.undef]) := by kernel_rfl
def T27 (m : Nat) : Tbl := addT 68 (brFn68 m (T26 m)) (T26 m)
theorem okT27 (m : Nat) : TblOk Try.prog (T27 m) := addT_ok (okT26 m) fun R vs k x h => by
  unfold brFn68 at h
  split at h
  · cases m with
    | zero => cases h
    | succ m => exact runK_some (okT26 m) hM (okL14 m) ((evFn68 m R _ k).trans h)
  · exact okT26 m R 68 _ k x h

/-- a round of a loop of hookflash/media.CheckSamples -/
def Lp29_5_step {R : Type} (m : Nat) (kx0 : Int → Int → Option R) (kx1 : Int → Option R) (r338 : Abs.Rows) (i339 : Int) (r340 : Abs.Rows) (i341 : Int) (REC : Int → Option R) (i342 : Int) : Option R :=
  bif decide (i342 < i341) then (bif decide ((0 : Int) ≤ i342 ∧ i342 < (↑(List.length r340) : Int)) then (Fn68 m (fI r340 (Int.toNat i342) (0 : Nat)) (fun b346 => bif !b346 then (kx0 ((1 : Int)) i342) else
  (REC (IntKind.wrap IntKind.i64 (i342 + (1 : Int)))))) else
  (none)) else
  (kx1 i342)
def Lp29_5 {R : Type} (m : Nat) (kx0 : Int → Int → Option R) (kx1 : Int → Option R) (r338 : Abs.Rows) (i339 : Int) (r340 : Abs.Rows) (i341 : Int) : Nat → Int → Option R
  | 0, _ => none
  | n + 1, i342 => Lp29_5_step m kx0 kx1 r338 i339 r340 i341 (Lp29_5 m kx0 kx1 r338 i339 r340 i341 n) i342
def ELp29_5 (m : Nat) (R : Type) : Nat → List V → (Ex → List V → Option R) → Option R
  | 0, _, _ => none
  | n + 1, vs, k => match vs with
    | [V.bor [LT.int IntKind.i64] r338, V.f (F.lit (Value.int IntKind.i64 i339)), V.bor [LT.int IntKind.i64] r340, V.f (F.lit (Value.int IntKind.i64 i341)), V.f (F.lit (Value.int IntKind.i64 i342)), V.undef] => Lp29_5_step m (fun i347 i348 => k Ex.ret [V.bor [LT.int IntKind.i64] r338, V.f (F.lit (Value.int IntKind.i64 i347)), V.bor [LT.int IntKind.i64] r340, V.f (F.lit (Value.int IntKind.i64 i341)), V.f (F.lit (Value.int IntKind.i64 i348)), V.undef]) (fun i349 => k (Ex.exit (0 : Nat)) [V.bor [LT.int IntKind.i64] r338, V.f (F.lit (Value.int IntKind.i64 i339)), V.bor [LT.int IntKind.i64] r340, V.f (F.lit (Value.int IntKind.i64 i341)), V.f (F.lit (Value.int IntKind.i64 i349)), V.undef]) r338 i339 r340 i341 (fun i342 => ELp29_5 m R n [V.bor [LT.int IntKind.i64] r338, V.f (F.lit (Value.int IntKind.i64 i339)), V.bor [LT.int IntKind.i64] r340, V.f (F.lit (Value.int IntKind.i64 i341)), V.f (F.lit (Value.int IntKind.i64 i342)), V.undef] k) i342
    | _ => none
def brLp29_5 (m : Nat) (L : LTbl) (R : Type) (vs : List V) (k : Ex → List V → Option R) : Option R := match vs with
  | [V.bor [LT.int IntKind.i64] r338, V.f (F.lit (Value.int IntKind.i64 i339)), V.bor [LT.int IntKind.i64] r340, V.f (F.lit (Value.int IntKind.i64 i341)), V.f (F.lit (Value.int IntKind.i64 i342)), V.undef] => Lp29_5 m (fun i347 i348 => k Ex.ret [V.bor [LT.int IntKind.i64] r338, V.f (F.lit (Value.int IntKind.i64 i347)), V.bor [LT.int IntKind.i64] r340, V.f (F.lit (Value.int IntKind.i64 i341)), V.f (F.lit (Value.int IntKind.i64 i348)), V.undef]) (fun i349 => k (Ex.exit (0 : Nat)) [V.bor [LT.int IntKind.i64] r338, V.f (F.lit (Value.int IntKind.i64 i339)), V.bor [LT.int IntKind.i64] r340, V.f (F.lit (Value.int IntKind.i64 i341)), V.f (F.lit (Value.int IntKind.i64 i349)), V.undef]) r338 i339 r340 i341 m i342
  | _ => L R 29 5 vs k
set_option maxRecDepth 100000 in
theorem stLp29_5 (m n : Nat) (R : Type) (r338 : Abs.Rows) (i339 : Int) (r340 : Abs.Rows) (i341 : Int) (i342 : Int) (k : Ex → List V → Option R) : codeK Try.prog H (T27 m) 29 (L14 m) 6 (loopBody Try.prog 29 5) (mkEnv [0, 2, 8, 9, 10, 18] [V.bor [LT.int IntKind.i64] r338, V.f (F.lit (Value.int IntKind.i64 i339)), V.bor [LT.int IntKind.i64] r340, V.f (F.lit (Value.int IntKind.i64 i341)), V.f (F.lit (Value.int IntKind.i64 i342)), V.undef] 0 (H.len 29)) (fun e env' => match e with | .normal => ELp29_5 m R n (vals [0, 2, 8, 9, 10, 18] env') k | e => k e (vals [0, 2, 8, 9, 10, 18] env')) = Lp29_5_step m (fun i347 i348 => k Ex.ret [V.bor [LT.int IntKind.i64] r338, V.f (F.lit (Value.int IntKind.i64 i347)), V.bor [LT.int IntKind.i64] r340, V.f (F.lit (Value.int IntKind.i64 i341)), V.f (F.lit (Value.int IntKind.i64 i348)), V.undef]) (fun i349 => k (Ex.exit (0 : Nat)) [V.bor [LT.int IntKind.i64] r338, V.f (F.lit (Value.int IntKind.i64 i339)), V.bor [LT.int IntKind.i64] r340, V.f (F.lit (Value.int IntKind.i64 i341)), V.f (F.lit (Value.int IntKind.i64 i349)), V.undef]) r338 i339 r340 i341 (fun i342 => ELp29_5 m R n [V.bor [LT.int IntKind.i64] r338, V.f (F.lit (Value.int IntKind.i64 i339)), V.bor [LT.int IntKind.i64] r340, V.f (F.lit (Value.int IntKind.i64 i341)), V.f (F.lit (Value.int IntKind.i64 i342)), V.undef] k) i342 := by kernel_rfl
theorem eqLp29_5 (m : Nat) (R : Type) (r338 : Abs.Rows) (i339 : Int) (r340 : Abs.Rows) (i341 : Int) (k : Ex → List V → Option R) : ∀ (n : Nat) (i342 : Int), ELp29_5 m R n [V.bor [LT.int IntKind.i64] r338, V.f (F.lit (Value.int IntKind.i64 i339)), V.bor [LT.int IntKind.i64] r340, V.f (F.lit (Value.int IntKind.i64 i341)), V.f (F.lit (Value.int IntKind.i64 i342)), V.undef] k = Lp29_5 m (fun i347 i348 => k Ex.ret [V.bor [LT.int IntKind.i64] r338, V.f (F.lit (Value.int IntKind.i64 i347)), V.bor [LT.int IntKind.i64] r340, V.f (F.lit (Value.int IntKind.i64 i341)), V.f (F.lit (Value.int IntKind.i64 i348)), V.undef]) (fun i349 => k (Ex.exit (0 : Nat)) [V.bor [LT.int IntKind.i64] r338, V.f (F.lit (Value.int IntKind.i64 i339)), V.bor [LT.int IntKind.i64] r340, V.f (F.lit (Value.int IntKind.i64 i341)), V.f (F.lit (Value.int IntKind.i64 i349)), V.undef]) r338 i339 r340 i341 n i342
  | 0, _ => rfl
  | n + 1, i342 => by
    simp only [ELp29_5, Lp29_5]
    congr 1
    funext i342
    exact eqLp29_5 m R r338 i339 r340 i341 k n i342
def L15 (m : Nat) : LTbl := addB 29 5 (brLp29_5 m (L14 m)) (L14 m)
theorem okL15 (m : Nat) : LTOk Try.prog H (L15 m) := addB_ok (okT27 m) hM (okL14 m) (l := [0, 2, 8, 9, 10, 18]) (by kernel_rfl) (by kernel_rfl) m (fun R n vs k => ELp29_5 m R n vs k) (fun R vs k => rfl) (fun R n vs k x h => by
      simp only [ELp29_5] at h
      split at h
      · exact (stLp29_5 m n R _ _ _ _ _ k).trans h
      · cases h) fun R vs k x h => by
    unfold brLp29_5 at h
    split at h
    · exact .inl ((eqLp29_5 m R _ _ _ _ k m _).trans h)
    · exact .inr h

/-- hookflash/media.CheckSamples -/
def Fn29 {R : Type} (m : Nat) : Abs.Rows → (Int → Option R) → Option R := match m with
  | 0 => fun _ _ => none
  | m + 1 => fun r337 k =>
  bif decide ((↑(List.length r337) : Int) > (20000 : Int)) then (k ((2 : Int))) else
  (Lp29_5 m (fun i350 i351 => k i350) (fun i352 => k ((0 : Int))) r337 ((0 : Int)) r337 ((↑(List.length r337) : Int)) m ((0 : Int)))
def brFn29 (m : Nat) (T : Tbl) (R : Type) (vs : List V) (k : V → List V → Option R) : Option R := match vs with
  | [V.bor [LT.int IntKind.i64] r337] => Fn29 m r337 (fun i353 => k (V.f (F.lit (Value.int IntKind.i64 i353))) [V.undef])
  | _ => T R 29 vs k
set_option maxRecDepth 100000 in
theorem evFn29 (m : Nat) (R : Type) (r337 : Abs.Rows) (k : V → List V → Option R) : runK Try.prog H (T27 m) (L15 m) 29 [V.bor [LT.int IntKind.i64] r337] k = Fn29 (m + 1) r337 (fun i353 => k (V.f (F.lit (Value.int IntKind.i64 i353))) [V.undef]) := by kernel_rfl
def T28 (m : Nat) : Tbl := addT 29 (brFn29 m (T27 m)) (T27 m)
theorem okT28 (m : Nat) : TblOk Try.prog (T28 m) := addT_ok (okT27 m) fun R vs k x h => by
  unfold brFn29 at h
  split at h
  · cases m with
    | zero => cases h
    | succ m => exact runK_some (okT27 m) hM (okL15 m) ((evFn29 m R _ k).trans h)
  · exact okT27 m R 29 _ k x h

/-- a round of a loop of hookflash/media.strength -/
def Lp98_3_step {R : Type} (m : Nat) (kx0 : Int → Int → Int → Option R) (i372 : Int) (r373 : Abs.Rows) (r376 : Abs.Rows) (i377 : Int) (REC : Int → Int → Int → Option R) (i374 : Int) (i375 : Int) (i378 : Int) : Option R :=
  bif decide (i378 < i377) then (bif decide ((0 : Int) ≤ i378 ∧ i378 < (↑(List.length r376) : Int)) then (REC (IntKind.wrap IntKind.i64 (IntKind.wrap IntKind.i64 (Int.fdiv (fI r376 (Int.toNat i378) (0 : Nat)) ((2 : Int) ^ min (Int.toNat (3 : Int)) (64 : Nat)) + Int.fdiv (IntKind.wrap IntKind.i64 (i372 * i374)) ((2 : Int) ^ min (Int.toNat (14 : Int)) (64 : Nat))) - i375)) i374 (IntKind.wrap IntKind.i64 (i378 + (1 : Int)))) else
  (none)) else
  (kx0 i374 i375 i378)
def Lp98_3 {R : Type} (m : Nat) (kx0 : Int → Int → Int → Option R) (i372 : Int) (r373 : Abs.Rows) (r376 : Abs.Rows) (i377 : Int) : Nat → Int → Int → Int → Option R
  | 0, _, _, _ => none
  | n + 1, i374, i375, i378 => Lp98_3_step m kx0 i372 r373 r376 i377 (Lp98_3 m kx0 i372 r373 r376 i377 n) i374 i375 i378
def ELp98_3 (m : Nat) (R : Type) : Nat → List V → (Ex → List V → Option R) → Option R
  | 0, _, _ => none
  | n + 1, vs, k => match vs with
    | [V.f (F.lit (Value.int IntKind.i64 i372)), V.bor [LT.int IntKind.i64] r373, V.f (F.lit (Value.int IntKind.i64 i374)), V.f (F.lit (Value.int IntKind.i64 i375)), V.bor [LT.int IntKind.i64] r376, V.f (F.lit (Value.int IntKind.i64 i377)), V.f (F.lit (Value.int IntKind.i64 i378)), V.undef, V.undef] => Lp98_3_step m (fun i379 i380 i381 => k (Ex.exit (0 : Nat)) [V.f (F.lit (Value.int IntKind.i64 i372)), V.bor [LT.int IntKind.i64] r373, V.f (F.lit (Value.int IntKind.i64 i379)), V.f (F.lit (Value.int IntKind.i64 i380)), V.bor [LT.int IntKind.i64] r376, V.f (F.lit (Value.int IntKind.i64 i377)), V.f (F.lit (Value.int IntKind.i64 i381)), V.undef, V.undef]) i372 r373 r376 i377 (fun i374 i375 i378 => ELp98_3 m R n [V.f (F.lit (Value.int IntKind.i64 i372)), V.bor [LT.int IntKind.i64] r373, V.f (F.lit (Value.int IntKind.i64 i374)), V.f (F.lit (Value.int IntKind.i64 i375)), V.bor [LT.int IntKind.i64] r376, V.f (F.lit (Value.int IntKind.i64 i377)), V.f (F.lit (Value.int IntKind.i64 i378)), V.undef, V.undef] k) i374 i375 i378
    | _ => none
def brLp98_3 (m : Nat) (L : LTbl) (R : Type) (vs : List V) (k : Ex → List V → Option R) : Option R := match vs with
  | [V.f (F.lit (Value.int IntKind.i64 i372)), V.bor [LT.int IntKind.i64] r373, V.f (F.lit (Value.int IntKind.i64 i374)), V.f (F.lit (Value.int IntKind.i64 i375)), V.bor [LT.int IntKind.i64] r376, V.f (F.lit (Value.int IntKind.i64 i377)), V.f (F.lit (Value.int IntKind.i64 i378)), V.undef, V.undef] => Lp98_3 m (fun i379 i380 i381 => k (Ex.exit (0 : Nat)) [V.f (F.lit (Value.int IntKind.i64 i372)), V.bor [LT.int IntKind.i64] r373, V.f (F.lit (Value.int IntKind.i64 i379)), V.f (F.lit (Value.int IntKind.i64 i380)), V.bor [LT.int IntKind.i64] r376, V.f (F.lit (Value.int IntKind.i64 i377)), V.f (F.lit (Value.int IntKind.i64 i381)), V.undef, V.undef]) i372 r373 r376 i377 m i374 i375 i378
  | _ => L R 98 3 vs k
set_option maxRecDepth 100000 in
theorem stLp98_3 (m n : Nat) (R : Type) (i372 : Int) (r373 : Abs.Rows) (i374 : Int) (i375 : Int) (r376 : Abs.Rows) (i377 : Int) (i378 : Int) (k : Ex → List V → Option R) : codeK Try.prog H (T28 m) 98 (L15 m) 4 (loopBody Try.prog 98 3) (mkEnv [0, 1, 5, 6, 10, 11, 12, 42, 43] [V.f (F.lit (Value.int IntKind.i64 i372)), V.bor [LT.int IntKind.i64] r373, V.f (F.lit (Value.int IntKind.i64 i374)), V.f (F.lit (Value.int IntKind.i64 i375)), V.bor [LT.int IntKind.i64] r376, V.f (F.lit (Value.int IntKind.i64 i377)), V.f (F.lit (Value.int IntKind.i64 i378)), V.undef, V.undef] 0 (H.len 98)) (fun e env' => match e with | .normal => ELp98_3 m R n (vals [0, 1, 5, 6, 10, 11, 12, 42, 43] env') k | e => k e (vals [0, 1, 5, 6, 10, 11, 12, 42, 43] env')) = Lp98_3_step m (fun i379 i380 i381 => k (Ex.exit (0 : Nat)) [V.f (F.lit (Value.int IntKind.i64 i372)), V.bor [LT.int IntKind.i64] r373, V.f (F.lit (Value.int IntKind.i64 i379)), V.f (F.lit (Value.int IntKind.i64 i380)), V.bor [LT.int IntKind.i64] r376, V.f (F.lit (Value.int IntKind.i64 i377)), V.f (F.lit (Value.int IntKind.i64 i381)), V.undef, V.undef]) i372 r373 r376 i377 (fun i374 i375 i378 => ELp98_3 m R n [V.f (F.lit (Value.int IntKind.i64 i372)), V.bor [LT.int IntKind.i64] r373, V.f (F.lit (Value.int IntKind.i64 i374)), V.f (F.lit (Value.int IntKind.i64 i375)), V.bor [LT.int IntKind.i64] r376, V.f (F.lit (Value.int IntKind.i64 i377)), V.f (F.lit (Value.int IntKind.i64 i378)), V.undef, V.undef] k) i374 i375 i378 := by kernel_rfl
theorem eqLp98_3 (m : Nat) (R : Type) (i372 : Int) (r373 : Abs.Rows) (r376 : Abs.Rows) (i377 : Int) (k : Ex → List V → Option R) : ∀ (n : Nat) (i374 : Int) (i375 : Int) (i378 : Int), ELp98_3 m R n [V.f (F.lit (Value.int IntKind.i64 i372)), V.bor [LT.int IntKind.i64] r373, V.f (F.lit (Value.int IntKind.i64 i374)), V.f (F.lit (Value.int IntKind.i64 i375)), V.bor [LT.int IntKind.i64] r376, V.f (F.lit (Value.int IntKind.i64 i377)), V.f (F.lit (Value.int IntKind.i64 i378)), V.undef, V.undef] k = Lp98_3 m (fun i379 i380 i381 => k (Ex.exit (0 : Nat)) [V.f (F.lit (Value.int IntKind.i64 i372)), V.bor [LT.int IntKind.i64] r373, V.f (F.lit (Value.int IntKind.i64 i379)), V.f (F.lit (Value.int IntKind.i64 i380)), V.bor [LT.int IntKind.i64] r376, V.f (F.lit (Value.int IntKind.i64 i377)), V.f (F.lit (Value.int IntKind.i64 i381)), V.undef, V.undef]) i372 r373 r376 i377 n i374 i375 i378
  | 0, _, _, _ => rfl
  | n + 1, i374, i375, i378 => by
    simp only [ELp98_3, Lp98_3]
    congr 1
    funext i374 i375 i378
    exact eqLp98_3 m R i372 r373 r376 i377 k n i374 i375 i378
def L16 (m : Nat) : LTbl := addB 98 3 (brLp98_3 m (L15 m)) (L15 m)
theorem okL16 (m : Nat) : LTOk Try.prog H (L16 m) := addB_ok (okT28 m) hM (okL15 m) (l := [0, 1, 5, 6, 10, 11, 12, 42, 43]) (by kernel_rfl) (by kernel_rfl) m (fun R n vs k => ELp98_3 m R n vs k) (fun R vs k => rfl) (fun R n vs k x h => by
      simp only [ELp98_3] at h
      split at h
      · exact (stLp98_3 m n R _ _ _ _ _ _ _ k).trans h
      · cases h) fun R vs k x h => by
    unfold brLp98_3 at h
    split at h
    · exact .inl ((eqLp98_3 m R _ _ _ _ k m _ _ _).trans h)
    · exact .inr h

/-- hookflash/media.strength -/
def Fn98 {R : Type} (m : Nat) : Int → Abs.Rows → (Int → Option R) → Option R := match m with
  | 0 => fun _ _ _ => none
  | m + 1 => fun i370 r371 k =>
  Lp98_3 m (fun i382 i383 i384 => k (IntKind.wrap IntKind.i64 (IntKind.wrap IntKind.i64 (IntKind.wrap IntKind.i64 (i382 * i382) + IntKind.wrap IntKind.i64 (i383 * i383)) - IntKind.wrap IntKind.i64 (Int.fdiv (IntKind.wrap IntKind.i64 (i370 * i382)) ((2 : Int) ^ min (Int.toNat (14 : Int)) (64 : Nat)) * i383)))) i370 r371 r371 ((↑(List.length r371) : Int)) m ((0 : Int)) ((0 : Int)) ((0 : Int))
def brFn98 (m : Nat) (T : Tbl) (R : Type) (vs : List V) (k : V → List V → Option R) : Option R := match vs with
  | [V.f (F.lit (Value.int IntKind.i64 i370)), V.bor [LT.int IntKind.i64] r371] => Fn98 m i370 r371 (fun i385 => k (V.f (F.lit (Value.int IntKind.i64 i385))) [V.undef, V.undef])
  | _ => T R 98 vs k
set_option maxRecDepth 100000 in
theorem evFn98 (m : Nat) (R : Type) (i370 : Int) (r371 : Abs.Rows) (k : V → List V → Option R) : runK Try.prog H (T28 m) (L16 m) 98 [V.f (F.lit (Value.int IntKind.i64 i370)), V.bor [LT.int IntKind.i64] r371] k = Fn98 (m + 1) i370 r371 (fun i385 => k (V.f (F.lit (Value.int IntKind.i64 i385))) [V.undef, V.undef]) := by kernel_rfl
def T29 (m : Nat) : Tbl := addT 98 (brFn98 m (T28 m)) (T28 m)
theorem okT29 (m : Nat) : TblOk Try.prog (T29 m) := addT_ok (okT28 m) fun R vs k x h => by
  unfold brFn98 at h
  split at h
  · cases m with
    | zero => cases h
    | succ m => exact runK_some (okT28 m) hM (okL16 m) ((evFn98 m R _ _ k).trans h)
  · exact okT28 m R 98 _ k x h

/-- a round of a loop of hookflash/media.strongest -/
def Lp91_4_step {R : Type} (m : Nat) (kx0 : Abs.Rows → Int → Int → Option R) (r363 : Abs.Rows) (r364 : Abs.Rows) (r367 : Abs.Rows) (i368 : Int) (REC : Abs.Rows → Int → Int → Option R) (r365 : Abs.Rows) (i366 : Int) (i369 : Int) : Option R :=
  bif decide (i369 < i368) then (bif decide ((0 : Int) ≤ i369 ∧ i369 < (↑(List.length r367) : Int)) then (Fn98 m (fI r367 (Int.toNat i369) (0 : Nat)) r364 (fun i386 => bif decide (List.length r365 + List.length [[F.lit (Value.int IntKind.i64 i386)]] ≤ rowMax) then (letV (r365 ++ [[F.lit (Value.int IntKind.i64 i386)]]) (fun r387 => bif decide ((0 : Int) ≤ i369 ∧ i369 < (↑(List.length r387) : Int)) then (bif decide ((0 : Int) ≤ i366 ∧ i366 < (↑(List.length r387) : Int)) then (bif decide (fI r387 (Int.toNat i369) (0 : Nat) > fI r387 (Int.toNat i366) (0 : Nat)) then (REC r387 i369 (IntKind.wrap IntKind.i64 (i369 + (1 : Int)))) else
  (REC r387 i366 (IntKind.wrap IntKind.i64 (i369 + (1 : Int))))) else
  (none)) else
  (none))) else
  (none))) else
  (none)) else
  (kx0 r365 i366 i369)
def Lp91_4 {R : Type} (m : Nat) (kx0 : Abs.Rows → Int → Int → Option R) (r363 : Abs.Rows) (r364 : Abs.Rows) (r367 : Abs.Rows) (i368 : Int) : Nat → Abs.Rows → Int → Int → Option R
  | 0, _, _, _ => none
  | n + 1, r365, i366, i369 => Lp91_4_step m kx0 r363 r364 r367 i368 (Lp91_4 m kx0 r363 r364 r367 i368 n) r365 i366 i369
def ELp91_4 (m : Nat) (R : Type) : Nat → List V → (Ex → List V → Option R) → Option R
  | 0, _, _ => none
  | n + 1, vs, k => match vs with
    | [V.bor [LT.int IntKind.i64] r363, V.bor [LT.int IntKind.i64] r364, V.own [LT.int IntKind.i64] r365, V.f (F.lit (Value.int IntKind.i64 i366)), V.bor [LT.int IntKind.i64] r367, V.f (F.lit (Value.int IntKind.i64 i368)), V.f (F.lit (Value.int IntKind.i64 i369)), V.undef, V.undef] => Lp91_4_step m (fun r388 i389 i390 => k (Ex.exit (0 : Nat)) [V.bor [LT.int IntKind.i64] r363, V.bor [LT.int IntKind.i64] r364, V.own [LT.int IntKind.i64] r388, V.f (F.lit (Value.int IntKind.i64 i389)), V.bor [LT.int IntKind.i64] r367, V.f (F.lit (Value.int IntKind.i64 i368)), V.f (F.lit (Value.int IntKind.i64 i390)), V.undef, V.undef]) r363 r364 r367 i368 (fun r365 i366 i369 => ELp91_4 m R n [V.bor [LT.int IntKind.i64] r363, V.bor [LT.int IntKind.i64] r364, V.own [LT.int IntKind.i64] r365, V.f (F.lit (Value.int IntKind.i64 i366)), V.bor [LT.int IntKind.i64] r367, V.f (F.lit (Value.int IntKind.i64 i368)), V.f (F.lit (Value.int IntKind.i64 i369)), V.undef, V.undef] k) r365 i366 i369
    | _ => none
def brLp91_4 (m : Nat) (L : LTbl) (R : Type) (vs : List V) (k : Ex → List V → Option R) : Option R := match vs with
  | [V.bor [LT.int IntKind.i64] r363, V.bor [LT.int IntKind.i64] r364, V.own [LT.int IntKind.i64] r365, V.f (F.lit (Value.int IntKind.i64 i366)), V.bor [LT.int IntKind.i64] r367, V.f (F.lit (Value.int IntKind.i64 i368)), V.f (F.lit (Value.int IntKind.i64 i369)), V.undef, V.undef] => Lp91_4 m (fun r388 i389 i390 => k (Ex.exit (0 : Nat)) [V.bor [LT.int IntKind.i64] r363, V.bor [LT.int IntKind.i64] r364, V.own [LT.int IntKind.i64] r388, V.f (F.lit (Value.int IntKind.i64 i389)), V.bor [LT.int IntKind.i64] r367, V.f (F.lit (Value.int IntKind.i64 i368)), V.f (F.lit (Value.int IntKind.i64 i390)), V.undef, V.undef]) r363 r364 r367 i368 m r365 i366 i369
  | _ => L R 91 4 vs k
set_option maxRecDepth 100000 in
theorem stLp91_4 (m n : Nat) (R : Type) (r363 : Abs.Rows) (r364 : Abs.Rows) (r365 : Abs.Rows) (i366 : Int) (r367 : Abs.Rows) (i368 : Int) (i369 : Int) (k : Ex → List V → Option R) : codeK Try.prog H (T29 m) 91 (L16 m) 5 (loopBody Try.prog 91 4) (mkEnv [0, 1, 6, 7, 12, 13, 14, 62, 63] [V.bor [LT.int IntKind.i64] r363, V.bor [LT.int IntKind.i64] r364, V.own [LT.int IntKind.i64] r365, V.f (F.lit (Value.int IntKind.i64 i366)), V.bor [LT.int IntKind.i64] r367, V.f (F.lit (Value.int IntKind.i64 i368)), V.f (F.lit (Value.int IntKind.i64 i369)), V.undef, V.undef] 0 (H.len 91)) (fun e env' => match e with | .normal => ELp91_4 m R n (vals [0, 1, 6, 7, 12, 13, 14, 62, 63] env') k | e => k e (vals [0, 1, 6, 7, 12, 13, 14, 62, 63] env')) = Lp91_4_step m (fun r388 i389 i390 => k (Ex.exit (0 : Nat)) [V.bor [LT.int IntKind.i64] r363, V.bor [LT.int IntKind.i64] r364, V.own [LT.int IntKind.i64] r388, V.f (F.lit (Value.int IntKind.i64 i389)), V.bor [LT.int IntKind.i64] r367, V.f (F.lit (Value.int IntKind.i64 i368)), V.f (F.lit (Value.int IntKind.i64 i390)), V.undef, V.undef]) r363 r364 r367 i368 (fun r365 i366 i369 => ELp91_4 m R n [V.bor [LT.int IntKind.i64] r363, V.bor [LT.int IntKind.i64] r364, V.own [LT.int IntKind.i64] r365, V.f (F.lit (Value.int IntKind.i64 i366)), V.bor [LT.int IntKind.i64] r367, V.f (F.lit (Value.int IntKind.i64 i368)), V.f (F.lit (Value.int IntKind.i64 i369)), V.undef, V.undef] k) r365 i366 i369 := by kernel_rfl
theorem eqLp91_4 (m : Nat) (R : Type) (r363 : Abs.Rows) (r364 : Abs.Rows) (r367 : Abs.Rows) (i368 : Int) (k : Ex → List V → Option R) : ∀ (n : Nat) (r365 : Abs.Rows) (i366 : Int) (i369 : Int), ELp91_4 m R n [V.bor [LT.int IntKind.i64] r363, V.bor [LT.int IntKind.i64] r364, V.own [LT.int IntKind.i64] r365, V.f (F.lit (Value.int IntKind.i64 i366)), V.bor [LT.int IntKind.i64] r367, V.f (F.lit (Value.int IntKind.i64 i368)), V.f (F.lit (Value.int IntKind.i64 i369)), V.undef, V.undef] k = Lp91_4 m (fun r388 i389 i390 => k (Ex.exit (0 : Nat)) [V.bor [LT.int IntKind.i64] r363, V.bor [LT.int IntKind.i64] r364, V.own [LT.int IntKind.i64] r388, V.f (F.lit (Value.int IntKind.i64 i389)), V.bor [LT.int IntKind.i64] r367, V.f (F.lit (Value.int IntKind.i64 i368)), V.f (F.lit (Value.int IntKind.i64 i390)), V.undef, V.undef]) r363 r364 r367 i368 n r365 i366 i369
  | 0, _, _, _ => rfl
  | n + 1, r365, i366, i369 => by
    simp only [ELp91_4, Lp91_4]
    congr 1
    funext r365 i366 i369
    exact eqLp91_4 m R r363 r364 r367 i368 k n r365 i366 i369
def L17 (m : Nat) : LTbl := addB 91 4 (brLp91_4 m (L16 m)) (L16 m)
theorem okL17 (m : Nat) : LTOk Try.prog H (L17 m) := addB_ok (okT29 m) hM (okL16 m) (l := [0, 1, 6, 7, 12, 13, 14, 62, 63]) (by kernel_rfl) (by kernel_rfl) m (fun R n vs k => ELp91_4 m R n vs k) (fun R vs k => rfl) (fun R n vs k x h => by
      simp only [ELp91_4] at h
      split at h
      · exact (stLp91_4 m n R _ _ _ _ _ _ _ k).trans h
      · cases h) fun R vs k x h => by
    unfold brLp91_4 at h
    split at h
    · exact .inl ((eqLp91_4 m R _ _ _ _ k m _ _ _).trans h)
    · exact .inr h

/-- a round of a loop of hookflash/media.strongest -/
def Lp91_13_step {R : Type} (m : Nat) (kx0 : Int → Bool → Int → Option R) (kx1 : Int → Option R) (r394 : Abs.Rows) (i395 : Int) (n396 : Nat) (i397 : Int) (REC : Int → Option R) (i398 : Int) : Option R :=
  bif decide (i398 < i397) then (bif decide ((0 : Int) ≤ i398 ∧ i398 < (↑n396 : Int)) then (bif i398 != i395 then (bif decide ((0 : Int) ≤ i395 ∧ i395 < (↑(List.length r394) : Int)) then (bif decide (fI r394 (Int.toNat i395) (0 : Nat) < IntKind.wrap IntKind.i64 ((6 : Int) * fI r394 (Int.toNat i398) (0 : Nat))) then (kx0 ((0 : Int)) false i398) else
  (REC (IntKind.wrap IntKind.i64 (i398 + (1 : Int))))) else
  (none)) else
  (REC (IntKind.wrap IntKind.i64 (i398 + (1 : Int))))) else
  (none)) else
  (kx1 i398)
def Lp91_13 {R : Type} (m : Nat) (kx0 : Int → Bool → Int → Option R) (kx1 : Int → Option R) (r394 : Abs.Rows) (i395 : Int) (n396 : Nat) (i397 : Int) : Nat → Int → Option R
  | 0, _ => none
  | n + 1, i398 => Lp91_13_step m kx0 kx1 r394 i395 n396 i397 (Lp91_13 m kx0 kx1 r394 i395 n396 i397 n) i398
def ELp91_13 (m : Nat) (R : Type) : Nat → List V → (Ex → List V → Option R) → Option R
  | 0, _, _ => none
  | n + 1, vs, k => match vs with
    | [V.undef, V.undef, V.own [LT.int IntKind.i64] r394, V.f (F.lit (Value.int IntKind.i64 i395)), V.undef, V.lent { slot := (6 : Nat), leaf := none } (1 : Nat) n396, V.f (F.lit (Value.int IntKind.i64 i397)), V.f (F.lit (Value.int IntKind.i64 i398)), V.undef, V.undef] => Lp91_13_step m (fun i399 b400 i401 => k Ex.ret [V.f (F.lit (Value.int IntKind.i64 i399)), V.f (F.lit (Value.bool b400)), V.own [LT.int IntKind.i64] r394, V.f (F.lit (Value.int IntKind.i64 i395)), V.undef, V.lent { slot := (6 : Nat), leaf := none } (1 : Nat) n396, V.f (F.lit (Value.int IntKind.i64 i397)), V.f (F.lit (Value.int IntKind.i64 i401)), V.undef, V.undef]) (fun i402 => k (Ex.exit (2 : Nat)) [V.undef, V.undef, V.own [LT.int IntKind.i64] r394, V.f (F.lit (Value.int IntKind.i64 i395)), V.undef, V.lent { slot := (6 : Nat), leaf := none } (1 : Nat) n396, V.f (F.lit (Value.int IntKind.i64 i397)), V.f (F.lit (Value.int IntKind.i64 i402)), V.undef, V.undef]) r394 i395 n396 i397 (fun i398 => ELp91_13 m R n [V.undef, V.undef, V.own [LT.int IntKind.i64] r394, V.f (F.lit (Value.int IntKind.i64 i395)), V.undef, V.lent { slot := (6 : Nat), leaf := none } (1 : Nat) n396, V.f (F.lit (Value.int IntKind.i64 i397)), V.f (F.lit (Value.int IntKind.i64 i398)), V.undef, V.undef] k) i398
    | _ => none
def brLp91_13 (m : Nat) (L : LTbl) (R : Type) (vs : List V) (k : Ex → List V → Option R) : Option R := match vs with
  | [V.undef, V.undef, V.own [LT.int IntKind.i64] r394, V.f (F.lit (Value.int IntKind.i64 i395)), V.undef, V.lent { slot := (6 : Nat), leaf := none } (1 : Nat) n396, V.f (F.lit (Value.int IntKind.i64 i397)), V.f (F.lit (Value.int IntKind.i64 i398)), V.undef, V.undef] => Lp91_13 m (fun i399 b400 i401 => k Ex.ret [V.f (F.lit (Value.int IntKind.i64 i399)), V.f (F.lit (Value.bool b400)), V.own [LT.int IntKind.i64] r394, V.f (F.lit (Value.int IntKind.i64 i395)), V.undef, V.lent { slot := (6 : Nat), leaf := none } (1 : Nat) n396, V.f (F.lit (Value.int IntKind.i64 i397)), V.f (F.lit (Value.int IntKind.i64 i401)), V.undef, V.undef]) (fun i402 => k (Ex.exit (2 : Nat)) [V.undef, V.undef, V.own [LT.int IntKind.i64] r394, V.f (F.lit (Value.int IntKind.i64 i395)), V.undef, V.lent { slot := (6 : Nat), leaf := none } (1 : Nat) n396, V.f (F.lit (Value.int IntKind.i64 i397)), V.f (F.lit (Value.int IntKind.i64 i402)), V.undef, V.undef]) r394 i395 n396 i397 m i398
  | _ => L R 91 13 vs k
set_option maxRecDepth 100000 in
theorem stLp91_13 (m n : Nat) (R : Type) (r394 : Abs.Rows) (i395 : Int) (n396 : Nat) (i397 : Int) (i398 : Int) (k : Ex → List V → Option R) : codeK Try.prog H (T29 m) 91 (L17 m) 14 (loopBody Try.prog 91 13) (mkEnv [4, 5, 6, 7, 24, 36, 37, 38, 62, 63] [V.undef, V.undef, V.own [LT.int IntKind.i64] r394, V.f (F.lit (Value.int IntKind.i64 i395)), V.undef, V.lent { slot := (6 : Nat), leaf := none } (1 : Nat) n396, V.f (F.lit (Value.int IntKind.i64 i397)), V.f (F.lit (Value.int IntKind.i64 i398)), V.undef, V.undef] 0 (H.len 91)) (fun e env' => match e with | .normal => ELp91_13 m R n (vals [4, 5, 6, 7, 24, 36, 37, 38, 62, 63] env') k | e => k e (vals [4, 5, 6, 7, 24, 36, 37, 38, 62, 63] env')) = Lp91_13_step m (fun i399 b400 i401 => k Ex.ret [V.f (F.lit (Value.int IntKind.i64 i399)), V.f (F.lit (Value.bool b400)), V.own [LT.int IntKind.i64] r394, V.f (F.lit (Value.int IntKind.i64 i395)), V.undef, V.lent { slot := (6 : Nat), leaf := none } (1 : Nat) n396, V.f (F.lit (Value.int IntKind.i64 i397)), V.f (F.lit (Value.int IntKind.i64 i401)), V.undef, V.undef]) (fun i402 => k (Ex.exit (2 : Nat)) [V.undef, V.undef, V.own [LT.int IntKind.i64] r394, V.f (F.lit (Value.int IntKind.i64 i395)), V.undef, V.lent { slot := (6 : Nat), leaf := none } (1 : Nat) n396, V.f (F.lit (Value.int IntKind.i64 i397)), V.f (F.lit (Value.int IntKind.i64 i402)), V.undef, V.undef]) r394 i395 n396 i397 (fun i398 => ELp91_13 m R n [V.undef, V.undef, V.own [LT.int IntKind.i64] r394, V.f (F.lit (Value.int IntKind.i64 i395)), V.undef, V.lent { slot := (6 : Nat), leaf := none } (1 : Nat) n396, V.f (F.lit (Value.int IntKind.i64 i397)), V.f (F.lit (Value.int IntKind.i64 i398)), V.undef, V.undef] k) i398 := by kernel_rfl
theorem eqLp91_13 (m : Nat) (R : Type) (r394 : Abs.Rows) (i395 : Int) (n396 : Nat) (i397 : Int) (k : Ex → List V → Option R) : ∀ (n : Nat) (i398 : Int), ELp91_13 m R n [V.undef, V.undef, V.own [LT.int IntKind.i64] r394, V.f (F.lit (Value.int IntKind.i64 i395)), V.undef, V.lent { slot := (6 : Nat), leaf := none } (1 : Nat) n396, V.f (F.lit (Value.int IntKind.i64 i397)), V.f (F.lit (Value.int IntKind.i64 i398)), V.undef, V.undef] k = Lp91_13 m (fun i399 b400 i401 => k Ex.ret [V.f (F.lit (Value.int IntKind.i64 i399)), V.f (F.lit (Value.bool b400)), V.own [LT.int IntKind.i64] r394, V.f (F.lit (Value.int IntKind.i64 i395)), V.undef, V.lent { slot := (6 : Nat), leaf := none } (1 : Nat) n396, V.f (F.lit (Value.int IntKind.i64 i397)), V.f (F.lit (Value.int IntKind.i64 i401)), V.undef, V.undef]) (fun i402 => k (Ex.exit (2 : Nat)) [V.undef, V.undef, V.own [LT.int IntKind.i64] r394, V.f (F.lit (Value.int IntKind.i64 i395)), V.undef, V.lent { slot := (6 : Nat), leaf := none } (1 : Nat) n396, V.f (F.lit (Value.int IntKind.i64 i397)), V.f (F.lit (Value.int IntKind.i64 i402)), V.undef, V.undef]) r394 i395 n396 i397 n i398
  | 0, _ => rfl
  | n + 1, i398 => by
    simp only [ELp91_13, Lp91_13]
    congr 1
    funext i398
    exact eqLp91_13 m R r394 i395 n396 i397 k n i398
def L18 (m : Nat) : LTbl := addB 91 13 (brLp91_13 m (L17 m)) (L17 m)
theorem okL18 (m : Nat) : LTOk Try.prog H (L18 m) := addB_ok (okT29 m) hM (okL17 m) (l := [4, 5, 6, 7, 24, 36, 37, 38, 62, 63]) (by kernel_rfl) (by kernel_rfl) m (fun R n vs k => ELp91_13 m R n vs k) (fun R vs k => rfl) (fun R n vs k x h => by
      simp only [ELp91_13] at h
      split at h
      · exact (stLp91_13 m n R _ _ _ _ _ k).trans h
      · cases h) fun R vs k x h => by
    unfold brLp91_13 at h
    split at h
    · exact .inl ((eqLp91_13 m R _ _ _ _ k m _).trans h)
    · exact .inr h

/-- hookflash/media.strongest -/
def Fn91 {R : Type} (m : Nat) : Abs.Rows → Abs.Rows → (Int → Bool → Option R) → Option R := match m with
  | 0 => fun _ _ _ => none
  | m + 1 => fun r361 r362 k =>
  Lp91_4 m (fun r391 i392 i393 => Lp91_13 m (fun i403 b404 i405 => k i403 b404) (fun i406 => bif decide ((0 : Int) ≤ i392 ∧ i392 < (↑(List.length r391) : Int)) then (k i392 (decide (fI r391 (Int.toNat i392) (0 : Nat) ≥ (4000000 : Int)))) else
  (none)) r391 i392 (List.length r391) ((↑(List.length r391) : Int)) m ((0 : Int))) r361 r362 r361 ((↑(List.length r361) : Int)) m rows0 ((0 : Int)) ((0 : Int))
def brFn91 (m : Nat) (T : Tbl) (R : Type) (vs : List V) (k : V → List V → Option R) : Option R := match vs with
  | [V.bor [LT.int IntKind.i64] r361, V.bor [LT.int IntKind.i64] r362] => Fn91 m r361 r362 (fun i407 b408 => k (V.tup [V.f (F.lit (Value.int IntKind.i64 i407)), V.f (F.lit (Value.bool b408))]) [V.undef, V.undef])
  | _ => T R 91 vs k
set_option maxRecDepth 100000 in
theorem evFn91 (m : Nat) (R : Type) (r361 : Abs.Rows) (r362 : Abs.Rows) (k : V → List V → Option R) : runK Try.prog H (T29 m) (L18 m) 91 [V.bor [LT.int IntKind.i64] r361, V.bor [LT.int IntKind.i64] r362] k = Fn91 (m + 1) r361 r362 (fun i407 b408 => k (V.tup [V.f (F.lit (Value.int IntKind.i64 i407)), V.f (F.lit (Value.bool b408))]) [V.undef, V.undef]) := by kernel_rfl
def T30 (m : Nat) : Tbl := addT 91 (brFn91 m (T29 m)) (T29 m)
theorem okT30 (m : Nat) : TblOk Try.prog (T30 m) := addT_ok (okT29 m) fun R vs k x h => by
  unfold brFn91 at h
  split at h
  · cases m with
    | zero => cases h
    | succ m => exact runK_some (okT29 m) hM (okL18 m) ((evFn91 m R _ _ k).trans h)
  · exact okT29 m R 91 _ k x h

/-- a rest of hookflash/media.Keys -/
def Jn56_18 {R : Type} (m : Nat) (kx0 : Abs.Rows → Int → Option R) (r420 : Abs.Rows) (r421 : Abs.Rows) (i422 : Int) (i423 : Int) (i424 : Int) (i425 : Int) : Option R :=
  bif IntKind.wrap IntKind.i64 (i423 + (1 : Int)) == (2 : Int) then (bif decide (i425 ≥ (0 : Int)) then (bif decide ((0 : Int) ≤ i425 ∧ i425 < (↑(ByteArray.size { data := #[(49 : UInt8), (50 : UInt8), (51 : UInt8), (65 : UInt8), (52 : UInt8), (53 : UInt8), (54 : UInt8), (66 : UInt8), (55 : UInt8), (56 : UInt8), (57 : UInt8), (67 : UInt8), (42 : UInt8), (48 : UInt8), (35 : UInt8), (68 : UInt8)] }) : Int)) then (bif decide (List.length r421 + List.length [[F.lit (Value.int IntKind.u8 (↑(UInt8.toNat (Array.getD (ByteArray.data { data := #[(49 : UInt8), (50 : UInt8), (51 : UInt8), (65 : UInt8), (52 : UInt8), (53 : UInt8), (54 : UInt8), (66 : UInt8), (55 : UInt8), (56 : UInt8), (57 : UInt8), (67 : UInt8), (42 : UInt8), (48 : UInt8), (35 : UInt8), (68 : UInt8)] }) (Int.toNat i425) (0 : UInt8))) : Int))]] ≤ rowMax) then (letV (r421 ++ [[F.lit (Value.int IntKind.u8 (↑(UInt8.toNat (Array.getD (ByteArray.data { data := #[(49 : UInt8), (50 : UInt8), (51 : UInt8), (65 : UInt8), (52 : UInt8), (53 : UInt8), (54 : UInt8), (66 : UInt8), (55 : UInt8), (56 : UInt8), (57 : UInt8), (67 : UInt8), (42 : UInt8), (48 : UInt8), (35 : UInt8), (68 : UInt8)] }) (Int.toNat i425) (0 : UInt8))) : Int))]]) (fun r426 => kx0 r426 (IntKind.wrap IntKind.i64 (i423 + (1 : Int))))) else
  (none)) else
  (none)) else
  (kx0 r421 (IntKind.wrap IntKind.i64 (i423 + (1 : Int))))) else
  (kx0 r421 (IntKind.wrap IntKind.i64 (i423 + (1 : Int))))
def brJn56_18 (m : Nat) (L : LTbl) (R : Type) (vs : List V) (k : Ex → List V → Option R) : Option R := match vs with
  | [V.bor [LT.int IntKind.i64] r420, V.own [LT.int IntKind.u8] r421, V.f (F.lit (Value.int IntKind.i64 i422)), V.f (F.lit (Value.int IntKind.i64 i423)), V.f (F.lit (Value.int IntKind.i64 i424)), V.f (F.lit (Value.int IntKind.i64 i425)), V.undef, V.undef] => Jn56_18 m (fun r427 i428 => k Ex.normal [V.bor [LT.int IntKind.i64] r420, V.own [LT.int IntKind.u8] r427, V.f (F.lit (Value.int IntKind.i64 i422)), V.f (F.lit (Value.int IntKind.i64 i428)), V.f (F.lit (Value.int IntKind.i64 i424)), V.f (F.lit (Value.int IntKind.i64 i425)), V.undef, V.undef]) r420 r421 i422 i423 i424 i425
  | _ => L R 56 18 vs k
set_option maxRecDepth 100000 in
theorem evJn56_18 (m : Nat) (R : Type) (r420 : Abs.Rows) (r421 : Abs.Rows) (i422 : Int) (i423 : Int) (i424 : Int) (i425 : Int) (k : Ex → List V → Option R) : codeK Try.prog H (T30 m) 56 (L18 m) 19 (loopBody Try.prog 56 18) (mkEnv [0, 5, 6, 7, 8, 14, 68, 71] [V.bor [LT.int IntKind.i64] r420, V.own [LT.int IntKind.u8] r421, V.f (F.lit (Value.int IntKind.i64 i422)), V.f (F.lit (Value.int IntKind.i64 i423)), V.f (F.lit (Value.int IntKind.i64 i424)), V.f (F.lit (Value.int IntKind.i64 i425)), V.undef, V.undef] 0 (H.len 56)) (fun e env' => k e (vals [0, 5, 6, 7, 8, 14, 68, 71] env')) = Jn56_18 m (fun r427 i428 => k Ex.normal [V.bor [LT.int IntKind.i64] r420, V.own [LT.int IntKind.u8] r427, V.f (F.lit (Value.int IntKind.i64 i422)), V.f (F.lit (Value.int IntKind.i64 i428)), V.f (F.lit (Value.int IntKind.i64 i424)), V.f (F.lit (Value.int IntKind.i64 i425)), V.undef, V.undef]) r420 r421 i422 i423 i424 i425 := by kernel_rfl
def L19 (m : Nat) : LTbl := addJ 56 18 (brJn56_18 m (L18 m)) (L18 m)
theorem okL19 (m : Nat) : LTOk Try.prog H (L19 m) := addJ_ok (okT30 m) hM (okL18 m) (l := [0, 5, 6, 7, 8, 14, 68, 71]) (by kernel_rfl) (by kernel_rfl) fun R vs k x h => by
    unfold brJn56_18 at h
    split at h
    · exact .inl ((evJn56_18 m R _ _ _ _ _ _ k).trans h)
    · exact .inr h

/-- a rest of hookflash/media.Keys -/
def Jn56_16 {R : Type} (m : Nat) (kx0 : Abs.Rows → Int → Int → Option R) (r414 : Abs.Rows) (r415 : Abs.Rows) (i416 : Int) (i417 : Int) (i418 : Int) (i419 : Int) : Option R :=
  bif i419 != i416 then (Jn56_18 m (fun r429 i430 => kx0 r429 i419 i430) r414 r415 i419 ((0 : Int)) i418 i419) else
  (Jn56_18 m (fun r431 i432 => kx0 r431 i416 i432) r414 r415 i416 i417 i418 i419)
def brJn56_16 (m : Nat) (L : LTbl) (R : Type) (vs : List V) (k : Ex → List V → Option R) : Option R := match vs with
  | [V.bor [LT.int IntKind.i64] r414, V.own [LT.int IntKind.u8] r415, V.f (F.lit (Value.int IntKind.i64 i416)), V.f (F.lit (Value.int IntKind.i64 i417)), V.f (F.lit (Value.int IntKind.i64 i418)), V.f (F.lit (Value.int IntKind.i64 i419)), V.undef, V.undef] => Jn56_16 m (fun r433 i434 i435 => k Ex.normal [V.bor [LT.int IntKind.i64] r414, V.own [LT.int IntKind.u8] r433, V.f (F.lit (Value.int IntKind.i64 i434)), V.f (F.lit (Value.int IntKind.i64 i435)), V.f (F.lit (Value.int IntKind.i64 i418)), V.f (F.lit (Value.int IntKind.i64 i419)), V.undef, V.undef]) r414 r415 i416 i417 i418 i419
  | _ => L R 56 16 vs k
set_option maxRecDepth 100000 in
theorem evJn56_16 (m : Nat) (R : Type) (r414 : Abs.Rows) (r415 : Abs.Rows) (i416 : Int) (i417 : Int) (i418 : Int) (i419 : Int) (k : Ex → List V → Option R) : codeK Try.prog H (T30 m) 56 (L19 m) 17 (loopBody Try.prog 56 16) (mkEnv [0, 5, 6, 7, 8, 14, 68, 71] [V.bor [LT.int IntKind.i64] r414, V.own [LT.int IntKind.u8] r415, V.f (F.lit (Value.int IntKind.i64 i416)), V.f (F.lit (Value.int IntKind.i64 i417)), V.f (F.lit (Value.int IntKind.i64 i418)), V.f (F.lit (Value.int IntKind.i64 i419)), V.undef, V.undef] 0 (H.len 56)) (fun e env' => k e (vals [0, 5, 6, 7, 8, 14, 68, 71] env')) = Jn56_16 m (fun r433 i434 i435 => k Ex.normal [V.bor [LT.int IntKind.i64] r414, V.own [LT.int IntKind.u8] r433, V.f (F.lit (Value.int IntKind.i64 i434)), V.f (F.lit (Value.int IntKind.i64 i435)), V.f (F.lit (Value.int IntKind.i64 i418)), V.f (F.lit (Value.int IntKind.i64 i419)), V.undef, V.undef]) r414 r415 i416 i417 i418 i419 := by kernel_rfl
def L20 (m : Nat) : LTbl := addJ 56 16 (brJn56_16 m (L19 m)) (L19 m)
theorem okL20 (m : Nat) : LTOk Try.prog H (L20 m) := addJ_ok (okT30 m) hM (okL19 m) (l := [0, 5, 6, 7, 8, 14, 68, 71]) (by kernel_rfl) (by kernel_rfl) fun R vs k x h => by
    unfold brJn56_16 at h
    split at h
    · exact .inl ((evJn56_16 m R _ _ _ _ _ _ k).trans h)
    · exact .inr h

/-- a round of a loop of hookflash/media.Keys -/
def Lp56_8_step {R : Type} (m : Nat) (kx0 : Abs.Rows → Int → Int → Int → Option R) (r355 : Abs.Rows) (REC : Abs.Rows → Int → Int → Int → Option R) (r356 : Abs.Rows) (i357 : Int) (i358 : Int) (i359 : Int) : Option R :=
  bif decide (IntKind.wrap IntKind.i64 (i359 + (205 : Int)) ≤ (↑(List.length r355) : Int)) then (bif decide ((0 : Int) ≤ IntKind.wrap IntKind.i64 (i359 + (205 : Int)) ∧ IntKind.wrap IntKind.i64 (i359 + (205 : Int)) ≤ (↑(List.length r355) : Int)) then (bif decide ((0 : Int) ≤ i359 ∧ i359 ≤ (↑(Int.toNat (IntKind.wrap IntKind.i64 (i359 + (205 : Int)))) : Int)) then (Fn85 m  (fun r360 => Fn91 m r360 (List.take (Int.toNat (IntKind.wrap IntKind.i64 (i359 + (205 : Int))) - Int.toNat i359) (List.drop (Int.toNat i359) r355)) (fun i409 b410 => Fn86 m  (fun r411 => Fn91 m r411 (List.take (Int.toNat (IntKind.wrap IntKind.i64 (i359 + (205 : Int))) - Int.toNat i359) (List.drop (Int.toNat i359) r355)) (fun i412 b413 => bif b410 then (bif b413 then (Jn56_16 m (fun r436 i437 i438 => REC r436 i437 i438 (IntKind.wrap IntKind.i64 (i359 + (205 : Int)))) r355 r356 i357 i358 i359 (IntKind.wrap IntKind.i64 (IntKind.wrap IntKind.i64 ((4 : Int) * i409) + i412))) else
  (Jn56_16 m (fun r439 i440 i441 => REC r439 i440 i441 (IntKind.wrap IntKind.i64 (i359 + (205 : Int)))) r355 r356 i357 i358 i359 ((-1 : Int)))) else
  (Jn56_16 m (fun r442 i443 i444 => REC r442 i443 i444 (IntKind.wrap IntKind.i64 (i359 + (205 : Int)))) r355 r356 i357 i358 i359 ((-1 : Int)))))))) else
  (none)) else
  (none)) else
  (kx0 r356 i357 i358 i359)
def Lp56_8 {R : Type} (m : Nat) (kx0 : Abs.Rows → Int → Int → Int → Option R) (r355 : Abs.Rows) : Nat → Abs.Rows → Int → Int → Int → Option R
  | 0, _, _, _, _ => none
  | n + 1, r356, i357, i358, i359 => Lp56_8_step m kx0 r355 (Lp56_8 m kx0 r355 n) r356 i357 i358 i359
def ELp56_8 (m : Nat) (R : Type) : Nat → List V → (Ex → List V → Option R) → Option R
  | 0, _, _ => none
  | n + 1, vs, k => match vs with
    | [V.bor [LT.int IntKind.i64] r355, V.own [LT.int IntKind.u8] r356, V.f (F.lit (Value.int IntKind.i64 i357)), V.f (F.lit (Value.int IntKind.i64 i358)), V.f (F.lit (Value.int IntKind.i64 i359)), V.undef] => Lp56_8_step m (fun r445 i446 i447 i448 => k (Ex.exit (0 : Nat)) [V.bor [LT.int IntKind.i64] r355, V.own [LT.int IntKind.u8] r445, V.f (F.lit (Value.int IntKind.i64 i446)), V.f (F.lit (Value.int IntKind.i64 i447)), V.f (F.lit (Value.int IntKind.i64 i448)), V.undef]) r355 (fun r356 i357 i358 i359 => ELp56_8 m R n [V.bor [LT.int IntKind.i64] r355, V.own [LT.int IntKind.u8] r356, V.f (F.lit (Value.int IntKind.i64 i357)), V.f (F.lit (Value.int IntKind.i64 i358)), V.f (F.lit (Value.int IntKind.i64 i359)), V.undef] k) r356 i357 i358 i359
    | _ => none
def brLp56_8 (m : Nat) (L : LTbl) (R : Type) (vs : List V) (k : Ex → List V → Option R) : Option R := match vs with
  | [V.bor [LT.int IntKind.i64] r355, V.own [LT.int IntKind.u8] r356, V.f (F.lit (Value.int IntKind.i64 i357)), V.f (F.lit (Value.int IntKind.i64 i358)), V.f (F.lit (Value.int IntKind.i64 i359)), V.undef] => Lp56_8 m (fun r445 i446 i447 i448 => k (Ex.exit (0 : Nat)) [V.bor [LT.int IntKind.i64] r355, V.own [LT.int IntKind.u8] r445, V.f (F.lit (Value.int IntKind.i64 i446)), V.f (F.lit (Value.int IntKind.i64 i447)), V.f (F.lit (Value.int IntKind.i64 i448)), V.undef]) r355 m r356 i357 i358 i359
  | _ => L R 56 8 vs k
set_option maxRecDepth 100000 in
theorem stLp56_8 (m n : Nat) (R : Type) (r355 : Abs.Rows) (r356 : Abs.Rows) (i357 : Int) (i358 : Int) (i359 : Int) (k : Ex → List V → Option R) : codeK Try.prog H (T30 m) 56 (L20 m) 9 (loopBody Try.prog 56 8) (mkEnv [0, 5, 6, 7, 8, 71] [V.bor [LT.int IntKind.i64] r355, V.own [LT.int IntKind.u8] r356, V.f (F.lit (Value.int IntKind.i64 i357)), V.f (F.lit (Value.int IntKind.i64 i358)), V.f (F.lit (Value.int IntKind.i64 i359)), V.undef] 0 (H.len 56)) (fun e env' => match e with | .normal => ELp56_8 m R n (vals [0, 5, 6, 7, 8, 71] env') k | e => k e (vals [0, 5, 6, 7, 8, 71] env')) = Lp56_8_step m (fun r445 i446 i447 i448 => k (Ex.exit (0 : Nat)) [V.bor [LT.int IntKind.i64] r355, V.own [LT.int IntKind.u8] r445, V.f (F.lit (Value.int IntKind.i64 i446)), V.f (F.lit (Value.int IntKind.i64 i447)), V.f (F.lit (Value.int IntKind.i64 i448)), V.undef]) r355 (fun r356 i357 i358 i359 => ELp56_8 m R n [V.bor [LT.int IntKind.i64] r355, V.own [LT.int IntKind.u8] r356, V.f (F.lit (Value.int IntKind.i64 i357)), V.f (F.lit (Value.int IntKind.i64 i358)), V.f (F.lit (Value.int IntKind.i64 i359)), V.undef] k) r356 i357 i358 i359 := by kernel_rfl
theorem eqLp56_8 (m : Nat) (R : Type) (r355 : Abs.Rows) (k : Ex → List V → Option R) : ∀ (n : Nat) (r356 : Abs.Rows) (i357 : Int) (i358 : Int) (i359 : Int), ELp56_8 m R n [V.bor [LT.int IntKind.i64] r355, V.own [LT.int IntKind.u8] r356, V.f (F.lit (Value.int IntKind.i64 i357)), V.f (F.lit (Value.int IntKind.i64 i358)), V.f (F.lit (Value.int IntKind.i64 i359)), V.undef] k = Lp56_8 m (fun r445 i446 i447 i448 => k (Ex.exit (0 : Nat)) [V.bor [LT.int IntKind.i64] r355, V.own [LT.int IntKind.u8] r445, V.f (F.lit (Value.int IntKind.i64 i446)), V.f (F.lit (Value.int IntKind.i64 i447)), V.f (F.lit (Value.int IntKind.i64 i448)), V.undef]) r355 n r356 i357 i358 i359
  | 0, _, _, _, _ => rfl
  | n + 1, r356, i357, i358, i359 => by
    simp only [ELp56_8, Lp56_8]
    congr 1
    funext r356 i357 i358 i359
    exact eqLp56_8 m R r355 k n r356 i357 i358 i359
def L21 (m : Nat) : LTbl := addB 56 8 (brLp56_8 m (L20 m)) (L20 m)
theorem okL21 (m : Nat) : LTOk Try.prog H (L21 m) := addB_ok (okT30 m) hM (okL20 m) (l := [0, 5, 6, 7, 8, 71]) (by kernel_rfl) (by kernel_rfl) m (fun R n vs k => ELp56_8 m R n vs k) (fun R vs k => rfl) (fun R n vs k x h => by
      simp only [ELp56_8] at h
      split at h
      · exact (stLp56_8 m n R _ _ _ _ _ k).trans h
      · cases h) fun R vs k x h => by
    unfold brLp56_8 at h
    split at h
    · exact .inl ((eqLp56_8 m R _ k m _ _ _ _).trans h)
    · exact .inr h

/-- hookflash/media.Keys -/
def Fn56 {R : Type} (m : Nat) : Abs.Rows → (ByteArray → Int → Option R) → Option R := match m with
  | 0 => fun _ _ => none
  | m + 1 => fun r336 k =>
  Fn29 m r336 (fun i354 => bif i354 != (0 : Int) then (k ({ data := #[] }) i354) else
  (Lp56_8 m (fun r449 i450 i451 i452 => k (rowsBytes r449) ((0 : Int))) r336 m rows0 ((-1 : Int)) ((0 : Int)) ((0 : Int))))
def brFn56 (m : Nat) (T : Tbl) (R : Type) (vs : List V) (k : V → List V → Option R) : Option R := match vs with
  | [V.bor [LT.int IntKind.i64] r336] => Fn56 m r336 (fun s453 i454 => k (V.tup [V.f (F.lit (Value.string s453)), V.f (F.lit (Value.int IntKind.i64 i454))]) [V.undef])
  | _ => T R 56 vs k
set_option maxRecDepth 100000 in
theorem evFn56 (m : Nat) (R : Type) (r336 : Abs.Rows) (k : V → List V → Option R) : runK Try.prog H (T30 m) (L21 m) 56 [V.bor [LT.int IntKind.i64] r336] k = Fn56 (m + 1) r336 (fun s453 i454 => k (V.tup [V.f (F.lit (Value.string s453)), V.f (F.lit (Value.int IntKind.i64 i454))]) [V.undef]) := by kernel_rfl
def T31 (m : Nat) : Tbl := addT 56 (brFn56 m (T30 m)) (T30 m)
theorem okT31 (m : Nat) : TblOk Try.prog (T31 m) := addT_ok (okT30 m) fun R vs k x h => by
  unfold brFn56 at h
  split at h
  · cases m with
    | zero => cases h
    | succ m => exact runK_some (okT30 m) hM (okL21 m) ((evFn56 m R _ k).trans h)
  · exact okT30 m R 56 _ k x h

/-- hookflash/flashref2.in -/
def Fn63 {R : Type} (m : Nat) : Int → Int → Int → (Bool → Option R) → Option R := match m with
  | 0 => fun _ _ _ _ => none
  | m + 1 => fun i466 i467 i468 k =>
  bif decide (i467 ≤ i466) then (k (decide (i466 ≤ i468))) else
  (k false)
def brFn63 (m : Nat) (T : Tbl) (R : Type) (vs : List V) (k : V → List V → Option R) : Option R := match vs with
  | [V.f (F.lit (Value.int IntKind.i64 i466)), V.f (F.lit (Value.int IntKind.i64 i467)), V.f (F.lit (Value.int IntKind.i64 i468))] => Fn63 m i466 i467 i468 (fun b469 => k (V.f (F.lit (Value.bool b469))) [V.undef, V.undef, V.undef])
  | _ => T R 63 vs k
set_option maxRecDepth 100000 in
theorem evFn63 (m : Nat) (R : Type) (i466 : Int) (i467 : Int) (i468 : Int) (k : V → List V → Option R) : runK Try.prog H (T31 m) (L21 m) 63 [V.f (F.lit (Value.int IntKind.i64 i466)), V.f (F.lit (Value.int IntKind.i64 i467)), V.f (F.lit (Value.int IntKind.i64 i468))] k = Fn63 (m + 1) i466 i467 i468 (fun b469 => k (V.f (F.lit (Value.bool b469))) [V.undef, V.undef, V.undef]) := by kernel_rfl
def T32 (m : Nat) : Tbl := addT 63 (brFn63 m (T31 m)) (T31 m)
theorem okT32 (m : Nat) : TblOk Try.prog (T32 m) := addT_ok (okT31 m) fun R vs k x h => by
  unfold brFn63 at h
  split at h
  · cases m with
    | zero => cases h
    | succ m => exact runK_some (okT31 m) hM (okL21 m) ((evFn63 m R _ _ _ k).trans h)
  · exact okT31 m R 63 _ k x h

/-- hookflash/flashref2.Sample -/
def Fn25 {R : Type} (m : Nat) : Int → (Bool → Option R) → Option R := match m with
  | 0 => fun _ _ => none
  | m + 1 => fun i465 k =>
  Fn63 m i465 ((-32768 : Int)) ((32767 : Int)) (fun b470 => k b470)
def brFn25 (m : Nat) (T : Tbl) (R : Type) (vs : List V) (k : V → List V → Option R) : Option R := match vs with
  | [V.f (F.lit (Value.int IntKind.i64 i465))] => Fn25 m i465 (fun b471 => k (V.f (F.lit (Value.bool b471))) [V.undef])
  | _ => T R 25 vs k
set_option maxRecDepth 100000 in
theorem evFn25 (m : Nat) (R : Type) (i465 : Int) (k : V → List V → Option R) : runK Try.prog H (T32 m) (L21 m) 25 [V.f (F.lit (Value.int IntKind.i64 i465))] k = Fn25 (m + 1) i465 (fun b471 => k (V.f (F.lit (Value.bool b471))) [V.undef]) := by kernel_rfl
def T33 (m : Nat) : Tbl := addT 25 (brFn25 m (T32 m)) (T32 m)
theorem okT33 (m : Nat) : TblOk Try.prog (T33 m) := addT_ok (okT32 m) fun R vs k x h => by
  unfold brFn25 at h
  split at h
  · cases m with
    | zero => cases h
    | succ m => exact runK_some (okT32 m) hM (okL21 m) ((evFn25 m R _ k).trans h)
  · exact okT32 m R 25 _ k x h

/-- hookflash/flashref2.SamplesFault$1 -/
def Fn70 {R : Type} (m : Nat) : Int → (Bool → Option R) → Option R := match m with
  | 0 => fun _ _ => none
  | m + 1 => fun i464 k =>
  Fn25 m i464 (fun b472 => k (!b472))
def brFn70 (m : Nat) (T : Tbl) (R : Type) (vs : List V) (k : V → List V → Option R) : Option R := match vs with
  | [V.f (F.lit (Value.int IntKind.i64 i464))] => Fn70 m i464 (fun b473 => k (V.f (F.lit (Value.bool b473))) [V.undef])
  | _ => T R 70 vs k
set_option maxRecDepth 100000 in
theorem evFn70 (m : Nat) (R : Type) (i464 : Int) (k : V → List V → Option R) : runK Try.prog H (T33 m) (L21 m) 70 [V.f (F.lit (Value.int IntKind.i64 i464))] k = Fn70 (m + 1) i464 (fun b473 => k (V.f (F.lit (Value.bool b473))) [V.undef]) := by kernel_rfl
def T34 (m : Nat) : Tbl := addT 70 (brFn70 m (T33 m)) (T33 m)
theorem okT34 (m : Nat) : TblOk Try.prog (T34 m) := addT_ok (okT33 m) fun R vs k x h => by
  unfold brFn70 at h
  split at h
  · cases m with
    | zero => cases h
    | succ m => exact runK_some (okT33 m) hM (okL21 m) ((evFn70 m R _ k).trans h)
  · exact okT33 m R 70 _ k x h

/-- a round of a loop of slices.IndexFunc[[]int,int] -/
def Lp94_2_step {R : Type} (m : Nat) (kx0 : Int → Int → Option R) (kx1 : Int → Option R) (r460 : Abs.Rows) (i461 : Int) (i462 : Int) (REC : Int → Option R) (i463 : Int) : Option R :=
  bif decide (i463 < i462) then (bif decide ((0 : Int) ≤ i463 ∧ i463 < (↑(List.length r460) : Int)) then (Fn70 m (fI r460 (Int.toNat i463) (0 : Nat)) (fun b474 => bif b474 then (kx0 i463 i463) else
  (REC (IntKind.wrap IntKind.i64 (i463 + (1 : Int)))))) else
  (none)) else
  (kx1 i463)
def Lp94_2 {R : Type} (m : Nat) (kx0 : Int → Int → Option R) (kx1 : Int → Option R) (r460 : Abs.Rows) (i461 : Int) (i462 : Int) : Nat → Int → Option R
  | 0, _ => none
  | n + 1, i463 => Lp94_2_step m kx0 kx1 r460 i461 i462 (Lp94_2 m kx0 kx1 r460 i461 i462 n) i463
def ELp94_2 (m : Nat) (R : Type) : Nat → List V → (Ex → List V → Option R) → Option R
  | 0, _, _ => none
  | n + 1, vs, k => match vs with
    | [V.bor [LT.int IntKind.i64] r460, V.clos (70 : Nat) [], V.f (F.lit (Value.int IntKind.i64 i461)), V.f (F.lit (Value.int IntKind.i64 i462)), V.f (F.lit (Value.int IntKind.i64 i463)), V.undef, V.undef] => Lp94_2_step m (fun i475 i476 => k Ex.ret [V.bor [LT.int IntKind.i64] r460, V.clos (70 : Nat) [], V.f (F.lit (Value.int IntKind.i64 i475)), V.f (F.lit (Value.int IntKind.i64 i462)), V.f (F.lit (Value.int IntKind.i64 i476)), V.undef, V.undef]) (fun i477 => k (Ex.exit (0 : Nat)) [V.bor [LT.int IntKind.i64] r460, V.clos (70 : Nat) [], V.f (F.lit (Value.int IntKind.i64 i461)), V.f (F.lit (Value.int IntKind.i64 i462)), V.f (F.lit (Value.int IntKind.i64 i477)), V.undef, V.undef]) r460 i461 i462 (fun i463 => ELp94_2 m R n [V.bor [LT.int IntKind.i64] r460, V.clos (70 : Nat) [], V.f (F.lit (Value.int IntKind.i64 i461)), V.f (F.lit (Value.int IntKind.i64 i462)), V.f (F.lit (Value.int IntKind.i64 i463)), V.undef, V.undef] k) i463
    | _ => none
def brLp94_2 (m : Nat) (L : LTbl) (R : Type) (vs : List V) (k : Ex → List V → Option R) : Option R := match vs with
  | [V.bor [LT.int IntKind.i64] r460, V.clos (70 : Nat) [], V.f (F.lit (Value.int IntKind.i64 i461)), V.f (F.lit (Value.int IntKind.i64 i462)), V.f (F.lit (Value.int IntKind.i64 i463)), V.undef, V.undef] => Lp94_2 m (fun i475 i476 => k Ex.ret [V.bor [LT.int IntKind.i64] r460, V.clos (70 : Nat) [], V.f (F.lit (Value.int IntKind.i64 i475)), V.f (F.lit (Value.int IntKind.i64 i462)), V.f (F.lit (Value.int IntKind.i64 i476)), V.undef, V.undef]) (fun i477 => k (Ex.exit (0 : Nat)) [V.bor [LT.int IntKind.i64] r460, V.clos (70 : Nat) [], V.f (F.lit (Value.int IntKind.i64 i461)), V.f (F.lit (Value.int IntKind.i64 i462)), V.f (F.lit (Value.int IntKind.i64 i477)), V.undef, V.undef]) r460 i461 i462 m i463
  | _ => L R 94 2 vs k
set_option maxRecDepth 100000 in
theorem stLp94_2 (m n : Nat) (R : Type) (r460 : Abs.Rows) (i461 : Int) (i462 : Int) (i463 : Int) (k : Ex → List V → Option R) : codeK Try.prog H (T34 m) 94 (L21 m) 3 (loopBody Try.prog 94 2) (mkEnv [0, 1, 4, 7, 8, 19, 20] [V.bor [LT.int IntKind.i64] r460, V.clos (70 : Nat) [], V.f (F.lit (Value.int IntKind.i64 i461)), V.f (F.lit (Value.int IntKind.i64 i462)), V.f (F.lit (Value.int IntKind.i64 i463)), V.undef, V.undef] 0 (H.len 94)) (fun e env' => match e with | .normal => ELp94_2 m R n (vals [0, 1, 4, 7, 8, 19, 20] env') k | e => k e (vals [0, 1, 4, 7, 8, 19, 20] env')) = Lp94_2_step m (fun i475 i476 => k Ex.ret [V.bor [LT.int IntKind.i64] r460, V.clos (70 : Nat) [], V.f (F.lit (Value.int IntKind.i64 i475)), V.f (F.lit (Value.int IntKind.i64 i462)), V.f (F.lit (Value.int IntKind.i64 i476)), V.undef, V.undef]) (fun i477 => k (Ex.exit (0 : Nat)) [V.bor [LT.int IntKind.i64] r460, V.clos (70 : Nat) [], V.f (F.lit (Value.int IntKind.i64 i461)), V.f (F.lit (Value.int IntKind.i64 i462)), V.f (F.lit (Value.int IntKind.i64 i477)), V.undef, V.undef]) r460 i461 i462 (fun i463 => ELp94_2 m R n [V.bor [LT.int IntKind.i64] r460, V.clos (70 : Nat) [], V.f (F.lit (Value.int IntKind.i64 i461)), V.f (F.lit (Value.int IntKind.i64 i462)), V.f (F.lit (Value.int IntKind.i64 i463)), V.undef, V.undef] k) i463 := by kernel_rfl
theorem eqLp94_2 (m : Nat) (R : Type) (r460 : Abs.Rows) (i461 : Int) (i462 : Int) (k : Ex → List V → Option R) : ∀ (n : Nat) (i463 : Int), ELp94_2 m R n [V.bor [LT.int IntKind.i64] r460, V.clos (70 : Nat) [], V.f (F.lit (Value.int IntKind.i64 i461)), V.f (F.lit (Value.int IntKind.i64 i462)), V.f (F.lit (Value.int IntKind.i64 i463)), V.undef, V.undef] k = Lp94_2 m (fun i475 i476 => k Ex.ret [V.bor [LT.int IntKind.i64] r460, V.clos (70 : Nat) [], V.f (F.lit (Value.int IntKind.i64 i475)), V.f (F.lit (Value.int IntKind.i64 i462)), V.f (F.lit (Value.int IntKind.i64 i476)), V.undef, V.undef]) (fun i477 => k (Ex.exit (0 : Nat)) [V.bor [LT.int IntKind.i64] r460, V.clos (70 : Nat) [], V.f (F.lit (Value.int IntKind.i64 i461)), V.f (F.lit (Value.int IntKind.i64 i462)), V.f (F.lit (Value.int IntKind.i64 i477)), V.undef, V.undef]) r460 i461 i462 n i463
  | 0, _ => rfl
  | n + 1, i463 => by
    simp only [ELp94_2, Lp94_2]
    congr 1
    funext i463
    exact eqLp94_2 m R r460 i461 i462 k n i463
def L22 (m : Nat) : LTbl := addB 94 2 (brLp94_2 m (L21 m)) (L21 m)
theorem okL22 (m : Nat) : LTOk Try.prog H (L22 m) := addB_ok (okT34 m) hM (okL21 m) (l := [0, 1, 4, 7, 8, 19, 20]) (by kernel_rfl) (by kernel_rfl) m (fun R n vs k => ELp94_2 m R n vs k) (fun R vs k => rfl) (fun R n vs k x h => by
      simp only [ELp94_2] at h
      split at h
      · exact (stLp94_2 m n R _ _ _ _ k).trans h
      · cases h) fun R vs k x h => by
    unfold brLp94_2 at h
    split at h
    · exact .inl ((eqLp94_2 m R _ _ _ k m _).trans h)
    · exact .inr h

/-- slices.IndexFunc[[]int,int] -/
def Fn94 {R : Type} (m : Nat) : Abs.Rows → (Int → Option R) → Option R := match m with
  | 0 => fun _ _ => none
  | m + 1 => fun r459 k =>
  Lp94_2 m (fun i478 i479 => k i478) (fun i480 => k ((-1 : Int))) r459 ((0 : Int)) ((↑(List.length r459) : Int)) m ((0 : Int))
def brFn94 (m : Nat) (T : Tbl) (R : Type) (vs : List V) (k : V → List V → Option R) : Option R := match vs with
  | [V.bor [LT.int IntKind.i64] r459, V.clos (70 : Nat) []] => Fn94 m r459 (fun i481 => k (V.f (F.lit (Value.int IntKind.i64 i481))) [V.undef, V.undef])
  | _ => T R 94 vs k
set_option maxRecDepth 100000 in
theorem evFn94 (m : Nat) (R : Type) (r459 : Abs.Rows) (k : V → List V → Option R) : runK Try.prog H (T34 m) (L22 m) 94 [V.bor [LT.int IntKind.i64] r459, V.clos (70 : Nat) []] k = Fn94 (m + 1) r459 (fun i481 => k (V.f (F.lit (Value.int IntKind.i64 i481))) [V.undef, V.undef]) := by kernel_rfl
def T35 (m : Nat) : Tbl := addT 94 (brFn94 m (T34 m)) (T34 m)
theorem okT35 (m : Nat) : TblOk Try.prog (T35 m) := addT_ok (okT34 m) fun R vs k x h => by
  unfold brFn94 at h
  split at h
  · cases m with
    | zero => cases h
    | succ m => exact runK_some (okT34 m) hM (okL22 m) ((evFn94 m R _ k).trans h)
  · exact okT34 m R 94 _ k x h

/-- slices.ContainsFunc[[]int,int] -/
def Fn69 {R : Type} (m : Nat) : Abs.Rows → (Bool → Option R) → Option R := match m with
  | 0 => fun _ _ => none
  | m + 1 => fun r458 k =>
  Fn94 m r458 (fun i482 => k (decide (i482 ≥ (0 : Int))))
def brFn69 (m : Nat) (T : Tbl) (R : Type) (vs : List V) (k : V → List V → Option R) : Option R := match vs with
  | [V.bor [LT.int IntKind.i64] r458, V.clos (70 : Nat) []] => Fn69 m r458 (fun b483 => k (V.f (F.lit (Value.bool b483))) [V.undef, V.undef])
  | _ => T R 69 vs k
set_option maxRecDepth 100000 in
theorem evFn69 (m : Nat) (R : Type) (r458 : Abs.Rows) (k : V → List V → Option R) : runK Try.prog H (T35 m) (L22 m) 69 [V.bor [LT.int IntKind.i64] r458, V.clos (70 : Nat) []] k = Fn69 (m + 1) r458 (fun b483 => k (V.f (F.lit (Value.bool b483))) [V.undef, V.undef]) := by kernel_rfl
def T36 (m : Nat) : Tbl := addT 69 (brFn69 m (T35 m)) (T35 m)
theorem okT36 (m : Nat) : TblOk Try.prog (T36 m) := addT_ok (okT35 m) fun R vs k x h => by
  unfold brFn69 at h
  split at h
  · cases m with
    | zero => cases h
    | succ m => exact runK_some (okT35 m) hM (okL22 m) ((evFn69 m R _ k).trans h)
  · exact okT35 m R 69 _ k x h

/-- hookflash/flashref2.SamplesFault -/
def Fn28 {R : Type} (m : Nat) : Abs.Rows → (Int → Option R) → Option R := match m with
  | 0 => fun _ _ => none
  | m + 1 => fun r457 k =>
  bif decide ((↑(List.length r457) : Int) > (20000 : Int)) then (k ((2 : Int))) else
  (Fn69 m r457 (fun b484 => bif b484 then (k ((1 : Int))) else
  (k ((0 : Int)))))
def brFn28 (m : Nat) (T : Tbl) (R : Type) (vs : List V) (k : V → List V → Option R) : Option R := match vs with
  | [V.bor [LT.int IntKind.i64] r457] => Fn28 m r457 (fun i485 => k (V.f (F.lit (Value.int IntKind.i64 i485))) [V.undef])
  | _ => T R 28 vs k
set_option maxRecDepth 100000 in
theorem evFn28 (m : Nat) (R : Type) (r457 : Abs.Rows) (k : V → List V → Option R) : runK Try.prog H (T36 m) (L22 m) 28 [V.bor [LT.int IntKind.i64] r457] k = Fn28 (m + 1) r457 (fun i485 => k (V.f (F.lit (Value.int IntKind.i64 i485))) [V.undef]) := by kernel_rfl
def T37 (m : Nat) : Tbl := addT 28 (brFn28 m (T36 m)) (T36 m)
theorem okT37 (m : Nat) : TblOk Try.prog (T37 m) := addT_ok (okT36 m) fun R vs k x h => by
  unfold brFn28 at h
  split at h
  · cases m with
    | zero => cases h
    | succ m => exact runK_some (okT36 m) hM (okL22 m) ((evFn28 m R _ k).trans h)
  · exact okT36 m R 28 _ k x h

/-- hookflash/media.Expand -/
def Fn32 {R : Type} (m : Nat) : Int → (Int → Option R) → Option R := match m with
  | 0 => fun _ _ => none
  | m + 1 => fun i487 k =>
  bif decide ((0 : Int) ≤ Int.tmod (IntKind.wrap IntKind.i64 (Int.tdiv (IntKind.wrap IntKind.i64 ((255 : Int) - IntKind.wrap IntKind.i64 i487)) (16 : Int))) (8 : Int)) then (letV (IntKind.wrap IntKind.i64 (IntKind.wrap IntKind.i64 (IntKind.wrap IntKind.i64 ((2 : Int) * Int.tmod (IntKind.wrap IntKind.i64 ((255 : Int) - IntKind.wrap IntKind.i64 i487)) (16 : Int)) + (33 : Int)) * (2 : Int) ^ min (Int.toNat (Int.tmod (IntKind.wrap IntKind.i64 (Int.tdiv (IntKind.wrap IntKind.i64 ((255 : Int) - IntKind.wrap IntKind.i64 i487)) (16 : Int))) (8 : Int))) (64 : Nat))) (fun i488 => bif IntKind.wrap IntKind.i64 (Int.tdiv (IntKind.wrap IntKind.i64 ((255 : Int) - IntKind.wrap IntKind.i64 i487)) (128 : Int)) == (1 : Int) then (k (IntKind.wrap IntKind.i64 (IntKind.wrap IntKind.i64 ((0 : Int) - IntKind.wrap IntKind.i64 (IntKind.wrap IntKind.i64 (i488 - (33 : Int)) * (4 : Int))) - (1 : Int)))) else
  (k (IntKind.wrap IntKind.i64 (IntKind.wrap IntKind.i64 (i488 - (33 : Int)) * (4 : Int)))))) else
  (none)
def brFn32 (m : Nat) (T : Tbl) (R : Type) (vs : List V) (k : V → List V → Option R) : Option R := match vs with
  | [V.f (F.lit (Value.int IntKind.u8 i487))] => Fn32 m i487 (fun i489 => k (V.f (F.lit (Value.int IntKind.i64 i489))) [V.undef])
  | _ => T R 32 vs k
set_option maxRecDepth 100000 in
theorem evFn32 (m : Nat) (R : Type) (i487 : Int) (k : V → List V → Option R) : runK Try.prog H (T37 m) (L22 m) 32 [V.f (F.lit (Value.int IntKind.u8 i487))] k = Fn32 (m + 1) i487 (fun i489 => k (V.f (F.lit (Value.int IntKind.i64 i489))) [V.undef]) := by kernel_rfl
def T38 (m : Nat) : Tbl := addT 32 (brFn32 m (T37 m)) (T37 m)
theorem okT38 (m : Nat) : TblOk Try.prog (T38 m) := addT_ok (okT37 m) fun R vs k x h => by
  unfold brFn32 at h
  split at h
  · cases m with
    | zero => cases h
    | succ m => exact runK_some (okT37 m) hM (okL22 m) ((evFn32 m R _ k).trans h)
  · exact okT37 m R 32 _ k x h

/-- hookflash/flashlaw2.sounded -/
def Fn19 {R : Type} (m : Nat) : (Bool → Option R) → Option R := match m with
  | 0 => fun _ => none
  | m + 1 => fun  k =>
  Fn32 m ((128 : Int)) (fun i490 => k (i490 == (32124 : Int)))
def brFn19 (m : Nat) (T : Tbl) (R : Type) (vs : List V) (k : V → List V → Option R) : Option R := match vs with
  | [] => Fn19 m  (fun b491 => k (V.f (F.lit (Value.bool b491))) [])
  | _ => T R 19 vs k
set_option maxRecDepth 100000 in
theorem evFn19 (m : Nat) (R : Type)  (k : V → List V → Option R) : runK Try.prog H (T38 m) (L22 m) 19 [] k = Fn19 (m + 1)  (fun b491 => k (V.f (F.lit (Value.bool b491))) []) := by kernel_rfl
def T39 (m : Nat) : Tbl := addT 19 (brFn19 m (T38 m)) (T38 m)
theorem okT39 (m : Nat) : TblOk Try.prog (T39 m) := addT_ok (okT38 m) fun R vs k x h => by
  unfold brFn19 at h
  split at h
  · cases m with
    | zero => cases h
    | succ m => exact runK_some (okT38 m) hM (okL22 m) ((evFn19 m R k).trans h)
  · exact okT38 m R 19 _ k x h

/-- a round of a loop of hookflash/flashref2.strength -/
def Lp99_3_step {R : Type} (m : Nat) (kx0 : Int → Int → Int → Option R) (i507 : Int) (r508 : Abs.Rows) (r511 : Abs.Rows) (i512 : Int) (REC : Int → Int → Int → Option R) (i509 : Int) (i510 : Int) (i513 : Int) : Option R :=
  bif decide (i513 < i512) then (bif decide ((0 : Int) ≤ i513 ∧ i513 < (↑(List.length r511) : Int)) then (Fn75 m (fI r511 (Int.toNat i513) (0 : Nat)) ((8 : Int)) (fun i514 => Fn75 m (IntKind.wrap IntKind.i64 (i507 * i509)) ((16384 : Int)) (fun i515 => REC (IntKind.wrap IntKind.i64 (IntKind.wrap IntKind.i64 (i514 + i515) - i510)) i509 (IntKind.wrap IntKind.i64 (i513 + (1 : Int)))))) else
  (none)) else
  (kx0 i509 i510 i513)
def Lp99_3 {R : Type} (m : Nat) (kx0 : Int → Int → Int → Option R) (i507 : Int) (r508 : Abs.Rows) (r511 : Abs.Rows) (i512 : Int) : Nat → Int → Int → Int → Option R
  | 0, _, _, _ => none
  | n + 1, i509, i510, i513 => Lp99_3_step m kx0 i507 r508 r511 i512 (Lp99_3 m kx0 i507 r508 r511 i512 n) i509 i510 i513
def ELp99_3 (m : Nat) (R : Type) : Nat → List V → (Ex → List V → Option R) → Option R
  | 0, _, _ => none
  | n + 1, vs, k => match vs with
    | [V.f (F.lit (Value.int IntKind.i64 i507)), V.bor [LT.int IntKind.i64] r508, V.f (F.lit (Value.int IntKind.i64 i509)), V.f (F.lit (Value.int IntKind.i64 i510)), V.bor [LT.int IntKind.i64] r511, V.f (F.lit (Value.int IntKind.i64 i512)), V.f (F.lit (Value.int IntKind.i64 i513)), V.undef, V.undef] => Lp99_3_step m (fun i516 i517 i518 => k (Ex.exit (0 : Nat)) [V.f (F.lit (Value.int IntKind.i64 i507)), V.bor [LT.int IntKind.i64] r508, V.f (F.lit (Value.int IntKind.i64 i516)), V.f (F.lit (Value.int IntKind.i64 i517)), V.bor [LT.int IntKind.i64] r511, V.f (F.lit (Value.int IntKind.i64 i512)), V.f (F.lit (Value.int IntKind.i64 i518)), V.undef, V.undef]) i507 r508 r511 i512 (fun i509 i510 i513 => ELp99_3 m R n [V.f (F.lit (Value.int IntKind.i64 i507)), V.bor [LT.int IntKind.i64] r508, V.f (F.lit (Value.int IntKind.i64 i509)), V.f (F.lit (Value.int IntKind.i64 i510)), V.bor [LT.int IntKind.i64] r511, V.f (F.lit (Value.int IntKind.i64 i512)), V.f (F.lit (Value.int IntKind.i64 i513)), V.undef, V.undef] k) i509 i510 i513
    | _ => none
def brLp99_3 (m : Nat) (L : LTbl) (R : Type) (vs : List V) (k : Ex → List V → Option R) : Option R := match vs with
  | [V.f (F.lit (Value.int IntKind.i64 i507)), V.bor [LT.int IntKind.i64] r508, V.f (F.lit (Value.int IntKind.i64 i509)), V.f (F.lit (Value.int IntKind.i64 i510)), V.bor [LT.int IntKind.i64] r511, V.f (F.lit (Value.int IntKind.i64 i512)), V.f (F.lit (Value.int IntKind.i64 i513)), V.undef, V.undef] => Lp99_3 m (fun i516 i517 i518 => k (Ex.exit (0 : Nat)) [V.f (F.lit (Value.int IntKind.i64 i507)), V.bor [LT.int IntKind.i64] r508, V.f (F.lit (Value.int IntKind.i64 i516)), V.f (F.lit (Value.int IntKind.i64 i517)), V.bor [LT.int IntKind.i64] r511, V.f (F.lit (Value.int IntKind.i64 i512)), V.f (F.lit (Value.int IntKind.i64 i518)), V.undef, V.undef]) i507 r508 r511 i512 m i509 i510 i513
  | _ => L R 99 3 vs k
set_option maxRecDepth 100000 in
theorem stLp99_3 (m n : Nat) (R : Type) (i507 : Int) (r508 : Abs.Rows) (i509 : Int) (i510 : Int) (r511 : Abs.Rows) (i512 : Int) (i513 : Int) (k : Ex → List V → Option R) : codeK Try.prog H (T39 m) 99 (L22 m) 4 (loopBody Try.prog 99 3) (mkEnv [0, 1, 5, 6, 9, 10, 11, 40, 41] [V.f (F.lit (Value.int IntKind.i64 i507)), V.bor [LT.int IntKind.i64] r508, V.f (F.lit (Value.int IntKind.i64 i509)), V.f (F.lit (Value.int IntKind.i64 i510)), V.bor [LT.int IntKind.i64] r511, V.f (F.lit (Value.int IntKind.i64 i512)), V.f (F.lit (Value.int IntKind.i64 i513)), V.undef, V.undef] 0 (H.len 99)) (fun e env' => match e with | .normal => ELp99_3 m R n (vals [0, 1, 5, 6, 9, 10, 11, 40, 41] env') k | e => k e (vals [0, 1, 5, 6, 9, 10, 11, 40, 41] env')) = Lp99_3_step m (fun i516 i517 i518 => k (Ex.exit (0 : Nat)) [V.f (F.lit (Value.int IntKind.i64 i507)), V.bor [LT.int IntKind.i64] r508, V.f (F.lit (Value.int IntKind.i64 i516)), V.f (F.lit (Value.int IntKind.i64 i517)), V.bor [LT.int IntKind.i64] r511, V.f (F.lit (Value.int IntKind.i64 i512)), V.f (F.lit (Value.int IntKind.i64 i518)), V.undef, V.undef]) i507 r508 r511 i512 (fun i509 i510 i513 => ELp99_3 m R n [V.f (F.lit (Value.int IntKind.i64 i507)), V.bor [LT.int IntKind.i64] r508, V.f (F.lit (Value.int IntKind.i64 i509)), V.f (F.lit (Value.int IntKind.i64 i510)), V.bor [LT.int IntKind.i64] r511, V.f (F.lit (Value.int IntKind.i64 i512)), V.f (F.lit (Value.int IntKind.i64 i513)), V.undef, V.undef] k) i509 i510 i513 := by kernel_rfl
theorem eqLp99_3 (m : Nat) (R : Type) (i507 : Int) (r508 : Abs.Rows) (r511 : Abs.Rows) (i512 : Int) (k : Ex → List V → Option R) : ∀ (n : Nat) (i509 : Int) (i510 : Int) (i513 : Int), ELp99_3 m R n [V.f (F.lit (Value.int IntKind.i64 i507)), V.bor [LT.int IntKind.i64] r508, V.f (F.lit (Value.int IntKind.i64 i509)), V.f (F.lit (Value.int IntKind.i64 i510)), V.bor [LT.int IntKind.i64] r511, V.f (F.lit (Value.int IntKind.i64 i512)), V.f (F.lit (Value.int IntKind.i64 i513)), V.undef, V.undef] k = Lp99_3 m (fun i516 i517 i518 => k (Ex.exit (0 : Nat)) [V.f (F.lit (Value.int IntKind.i64 i507)), V.bor [LT.int IntKind.i64] r508, V.f (F.lit (Value.int IntKind.i64 i516)), V.f (F.lit (Value.int IntKind.i64 i517)), V.bor [LT.int IntKind.i64] r511, V.f (F.lit (Value.int IntKind.i64 i512)), V.f (F.lit (Value.int IntKind.i64 i518)), V.undef, V.undef]) i507 r508 r511 i512 n i509 i510 i513
  | 0, _, _, _ => rfl
  | n + 1, i509, i510, i513 => by
    simp only [ELp99_3, Lp99_3]
    congr 1
    funext i509 i510 i513
    exact eqLp99_3 m R i507 r508 r511 i512 k n i509 i510 i513
def L23 (m : Nat) : LTbl := addB 99 3 (brLp99_3 m (L22 m)) (L22 m)
theorem okL23 (m : Nat) : LTOk Try.prog H (L23 m) := addB_ok (okT39 m) hM (okL22 m) (l := [0, 1, 5, 6, 9, 10, 11, 40, 41]) (by kernel_rfl) (by kernel_rfl) m (fun R n vs k => ELp99_3 m R n vs k) (fun R vs k => rfl) (fun R n vs k x h => by
      simp only [ELp99_3] at h
      split at h
      · exact (stLp99_3 m n R _ _ _ _ _ _ _ k).trans h
      · cases h) fun R vs k x h => by
    unfold brLp99_3 at h
    split at h
    · exact .inl ((eqLp99_3 m R _ _ _ _ k m _ _ _).trans h)
    · exact .inr h

/-- hookflash/flashref2.strength -/
def Fn99 {R : Type} (m : Nat) : Int → Abs.Rows → (Int → Option R) → Option R := match m with
  | 0 => fun _ _ _ => none
  | m + 1 => fun i505 r506 k =>
  Lp99_3 m (fun i519 i520 i521 => Fn75 m (IntKind.wrap IntKind.i64 (i505 * i519)) ((16384 : Int)) (fun i522 => k (IntKind.wrap IntKind.i64 (IntKind.wrap IntKind.i64 (IntKind.wrap IntKind.i64 (i519 * i519) + IntKind.wrap IntKind.i64 (i520 * i520)) - IntKind.wrap IntKind.i64 (i522 * i520))))) i505 r506 r506 ((↑(List.length r506) : Int)) m ((0 : Int)) ((0 : Int)) ((0 : Int))
def brFn99 (m : Nat) (T : Tbl) (R : Type) (vs : List V) (k : V → List V → Option R) : Option R := match vs with
  | [V.f (F.lit (Value.int IntKind.i64 i505)), V.bor [LT.int IntKind.i64] r506] => Fn99 m i505 r506 (fun i523 => k (V.f (F.lit (Value.int IntKind.i64 i523))) [V.undef, V.undef])
  | _ => T R 99 vs k
set_option maxRecDepth 100000 in
theorem evFn99 (m : Nat) (R : Type) (i505 : Int) (r506 : Abs.Rows) (k : V → List V → Option R) : runK Try.prog H (T39 m) (L23 m) 99 [V.f (F.lit (Value.int IntKind.i64 i505)), V.bor [LT.int IntKind.i64] r506] k = Fn99 (m + 1) i505 r506 (fun i523 => k (V.f (F.lit (Value.int IntKind.i64 i523))) [V.undef, V.undef]) := by kernel_rfl
def T40 (m : Nat) : Tbl := addT 99 (brFn99 m (T39 m)) (T39 m)
theorem okT40 (m : Nat) : TblOk Try.prog (T40 m) := addT_ok (okT39 m) fun R vs k x h => by
  unfold brFn99 at h
  split at h
  · cases m with
    | zero => cases h
    | succ m => exact runK_some (okT39 m) hM (okL23 m) ((evFn99 m R _ _ k).trans h)
  · exact okT39 m R 99 _ k x h

/-- a round of a loop of hookflash/flashref2.strongest -/
def Lp92_3_step {R : Type} (m : Nat) (kx0 : Abs.Rows → Int → Option R) (r499 : Abs.Rows) (r500 : Abs.Rows) (r502 : Abs.Rows) (i503 : Int) (REC : Abs.Rows → Int → Option R) (r501 : Abs.Rows) (i504 : Int) : Option R :=
  bif decide (i504 < i503) then (bif decide ((0 : Int) ≤ i504 ∧ i504 < (↑(List.length r502) : Int)) then (Fn99 m (fI r502 (Int.toNat i504) (0 : Nat)) r500 (fun i524 => bif decide (List.length r501 + List.length [[F.lit (Value.int IntKind.i64 i524)]] ≤ rowMax) then (letV (r501 ++ [[F.lit (Value.int IntKind.i64 i524)]]) (fun r525 => REC r525 (IntKind.wrap IntKind.i64 (i504 + (1 : Int))))) else
  (none))) else
  (none)) else
  (kx0 r501 i504)
def Lp92_3 {R : Type} (m : Nat) (kx0 : Abs.Rows → Int → Option R) (r499 : Abs.Rows) (r500 : Abs.Rows) (r502 : Abs.Rows) (i503 : Int) : Nat → Abs.Rows → Int → Option R
  | 0, _, _ => none
  | n + 1, r501, i504 => Lp92_3_step m kx0 r499 r500 r502 i503 (Lp92_3 m kx0 r499 r500 r502 i503 n) r501 i504
def ELp92_3 (m : Nat) (R : Type) : Nat → List V → (Ex → List V → Option R) → Option R
  | 0, _, _ => none
  | n + 1, vs, k => match vs with
    | [V.bor [LT.int IntKind.i64] r499, V.bor [LT.int IntKind.i64] r500, V.own [LT.int IntKind.i64] r501, V.bor [LT.int IntKind.i64] r502, V.f (F.lit (Value.int IntKind.i64 i503)), V.f (F.lit (Value.int IntKind.i64 i504)), V.undef, V.undef] => Lp92_3_step m (fun r526 i527 => k (Ex.exit (0 : Nat)) [V.bor [LT.int IntKind.i64] r499, V.bor [LT.int IntKind.i64] r500, V.own [LT.int IntKind.i64] r526, V.bor [LT.int IntKind.i64] r502, V.f (F.lit (Value.int IntKind.i64 i503)), V.f (F.lit (Value.int IntKind.i64 i527)), V.undef, V.undef]) r499 r500 r502 i503 (fun r501 i504 => ELp92_3 m R n [V.bor [LT.int IntKind.i64] r499, V.bor [LT.int IntKind.i64] r500, V.own [LT.int IntKind.i64] r501, V.bor [LT.int IntKind.i64] r502, V.f (F.lit (Value.int IntKind.i64 i503)), V.f (F.lit (Value.int IntKind.i64 i504)), V.undef, V.undef] k) r501 i504
    | _ => none
def brLp92_3 (m : Nat) (L : LTbl) (R : Type) (vs : List V) (k : Ex → List V → Option R) : Option R := match vs with
  | [V.bor [LT.int IntKind.i64] r499, V.bor [LT.int IntKind.i64] r500, V.own [LT.int IntKind.i64] r501, V.bor [LT.int IntKind.i64] r502, V.f (F.lit (Value.int IntKind.i64 i503)), V.f (F.lit (Value.int IntKind.i64 i504)), V.undef, V.undef] => Lp92_3 m (fun r526 i527 => k (Ex.exit (0 : Nat)) [V.bor [LT.int IntKind.i64] r499, V.bor [LT.int IntKind.i64] r500, V.own [LT.int IntKind.i64] r526, V.bor [LT.int IntKind.i64] r502, V.f (F.lit (Value.int IntKind.i64 i503)), V.f (F.lit (Value.int IntKind.i64 i527)), V.undef, V.undef]) r499 r500 r502 i503 m r501 i504
  | _ => L R 92 3 vs k
set_option maxRecDepth 100000 in
theorem stLp92_3 (m n : Nat) (R : Type) (r499 : Abs.Rows) (r500 : Abs.Rows) (r501 : Abs.Rows) (r502 : Abs.Rows) (i503 : Int) (i504 : Int) (k : Ex → List V → Option R) : codeK Try.prog H (T40 m) 92 (L23 m) 4 (loopBody Try.prog 92 3) (mkEnv [0, 1, 5, 11, 12, 13, 56, 57] [V.bor [LT.int IntKind.i64] r499, V.bor [LT.int IntKind.i64] r500, V.own [LT.int IntKind.i64] r501, V.bor [LT.int IntKind.i64] r502, V.f (F.lit (Value.int IntKind.i64 i503)), V.f (F.lit (Value.int IntKind.i64 i504)), V.undef, V.undef] 0 (H.len 92)) (fun e env' => match e with | .normal => ELp92_3 m R n (vals [0, 1, 5, 11, 12, 13, 56, 57] env') k | e => k e (vals [0, 1, 5, 11, 12, 13, 56, 57] env')) = Lp92_3_step m (fun r526 i527 => k (Ex.exit (0 : Nat)) [V.bor [LT.int IntKind.i64] r499, V.bor [LT.int IntKind.i64] r500, V.own [LT.int IntKind.i64] r526, V.bor [LT.int IntKind.i64] r502, V.f (F.lit (Value.int IntKind.i64 i503)), V.f (F.lit (Value.int IntKind.i64 i527)), V.undef, V.undef]) r499 r500 r502 i503 (fun r501 i504 => ELp92_3 m R n [V.bor [LT.int IntKind.i64] r499, V.bor [LT.int IntKind.i64] r500, V.own [LT.int IntKind.i64] r501, V.bor [LT.int IntKind.i64] r502, V.f (F.lit (Value.int IntKind.i64 i503)), V.f (F.lit (Value.int IntKind.i64 i504)), V.undef, V.undef] k) r501 i504 := by kernel_rfl
theorem eqLp92_3 (m : Nat) (R : Type) (r499 : Abs.Rows) (r500 : Abs.Rows) (r502 : Abs.Rows) (i503 : Int) (k : Ex → List V → Option R) : ∀ (n : Nat) (r501 : Abs.Rows) (i504 : Int), ELp92_3 m R n [V.bor [LT.int IntKind.i64] r499, V.bor [LT.int IntKind.i64] r500, V.own [LT.int IntKind.i64] r501, V.bor [LT.int IntKind.i64] r502, V.f (F.lit (Value.int IntKind.i64 i503)), V.f (F.lit (Value.int IntKind.i64 i504)), V.undef, V.undef] k = Lp92_3 m (fun r526 i527 => k (Ex.exit (0 : Nat)) [V.bor [LT.int IntKind.i64] r499, V.bor [LT.int IntKind.i64] r500, V.own [LT.int IntKind.i64] r526, V.bor [LT.int IntKind.i64] r502, V.f (F.lit (Value.int IntKind.i64 i503)), V.f (F.lit (Value.int IntKind.i64 i527)), V.undef, V.undef]) r499 r500 r502 i503 n r501 i504
  | 0, _, _ => rfl
  | n + 1, r501, i504 => by
    simp only [ELp92_3, Lp92_3]
    congr 1
    funext r501 i504
    exact eqLp92_3 m R r499 r500 r502 i503 k n r501 i504
def L24 (m : Nat) : LTbl := addB 92 3 (brLp92_3 m (L23 m)) (L23 m)
theorem okL24 (m : Nat) : LTOk Try.prog H (L24 m) := addB_ok (okT40 m) hM (okL23 m) (l := [0, 1, 5, 11, 12, 13, 56, 57]) (by kernel_rfl) (by kernel_rfl) m (fun R n vs k => ELp92_3 m R n vs k) (fun R vs k => rfl) (fun R n vs k x h => by
      simp only [ELp92_3] at h
      split at h
      · exact (stLp92_3 m n R _ _ _ _ _ _ k).trans h
      · cases h) fun R vs k x h => by
    unfold brLp92_3 at h
    split at h
    · exact .inl ((eqLp92_3 m R _ _ _ _ k m _ _).trans h)
    · exact .inr h

/-- a round of a loop of slices.Max[[]int,int] -/
def Lp80_5_step {R : Type} (m : Nat) (kx0 : Int → Int → Option R) (r533 : Abs.Rows) (REC : Int → Int → Option R) (i534 : Int) (i535 : Int) : Option R :=
  bif decide (i535 < (↑(List.length r533) : Int)) then (bif decide ((0 : Int) ≤ i535 ∧ i535 < (↑(List.length r533) : Int)) then (REC (if fI r533 (Int.toNat i535) (0 : Nat) > i534 then fI r533 (Int.toNat i535) (0 : Nat) else i534) (IntKind.wrap IntKind.i64 (i535 + (1 : Int)))) else
  (none)) else
  (kx0 i534 i535)
def Lp80_5 {R : Type} (m : Nat) (kx0 : Int → Int → Option R) (r533 : Abs.Rows) : Nat → Int → Int → Option R
  | 0, _, _ => none
  | n + 1, i534, i535 => Lp80_5_step m kx0 r533 (Lp80_5 m kx0 r533 n) i534 i535
def ELp80_5 (m : Nat) (R : Type) : Nat → List V → (Ex → List V → Option R) → Option R
  | 0, _, _ => none
  | n + 1, vs, k => match vs with
    | [V.bor [LT.int IntKind.i64] r533, V.f (F.lit (Value.int IntKind.i64 i534)), V.f (F.lit (Value.int IntKind.i64 i535)), V.undef] => Lp80_5_step m (fun i536 i537 => k (Ex.exit (0 : Nat)) [V.bor [LT.int IntKind.i64] r533, V.f (F.lit (Value.int IntKind.i64 i536)), V.f (F.lit (Value.int IntKind.i64 i537)), V.undef]) r533 (fun i534 i535 => ELp80_5 m R n [V.bor [LT.int IntKind.i64] r533, V.f (F.lit (Value.int IntKind.i64 i534)), V.f (F.lit (Value.int IntKind.i64 i535)), V.undef] k) i534 i535
    | _ => none
def brLp80_5 (m : Nat) (L : LTbl) (R : Type) (vs : List V) (k : Ex → List V → Option R) : Option R := match vs with
  | [V.bor [LT.int IntKind.i64] r533, V.f (F.lit (Value.int IntKind.i64 i534)), V.f (F.lit (Value.int IntKind.i64 i535)), V.undef] => Lp80_5 m (fun i536 i537 => k (Ex.exit (0 : Nat)) [V.bor [LT.int IntKind.i64] r533, V.f (F.lit (Value.int IntKind.i64 i536)), V.f (F.lit (Value.int IntKind.i64 i537)), V.undef]) r533 m i534 i535
  | _ => L R 80 5 vs k
set_option maxRecDepth 100000 in
theorem stLp80_5 (m n : Nat) (R : Type) (r533 : Abs.Rows) (i534 : Int) (i535 : Int) (k : Ex → List V → Option R) : codeK Try.prog H (T40 m) 80 (L24 m) 6 (loopBody Try.prog 80 5) (mkEnv [0, 3, 4, 25] [V.bor [LT.int IntKind.i64] r533, V.f (F.lit (Value.int IntKind.i64 i534)), V.f (F.lit (Value.int IntKind.i64 i535)), V.undef] 0 (H.len 80)) (fun e env' => match e with | .normal => ELp80_5 m R n (vals [0, 3, 4, 25] env') k | e => k e (vals [0, 3, 4, 25] env')) = Lp80_5_step m (fun i536 i537 => k (Ex.exit (0 : Nat)) [V.bor [LT.int IntKind.i64] r533, V.f (F.lit (Value.int IntKind.i64 i536)), V.f (F.lit (Value.int IntKind.i64 i537)), V.undef]) r533 (fun i534 i535 => ELp80_5 m R n [V.bor [LT.int IntKind.i64] r533, V.f (F.lit (Value.int IntKind.i64 i534)), V.f (F.lit (Value.int IntKind.i64 i535)), V.undef] k) i534 i535 := by kernel_rfl
theorem eqLp80_5 (m : Nat) (R : Type) (r533 : Abs.Rows) (k : Ex → List V → Option R) : ∀ (n : Nat) (i534 : Int) (i535 : Int), ELp80_5 m R n [V.bor [LT.int IntKind.i64] r533, V.f (F.lit (Value.int IntKind.i64 i534)), V.f (F.lit (Value.int IntKind.i64 i535)), V.undef] k = Lp80_5 m (fun i536 i537 => k (Ex.exit (0 : Nat)) [V.bor [LT.int IntKind.i64] r533, V.f (F.lit (Value.int IntKind.i64 i536)), V.f (F.lit (Value.int IntKind.i64 i537)), V.undef]) r533 n i534 i535
  | 0, _, _ => rfl
  | n + 1, i534, i535 => by
    simp only [ELp80_5, Lp80_5]
    congr 1
    funext i534 i535
    exact eqLp80_5 m R r533 k n i534 i535
def L25 (m : Nat) : LTbl := addB 80 5 (brLp80_5 m (L24 m)) (L24 m)
theorem okL25 (m : Nat) : LTOk Try.prog H (L25 m) := addB_ok (okT40 m) hM (okL24 m) (l := [0, 3, 4, 25]) (by kernel_rfl) (by kernel_rfl) m (fun R n vs k => ELp80_5 m R n vs k) (fun R vs k => rfl) (fun R n vs k x h => by
      simp only [ELp80_5] at h
      split at h
      · exact (stLp80_5 m n R _ _ _ k).trans h
      · cases h) fun R vs k x h => by
    unfold brLp80_5 at h
    split at h
    · exact .inl ((eqLp80_5 m R _ k m _ _).trans h)
    · exact .inr h

/-- a rest of slices.Max[[]int,int] -/
def Jn80_2 {R : Type} (m : Nat) (kx0 : Int → Option R) (r531 : Abs.Rows) (i532 : Int) : Option R :=
  bif decide ((0 : Int) ≤ (0 : Int) ∧ (0 : Int) < (↑(List.length r531) : Int)) then (Lp80_5 m (fun i538 i539 => kx0 i538) r531 m (fI r531 (Int.toNat (0 : Int)) (0 : Nat)) ((1 : Int))) else
  (none)
def brJn80_2 (m : Nat) (L : LTbl) (R : Type) (vs : List V) (k : Ex → List V → Option R) : Option R := match vs with
  | [V.bor [LT.int IntKind.i64] r531, V.f (F.lit (Value.int IntKind.i64 i532)), V.undef] => Jn80_2 m (fun i540 => k Ex.ret [V.bor [LT.int IntKind.i64] r531, V.f (F.lit (Value.int IntKind.i64 i540)), V.undef]) r531 i532
  | _ => L R 80 2 vs k
set_option maxRecDepth 100000 in
theorem evJn80_2 (m : Nat) (R : Type) (r531 : Abs.Rows) (i532 : Int) (k : Ex → List V → Option R) : codeK Try.prog H (T40 m) 80 (L25 m) 3 (loopBody Try.prog 80 2) (mkEnv [0, 2, 25] [V.bor [LT.int IntKind.i64] r531, V.f (F.lit (Value.int IntKind.i64 i532)), V.undef] 0 (H.len 80)) (fun e env' => k e (vals [0, 2, 25] env')) = Jn80_2 m (fun i540 => k Ex.ret [V.bor [LT.int IntKind.i64] r531, V.f (F.lit (Value.int IntKind.i64 i540)), V.undef]) r531 i532 := by kernel_rfl
def L26 (m : Nat) : LTbl := addJ 80 2 (brJn80_2 m (L25 m)) (L25 m)
theorem okL26 (m : Nat) : LTOk Try.prog H (L26 m) := addJ_ok (okT40 m) hM (okL25 m) (l := [0, 2, 25]) (by kernel_rfl) (by kernel_rfl) fun R vs k x h => by
    unfold brJn80_2 at h
    split at h
    · exact .inl ((evJn80_2 m R _ _ k).trans h)
    · exact .inr h

/-- slices.Max[[]int,int] -/
def Fn80 {R : Type} (m : Nat) : Abs.Rows → (Int → Option R) → Option R := match m with
  | 0 => fun _ _ => none
  | m + 1 => fun r530 k =>
  bif decide ((↑(List.length r530) : Int) < (1 : Int)) then (none) else
  (Jn80_2 m (fun i541 => k i541) r530 ((0 : Int)))
def brFn80 (m : Nat) (T : Tbl) (R : Type) (vs : List V) (k : V → List V → Option R) : Option R := match vs with
  | [V.bor [LT.int IntKind.i64] r530] => Fn80 m r530 (fun i542 => k (V.f (F.lit (Value.int IntKind.i64 i542))) [V.undef])
  | _ => T R 80 vs k
set_option maxRecDepth 100000 in
theorem evFn80 (m : Nat) (R : Type) (r530 : Abs.Rows) (k : V → List V → Option R) : runK Try.prog H (T40 m) (L26 m) 80 [V.bor [LT.int IntKind.i64] r530] k = Fn80 (m + 1) r530 (fun i542 => k (V.f (F.lit (Value.int IntKind.i64 i542))) [V.undef]) := by kernel_rfl
def T41 (m : Nat) : Tbl := addT 80 (brFn80 m (T40 m)) (T40 m)
theorem okT41 (m : Nat) : TblOk Try.prog (T41 m) := addT_ok (okT40 m) fun R vs k x h => by
  unfold brFn80 at h
  split at h
  · cases m with
    | zero => cases h
    | succ m => exact runK_some (okT40 m) hM (okL26 m) ((evFn80 m R _ k).trans h)
  · exact okT40 m R 80 _ k x h

/-- a round of a loop of slices.Index[[]int,int] -/
def Lp96_2_step {R : Type} (m : Nat) (kx0 : Int → Int → Option R) (kx1 : Int → Option R) (r546 : Abs.Rows) (i547 : Int) (i548 : Int) (i549 : Int) (REC : Int → Option R) (i550 : Int) : Option R :=
  bif decide (i550 < i549) then (bif decide ((0 : Int) ≤ i550 ∧ i550 < (↑(List.length r546) : Int)) then (bif i547 == fI r546 (Int.toNat i550) (0 : Nat) then (kx0 i550 i550) else
  (REC (IntKind.wrap IntKind.i64 (i550 + (1 : Int))))) else
  (none)) else
  (kx1 i550)
def Lp96_2 {R : Type} (m : Nat) (kx0 : Int → Int → Option R) (kx1 : Int → Option R) (r546 : Abs.Rows) (i547 : Int) (i548 : Int) (i549 : Int) : Nat → Int → Option R
  | 0, _ => none
  | n + 1, i550 => Lp96_2_step m kx0 kx1 r546 i547 i548 i549 (Lp96_2 m kx0 kx1 r546 i547 i548 i549 n) i550
def ELp96_2 (m : Nat) (R : Type) : Nat → List V → (Ex → List V → Option R) → Option R
  | 0, _, _ => none
  | n + 1, vs, k => match vs with
    | [V.bor [LT.int IntKind.i64] r546, V.f (F.lit (Value.int IntKind.i64 i547)), V.f (F.lit (Value.int IntKind.i64 i548)), V.f (F.lit (Value.int IntKind.i64 i549)), V.f (F.lit (Value.int IntKind.i64 i550)), V.undef, V.undef] => Lp96_2_step m (fun i551 i552 => k Ex.ret [V.bor [LT.int IntKind.i64] r546, V.f (F.lit (Value.int IntKind.i64 i547)), V.f (F.lit (Value.int IntKind.i64 i551)), V.f (F.lit (Value.int IntKind.i64 i549)), V.f (F.lit (Value.int IntKind.i64 i552)), V.undef, V.undef]) (fun i553 => k (Ex.exit (0 : Nat)) [V.bor [LT.int IntKind.i64] r546, V.f (F.lit (Value.int IntKind.i64 i547)), V.f (F.lit (Value.int IntKind.i64 i548)), V.f (F.lit (Value.int IntKind.i64 i549)), V.f (F.lit (Value.int IntKind.i64 i553)), V.undef, V.undef]) r546 i547 i548 i549 (fun i550 => ELp96_2 m R n [V.bor [LT.int IntKind.i64] r546, V.f (F.lit (Value.int IntKind.i64 i547)), V.f (F.lit (Value.int IntKind.i64 i548)), V.f (F.lit (Value.int IntKind.i64 i549)), V.f (F.lit (Value.int IntKind.i64 i550)), V.undef, V.undef] k) i550
    | _ => none
def brLp96_2 (m : Nat) (L : LTbl) (R : Type) (vs : List V) (k : Ex → List V → Option R) : Option R := match vs with
  | [V.bor [LT.int IntKind.i64] r546, V.f (F.lit (Value.int IntKind.i64 i547)), V.f (F.lit (Value.int IntKind.i64 i548)), V.f (F.lit (Value.int IntKind.i64 i549)), V.f (F.lit (Value.int IntKind.i64 i550)), V.undef, V.undef] => Lp96_2 m (fun i551 i552 => k Ex.ret [V.bor [LT.int IntKind.i64] r546, V.f (F.lit (Value.int IntKind.i64 i547)), V.f (F.lit (Value.int IntKind.i64 i551)), V.f (F.lit (Value.int IntKind.i64 i549)), V.f (F.lit (Value.int IntKind.i64 i552)), V.undef, V.undef]) (fun i553 => k (Ex.exit (0 : Nat)) [V.bor [LT.int IntKind.i64] r546, V.f (F.lit (Value.int IntKind.i64 i547)), V.f (F.lit (Value.int IntKind.i64 i548)), V.f (F.lit (Value.int IntKind.i64 i549)), V.f (F.lit (Value.int IntKind.i64 i553)), V.undef, V.undef]) r546 i547 i548 i549 m i550
  | _ => L R 96 2 vs k
set_option maxRecDepth 100000 in
theorem stLp96_2 (m n : Nat) (R : Type) (r546 : Abs.Rows) (i547 : Int) (i548 : Int) (i549 : Int) (i550 : Int) (k : Ex → List V → Option R) : codeK Try.prog H (T41 m) 96 (L26 m) 3 (loopBody Try.prog 96 2) (mkEnv [0, 1, 4, 7, 8, 19, 20] [V.bor [LT.int IntKind.i64] r546, V.f (F.lit (Value.int IntKind.i64 i547)), V.f (F.lit (Value.int IntKind.i64 i548)), V.f (F.lit (Value.int IntKind.i64 i549)), V.f (F.lit (Value.int IntKind.i64 i550)), V.undef, V.undef] 0 (H.len 96)) (fun e env' => match e with | .normal => ELp96_2 m R n (vals [0, 1, 4, 7, 8, 19, 20] env') k | e => k e (vals [0, 1, 4, 7, 8, 19, 20] env')) = Lp96_2_step m (fun i551 i552 => k Ex.ret [V.bor [LT.int IntKind.i64] r546, V.f (F.lit (Value.int IntKind.i64 i547)), V.f (F.lit (Value.int IntKind.i64 i551)), V.f (F.lit (Value.int IntKind.i64 i549)), V.f (F.lit (Value.int IntKind.i64 i552)), V.undef, V.undef]) (fun i553 => k (Ex.exit (0 : Nat)) [V.bor [LT.int IntKind.i64] r546, V.f (F.lit (Value.int IntKind.i64 i547)), V.f (F.lit (Value.int IntKind.i64 i548)), V.f (F.lit (Value.int IntKind.i64 i549)), V.f (F.lit (Value.int IntKind.i64 i553)), V.undef, V.undef]) r546 i547 i548 i549 (fun i550 => ELp96_2 m R n [V.bor [LT.int IntKind.i64] r546, V.f (F.lit (Value.int IntKind.i64 i547)), V.f (F.lit (Value.int IntKind.i64 i548)), V.f (F.lit (Value.int IntKind.i64 i549)), V.f (F.lit (Value.int IntKind.i64 i550)), V.undef, V.undef] k) i550 := by kernel_rfl
theorem eqLp96_2 (m : Nat) (R : Type) (r546 : Abs.Rows) (i547 : Int) (i548 : Int) (i549 : Int) (k : Ex → List V → Option R) : ∀ (n : Nat) (i550 : Int), ELp96_2 m R n [V.bor [LT.int IntKind.i64] r546, V.f (F.lit (Value.int IntKind.i64 i547)), V.f (F.lit (Value.int IntKind.i64 i548)), V.f (F.lit (Value.int IntKind.i64 i549)), V.f (F.lit (Value.int IntKind.i64 i550)), V.undef, V.undef] k = Lp96_2 m (fun i551 i552 => k Ex.ret [V.bor [LT.int IntKind.i64] r546, V.f (F.lit (Value.int IntKind.i64 i547)), V.f (F.lit (Value.int IntKind.i64 i551)), V.f (F.lit (Value.int IntKind.i64 i549)), V.f (F.lit (Value.int IntKind.i64 i552)), V.undef, V.undef]) (fun i553 => k (Ex.exit (0 : Nat)) [V.bor [LT.int IntKind.i64] r546, V.f (F.lit (Value.int IntKind.i64 i547)), V.f (F.lit (Value.int IntKind.i64 i548)), V.f (F.lit (Value.int IntKind.i64 i549)), V.f (F.lit (Value.int IntKind.i64 i553)), V.undef, V.undef]) r546 i547 i548 i549 n i550
  | 0, _ => rfl
  | n + 1, i550 => by
    simp only [ELp96_2, Lp96_2]
    congr 1
    funext i550
    exact eqLp96_2 m R r546 i547 i548 i549 k n i550
def L27 (m : Nat) : LTbl := addB 96 2 (brLp96_2 m (L26 m)) (L26 m)
theorem okL27 (m : Nat) : LTOk Try.prog H (L27 m) := addB_ok (okT41 m) hM (okL26 m) (l := [0, 1, 4, 7, 8, 19, 20]) (by kernel_rfl) (by kernel_rfl) m (fun R n vs k => ELp96_2 m R n vs k) (fun R vs k => rfl) (fun R n vs k x h => by
      simp only [ELp96_2] at h
      split at h
      · exact (stLp96_2 m n R _ _ _ _ _ k).trans h
      · cases h) fun R vs k x h => by
    unfold brLp96_2 at h
    split at h
    · exact .inl ((eqLp96_2 m R _ _ _ _ k m _).trans h)
    · exact .inr h

/-- slices.Index[[]int,int] -/
def Fn96 {R : Type} (m : Nat) : Abs.Rows → Int → (Int → Option R) → Option R := match m with
  | 0 => fun _ _ _ => none
  | m + 1 => fun r544 i545 k =>
  Lp96_2 m (fun i554 i555 => k i554) (fun i556 => k ((-1 : Int))) r544 i545 ((0 : Int)) ((↑(List.length r544) : Int)) m ((0 : Int))
def brFn96 (m : Nat) (T : Tbl) (R : Type) (vs : List V) (k : V → List V → Option R) : Option R := match vs with
  | [V.bor [LT.int IntKind.i64] r544, V.f (F.lit (Value.int IntKind.i64 i545))] => Fn96 m r544 i545 (fun i557 => k (V.f (F.lit (Value.int IntKind.i64 i557))) [V.undef, V.undef])
  | _ => T R 96 vs k
set_option maxRecDepth 100000 in
theorem evFn96 (m : Nat) (R : Type) (r544 : Abs.Rows) (i545 : Int) (k : V → List V → Option R) : runK Try.prog H (T41 m) (L27 m) 96 [V.bor [LT.int IntKind.i64] r544, V.f (F.lit (Value.int IntKind.i64 i545))] k = Fn96 (m + 1) r544 i545 (fun i557 => k (V.f (F.lit (Value.int IntKind.i64 i557))) [V.undef, V.undef]) := by kernel_rfl
def T42 (m : Nat) : Tbl := addT 96 (brFn96 m (T41 m)) (T41 m)
theorem okT42 (m : Nat) : TblOk Try.prog (T42 m) := addT_ok (okT41 m) fun R vs k x h => by
  unfold brFn96 at h
  split at h
  · cases m with
    | zero => cases h
    | succ m => exact runK_some (okT41 m) hM (okL27 m) ((evFn96 m R _ _ k).trans h)
  · exact okT41 m R 96 _ k x h

/-- a round of a loop of hookflash/flashref2.strongest -/
def Lp92_11_step {R : Type} (m : Nat) (kx0 : Int → Int → Option R) (kx1 : Int → Option R) (r559 : Abs.Rows) (i560 : Int) (n561 : Nat) (i562 : Int) (REC : Int → Option R) (i563 : Int) : Option R :=
  bif decide (i563 < i562) then (bif decide ((0 : Int) ≤ i563 ∧ i563 < (↑n561 : Int)) then (bif decide ((0 : Int) ≤ i560 ∧ i560 < (↑(List.length r559) : Int)) then (bif decide (fI r559 (Int.toNat i560) (0 : Nat) < (4000000 : Int)) then (kx0 ((-1 : Int)) i563) else
  (bif i563 != i560 then (bif decide ((0 : Int) ≤ i560 ∧ i560 < (↑(List.length r559) : Int)) then (bif decide (fI r559 (Int.toNat i560) (0 : Nat) < IntKind.wrap IntKind.i64 ((6 : Int) * fI r559 (Int.toNat i563) (0 : Nat))) then (kx0 ((-1 : Int)) i563) else
  (REC (IntKind.wrap IntKind.i64 (i563 + (1 : Int))))) else
  (none)) else
  (REC (IntKind.wrap IntKind.i64 (i563 + (1 : Int)))))) else
  (none)) else
  (none)) else
  (kx1 i563)
def Lp92_11 {R : Type} (m : Nat) (kx0 : Int → Int → Option R) (kx1 : Int → Option R) (r559 : Abs.Rows) (i560 : Int) (n561 : Nat) (i562 : Int) : Nat → Int → Option R
  | 0, _ => none
  | n + 1, i563 => Lp92_11_step m kx0 kx1 r559 i560 n561 i562 (Lp92_11 m kx0 kx1 r559 i560 n561 i562 n) i563
def ELp92_11 (m : Nat) (R : Type) : Nat → List V → (Ex → List V → Option R) → Option R
  | 0, _, _ => none
  | n + 1, vs, k => match vs with
    | [V.undef, V.own [LT.int IntKind.i64] r559, V.f (F.lit (Value.int IntKind.i64 i560)), V.undef, V.lent { slot := (5 : Nat), leaf := none } (1 : Nat) n561, V.f (F.lit (Value.int IntKind.i64 i562)), V.f (F.lit (Value.int IntKind.i64 i563)), V.undef, V.undef] => Lp92_11_step m (fun i564 i565 => k Ex.ret [V.f (F.lit (Value.int IntKind.i64 i564)), V.own [LT.int IntKind.i64] r559, V.f (F.lit (Value.int IntKind.i64 i560)), V.undef, V.lent { slot := (5 : Nat), leaf := none } (1 : Nat) n561, V.f (F.lit (Value.int IntKind.i64 i562)), V.f (F.lit (Value.int IntKind.i64 i565)), V.undef, V.undef]) (fun i566 => k (Ex.exit (2 : Nat)) [V.undef, V.own [LT.int IntKind.i64] r559, V.f (F.lit (Value.int IntKind.i64 i560)), V.undef, V.lent { slot := (5 : Nat), leaf := none } (1 : Nat) n561, V.f (F.lit (Value.int IntKind.i64 i562)), V.f (F.lit (Value.int IntKind.i64 i566)), V.undef, V.undef]) r559 i560 n561 i562 (fun i563 => ELp92_11 m R n [V.undef, V.own [LT.int IntKind.i64] r559, V.f (F.lit (Value.int IntKind.i64 i560)), V.undef, V.lent { slot := (5 : Nat), leaf := none } (1 : Nat) n561, V.f (F.lit (Value.int IntKind.i64 i562)), V.f (F.lit (Value.int IntKind.i64 i563)), V.undef, V.undef] k) i563
    | _ => none
def brLp92_11 (m : Nat) (L : LTbl) (R : Type) (vs : List V) (k : Ex → List V → Option R) : Option R := match vs with
  | [V.undef, V.own [LT.int IntKind.i64] r559, V.f (F.lit (Value.int IntKind.i64 i560)), V.undef, V.lent { slot := (5 : Nat), leaf := none } (1 : Nat) n561, V.f (F.lit (Value.int IntKind.i64 i562)), V.f (F.lit (Value.int IntKind.i64 i563)), V.undef, V.undef] => Lp92_11 m (fun i564 i565 => k Ex.ret [V.f (F.lit (Value.int IntKind.i64 i564)), V.own [LT.int IntKind.i64] r559, V.f (F.lit (Value.int IntKind.i64 i560)), V.undef, V.lent { slot := (5 : Nat), leaf := none } (1 : Nat) n561, V.f (F.lit (Value.int IntKind.i64 i562)), V.f (F.lit (Value.int IntKind.i64 i565)), V.undef, V.undef]) (fun i566 => k (Ex.exit (2 : Nat)) [V.undef, V.own [LT.int IntKind.i64] r559, V.f (F.lit (Value.int IntKind.i64 i560)), V.undef, V.lent { slot := (5 : Nat), leaf := none } (1 : Nat) n561, V.f (F.lit (Value.int IntKind.i64 i562)), V.f (F.lit (Value.int IntKind.i64 i566)), V.undef, V.undef]) r559 i560 n561 i562 m i563
  | _ => L R 92 11 vs k
set_option maxRecDepth 100000 in
theorem stLp92_11 (m n : Nat) (R : Type) (r559 : Abs.Rows) (i560 : Int) (n561 : Nat) (i562 : Int) (i563 : Int) (k : Ex → List V → Option R) : codeK Try.prog H (T42 m) 92 (L27 m) 12 (loopBody Try.prog 92 11) (mkEnv [4, 5, 8, 22, 28, 29, 30, 56, 57] [V.undef, V.own [LT.int IntKind.i64] r559, V.f (F.lit (Value.int IntKind.i64 i560)), V.undef, V.lent { slot := (5 : Nat), leaf := none } (1 : Nat) n561, V.f (F.lit (Value.int IntKind.i64 i562)), V.f (F.lit (Value.int IntKind.i64 i563)), V.undef, V.undef] 0 (H.len 92)) (fun e env' => match e with | .normal => ELp92_11 m R n (vals [4, 5, 8, 22, 28, 29, 30, 56, 57] env') k | e => k e (vals [4, 5, 8, 22, 28, 29, 30, 56, 57] env')) = Lp92_11_step m (fun i564 i565 => k Ex.ret [V.f (F.lit (Value.int IntKind.i64 i564)), V.own [LT.int IntKind.i64] r559, V.f (F.lit (Value.int IntKind.i64 i560)), V.undef, V.lent { slot := (5 : Nat), leaf := none } (1 : Nat) n561, V.f (F.lit (Value.int IntKind.i64 i562)), V.f (F.lit (Value.int IntKind.i64 i565)), V.undef, V.undef]) (fun i566 => k (Ex.exit (2 : Nat)) [V.undef, V.own [LT.int IntKind.i64] r559, V.f (F.lit (Value.int IntKind.i64 i560)), V.undef, V.lent { slot := (5 : Nat), leaf := none } (1 : Nat) n561, V.f (F.lit (Value.int IntKind.i64 i562)), V.f (F.lit (Value.int IntKind.i64 i566)), V.undef, V.undef]) r559 i560 n561 i562 (fun i563 => ELp92_11 m R n [V.undef, V.own [LT.int IntKind.i64] r559, V.f (F.lit (Value.int IntKind.i64 i560)), V.undef, V.lent { slot := (5 : Nat), leaf := none } (1 : Nat) n561, V.f (F.lit (Value.int IntKind.i64 i562)), V.f (F.lit (Value.int IntKind.i64 i563)), V.undef, V.undef] k) i563 := by kernel_rfl
theorem eqLp92_11 (m : Nat) (R : Type) (r559 : Abs.Rows) (i560 : Int) (n561 : Nat) (i562 : Int) (k : Ex → List V → Option R) : ∀ (n : Nat) (i563 : Int), ELp92_11 m R n [V.undef, V.own [LT.int IntKind.i64] r559, V.f (F.lit (Value.int IntKind.i64 i560)), V.undef, V.lent { slot := (5 : Nat), leaf := none } (1 : Nat) n561, V.f (F.lit (Value.int IntKind.i64 i562)), V.f (F.lit (Value.int IntKind.i64 i563)), V.undef, V.undef] k = Lp92_11 m (fun i564 i565 => k Ex.ret [V.f (F.lit (Value.int IntKind.i64 i564)), V.own [LT.int IntKind.i64] r559, V.f (F.lit (Value.int IntKind.i64 i560)), V.undef, V.lent { slot := (5 : Nat), leaf := none } (1 : Nat) n561, V.f (F.lit (Value.int IntKind.i64 i562)), V.f (F.lit (Value.int IntKind.i64 i565)), V.undef, V.undef]) (fun i566 => k (Ex.exit (2 : Nat)) [V.undef, V.own [LT.int IntKind.i64] r559, V.f (F.lit (Value.int IntKind.i64 i560)), V.undef, V.lent { slot := (5 : Nat), leaf := none } (1 : Nat) n561, V.f (F.lit (Value.int IntKind.i64 i562)), V.f (F.lit (Value.int IntKind.i64 i566)), V.undef, V.undef]) r559 i560 n561 i562 n i563
  | 0, _ => rfl
  | n + 1, i563 => by
    simp only [ELp92_11, Lp92_11]
    congr 1
    funext i563
    exact eqLp92_11 m R r559 i560 n561 i562 k n i563
def L28 (m : Nat) : LTbl := addB 92 11 (brLp92_11 m (L27 m)) (L27 m)
theorem okL28 (m : Nat) : LTOk Try.prog H (L28 m) := addB_ok (okT42 m) hM (okL27 m) (l := [4, 5, 8, 22, 28, 29, 30, 56, 57]) (by kernel_rfl) (by kernel_rfl) m (fun R n vs k => ELp92_11 m R n vs k) (fun R vs k => rfl) (fun R n vs k x h => by
      simp only [ELp92_11] at h
      split at h
      · exact (stLp92_11 m n R _ _ _ _ _ k).trans h
      · cases h) fun R vs k x h => by
    unfold brLp92_11 at h
    split at h
    · exact .inl ((eqLp92_11 m R _ _ _ _ k m _).trans h)
    · exact .inr h

/-- hookflash/flashref2.strongest -/
def Fn92 {R : Type} (m : Nat) : Abs.Rows → Abs.Rows → (Int → Option R) → Option R := match m with
  | 0 => fun _ _ _ => none
  | m + 1 => fun r497 r498 k =>
  Lp92_3 m (fun r528 i529 => Fn80 m r528 (fun i543 => Fn96 m r528 i543 (fun i558 => Lp92_11 m (fun i567 i568 => k i567) (fun i569 => k i558) r528 i558 (List.length r528) ((↑(List.length r528) : Int)) m ((0 : Int))))) r497 r498 r497 ((↑(List.length r497) : Int)) m rows0 ((0 : Int))
def brFn92 (m : Nat) (T : Tbl) (R : Type) (vs : List V) (k : V → List V → Option R) : Option R := match vs with
  | [V.bor [LT.int IntKind.i64] r497, V.bor [LT.int IntKind.i64] r498] => Fn92 m r497 r498 (fun i570 => k (V.f (F.lit (Value.int IntKind.i64 i570))) [V.undef, V.undef])
  | _ => T R 92 vs k
set_option maxRecDepth 100000 in
theorem evFn92 (m : Nat) (R : Type) (r497 : Abs.Rows) (r498 : Abs.Rows) (k : V → List V → Option R) : runK Try.prog H (T42 m) (L28 m) 92 [V.bor [LT.int IntKind.i64] r497, V.bor [LT.int IntKind.i64] r498] k = Fn92 (m + 1) r497 r498 (fun i570 => k (V.f (F.lit (Value.int IntKind.i64 i570))) [V.undef, V.undef]) := by kernel_rfl
def T43 (m : Nat) : Tbl := addT 92 (brFn92 m (T42 m)) (T42 m)
theorem okT43 (m : Nat) : TblOk Try.prog (T43 m) := addT_ok (okT42 m) fun R vs k x h => by
  unfold brFn92 at h
  split at h
  · cases m with
    | zero => cases h
    | succ m => exact runK_some (okT42 m) hM (okL28 m) ((evFn92 m R _ _ k).trans h)
  · exact okT42 m R 92 _ k x h

/-- a rest of hookflash/flashref2.KeysOf -/
def Jn57_6 {R : Type} (m : Nat) (kx0 : Abs.Rows → Bool → Option R) (r574 : Abs.Rows) (r575 : Abs.Rows) (i576 : Int) (i577 : Int) (b578 : Bool) : Option R :=
  bif b578 then (bif decide (List.length r575 + List.length [[F.lit (Value.int IntKind.u8 (32 : Int))]] ≤ rowMax) then (letV (r575 ++ [[F.lit (Value.int IntKind.u8 (32 : Int))]]) (fun r579 => kx0 r579 true)) else
  (none)) else
  (bif decide ((0 : Int) ≤ IntKind.wrap IntKind.i64 (IntKind.wrap IntKind.i64 ((4 : Int) * i576) + i577) ∧ IntKind.wrap IntKind.i64 (IntKind.wrap IntKind.i64 ((4 : Int) * i576) + i577) < (↑(ByteArray.size { data := #[(49 : UInt8), (50 : UInt8), (51 : UInt8), (65 : UInt8), (52 : UInt8), (53 : UInt8), (54 : UInt8), (66 : UInt8), (55 : UInt8), (56 : UInt8), (57 : UInt8), (67 : UInt8), (42 : UInt8), (48 : UInt8), (35 : UInt8), (68 : UInt8)] }) : Int)) then (bif decide (List.length r575 + List.length [[F.lit (Value.int IntKind.u8 (↑(UInt8.toNat (Array.getD (ByteArray.data { data := #[(49 : UInt8), (50 : UInt8), (51 : UInt8), (65 : UInt8), (52 : UInt8), (53 : UInt8), (54 : UInt8), (66 : UInt8), (55 : UInt8), (56 : UInt8), (57 : UInt8), (67 : UInt8), (42 : UInt8), (48 : UInt8), (35 : UInt8), (68 : UInt8)] }) (Int.toNat (IntKind.wrap IntKind.i64 (IntKind.wrap IntKind.i64 ((4 : Int) * i576) + i577))) (0 : UInt8))) : Int))]] ≤ rowMax) then (letV (r575 ++ [[F.lit (Value.int IntKind.u8 (↑(UInt8.toNat (Array.getD (ByteArray.data { data := #[(49 : UInt8), (50 : UInt8), (51 : UInt8), (65 : UInt8), (52 : UInt8), (53 : UInt8), (54 : UInt8), (66 : UInt8), (55 : UInt8), (56 : UInt8), (57 : UInt8), (67 : UInt8), (42 : UInt8), (48 : UInt8), (35 : UInt8), (68 : UInt8)] }) (Int.toNat (IntKind.wrap IntKind.i64 (IntKind.wrap IntKind.i64 ((4 : Int) * i576) + i577))) (0 : UInt8))) : Int))]]) (fun r580 => kx0 r580 false)) else
  (none)) else
  (none))
def brJn57_6 (m : Nat) (L : LTbl) (R : Type) (vs : List V) (k : Ex → List V → Option R) : Option R := match vs with
  | [V.bor [LT.int IntKind.i64] r574, V.own [LT.int IntKind.u8] r575, V.f (F.lit (Value.int IntKind.i64 i576)), V.f (F.lit (Value.int IntKind.i64 i577)), V.f (F.lit (Value.bool b578)), V.undef, V.undef, V.undef] => Jn57_6 m (fun r581 b582 => k Ex.normal [V.bor [LT.int IntKind.i64] r574, V.own [LT.int IntKind.u8] r581, V.f (F.lit (Value.int IntKind.i64 i576)), V.f (F.lit (Value.int IntKind.i64 i577)), V.f (F.lit (Value.bool b582)), V.undef, V.undef, V.undef]) r574 r575 i576 i577 b578
  | _ => L R 57 6 vs k
set_option maxRecDepth 100000 in
theorem evJn57_6 (m : Nat) (R : Type) (r574 : Abs.Rows) (r575 : Abs.Rows) (i576 : Int) (i577 : Int) (b578 : Bool) (k : Ex → List V → Option R) : codeK Try.prog H (T43 m) 57 (L28 m) 7 (loopBody Try.prog 57 6) (mkEnv [0, 3, 4, 5, 27, 30, 38, 82] [V.bor [LT.int IntKind.i64] r574, V.own [LT.int IntKind.u8] r575, V.f (F.lit (Value.int IntKind.i64 i576)), V.f (F.lit (Value.int IntKind.i64 i577)), V.f (F.lit (Value.bool b578)), V.undef, V.undef, V.undef] 0 (H.len 57)) (fun e env' => k e (vals [0, 3, 4, 5, 27, 30, 38, 82] env')) = Jn57_6 m (fun r581 b582 => k Ex.normal [V.bor [LT.int IntKind.i64] r574, V.own [LT.int IntKind.u8] r581, V.f (F.lit (Value.int IntKind.i64 i576)), V.f (F.lit (Value.int IntKind.i64 i577)), V.f (F.lit (Value.bool b582)), V.undef, V.undef, V.undef]) r574 r575 i576 i577 b578 := by kernel_rfl
def L29 (m : Nat) : LTbl := addJ 57 6 (brJn57_6 m (L28 m)) (L28 m)
theorem okL29 (m : Nat) : LTOk Try.prog H (L29 m) := addJ_ok (okT43 m) hM (okL28 m) (l := [0, 3, 4, 5, 27, 30, 38, 82]) (by kernel_rfl) (by kernel_rfl) fun R vs k x h => by
    unfold brJn57_6 at h
    split at h
    · exact .inl ((evJn57_6 m R _ _ _ _ _ k).trans h)
    · exact .inr h

/-- a round of a loop of hookflash/flashref2.KeysOf -/
def Lp57_2_step {R : Type} (m : Nat) (kx0 : Abs.Rows → Abs.Rows → Option R)  (REC : Abs.Rows → Abs.Rows → Option R) (r494 : Abs.Rows) (r495 : Abs.Rows) : Option R :=
  bif decide ((↑(List.length r494) : Int) ≥ (205 : Int)) then (Fn89 m  (fun r496 => bif decide ((0 : Int) ≤ (205 : Int) ∧ (205 : Int) ≤ (↑(List.length r494) : Int)) then (Fn92 m r496 (List.take (Int.toNat (205 : Int) - (0 : Nat)) (List.drop (0 : Nat) r494)) (fun i571 => Fn90 m  (fun r572 => bif decide ((0 : Int) ≤ (205 : Int) ∧ (205 : Int) ≤ (↑(List.length r494) : Int)) then (Fn92 m r572 (List.take (Int.toNat (205 : Int) - (0 : Nat)) (List.drop (0 : Nat) r494)) (fun i573 => bif decide (i571 < (0 : Int)) then (Jn57_6 m (fun r583 b584 => bif decide ((0 : Int) ≤ (205 : Int) ∧ (205 : Int) ≤ (↑(List.length r494) : Int)) then (REC (List.take (List.length r494 - Int.toNat (205 : Int)) (List.drop (Int.toNat (205 : Int)) r494)) r583) else
  (none)) r494 r495 i571 i573 true) else
  (Jn57_6 m (fun r585 b586 => bif decide ((0 : Int) ≤ (205 : Int) ∧ (205 : Int) ≤ (↑(List.length r494) : Int)) then (REC (List.take (List.length r494 - Int.toNat (205 : Int)) (List.drop (Int.toNat (205 : Int)) r494)) r585) else
  (none)) r494 r495 i571 i573 (decide (i573 < (0 : Int)))))) else
  (none)))) else
  (none))) else
  (kx0 r494 r495)
def Lp57_2 {R : Type} (m : Nat) (kx0 : Abs.Rows → Abs.Rows → Option R)  : Nat → Abs.Rows → Abs.Rows → Option R
  | 0, _, _ => none
  | n + 1, r494, r495 => Lp57_2_step m kx0  (Lp57_2 m kx0  n) r494 r495
def ELp57_2 (m : Nat) (R : Type) : Nat → List V → (Ex → List V → Option R) → Option R
  | 0, _, _ => none
  | n + 1, vs, k => match vs with
    | [V.bor [LT.int IntKind.i64] r494, V.own [LT.int IntKind.u8] r495, V.undef] => Lp57_2_step m (fun r587 r588 => k (Ex.exit (0 : Nat)) [V.bor [LT.int IntKind.i64] r587, V.own [LT.int IntKind.u8] r588, V.undef])  (fun r494 r495 => ELp57_2 m R n [V.bor [LT.int IntKind.i64] r494, V.own [LT.int IntKind.u8] r495, V.undef] k) r494 r495
    | _ => none
def brLp57_2 (m : Nat) (L : LTbl) (R : Type) (vs : List V) (k : Ex → List V → Option R) : Option R := match vs with
  | [V.bor [LT.int IntKind.i64] r494, V.own [LT.int IntKind.u8] r495, V.undef] => Lp57_2 m (fun r587 r588 => k (Ex.exit (0 : Nat)) [V.bor [LT.int IntKind.i64] r587, V.own [LT.int IntKind.u8] r588, V.undef])  m r494 r495
  | _ => L R 57 2 vs k
set_option maxRecDepth 100000 in
theorem stLp57_2 (m n : Nat) (R : Type) (r494 : Abs.Rows) (r495 : Abs.Rows) (k : Ex → List V → Option R) : codeK Try.prog H (T43 m) 57 (L29 m) 3 (loopBody Try.prog 57 2) (mkEnv [0, 3, 82] [V.bor [LT.int IntKind.i64] r494, V.own [LT.int IntKind.u8] r495, V.undef] 0 (H.len 57)) (fun e env' => match e with | .normal => ELp57_2 m R n (vals [0, 3, 82] env') k | e => k e (vals [0, 3, 82] env')) = Lp57_2_step m (fun r587 r588 => k (Ex.exit (0 : Nat)) [V.bor [LT.int IntKind.i64] r587, V.own [LT.int IntKind.u8] r588, V.undef])  (fun r494 r495 => ELp57_2 m R n [V.bor [LT.int IntKind.i64] r494, V.own [LT.int IntKind.u8] r495, V.undef] k) r494 r495 := by kernel_rfl
theorem eqLp57_2 (m : Nat) (R : Type)  (k : Ex → List V → Option R) : ∀ (n : Nat) (r494 : Abs.Rows) (r495 : Abs.Rows), ELp57_2 m R n [V.bor [LT.int IntKind.i64] r494, V.own [LT.int IntKind.u8] r495, V.undef] k = Lp57_2 m (fun r587 r588 => k (Ex.exit (0 : Nat)) [V.bor [LT.int IntKind.i64] r587, V.own [LT.int IntKind.u8] r588, V.undef])  n r494 r495
  | 0, _, _ => rfl
  | n + 1, r494, r495 => by
    simp only [ELp57_2, Lp57_2]
    congr 1
    funext r494 r495
    exact eqLp57_2 m R  k n r494 r495
def L30 (m : Nat) : LTbl := addB 57 2 (brLp57_2 m (L29 m)) (L29 m)
theorem okL30 (m : Nat) : LTOk Try.prog H (L30 m) := addB_ok (okT43 m) hM (okL29 m) (l := [0, 3, 82]) (by kernel_rfl) (by kernel_rfl) m (fun R n vs k => ELp57_2 m R n vs k) (fun R vs k => rfl) (fun R n vs k x h => by
      simp only [ELp57_2] at h
      split at h
      · exact (stLp57_2 m n R _ _ k).trans h
      · cases h) fun R vs k x h => by
    unfold brLp57_2 at h
    split at h
    · exact .inl ((eqLp57_2 m R k m _ _).trans h)
    · exact .inr h

/-- a round of a loop of hookflash/flashref2.KeysOf -/
def Lp57_15_step {R : Type} (m : Nat) (kx0 : Int → Option R) (r594 : Abs.Rows) (s595 : ByteArray) (i596 : Int) (REC : Int → Option R) (i597 : Int) : Option R :=
  bif decide (i597 < (↑(List.length r594) : Int)) then (bif decide ((0 : Int) ≤ i597 ∧ i597 < (↑(List.length r594) : Int)) then (bif decide ((0 : Int) ≤ i596 ∧ i596 < (↑(List.length r594) : Int)) then (bif fI r594 (Int.toNat i597) (0 : Nat) == fI r594 (Int.toNat i596) (0 : Nat) then (REC (IntKind.wrap IntKind.i64 (i597 + (1 : Int)))) else
  (kx0 i597)) else
  (none)) else
  (none)) else
  (kx0 i597)
def Lp57_15 {R : Type} (m : Nat) (kx0 : Int → Option R) (r594 : Abs.Rows) (s595 : ByteArray) (i596 : Int) : Nat → Int → Option R
  | 0, _ => none
  | n + 1, i597 => Lp57_15_step m kx0 r594 s595 i596 (Lp57_15 m kx0 r594 s595 i596 n) i597
def ELp57_15 (m : Nat) (R : Type) : Nat → List V → (Ex → List V → Option R) → Option R
  | 0, _, _ => none
  | n + 1, vs, k => match vs with
    | [V.own [LT.int IntKind.u8] r594, V.f (F.lit (Value.string s595)), V.f (F.lit (Value.int IntKind.i64 i596)), V.f (F.lit (Value.int IntKind.i64 i597)), V.undef, V.undef, V.undef] => Lp57_15_step m (fun i598 => k (Ex.exit (4 : Nat)) [V.own [LT.int IntKind.u8] r594, V.f (F.lit (Value.string s595)), V.f (F.lit (Value.int IntKind.i64 i596)), V.f (F.lit (Value.int IntKind.i64 i598)), V.undef, V.undef, V.undef]) r594 s595 i596 (fun i597 => ELp57_15 m R n [V.own [LT.int IntKind.u8] r594, V.f (F.lit (Value.string s595)), V.f (F.lit (Value.int IntKind.i64 i596)), V.f (F.lit (Value.int IntKind.i64 i597)), V.undef, V.undef, V.undef] k) i597
    | _ => none
def brLp57_15 (m : Nat) (L : LTbl) (R : Type) (vs : List V) (k : Ex → List V → Option R) : Option R := match vs with
  | [V.own [LT.int IntKind.u8] r594, V.f (F.lit (Value.string s595)), V.f (F.lit (Value.int IntKind.i64 i596)), V.f (F.lit (Value.int IntKind.i64 i597)), V.undef, V.undef, V.undef] => Lp57_15 m (fun i598 => k (Ex.exit (4 : Nat)) [V.own [LT.int IntKind.u8] r594, V.f (F.lit (Value.string s595)), V.f (F.lit (Value.int IntKind.i64 i596)), V.f (F.lit (Value.int IntKind.i64 i598)), V.undef, V.undef, V.undef]) r594 s595 i596 m i597
  | _ => L R 57 15 vs k
set_option maxRecDepth 100000 in
theorem stLp57_15 (m n : Nat) (R : Type) (r594 : Abs.Rows) (s595 : ByteArray) (i596 : Int) (i597 : Int) (k : Ex → List V → Option R) : codeK Try.prog H (T43 m) 57 (L30 m) 16 (loopBody Try.prog 57 15) (mkEnv [3, 6, 7, 8, 30, 38, 82] [V.own [LT.int IntKind.u8] r594, V.f (F.lit (Value.string s595)), V.f (F.lit (Value.int IntKind.i64 i596)), V.f (F.lit (Value.int IntKind.i64 i597)), V.undef, V.undef, V.undef] 0 (H.len 57)) (fun e env' => match e with | .normal => ELp57_15 m R n (vals [3, 6, 7, 8, 30, 38, 82] env') k | e => k e (vals [3, 6, 7, 8, 30, 38, 82] env')) = Lp57_15_step m (fun i598 => k (Ex.exit (4 : Nat)) [V.own [LT.int IntKind.u8] r594, V.f (F.lit (Value.string s595)), V.f (F.lit (Value.int IntKind.i64 i596)), V.f (F.lit (Value.int IntKind.i64 i598)), V.undef, V.undef, V.undef]) r594 s595 i596 (fun i597 => ELp57_15 m R n [V.own [LT.int IntKind.u8] r594, V.f (F.lit (Value.string s595)), V.f (F.lit (Value.int IntKind.i64 i596)), V.f (F.lit (Value.int IntKind.i64 i597)), V.undef, V.undef, V.undef] k) i597 := by kernel_rfl
theorem eqLp57_15 (m : Nat) (R : Type) (r594 : Abs.Rows) (s595 : ByteArray) (i596 : Int) (k : Ex → List V → Option R) : ∀ (n : Nat) (i597 : Int), ELp57_15 m R n [V.own [LT.int IntKind.u8] r594, V.f (F.lit (Value.string s595)), V.f (F.lit (Value.int IntKind.i64 i596)), V.f (F.lit (Value.int IntKind.i64 i597)), V.undef, V.undef, V.undef] k = Lp57_15 m (fun i598 => k (Ex.exit (4 : Nat)) [V.own [LT.int IntKind.u8] r594, V.f (F.lit (Value.string s595)), V.f (F.lit (Value.int IntKind.i64 i596)), V.f (F.lit (Value.int IntKind.i64 i598)), V.undef, V.undef, V.undef]) r594 s595 i596 n i597
  | 0, _ => rfl
  | n + 1, i597 => by
    simp only [ELp57_15, Lp57_15]
    congr 1
    funext i597
    exact eqLp57_15 m R r594 s595 i596 k n i597
def L31 (m : Nat) : LTbl := addB 57 15 (brLp57_15 m (L30 m)) (L30 m)
theorem okL31 (m : Nat) : LTOk Try.prog H (L31 m) := addB_ok (okT43 m) hM (okL30 m) (l := [3, 6, 7, 8, 30, 38, 82]) (by kernel_rfl) (by kernel_rfl) m (fun R n vs k => ELp57_15 m R n vs k) (fun R vs k => rfl) (fun R n vs k x h => by
      simp only [ELp57_15] at h
      split at h
      · exact (stLp57_15 m n R _ _ _ _ k).trans h
      · cases h) fun R vs k x h => by
    unfold brLp57_15 at h
    split at h
    · exact .inl ((eqLp57_15 m R _ _ _ k m _).trans h)
    · exact .inr h

/-- a rest of hookflash/flashref2.KeysOf -/
def Jn57_19 {R : Type} (m : Nat) (kx0 : ByteArray → Bool → Option R) (r600 : Abs.Rows) (s601 : ByteArray) (i602 : Int) (i603 : Int) (b604 : Bool) : Option R :=
  bif b604 then (bif decide ((0 : Int) ≤ i602 ∧ i602 < (↑(List.length r600) : Int)) then (bif decide (ByteArray.size s601 + ByteArray.size (Utf8.encode (IntKind.wrap IntKind.i32 (fI r600 (Int.toNat i602) (0 : Nat)))) ≤ strMax) then (kx0 (s601 ++ Utf8.encode (IntKind.wrap IntKind.i32 (fI r600 (Int.toNat i602) (0 : Nat)))) true) else
  (none)) else
  (none)) else
  (kx0 s601 false)
def brJn57_19 (m : Nat) (L : LTbl) (R : Type) (vs : List V) (k : Ex → List V → Option R) : Option R := match vs with
  | [V.own [LT.int IntKind.u8] r600, V.f (F.lit (Value.string s601)), V.f (F.lit (Value.int IntKind.i64 i602)), V.f (F.lit (Value.int IntKind.i64 i603)), V.undef, V.undef, V.f (F.lit (Value.bool b604)), V.undef] => Jn57_19 m (fun s605 b606 => k Ex.normal [V.own [LT.int IntKind.u8] r600, V.f (F.lit (Value.string s605)), V.f (F.lit (Value.int IntKind.i64 i602)), V.f (F.lit (Value.int IntKind.i64 i603)), V.undef, V.undef, V.f (F.lit (Value.bool b606)), V.undef]) r600 s601 i602 i603 b604
  | _ => L R 57 19 vs k
set_option maxRecDepth 100000 in
theorem evJn57_19 (m : Nat) (R : Type) (r600 : Abs.Rows) (s601 : ByteArray) (i602 : Int) (i603 : Int) (b604 : Bool) (k : Ex → List V → Option R) : codeK Try.prog H (T43 m) 57 (L31 m) 20 (loopBody Try.prog 57 19) (mkEnv [3, 6, 7, 8, 30, 38, 71, 82] [V.own [LT.int IntKind.u8] r600, V.f (F.lit (Value.string s601)), V.f (F.lit (Value.int IntKind.i64 i602)), V.f (F.lit (Value.int IntKind.i64 i603)), V.undef, V.undef, V.f (F.lit (Value.bool b604)), V.undef] 0 (H.len 57)) (fun e env' => k e (vals [3, 6, 7, 8, 30, 38, 71, 82] env')) = Jn57_19 m (fun s605 b606 => k Ex.normal [V.own [LT.int IntKind.u8] r600, V.f (F.lit (Value.string s605)), V.f (F.lit (Value.int IntKind.i64 i602)), V.f (F.lit (Value.int IntKind.i64 i603)), V.undef, V.undef, V.f (F.lit (Value.bool b606)), V.undef]) r600 s601 i602 i603 b604 := by kernel_rfl
def L32 (m : Nat) : LTbl := addJ 57 19 (brJn57_19 m (L31 m)) (L31 m)
theorem okL32 (m : Nat) : LTOk Try.prog H (L32 m) := addJ_ok (okT43 m) hM (okL31 m) (l := [3, 6, 7, 8, 30, 38, 71, 82]) (by kernel_rfl) (by kernel_rfl) fun R vs k x h => by
    unfold brJn57_19 at h
    split at h
    · exact .inl ((evJn57_19 m R _ _ _ _ _ k).trans h)
    · exact .inr h

/-- a round of a loop of hookflash/flashref2.KeysOf -/
def Lp57_11_step {R : Type} (m : Nat) (kx0 : ByteArray → Int → Option R) (r591 : Abs.Rows) (REC : ByteArray → Int → Option R) (s592 : ByteArray) (i593 : Int) : Option R :=
  bif decide (i593 < (↑(List.length r591) : Int)) then (Lp57_15 m (fun i599 => bif decide (IntKind.wrap IntKind.i64 (i599 - i593) > (1 : Int)) then (bif decide ((0 : Int) ≤ i593 ∧ i593 < (↑(List.length r591) : Int)) then (Jn57_19 m (fun s607 b608 => REC s607 i599) r591 s592 i593 i599 (fI r591 (Int.toNat i593) (0 : Nat) != (32 : Int))) else
  (none)) else
  (Jn57_19 m (fun s609 b610 => REC s609 i599) r591 s592 i593 i599 false)) r591 s592 i593 m i593) else
  (kx0 s592 i593)
def Lp57_11 {R : Type} (m : Nat) (kx0 : ByteArray → Int → Option R) (r591 : Abs.Rows) : Nat → ByteArray → Int → Option R
  | 0, _, _ => none
  | n + 1, s592, i593 => Lp57_11_step m kx0 r591 (Lp57_11 m kx0 r591 n) s592 i593
def ELp57_11 (m : Nat) (R : Type) : Nat → List V → (Ex → List V → Option R) → Option R
  | 0, _, _ => none
  | n + 1, vs, k => match vs with
    | [V.own [LT.int IntKind.u8] r591, V.f (F.lit (Value.string s592)), V.f (F.lit (Value.int IntKind.i64 i593)), V.undef, V.undef, V.undef] => Lp57_11_step m (fun s611 i612 => k (Ex.exit (2 : Nat)) [V.own [LT.int IntKind.u8] r591, V.f (F.lit (Value.string s611)), V.f (F.lit (Value.int IntKind.i64 i612)), V.undef, V.undef, V.undef]) r591 (fun s592 i593 => ELp57_11 m R n [V.own [LT.int IntKind.u8] r591, V.f (F.lit (Value.string s592)), V.f (F.lit (Value.int IntKind.i64 i593)), V.undef, V.undef, V.undef] k) s592 i593
    | _ => none
def brLp57_11 (m : Nat) (L : LTbl) (R : Type) (vs : List V) (k : Ex → List V → Option R) : Option R := match vs with
  | [V.own [LT.int IntKind.u8] r591, V.f (F.lit (Value.string s592)), V.f (F.lit (Value.int IntKind.i64 i593)), V.undef, V.undef, V.undef] => Lp57_11 m (fun s611 i612 => k (Ex.exit (2 : Nat)) [V.own [LT.int IntKind.u8] r591, V.f (F.lit (Value.string s611)), V.f (F.lit (Value.int IntKind.i64 i612)), V.undef, V.undef, V.undef]) r591 m s592 i593
  | _ => L R 57 11 vs k
set_option maxRecDepth 100000 in
theorem stLp57_11 (m n : Nat) (R : Type) (r591 : Abs.Rows) (s592 : ByteArray) (i593 : Int) (k : Ex → List V → Option R) : codeK Try.prog H (T43 m) 57 (L32 m) 12 (loopBody Try.prog 57 11) (mkEnv [3, 6, 7, 30, 38, 82] [V.own [LT.int IntKind.u8] r591, V.f (F.lit (Value.string s592)), V.f (F.lit (Value.int IntKind.i64 i593)), V.undef, V.undef, V.undef] 0 (H.len 57)) (fun e env' => match e with | .normal => ELp57_11 m R n (vals [3, 6, 7, 30, 38, 82] env') k | e => k e (vals [3, 6, 7, 30, 38, 82] env')) = Lp57_11_step m (fun s611 i612 => k (Ex.exit (2 : Nat)) [V.own [LT.int IntKind.u8] r591, V.f (F.lit (Value.string s611)), V.f (F.lit (Value.int IntKind.i64 i612)), V.undef, V.undef, V.undef]) r591 (fun s592 i593 => ELp57_11 m R n [V.own [LT.int IntKind.u8] r591, V.f (F.lit (Value.string s592)), V.f (F.lit (Value.int IntKind.i64 i593)), V.undef, V.undef, V.undef] k) s592 i593 := by kernel_rfl
theorem eqLp57_11 (m : Nat) (R : Type) (r591 : Abs.Rows) (k : Ex → List V → Option R) : ∀ (n : Nat) (s592 : ByteArray) (i593 : Int), ELp57_11 m R n [V.own [LT.int IntKind.u8] r591, V.f (F.lit (Value.string s592)), V.f (F.lit (Value.int IntKind.i64 i593)), V.undef, V.undef, V.undef] k = Lp57_11 m (fun s611 i612 => k (Ex.exit (2 : Nat)) [V.own [LT.int IntKind.u8] r591, V.f (F.lit (Value.string s611)), V.f (F.lit (Value.int IntKind.i64 i612)), V.undef, V.undef, V.undef]) r591 n s592 i593
  | 0, _, _ => rfl
  | n + 1, s592, i593 => by
    simp only [ELp57_11, Lp57_11]
    congr 1
    funext s592 i593
    exact eqLp57_11 m R r591 k n s592 i593
def L33 (m : Nat) : LTbl := addB 57 11 (brLp57_11 m (L32 m)) (L32 m)
theorem okL33 (m : Nat) : LTOk Try.prog H (L33 m) := addB_ok (okT43 m) hM (okL32 m) (l := [3, 6, 7, 30, 38, 82]) (by kernel_rfl) (by kernel_rfl) m (fun R n vs k => ELp57_11 m R n vs k) (fun R vs k => rfl) (fun R n vs k x h => by
      simp only [ELp57_11] at h
      split at h
      · exact (stLp57_11 m n R _ _ _ k).trans h
      · cases h) fun R vs k x h => by
    unfold brLp57_11 at h
    split at h
    · exact .inl ((eqLp57_11 m R _ k m _ _).trans h)
    · exact .inr h

/-- hookflash/flashref2.KeysOf -/
def Fn57 {R : Type} (m : Nat) : Abs.Rows → (ByteArray → Option R) → Option R := match m with
  | 0 => fun _ _ => none
  | m + 1 => fun r493 k =>
  Lp57_2 m (fun r589 r590 => Lp57_11 m (fun s613 i614 => k s613) r590 m ({ data := #[] }) ((0 : Int))) m r493 rows0
def brFn57 (m : Nat) (T : Tbl) (R : Type) (vs : List V) (k : V → List V → Option R) : Option R := match vs with
  | [V.bor [LT.int IntKind.i64] r493] => Fn57 m r493 (fun s615 => k (V.f (F.lit (Value.string s615))) [V.undef])
  | _ => T R 57 vs k
set_option maxRecDepth 100000 in
theorem evFn57 (m : Nat) (R : Type) (r493 : Abs.Rows) (k : V → List V → Option R) : runK Try.prog H (T43 m) (L33 m) 57 [V.bor [LT.int IntKind.i64] r493] k = Fn57 (m + 1) r493 (fun s615 => k (V.f (F.lit (Value.string s615))) [V.undef]) := by kernel_rfl
def T44 (m : Nat) : Tbl := addT 57 (brFn57 m (T43 m)) (T43 m)
theorem okT44 (m : Nat) : TblOk Try.prog (T44 m) := addT_ok (okT43 m) fun R vs k x h => by
  unfold brFn57 at h
  split at h
  · cases m with
    | zero => cases h
    | succ m => exact runK_some (okT43 m) hM (okL33 m) ((evFn57 m R _ k).trans h)
  · exact okT43 m R 57 _ k x h

/-- a rest of hookflash/flashlaw2.TonesMade -/
def Jn8_13 {R : Type} (m : Nat) (kx0 : Bool → Option R) (b334 : Bool) (r335 : Abs.Rows) : Option R :=
  Fn56 m r335 (fun s455 i456 => Fn28 m r335 (fun i486 => bif i486 != (0 : Int) then (bif i456 == i486 then (bif ByteArray.toList s455 == ByteArray.toList { data := #[] } then (Fn19 m  (fun b492 => kx0 b492)) else
  (kx0 false)) else
  (kx0 false)) else
  (bif i456 == (0 : Int) then (Fn57 m r335 (fun s616 => bif ByteArray.toList s455 == ByteArray.toList s616 then (Fn19 m  (fun b617 => kx0 b617)) else
  (kx0 false))) else
  (kx0 false))))
def brJn8_13 (m : Nat) (L : LTbl) (R : Type) (vs : List V) (k : Ex → List V → Option R) : Option R := match vs with
  | [V.f (F.lit (Value.bool b334)), V.own [LT.int IntKind.i64] r335, V.undef, V.undef] => Jn8_13 m (fun b618 => k Ex.ret [V.f (F.lit (Value.bool b618)), V.own [LT.int IntKind.i64] r335, V.undef, V.undef]) b334 r335
  | _ => L R 8 13 vs k
set_option maxRecDepth 100000 in
theorem evJn8_13 (m : Nat) (R : Type) (b334 : Bool) (r335 : Abs.Rows) (k : Ex → List V → Option R) : codeK Try.prog H (T44 m) 8 (L33 m) 14 (loopBody Try.prog 8 13) (mkEnv [2, 6, 24, 101] [V.f (F.lit (Value.bool b334)), V.own [LT.int IntKind.i64] r335, V.undef, V.undef] 0 (H.len 8)) (fun e env' => k e (vals [2, 6, 24, 101] env')) = Jn8_13 m (fun b618 => k Ex.ret [V.f (F.lit (Value.bool b618)), V.own [LT.int IntKind.i64] r335, V.undef, V.undef]) b334 r335 := by kernel_rfl
def L34 (m : Nat) : LTbl := addJ 8 13 (brJn8_13 m (L33 m)) (L33 m)
theorem okL34 (m : Nat) : LTOk Try.prog H (L34 m) := addJ_ok (okT44 m) hM (okL33 m) (l := [2, 6, 24, 101]) (by kernel_rfl) (by kernel_rfl) fun R vs k x h => by
    unfold brJn8_13 at h
    split at h
    · exact .inl ((evJn8_13 m R _ _ k).trans h)
    · exact .inr h

/-- a rest of hookflash/flashlaw2.TonesMade -/
def Jn8_10 {R : Type} (m : Nat) (kx0 : Bool → Option R) (kx1 : Bool → Option R) (b309 : Bool) (r310 : Abs.Rows) (r311 : Abs.Rows) (i312 : Int) (i313 : Int) (r314 : Abs.Rows) (i315 : Int) (r316 : Abs.Rows) (b317 : Bool) (r318 : Abs.Rows) : Option R :=
  bif i312 != i313 then (kx0 false) else
  (Fn38 m r311 r314 (fun b333 => bif !b333 then (kx0 false) else
  (Jn8_13 m (fun b619 => kx1 b619) b309 r310)))
def brJn8_10 (m : Nat) (L : LTbl) (R : Type) (vs : List V) (k : Ex → List V → Option R) : Option R := match vs with
  | [V.f (F.lit (Value.bool b309)), V.own [LT.int IntKind.i64] r310, V.own [LT.int IntKind.i64] r311, V.f (F.lit (Value.int IntKind.i64 i312)), V.f (F.lit (Value.int IntKind.i64 i313)), V.f (F.lst [LT.int IntKind.i64] r314), V.undef, V.tup [V.undef, V.f (F.lit (Value.int IntKind.i64 i315))], V.undef, V.undef, V.tup [V.f (F.lst [LT.int IntKind.i64] r316), V.f (F.lit (Value.bool b317))], V.undef, V.f (F.lst [LT.int IntKind.i64] r318), V.undef] => Jn8_10 m (fun b620 => k Ex.ret [V.f (F.lit (Value.bool b620)), V.own [LT.int IntKind.i64] r310, V.own [LT.int IntKind.i64] r311, V.f (F.lit (Value.int IntKind.i64 i312)), V.f (F.lit (Value.int IntKind.i64 i313)), V.f (F.lst [LT.int IntKind.i64] r314), V.undef, V.tup [V.undef, V.f (F.lit (Value.int IntKind.i64 i315))], V.undef, V.undef, V.tup [V.f (F.lst [LT.int IntKind.i64] r316), V.f (F.lit (Value.bool b317))], V.undef, V.f (F.lst [LT.int IntKind.i64] r318), V.undef]) (fun b621 => k Ex.ret [V.f (F.lit (Value.bool b621)), V.own [LT.int IntKind.i64] r310, V.undef, V.undef, V.undef, V.undef, V.undef, V.undef, V.undef, V.undef, V.undef, V.undef, V.undef, V.undef]) b309 r310 r311 i312 i313 r314 i315 r316 b317 r318
  | _ => L R 8 10 vs k
set_option maxRecDepth 100000 in
theorem evJn8_10 (m : Nat) (R : Type) (b309 : Bool) (r310 : Abs.Rows) (r311 : Abs.Rows) (i312 : Int) (i313 : Int) (r314 : Abs.Rows) (i315 : Int) (r316 : Abs.Rows) (b317 : Bool) (r318 : Abs.Rows) (k : Ex → List V → Option R) : codeK Try.prog H (T44 m) 8 (L34 m) 11 (loopBody Try.prog 8 10) (mkEnv [2, 6, 7, 8, 11, 12, 24, 31, 34, 35, 56, 59, 60, 101] [V.f (F.lit (Value.bool b309)), V.own [LT.int IntKind.i64] r310, V.own [LT.int IntKind.i64] r311, V.f (F.lit (Value.int IntKind.i64 i312)), V.f (F.lit (Value.int IntKind.i64 i313)), V.f (F.lst [LT.int IntKind.i64] r314), V.undef, V.tup [V.undef, V.f (F.lit (Value.int IntKind.i64 i315))], V.undef, V.undef, V.tup [V.f (F.lst [LT.int IntKind.i64] r316), V.f (F.lit (Value.bool b317))], V.undef, V.f (F.lst [LT.int IntKind.i64] r318), V.undef] 0 (H.len 8)) (fun e env' => k e (vals [2, 6, 7, 8, 11, 12, 24, 31, 34, 35, 56, 59, 60, 101] env')) = Jn8_10 m (fun b620 => k Ex.ret [V.f (F.lit (Value.bool b620)), V.own [LT.int IntKind.i64] r310, V.own [LT.int IntKind.i64] r311, V.f (F.lit (Value.int IntKind.i64 i312)), V.f (F.lit (Value.int IntKind.i64 i313)), V.f (F.lst [LT.int IntKind.i64] r314), V.undef, V.tup [V.undef, V.f (F.lit (Value.int IntKind.i64 i315))], V.undef, V.undef, V.tup [V.f (F.lst [LT.int IntKind.i64] r316), V.f (F.lit (Value.bool b317))], V.undef, V.f (F.lst [LT.int IntKind.i64] r318), V.undef]) (fun b621 => k Ex.ret [V.f (F.lit (Value.bool b621)), V.own [LT.int IntKind.i64] r310, V.undef, V.undef, V.undef, V.undef, V.undef, V.undef, V.undef, V.undef, V.undef, V.undef, V.undef, V.undef]) b309 r310 r311 i312 i313 r314 i315 r316 b317 r318 := by kernel_rfl
def L35 (m : Nat) : LTbl := addJ 8 10 (brJn8_10 m (L34 m)) (L34 m)
theorem okL35 (m : Nat) : LTOk Try.prog H (L35 m) := addJ_ok (okT44 m) hM (okL34 m) (l := [2, 6, 7, 8, 11, 12, 24, 31, 34, 35, 56, 59, 60, 101]) (by kernel_rfl) (by kernel_rfl) fun R vs k x h => by
    unfold brJn8_10 at h
    split at h
    · exact .inl ((evJn8_10 m R _ _ _ _ _ _ _ _ _ _ k).trans h)
    · exact .inr h

/-- a round of a loop of slices.Equal[[]int,int] -/
def Lp38_5v1_step {R : Type} (m : Nat) (kx0 : Bool → Int → Option R) (kx1 : Int → Option R) (r633 : Abs.Rows) (r634 : Abs.Rows) (b635 : Bool) (i636 : Int) (REC : Int → Option R) (i637 : Int) : Option R :=
  bif decide (i637 < i636) then (bif decide ((0 : Int) ≤ i637 ∧ i637 < (↑(List.length r633) : Int)) then (bif decide ((0 : Int) ≤ i637 ∧ i637 < (↑(List.length r634) : Int)) then (bif fI r633 (Int.toNat i637) (0 : Nat) != fI r634 (Int.toNat i637) (0 : Nat) then (kx0 false i637) else
  (REC (IntKind.wrap IntKind.i64 (i637 + (1 : Int))))) else
  (none)) else
  (none)) else
  (kx1 i637)
def Lp38_5v1 {R : Type} (m : Nat) (kx0 : Bool → Int → Option R) (kx1 : Int → Option R) (r633 : Abs.Rows) (r634 : Abs.Rows) (b635 : Bool) (i636 : Int) : Nat → Int → Option R
  | 0, _ => none
  | n + 1, i637 => Lp38_5v1_step m kx0 kx1 r633 r634 b635 i636 (Lp38_5v1 m kx0 kx1 r633 r634 b635 i636 n) i637
def ELp38_5v1 (m : Nat) (R : Type) : Nat → List V → (Ex → List V → Option R) → Option R
  | 0, _, _ => none
  | n + 1, vs, k => match vs with
    | [V.bor [LT.int IntKind.i64] r633, V.bor [LT.int IntKind.i64] r634, V.f (F.lit (Value.bool b635)), V.f (F.lit (Value.int IntKind.i64 i636)), V.f (F.lit (Value.int IntKind.i64 i637)), V.undef, V.undef] => Lp38_5v1_step m (fun b638 i639 => k Ex.ret [V.bor [LT.int IntKind.i64] r633, V.bor [LT.int IntKind.i64] r634, V.f (F.lit (Value.bool b638)), V.f (F.lit (Value.int IntKind.i64 i636)), V.f (F.lit (Value.int IntKind.i64 i639)), V.undef, V.undef]) (fun i640 => k (Ex.exit (0 : Nat)) [V.bor [LT.int IntKind.i64] r633, V.bor [LT.int IntKind.i64] r634, V.f (F.lit (Value.bool b635)), V.f (F.lit (Value.int IntKind.i64 i636)), V.f (F.lit (Value.int IntKind.i64 i640)), V.undef, V.undef]) r633 r634 b635 i636 (fun i637 => ELp38_5v1 m R n [V.bor [LT.int IntKind.i64] r633, V.bor [LT.int IntKind.i64] r634, V.f (F.lit (Value.bool b635)), V.f (F.lit (Value.int IntKind.i64 i636)), V.f (F.lit (Value.int IntKind.i64 i637)), V.undef, V.undef] k) i637
    | _ => none
def brLp38_5v1 (m : Nat) (L : LTbl) (R : Type) (vs : List V) (k : Ex → List V → Option R) : Option R := match vs with
  | [V.bor [LT.int IntKind.i64] r633, V.bor [LT.int IntKind.i64] r634, V.f (F.lit (Value.bool b635)), V.f (F.lit (Value.int IntKind.i64 i636)), V.f (F.lit (Value.int IntKind.i64 i637)), V.undef, V.undef] => Lp38_5v1 m (fun b638 i639 => k Ex.ret [V.bor [LT.int IntKind.i64] r633, V.bor [LT.int IntKind.i64] r634, V.f (F.lit (Value.bool b638)), V.f (F.lit (Value.int IntKind.i64 i636)), V.f (F.lit (Value.int IntKind.i64 i639)), V.undef, V.undef]) (fun i640 => k (Ex.exit (0 : Nat)) [V.bor [LT.int IntKind.i64] r633, V.bor [LT.int IntKind.i64] r634, V.f (F.lit (Value.bool b635)), V.f (F.lit (Value.int IntKind.i64 i636)), V.f (F.lit (Value.int IntKind.i64 i640)), V.undef, V.undef]) r633 r634 b635 i636 m i637
  | _ => L R 38 5 vs k
set_option maxRecDepth 100000 in
theorem stLp38_5v1 (m n : Nat) (R : Type) (r633 : Abs.Rows) (r634 : Abs.Rows) (b635 : Bool) (i636 : Int) (i637 : Int) (k : Ex → List V → Option R) : codeK Try.prog H (T44 m) 38 (L35 m) 6 (loopBody Try.prog 38 5) (mkEnv [0, 1, 4, 12, 13, 26, 27] [V.bor [LT.int IntKind.i64] r633, V.bor [LT.int IntKind.i64] r634, V.f (F.lit (Value.bool b635)), V.f (F.lit (Value.int IntKind.i64 i636)), V.f (F.lit (Value.int IntKind.i64 i637)), V.undef, V.undef] 0 (H.len 38)) (fun e env' => match e with | .normal => ELp38_5v1 m R n (vals [0, 1, 4, 12, 13, 26, 27] env') k | e => k e (vals [0, 1, 4, 12, 13, 26, 27] env')) = Lp38_5v1_step m (fun b638 i639 => k Ex.ret [V.bor [LT.int IntKind.i64] r633, V.bor [LT.int IntKind.i64] r634, V.f (F.lit (Value.bool b638)), V.f (F.lit (Value.int IntKind.i64 i636)), V.f (F.lit (Value.int IntKind.i64 i639)), V.undef, V.undef]) (fun i640 => k (Ex.exit (0 : Nat)) [V.bor [LT.int IntKind.i64] r633, V.bor [LT.int IntKind.i64] r634, V.f (F.lit (Value.bool b635)), V.f (F.lit (Value.int IntKind.i64 i636)), V.f (F.lit (Value.int IntKind.i64 i640)), V.undef, V.undef]) r633 r634 b635 i636 (fun i637 => ELp38_5v1 m R n [V.bor [LT.int IntKind.i64] r633, V.bor [LT.int IntKind.i64] r634, V.f (F.lit (Value.bool b635)), V.f (F.lit (Value.int IntKind.i64 i636)), V.f (F.lit (Value.int IntKind.i64 i637)), V.undef, V.undef] k) i637 := by kernel_rfl
theorem eqLp38_5v1 (m : Nat) (R : Type) (r633 : Abs.Rows) (r634 : Abs.Rows) (b635 : Bool) (i636 : Int) (k : Ex → List V → Option R) : ∀ (n : Nat) (i637 : Int), ELp38_5v1 m R n [V.bor [LT.int IntKind.i64] r633, V.bor [LT.int IntKind.i64] r634, V.f (F.lit (Value.bool b635)), V.f (F.lit (Value.int IntKind.i64 i636)), V.f (F.lit (Value.int IntKind.i64 i637)), V.undef, V.undef] k = Lp38_5v1 m (fun b638 i639 => k Ex.ret [V.bor [LT.int IntKind.i64] r633, V.bor [LT.int IntKind.i64] r634, V.f (F.lit (Value.bool b638)), V.f (F.lit (Value.int IntKind.i64 i636)), V.f (F.lit (Value.int IntKind.i64 i639)), V.undef, V.undef]) (fun i640 => k (Ex.exit (0 : Nat)) [V.bor [LT.int IntKind.i64] r633, V.bor [LT.int IntKind.i64] r634, V.f (F.lit (Value.bool b635)), V.f (F.lit (Value.int IntKind.i64 i636)), V.f (F.lit (Value.int IntKind.i64 i640)), V.undef, V.undef]) r633 r634 b635 i636 n i637
  | 0, _ => rfl
  | n + 1, i637 => by
    simp only [ELp38_5v1, Lp38_5v1]
    congr 1
    funext i637
    exact eqLp38_5v1 m R r633 r634 b635 i636 k n i637
def L36 (m : Nat) : LTbl := addB 38 5 (brLp38_5v1 m (L35 m)) (L35 m)
theorem okL36 (m : Nat) : LTOk Try.prog H (L36 m) := addB_ok (okT44 m) hM (okL35 m) (l := [0, 1, 4, 12, 13, 26, 27]) (by kernel_rfl) (by kernel_rfl) m (fun R n vs k => ELp38_5v1 m R n vs k) (fun R vs k => rfl) (fun R n vs k x h => by
      simp only [ELp38_5v1] at h
      split at h
      · exact (stLp38_5v1 m n R _ _ _ _ _ k).trans h
      · cases h) fun R vs k x h => by
    unfold brLp38_5v1 at h
    split at h
    · exact .inl ((eqLp38_5v1 m R _ _ _ _ k m _).trans h)
    · exact .inr h

/-- slices.Equal[[]int,int] -/
def Fn38v1 {R : Type} (m : Nat) : Abs.Rows → Abs.Rows → (Bool → Option R) → Option R := match m with
  | 0 => fun _ _ _ => none
  | m + 1 => fun r631 r632 k =>
  bif (↑(List.length r631) : Int) != (↑(List.length r632) : Int) then (k false) else
  (Lp38_5v1 m (fun b641 i642 => k b641) (fun i643 => k true) r631 r632 false ((↑(List.length r631) : Int)) m ((0 : Int)))
def brFn38v1 (m : Nat) (T : Tbl) (R : Type) (vs : List V) (k : V → List V → Option R) : Option R := match vs with
  | [V.bor [LT.int IntKind.i64] r631, V.bor [LT.int IntKind.i64] r632] => Fn38v1 m r631 r632 (fun b644 => k (V.f (F.lit (Value.bool b644))) [V.undef, V.undef])
  | _ => T R 38 vs k
set_option maxRecDepth 100000 in
theorem evFn38v1 (m : Nat) (R : Type) (r631 : Abs.Rows) (r632 : Abs.Rows) (k : V → List V → Option R) : runK Try.prog H (T44 m) (L36 m) 38 [V.bor [LT.int IntKind.i64] r631, V.bor [LT.int IntKind.i64] r632] k = Fn38v1 (m + 1) r631 r632 (fun b644 => k (V.f (F.lit (Value.bool b644))) [V.undef, V.undef]) := by kernel_rfl
def T45 (m : Nat) : Tbl := addT 38 (brFn38v1 m (T44 m)) (T44 m)
theorem okT45 (m : Nat) : TblOk Try.prog (T45 m) := addT_ok (okT44 m) fun R vs k x h => by
  unfold brFn38v1 at h
  split at h
  · cases m with
    | zero => cases h
    | succ m => exact runK_some (okT44 m) hM (okL36 m) ((evFn38v1 m R _ _ k).trans h)
  · exact okT44 m R 38 _ k x h

/-- a rest of hookflash/flashlaw2.TonesMade -/
def Jn8_10v1 {R : Type} (m : Nat) (kx0 : Bool → Option R) (kx1 : Bool → Option R) (b624 : Bool) (r625 : Abs.Rows) (r626 : Abs.Rows) (i627 : Int) (i628 : Int) (r629 : Abs.Rows) (i630 : Int) : Option R :=
  bif i627 != i628 then (kx0 false) else
  (Fn38v1 m r626 r629 (fun b645 => bif !b645 then (kx0 false) else
  (Jn8_13 m (fun b646 => kx1 b646) b624 r625)))
def brJn8_10v1 (m : Nat) (L : LTbl) (R : Type) (vs : List V) (k : Ex → List V → Option R) : Option R := match vs with
  | [V.f (F.lit (Value.bool b624)), V.own [LT.int IntKind.i64] r625, V.own [LT.int IntKind.i64] r626, V.f (F.lit (Value.int IntKind.i64 i627)), V.f (F.lit (Value.int IntKind.i64 i628)), V.own [LT.int IntKind.i64] r629, V.undef, V.tup [V.undef, V.f (F.lit (Value.int IntKind.i64 i630))], V.undef, V.undef, V.undef, V.undef, V.undef, V.undef] => Jn8_10v1 m (fun b647 => k Ex.ret [V.f (F.lit (Value.bool b647)), V.own [LT.int IntKind.i64] r625, V.own [LT.int IntKind.i64] r626, V.f (F.lit (Value.int IntKind.i64 i627)), V.f (F.lit (Value.int IntKind.i64 i628)), V.own [LT.int IntKind.i64] r629, V.undef, V.tup [V.undef, V.f (F.lit (Value.int IntKind.i64 i630))], V.undef, V.undef, V.undef, V.undef, V.undef, V.undef]) (fun b648 => k Ex.ret [V.f (F.lit (Value.bool b648)), V.own [LT.int IntKind.i64] r625, V.undef, V.undef, V.undef, V.undef, V.undef, V.undef, V.undef, V.undef, V.undef, V.undef, V.undef, V.undef]) b624 r625 r626 i627 i628 r629 i630
  | _ => L R 8 10 vs k
set_option maxRecDepth 100000 in
theorem evJn8_10v1 (m : Nat) (R : Type) (b624 : Bool) (r625 : Abs.Rows) (r626 : Abs.Rows) (i627 : Int) (i628 : Int) (r629 : Abs.Rows) (i630 : Int) (k : Ex → List V → Option R) : codeK Try.prog H (T45 m) 8 (L36 m) 11 (loopBody Try.prog 8 10) (mkEnv [2, 6, 7, 8, 11, 12, 24, 31, 34, 35, 56, 59, 60, 101] [V.f (F.lit (Value.bool b624)), V.own [LT.int IntKind.i64] r625, V.own [LT.int IntKind.i64] r626, V.f (F.lit (Value.int IntKind.i64 i627)), V.f (F.lit (Value.int IntKind.i64 i628)), V.own [LT.int IntKind.i64] r629, V.undef, V.tup [V.undef, V.f (F.lit (Value.int IntKind.i64 i630))], V.undef, V.undef, V.undef, V.undef, V.undef, V.undef] 0 (H.len 8)) (fun e env' => k e (vals [2, 6, 7, 8, 11, 12, 24, 31, 34, 35, 56, 59, 60, 101] env')) = Jn8_10v1 m (fun b647 => k Ex.ret [V.f (F.lit (Value.bool b647)), V.own [LT.int IntKind.i64] r625, V.own [LT.int IntKind.i64] r626, V.f (F.lit (Value.int IntKind.i64 i627)), V.f (F.lit (Value.int IntKind.i64 i628)), V.own [LT.int IntKind.i64] r629, V.undef, V.tup [V.undef, V.f (F.lit (Value.int IntKind.i64 i630))], V.undef, V.undef, V.undef, V.undef, V.undef, V.undef]) (fun b648 => k Ex.ret [V.f (F.lit (Value.bool b648)), V.own [LT.int IntKind.i64] r625, V.undef, V.undef, V.undef, V.undef, V.undef, V.undef, V.undef, V.undef, V.undef, V.undef, V.undef, V.undef]) b624 r625 r626 i627 i628 r629 i630 := by kernel_rfl
def L37 (m : Nat) : LTbl := addJ 8 10 (brJn8_10v1 m (L36 m)) (L36 m)
theorem okL37 (m : Nat) : LTOk Try.prog H (L37 m) := addJ_ok (okT45 m) hM (okL36 m) (l := [2, 6, 7, 8, 11, 12, 24, 31, 34, 35, 56, 59, 60, 101]) (by kernel_rfl) (by kernel_rfl) fun R vs k x h => by
    unfold brJn8_10v1 at h
    split at h
    · exact .inl ((evJn8_10v1 m R _ _ _ _ _ _ _ k).trans h)
    · exact .inr h

/-- a rest of hookflash/flashlaw2.TonesMade -/
def Jn8_7 {R : Type} (m : Nat) (kx0 : Bool → Option R) (kx1 : Bool → Option R) (b299 : Bool) (i300 : Int) (i301 : Int) (r302 : Abs.Rows) (r303 : Abs.Rows) (i304 : Int) (i305 : Int) (i306 : Int) : Option R :=
  bif i305 == (0 : Int) then (Fn55 m i300 i301 (fun r307 b308 => Jn8_10 m (fun b622 => kx0 b622) (fun b623 => kx1 b623) b299 r302 r303 i304 i305 r307 i306 r307 b308 r307)) else
  (Jn8_10v1 m (fun b649 => kx0 b649) (fun b650 => kx1 b650) b299 r302 r303 i304 i305 rows0 i306)
def brJn8_7 (m : Nat) (L : LTbl) (R : Type) (vs : List V) (k : Ex → List V → Option R) : Option R := match vs with
  | [V.f (F.lit (Value.bool b299)), V.f (F.lit (Value.int IntKind.u8 i300)), V.f (F.lit (Value.int IntKind.i64 i301)), V.own [LT.int IntKind.i64] r302, V.own [LT.int IntKind.i64] r303, V.f (F.lit (Value.int IntKind.i64 i304)), V.f (F.lit (Value.int IntKind.i64 i305)), V.undef, V.tup [V.undef, V.f (F.lit (Value.int IntKind.i64 i306))], V.undef, V.undef, V.undef] => Jn8_7 m (fun b651 => k Ex.ret [V.f (F.lit (Value.bool b651)), V.undef, V.undef, V.own [LT.int IntKind.i64] r302, V.own [LT.int IntKind.i64] r303, V.f (F.lit (Value.int IntKind.i64 i304)), V.f (F.lit (Value.int IntKind.i64 i305)), V.undef, V.tup [V.undef, V.f (F.lit (Value.int IntKind.i64 i306))], V.undef, V.undef, V.undef]) (fun b652 => k Ex.ret [V.f (F.lit (Value.bool b652)), V.undef, V.undef, V.own [LT.int IntKind.i64] r302, V.undef, V.undef, V.undef, V.undef, V.undef, V.undef, V.undef, V.undef]) b299 i300 i301 r302 r303 i304 i305 i306
  | _ => L R 8 7 vs k
set_option maxRecDepth 100000 in
theorem evJn8_7 (m : Nat) (R : Type) (b299 : Bool) (i300 : Int) (i301 : Int) (r302 : Abs.Rows) (r303 : Abs.Rows) (i304 : Int) (i305 : Int) (i306 : Int) (k : Ex → List V → Option R) : codeK Try.prog H (T45 m) 8 (L37 m) 8 (loopBody Try.prog 8 7) (mkEnv [2, 4, 5, 6, 7, 8, 11, 24, 31, 34, 35, 101] [V.f (F.lit (Value.bool b299)), V.f (F.lit (Value.int IntKind.u8 i300)), V.f (F.lit (Value.int IntKind.i64 i301)), V.own [LT.int IntKind.i64] r302, V.own [LT.int IntKind.i64] r303, V.f (F.lit (Value.int IntKind.i64 i304)), V.f (F.lit (Value.int IntKind.i64 i305)), V.undef, V.tup [V.undef, V.f (F.lit (Value.int IntKind.i64 i306))], V.undef, V.undef, V.undef] 0 (H.len 8)) (fun e env' => k e (vals [2, 4, 5, 6, 7, 8, 11, 24, 31, 34, 35, 101] env')) = Jn8_7 m (fun b651 => k Ex.ret [V.f (F.lit (Value.bool b651)), V.undef, V.undef, V.own [LT.int IntKind.i64] r302, V.own [LT.int IntKind.i64] r303, V.f (F.lit (Value.int IntKind.i64 i304)), V.f (F.lit (Value.int IntKind.i64 i305)), V.undef, V.tup [V.undef, V.f (F.lit (Value.int IntKind.i64 i306))], V.undef, V.undef, V.undef]) (fun b652 => k Ex.ret [V.f (F.lit (Value.bool b652)), V.undef, V.undef, V.own [LT.int IntKind.i64] r302, V.undef, V.undef, V.undef, V.undef, V.undef, V.undef, V.undef, V.undef]) b299 i300 i301 r302 r303 i304 i305 i306 := by kernel_rfl
def L38 (m : Nat) : LTbl := addJ 8 7 (brJn8_7 m (L37 m)) (L37 m)
theorem okL38 (m : Nat) : LTOk Try.prog H (L38 m) := addJ_ok (okT45 m) hM (okL37 m) (l := [2, 4, 5, 6, 7, 8, 11, 24, 31, 34, 35, 101]) (by kernel_rfl) (by kernel_rfl) fun R vs k x h => by
    unfold brJn8_7 at h
    split at h
    · exact .inl ((evJn8_7 m R _ _ _ _ _ _ _ _ k).trans h)
    · exact .inr h

/-- a rest of hookflash/flashlaw2.TonesMade -/
def Jn8_4 {R : Type} (m : Nat) (kx0 : Bool → Option R) (b222 : Bool) (i223 : Int) (i224 : Int) (r225 : Abs.Rows) : Option R :=
  Fn54 m i223 i224 (fun r276 i277 => Fn55 m i223 ((0 : Int)) (fun r278 b279 => Fn24 m (!b279) ((4 : Int)) (fun i283 => bif decide (i224 < (0 : Int)) then (Fn24 m true ((1 : Int)) (fun i284 => Fn35 m ([[F.lit (Value.int IntKind.i64 i283)], [F.lit (Value.int IntKind.i64 i284)]]) (fun i298 => Jn8_7 m (fun b653 => kx0 b653) (fun b654 => kx0 b654) b222 i223 i224 r225 r276 i277 i298 i277))) else
  (Fn24 m (decide (i224 > (20000 : Int))) ((1 : Int)) (fun i655 => Fn35 m ([[F.lit (Value.int IntKind.i64 i283)], [F.lit (Value.int IntKind.i64 i655)]]) (fun i656 => Jn8_7 m (fun b657 => kx0 b657) (fun b658 => kx0 b658) b222 i223 i224 r225 r276 i277 i656 i277))))))
def brJn8_4 (m : Nat) (L : LTbl) (R : Type) (vs : List V) (k : Ex → List V → Option R) : Option R := match vs with
  | [V.f (F.lit (Value.bool b222)), V.f (F.lit (Value.int IntKind.u8 i223)), V.f (F.lit (Value.int IntKind.i64 i224)), V.own [LT.int IntKind.i64] r225, V.undef, V.undef] => Jn8_4 m (fun b659 => k Ex.ret [V.f (F.lit (Value.bool b659)), V.undef, V.undef, V.own [LT.int IntKind.i64] r225, V.undef, V.undef]) b222 i223 i224 r225
  | _ => L R 8 4 vs k
set_option maxRecDepth 100000 in
theorem evJn8_4 (m : Nat) (R : Type) (b222 : Bool) (i223 : Int) (i224 : Int) (r225 : Abs.Rows) (k : Ex → List V → Option R) : codeK Try.prog H (T45 m) 8 (L38 m) 5 (loopBody Try.prog 8 4) (mkEnv [2, 4, 5, 6, 24, 101] [V.f (F.lit (Value.bool b222)), V.f (F.lit (Value.int IntKind.u8 i223)), V.f (F.lit (Value.int IntKind.i64 i224)), V.own [LT.int IntKind.i64] r225, V.undef, V.undef] 0 (H.len 8)) (fun e env' => k e (vals [2, 4, 5, 6, 24, 101] env')) = Jn8_4 m (fun b659 => k Ex.ret [V.f (F.lit (Value.bool b659)), V.undef, V.undef, V.own [LT.int IntKind.i64] r225, V.undef, V.undef]) b222 i223 i224 r225 := by kernel_rfl
def L39 (m : Nat) : LTbl := addJ 8 4 (brJn8_4 m (L38 m)) (L38 m)
theorem okL39 (m : Nat) : LTOk Try.prog H (L39 m) := addJ_ok (okT45 m) hM (okL38 m) (l := [2, 4, 5, 6, 24, 101]) (by kernel_rfl) (by kernel_rfl) fun R vs k x h => by
    unfold brJn8_4 at h
    split at h
    · exact .inl ((evJn8_4 m R _ _ _ _ k).trans h)
    · exact .inr h

/-- hookflash/flashlaw2.TonesMade -/
def Fn8 {R : Type} (m : Nat) : Abs.Rows → (Bool → Option R) → Option R := match m with
  | 0 => fun _ _ => none
  | m + 1 => fun r1 k =>
  Fn52 m r1 ((0 : Int)) (fun i21 i22 => Fn20 m r1 i22 ([[F.lit (Value.int IntKind.i64 (0 : Int))], [F.lit (Value.int IntKind.i64 (1 : Int))], [F.lit (Value.int IntKind.i64 (2 : Int))], [F.lit (Value.int IntKind.i64 (3 : Int))], [F.lit (Value.int IntKind.i64 (50 : Int))], [F.lit (Value.int IntKind.i64 (410 : Int))], [F.lit (Value.int IntKind.i64 (-1 : Int))], [F.lit (Value.int IntKind.i64 (20001 : Int))]]) (fun i30 i31 => Fn53 m r1 i31 (fun r209 i210 => Fn39 m r1 i210 ((12 : Int)) (fun b218 i219 => bif b218 then (Fn20 m r1 i219 ([[F.lit (Value.int IntKind.i64 (0 : Int))], [F.lit (Value.int IntKind.i64 (69 : Int))], [F.lit (Value.int IntKind.i64 (97 : Int))], [F.lit (Value.int IntKind.i64 (32 : Int))], [F.lit (Value.int IntKind.i64 (255 : Int))]]) (fun i220 i221 => Jn8_4 m (fun b660 => k b660) false (IntKind.wrap IntKind.u8 i220) i30 r209)) else
  (Jn8_4 m (fun b661 => k b661) false i21 i30 r209)))))
def brFn8 (m : Nat) (T : Tbl) (R : Type) (vs : List V) (k : V → List V → Option R) : Option R := match vs with
  | [V.f (F.lst [LT.int IntKind.i64] r1)] => Fn8 m r1 (fun b662 => k (V.f (F.lit (Value.bool b662))) [V.undef])
  | _ => T R 8 vs k
set_option maxRecDepth 100000 in
theorem evFn8 (m : Nat) (R : Type) (r1 : Abs.Rows) (k : V → List V → Option R) : runK Try.prog H (T45 m) (L39 m) 8 [V.f (F.lst [LT.int IntKind.i64] r1)] k = Fn8 (m + 1) r1 (fun b662 => k (V.f (F.lit (Value.bool b662))) [V.undef]) := by kernel_rfl
def T46 (m : Nat) : Tbl := addT 8 (brFn8 m (T45 m)) (T45 m)
theorem okT46 (m : Nat) : TblOk Try.prog (T46 m) := addT_ok (okT45 m) fun R vs k x h => by
  unfold brFn8 at h
  split at h
  · cases m with
    | zero => cases h
    | succ m => exact runK_some (okT45 m) hM (okL39 m) ((evFn8 m R _ k).trans h)
  · exact okT45 m R 8 _ k x h

end Go.Proofs.Ytjhfbmhblpjigaa.Med
end
