/- A part of the proofs of the seat Ytjhfbmhblpjigaa: no statement of the seat stands here. -/
import Derived.Test.YtjhfbmhblpjigaaProg
import Derived.KernelRfl
import Derived.Test.YtjhfbmhblpjigaaAbsC
section
set_option linter.unusedVariables false
set_option linter.unusedSimpArgs false
namespace Go.Proofs.Ytjhfbmhblpjigaa.Med
open Go Go.Abs
def H : Hints where
  mode := fun f j => match f, j with
    | 62, 0 => .own
    | _, _ => .bor
  mv := fun f t => match f, t with
    | 3, 2 => true
    | 4, 2 => true
    | 5, 2 => true
    | 6, 2 => true
    | 7, 2 => true
    | 8, 2 => true
    | 10, 2 => true
    | 11, 2 => true
    | 11, 3 => true
    | 12, 2 => true
    | 13, 2 => true
    | 14, 3 => true
    | 15, 3 => true
    | 16, 2 => true
    | 17, 4 => true
    | 18, 4 => true
    | 19, 0 => true
    | 20, 4 => true
    | 21, 6 => true
    | 22, 4 => true
    | 23, 2 => true
    | 23, 3 => true
    | 24, 4 => true
    | 25, 2 => true
    | 26, 2 => true
    | 27, 2 => true
    | 27, 3 => true
    | 28, 2 => true
    | 29, 2 => true
    | 30, 2 => true
    | 30, 3 => true
    | 31, 2 => true
    | 32, 2 => true
    | 33, 4 => true
    | 34, 6 => true
    | 34, 7 => true
    | 35, 2 => true
    | 36, 2 => true
    | 37, 6 => true
    | 38, 4 => true
    | 39, 4 => true
    | 40, 2 => true
    | 40, 3 => true
    | 41, 4 => true
    | 41, 5 => true
    | 42, 6 => true
    | 42, 7 => true
    | 43, 2 => true
    | 44, 4 => true
    | 45, 6 => true
    | 46, 4 => true
    | 47, 2 => true
    | 47, 3 => true
    | 48, 3 => true
    | 49, 2 => true
    | 50, 2 => true
    | 52, 2 => true
    | 53, 2 => true
    | 54, 4 => true
    | 54, 5 => true
    | 55, 4 => true
    | 55, 5 => true
    | 56, 2 => true
    | 56, 3 => true
    | 57, 2 => true
    | 59, 4 => true
    | 60, 6 => true
    | 61, 4 => true
    | 62, 6 => true
    | 63, 6 => true
    | 64, 2 => true
    | 65, 2 => true
    | 66, 2 => true
    | 67, 6 => true
    | 68, 2 => true
    | 69, 4 => true
    | 70, 2 => true
    | 71, 4 => true
    | 72, 4 => true
    | 73, 2 => true
    | 74, 4 => true
    | 75, 4 => true
    | 76, 2 => true
    | 77, 2 => true
    | 78, 2 => true
    | 79, 2 => true
    | 80, 2 => true
    | 81, 2 => true
    | 82, 4 => true
    | 83, 4 => true
    | 84, 4 => true
    | 85, 0 => true
    | 86, 0 => true
    | 87, 4 => true
    | 88, 4 => true
    | 89, 0 => true
    | 90, 0 => true
    | 91, 4 => true
    | 91, 5 => true
    | 92, 4 => true
    | 93, 4 => true
    | 94, 4 => true
    | 95, 6 => true
    | 96, 4 => true
    | 97, 4 => true
    | 98, 4 => true
    | 99, 4 => true
    | _, _ => false
  live := fun f i => match f, i with
    | 3, 7 => some [2, 4, 5, 6, 7, 8, 9, 20, 21, 23, 24, 31, 69]
    | 4, 5 => some [3, 4, 5, 6, 21, 28, 30, 31, 147]
    | 4, 14 => some [2, 5, 6, 28, 38, 147]
    | 4, 20 => some [5, 6, 9, 10, 11, 12, 28, 38, 70, 72, 73, 79, 80, 81, 147]
    | 4, 25 => some [2, 5, 6, 9, 10, 11, 12, 28, 38, 70, 72, 73, 89, 147]
    | 4, 28 => some [2, 6, 38, 147]
    | 4, 31 => some [2, 6, 15, 16, 38, 106, 108, 109, 111, 112, 113, 147]
    | 5, 4 => some [2, 4, 5, 6, 7, 8, 9, 15, 22, 26, 27, 65]
    | 5, 7 => some [2, 7, 8, 9, 10, 22, 26, 27, 53, 65]
    | 6, 5 => some [3, 4, 5, 24, 26, 27, 149]
    | 6, 13 => some [2, 3, 4, 5, 24, 34, 43, 149]
    | 6, 20 => some [2, 5, 7, 8, 9, 10, 11, 12, 13, 14, 15, 16, 17, 45, 55, 57, 58, 60, 63, 64, 66, 70, 71, 76, 149]
    | 6, 21 => some [2, 5, 7, 8, 9, 10, 11, 12, 13, 14, 15, 16, 17, 18, 45, 55, 57, 58, 60, 63, 64, 66, 70, 71, 76, 149]
    | 6, 22 => some [2, 5, 7, 8, 9, 10, 11, 12, 13, 14, 15, 16, 17, 18, 19, 45, 55, 57, 58, 60, 63, 64, 66, 70, 71, 76, 149]
    | 6, 25 => some [2, 5, 7, 9, 10, 11, 12, 13, 14, 15, 16, 17, 18, 19, 20, 45, 55, 57, 58, 60, 63, 64, 66, 70, 71, 76, 111, 149]
    | 6, 28 => some [2, 5, 11, 12, 13, 14, 15, 16, 17, 18, 19, 20, 21, 55, 57, 58, 60, 63, 64, 66, 70, 71, 76, 111, 117, 149]
    | 8, 4 => some [2, 4, 5, 6, 24, 101]
    | 8, 7 => some [2, 4, 5, 6, 7, 8, 11, 24, 31, 34, 35, 101]
    | 8, 10 => some [2, 6, 7, 8, 11, 12, 24, 31, 34, 35, 56, 59, 60, 101]
    | 8, 13 => some [2, 6, 24, 101]
    | 10, 3 => some [0, 2, 3, 6, 11, 18, 19, 20]
    | 11, 7 => some [1, 2, 3, 5, 33, 34]
    | 12, 1 => some [1, 2, 3, 31]
    | 13, 3 => some [1, 2, 3, 10, 53, 54]
    | 13, 5 => some [1, 3, 10, 27, 28, 29, 54]
    | 13, 10 => some [1, 3, 5, 6, 10, 27, 28, 29, 54]
    | 14, 3 => some [0, 2, 3, 41]
    | 15, 3 => some [0, 2, 3, 45]
    | 16, 1 => some [1, 2, 3, 31]
    | 17, 5 => some [0, 1, 4, 12, 13, 26, 27]
    | 22, 3 => some [0, 5, 8, 9, 34, 35]
    | 22, 8 => some [0, 5, 16, 24, 34, 35]
    | 23, 6 => some [2, 3, 4, 5, 45]
    | 23, 9 => some [4, 5, 6, 45]
    | 26, 3 => some [2, 3, 4, 32]
    | 26, 6 => some [3, 4, 5, 32]
    | 27, 7 => some [0, 5, 15, 16, 17, 18, 33]
    | 29, 5 => some [0, 2, 8, 9, 10, 18]
    | 30, 6 => some [0, 4, 12, 13, 14, 15, 27]
    | 33, 2 => some [0, 5, 9, 16, 56, 57]
    | 34, 7 => some [0, 1, 2, 6, 7, 9, 33, 125, 126, 127, 128]
    | 34, 11 => some [0, 1, 9, 10, 33, 36, 37, 38, 39, 126, 127, 128]
    | 34, 19 => some [0, 1, 9, 10, 12, 13, 33, 36, 37, 38, 39, 64, 65, 66, 67, 68, 126, 127, 128]
    | 34, 24 => some [0, 1, 9, 10, 12, 13, 15, 16, 33, 36, 37, 38, 39, 64, 65, 66, 67, 68, 90, 126, 127, 128]
    | 34, 29 => some [9, 10, 33, 36, 102, 103, 126, 127, 128]
    | 34, 33 => some [9, 10, 17, 33, 36, 102, 103, 114, 126, 127, 128]
    | 35, 2 => some [0, 2, 5, 6, 7, 15]
    | 36, 5 => some [0, 2, 9, 10, 11, 51]
    | 36, 16 => some [0, 2, 4, 9, 10, 11, 26, 51]
    | 37, 4 => some [0, 1, 7, 8, 18, 21, 22, 23, 24, 112, 113, 114]
    | 37, 12 => some [0, 1, 7, 8, 10, 11, 18, 21, 22, 23, 24, 49, 50, 51, 52, 53, 112, 113, 114]
    | 37, 17 => some [0, 1, 7, 8, 10, 11, 13, 14, 18, 21, 22, 23, 24, 49, 50, 51, 52, 53, 72, 112, 113, 114]
    | 37, 25 => some [7, 8, 18, 21, 88, 89, 112, 113, 114]
    | 37, 29 => some [7, 8, 15, 18, 21, 88, 89, 100, 112, 113, 114]
    | 38, 5 => some [0, 1, 4, 12, 13, 26, 27]
    | 40, 6 => some [0, 2, 3, 4, 17, 18, 19, 72]
    | 40, 18 => some [0, 8, 34, 35, 36, 37, 72]
    | 40, 23 => some [0, 8, 10, 34, 35, 36, 37, 39, 40, 41, 42, 43, 72]
    | 40, 31 => some [8, 34, 58, 59, 72]
    | 41, 10 => some [0, 1, 7, 20, 21, 22, 23, 38, 39]
    | 42, 7 => some [0, 1, 2, 6, 7, 9, 55, 59, 60, 61, 62]
    | 42, 11 => some [0, 1, 2, 9, 10, 27, 28, 60, 61, 62]
    | 42, 16 => some [0, 1, 2, 9, 10, 11, 27, 28, 55, 60, 61, 62]
    | 43, 3 => some [0, 3, 9, 10, 11, 54]
    | 43, 7 => some [0, 3, 5, 9, 10, 11, 13, 14, 54]
    | 43, 12 => some [0, 3, 5, 9, 10, 11, 13, 14, 22, 23, 24, 25, 54]
    | 43, 20 => some [3, 22, 40, 41, 54]
    | 44, 3 => some [0, 1, 5, 8, 9, 10, 24, 25]
    | 45, 4 => some [0, 1, 2, 7, 8, 12, 13, 45, 46, 47]
    | 45, 9 => some [0, 1, 2, 7, 8, 9, 12, 13, 40, 45, 46, 47]
    | 46, 5 => some [0, 1, 4, 12, 13, 26, 27]
    | 48, 13 => some [0, 2, 5, 6, 7, 8, 9, 25, 32, 33, 34, 35, 123]
    | 48, 19 => some [0, 2, 5, 6, 7, 8, 9, 11, 25, 32, 33, 34, 35, 123]
    | 48, 26 => some [0, 2, 5, 12, 123]
    | 49, 5 => some [0, 2, 9, 10, 11, 49]
    | 49, 18 => some [0, 2, 4, 9, 10, 11, 49]
    | 50, 4 => some [0, 3, 4, 13, 14, 15, 88]
    | 50, 13 => some [0, 3, 4, 5, 7, 13, 14, 15, 39, 40, 41, 88]
    | 50, 20 => some [0, 3, 4, 5, 7, 13, 14, 15, 85, 88]
    | 51, 7 => some [0, 2, 3, 4, 10, 22, 23, 24, 112]
    | 51, 17 => some [0, 2, 4, 7, 112]
    | 53, 3 => some [0, 3, 13, 14, 84]
    | 53, 13 => some [0, 3, 6, 7, 13, 14, 68, 69, 84]
    | 54, 10 => some [7, 25, 32, 33, 34, 48, 49]
    | 55, 7 => some [7, 8, 20, 27, 29, 30, 45, 46]
    | 56, 8 => some [0, 5, 6, 7, 8, 71]
    | 56, 16 => some [0, 5, 6, 7, 8, 14, 68, 71]
    | 56, 18 => some [0, 5, 6, 7, 8, 14, 68, 71]
    | 57, 2 => some [0, 3, 82]
    | 57, 6 => some [0, 3, 4, 5, 27, 30, 38, 82]
    | 57, 11 => some [3, 6, 7, 30, 38, 82]
    | 57, 15 => some [3, 6, 7, 8, 30, 38, 82]
    | 57, 19 => some [3, 6, 7, 8, 30, 38, 71, 82]
    | 58, 3 => some [0, 2, 3, 20, 21, 33]
    | 61, 3 => some [0, 4, 5, 8, 10, 11, 64, 65]
    | 62, 2 => some [0, 1, 7, 23, 24, 25]
    | 64, 3 => some [0, 3, 6, 7, 8, 19]
    | 65, 3 => some [0, 3, 6, 7, 8, 19]
    | 71, 5 => some [0, 5, 6, 7, 8, 9, 25, 26, 128, 129]
    | 71, 10 => some [0, 5, 6, 7, 8, 9, 10, 25, 26, 35, 36, 128, 129]
    | 71, 17 => some [0, 5, 6, 7, 8, 9, 10, 25, 26, 66, 70, 83, 128, 129]
    | 71, 20 => some [0, 5, 6, 7, 8, 9, 25, 26, 66, 83, 125, 128, 129]
    | 71, 21 => some [0, 5, 6, 7, 8, 9, 25, 26, 66, 83, 113, 125, 128, 129]
    | 78, 4 => some [0, 3, 4, 8, 9, 10, 35]
    | 78, 10 => some [0, 3, 4, 7, 8, 9, 10, 32, 35]
    | 80, 2 => some [0, 2, 25]
    | 80, 5 => some [0, 3, 4, 25]
    | 81, 2 => some [0, 2, 25]
    | 81, 5 => some [0, 3, 4, 25]
    | 83, 2 => some [0, 1, 4, 7, 8, 19, 20]
    | 84, 3 => some [0, 5, 8, 10, 11, 43, 44]
    | 88, 3 => some [0, 5, 7, 8, 43, 44]
    | 91, 4 => some [0, 1, 6, 7, 12, 13, 14, 62, 63]
    | 91, 13 => some [4, 5, 6, 7, 24, 36, 37, 38, 62, 63]
    | 92, 3 => some [0, 1, 5, 11, 12, 13, 56, 57]
    | 92, 11 => some [4, 5, 8, 22, 28, 29, 30, 56, 57]
    | 94, 2 => some [0, 1, 4, 7, 8, 19, 20]
    | 96, 2 => some [0, 1, 4, 7, 8, 19, 20]
    | 98, 3 => some [0, 1, 5, 6, 10, 11, 12, 42, 43]
    | 99, 3 => some [0, 1, 5, 6, 9, 10, 11, 40, 41]
    | _, _ => none
  len := fun f => match f with
    | 3 => 70
    | 4 => 148
    | 5 => 66
    | 6 => 150
    | 7 => 76
    | 8 => 102
    | 9 => 37
    | 10 => 21
    | 11 => 35
    | 12 => 32
    | 13 => 55
    | 14 => 42
    | 15 => 46
    | 16 => 32
    | 17 => 28
    | 18 => 40
    | 19 => 3
    | 20 => 14
    | 21 => 22
    | 22 => 36
    | 23 => 46
    | 24 => 9
    | 25 => 6
    | 26 => 33
    | 27 => 34
    | 28 => 9
    | 29 => 19
    | 30 => 28
    | 31 => 25
    | 32 => 32
    | 33 => 58
    | 34 => 129
    | 35 => 16
    | 36 => 52
    | 37 => 115
    | 38 => 28
    | 39 => 11
    | 40 => 73
    | 41 => 40
    | 42 => 63
    | 43 => 55
    | 44 => 26
    | 45 => 48
    | 46 => 28
    | 47 => 13
    | 48 => 124
    | 49 => 50
    | 50 => 89
    | 51 => 113
    | 52 => 7
    | 53 => 85
    | 54 => 50
    | 55 => 47
    | 56 => 72
    | 57 => 83
    | 58 => 34
    | 59 => 66
    | 60 => 25
    | 61 => 66
    | 62 => 26
    | 63 => 18
    | 64 => 20
    | 65 => 20
    | 66 => 9
    | 67 => 18
    | 68 => 6
    | 69 => 11
    | 70 => 7
    | 71 => 130
    | 72 => 17
    | 73 => 6
    | 74 => 14
    | 75 => 18
    | 76 => 7
    | 77 => 7
    | 78 => 36
    | 79 => 10
    | 80 => 26
    | 81 => 26
    | 82 => 11
    | 83 => 21
    | 84 => 45
    | 85 => 2
    | 86 => 2
    | 87 => 10
    | 88 => 45
    | 89 => 2
    | 90 => 2
    | 91 => 64
    | 92 => 58
    | 93 => 18
    | 94 => 21
    | 95 => 27
    | 96 => 21
    | 97 => 10
    | 98 => 44
    | 99 => 42
    | _ => 0

end Go.Proofs.Ytjhfbmhblpjigaa.Med
end
section
set_option linter.unusedVariables false
set_option linter.unusedSimpArgs false
namespace Go.Proofs.Ytjhfbmhblpjigaa.Med
open Go Go.Abs Go.Proofs
set_option linter.unusedVariables false
theorem hM : Try.prog.follows .mixedOrders = true := by kernel_rfl
section
set_option maxRecDepth 100000
theorem cl66a (cap : Nat) (R : Type) (k : V → List V → Option R) : runK Try.prog H noT noL 66 [.f (.lit (.slice none 0 cap))] k = k (.own [.int .u8] []) [.undef] := by kernel_rfl
theorem cl66b (a : Addr) (cap : Nat) (R : Type) (k : V → List V → Option R) : runK Try.prog H noT noL 66 [.f (.lit (.slice (some a) 0 cap))] k = k (.own [.int .u8] []) [.undef] := by kernel_rfl
theorem cl66c (r : List F) (rs : Abs.Rows) (R : Type) (k : V → List V → Option R) : runK Try.prog H noT noL 66 [.bor [.int .u8] (r :: rs)] k = bif decide (0 + (r :: rs).length ≤ rowMax) then k (.own [.int .u8] (r :: rs)) [.undef] else none := by kernel_rfl
end
theorem clone66 (rows : Abs.Rows) (h : lenOk rows = true) : FnOk Try.prog 66 [.bor [.int .u8] rows] (.own [.int .u8] rows) [.undef] := by
  refine clone_ok (fun cap => fnOk_runK (tbl := noT) (lt := noL) (H := H) noT_ok hM noL_ok (cl66a cap)) (fun a cap => fnOk_runK (tbl := noT) (lt := noL) (H := H) noT_ok hM noL_ok (cl66b a cap)) (fun r rs hl => fnOk_runK (tbl := noT) (lt := noL) (H := H) noT_ok hM noL_ok fun R k => ?_) rows h
  rw [cl66c r rs R k, show decide (0 + (r :: rs).length ≤ rowMax) = true from by rw [Nat.zero_add]; exact hl]
  rfl
theorem idx100 (s : ByteArray) (c : Int) : FnOk Try.prog 100 [.f (.lit (.string s)), .f (.lit (.int .u8 c))] (vInt .i64 (idxByte s c)) [.undef, .undef] :=
  idx_ok (fn := Try.f100) Try.func100 (by kernel_rfl) (by kernel_rfl) (by kernel_rfl) (by kernel_rfl) s c
def T0 (_ : Nat) : Tbl := addT 100 (brIdx 100 (addT 66 (brClone [.int .u8] 66 noT) noT)) (addT 66 (brClone [.int .u8] 66 noT) noT)
def L0 (_ : Nat) : LTbl := noL
theorem okT0 (m : Nat) : TblOk Try.prog (T0 m) := brIdx_ok (brClone_ok noT_ok clone66) idx100
theorem okL0 (m : Nat) : LTOk Try.prog H (L0 m) := noL_ok
/-- hookflash/flashmake.Below -/
def Fn93 {R : Type} (m : Nat) : Int → Int → (Int → Option R) → Option R := match m with
  | 0 => fun _ _ _ => none
  | m + 1 => fun i14 i15 k =>
  bif decide (i15 < (1 : Int)) then (k ((0 : Int))) else
  (bif decide (i15 ≠ (0 : Int)) then (bif decide (Int.tmod i14 i15 < (0 : Int)) then (k (IntKind.wrap IntKind.i64 (Int.tmod i14 i15 + i15))) else
  (k (Int.tmod i14 i15))) else
  (none))
def brFn93 (m : Nat) (T : Tbl) (R : Type) (vs : List V) (k : V → List V → Option R) : Option R := match vs with
  | [V.f (F.lit (Value.int IntKind.i64 i14)), V.f (F.lit (Value.int IntKind.i64 i15))] => Fn93 m i14 i15 (fun i16 => k (V.f (F.lit (Value.int IntKind.i64 i16))) [V.undef, V.undef])
  | _ => T R 93 vs k
set_option maxRecDepth 100000 in
theorem evFn93 (m : Nat) (R : Type) (i14 : Int) (i15 : Int) (k : V → List V → Option R) : runK Try.prog H (T0 m) (L0 m) 93 [V.f (F.lit (Value.int IntKind.i64 i14)), V.f (F.lit (Value.int IntKind.i64 i15))] k = Fn93 (m + 1) i14 i15 (fun i16 => k (V.f (F.lit (Value.int IntKind.i64 i16))) [V.undef, V.undef]) := by kernel_rfl
def T1 (m : Nat) : Tbl := addT 93 (brFn93 m (T0 m)) (T0 m)
theorem okT1 (m : Nat) : TblOk Try.prog (T1 m) := addT_ok (okT0 m) fun R vs k x h => by
  unfold brFn93 at h
  split at h
  · cases m with
    | zero => cases h
    | succ m => exact runK_some (okT0 m) hM (okL0 m) ((evFn93 m R _ _ k).trans h)
  · exact okT0 m R 93 _ k x h

/-- (*hookflash/flashmake.Stream).Next -/
def Fn59 {R : Type} (m : Nat) : Abs.Rows → Int → Int → (Int → Int → Option R) → Option R := match m with
  | 0 => fun _ _ _ _ => none
  | m + 1 => fun r11 i12 i13 k =>
  bif (↑(List.length r11) : Int) == (0 : Int) then (Fn93 m (IntKind.wrap IntKind.i64 (IntKind.wrap IntKind.i64 (i12 + (1 : Int)) * (7919 : Int))) i13 (fun i17 => k i17 (IntKind.wrap IntKind.i64 (i12 + (1 : Int))))) else
  (bif decide ((↑(List.length r11) : Int) ≠ (0 : Int)) then (bif decide ((↑(List.length r11) : Int) ≠ (0 : Int)) then (bif decide ((0 : Int) ≤ Int.tmod (IntKind.wrap IntKind.i64 (IntKind.wrap IntKind.i64 (i12 + (1 : Int)) - (1 : Int))) (↑(List.length r11) : Int) ∧ Int.tmod (IntKind.wrap IntKind.i64 (IntKind.wrap IntKind.i64 (i12 + (1 : Int)) - (1 : Int))) (↑(List.length r11) : Int) < (↑(List.length r11) : Int)) then (Fn93 m (fI r11 (Int.toNat (Int.tmod (IntKind.wrap IntKind.i64 (IntKind.wrap IntKind.i64 (i12 + (1 : Int)) - (1 : Int))) (↑(List.length r11) : Int))) (0 : Nat)) ((1073741824 : Int)) (fun i18 => Fn93 m (IntKind.wrap IntKind.i64 (i18 + IntKind.wrap IntKind.i64 (IntKind.wrap IntKind.i64 (Int.tdiv (IntKind.wrap IntKind.i64 (IntKind.wrap IntKind.i64 (i12 + (1 : Int)) - (1 : Int))) (↑(List.length r11) : Int)) * IntKind.wrap IntKind.i64 ((7919 : Int) + Int.tmod (IntKind.wrap IntKind.i64 (IntKind.wrap IntKind.i64 (i12 + (1 : Int)) - (1 : Int))) (↑(List.length r11) : Int))))) i13 (fun i19 => letV (IntKind.wrap IntKind.i64 (i18 + IntKind.wrap IntKind.i64 (IntKind.wrap IntKind.i64 (Int.tdiv (IntKind.wrap IntKind.i64 (IntKind.wrap IntKind.i64 (i12 + (1 : Int)) - (1 : Int))) (↑(List.length r11) : Int)) * IntKind.wrap IntKind.i64 ((7919 : Int) + Int.tmod (IntKind.wrap IntKind.i64 (IntKind.wrap IntKind.i64 (i12 + (1 : Int)) - (1 : Int))) (↑(List.length r11) : Int))))) (fun i20 => letV (IntKind.wrap IntKind.i64 (IntKind.wrap IntKind.i64 (Int.tdiv (IntKind.wrap IntKind.i64 (IntKind.wrap IntKind.i64 (i12 + (1 : Int)) - (1 : Int))) (↑(List.length r11) : Int)) * IntKind.wrap IntKind.i64 ((7919 : Int) + Int.tmod (IntKind.wrap IntKind.i64 (IntKind.wrap IntKind.i64 (i12 + (1 : Int)) - (1 : Int))) (↑(List.length r11) : Int)))) (fun i21 => k i19 (IntKind.wrap IntKind.i64 (i12 + (1 : Int)))))))) else
  (none)) else
  (none)) else
  (none))
def brFn59 (m : Nat) (T : Tbl) (R : Type) (vs : List V) (k : V → List V → Option R) : Option R := match vs with
  | [V.obj [V.f (F.lst [LT.int IntKind.i64] r11), V.f (F.lit (Value.int IntKind.i64 i12))], V.f (F.lit (Value.int IntKind.i64 i13))] => Fn59 m r11 i12 i13 (fun i22 i23 => k (V.f (F.lit (Value.int IntKind.i64 i22))) [V.obj [V.f (F.lst [LT.int IntKind.i64] r11), V.f (F.lit (Value.int IntKind.i64 i23))], V.undef])
  | _ => T R 59 vs k
set_option maxRecDepth 100000 in
theorem evFn59 (m : Nat) (R : Type) (r11 : Abs.Rows) (i12 : Int) (i13 : Int) (k : V → List V → Option R) : runK Try.prog H (T1 m) (L0 m) 59 [V.obj [V.f (F.lst [LT.int IntKind.i64] r11), V.f (F.lit (Value.int IntKind.i64 i12))], V.f (F.lit (Value.int IntKind.i64 i13))] k = Fn59 (m + 1) r11 i12 i13 (fun i22 i23 => k (V.f (F.lit (Value.int IntKind.i64 i22))) [V.obj [V.f (F.lst [LT.int IntKind.i64] r11), V.f (F.lit (Value.int IntKind.i64 i23))], V.undef]) := by kernel_rfl
def T2 (m : Nat) : Tbl := addT 59 (brFn59 m (T1 m)) (T1 m)
theorem okT2 (m : Nat) : TblOk Try.prog (T2 m) := addT_ok (okT1 m) fun R vs k x h => by
  unfold brFn59 at h
  split at h
  · cases m with
    | zero => cases h
    | succ m => exact runK_some (okT1 m) hM (okL0 m) ((evFn59 m R _ _ _ k).trans h)
  · exact okT1 m R 59 _ k x h

/-- (*hookflash/flashmake.Stream).Pick -/
def Fn20 {R : Type} (m : Nat) : Abs.Rows → Int → Abs.Rows → (Int → Int → Option R) → Option R := match m with
  | 0 => fun _ _ _ _ => none
  | m + 1 => fun r8 i9 r10 k =>
  Fn59 m r8 i9 ((↑(List.length r10) : Int)) (fun i24 i25 => bif decide ((0 : Int) ≤ i24 ∧ i24 < (↑(List.length r10) : Int)) then (k (fI r10 (Int.toNat i24) (0 : Nat)) i25) else
  (none))
def brFn20 (m : Nat) (T : Tbl) (R : Type) (vs : List V) (k : V → List V → Option R) : Option R := match vs with
  | [V.obj [V.f (F.lst [LT.int IntKind.i64] r8), V.f (F.lit (Value.int IntKind.i64 i9))], V.bor [LT.int IntKind.i64] r10] => Fn20 m r8 i9 r10 (fun i26 i27 => k (V.f (F.lit (Value.int IntKind.i64 i26))) [V.obj [V.f (F.lst [LT.int IntKind.i64] r8), V.f (F.lit (Value.int IntKind.i64 i27))], V.undef])
  | _ => T R 20 vs k
set_option maxRecDepth 100000 in
theorem evFn20 (m : Nat) (R : Type) (r8 : Abs.Rows) (i9 : Int) (r10 : Abs.Rows) (k : V → List V → Option R) : runK Try.prog H (T2 m) (L0 m) 20 [V.obj [V.f (F.lst [LT.int IntKind.i64] r8), V.f (F.lit (Value.int IntKind.i64 i9))], V.bor [LT.int IntKind.i64] r10] k = Fn20 (m + 1) r8 i9 r10 (fun i26 i27 => k (V.f (F.lit (Value.int IntKind.i64 i26))) [V.obj [V.f (F.lst [LT.int IntKind.i64] r8), V.f (F.lit (Value.int IntKind.i64 i27))], V.undef]) := by kernel_rfl
def T3 (m : Nat) : Tbl := addT 20 (brFn20 m (T2 m)) (T2 m)
theorem okT3 (m : Nat) : TblOk Try.prog (T3 m) := addT_ok (okT2 m) fun R vs k x h => by
  unfold brFn20 at h
  split at h
  · cases m with
    | zero => cases h
    | succ m => exact runK_some (okT2 m) hM (okL0 m) ((evFn20 m R _ _ _ k).trans h)
  · exact okT2 m R 20 _ k x h

/-- (*hookflash/flashmake.Stream).Range -/
def Fn21 {R : Type} (m : Nat) : Abs.Rows → Int → Int → Int → (Int → Int → Option R) → Option R := match m with
  | 0 => fun _ _ _ _ _ => none
  | m + 1 => fun r32 i33 i34 i35 k =>
  bif decide (i35 < i34) then (k i34 i33) else
  (Fn59 m r32 i33 (IntKind.wrap IntKind.i64 (IntKind.wrap IntKind.i64 (i35 - i34) + (1 : Int))) (fun i36 i37 => k (IntKind.wrap IntKind.i64 (i34 + i36)) i37))
def brFn21 (m : Nat) (T : Tbl) (R : Type) (vs : List V) (k : V → List V → Option R) : Option R := match vs with
  | [V.obj [V.f (F.lst [LT.int IntKind.i64] r32), V.f (F.lit (Value.int IntKind.i64 i33))], V.f (F.lit (Value.int IntKind.i64 i34)), V.f (F.lit (Value.int IntKind.i64 i35))] => Fn21 m r32 i33 i34 i35 (fun i38 i39 => k (V.f (F.lit (Value.int IntKind.i64 i38))) [V.obj [V.f (F.lst [LT.int IntKind.i64] r32), V.f (F.lit (Value.int IntKind.i64 i39))], V.undef, V.undef])
  | _ => T R 21 vs k
set_option maxRecDepth 100000 in
theorem evFn21 (m : Nat) (R : Type) (r32 : Abs.Rows) (i33 : Int) (i34 : Int) (i35 : Int) (k : V → List V → Option R) : runK Try.prog H (T3 m) (L0 m) 21 [V.obj [V.f (F.lst [LT.int IntKind.i64] r32), V.f (F.lit (Value.int IntKind.i64 i33))], V.f (F.lit (Value.int IntKind.i64 i34)), V.f (F.lit (Value.int IntKind.i64 i35))] k = Fn21 (m + 1) r32 i33 i34 i35 (fun i38 i39 => k (V.f (F.lit (Value.int IntKind.i64 i38))) [V.obj [V.f (F.lst [LT.int IntKind.i64] r32), V.f (F.lit (Value.int IntKind.i64 i39))], V.undef, V.undef]) := by kernel_rfl
def T4 (m : Nat) : Tbl := addT 21 (brFn21 m (T3 m)) (T3 m)
theorem okT4 (m : Nat) : TblOk Try.prog (T4 m) := addT_ok (okT3 m) fun R vs k x h => by
  unfold brFn21 at h
  split at h
  · cases m with
    | zero => cases h
    | succ m => exact runK_some (okT3 m) hM (okL0 m) ((evFn21 m R _ _ _ _ k).trans h)
  · exact okT3 m R 21 _ k x h

/-- a round of a loop of (*hookflash/flashmake.Stream).RightArrivals -/
def Lp71_10_step {R : Type} (m : Nat) (kx0 : Abs.Rows → Int → Int → Option R) (r57 : Abs.Rows) (i58 : Int) (i59 : Int) (i60 : Int) (i61 : Int) (i62 : Int) (i63 : Int) (i64 : Int) (i65 : Int) (b66 : Bool) (i68 : Int) (i69 : Int) (i70 : Int) (r72 : Abs.Rows) (REC : Abs.Rows → Int → Int → Option R) (r67 : Abs.Rows) (i71 : Int) (i73 : Int) : Option R :=
  bif decide (i71 < i70) then (Fn21 m r72 i73 ((0 : Int)) ((255 : Int)) (fun i74 i75 => bif decide (List.length r67 + List.length [[F.lit (Value.int IntKind.u8 (IntKind.wrap IntKind.u8 i74))]] ≤ rowMax) then (letV (r67 ++ [[F.lit (Value.int IntKind.u8 (IntKind.wrap IntKind.u8 i74))]]) (fun r76 => REC r76 (IntKind.wrap IntKind.i64 (i71 + (1 : Int))) i75)) else
  (none))) else
  (kx0 r67 i71 i73)
def Lp71_10 {R : Type} (m : Nat) (kx0 : Abs.Rows → Int → Int → Option R) (r57 : Abs.Rows) (i58 : Int) (i59 : Int) (i60 : Int) (i61 : Int) (i62 : Int) (i63 : Int) (i64 : Int) (i65 : Int) (b66 : Bool) (i68 : Int) (i69 : Int) (i70 : Int) (r72 : Abs.Rows) : Nat → Abs.Rows → Int → Int → Option R
  | 0, _, _, _ => none
  | n + 1, r67, i71, i73 => Lp71_10_step m kx0 r57 i58 i59 i60 i61 i62 i63 i64 i65 b66 i68 i69 i70 r72 (Lp71_10 m kx0 r57 i58 i59 i60 i61 i62 i63 i64 i65 b66 i68 i69 i70 r72 n) r67 i71 i73
def ELp71_10 (m : Nat) (R : Type) : Nat → List V → (Ex → List V → Option R) → Option R
  | 0, _, _ => none
  | n + 1, vs, k => match vs with
    | [V.ref (128 : Nat) (0 : Nat), V.own [LT.int IntKind.i64, LT.int IntKind.i64, LT.int IntKind.i64, LT.int IntKind.i64, LT.int IntKind.i64, LT.bool, LT.lst [LT.int IntKind.u8]] r57, V.f (F.lit (Value.int IntKind.i64 i58)), V.f (F.lit (Value.int IntKind.i64 i59)), V.f (F.lit (Value.int IntKind.i64 i60)), V.f (F.lit (Value.int IntKind.i64 i61)), V.obj [V.f (F.lit (Value.int IntKind.i64 i62)), V.f (F.lit (Value.int IntKind.i64 i63)), V.f (F.lit (Value.int IntKind.i64 i64)), V.f (F.lit (Value.int IntKind.i64 i65)), V.f (F.lit (Value.bool b66)), V.own [LT.int IntKind.u8] r67], V.f (F.lit (Value.int IntKind.i64 i68)), V.f (F.lit (Value.int IntKind.i64 i69)), V.f (F.lit (Value.int IntKind.i64 i70)), V.f (F.lit (Value.int IntKind.i64 i71)), V.obj [V.f (F.lst [LT.int IntKind.i64] r72), V.f (F.lit (Value.int IntKind.i64 i73))], V.undef] => Lp71_10_step m (fun r77 i78 i79 => k (Ex.exit (2 : Nat)) [V.ref (128 : Nat) (0 : Nat), V.own [LT.int IntKind.i64, LT.int IntKind.i64, LT.int IntKind.i64, LT.int IntKind.i64, LT.int IntKind.i64, LT.bool, LT.lst [LT.int IntKind.u8]] r57, V.f (F.lit (Value.int IntKind.i64 i58)), V.f (F.lit (Value.int IntKind.i64 i59)), V.f (F.lit (Value.int IntKind.i64 i60)), V.f (F.lit (Value.int IntKind.i64 i61)), V.obj [V.f (F.lit (Value.int IntKind.i64 i62)), V.f (F.lit (Value.int IntKind.i64 i63)), V.f (F.lit (Value.int IntKind.i64 i64)), V.f (F.lit (Value.int IntKind.i64 i65)), V.f (F.lit (Value.bool b66)), V.own [LT.int IntKind.u8] r77], V.f (F.lit (Value.int IntKind.i64 i68)), V.f (F.lit (Value.int IntKind.i64 i69)), V.f (F.lit (Value.int IntKind.i64 i70)), V.f (F.lit (Value.int IntKind.i64 i78)), V.obj [V.f (F.lst [LT.int IntKind.i64] r72), V.f (F.lit (Value.int IntKind.i64 i79))], V.undef]) r57 i58 i59 i60 i61 i62 i63 i64 i65 b66 i68 i69 i70 r72 (fun r67 i71 i73 => ELp71_10 m R n [V.ref (128 : Nat) (0 : Nat), V.own [LT.int IntKind.i64, LT.int IntKind.i64, LT.int IntKind.i64, LT.int IntKind.i64, LT.int IntKind.i64, LT.bool, LT.lst [LT.int IntKind.u8]] r57, V.f (F.lit (Value.int IntKind.i64 i58)), V.f (F.lit (Value.int IntKind.i64 i59)), V.f (F.lit (Value.int IntKind.i64 i60)), V.f (F.lit (Value.int IntKind.i64 i61)), V.obj [V.f (F.lit (Value.int IntKind.i64 i62)), V.f (F.lit (Value.int IntKind.i64 i63)), V.f (F.lit (Value.int IntKind.i64 i64)), V.f (F.lit (Value.int IntKind.i64 i65)), V.f (F.lit (Value.bool b66)), V.own [LT.int IntKind.u8] r67], V.f (F.lit (Value.int IntKind.i64 i68)), V.f (F.lit (Value.int IntKind.i64 i69)), V.f (F.lit (Value.int IntKind.i64 i70)), V.f (F.lit (Value.int IntKind.i64 i71)), V.obj [V.f (F.lst [LT.int IntKind.i64] r72), V.f (F.lit (Value.int IntKind.i64 i73))], V.undef] k) r67 i71 i73
    | _ => none
def brLp71_10 (m : Nat) (L : LTbl) (R : Type) (vs : List V) (k : Ex → List V → Option R) : Option R := match vs with
  | [V.ref (128 : Nat) (0 : Nat), V.own [LT.int IntKind.i64, LT.int IntKind.i64, LT.int IntKind.i64, LT.int IntKind.i64, LT.int IntKind.i64, LT.bool, LT.lst [LT.int IntKind.u8]] r57, V.f (F.lit (Value.int IntKind.i64 i58)), V.f (F.lit (Value.int IntKind.i64 i59)), V.f (F.lit (Value.int IntKind.i64 i60)), V.f (F.lit (Value.int IntKind.i64 i61)), V.obj [V.f (F.lit (Value.int IntKind.i64 i62)), V.f (F.lit (Value.int IntKind.i64 i63)), V.f (F.lit (Value.int IntKind.i64 i64)), V.f (F.lit (Value.int IntKind.i64 i65)), V.f (F.lit (Value.bool b66)), V.own [LT.int IntKind.u8] r67], V.f (F.lit (Value.int IntKind.i64 i68)), V.f (F.lit (Value.int IntKind.i64 i69)), V.f (F.lit (Value.int IntKind.i64 i70)), V.f (F.lit (Value.int IntKind.i64 i71)), V.obj [V.f (F.lst [LT.int IntKind.i64] r72), V.f (F.lit (Value.int IntKind.i64 i73))], V.undef] => Lp71_10 m (fun r77 i78 i79 => k (Ex.exit (2 : Nat)) [V.ref (128 : Nat) (0 : Nat), V.own [LT.int IntKind.i64, LT.int IntKind.i64, LT.int IntKind.i64, LT.int IntKind.i64, LT.int IntKind.i64, LT.bool, LT.lst [LT.int IntKind.u8]] r57, V.f (F.lit (Value.int IntKind.i64 i58)), V.f (F.lit (Value.int IntKind.i64 i59)), V.f (F.lit (Value.int IntKind.i64 i60)), V.f (F.lit (Value.int IntKind.i64 i61)), V.obj [V.f (F.lit (Value.int IntKind.i64 i62)), V.f (F.lit (Value.int IntKind.i64 i63)), V.f (F.lit (Value.int IntKind.i64 i64)), V.f (F.lit (Value.int IntKind.i64 i65)), V.f (F.lit (Value.bool b66)), V.own [LT.int IntKind.u8] r77], V.f (F.lit (Value.int IntKind.i64 i68)), V.f (F.lit (Value.int IntKind.i64 i69)), V.f (F.lit (Value.int IntKind.i64 i70)), V.f (F.lit (Value.int IntKind.i64 i78)), V.obj [V.f (F.lst [LT.int IntKind.i64] r72), V.f (F.lit (Value.int IntKind.i64 i79))], V.undef]) r57 i58 i59 i60 i61 i62 i63 i64 i65 b66 i68 i69 i70 r72 m r67 i71 i73
  | _ => L R 71 10 vs k
set_option maxRecDepth 100000 in
theorem stLp71_10 (m n : Nat) (R : Type) (r57 : Abs.Rows) (i58 : Int) (i59 : Int) (i60 : Int) (i61 : Int) (i62 : Int) (i63 : Int) (i64 : Int) (i65 : Int) (b66 : Bool) (r67 : Abs.Rows) (i68 : Int) (i69 : Int) (i70 : Int) (i71 : Int) (r72 : Abs.Rows) (i73 : Int) (k : Ex → List V → Option R) : codeK Try.prog H (T4 m) 71 (L0 m) 11 (loopBody Try.prog 71 10) (mkEnv [0, 5, 6, 7, 8, 9, 10, 25, 26, 35, 36, 128, 129] [V.ref (128 : Nat) (0 : Nat), V.own [LT.int IntKind.i64, LT.int IntKind.i64, LT.int IntKind.i64, LT.int IntKind.i64, LT.int IntKind.i64, LT.bool, LT.lst [LT.int IntKind.u8]] r57, V.f (F.lit (Value.int IntKind.i64 i58)), V.f (F.lit (Value.int IntKind.i64 i59)), V.f (F.lit (Value.int IntKind.i64 i60)), V.f (F.lit (Value.int IntKind.i64 i61)), V.obj [V.f (F.lit (Value.int IntKind.i64 i62)), V.f (F.lit (Value.int IntKind.i64 i63)), V.f (F.lit (Value.int IntKind.i64 i64)), V.f (F.lit (Value.int IntKind.i64 i65)), V.f (F.lit (Value.bool b66)), V.own [LT.int IntKind.u8] r67], V.f (F.lit (Value.int IntKind.i64 i68)), V.f (F.lit (Value.int IntKind.i64 i69)), V.f (F.lit (Value.int IntKind.i64 i70)), V.f (F.lit (Value.int IntKind.i64 i71)), V.obj [V.f (F.lst [LT.int IntKind.i64] r72), V.f (F.lit (Value.int IntKind.i64 i73))], V.undef] 0 (H.len 71)) (fun e env' => match e with | .normal => ELp71_10 m R n (vals [0, 5, 6, 7, 8, 9, 10, 25, 26, 35, 36, 128, 129] env') k | e => k e (vals [0, 5, 6, 7, 8, 9, 10, 25, 26, 35, 36, 128, 129] env')) = Lp71_10_step m (fun r77 i78 i79 => k (Ex.exit (2 : Nat)) [V.ref (128 : Nat) (0 : Nat), V.own [LT.int IntKind.i64, LT.int IntKind.i64, LT.int IntKind.i64, LT.int IntKind.i64, LT.int IntKind.i64, LT.bool, LT.lst [LT.int IntKind.u8]] r57, V.f (F.lit (Value.int IntKind.i64 i58)), V.f (F.lit (Value.int IntKind.i64 i59)), V.f (F.lit (Value.int IntKind.i64 i60)), V.f (F.lit (Value.int IntKind.i64 i61)), V.obj [V.f (F.lit (Value.int IntKind.i64 i62)), V.f (F.lit (Value.int IntKind.i64 i63)), V.f (F.lit (Value.int IntKind.i64 i64)), V.f (F.lit (Value.int IntKind.i64 i65)), V.f (F.lit (Value.bool b66)), V.own [LT.int IntKind.u8] r77], V.f (F.lit (Value.int IntKind.i64 i68)), V.f (F.lit (Value.int IntKind.i64 i69)), V.f (F.lit (Value.int IntKind.i64 i70)), V.f (F.lit (Value.int IntKind.i64 i78)), V.obj [V.f (F.lst [LT.int IntKind.i64] r72), V.f (F.lit (Value.int IntKind.i64 i79))], V.undef]) r57 i58 i59 i60 i61 i62 i63 i64 i65 b66 i68 i69 i70 r72 (fun r67 i71 i73 => ELp71_10 m R n [V.ref (128 : Nat) (0 : Nat), V.own [LT.int IntKind.i64, LT.int IntKind.i64, LT.int IntKind.i64, LT.int IntKind.i64, LT.int IntKind.i64, LT.bool, LT.lst [LT.int IntKind.u8]] r57, V.f (F.lit (Value.int IntKind.i64 i58)), V.f (F.lit (Value.int IntKind.i64 i59)), V.f (F.lit (Value.int IntKind.i64 i60)), V.f (F.lit (Value.int IntKind.i64 i61)), V.obj [V.f (F.lit (Value.int IntKind.i64 i62)), V.f (F.lit (Value.int IntKind.i64 i63)), V.f (F.lit (Value.int IntKind.i64 i64)), V.f (F.lit (Value.int IntKind.i64 i65)), V.f (F.lit (Value.bool b66)), V.own [LT.int IntKind.u8] r67], V.f (F.lit (Value.int IntKind.i64 i68)), V.f (F.lit (Value.int IntKind.i64 i69)), V.f (F.lit (Value.int IntKind.i64 i70)), V.f (F.lit (Value.int IntKind.i64 i71)), V.obj [V.f (F.lst [LT.int IntKind.i64] r72), V.f (F.lit (Value.int IntKind.i64 i73))], V.undef] k) r67 i71 i73 := by kernel_rfl
theorem eqLp71_10 (m : Nat) (R : Type) (r57 : Abs.Rows) (i58 : Int) (i59 : Int) (i60 : Int) (i61 : Int) (i62 : Int) (i63 : Int) (i64 : Int) (i65 : Int) (b66 : Bool) (i68 : Int) (i69 : Int) (i70 : Int) (r72 : Abs.Rows) (k : Ex → List V → Option R) : ∀ (n : Nat) (r67 : Abs.Rows) (i71 : Int) (i73 : Int), ELp71_10 m R n [V.ref (128 : Nat) (0 : Nat), V.own [LT.int IntKind.i64, LT.int IntKind.i64, LT.int IntKind.i64, LT.int IntKind.i64, LT.int IntKind.i64, LT.bool, LT.lst [LT.int IntKind.u8]] r57, V.f (F.lit (Value.int IntKind.i64 i58)), V.f (F.lit (Value.int IntKind.i64 i59)), V.f (F.lit (Value.int IntKind.i64 i60)), V.f (F.lit (Value.int IntKind.i64 i61)), V.obj [V.f (F.lit (Value.int IntKind.i64 i62)), V.f (F.lit (Value.int IntKind.i64 i63)), V.f (F.lit (Value.int IntKind.i64 i64)), V.f (F.lit (Value.int IntKind.i64 i65)), V.f (F.lit (Value.bool b66)), V.own [LT.int IntKind.u8] r67], V.f (F.lit (Value.int IntKind.i64 i68)), V.f (F.lit (Value.int IntKind.i64 i69)), V.f (F.lit (Value.int IntKind.i64 i70)), V.f (F.lit (Value.int IntKind.i64 i71)), V.obj [V.f (F.lst [LT.int IntKind.i64] r72), V.f (F.lit (Value.int IntKind.i64 i73))], V.undef] k = Lp71_10 m (fun r77 i78 i79 => k (Ex.exit (2 : Nat)) [V.ref (128 : Nat) (0 : Nat), V.own [LT.int IntKind.i64, LT.int IntKind.i64, LT.int IntKind.i64, LT.int IntKind.i64, LT.int IntKind.i64, LT.bool, LT.lst [LT.int IntKind.u8]] r57, V.f (F.lit (Value.int IntKind.i64 i58)), V.f (F.lit (Value.int IntKind.i64 i59)), V.f (F.lit (Value.int IntKind.i64 i60)), V.f (F.lit (Value.int IntKind.i64 i61)), V.obj [V.f (F.lit (Value.int IntKind.i64 i62)), V.f (F.lit (Value.int IntKind.i64 i63)), V.f (F.lit (Value.int IntKind.i64 i64)), V.f (F.lit (Value.int IntKind.i64 i65)), V.f (F.lit (Value.bool b66)), V.own [LT.int IntKind.u8] r77], V.f (F.lit (Value.int IntKind.i64 i68)), V.f (F.lit (Value.int IntKind.i64 i69)), V.f (F.lit (Value.int IntKind.i64 i70)), V.f (F.lit (Value.int IntKind.i64 i78)), V.obj [V.f (F.lst [LT.int IntKind.i64] r72), V.f (F.lit (Value.int IntKind.i64 i79))], V.undef]) r57 i58 i59 i60 i61 i62 i63 i64 i65 b66 i68 i69 i70 r72 n r67 i71 i73
  | 0, _, _, _ => rfl
  | n + 1, r67, i71, i73 => by
    simp only [ELp71_10, Lp71_10]
    congr 1
    funext r67 i71 i73
    exact eqLp71_10 m R r57 i58 i59 i60 i61 i62 i63 i64 i65 b66 i68 i69 i70 r72 k n r67 i71 i73
def L1 (m : Nat) : LTbl := addB 71 10 (brLp71_10 m (L0 m)) (L0 m)
theorem okL1 (m : Nat) : LTOk Try.prog H (L1 m) := addB_ok (okT4 m) hM (okL0 m) (l := [0, 5, 6, 7, 8, 9, 10, 25, 26, 35, 36, 128, 129]) (by kernel_rfl) (by kernel_rfl) m (fun R n vs k => ELp71_10 m R n vs k) (fun R vs k => rfl) (fun R n vs k x h => by
      simp only [ELp71_10] at h
      split at h
      · exact (stLp71_10 m n R _ _ _ _ _ _ _ _ _ _ _ _ _ _ _ _ _ k).trans h
      · cases h) fun R vs k x h => by
    unfold brLp71_10 at h
    split at h
    · exact .inl ((eqLp71_10 m R _ _ _ _ _ _ _ _ _ _ _ _ _ _ k m _ _ _).trans h)
    · exact .inr h

/-- (*hookflash/flashmake.Stream).Flip -/
def Fn39 {R : Type} (m : Nat) : Abs.Rows → Int → Int → (Bool → Int → Option R) → Option R := match m with
  | 0 => fun _ _ _ _ => none
  | m + 1 => fun r85 i86 i87 k =>
  Fn59 m r85 i86 i87 (fun i88 i89 => k (i88 == (0 : Int)) i89)
def brFn39 (m : Nat) (T : Tbl) (R : Type) (vs : List V) (k : V → List V → Option R) : Option R := match vs with
  | [V.obj [V.f (F.lst [LT.int IntKind.i64] r85), V.f (F.lit (Value.int IntKind.i64 i86))], V.f (F.lit (Value.int IntKind.i64 i87))] => Fn39 m r85 i86 i87 (fun b90 i91 => k (V.f (F.lit (Value.bool b90))) [V.obj [V.f (F.lst [LT.int IntKind.i64] r85), V.f (F.lit (Value.int IntKind.i64 i91))], V.undef])
  | _ => T R 39 vs k
set_option maxRecDepth 100000 in
theorem evFn39 (m : Nat) (R : Type) (r85 : Abs.Rows) (i86 : Int) (i87 : Int) (k : V → List V → Option R) : runK Try.prog H (T4 m) (L1 m) 39 [V.obj [V.f (F.lst [LT.int IntKind.i64] r85), V.f (F.lit (Value.int IntKind.i64 i86))], V.f (F.lit (Value.int IntKind.i64 i87))] k = Fn39 (m + 1) r85 i86 i87 (fun b90 i91 => k (V.f (F.lit (Value.bool b90))) [V.obj [V.f (F.lst [LT.int IntKind.i64] r85), V.f (F.lit (Value.int IntKind.i64 i91))], V.undef]) := by kernel_rfl
def T5 (m : Nat) : Tbl := addT 39 (brFn39 m (T4 m)) (T4 m)
theorem okT5 (m : Nat) : TblOk Try.prog (T5 m) := addT_ok (okT4 m) fun R vs k x h => by
  unfold brFn39 at h
  split at h
  · cases m with
    | zero => cases h
    | succ m => exact runK_some (okT4 m) hM (okL1 m) ((evFn39 m R _ _ _ k).trans h)
  · exact okT4 m R 39 _ k x h

/-- a rest of (*hookflash/flashmake.Stream).RightArrivals -/
def Jn71_21 {R : Type} (m : Nat) (kx0 : Abs.Rows → Bool → Option R) (r105 : Abs.Rows) (i106 : Int) (i107 : Int) (i108 : Int) (i109 : Int) (i110 : Int) (i111 : Int) (b112 : Bool) (r113 : Abs.Rows) (i114 : Int) : Option R :=
  bif b112 then (bif decide ((0 : Int) ≤ IntKind.wrap IntKind.i64 ((↑(List.length r105) : Int) - (1 : Int)) ∧ IntKind.wrap IntKind.i64 ((↑(List.length r105) : Int) - (1 : Int)) < (↑(List.length r105) : Int)) then (bif decide (List.length r105 + List.length [[F.lit (Value.int IntKind.i64 i108), F.lit (Value.int IntKind.i64 (fI r105 (Int.toNat (IntKind.wrap IntKind.i64 ((↑(List.length r105) : Int) - (1 : Int)))) (1 : Nat))), F.lit (Value.int IntKind.i64 (fI r105 (Int.toNat (IntKind.wrap IntKind.i64 ((↑(List.length r105) : Int) - (1 : Int)))) (2 : Nat))), F.lit (Value.int IntKind.i64 (fI r105 (Int.toNat (IntKind.wrap IntKind.i64 ((↑(List.length r105) : Int) - (1 : Int)))) (3 : Nat))), F.lit (Value.int IntKind.i64 (fI r105 (Int.toNat (IntKind.wrap IntKind.i64 ((↑(List.length r105) : Int) - (1 : Int)))) (4 : Nat))), F.lit (Value.bool (fB r105 (Int.toNat (IntKind.wrap IntKind.i64 ((↑(List.length r105) : Int) - (1 : Int)))) (5 : Nat))), F.lst [LT.int IntKind.u8] (fR r105 (Int.toNat (IntKind.wrap IntKind.i64 ((↑(List.length r105) : Int) - (1 : Int)))) (6 : Nat))]] ≤ rowMax) then (letV (r105 ++ [[F.lit (Value.int IntKind.i64 i108), F.lit (Value.int IntKind.i64 (fI r105 (Int.toNat (IntKind.wrap IntKind.i64 ((↑(List.length r105) : Int) - (1 : Int)))) (1 : Nat))), F.lit (Value.int IntKind.i64 (fI r105 (Int.toNat (IntKind.wrap IntKind.i64 ((↑(List.length r105) : Int) - (1 : Int)))) (2 : Nat))), F.lit (Value.int IntKind.i64 (fI r105 (Int.toNat (IntKind.wrap IntKind.i64 ((↑(List.length r105) : Int) - (1 : Int)))) (3 : Nat))), F.lit (Value.int IntKind.i64 (fI r105 (Int.toNat (IntKind.wrap IntKind.i64 ((↑(List.length r105) : Int) - (1 : Int)))) (4 : Nat))), F.lit (Value.bool (fB r105 (Int.toNat (IntKind.wrap IntKind.i64 ((↑(List.length r105) : Int) - (1 : Int)))) (5 : Nat))), F.lst [LT.int IntKind.u8] (fR r105 (Int.toNat (IntKind.wrap IntKind.i64 ((↑(List.length r105) : Int) - (1 : Int)))) (6 : Nat))]]) (fun r115 => kx0 r115 true)) else
  (none)) else
  (none)) else
  (kx0 r105 false)
def brJn71_21 (m : Nat) (L : LTbl) (R : Type) (vs : List V) (k : Ex → List V → Option R) : Option R := match vs with
  | [V.ref (128 : Nat) (0 : Nat), V.own [LT.int IntKind.i64, LT.int IntKind.i64, LT.int IntKind.i64, LT.int IntKind.i64, LT.int IntKind.i64, LT.bool, LT.lst [LT.int IntKind.u8]] r105, V.f (F.lit (Value.int IntKind.i64 i106)), V.f (F.lit (Value.int IntKind.i64 i107)), V.f (F.lit (Value.int IntKind.i64 i108)), V.f (F.lit (Value.int IntKind.i64 i109)), V.f (F.lit (Value.int IntKind.i64 i110)), V.f (F.lit (Value.int IntKind.i64 i111)), V.undef, V.undef, V.f (F.lit (Value.bool b112)), V.undef, V.obj [V.f (F.lst [LT.int IntKind.i64] r113), V.f (F.lit (Value.int IntKind.i64 i114))], V.undef] => Jn71_21 m (fun r116 b117 => k Ex.normal [V.ref (128 : Nat) (0 : Nat), V.own [LT.int IntKind.i64, LT.int IntKind.i64, LT.int IntKind.i64, LT.int IntKind.i64, LT.int IntKind.i64, LT.bool, LT.lst [LT.int IntKind.u8]] r116, V.f (F.lit (Value.int IntKind.i64 i106)), V.f (F.lit (Value.int IntKind.i64 i107)), V.f (F.lit (Value.int IntKind.i64 i108)), V.f (F.lit (Value.int IntKind.i64 i109)), V.f (F.lit (Value.int IntKind.i64 i110)), V.f (F.lit (Value.int IntKind.i64 i111)), V.undef, V.undef, V.f (F.lit (Value.bool b117)), V.undef, V.obj [V.f (F.lst [LT.int IntKind.i64] r113), V.f (F.lit (Value.int IntKind.i64 i114))], V.undef]) r105 i106 i107 i108 i109 i110 i111 b112 r113 i114
  | _ => L R 71 21 vs k
set_option maxRecDepth 100000 in
theorem evJn71_21 (m : Nat) (R : Type) (r105 : Abs.Rows) (i106 : Int) (i107 : Int) (i108 : Int) (i109 : Int) (i110 : Int) (i111 : Int) (b112 : Bool) (r113 : Abs.Rows) (i114 : Int) (k : Ex → List V → Option R) : codeK Try.prog H (T5 m) 71 (L1 m) 22 (loopBody Try.prog 71 21) (mkEnv [0, 5, 6, 7, 8, 9, 25, 26, 66, 83, 113, 125, 128, 129] [V.ref (128 : Nat) (0 : Nat), V.own [LT.int IntKind.i64, LT.int IntKind.i64, LT.int IntKind.i64, LT.int IntKind.i64, LT.int IntKind.i64, LT.bool, LT.lst [LT.int IntKind.u8]] r105, V.f (F.lit (Value.int IntKind.i64 i106)), V.f (F.lit (Value.int IntKind.i64 i107)), V.f (F.lit (Value.int IntKind.i64 i108)), V.f (F.lit (Value.int IntKind.i64 i109)), V.f (F.lit (Value.int IntKind.i64 i110)), V.f (F.lit (Value.int IntKind.i64 i111)), V.undef, V.undef, V.f (F.lit (Value.bool b112)), V.undef, V.obj [V.f (F.lst [LT.int IntKind.i64] r113), V.f (F.lit (Value.int IntKind.i64 i114))], V.undef] 0 (H.len 71)) (fun e env' => k e (vals [0, 5, 6, 7, 8, 9, 25, 26, 66, 83, 113, 125, 128, 129] env')) = Jn71_21 m (fun r116 b117 => k Ex.normal [V.ref (128 : Nat) (0 : Nat), V.own [LT.int IntKind.i64, LT.int IntKind.i64, LT.int IntKind.i64, LT.int IntKind.i64, LT.int IntKind.i64, LT.bool, LT.lst [LT.int IntKind.u8]] r116, V.f (F.lit (Value.int IntKind.i64 i106)), V.f (F.lit (Value.int IntKind.i64 i107)), V.f (F.lit (Value.int IntKind.i64 i108)), V.f (F.lit (Value.int IntKind.i64 i109)), V.f (F.lit (Value.int IntKind.i64 i110)), V.f (F.lit (Value.int IntKind.i64 i111)), V.undef, V.undef, V.f (F.lit (Value.bool b117)), V.undef, V.obj [V.f (F.lst [LT.int IntKind.i64] r113), V.f (F.lit (Value.int IntKind.i64 i114))], V.undef]) r105 i106 i107 i108 i109 i110 i111 b112 r113 i114 := by kernel_rfl
def L2 (m : Nat) : LTbl := addJ 71 21 (brJn71_21 m (L1 m)) (L1 m)
theorem okL2 (m : Nat) : LTOk Try.prog H (L2 m) := addJ_ok (okT5 m) hM (okL1 m) (l := [0, 5, 6, 7, 8, 9, 25, 26, 66, 83, 113, 125, 128, 129]) (by kernel_rfl) (by kernel_rfl) fun R vs k x h => by
    unfold brJn71_21 at h
    split at h
    · exact .inl ((evJn71_21 m R _ _ _ _ _ _ _ _ _ _ k).trans h)
    · exact .inr h

/-- a rest of (*hookflash/flashmake.Stream).RightArrivals -/
def Jn71_20 {R : Type} (m : Nat) (kx0 : Abs.Rows → Int → Option R) (r94 : Abs.Rows) (i95 : Int) (i96 : Int) (i97 : Int) (i98 : Int) (i99 : Int) (i100 : Int) (r101 : Abs.Rows) (i102 : Int) : Option R :=
  bif decide ((↑(List.length r94) : Int) > (0 : Int)) then (Fn39 m r101 i102 ((8 : Int)) (fun b103 i104 => Jn71_21 m (fun r118 b119 => kx0 r118 i104) r94 i95 i96 i97 i98 i99 i100 b103 r101 i104)) else
  (Jn71_21 m (fun r120 b121 => kx0 r120 i102) r94 i95 i96 i97 i98 i99 i100 false r101 i102)
def brJn71_20 (m : Nat) (L : LTbl) (R : Type) (vs : List V) (k : Ex → List V → Option R) : Option R := match vs with
  | [V.ref (128 : Nat) (0 : Nat), V.own [LT.int IntKind.i64, LT.int IntKind.i64, LT.int IntKind.i64, LT.int IntKind.i64, LT.int IntKind.i64, LT.bool, LT.lst [LT.int IntKind.u8]] r94, V.f (F.lit (Value.int IntKind.i64 i95)), V.f (F.lit (Value.int IntKind.i64 i96)), V.f (F.lit (Value.int IntKind.i64 i97)), V.f (F.lit (Value.int IntKind.i64 i98)), V.f (F.lit (Value.int IntKind.i64 i99)), V.f (F.lit (Value.int IntKind.i64 i100)), V.undef, V.undef, V.undef, V.obj [V.f (F.lst [LT.int IntKind.i64] r101), V.f (F.lit (Value.int IntKind.i64 i102))], V.undef] => Jn71_20 m (fun r122 i123 => k Ex.normal [V.ref (128 : Nat) (0 : Nat), V.own [LT.int IntKind.i64, LT.int IntKind.i64, LT.int IntKind.i64, LT.int IntKind.i64, LT.int IntKind.i64, LT.bool, LT.lst [LT.int IntKind.u8]] r122, V.f (F.lit (Value.int IntKind.i64 i95)), V.f (F.lit (Value.int IntKind.i64 i96)), V.f (F.lit (Value.int IntKind.i64 i97)), V.f (F.lit (Value.int IntKind.i64 i98)), V.f (F.lit (Value.int IntKind.i64 i99)), V.f (F.lit (Value.int IntKind.i64 i100)), V.undef, V.undef, V.undef, V.obj [V.f (F.lst [LT.int IntKind.i64] r101), V.f (F.lit (Value.int IntKind.i64 i123))], V.undef]) r94 i95 i96 i97 i98 i99 i100 r101 i102
  | _ => L R 71 20 vs k
set_option maxRecDepth 100000 in
theorem evJn71_20 (m : Nat) (R : Type) (r94 : Abs.Rows) (i95 : Int) (i96 : Int) (i97 : Int) (i98 : Int) (i99 : Int) (i100 : Int) (r101 : Abs.Rows) (i102 : Int) (k : Ex → List V → Option R) : codeK Try.prog H (T5 m) 71 (L2 m) 21 (loopBody Try.prog 71 20) (mkEnv [0, 5, 6, 7, 8, 9, 25, 26, 66, 83, 125, 128, 129] [V.ref (128 : Nat) (0 : Nat), V.own [LT.int IntKind.i64, LT.int IntKind.i64, LT.int IntKind.i64, LT.int IntKind.i64, LT.int IntKind.i64, LT.bool, LT.lst [LT.int IntKind.u8]] r94, V.f (F.lit (Value.int IntKind.i64 i95)), V.f (F.lit (Value.int IntKind.i64 i96)), V.f (F.lit (Value.int IntKind.i64 i97)), V.f (F.lit (Value.int IntKind.i64 i98)), V.f (F.lit (Value.int IntKind.i64 i99)), V.f (F.lit (Value.int IntKind.i64 i100)), V.undef, V.undef, V.undef, V.obj [V.f (F.lst [LT.int IntKind.i64] r101), V.f (F.lit (Value.int IntKind.i64 i102))], V.undef] 0 (H.len 71)) (fun e env' => k e (vals [0, 5, 6, 7, 8, 9, 25, 26, 66, 83, 125, 128, 129] env')) = Jn71_20 m (fun r122 i123 => k Ex.normal [V.ref (128 : Nat) (0 : Nat), V.own [LT.int IntKind.i64, LT.int IntKind.i64, LT.int IntKind.i64, LT.int IntKind.i64, LT.int IntKind.i64, LT.bool, LT.lst [LT.int IntKind.u8]] r122, V.f (F.lit (Value.int IntKind.i64 i95)), V.f (F.lit (Value.int IntKind.i64 i96)), V.f (F.lit (Value.int IntKind.i64 i97)), V.f (F.lit (Value.int IntKind.i64 i98)), V.f (F.lit (Value.int IntKind.i64 i99)), V.f (F.lit (Value.int IntKind.i64 i100)), V.undef, V.undef, V.undef, V.obj [V.f (F.lst [LT.int IntKind.i64] r101), V.f (F.lit (Value.int IntKind.i64 i123))], V.undef]) r94 i95 i96 i97 i98 i99 i100 r101 i102 := by kernel_rfl
def L3 (m : Nat) : LTbl := addJ 71 20 (brJn71_20 m (L2 m)) (L2 m)
theorem okL3 (m : Nat) : LTOk Try.prog H (L3 m) := addJ_ok (okT5 m) hM (okL2 m) (l := [0, 5, 6, 7, 8, 9, 25, 26, 66, 83, 125, 128, 129]) (by kernel_rfl) (by kernel_rfl) fun R vs k x h => by
    unfold brJn71_20 at h
    split at h
    · exact .inl ((evJn71_20 m R _ _ _ _ _ _ _ _ _ k).trans h)
    · exact .inr h

/-- a rest of (*hookflash/flashmake.Stream).RightArrivals -/
def Jn71_17 {R : Type} (m : Nat) (kx0 : Abs.Rows → Bool → Option R) (r128 : Abs.Rows) (i129 : Int) (i130 : Int) (i131 : Int) (i132 : Int) (i133 : Int) (i134 : Int) (i135 : Int) (i136 : Int) (b137 : Bool) (r138 : Abs.Rows) (i139 : Int) (i140 : Int) (b141 : Bool) (r142 : Abs.Rows) (i143 : Int) : Option R :=
  bif b141 then (bif decide (List.length r128 + List.length [[F.lit (Value.int IntKind.i64 i131), F.lit (Value.int IntKind.i64 i133), F.lit (Value.int IntKind.i64 i134), F.lit (Value.int IntKind.i64 i135), F.lit (Value.int IntKind.i64 i136), F.lit (Value.bool b137), F.lst [LT.int IntKind.u8] r138]] ≤ rowMax) then (letV (r128 ++ [[F.lit (Value.int IntKind.i64 i131), F.lit (Value.int IntKind.i64 i133), F.lit (Value.int IntKind.i64 i134), F.lit (Value.int IntKind.i64 i135), F.lit (Value.int IntKind.i64 i136), F.lit (Value.bool b137), F.lst [LT.int IntKind.u8] r138]]) (fun r144 => bif decide ((0 : Int) ≤ IntKind.wrap IntKind.i64 (IntKind.wrap IntKind.i64 ((↑(List.length r144) : Int) - (1 : Int)) - (1 : Int)) ∧ IntKind.wrap IntKind.i64 (IntKind.wrap IntKind.i64 ((↑(List.length r144) : Int) - (1 : Int)) - (1 : Int)) < (↑(List.length r144) : Int)) then (bif decide ((0 : Int) ≤ IntKind.wrap IntKind.i64 ((↑(List.length r144) : Int) - (1 : Int)) ∧ IntKind.wrap IntKind.i64 ((↑(List.length r144) : Int) - (1 : Int)) < (↑(List.length r144) : Int)) then (bif decide ((0 : Int) ≤ IntKind.wrap IntKind.i64 ((↑(List.length r144) : Int) - (1 : Int)) ∧ IntKind.wrap IntKind.i64 ((↑(List.length r144) : Int) - (1 : Int)) < (↑(List.length r144) : Int)) then (bif decide ((0 : Int) ≤ IntKind.wrap IntKind.i64 (IntKind.wrap IntKind.i64 ((↑(List.length r144) : Int) - (1 : Int)) - (1 : Int)) ∧ IntKind.wrap IntKind.i64 (IntKind.wrap IntKind.i64 ((↑(List.length r144) : Int) - (1 : Int)) - (1 : Int)) < (↑(List.length r144) : Int)) then (letV (stR [LT.int IntKind.i64, LT.int IntKind.i64, LT.int IntKind.i64, LT.int IntKind.i64, LT.int IntKind.i64, LT.bool, LT.lst [LT.int IntKind.u8]] r144 (Int.toNat (IntKind.wrap IntKind.i64 ((↑(List.length r144) : Int) - (1 : Int)))) ((0 : Nat) + (1 : Nat)) [F.lit (Value.int IntKind.i64 (fI r144 (Int.toNat (IntKind.wrap IntKind.i64 (IntKind.wrap IntKind.i64 ((↑(List.length r144) : Int) - (1 : Int)) - (1 : Int)))) (1 : Nat))), F.lit (Value.int IntKind.i64 (fI r144 (Int.toNat (IntKind.wrap IntKind.i64 (IntKind.wrap IntKind.i64 ((↑(List.length r144) : Int) - (1 : Int)) - (1 : Int)))) (2 : Nat))), F.lit (Value.int IntKind.i64 (fI r144 (Int.toNat (IntKind.wrap IntKind.i64 (IntKind.wrap IntKind.i64 ((↑(List.length r144) : Int) - (1 : Int)) - (1 : Int)))) (3 : Nat))), F.lit (Value.int IntKind.i64 (fI r144 (Int.toNat (IntKind.wrap IntKind.i64 (IntKind.wrap IntKind.i64 ((↑(List.length r144) : Int) - (1 : Int)) - (1 : Int)))) (4 : Nat))), F.lit (Value.bool (fB r144 (Int.toNat (IntKind.wrap IntKind.i64 (IntKind.wrap IntKind.i64 ((↑(List.length r144) : Int) - (1 : Int)) - (1 : Int)))) (5 : Nat))), F.lst [LT.int IntKind.u8] (fR r144 (Int.toNat (IntKind.wrap IntKind.i64 (IntKind.wrap IntKind.i64 ((↑(List.length r144) : Int) - (1 : Int)) - (1 : Int)))) (6 : Nat))]) (fun r145 => kx0 (stR [LT.int IntKind.i64, LT.int IntKind.i64, LT.int IntKind.i64, LT.int IntKind.i64, LT.int IntKind.i64, LT.bool, LT.lst [LT.int IntKind.u8]] r145 (Int.toNat (IntKind.wrap IntKind.i64 (IntKind.wrap IntKind.i64 ((↑(List.length r144) : Int) - (1 : Int)) - (1 : Int)))) ((0 : Nat) + (1 : Nat)) [F.lit (Value.int IntKind.i64 (fI r144 (Int.toNat (IntKind.wrap IntKind.i64 ((↑(List.length r144) : Int) - (1 : Int)))) (1 : Nat))), F.lit (Value.int IntKind.i64 (fI r144 (Int.toNat (IntKind.wrap IntKind.i64 ((↑(List.length r144) : Int) - (1 : Int)))) (2 : Nat))), F.lit (Value.int IntKind.i64 (fI r144 (Int.toNat (IntKind.wrap IntKind.i64 ((↑(List.length r144) : Int) - (1 : Int)))) (3 : Nat))), F.lit (Value.int IntKind.i64 (fI r144 (Int.toNat (IntKind.wrap IntKind.i64 ((↑(List.length r144) : Int) - (1 : Int)))) (4 : Nat))), F.lit (Value.bool (fB r144 (Int.toNat (IntKind.wrap IntKind.i64 ((↑(List.length r144) : Int) - (1 : Int)))) (5 : Nat))), F.lst [LT.int IntKind.u8] (fR r144 (Int.toNat (IntKind.wrap IntKind.i64 ((↑(List.length r144) : Int) - (1 : Int)))) (6 : Nat))]) true)) else
  (none)) else
  (none)) else
  (none)) else
  (none))) else
  (none)) else
  (bif decide (List.length r128 + List.length [[F.lit (Value.int IntKind.i64 i131), F.lit (Value.int IntKind.i64 i133), F.lit (Value.int IntKind.i64 i134), F.lit (Value.int IntKind.i64 i135), F.lit (Value.int IntKind.i64 i136), F.lit (Value.bool b137), F.lst [LT.int IntKind.u8] r138]] ≤ rowMax) then (letV (r128 ++ [[F.lit (Value.int IntKind.i64 i131), F.lit (Value.int IntKind.i64 i133), F.lit (Value.int IntKind.i64 i134), F.lit (Value.int IntKind.i64 i135), F.lit (Value.int IntKind.i64 i136), F.lit (Value.bool b137), F.lst [LT.int IntKind.u8] r138]]) (fun r146 => kx0 r146 false)) else
  (none))
def brJn71_17 (m : Nat) (L : LTbl) (R : Type) (vs : List V) (k : Ex → List V → Option R) : Option R := match vs with
  | [V.ref (128 : Nat) (0 : Nat), V.own [LT.int IntKind.i64, LT.int IntKind.i64, LT.int IntKind.i64, LT.int IntKind.i64, LT.int IntKind.i64, LT.bool, LT.lst [LT.int IntKind.u8]] r128, V.f (F.lit (Value.int IntKind.i64 i129)), V.f (F.lit (Value.int IntKind.i64 i130)), V.f (F.lit (Value.int IntKind.i64 i131)), V.f (F.lit (Value.int IntKind.i64 i132)), V.obj [V.f (F.lit (Value.int IntKind.i64 i133)), V.f (F.lit (Value.int IntKind.i64 i134)), V.f (F.lit (Value.int IntKind.i64 i135)), V.f (F.lit (Value.int IntKind.i64 i136)), V.f (F.lit (Value.bool b137)), V.own [LT.int IntKind.u8] r138], V.f (F.lit (Value.int IntKind.i64 i139)), V.f (F.lit (Value.int IntKind.i64 i140)), V.undef, V.f (F.lit (Value.bool b141)), V.undef, V.obj [V.f (F.lst [LT.int IntKind.i64] r142), V.f (F.lit (Value.int IntKind.i64 i143))], V.undef] => Jn71_17 m (fun r147 b148 => k Ex.normal [V.ref (128 : Nat) (0 : Nat), V.own [LT.int IntKind.i64, LT.int IntKind.i64, LT.int IntKind.i64, LT.int IntKind.i64, LT.int IntKind.i64, LT.bool, LT.lst [LT.int IntKind.u8]] r147, V.f (F.lit (Value.int IntKind.i64 i129)), V.f (F.lit (Value.int IntKind.i64 i130)), V.f (F.lit (Value.int IntKind.i64 i131)), V.f (F.lit (Value.int IntKind.i64 i132)), V.obj [V.f (F.lit (Value.int IntKind.i64 i133)), V.f (F.lit (Value.int IntKind.i64 i134)), V.f (F.lit (Value.int IntKind.i64 i135)), V.f (F.lit (Value.int IntKind.i64 i136)), V.f (F.lit (Value.bool b137)), V.f (F.lst [LT.int IntKind.u8] r138)], V.f (F.lit (Value.int IntKind.i64 i139)), V.f (F.lit (Value.int IntKind.i64 i140)), V.undef, V.f (F.lit (Value.bool b148)), V.undef, V.obj [V.f (F.lst [LT.int IntKind.i64] r142), V.f (F.lit (Value.int IntKind.i64 i143))], V.undef]) r128 i129 i130 i131 i132 i133 i134 i135 i136 b137 r138 i139 i140 b141 r142 i143
  | _ => L R 71 17 vs k
set_option maxRecDepth 100000 in
theorem evJn71_17 (m : Nat) (R : Type) (r128 : Abs.Rows) (i129 : Int) (i130 : Int) (i131 : Int) (i132 : Int) (i133 : Int) (i134 : Int) (i135 : Int) (i136 : Int) (b137 : Bool) (r138 : Abs.Rows) (i139 : Int) (i140 : Int) (b141 : Bool) (r142 : Abs.Rows) (i143 : Int) (k : Ex → List V → Option R) : codeK Try.prog H (T5 m) 71 (L3 m) 18 (loopBody Try.prog 71 17) (mkEnv [0, 5, 6, 7, 8, 9, 10, 25, 26, 66, 70, 83, 128, 129] [V.ref (128 : Nat) (0 : Nat), V.own [LT.int IntKind.i64, LT.int IntKind.i64, LT.int IntKind.i64, LT.int IntKind.i64, LT.int IntKind.i64, LT.bool, LT.lst [LT.int IntKind.u8]] r128, V.f (F.lit (Value.int IntKind.i64 i129)), V.f (F.lit (Value.int IntKind.i64 i130)), V.f (F.lit (Value.int IntKind.i64 i131)), V.f (F.lit (Value.int IntKind.i64 i132)), V.obj [V.f (F.lit (Value.int IntKind.i64 i133)), V.f (F.lit (Value.int IntKind.i64 i134)), V.f (F.lit (Value.int IntKind.i64 i135)), V.f (F.lit (Value.int IntKind.i64 i136)), V.f (F.lit (Value.bool b137)), V.own [LT.int IntKind.u8] r138], V.f (F.lit (Value.int IntKind.i64 i139)), V.f (F.lit (Value.int IntKind.i64 i140)), V.undef, V.f (F.lit (Value.bool b141)), V.undef, V.obj [V.f (F.lst [LT.int IntKind.i64] r142), V.f (F.lit (Value.int IntKind.i64 i143))], V.undef] 0 (H.len 71)) (fun e env' => k e (vals [0, 5, 6, 7, 8, 9, 10, 25, 26, 66, 70, 83, 128, 129] env')) = Jn71_17 m (fun r147 b148 => k Ex.normal [V.ref (128 : Nat) (0 : Nat), V.own [LT.int IntKind.i64, LT.int IntKind.i64, LT.int IntKind.i64, LT.int IntKind.i64, LT.int IntKind.i64, LT.bool, LT.lst [LT.int IntKind.u8]] r147, V.f (F.lit (Value.int IntKind.i64 i129)), V.f (F.lit (Value.int IntKind.i64 i130)), V.f (F.lit (Value.int IntKind.i64 i131)), V.f (F.lit (Value.int IntKind.i64 i132)), V.obj [V.f (F.lit (Value.int IntKind.i64 i133)), V.f (F.lit (Value.int IntKind.i64 i134)), V.f (F.lit (Value.int IntKind.i64 i135)), V.f (F.lit (Value.int IntKind.i64 i136)), V.f (F.lit (Value.bool b137)), V.f (F.lst [LT.int IntKind.u8] r138)], V.f (F.lit (Value.int IntKind.i64 i139)), V.f (F.lit (Value.int IntKind.i64 i140)), V.undef, V.f (F.lit (Value.bool b148)), V.undef, V.obj [V.f (F.lst [LT.int IntKind.i64] r142), V.f (F.lit (Value.int IntKind.i64 i143))], V.undef]) r128 i129 i130 i131 i132 i133 i134 i135 i136 b137 r138 i139 i140 b141 r142 i143 := by kernel_rfl
def L4 (m : Nat) : LTbl := addJ 71 17 (brJn71_17 m (L3 m)) (L3 m)
theorem okL4 (m : Nat) : LTOk Try.prog H (L4 m) := addJ_ok (okT5 m) hM (okL3 m) (l := [0, 5, 6, 7, 8, 9, 10, 25, 26, 66, 70, 83, 128, 129]) (by kernel_rfl) (by kernel_rfl) fun R vs k x h => by
    unfold brJn71_17 at h
    split at h
    · exact .inl ((evJn71_17 m R _ _ _ _ _ _ _ _ _ _ _ _ _ _ _ _ k).trans h)
    · exact .inr h

/-- a round of a loop of (*hookflash/flashmake.Stream).RightArrivals -/
def Lp71_5_step {R : Type} (m : Nat) (kx0 : Abs.Rows → Int → Int → Int → Int → Int → Option R) (i50 : Int) (i51 : Int) (r53 : Abs.Rows) (REC : Abs.Rows → Int → Int → Int → Int → Int → Option R) (r46 : Abs.Rows) (i47 : Int) (i48 : Int) (i49 : Int) (i52 : Int) (i54 : Int) : Option R :=
  bif decide (i52 < i51) then (Fn20 m r53 i54 ([[F.lit (Value.int IntKind.i64 (0 : Int))], [F.lit (Value.int IntKind.i64 (3 : Int))], [F.lit (Value.int IntKind.i64 (8 : Int))]]) (fun i55 i56 => Lp71_10 m (fun r80 i81 i82 => Fn20 m r53 i82 ([[F.lit (Value.int IntKind.i64 (0 : Int))], [F.lit (Value.int IntKind.i64 (1 : Int))], [F.lit (Value.int IntKind.i64 (IntKind.wrap IntKind.i64 (Int.tdiv i50 (8 : Int))))], [F.lit (Value.int IntKind.i64 (IntKind.wrap IntKind.i64 (Int.tdiv i50 (8 : Int))))], [F.lit (Value.int IntKind.i64 (25 : Int))]]) (fun i83 i84 => Fn39 m r53 i84 ((5 : Int)) (fun b92 i93 => bif b92 then (Jn71_20 m (fun r124 i125 => REC r124 (IntKind.wrap IntKind.i64 (i47 + (1 : Int))) (IntKind.wrap IntKind.i64 (i48 + i50)) (IntKind.wrap IntKind.i64 (i49 + i83)) (IntKind.wrap IntKind.i64 (i52 + (1 : Int))) i125) r46 (IntKind.wrap IntKind.i64 (i47 + (1 : Int))) (IntKind.wrap IntKind.i64 (i48 + i50)) (IntKind.wrap IntKind.i64 (i49 + i83)) i50 i51 i52 r53 i93) else
  (bif decide ((↑(List.length r46) : Int) > (0 : Int)) then (Fn39 m r53 i93 ((5 : Int)) (fun b126 i127 => Jn71_17 m (fun r149 b150 => Jn71_20 m (fun r151 i152 => REC r151 (IntKind.wrap IntKind.i64 (i47 + (1 : Int))) (IntKind.wrap IntKind.i64 (i48 + i50)) (IntKind.wrap IntKind.i64 (i49 + i83)) (IntKind.wrap IntKind.i64 (i52 + (1 : Int))) i152) r149 (IntKind.wrap IntKind.i64 (i47 + (1 : Int))) (IntKind.wrap IntKind.i64 (i48 + i50)) (IntKind.wrap IntKind.i64 (i49 + i83)) i50 i51 i52 r53 i127) r46 (IntKind.wrap IntKind.i64 (i47 + (1 : Int))) (IntKind.wrap IntKind.i64 (i48 + i50)) (IntKind.wrap IntKind.i64 (i49 + i83)) i50 ((0 : Int)) (Int.tmod i47 (65536 : Int)) (Int.tmod i48 (4294967296 : Int)) ((7 : Int)) false r80 i51 i52 b126 r53 i127)) else
  (Jn71_17 m (fun r153 b154 => Jn71_20 m (fun r155 i156 => REC r155 (IntKind.wrap IntKind.i64 (i47 + (1 : Int))) (IntKind.wrap IntKind.i64 (i48 + i50)) (IntKind.wrap IntKind.i64 (i49 + i83)) (IntKind.wrap IntKind.i64 (i52 + (1 : Int))) i156) r153 (IntKind.wrap IntKind.i64 (i47 + (1 : Int))) (IntKind.wrap IntKind.i64 (i48 + i50)) (IntKind.wrap IntKind.i64 (i49 + i83)) i50 i51 i52 r53 i93) r46 (IntKind.wrap IntKind.i64 (i47 + (1 : Int))) (IntKind.wrap IntKind.i64 (i48 + i50)) (IntKind.wrap IntKind.i64 (i49 + i83)) i50 ((0 : Int)) (Int.tmod i47 (65536 : Int)) (Int.tmod i48 (4294967296 : Int)) ((7 : Int)) false r80 i51 i52 false r53 i93))))) r46 i47 i48 i49 i50 ((0 : Int)) (Int.tmod i47 (65536 : Int)) (Int.tmod i48 (4294967296 : Int)) ((7 : Int)) false i51 i52 i55 r53 m rows0 ((0 : Int)) i56)) else
  (kx0 r46 i47 i48 i49 i52 i54)
def Lp71_5 {R : Type} (m : Nat) (kx0 : Abs.Rows → Int → Int → Int → Int → Int → Option R) (i50 : Int) (i51 : Int) (r53 : Abs.Rows) : Nat → Abs.Rows → Int → Int → Int → Int → Int → Option R
  | 0, _, _, _, _, _, _ => none
  | n + 1, r46, i47, i48, i49, i52, i54 => Lp71_5_step m kx0 i50 i51 r53 (Lp71_5 m kx0 i50 i51 r53 n) r46 i47 i48 i49 i52 i54
def ELp71_5 (m : Nat) (R : Type) : Nat → List V → (Ex → List V → Option R) → Option R
  | 0, _, _ => none
  | n + 1, vs, k => match vs with
    | [V.ref (128 : Nat) (0 : Nat), V.own [LT.int IntKind.i64, LT.int IntKind.i64, LT.int IntKind.i64, LT.int IntKind.i64, LT.int IntKind.i64, LT.bool, LT.lst [LT.int IntKind.u8]] r46, V.f (F.lit (Value.int IntKind.i64 i47)), V.f (F.lit (Value.int IntKind.i64 i48)), V.f (F.lit (Value.int IntKind.i64 i49)), V.f (F.lit (Value.int IntKind.i64 i50)), V.f (F.lit (Value.int IntKind.i64 i51)), V.f (F.lit (Value.int IntKind.i64 i52)), V.obj [V.f (F.lst [LT.int IntKind.i64] r53), V.f (F.lit (Value.int IntKind.i64 i54))], V.undef] => Lp71_5_step m (fun r157 i158 i159 i160 i161 i162 => k (Ex.exit (0 : Nat)) [V.ref (128 : Nat) (0 : Nat), V.own [LT.int IntKind.i64, LT.int IntKind.i64, LT.int IntKind.i64, LT.int IntKind.i64, LT.int IntKind.i64, LT.bool, LT.lst [LT.int IntKind.u8]] r157, V.f (F.lit (Value.int IntKind.i64 i158)), V.f (F.lit (Value.int IntKind.i64 i159)), V.f (F.lit (Value.int IntKind.i64 i160)), V.f (F.lit (Value.int IntKind.i64 i50)), V.f (F.lit (Value.int IntKind.i64 i51)), V.f (F.lit (Value.int IntKind.i64 i161)), V.obj [V.f (F.lst [LT.int IntKind.i64] r53), V.f (F.lit (Value.int IntKind.i64 i162))], V.undef]) i50 i51 r53 (fun r46 i47 i48 i49 i52 i54 => ELp71_5 m R n [V.ref (128 : Nat) (0 : Nat), V.own [LT.int IntKind.i64, LT.int IntKind.i64, LT.int IntKind.i64, LT.int IntKind.i64, LT.int IntKind.i64, LT.bool, LT.lst [LT.int IntKind.u8]] r46, V.f (F.lit (Value.int IntKind.i64 i47)), V.f (F.lit (Value.int IntKind.i64 i48)), V.f (F.lit (Value.int IntKind.i64 i49)), V.f (F.lit (Value.int IntKind.i64 i50)), V.f (F.lit (Value.int IntKind.i64 i51)), V.f (F.lit (Value.int IntKind.i64 i52)), V.obj [V.f (F.lst [LT.int IntKind.i64] r53), V.f (F.lit (Value.int IntKind.i64 i54))], V.undef] k) r46 i47 i48 i49 i52 i54
    | _ => none
def brLp71_5 (m : Nat) (L : LTbl) (R : Type) (vs : List V) (k : Ex → List V → Option R) : Option R := match vs with
  | [V.ref (128 : Nat) (0 : Nat), V.own [LT.int IntKind.i64, LT.int IntKind.i64, LT.int IntKind.i64, LT.int IntKind.i64, LT.int IntKind.i64, LT.bool, LT.lst [LT.int IntKind.u8]] r46, V.f (F.lit (Value.int IntKind.i64 i47)), V.f (F.lit (Value.int IntKind.i64 i48)), V.f (F.lit (Value.int IntKind.i64 i49)), V.f (F.lit (Value.int IntKind.i64 i50)), V.f (F.lit (Value.int IntKind.i64 i51)), V.f (F.lit (Value.int IntKind.i64 i52)), V.obj [V.f (F.lst [LT.int IntKind.i64] r53), V.f (F.lit (Value.int IntKind.i64 i54))], V.undef] => Lp71_5 m (fun r157 i158 i159 i160 i161 i162 => k (Ex.exit (0 : Nat)) [V.ref (128 : Nat) (0 : Nat), V.own [LT.int IntKind.i64, LT.int IntKind.i64, LT.int IntKind.i64, LT.int IntKind.i64, LT.int IntKind.i64, LT.bool, LT.lst [LT.int IntKind.u8]] r157, V.f (F.lit (Value.int IntKind.i64 i158)), V.f (F.lit (Value.int IntKind.i64 i159)), V.f (F.lit (Value.int IntKind.i64 i160)), V.f (F.lit (Value.int IntKind.i64 i50)), V.f (F.lit (Value.int IntKind.i64 i51)), V.f (F.lit (Value.int IntKind.i64 i161)), V.obj [V.f (F.lst [LT.int IntKind.i64] r53), V.f (F.lit (Value.int IntKind.i64 i162))], V.undef]) i50 i51 r53 m r46 i47 i48 i49 i52 i54
  | _ => L R 71 5 vs k
set_option maxRecDepth 100000 in
theorem stLp71_5 (m n : Nat) (R : Type) (r46 : Abs.Rows) (i47 : Int) (i48 : Int) (i49 : Int) (i50 : Int) (i51 : Int) (i52 : Int) (r53 : Abs.Rows) (i54 : Int) (k : Ex → List V → Option R) : codeK Try.prog H (T5 m) 71 (L4 m) 6 (loopBody Try.prog 71 5) (mkEnv [0, 5, 6, 7, 8, 9, 25, 26, 128, 129] [V.ref (128 : Nat) (0 : Nat), V.own [LT.int IntKind.i64, LT.int IntKind.i64, LT.int IntKind.i64, LT.int IntKind.i64, LT.int IntKind.i64, LT.bool, LT.lst [LT.int IntKind.u8]] r46, V.f (F.lit (Value.int IntKind.i64 i47)), V.f (F.lit (Value.int IntKind.i64 i48)), V.f (F.lit (Value.int IntKind.i64 i49)), V.f (F.lit (Value.int IntKind.i64 i50)), V.f (F.lit (Value.int IntKind.i64 i51)), V.f (F.lit (Value.int IntKind.i64 i52)), V.obj [V.f (F.lst [LT.int IntKind.i64] r53), V.f (F.lit (Value.int IntKind.i64 i54))], V.undef] 0 (H.len 71)) (fun e env' => match e with | .normal => ELp71_5 m R n (vals [0, 5, 6, 7, 8, 9, 25, 26, 128, 129] env') k | e => k e (vals [0, 5, 6, 7, 8, 9, 25, 26, 128, 129] env')) = Lp71_5_step m (fun r157 i158 i159 i160 i161 i162 => k (Ex.exit (0 : Nat)) [V.ref (128 : Nat) (0 : Nat), V.own [LT.int IntKind.i64, LT.int IntKind.i64, LT.int IntKind.i64, LT.int IntKind.i64, LT.int IntKind.i64, LT.bool, LT.lst [LT.int IntKind.u8]] r157, V.f (F.lit (Value.int IntKind.i64 i158)), V.f (F.lit (Value.int IntKind.i64 i159)), V.f (F.lit (Value.int IntKind.i64 i160)), V.f (F.lit (Value.int IntKind.i64 i50)), V.f (F.lit (Value.int IntKind.i64 i51)), V.f (F.lit (Value.int IntKind.i64 i161)), V.obj [V.f (F.lst [LT.int IntKind.i64] r53), V.f (F.lit (Value.int IntKind.i64 i162))], V.undef]) i50 i51 r53 (fun r46 i47 i48 i49 i52 i54 => ELp71_5 m R n [V.ref (128 : Nat) (0 : Nat), V.own [LT.int IntKind.i64, LT.int IntKind.i64, LT.int IntKind.i64, LT.int IntKind.i64, LT.int IntKind.i64, LT.bool, LT.lst [LT.int IntKind.u8]] r46, V.f (F.lit (Value.int IntKind.i64 i47)), V.f (F.lit (Value.int IntKind.i64 i48)), V.f (F.lit (Value.int IntKind.i64 i49)), V.f (F.lit (Value.int IntKind.i64 i50)), V.f (F.lit (Value.int IntKind.i64 i51)), V.f (F.lit (Value.int IntKind.i64 i52)), V.obj [V.f (F.lst [LT.int IntKind.i64] r53), V.f (F.lit (Value.int IntKind.i64 i54))], V.undef] k) r46 i47 i48 i49 i52 i54 := by kernel_rfl
theorem eqLp71_5 (m : Nat) (R : Type) (i50 : Int) (i51 : Int) (r53 : Abs.Rows) (k : Ex → List V → Option R) : ∀ (n : Nat) (r46 : Abs.Rows) (i47 : Int) (i48 : Int) (i49 : Int) (i52 : Int) (i54 : Int), ELp71_5 m R n [V.ref (128 : Nat) (0 : Nat), V.own [LT.int IntKind.i64, LT.int IntKind.i64, LT.int IntKind.i64, LT.int IntKind.i64, LT.int IntKind.i64, LT.bool, LT.lst [LT.int IntKind.u8]] r46, V.f (F.lit (Value.int IntKind.i64 i47)), V.f (F.lit (Value.int IntKind.i64 i48)), V.f (F.lit (Value.int IntKind.i64 i49)), V.f (F.lit (Value.int IntKind.i64 i50)), V.f (F.lit (Value.int IntKind.i64 i51)), V.f (F.lit (Value.int IntKind.i64 i52)), V.obj [V.f (F.lst [LT.int IntKind.i64] r53), V.f (F.lit (Value.int IntKind.i64 i54))], V.undef] k = Lp71_5 m (fun r157 i158 i159 i160 i161 i162 => k (Ex.exit (0 : Nat)) [V.ref (128 : Nat) (0 : Nat), V.own [LT.int IntKind.i64, LT.int IntKind.i64, LT.int IntKind.i64, LT.int IntKind.i64, LT.int IntKind.i64, LT.bool, LT.lst [LT.int IntKind.u8]] r157, V.f (F.lit (Value.int IntKind.i64 i158)), V.f (F.lit (Value.int IntKind.i64 i159)), V.f (F.lit (Value.int IntKind.i64 i160)), V.f (F.lit (Value.int IntKind.i64 i50)), V.f (F.lit (Value.int IntKind.i64 i51)), V.f (F.lit (Value.int IntKind.i64 i161)), V.obj [V.f (F.lst [LT.int IntKind.i64] r53), V.f (F.lit (Value.int IntKind.i64 i162))], V.undef]) i50 i51 r53 n r46 i47 i48 i49 i52 i54
  | 0, _, _, _, _, _, _ => rfl
  | n + 1, r46, i47, i48, i49, i52, i54 => by
    simp only [ELp71_5, Lp71_5]
    congr 1
    funext r46 i47 i48 i49 i52 i54
    exact eqLp71_5 m R i50 i51 r53 k n r46 i47 i48 i49 i52 i54
def L5 (m : Nat) : LTbl := addB 71 5 (brLp71_5 m (L4 m)) (L4 m)
theorem okL5 (m : Nat) : LTOk Try.prog H (L5 m) := addB_ok (okT5 m) hM (okL4 m) (l := [0, 5, 6, 7, 8, 9, 25, 26, 128, 129]) (by kernel_rfl) (by kernel_rfl) m (fun R n vs k => ELp71_5 m R n vs k) (fun R vs k => rfl) (fun R n vs k x h => by
      simp only [ELp71_5] at h
      split at h
      · exact (stLp71_5 m n R _ _ _ _ _ _ _ _ _ k).trans h
      · cases h) fun R vs k x h => by
    unfold brLp71_5 at h
    split at h
    · exact .inl ((eqLp71_5 m R _ _ _ k m _ _ _ _ _ _).trans h)
    · exact .inr h

/-- (*hookflash/flashmake.Stream).RightArrivals -/
def Fn71 {R : Type} (m : Nat) : Abs.Rows → Int → Int → (Abs.Rows → Int → Option R) → Option R := match m with
  | 0 => fun _ _ _ _ => none
  | m + 1 => fun r5 i6 i7 k =>
  Fn20 m r5 i6 ([[F.lit (Value.int IntKind.i64 (0 : Int))], [F.lit (Value.int IntKind.i64 (5 : Int))], [F.lit (Value.int IntKind.i64 (65533 : Int))]]) (fun i28 i29 => Fn20 m r5 i29 ([[F.lit (Value.int IntKind.i64 (0 : Int))], [F.lit (Value.int IntKind.i64 (100 : Int))], [F.lit (Value.int IntKind.i64 (4294967096 : Int))]]) (fun i30 i31 => Fn21 m r5 i31 ((0 : Int)) ((50 : Int)) (fun i40 i41 => Fn20 m r5 i41 ([[F.lit (Value.int IntKind.i64 (8 : Int))], [F.lit (Value.int IntKind.i64 (80 : Int))], [F.lit (Value.int IntKind.i64 (160 : Int))]]) (fun i42 i43 => Fn21 m r5 i43 ((0 : Int)) i7 (fun i44 i45 => Lp71_5 m (fun r163 i164 i165 i166 i167 i168 => k r163 i168) i42 i44 r5 m rows0 i28 i30 i40 ((0 : Int)) i45)))))
def brFn71 (m : Nat) (T : Tbl) (R : Type) (vs : List V) (k : V → List V → Option R) : Option R := match vs with
  | [V.obj [V.f (F.lst [LT.int IntKind.i64] r5), V.f (F.lit (Value.int IntKind.i64 i6))], V.f (F.lit (Value.int IntKind.i64 i7))] => Fn71 m r5 i6 i7 (fun r169 i170 => k (V.own [LT.int IntKind.i64, LT.int IntKind.i64, LT.int IntKind.i64, LT.int IntKind.i64, LT.int IntKind.i64, LT.bool, LT.lst [LT.int IntKind.u8]] r169) [V.obj [V.f (F.lst [LT.int IntKind.i64] r5), V.f (F.lit (Value.int IntKind.i64 i170))], V.undef])
  | _ => T R 71 vs k
set_option maxRecDepth 100000 in
theorem evFn71 (m : Nat) (R : Type) (r5 : Abs.Rows) (i6 : Int) (i7 : Int) (k : V → List V → Option R) : runK Try.prog H (T5 m) (L5 m) 71 [V.obj [V.f (F.lst [LT.int IntKind.i64] r5), V.f (F.lit (Value.int IntKind.i64 i6))], V.f (F.lit (Value.int IntKind.i64 i7))] k = Fn71 (m + 1) r5 i6 i7 (fun r169 i170 => k (V.own [LT.int IntKind.i64, LT.int IntKind.i64, LT.int IntKind.i64, LT.int IntKind.i64, LT.int IntKind.i64, LT.bool, LT.lst [LT.int IntKind.u8]] r169) [V.obj [V.f (F.lst [LT.int IntKind.i64] r5), V.f (F.lit (Value.int IntKind.i64 i170))], V.undef]) := by kernel_rfl
def T6 (m : Nat) : Tbl := addT 71 (brFn71 m (T5 m)) (T5 m)
theorem okT6 (m : Nat) : TblOk Try.prog (T6 m) := addT_ok (okT5 m) fun R vs k x h => by
  unfold brFn71 at h
  split at h
  · cases m with
    | zero => cases h
    | succ m => exact runK_some (okT5 m) hM (okL5 m) ((evFn71 m R _ _ _ k).trans h)
  · exact okT5 m R 71 _ k x h

/-- (*hookflash/flashmake.Stream).Odd -/
def Fn60 {R : Type} (m : Nat) : Abs.Rows → Int → Int → Int → (Int → Int → Option R) → Option R := match m with
  | 0 => fun _ _ _ _ _ => none
  | m + 1 => fun r183 i184 i185 i186 k =>
  Fn39 m r183 i184 ((12 : Int)) (fun b187 i188 => bif b187 then (Fn20 m r183 i188 ([[F.lit (Value.int IntKind.i64 (IntKind.wrap IntKind.i64 (i185 - (1 : Int))))], [F.lit (Value.int IntKind.i64 (IntKind.wrap IntKind.i64 (i186 + (1 : Int))))], [F.lit (Value.int IntKind.i64 i185)], [F.lit (Value.int IntKind.i64 i186)], [F.lit (Value.int IntKind.i64 (-1099511627776 : Int))], [F.lit (Value.int IntKind.i64 (1099511627776 : Int))]]) (fun i189 i190 => k i189 i190)) else
  (Fn21 m r183 i188 i185 i186 (fun i191 i192 => k i191 i192)))
def brFn60 (m : Nat) (T : Tbl) (R : Type) (vs : List V) (k : V → List V → Option R) : Option R := match vs with
  | [V.obj [V.f (F.lst [LT.int IntKind.i64] r183), V.f (F.lit (Value.int IntKind.i64 i184))], V.f (F.lit (Value.int IntKind.i64 i185)), V.f (F.lit (Value.int IntKind.i64 i186))] => Fn60 m r183 i184 i185 i186 (fun i193 i194 => k (V.f (F.lit (Value.int IntKind.i64 i193))) [V.obj [V.f (F.lst [LT.int IntKind.i64] r183), V.f (F.lit (Value.int IntKind.i64 i194))], V.undef, V.undef])
  | _ => T R 60 vs k
set_option maxRecDepth 100000 in
theorem evFn60 (m : Nat) (R : Type) (r183 : Abs.Rows) (i184 : Int) (i185 : Int) (i186 : Int) (k : V → List V → Option R) : runK Try.prog H (T6 m) (L5 m) 60 [V.obj [V.f (F.lst [LT.int IntKind.i64] r183), V.f (F.lit (Value.int IntKind.i64 i184))], V.f (F.lit (Value.int IntKind.i64 i185)), V.f (F.lit (Value.int IntKind.i64 i186))] k = Fn60 (m + 1) r183 i184 i185 i186 (fun i193 i194 => k (V.f (F.lit (Value.int IntKind.i64 i193))) [V.obj [V.f (F.lst [LT.int IntKind.i64] r183), V.f (F.lit (Value.int IntKind.i64 i194))], V.undef, V.undef]) := by kernel_rfl
def T7 (m : Nat) : Tbl := addT 60 (brFn60 m (T6 m)) (T6 m)
theorem okT7 (m : Nat) : TblOk Try.prog (T7 m) := addT_ok (okT6 m) fun R vs k x h => by
  unfold brFn60 at h
  split at h
  · cases m with
    | zero => cases h
    | succ m => exact runK_some (okT6 m) hM (okL5 m) ((evFn60 m R _ _ _ _ k).trans h)
  · exact okT6 m R 60 _ k x h

/-- a rest of (*hookflash/flashmake.Stream).Arrivals -/
def Jn33_2 {R : Type} (m : Nat) (kx0 : Abs.Rows → Bool → Int → Option R) (r175 : Abs.Rows) (b176 : Bool) (r177 : Abs.Rows) (i178 : Int) : Option R :=
  bif b176 then (Fn59 m r177 i178 ((↑(List.length r175) : Int)) (fun i179 i180 => bif decide ((0 : Int) ≤ i179 ∧ i179 < (↑(List.length r175) : Int)) then (Fn59 m r177 i180 ((4 : Int)) (fun i181 i182 => bif i181 == (0 : Int) then (Fn60 m r177 i182 ((0 : Int)) ((50 : Int)) (fun i195 i196 => kx0 (stR [LT.int IntKind.i64, LT.int IntKind.i64, LT.int IntKind.i64, LT.int IntKind.i64, LT.int IntKind.i64, LT.bool, LT.lst [LT.int IntKind.u8]] r175 (Int.toNat i179) ((0 : Nat) + (0 : Nat)) [F.lit (Value.int IntKind.i64 i195)]) true i196)) else
  (bif i181 == (1 : Int) then (Fn20 m r177 i182 ([[F.lit (Value.int IntKind.i64 (7 : Int))], [F.lit (Value.int IntKind.i64 (8 : Int))]]) (fun i197 i198 => kx0 (stR [LT.int IntKind.i64, LT.int IntKind.i64, LT.int IntKind.i64, LT.int IntKind.i64, LT.int IntKind.i64, LT.bool, LT.lst [LT.int IntKind.u8]] r175 (Int.toNat i179) ((0 : Nat) + (1 : Nat) + (3 : Nat)) [F.lit (Value.int IntKind.i64 i197)]) true i198)) else
  (bif i181 == (2 : Int) then (Fn60 m r177 i182 ((0 : Int)) ((65535 : Int)) (fun i199 i200 => kx0 (stR [LT.int IntKind.i64, LT.int IntKind.i64, LT.int IntKind.i64, LT.int IntKind.i64, LT.int IntKind.i64, LT.bool, LT.lst [LT.int IntKind.u8]] r175 (Int.toNat i179) ((0 : Nat) + (1 : Nat) + (1 : Nat)) [F.lit (Value.int IntKind.i64 i199)]) true i200)) else
  (Fn60 m r177 i182 ((0 : Int)) ((4294967295 : Int)) (fun i201 i202 => kx0 (stR [LT.int IntKind.i64, LT.int IntKind.i64, LT.int IntKind.i64, LT.int IntKind.i64, LT.int IntKind.i64, LT.bool, LT.lst [LT.int IntKind.u8]] r175 (Int.toNat i179) ((0 : Nat) + (1 : Nat) + (2 : Nat)) [F.lit (Value.int IntKind.i64 i201)]) true i202)))))) else
  (none))) else
  (kx0 r175 false i178)
def brJn33_2 (m : Nat) (L : LTbl) (R : Type) (vs : List V) (k : Ex → List V → Option R) : Option R := match vs with
  | [V.ref (56 : Nat) (0 : Nat), V.own [LT.int IntKind.i64, LT.int IntKind.i64, LT.int IntKind.i64, LT.int IntKind.i64, LT.int IntKind.i64, LT.bool, LT.lst [LT.int IntKind.u8]] r175, V.undef, V.f (F.lit (Value.bool b176)), V.obj [V.f (F.lst [LT.int IntKind.i64] r177), V.f (F.lit (Value.int IntKind.i64 i178))], V.undef] => Jn33_2 m (fun r203 b204 i205 => k Ex.normal [V.ref (56 : Nat) (0 : Nat), V.own [LT.int IntKind.i64, LT.int IntKind.i64, LT.int IntKind.i64, LT.int IntKind.i64, LT.int IntKind.i64, LT.bool, LT.lst [LT.int IntKind.u8]] r203, V.undef, V.f (F.lit (Value.bool b204)), V.obj [V.f (F.lst [LT.int IntKind.i64] r177), V.f (F.lit (Value.int IntKind.i64 i205))], V.undef]) r175 b176 r177 i178
  | _ => L R 33 2 vs k
set_option maxRecDepth 100000 in
theorem evJn33_2 (m : Nat) (R : Type) (r175 : Abs.Rows) (b176 : Bool) (r177 : Abs.Rows) (i178 : Int) (k : Ex → List V → Option R) : codeK Try.prog H (T7 m) 33 (L5 m) 3 (loopBody Try.prog 33 2) (mkEnv [0, 5, 9, 16, 56, 57] [V.ref (56 : Nat) (0 : Nat), V.own [LT.int IntKind.i64, LT.int IntKind.i64, LT.int IntKind.i64, LT.int IntKind.i64, LT.int IntKind.i64, LT.bool, LT.lst [LT.int IntKind.u8]] r175, V.undef, V.f (F.lit (Value.bool b176)), V.obj [V.f (F.lst [LT.int IntKind.i64] r177), V.f (F.lit (Value.int IntKind.i64 i178))], V.undef] 0 (H.len 33)) (fun e env' => k e (vals [0, 5, 9, 16, 56, 57] env')) = Jn33_2 m (fun r203 b204 i205 => k Ex.normal [V.ref (56 : Nat) (0 : Nat), V.own [LT.int IntKind.i64, LT.int IntKind.i64, LT.int IntKind.i64, LT.int IntKind.i64, LT.int IntKind.i64, LT.bool, LT.lst [LT.int IntKind.u8]] r203, V.undef, V.f (F.lit (Value.bool b204)), V.obj [V.f (F.lst [LT.int IntKind.i64] r177), V.f (F.lit (Value.int IntKind.i64 i205))], V.undef]) r175 b176 r177 i178 := by kernel_rfl
def L6 (m : Nat) : LTbl := addJ 33 2 (brJn33_2 m (L5 m)) (L5 m)
theorem okL6 (m : Nat) : LTOk Try.prog H (L6 m) := addJ_ok (okT7 m) hM (okL5 m) (l := [0, 5, 9, 16, 56, 57]) (by kernel_rfl) (by kernel_rfl) fun R vs k x h => by
    unfold brJn33_2 at h
    split at h
    · exact .inl ((evJn33_2 m R _ _ _ _ k).trans h)
    · exact .inr h

/-- (*hookflash/flashmake.Stream).Arrivals -/
def Fn33 {R : Type} (m : Nat) : Abs.Rows → Int → Int → (Abs.Rows → Int → Option R) → Option R := match m with
  | 0 => fun _ _ _ _ => none
  | m + 1 => fun r2 i3 i4 k =>
  Fn71 m r2 i3 i4 (fun r171 i172 => bif decide ((↑(List.length r171) : Int) > (0 : Int)) then (Fn39 m r2 i172 ((12 : Int)) (fun b173 i174 => Jn33_2 m (fun r206 b207 i208 => k r206 i208) r171 b173 r2 i174)) else
  (Jn33_2 m (fun r209 b210 i211 => k r209 i211) r171 false r2 i172))
def brFn33 (m : Nat) (T : Tbl) (R : Type) (vs : List V) (k : V → List V → Option R) : Option R := match vs with
  | [V.obj [V.f (F.lst [LT.int IntKind.i64] r2), V.f (F.lit (Value.int IntKind.i64 i3))], V.f (F.lit (Value.int IntKind.i64 i4))] => Fn33 m r2 i3 i4 (fun r212 i213 => k (V.own [LT.int IntKind.i64, LT.int IntKind.i64, LT.int IntKind.i64, LT.int IntKind.i64, LT.int IntKind.i64, LT.bool, LT.lst [LT.int IntKind.u8]] r212) [V.obj [V.f (F.lst [LT.int IntKind.i64] r2), V.f (F.lit (Value.int IntKind.i64 i213))], V.undef])
  | _ => T R 33 vs k
set_option maxRecDepth 100000 in
theorem evFn33 (m : Nat) (R : Type) (r2 : Abs.Rows) (i3 : Int) (i4 : Int) (k : V → List V → Option R) : runK Try.prog H (T7 m) (L6 m) 33 [V.obj [V.f (F.lst [LT.int IntKind.i64] r2), V.f (F.lit (Value.int IntKind.i64 i3))], V.f (F.lit (Value.int IntKind.i64 i4))] k = Fn33 (m + 1) r2 i3 i4 (fun r212 i213 => k (V.own [LT.int IntKind.i64, LT.int IntKind.i64, LT.int IntKind.i64, LT.int IntKind.i64, LT.int IntKind.i64, LT.bool, LT.lst [LT.int IntKind.u8]] r212) [V.obj [V.f (F.lst [LT.int IntKind.i64] r2), V.f (F.lit (Value.int IntKind.i64 i213))], V.undef]) := by kernel_rfl
def T8 (m : Nat) : Tbl := addT 33 (brFn33 m (T7 m)) (T7 m)
theorem okT8 (m : Nat) : TblOk Try.prog (T8 m) := addT_ok (okT7 m) fun R vs k x h => by
  unfold brFn33 at h
  split at h
  · cases m with
    | zero => cases h
    | succ m => exact runK_some (okT7 m) hM (okL6 m) ((evFn33 m R _ _ _ k).trans h)
  · exact okT7 m R 33 _ k x h

/-- hookflash/number.IsMoment -/
def Fn79 {R : Type} (m : Nat) : Int → (Bool → Option R) → Option R := match m with
  | 0 => fun _ _ => none
  | m + 1 => fun i229 k =>
  bif decide (i229 ≥ (0 : Int)) then (k (decide (i229 < (345686400000 : Int)))) else
  (k false)
def brFn79 (m : Nat) (T : Tbl) (R : Type) (vs : List V) (k : V → List V → Option R) : Option R := match vs with
  | [V.f (F.lit (Value.int IntKind.i64 i229))] => Fn79 m i229 (fun b230 => k (V.f (F.lit (Value.bool b230))) [V.undef])
  | _ => T R 79 vs k
set_option maxRecDepth 100000 in
theorem evFn79 (m : Nat) (R : Type) (i229 : Int) (k : V → List V → Option R) : runK Try.prog H (T8 m) (L6 m) 79 [V.f (F.lit (Value.int IntKind.i64 i229))] k = Fn79 (m + 1) i229 (fun b230 => k (V.f (F.lit (Value.bool b230))) [V.undef]) := by kernel_rfl
def T9 (m : Nat) : Tbl := addT 79 (brFn79 m (T8 m)) (T8 m)
theorem okT9 (m : Nat) : TblOk Try.prog (T9 m) := addT_ok (okT8 m) fun R vs k x h => by
  unfold brFn79 at h
  split at h
  · cases m with
    | zero => cases h
    | succ m => exact runK_some (okT8 m) hM (okL6 m) ((evFn79 m R _ k).trans h)
  · exact okT8 m R 79 _ k x h

/-- hookflash/media.within -/
def Fn67 {R : Type} (m : Nat) : Int → Int → Int → (Bool → Option R) → Option R := match m with
  | 0 => fun _ _ _ _ => none
  | m + 1 => fun i238 i239 i240 k =>
  bif decide (i238 ≥ i239) then (k (decide (i238 ≤ i240))) else
  (k false)
def brFn67 (m : Nat) (T : Tbl) (R : Type) (vs : List V) (k : V → List V → Option R) : Option R := match vs with
  | [V.f (F.lit (Value.int IntKind.i64 i238)), V.f (F.lit (Value.int IntKind.i64 i239)), V.f (F.lit (Value.int IntKind.i64 i240))] => Fn67 m i238 i239 i240 (fun b241 => k (V.f (F.lit (Value.bool b241))) [V.undef, V.undef, V.undef])
  | _ => T R 67 vs k
set_option maxRecDepth 100000 in
theorem evFn67 (m : Nat) (R : Type) (i238 : Int) (i239 : Int) (i240 : Int) (k : V → List V → Option R) : runK Try.prog H (T9 m) (L6 m) 67 [V.f (F.lit (Value.int IntKind.i64 i238)), V.f (F.lit (Value.int IntKind.i64 i239)), V.f (F.lit (Value.int IntKind.i64 i240))] k = Fn67 (m + 1) i238 i239 i240 (fun b241 => k (V.f (F.lit (Value.bool b241))) [V.undef, V.undef, V.undef]) := by kernel_rfl
def T10 (m : Nat) : Tbl := addT 67 (brFn67 m (T9 m)) (T9 m)
theorem okT10 (m : Nat) : TblOk Try.prog (T10 m) := addT_ok (okT9 m) fun R vs k x h => by
  unfold brFn67 at h
  split at h
  · cases m with
    | zero => cases h
    | succ m => exact runK_some (okT9 m) hM (okL6 m) ((evFn67 m R _ _ _ k).trans h)
  · exact okT9 m R 67 _ k x h

/-- a rest of hookflash/media.CheckPacket -/
def Jn16_1 {R : Type} (m : Nat) (kx0 : Int → Bool → Option R) (kx1 : Bool → Option R) (i243 : Int) (i244 : Int) (i245 : Int) (i246 : Int) (b247 : Bool) (r248 : Abs.Rows) (i249 : Int) (b250 : Bool) : Option R :=
  bif b250 then (kx0 ((1 : Int)) true) else
  (bif decide ((↑(List.length r248) : Int) > (1000 : Int)) then (kx0 ((2 : Int)) false) else
  (kx1 false))
def brJn16_1 (m : Nat) (L : LTbl) (R : Type) (vs : List V) (k : Ex → List V → Option R) : Option R := match vs with
  | [V.obj [V.f (F.lit (Value.int IntKind.i64 i243)), V.f (F.lit (Value.int IntKind.i64 i244)), V.f (F.lit (Value.int IntKind.i64 i245)), V.f (F.lit (Value.int IntKind.i64 i246)), V.f (F.lit (Value.bool b247)), V.f (F.lst [LT.int IntKind.u8] r248)], V.f (F.lit (Value.int IntKind.i64 i249)), V.f (F.lit (Value.bool b250)), V.undef] => Jn16_1 m (fun i251 b252 => k Ex.ret [V.obj [V.f (F.lit (Value.int IntKind.i64 i243)), V.f (F.lit (Value.int IntKind.i64 i244)), V.f (F.lit (Value.int IntKind.i64 i245)), V.f (F.lit (Value.int IntKind.i64 i246)), V.f (F.lit (Value.bool b247)), V.f (F.lst [LT.int IntKind.u8] r248)], V.f (F.lit (Value.int IntKind.i64 i251)), V.f (F.lit (Value.bool b252)), V.undef]) (fun b253 => k Ex.normal [V.obj [V.f (F.lit (Value.int IntKind.i64 i243)), V.f (F.lit (Value.int IntKind.i64 i244)), V.f (F.lit (Value.int IntKind.i64 i245)), V.f (F.lit (Value.int IntKind.i64 i246)), V.f (F.lit (Value.bool b247)), V.f (F.lst [LT.int IntKind.u8] r248)], V.f (F.lit (Value.int IntKind.i64 i249)), V.f (F.lit (Value.bool b253)), V.undef]) i243 i244 i245 i246 b247 r248 i249 b250
  | _ => L R 16 1 vs k
set_option maxRecDepth 100000 in
theorem evJn16_1 (m : Nat) (R : Type) (i243 : Int) (i244 : Int) (i245 : Int) (i246 : Int) (b247 : Bool) (r248 : Abs.Rows) (i249 : Int) (b250 : Bool) (k : Ex → List V → Option R) : codeK Try.prog H (T10 m) 16 (L6 m) 2 (loopBody Try.prog 16 1) (mkEnv [1, 2, 3, 31] [V.obj [V.f (F.lit (Value.int IntKind.i64 i243)), V.f (F.lit (Value.int IntKind.i64 i244)), V.f (F.lit (Value.int IntKind.i64 i245)), V.f (F.lit (Value.int IntKind.i64 i246)), V.f (F.lit (Value.bool b247)), V.f (F.lst [LT.int IntKind.u8] r248)], V.f (F.lit (Value.int IntKind.i64 i249)), V.f (F.lit (Value.bool b250)), V.undef] 0 (H.len 16)) (fun e env' => k e (vals [1, 2, 3, 31] env')) = Jn16_1 m (fun i251 b252 => k Ex.ret [V.obj [V.f (F.lit (Value.int IntKind.i64 i243)), V.f (F.lit (Value.int IntKind.i64 i244)), V.f (F.lit (Value.int IntKind.i64 i245)), V.f (F.lit (Value.int IntKind.i64 i246)), V.f (F.lit (Value.bool b247)), V.f (F.lst [LT.int IntKind.u8] r248)], V.f (F.lit (Value.int IntKind.i64 i251)), V.f (F.lit (Value.bool b252)), V.undef]) (fun b253 => k Ex.normal [V.obj [V.f (F.lit (Value.int IntKind.i64 i243)), V.f (F.lit (Value.int IntKind.i64 i244)), V.f (F.lit (Value.int IntKind.i64 i245)), V.f (F.lit (Value.int IntKind.i64 i246)), V.f (F.lit (Value.bool b247)), V.f (F.lst [LT.int IntKind.u8] r248)], V.f (F.lit (Value.int IntKind.i64 i249)), V.f (F.lit (Value.bool b253)), V.undef]) i243 i244 i245 i246 b247 r248 i249 b250 := by kernel_rfl
def L7 (m : Nat) : LTbl := addJ 16 1 (brJn16_1 m (L6 m)) (L6 m)
theorem okL7 (m : Nat) : LTOk Try.prog H (L7 m) := addJ_ok (okT10 m) hM (okL6 m) (l := [1, 2, 3, 31]) (by kernel_rfl) (by kernel_rfl) fun R vs k x h => by
    unfold brJn16_1 at h
    split at h
    · exact .inl ((evJn16_1 m R _ _ _ _ _ _ _ _ k).trans h)
    · exact .inr h

/-- hookflash/media.CheckPacket -/
def Fn16 {R : Type} (m : Nat) : Int → Int → Int → Int → Bool → Abs.Rows → (Int → Option R) → Option R := match m with
  | 0 => fun _ _ _ _ _ _ _ => none
  | m + 1 => fun i232 i233 i234 i235 b236 r237 k =>
  Fn67 m i232 ((0 : Int)) ((127 : Int)) (fun b242 => bif !b242 then (Jn16_1 m (fun i254 b255 => k i254) (fun b256 => k ((0 : Int))) i232 i233 i234 i235 b236 r237 ((0 : Int)) true) else
  (Fn67 m i233 ((0 : Int)) ((65535 : Int)) (fun b257 => bif !b257 then (Jn16_1 m (fun i258 b259 => k i258) (fun b260 => k ((0 : Int))) i232 i233 i234 i235 b236 r237 ((0 : Int)) true) else
  (Fn67 m i234 ((0 : Int)) ((4294967295 : Int)) (fun b261 => bif !b261 then (Jn16_1 m (fun i262 b263 => k i262) (fun b264 => k ((0 : Int))) i232 i233 i234 i235 b236 r237 ((0 : Int)) true) else
  (Fn67 m i235 ((0 : Int)) ((4294967295 : Int)) (fun b265 => Jn16_1 m (fun i266 b267 => k i266) (fun b268 => k ((0 : Int))) i232 i233 i234 i235 b236 r237 ((0 : Int)) (!b265))))))))
def brFn16 (m : Nat) (T : Tbl) (R : Type) (vs : List V) (k : V → List V → Option R) : Option R := match vs with
  | [V.agg [V.f (F.lit (Value.int IntKind.i64 i232)), V.f (F.lit (Value.int IntKind.i64 i233)), V.f (F.lit (Value.int IntKind.i64 i234)), V.f (F.lit (Value.int IntKind.i64 i235)), V.f (F.lit (Value.bool b236)), V.f (F.lst [LT.int IntKind.u8] r237)]] => Fn16 m i232 i233 i234 i235 b236 r237 (fun i269 => k (V.f (F.lit (Value.int IntKind.i64 i269))) [V.undef])
  | _ => T R 16 vs k
set_option maxRecDepth 100000 in
theorem evFn16 (m : Nat) (R : Type) (i232 : Int) (i233 : Int) (i234 : Int) (i235 : Int) (b236 : Bool) (r237 : Abs.Rows) (k : V → List V → Option R) : runK Try.prog H (T10 m) (L7 m) 16 [V.agg [V.f (F.lit (Value.int IntKind.i64 i232)), V.f (F.lit (Value.int IntKind.i64 i233)), V.f (F.lit (Value.int IntKind.i64 i234)), V.f (F.lit (Value.int IntKind.i64 i235)), V.f (F.lit (Value.bool b236)), V.f (F.lst [LT.int IntKind.u8] r237)]] k = Fn16 (m + 1) i232 i233 i234 i235 b236 r237 (fun i269 => k (V.f (F.lit (Value.int IntKind.i64 i269))) [V.undef]) := by kernel_rfl
def T11 (m : Nat) : Tbl := addT 16 (brFn16 m (T10 m)) (T10 m)
theorem okT11 (m : Nat) : TblOk Try.prog (T11 m) := addT_ok (okT10 m) fun R vs k x h => by
  unfold brFn16 at h
  split at h
  · cases m with
    | zero => cases h
    | succ m => exact runK_some (okT10 m) hM (okL7 m) ((evFn16 m R _ _ _ _ _ _ k).trans h)
  · exact okT10 m R 16 _ k x h

/-- a rest of hookflash/media.CheckArrivals -/
def Jn49_18 {R : Type} (m : Nat) (kx0 : Int → Option R) (kx1 : Option R) (r271 : Abs.Rows) (i272 : Int) (i273 : Int) (i274 : Int) (i275 : Int) (i276 : Int) (i277 : Int) (b278 : Bool) (r279 : Abs.Rows) (r280 : Abs.Rows) (i281 : Int) (i282 : Int) : Option R :=
  bif decide ((0 : Int) ≤ (0 : Int) ∧ (0 : Int) < (↑(List.length r271) : Int)) then (bif i277 != fI r271 (Int.toNat (0 : Int)) (4 : Nat) then (kx0 ((13 : Int))) else
  (kx1 )) else
  (none)
def brJn49_18 (m : Nat) (L : LTbl) (R : Type) (vs : List V) (k : Ex → List V → Option R) : Option R := match vs with
  | [V.bor [LT.int IntKind.i64, LT.int IntKind.i64, LT.int IntKind.i64, LT.int IntKind.i64, LT.int IntKind.i64, LT.bool, LT.lst [LT.int IntKind.u8]] r271, V.f (F.lit (Value.int IntKind.i64 i272)), V.obj [V.f (F.lit (Value.int IntKind.i64 i273)), V.f (F.lit (Value.int IntKind.i64 i274)), V.f (F.lit (Value.int IntKind.i64 i275)), V.f (F.lit (Value.int IntKind.i64 i276)), V.f (F.lit (Value.int IntKind.i64 i277)), V.f (F.lit (Value.bool b278)), V.f (F.lst [LT.int IntKind.u8] r279)], V.bor [LT.int IntKind.i64, LT.int IntKind.i64, LT.int IntKind.i64, LT.int IntKind.i64, LT.int IntKind.i64, LT.bool, LT.lst [LT.int IntKind.u8]] r280, V.f (F.lit (Value.int IntKind.i64 i281)), V.f (F.lit (Value.int IntKind.i64 i282)), V.undef] => Jn49_18 m (fun i283 => k Ex.ret [V.bor [LT.int IntKind.i64, LT.int IntKind.i64, LT.int IntKind.i64, LT.int IntKind.i64, LT.int IntKind.i64, LT.bool, LT.lst [LT.int IntKind.u8]] r271, V.f (F.lit (Value.int IntKind.i64 i283)), V.obj [V.f (F.lit (Value.int IntKind.i64 i273)), V.f (F.lit (Value.int IntKind.i64 i274)), V.f (F.lit (Value.int IntKind.i64 i275)), V.f (F.lit (Value.int IntKind.i64 i276)), V.f (F.lit (Value.int IntKind.i64 i277)), V.f (F.lit (Value.bool b278)), V.f (F.lst [LT.int IntKind.u8] r279)], V.bor [LT.int IntKind.i64, LT.int IntKind.i64, LT.int IntKind.i64, LT.int IntKind.i64, LT.int IntKind.i64, LT.bool, LT.lst [LT.int IntKind.u8]] r280, V.f (F.lit (Value.int IntKind.i64 i281)), V.f (F.lit (Value.int IntKind.i64 i282)), V.undef]) (k Ex.normal [V.bor [LT.int IntKind.i64, LT.int IntKind.i64, LT.int IntKind.i64, LT.int IntKind.i64, LT.int IntKind.i64, LT.bool, LT.lst [LT.int IntKind.u8]] r271, V.f (F.lit (Value.int IntKind.i64 i272)), V.obj [V.f (F.lit (Value.int IntKind.i64 i273)), V.f (F.lit (Value.int IntKind.i64 i274)), V.f (F.lit (Value.int IntKind.i64 i275)), V.f (F.lit (Value.int IntKind.i64 i276)), V.f (F.lit (Value.int IntKind.i64 i277)), V.f (F.lit (Value.bool b278)), V.f (F.lst [LT.int IntKind.u8] r279)], V.bor [LT.int IntKind.i64, LT.int IntKind.i64, LT.int IntKind.i64, LT.int IntKind.i64, LT.int IntKind.i64, LT.bool, LT.lst [LT.int IntKind.u8]] r280, V.f (F.lit (Value.int IntKind.i64 i281)), V.f (F.lit (Value.int IntKind.i64 i282)), V.undef]) r271 i272 i273 i274 i275 i276 i277 b278 r279 r280 i281 i282
  | _ => L R 49 18 vs k
set_option maxRecDepth 100000 in
theorem evJn49_18 (m : Nat) (R : Type) (r271 : Abs.Rows) (i272 : Int) (i273 : Int) (i274 : Int) (i275 : Int) (i276 : Int) (i277 : Int) (b278 : Bool) (r279 : Abs.Rows) (r280 : Abs.Rows) (i281 : Int) (i282 : Int) (k : Ex → List V → Option R) : codeK Try.prog H (T11 m) 49 (L7 m) 19 (loopBody Try.prog 49 18) (mkEnv [0, 2, 4, 9, 10, 11, 49] [V.bor [LT.int IntKind.i64, LT.int IntKind.i64, LT.int IntKind.i64, LT.int IntKind.i64, LT.int IntKind.i64, LT.bool, LT.lst [LT.int IntKind.u8]] r271, V.f (F.lit (Value.int IntKind.i64 i272)), V.obj [V.f (F.lit (Value.int IntKind.i64 i273)), V.f (F.lit (Value.int IntKind.i64 i274)), V.f (F.lit (Value.int IntKind.i64 i275)), V.f (F.lit (Value.int IntKind.i64 i276)), V.f (F.lit (Value.int IntKind.i64 i277)), V.f (F.lit (Value.bool b278)), V.f (F.lst [LT.int IntKind.u8] r279)], V.bor [LT.int IntKind.i64, LT.int IntKind.i64, LT.int IntKind.i64, LT.int IntKind.i64, LT.int IntKind.i64, LT.bool, LT.lst [LT.int IntKind.u8]] r280, V.f (F.lit (Value.int IntKind.i64 i281)), V.f (F.lit (Value.int IntKind.i64 i282)), V.undef] 0 (H.len 49)) (fun e env' => k e (vals [0, 2, 4, 9, 10, 11, 49] env')) = Jn49_18 m (fun i283 => k Ex.ret [V.bor [LT.int IntKind.i64, LT.int IntKind.i64, LT.int IntKind.i64, LT.int IntKind.i64, LT.int IntKind.i64, LT.bool, LT.lst [LT.int IntKind.u8]] r271, V.f (F.lit (Value.int IntKind.i64 i283)), V.obj [V.f (F.lit (Value.int IntKind.i64 i273)), V.f (F.lit (Value.int IntKind.i64 i274)), V.f (F.lit (Value.int IntKind.i64 i275)), V.f (F.lit (Value.int IntKind.i64 i276)), V.f (F.lit (Value.int IntKind.i64 i277)), V.f (F.lit (Value.bool b278)), V.f (F.lst [LT.int IntKind.u8] r279)], V.bor [LT.int IntKind.i64, LT.int IntKind.i64, LT.int IntKind.i64, LT.int IntKind.i64, LT.int IntKind.i64, LT.bool, LT.lst [LT.int IntKind.u8]] r280, V.f (F.lit (Value.int IntKind.i64 i281)), V.f (F.lit (Value.int IntKind.i64 i282)), V.undef]) (k Ex.normal [V.bor [LT.int IntKind.i64, LT.int IntKind.i64, LT.int IntKind.i64, LT.int IntKind.i64, LT.int IntKind.i64, LT.bool, LT.lst [LT.int IntKind.u8]] r271, V.f (F.lit (Value.int IntKind.i64 i272)), V.obj [V.f (F.lit (Value.int IntKind.i64 i273)), V.f (F.lit (Value.int IntKind.i64 i274)), V.f (F.lit (Value.int IntKind.i64 i275)), V.f (F.lit (Value.int IntKind.i64 i276)), V.f (F.lit (Value.int IntKind.i64 i277)), V.f (F.lit (Value.bool b278)), V.f (F.lst [LT.int IntKind.u8] r279)], V.bor [LT.int IntKind.i64, LT.int IntKind.i64, LT.int IntKind.i64, LT.int IntKind.i64, LT.int IntKind.i64, LT.bool, LT.lst [LT.int IntKind.u8]] r280, V.f (F.lit (Value.int IntKind.i64 i281)), V.f (F.lit (Value.int IntKind.i64 i282)), V.undef]) r271 i272 i273 i274 i275 i276 i277 b278 r279 r280 i281 i282 := by kernel_rfl
def L8 (m : Nat) : LTbl := addJ 49 18 (brJn49_18 m (L7 m)) (L7 m)
theorem okL8 (m : Nat) : LTOk Try.prog H (L8 m) := addJ_ok (okT11 m) hM (okL7 m) (l := [0, 2, 4, 9, 10, 11, 49]) (by kernel_rfl) (by kernel_rfl) fun R vs k x h => by
    unfold brJn49_18 at h
    split at h
    · exact .inl ((evJn49_18 m R _ _ _ _ _ _ _ _ _ _ _ _ k).trans h)
    · exact .inr h

/-- a round of a loop of hookflash/media.CheckArrivals -/
def Lp49_5_step {R : Type} (m : Nat) (kx0 : Int → Int → Option R) (kx1 : Int → Option R) (r224 : Abs.Rows) (i225 : Int) (r226 : Abs.Rows) (i227 : Int) (REC : Int → Option R) (i228 : Int) : Option R :=
  bif decide (i228 < i227) then (bif decide ((0 : Int) ≤ i228 ∧ i228 < (↑(List.length r226) : Int)) then (Fn79 m (fI r226 (Int.toNat i228) (0 : Nat)) (fun b231 => bif !b231 then (kx0 ((1 : Int)) i228) else
  (Fn16 m (fI r226 (Int.toNat i228) (1 : Nat)) (fI r226 (Int.toNat i228) (2 : Nat)) (fI r226 (Int.toNat i228) (3 : Nat)) (fI r226 (Int.toNat i228) (4 : Nat)) (fB r226 (Int.toNat i228) (5 : Nat)) (fR r226 (Int.toNat i228) (6 : Nat)) (fun i270 => bif i270 != (0 : Int) then (kx0 i270 i228) else
  (bif decide (i228 > (0 : Int)) then (bif decide ((0 : Int) ≤ IntKind.wrap IntKind.i64 (i228 - (1 : Int)) ∧ IntKind.wrap IntKind.i64 (i228 - (1 : Int)) < (↑(List.length r224) : Int)) then (bif decide (fI r226 (Int.toNat i228) (0 : Nat) < fI r224 (Int.toNat (IntKind.wrap IntKind.i64 (i228 - (1 : Int)))) (0 : Nat)) then (kx0 ((7 : Int)) i228) else
  (Jn49_18 m (fun i284 => kx0 i284 i228) (REC (IntKind.wrap IntKind.i64 (i228 + (1 : Int)))) r224 i225 (fI r226 (Int.toNat i228) (0 : Nat)) (fI r226 (Int.toNat i228) (1 : Nat)) (fI r226 (Int.toNat i228) (2 : Nat)) (fI r226 (Int.toNat i228) (3 : Nat)) (fI r226 (Int.toNat i228) (4 : Nat)) (fB r226 (Int.toNat i228) (5 : Nat)) (fR r226 (Int.toNat i228) (6 : Nat)) r226 i227 i228)) else
  (none)) else
  (Jn49_18 m (fun i285 => kx0 i285 i228) (REC (IntKind.wrap IntKind.i64 (i228 + (1 : Int)))) r224 i225 (fI r226 (Int.toNat i228) (0 : Nat)) (fI r226 (Int.toNat i228) (1 : Nat)) (fI r226 (Int.toNat i228) (2 : Nat)) (fI r226 (Int.toNat i228) (3 : Nat)) (fI r226 (Int.toNat i228) (4 : Nat)) (fB r226 (Int.toNat i228) (5 : Nat)) (fR r226 (Int.toNat i228) (6 : Nat)) r226 i227 i228)))))) else
  (none)) else
  (kx1 i228)
def Lp49_5 {R : Type} (m : Nat) (kx0 : Int → Int → Option R) (kx1 : Int → Option R) (r224 : Abs.Rows) (i225 : Int) (r226 : Abs.Rows) (i227 : Int) : Nat → Int → Option R
  | 0, _ => none
  | n + 1, i228 => Lp49_5_step m kx0 kx1 r224 i225 r226 i227 (Lp49_5 m kx0 kx1 r224 i225 r226 i227 n) i228
def ELp49_5 (m : Nat) (R : Type) : Nat → List V → (Ex → List V → Option R) → Option R
  | 0, _, _ => none
  | n + 1, vs, k => match vs with
    | [V.bor [LT.int IntKind.i64, LT.int IntKind.i64, LT.int IntKind.i64, LT.int IntKind.i64, LT.int IntKind.i64, LT.bool, LT.lst [LT.int IntKind.u8]] r224, V.f (F.lit (Value.int IntKind.i64 i225)), V.bor [LT.int IntKind.i64, LT.int IntKind.i64, LT.int IntKind.i64, LT.int IntKind.i64, LT.int IntKind.i64, LT.bool, LT.lst [LT.int IntKind.u8]] r226, V.f (F.lit (Value.int IntKind.i64 i227)), V.f (F.lit (Value.int IntKind.i64 i228)), V.undef] => Lp49_5_step m (fun i286 i287 => k Ex.ret [V.bor [LT.int IntKind.i64, LT.int IntKind.i64, LT.int IntKind.i64, LT.int IntKind.i64, LT.int IntKind.i64, LT.bool, LT.lst [LT.int IntKind.u8]] r224, V.f (F.lit (Value.int IntKind.i64 i286)), V.bor [LT.int IntKind.i64, LT.int IntKind.i64, LT.int IntKind.i64, LT.int IntKind.i64, LT.int IntKind.i64, LT.bool, LT.lst [LT.int IntKind.u8]] r226, V.f (F.lit (Value.int IntKind.i64 i227)), V.f (F.lit (Value.int IntKind.i64 i287)), V.undef]) (fun i288 => k (Ex.exit (0 : Nat)) [V.bor [LT.int IntKind.i64, LT.int IntKind.i64, LT.int IntKind.i64, LT.int IntKind.i64, LT.int IntKind.i64, LT.bool, LT.lst [LT.int IntKind.u8]] r224, V.f (F.lit (Value.int IntKind.i64 i225)), V.bor [LT.int IntKind.i64, LT.int IntKind.i64, LT.int IntKind.i64, LT.int IntKind.i64, LT.int IntKind.i64, LT.bool, LT.lst [LT.int IntKind.u8]] r226, V.f (F.lit (Value.int IntKind.i64 i227)), V.f (F.lit (Value.int IntKind.i64 i288)), V.undef]) r224 i225 r226 i227 (fun i228 => ELp49_5 m R n [V.bor [LT.int IntKind.i64, LT.int IntKind.i64, LT.int IntKind.i64, LT.int IntKind.i64, LT.int IntKind.i64, LT.bool, LT.lst [LT.int IntKind.u8]] r224, V.f (F.lit (Value.int IntKind.i64 i225)), V.bor [LT.int IntKind.i64, LT.int IntKind.i64, LT.int IntKind.i64, LT.int IntKind.i64, LT.int IntKind.i64, LT.bool, LT.lst [LT.int IntKind.u8]] r226, V.f (F.lit (Value.int IntKind.i64 i227)), V.f (F.lit (Value.int IntKind.i64 i228)), V.undef] k) i228
    | _ => none
def brLp49_5 (m : Nat) (L : LTbl) (R : Type) (vs : List V) (k : Ex → List V → Option R) : Option R := match vs with
  | [V.bor [LT.int IntKind.i64, LT.int IntKind.i64, LT.int IntKind.i64, LT.int IntKind.i64, LT.int IntKind.i64, LT.bool, LT.lst [LT.int IntKind.u8]] r224, V.f (F.lit (Value.int IntKind.i64 i225)), V.bor [LT.int IntKind.i64, LT.int IntKind.i64, LT.int IntKind.i64, LT.int IntKind.i64, LT.int IntKind.i64, LT.bool, LT.lst [LT.int IntKind.u8]] r226, V.f (F.lit (Value.int IntKind.i64 i227)), V.f (F.lit (Value.int IntKind.i64 i228)), V.undef] => Lp49_5 m (fun i286 i287 => k Ex.ret [V.bor [LT.int IntKind.i64, LT.int IntKind.i64, LT.int IntKind.i64, LT.int IntKind.i64, LT.int IntKind.i64, LT.bool, LT.lst [LT.int IntKind.u8]] r224, V.f (F.lit (Value.int IntKind.i64 i286)), V.bor [LT.int IntKind.i64, LT.int IntKind.i64, LT.int IntKind.i64, LT.int IntKind.i64, LT.int IntKind.i64, LT.bool, LT.lst [LT.int IntKind.u8]] r226, V.f (F.lit (Value.int IntKind.i64 i227)), V.f (F.lit (Value.int IntKind.i64 i287)), V.undef]) (fun i288 => k (Ex.exit (0 : Nat)) [V.bor [LT.int IntKind.i64, LT.int IntKind.i64, LT.int IntKind.i64, LT.int IntKind.i64, LT.int IntKind.i64, LT.bool, LT.lst [LT.int IntKind.u8]] r224, V.f (F.lit (Value.int IntKind.i64 i225)), V.bor [LT.int IntKind.i64, LT.int IntKind.i64, LT.int IntKind.i64, LT.int IntKind.i64, LT.int IntKind.i64, LT.bool, LT.lst [LT.int IntKind.u8]] r226, V.f (F.lit (Value.int IntKind.i64 i227)), V.f (F.lit (Value.int IntKind.i64 i288)), V.undef]) r224 i225 r226 i227 m i228
  | _ => L R 49 5 vs k
set_option maxRecDepth 100000 in
theorem stLp49_5 (m n : Nat) (R : Type) (r224 : Abs.Rows) (i225 : Int) (r226 : Abs.Rows) (i227 : Int) (i228 : Int) (k : Ex → List V → Option R) : codeK Try.prog H (T11 m) 49 (L8 m) 6 (loopBody Try.prog 49 5) (mkEnv [0, 2, 9, 10, 11, 49] [V.bor [LT.int IntKind.i64, LT.int IntKind.i64, LT.int IntKind.i64, LT.int IntKind.i64, LT.int IntKind.i64, LT.bool, LT.lst [LT.int IntKind.u8]] r224, V.f (F.lit (Value.int IntKind.i64 i225)), V.bor [LT.int IntKind.i64, LT.int IntKind.i64, LT.int IntKind.i64, LT.int IntKind.i64, LT.int IntKind.i64, LT.bool, LT.lst [LT.int IntKind.u8]] r226, V.f (F.lit (Value.int IntKind.i64 i227)), V.f (F.lit (Value.int IntKind.i64 i228)), V.undef] 0 (H.len 49)) (fun e env' => match e with | .normal => ELp49_5 m R n (vals [0, 2, 9, 10, 11, 49] env') k | e => k e (vals [0, 2, 9, 10, 11, 49] env')) = Lp49_5_step m (fun i286 i287 => k Ex.ret [V.bor [LT.int IntKind.i64, LT.int IntKind.i64, LT.int IntKind.i64, LT.int IntKind.i64, LT.int IntKind.i64, LT.bool, LT.lst [LT.int IntKind.u8]] r224, V.f (F.lit (Value.int IntKind.i64 i286)), V.bor [LT.int IntKind.i64, LT.int IntKind.i64, LT.int IntKind.i64, LT.int IntKind.i64, LT.int IntKind.i64, LT.bool, LT.lst [LT.int IntKind.u8]] r226, V.f (F.lit (Value.int IntKind.i64 i227)), V.f (F.lit (Value.int IntKind.i64 i287)), V.undef]) (fun i288 => k (Ex.exit (0 : Nat)) [V.bor [LT.int IntKind.i64, LT.int IntKind.i64, LT.int IntKind.i64, LT.int IntKind.i64, LT.int IntKind.i64, LT.bool, LT.lst [LT.int IntKind.u8]] r224, V.f (F.lit (Value.int IntKind.i64 i225)), V.bor [LT.int IntKind.i64, LT.int IntKind.i64, LT.int IntKind.i64, LT.int IntKind.i64, LT.int IntKind.i64, LT.bool, LT.lst [LT.int IntKind.u8]] r226, V.f (F.lit (Value.int IntKind.i64 i227)), V.f (F.lit (Value.int IntKind.i64 i288)), V.undef]) r224 i225 r226 i227 (fun i228 => ELp49_5 m R n [V.bor [LT.int IntKind.i64, LT.int IntKind.i64, LT.int IntKind.i64, LT.int IntKind.i64, LT.int IntKind.i64, LT.bool, LT.lst [LT.int IntKind.u8]] r224, V.f (F.lit (Value.int IntKind.i64 i225)), V.bor [LT.int IntKind.i64, LT.int IntKind.i64, LT.int IntKind.i64, LT.int IntKind.i64, LT.int IntKind.i64, LT.bool, LT.lst [LT.int IntKind.u8]] r226, V.f (F.lit (Value.int IntKind.i64 i227)), V.f (F.lit (Value.int IntKind.i64 i228)), V.undef] k) i228 := by kernel_rfl
theorem eqLp49_5 (m : Nat) (R : Type) (r224 : Abs.Rows) (i225 : Int) (r226 : Abs.Rows) (i227 : Int) (k : Ex → List V → Option R) : ∀ (n : Nat) (i228 : Int), ELp49_5 m R n [V.bor [LT.int IntKind.i64, LT.int IntKind.i64, LT.int IntKind.i64, LT.int IntKind.i64, LT.int IntKind.i64, LT.bool, LT.lst [LT.int IntKind.u8]] r224, V.f (F.lit (Value.int IntKind.i64 i225)), V.bor [LT.int IntKind.i64, LT.int IntKind.i64, LT.int IntKind.i64, LT.int IntKind.i64, LT.int IntKind.i64, LT.bool, LT.lst [LT.int IntKind.u8]] r226, V.f (F.lit (Value.int IntKind.i64 i227)), V.f (F.lit (Value.int IntKind.i64 i228)), V.undef] k = Lp49_5 m (fun i286 i287 => k Ex.ret [V.bor [LT.int IntKind.i64, LT.int IntKind.i64, LT.int IntKind.i64, LT.int IntKind.i64, LT.int IntKind.i64, LT.bool, LT.lst [LT.int IntKind.u8]] r224, V.f (F.lit (Value.int IntKind.i64 i286)), V.bor [LT.int IntKind.i64, LT.int IntKind.i64, LT.int IntKind.i64, LT.int IntKind.i64, LT.int IntKind.i64, LT.bool, LT.lst [LT.int IntKind.u8]] r226, V.f (F.lit (Value.int IntKind.i64 i227)), V.f (F.lit (Value.int IntKind.i64 i287)), V.undef]) (fun i288 => k (Ex.exit (0 : Nat)) [V.bor [LT.int IntKind.i64, LT.int IntKind.i64, LT.int IntKind.i64, LT.int IntKind.i64, LT.int IntKind.i64, LT.bool, LT.lst [LT.int IntKind.u8]] r224, V.f (F.lit (Value.int IntKind.i64 i225)), V.bor [LT.int IntKind.i64, LT.int IntKind.i64, LT.int IntKind.i64, LT.int IntKind.i64, LT.int IntKind.i64, LT.bool, LT.lst [LT.int IntKind.u8]] r226, V.f (F.lit (Value.int IntKind.i64 i227)), V.f (F.lit (Value.int IntKind.i64 i288)), V.undef]) r224 i225 r226 i227 n i228
  | 0, _ => rfl
  | n + 1, i228 => by
    simp only [ELp49_5, Lp49_5]
    congr 1
    funext i228
    exact eqLp49_5 m R r224 i225 r226 i227 k n i228
def L9 (m : Nat) : LTbl := addB 49 5 (brLp49_5 m (L8 m)) (L8 m)
theorem okL9 (m : Nat) : LTOk Try.prog H (L9 m) := addB_ok (okT11 m) hM (okL8 m) (l := [0, 2, 9, 10, 11, 49]) (by kernel_rfl) (by kernel_rfl) m (fun R n vs k => ELp49_5 m R n vs k) (fun R vs k => rfl) (fun R n vs k x h => by
      simp only [ELp49_5] at h
      split at h
      · exact (stLp49_5 m n R _ _ _ _ _ k).trans h
      · cases h) fun R vs k x h => by
    unfold brLp49_5 at h
    split at h
    · exact .inl ((eqLp49_5 m R _ _ _ _ k m _).trans h)
    · exact .inr h

/-- hookflash/media.CheckArrivals -/
def Fn49 {R : Type} (m : Nat) : Abs.Rows → (Int → Option R) → Option R := match m with
  | 0 => fun _ _ => none
  | m + 1 => fun r223 k =>
  bif decide ((↑(List.length r223) : Int) > (2000 : Int)) then (k ((2 : Int))) else
  (Lp49_5 m (fun i289 i290 => k i289) (fun i291 => k ((0 : Int))) r223 ((0 : Int)) r223 ((↑(List.length r223) : Int)) m ((0 : Int)))
def brFn49 (m : Nat) (T : Tbl) (R : Type) (vs : List V) (k : V → List V → Option R) : Option R := match vs with
  | [V.bor [LT.int IntKind.i64, LT.int IntKind.i64, LT.int IntKind.i64, LT.int IntKind.i64, LT.int IntKind.i64, LT.bool, LT.lst [LT.int IntKind.u8]] r223] => Fn49 m r223 (fun i292 => k (V.f (F.lit (Value.int IntKind.i64 i292))) [V.undef])
  | _ => T R 49 vs k
set_option maxRecDepth 100000 in
theorem evFn49 (m : Nat) (R : Type) (r223 : Abs.Rows) (k : V → List V → Option R) : runK Try.prog H (T11 m) (L9 m) 49 [V.bor [LT.int IntKind.i64, LT.int IntKind.i64, LT.int IntKind.i64, LT.int IntKind.i64, LT.int IntKind.i64, LT.bool, LT.lst [LT.int IntKind.u8]] r223] k = Fn49 (m + 1) r223 (fun i292 => k (V.f (F.lit (Value.int IntKind.i64 i292))) [V.undef]) := by kernel_rfl
def T12 (m : Nat) : Tbl := addT 49 (brFn49 m (T11 m)) (T11 m)
theorem okT12 (m : Nat) : TblOk Try.prog (T12 m) := addT_ok (okT11 m) fun R vs k x h => by
  unfold brFn49 at h
  split at h
  · cases m with
    | zero => cases h
    | succ m => exact runK_some (okT11 m) hM (okL9 m) ((evFn49 m R _ k).trans h)
  · exact okT11 m R 49 _ k x h

/-- hookflash/media.apart -/
def Fn72 {R : Type} (m : Nat) : Int → Int → (Int → Option R) → Option R := match m with
  | 0 => fun _ _ _ => none
  | m + 1 => fun i308 i309 k =>
  bif decide (bitsOp IntKind.i64 (BitVec.ofInt (64 : Nat) (IntKind.wrap IntKind.i64 (i308 - i309)) &&& BitVec.ofInt (64 : Nat) (4294967295 : Int)) ≥ (2147483648 : Int)) then (k (IntKind.wrap IntKind.i64 (bitsOp IntKind.i64 (BitVec.ofInt (64 : Nat) (IntKind.wrap IntKind.i64 (i308 - i309)) &&& BitVec.ofInt (64 : Nat) (4294967295 : Int)) - (4294967296 : Int)))) else
  (k (bitsOp IntKind.i64 (BitVec.ofInt (64 : Nat) (IntKind.wrap IntKind.i64 (i308 - i309)) &&& BitVec.ofInt (64 : Nat) (4294967295 : Int))))
def brFn72 (m : Nat) (T : Tbl) (R : Type) (vs : List V) (k : V → List V → Option R) : Option R := match vs with
  | [V.f (F.lit (Value.int IntKind.i64 i308)), V.f (F.lit (Value.int IntKind.i64 i309))] => Fn72 m i308 i309 (fun i310 => k (V.f (F.lit (Value.int IntKind.i64 i310))) [V.undef, V.undef])
  | _ => T R 72 vs k
set_option maxRecDepth 100000 in
theorem evFn72 (m : Nat) (R : Type) (i308 : Int) (i309 : Int) (k : V → List V → Option R) : runK Try.prog H (T12 m) (L9 m) 72 [V.f (F.lit (Value.int IntKind.i64 i308)), V.f (F.lit (Value.int IntKind.i64 i309))] k = Fn72 (m + 1) i308 i309 (fun i310 => k (V.f (F.lit (Value.int IntKind.i64 i310))) [V.undef, V.undef]) := by kernel_rfl
def T13 (m : Nat) : Tbl := addT 72 (brFn72 m (T12 m)) (T12 m)
theorem okT13 (m : Nat) : TblOk Try.prog (T13 m) := addT_ok (okT12 m) fun R vs k x h => by
  unfold brFn72 at h
  split at h
  · cases m with
    | zero => cases h
    | succ m => exact runK_some (okT12 m) hM (okL9 m) ((evFn72 m R _ _ k).trans h)
  · exact okT12 m R 72 _ k x h

/-- hookflash/media.Expand -/
def Fn32 {R : Type} (m : Nat) : Int → (Int → Option R) → Option R := match m with
  | 0 => fun _ _ => none
  | m + 1 => fun i351 k =>
  bif decide ((0 : Int) ≤ Int.tmod (IntKind.wrap IntKind.i64 (Int.tdiv (IntKind.wrap IntKind.i64 ((255 : Int) - IntKind.wrap IntKind.i64 i351)) (16 : Int))) (8 : Int)) then (letV (IntKind.wrap IntKind.i64 (IntKind.wrap IntKind.i64 (IntKind.wrap IntKind.i64 ((2 : Int) * Int.tmod (IntKind.wrap IntKind.i64 ((255 : Int) - IntKind.wrap IntKind.i64 i351)) (16 : Int)) + (33 : Int)) * (2 : Int) ^ min (Int.toNat (Int.tmod (IntKind.wrap IntKind.i64 (Int.tdiv (IntKind.wrap IntKind.i64 ((255 : Int) - IntKind.wrap IntKind.i64 i351)) (16 : Int))) (8 : Int))) (64 : Nat))) (fun i352 => bif IntKind.wrap IntKind.i64 (Int.tdiv (IntKind.wrap IntKind.i64 ((255 : Int) - IntKind.wrap IntKind.i64 i351)) (128 : Int)) == (1 : Int) then (k (IntKind.wrap IntKind.i64 (IntKind.wrap IntKind.i64 ((0 : Int) - IntKind.wrap IntKind.i64 (IntKind.wrap IntKind.i64 (i352 - (33 : Int)) * (4 : Int))) - (1 : Int)))) else
  (k (IntKind.wrap IntKind.i64 (IntKind.wrap IntKind.i64 (i352 - (33 : Int)) * (4 : Int)))))) else
  (none)
def brFn32 (m : Nat) (T : Tbl) (R : Type) (vs : List V) (k : V → List V → Option R) : Option R := match vs with
  | [V.f (F.lit (Value.int IntKind.u8 i351))] => Fn32 m i351 (fun i353 => k (V.f (F.lit (Value.int IntKind.i64 i353))) [V.undef])
  | _ => T R 32 vs k
set_option maxRecDepth 100000 in
theorem evFn32 (m : Nat) (R : Type) (i351 : Int) (k : V → List V → Option R) : runK Try.prog H (T13 m) (L9 m) 32 [V.f (F.lit (Value.int IntKind.u8 i351))] k = Fn32 (m + 1) i351 (fun i353 => k (V.f (F.lit (Value.int IntKind.i64 i353))) [V.undef]) := by kernel_rfl
def T14 (m : Nat) : Tbl := addT 32 (brFn32 m (T13 m)) (T13 m)
theorem okT14 (m : Nat) : TblOk Try.prog (T14 m) := addT_ok (okT13 m) fun R vs k x h => by
  unfold brFn32 at h
  split at h
  · cases m with
    | zero => cases h
    | succ m => exact runK_some (okT13 m) hM (okL9 m) ((evFn32 m R _ k).trans h)
  · exact okT13 m R 32 _ k x h

/-- a rest of hookflash/media.PlayOut -/
def Jn34_24 {R : Type} (m : Nat) (kx0 : Abs.Rows → Abs.Rows → Bool → Option R) (r330 : Abs.Rows) (i331 : Int) (r332 : Abs.Rows) (r333 : Abs.Rows) (i334 : Int) (i335 : Int) (i336 : Int) (i337 : Int) (i338 : Int) (b339 : Bool) (r340 : Abs.Rows) (i341 : Int) (i342 : Int) (i343 : Int) (r344 : Abs.Rows) (i345 : Int) (i346 : Int) (r347 : Abs.Rows) (i348 : Int) (i349 : Int) (b350 : Bool) : Option R :=
  bif b350 then (Fn32 m i342 (fun i354 => bif decide ((0 : Int) ≤ i343 ∧ i343 < (↑(List.length r332) : Int)) then (bif decide ((0 : Int) ≤ i343 ∧ i343 < (↑(List.length r333) : Int)) then (letV (stR [LT.int IntKind.i64] r332 (Int.toNat i343) (0 : Nat) [F.lit (Value.int IntKind.i64 i354)]) (fun r355 => kx0 r355 (stR [LT.bool] r333 (Int.toNat i343) (0 : Nat) [F.lit (Value.bool true)]) true)) else
  (none)) else
  (none))) else
  (kx0 r332 r333 false)
def brJn34_24 (m : Nat) (L : LTbl) (R : Type) (vs : List V) (k : Ex → List V → Option R) : Option R := match vs with
  | [V.bor [LT.int IntKind.i64, LT.int IntKind.i64, LT.int IntKind.i64, LT.int IntKind.i64, LT.int IntKind.i64, LT.bool, LT.lst [LT.int IntKind.u8]] r330, V.f (F.lit (Value.int IntKind.i64 i331)), V.own [LT.int IntKind.i64] r332, V.own [LT.bool] r333, V.obj [V.f (F.lit (Value.int IntKind.i64 i334)), V.f (F.lit (Value.int IntKind.i64 i335)), V.f (F.lit (Value.int IntKind.i64 i336)), V.f (F.lit (Value.int IntKind.i64 i337)), V.f (F.lit (Value.int IntKind.i64 i338)), V.f (F.lit (Value.bool b339)), V.f (F.lst [LT.int IntKind.u8] r340)], V.f (F.lit (Value.int IntKind.i64 i341)), V.f (F.lit (Value.int IntKind.u8 i342)), V.f (F.lit (Value.int IntKind.i64 i343)), V.undef, V.undef, V.bor [LT.int IntKind.i64, LT.int IntKind.i64, LT.int IntKind.i64, LT.int IntKind.i64, LT.int IntKind.i64, LT.bool, LT.lst [LT.int IntKind.u8]] r344, V.f (F.lit (Value.int IntKind.i64 i345)), V.f (F.lit (Value.int IntKind.i64 i346)), V.ref (12 : Nat) (1 : Nat), V.ref (12 : Nat) (6 : Nat), V.f (F.lst [LT.int IntKind.u8] r347), V.f (F.lit (Value.int IntKind.i64 i348)), V.f (F.lit (Value.int IntKind.i64 i349)), V.f (F.lit (Value.bool b350)), V.undef, V.undef, V.undef] => Jn34_24 m (fun r356 r357 b358 => k Ex.normal [V.bor [LT.int IntKind.i64, LT.int IntKind.i64, LT.int IntKind.i64, LT.int IntKind.i64, LT.int IntKind.i64, LT.bool, LT.lst [LT.int IntKind.u8]] r330, V.f (F.lit (Value.int IntKind.i64 i331)), V.own [LT.int IntKind.i64] r356, V.own [LT.bool] r357, V.obj [V.f (F.lit (Value.int IntKind.i64 i334)), V.f (F.lit (Value.int IntKind.i64 i335)), V.f (F.lit (Value.int IntKind.i64 i336)), V.f (F.lit (Value.int IntKind.i64 i337)), V.f (F.lit (Value.int IntKind.i64 i338)), V.f (F.lit (Value.bool b339)), V.f (F.lst [LT.int IntKind.u8] r340)], V.f (F.lit (Value.int IntKind.i64 i341)), V.f (F.lit (Value.int IntKind.u8 i342)), V.f (F.lit (Value.int IntKind.i64 i343)), V.undef, V.undef, V.bor [LT.int IntKind.i64, LT.int IntKind.i64, LT.int IntKind.i64, LT.int IntKind.i64, LT.int IntKind.i64, LT.bool, LT.lst [LT.int IntKind.u8]] r344, V.f (F.lit (Value.int IntKind.i64 i345)), V.f (F.lit (Value.int IntKind.i64 i346)), V.ref (12 : Nat) (1 : Nat), V.ref (12 : Nat) (6 : Nat), V.f (F.lst [LT.int IntKind.u8] r347), V.f (F.lit (Value.int IntKind.i64 i348)), V.f (F.lit (Value.int IntKind.i64 i349)), V.f (F.lit (Value.bool b358)), V.undef, V.undef, V.undef]) r330 i331 r332 r333 i334 i335 i336 i337 i338 b339 r340 i341 i342 i343 r344 i345 i346 r347 i348 i349 b350
  | _ => L R 34 24 vs k
set_option maxRecDepth 100000 in
theorem evJn34_24 (m : Nat) (R : Type) (r330 : Abs.Rows) (i331 : Int) (r332 : Abs.Rows) (r333 : Abs.Rows) (i334 : Int) (i335 : Int) (i336 : Int) (i337 : Int) (i338 : Int) (b339 : Bool) (r340 : Abs.Rows) (i341 : Int) (i342 : Int) (i343 : Int) (r344 : Abs.Rows) (i345 : Int) (i346 : Int) (r347 : Abs.Rows) (i348 : Int) (i349 : Int) (b350 : Bool) (k : Ex → List V → Option R) : codeK Try.prog H (T14 m) 34 (L9 m) 25 (loopBody Try.prog 34 24) (mkEnv [0, 1, 9, 10, 12, 13, 15, 16, 33, 36, 37, 38, 39, 64, 65, 66, 67, 68, 90, 126, 127, 128] [V.bor [LT.int IntKind.i64, LT.int IntKind.i64, LT.int IntKind.i64, LT.int IntKind.i64, LT.int IntKind.i64, LT.bool, LT.lst [LT.int IntKind.u8]] r330, V.f (F.lit (Value.int IntKind.i64 i331)), V.own [LT.int IntKind.i64] r332, V.own [LT.bool] r333, V.obj [V.f (F.lit (Value.int IntKind.i64 i334)), V.f (F.lit (Value.int IntKind.i64 i335)), V.f (F.lit (Value.int IntKind.i64 i336)), V.f (F.lit (Value.int IntKind.i64 i337)), V.f (F.lit (Value.int IntKind.i64 i338)), V.f (F.lit (Value.bool b339)), V.f (F.lst [LT.int IntKind.u8] r340)], V.f (F.lit (Value.int IntKind.i64 i341)), V.f (F.lit (Value.int IntKind.u8 i342)), V.f (F.lit (Value.int IntKind.i64 i343)), V.undef, V.undef, V.bor [LT.int IntKind.i64, LT.int IntKind.i64, LT.int IntKind.i64, LT.int IntKind.i64, LT.int IntKind.i64, LT.bool, LT.lst [LT.int IntKind.u8]] r344, V.f (F.lit (Value.int IntKind.i64 i345)), V.f (F.lit (Value.int IntKind.i64 i346)), V.ref (12 : Nat) (1 : Nat), V.ref (12 : Nat) (6 : Nat), V.f (F.lst [LT.int IntKind.u8] r347), V.f (F.lit (Value.int IntKind.i64 i348)), V.f (F.lit (Value.int IntKind.i64 i349)), V.f (F.lit (Value.bool b350)), V.undef, V.undef, V.undef] 0 (H.len 34)) (fun e env' => k e (vals [0, 1, 9, 10, 12, 13, 15, 16, 33, 36, 37, 38, 39, 64, 65, 66, 67, 68, 90, 126, 127, 128] env')) = Jn34_24 m (fun r356 r357 b358 => k Ex.normal [V.bor [LT.int IntKind.i64, LT.int IntKind.i64, LT.int IntKind.i64, LT.int IntKind.i64, LT.int IntKind.i64, LT.bool, LT.lst [LT.int IntKind.u8]] r330, V.f (F.lit (Value.int IntKind.i64 i331)), V.own [LT.int IntKind.i64] r356, V.own [LT.bool] r357, V.obj [V.f (F.lit (Value.int IntKind.i64 i334)), V.f (F.lit (Value.int IntKind.i64 i335)), V.f (F.lit (Value.int IntKind.i64 i336)), V.f (F.lit (Value.int IntKind.i64 i337)), V.f (F.lit (Value.int IntKind.i64 i338)), V.f (F.lit (Value.bool b339)), V.f (F.lst [LT.int IntKind.u8] r340)], V.f (F.lit (Value.int IntKind.i64 i341)), V.f (F.lit (Value.int IntKind.u8 i342)), V.f (F.lit (Value.int IntKind.i64 i343)), V.undef, V.undef, V.bor [LT.int IntKind.i64, LT.int IntKind.i64, LT.int IntKind.i64, LT.int IntKind.i64, LT.int IntKind.i64, LT.bool, LT.lst [LT.int IntKind.u8]] r344, V.f (F.lit (Value.int IntKind.i64 i345)), V.f (F.lit (Value.int IntKind.i64 i346)), V.ref (12 : Nat) (1 : Nat), V.ref (12 : Nat) (6 : Nat), V.f (F.lst [LT.int IntKind.u8] r347), V.f (F.lit (Value.int IntKind.i64 i348)), V.f (F.lit (Value.int IntKind.i64 i349)), V.f (F.lit (Value.bool b358)), V.undef, V.undef, V.undef]) r330 i331 r332 r333 i334 i335 i336 i337 i338 b339 r340 i341 i342 i343 r344 i345 i346 r347 i348 i349 b350 := by kernel_rfl
def L10 (m : Nat) : LTbl := addJ 34 24 (brJn34_24 m (L9 m)) (L9 m)
theorem okL10 (m : Nat) : LTOk Try.prog H (L10 m) := addJ_ok (okT14 m) hM (okL9 m) (l := [0, 1, 9, 10, 12, 13, 15, 16, 33, 36, 37, 38, 39, 64, 65, 66, 67, 68, 90, 126, 127, 128]) (by kernel_rfl) (by kernel_rfl) fun R vs k x h => by
    unfold brJn34_24 at h
    split at h
    · exact .inl ((evJn34_24 m R _ _ _ _ _ _ _ _ _ _ _ _ _ _ _ _ _ _ _ _ _ k).trans h)
    · exact .inr h

/-- a round of a loop of hookflash/media.PlayOut -/
def Lp34_19_step {R : Type} (m : Nat) (kx0 : Abs.Rows → Abs.Rows → Int → Option R) (r312 : Abs.Rows) (i313 : Int) (i316 : Int) (i317 : Int) (i318 : Int) (i319 : Int) (i320 : Int) (b321 : Bool) (r322 : Abs.Rows) (i323 : Int) (r324 : Abs.Rows) (i325 : Int) (i326 : Int) (r327 : Abs.Rows) (i328 : Int) (REC : Abs.Rows → Abs.Rows → Int → Option R) (r314 : Abs.Rows) (r315 : Abs.Rows) (i329 : Int) : Option R :=
  bif decide (i329 < i328) then (bif decide ((0 : Int) ≤ i329 ∧ i329 < (↑(List.length r327) : Int)) then (bif decide (IntKind.wrap IntKind.i64 (i323 + i329) ≥ (0 : Int)) then (bif decide (IntKind.wrap IntKind.i64 (i323 + i329) < (↑(List.length r314) : Int)) then (bif decide ((0 : Int) ≤ IntKind.wrap IntKind.i64 (i323 + i329) ∧ IntKind.wrap IntKind.i64 (i323 + i329) < (↑(List.length r315) : Int)) then (Jn34_24 m (fun r359 r360 b361 => REC r359 r360 (IntKind.wrap IntKind.i64 (i329 + (1 : Int)))) r312 i313 r314 r315 i316 i317 i318 i319 i320 b321 r322 i323 (fI r327 (Int.toNat i329) (0 : Nat)) (IntKind.wrap IntKind.i64 (i323 + i329)) r324 i325 i326 r327 i328 i329 (!fB r315 (Int.toNat (IntKind.wrap IntKind.i64 (i323 + i329))) (0 : Nat))) else
  (none)) else
  (Jn34_24 m (fun r362 r363 b364 => REC r362 r363 (IntKind.wrap IntKind.i64 (i329 + (1 : Int)))) r312 i313 r314 r315 i316 i317 i318 i319 i320 b321 r322 i323 (fI r327 (Int.toNat i329) (0 : Nat)) (IntKind.wrap IntKind.i64 (i323 + i329)) r324 i325 i326 r327 i328 i329 false)) else
  (Jn34_24 m (fun r365 r366 b367 => REC r365 r366 (IntKind.wrap IntKind.i64 (i329 + (1 : Int)))) r312 i313 r314 r315 i316 i317 i318 i319 i320 b321 r322 i323 (fI r327 (Int.toNat i329) (0 : Nat)) (IntKind.wrap IntKind.i64 (i323 + i329)) r324 i325 i326 r327 i328 i329 false)) else
  (none)) else
  (kx0 r314 r315 i329)
def Lp34_19 {R : Type} (m : Nat) (kx0 : Abs.Rows → Abs.Rows → Int → Option R) (r312 : Abs.Rows) (i313 : Int) (i316 : Int) (i317 : Int) (i318 : Int) (i319 : Int) (i320 : Int) (b321 : Bool) (r322 : Abs.Rows) (i323 : Int) (r324 : Abs.Rows) (i325 : Int) (i326 : Int) (r327 : Abs.Rows) (i328 : Int) : Nat → Abs.Rows → Abs.Rows → Int → Option R
  | 0, _, _, _ => none
  | n + 1, r314, r315, i329 => Lp34_19_step m kx0 r312 i313 i316 i317 i318 i319 i320 b321 r322 i323 r324 i325 i326 r327 i328 (Lp34_19 m kx0 r312 i313 i316 i317 i318 i319 i320 b321 r322 i323 r324 i325 i326 r327 i328 n) r314 r315 i329
def ELp34_19 (m : Nat) (R : Type) : Nat → List V → (Ex → List V → Option R) → Option R
  | 0, _, _ => none
  | n + 1, vs, k => match vs with
    | [V.bor [LT.int IntKind.i64, LT.int IntKind.i64, LT.int IntKind.i64, LT.int IntKind.i64, LT.int IntKind.i64, LT.bool, LT.lst [LT.int IntKind.u8]] r312, V.f (F.lit (Value.int IntKind.i64 i313)), V.own [LT.int IntKind.i64] r314, V.own [LT.bool] r315, V.obj [V.f (F.lit (Value.int IntKind.i64 i316)), V.f (F.lit (Value.int IntKind.i64 i317)), V.f (F.lit (Value.int IntKind.i64 i318)), V.f (F.lit (Value.int IntKind.i64 i319)), V.f (F.lit (Value.int IntKind.i64 i320)), V.f (F.lit (Value.bool b321)), V.f (F.lst [LT.int IntKind.u8] r322)], V.f (F.lit (Value.int IntKind.i64 i323)), V.undef, V.undef, V.bor [LT.int IntKind.i64, LT.int IntKind.i64, LT.int IntKind.i64, LT.int IntKind.i64, LT.int IntKind.i64, LT.bool, LT.lst [LT.int IntKind.u8]] r324, V.f (F.lit (Value.int IntKind.i64 i325)), V.f (F.lit (Value.int IntKind.i64 i326)), V.ref (12 : Nat) (1 : Nat), V.ref (12 : Nat) (6 : Nat), V.f (F.lst [LT.int IntKind.u8] r327), V.f (F.lit (Value.int IntKind.i64 i328)), V.f (F.lit (Value.int IntKind.i64 i329)), V.undef, V.undef, V.undef] => Lp34_19_step m (fun r368 r369 i370 => k (Ex.exit (2 : Nat)) [V.bor [LT.int IntKind.i64, LT.int IntKind.i64, LT.int IntKind.i64, LT.int IntKind.i64, LT.int IntKind.i64, LT.bool, LT.lst [LT.int IntKind.u8]] r312, V.f (F.lit (Value.int IntKind.i64 i313)), V.own [LT.int IntKind.i64] r368, V.own [LT.bool] r369, V.obj [V.f (F.lit (Value.int IntKind.i64 i316)), V.f (F.lit (Value.int IntKind.i64 i317)), V.f (F.lit (Value.int IntKind.i64 i318)), V.f (F.lit (Value.int IntKind.i64 i319)), V.f (F.lit (Value.int IntKind.i64 i320)), V.f (F.lit (Value.bool b321)), V.f (F.lst [LT.int IntKind.u8] r322)], V.f (F.lit (Value.int IntKind.i64 i323)), V.undef, V.undef, V.bor [LT.int IntKind.i64, LT.int IntKind.i64, LT.int IntKind.i64, LT.int IntKind.i64, LT.int IntKind.i64, LT.bool, LT.lst [LT.int IntKind.u8]] r324, V.f (F.lit (Value.int IntKind.i64 i325)), V.f (F.lit (Value.int IntKind.i64 i326)), V.ref (12 : Nat) (1 : Nat), V.ref (12 : Nat) (6 : Nat), V.f (F.lst [LT.int IntKind.u8] r327), V.f (F.lit (Value.int IntKind.i64 i328)), V.f (F.lit (Value.int IntKind.i64 i370)), V.undef, V.undef, V.undef]) r312 i313 i316 i317 i318 i319 i320 b321 r322 i323 r324 i325 i326 r327 i328 (fun r314 r315 i329 => ELp34_19 m R n [V.bor [LT.int IntKind.i64, LT.int IntKind.i64, LT.int IntKind.i64, LT.int IntKind.i64, LT.int IntKind.i64, LT.bool, LT.lst [LT.int IntKind.u8]] r312, V.f (F.lit (Value.int IntKind.i64 i313)), V.own [LT.int IntKind.i64] r314, V.own [LT.bool] r315, V.obj [V.f (F.lit (Value.int IntKind.i64 i316)), V.f (F.lit (Value.int IntKind.i64 i317)), V.f (F.lit (Value.int IntKind.i64 i318)), V.f (F.lit (Value.int IntKind.i64 i319)), V.f (F.lit (Value.int IntKind.i64 i320)), V.f (F.lit (Value.bool b321)), V.f (F.lst [LT.int IntKind.u8] r322)], V.f (F.lit (Value.int IntKind.i64 i323)), V.undef, V.undef, V.bor [LT.int IntKind.i64, LT.int IntKind.i64, LT.int IntKind.i64, LT.int IntKind.i64, LT.int IntKind.i64, LT.bool, LT.lst [LT.int IntKind.u8]] r324, V.f (F.lit (Value.int IntKind.i64 i325)), V.f (F.lit (Value.int IntKind.i64 i326)), V.ref (12 : Nat) (1 : Nat), V.ref (12 : Nat) (6 : Nat), V.f (F.lst [LT.int IntKind.u8] r327), V.f (F.lit (Value.int IntKind.i64 i328)), V.f (F.lit (Value.int IntKind.i64 i329)), V.undef, V.undef, V.undef] k) r314 r315 i329
    | _ => none
def brLp34_19 (m : Nat) (L : LTbl) (R : Type) (vs : List V) (k : Ex → List V → Option R) : Option R := match vs with
  | [V.bor [LT.int IntKind.i64, LT.int IntKind.i64, LT.int IntKind.i64, LT.int IntKind.i64, LT.int IntKind.i64, LT.bool, LT.lst [LT.int IntKind.u8]] r312, V.f (F.lit (Value.int IntKind.i64 i313)), V.own [LT.int IntKind.i64] r314, V.own [LT.bool] r315, V.obj [V.f (F.lit (Value.int IntKind.i64 i316)), V.f (F.lit (Value.int IntKind.i64 i317)), V.f (F.lit (Value.int IntKind.i64 i318)), V.f (F.lit (Value.int IntKind.i64 i319)), V.f (F.lit (Value.int IntKind.i64 i320)), V.f (F.lit (Value.bool b321)), V.f (F.lst [LT.int IntKind.u8] r322)], V.f (F.lit (Value.int IntKind.i64 i323)), V.undef, V.undef, V.bor [LT.int IntKind.i64, LT.int IntKind.i64, LT.int IntKind.i64, LT.int IntKind.i64, LT.int IntKind.i64, LT.bool, LT.lst [LT.int IntKind.u8]] r324, V.f (F.lit (Value.int IntKind.i64 i325)), V.f (F.lit (Value.int IntKind.i64 i326)), V.ref (12 : Nat) (1 : Nat), V.ref (12 : Nat) (6 : Nat), V.f (F.lst [LT.int IntKind.u8] r327), V.f (F.lit (Value.int IntKind.i64 i328)), V.f (F.lit (Value.int IntKind.i64 i329)), V.undef, V.undef, V.undef] => Lp34_19 m (fun r368 r369 i370 => k (Ex.exit (2 : Nat)) [V.bor [LT.int IntKind.i64, LT.int IntKind.i64, LT.int IntKind.i64, LT.int IntKind.i64, LT.int IntKind.i64, LT.bool, LT.lst [LT.int IntKind.u8]] r312, V.f (F.lit (Value.int IntKind.i64 i313)), V.own [LT.int IntKind.i64] r368, V.own [LT.bool] r369, V.obj [V.f (F.lit (Value.int IntKind.i64 i316)), V.f (F.lit (Value.int IntKind.i64 i317)), V.f (F.lit (Value.int IntKind.i64 i318)), V.f (F.lit (Value.int IntKind.i64 i319)), V.f (F.lit (Value.int IntKind.i64 i320)), V.f (F.lit (Value.bool b321)), V.f (F.lst [LT.int IntKind.u8] r322)], V.f (F.lit (Value.int IntKind.i64 i323)), V.undef, V.undef, V.bor [LT.int IntKind.i64, LT.int IntKind.i64, LT.int IntKind.i64, LT.int IntKind.i64, LT.int IntKind.i64, LT.bool, LT.lst [LT.int IntKind.u8]] r324, V.f (F.lit (Value.int IntKind.i64 i325)), V.f (F.lit (Value.int IntKind.i64 i326)), V.ref (12 : Nat) (1 : Nat), V.ref (12 : Nat) (6 : Nat), V.f (F.lst [LT.int IntKind.u8] r327), V.f (F.lit (Value.int IntKind.i64 i328)), V.f (F.lit (Value.int IntKind.i64 i370)), V.undef, V.undef, V.undef]) r312 i313 i316 i317 i318 i319 i320 b321 r322 i323 r324 i325 i326 r327 i328 m r314 r315 i329
  | _ => L R 34 19 vs k
set_option maxRecDepth 100000 in
theorem stLp34_19 (m n : Nat) (R : Type) (r312 : Abs.Rows) (i313 : Int) (r314 : Abs.Rows) (r315 : Abs.Rows) (i316 : Int) (i317 : Int) (i318 : Int) (i319 : Int) (i320 : Int) (b321 : Bool) (r322 : Abs.Rows) (i323 : Int) (r324 : Abs.Rows) (i325 : Int) (i326 : Int) (r327 : Abs.Rows) (i328 : Int) (i329 : Int) (k : Ex → List V → Option R) : codeK Try.prog H (T14 m) 34 (L10 m) 20 (loopBody Try.prog 34 19) (mkEnv [0, 1, 9, 10, 12, 13, 33, 36, 37, 38, 39, 64, 65, 66, 67, 68, 126, 127, 128] [V.bor [LT.int IntKind.i64, LT.int IntKind.i64, LT.int IntKind.i64, LT.int IntKind.i64, LT.int IntKind.i64, LT.bool, LT.lst [LT.int IntKind.u8]] r312, V.f (F.lit (Value.int IntKind.i64 i313)), V.own [LT.int IntKind.i64] r314, V.own [LT.bool] r315, V.obj [V.f (F.lit (Value.int IntKind.i64 i316)), V.f (F.lit (Value.int IntKind.i64 i317)), V.f (F.lit (Value.int IntKind.i64 i318)), V.f (F.lit (Value.int IntKind.i64 i319)), V.f (F.lit (Value.int IntKind.i64 i320)), V.f (F.lit (Value.bool b321)), V.f (F.lst [LT.int IntKind.u8] r322)], V.f (F.lit (Value.int IntKind.i64 i323)), V.undef, V.undef, V.bor [LT.int IntKind.i64, LT.int IntKind.i64, LT.int IntKind.i64, LT.int IntKind.i64, LT.int IntKind.i64, LT.bool, LT.lst [LT.int IntKind.u8]] r324, V.f (F.lit (Value.int IntKind.i64 i325)), V.f (F.lit (Value.int IntKind.i64 i326)), V.ref (12 : Nat) (1 : Nat), V.ref (12 : Nat) (6 : Nat), V.f (F.lst [LT.int IntKind.u8] r327), V.f (F.lit (Value.int IntKind.i64 i328)), V.f (F.lit (Value.int IntKind.i64 i329)), V.undef, V.undef, V.undef] 0 (H.len 34)) (fun e env' => match e with | .normal => ELp34_19 m R n (vals [0, 1, 9, 10, 12, 13, 33, 36, 37, 38, 39, 64, 65, 66, 67, 68, 126, 127, 128] env') k | e => k e (vals [0, 1, 9, 10, 12, 13, 33, 36, 37, 38, 39, 64, 65, 66, 67, 68, 126, 127, 128] env')) = Lp34_19_step m (fun r368 r369 i370 => k (Ex.exit (2 : Nat)) [V.bor [LT.int IntKind.i64, LT.int IntKind.i64, LT.int IntKind.i64, LT.int IntKind.i64, LT.int IntKind.i64, LT.bool, LT.lst [LT.int IntKind.u8]] r312, V.f (F.lit (Value.int IntKind.i64 i313)), V.own [LT.int IntKind.i64] r368, V.own [LT.bool] r369, V.obj [V.f (F.lit (Value.int IntKind.i64 i316)), V.f (F.lit (Value.int IntKind.i64 i317)), V.f (F.lit (Value.int IntKind.i64 i318)), V.f (F.lit (Value.int IntKind.i64 i319)), V.f (F.lit (Value.int IntKind.i64 i320)), V.f (F.lit (Value.bool b321)), V.f (F.lst [LT.int IntKind.u8] r322)], V.f (F.lit (Value.int IntKind.i64 i323)), V.undef, V.undef, V.bor [LT.int IntKind.i64, LT.int IntKind.i64, LT.int IntKind.i64, LT.int IntKind.i64, LT.int IntKind.i64, LT.bool, LT.lst [LT.int IntKind.u8]] r324, V.f (F.lit (Value.int IntKind.i64 i325)), V.f (F.lit (Value.int IntKind.i64 i326)), V.ref (12 : Nat) (1 : Nat), V.ref (12 : Nat) (6 : Nat), V.f (F.lst [LT.int IntKind.u8] r327), V.f (F.lit (Value.int IntKind.i64 i328)), V.f (F.lit (Value.int IntKind.i64 i370)), V.undef, V.undef, V.undef]) r312 i313 i316 i317 i318 i319 i320 b321 r322 i323 r324 i325 i326 r327 i328 (fun r314 r315 i329 => ELp34_19 m R n [V.bor [LT.int IntKind.i64, LT.int IntKind.i64, LT.int IntKind.i64, LT.int IntKind.i64, LT.int IntKind.i64, LT.bool, LT.lst [LT.int IntKind.u8]] r312, V.f (F.lit (Value.int IntKind.i64 i313)), V.own [LT.int IntKind.i64] r314, V.own [LT.bool] r315, V.obj [V.f (F.lit (Value.int IntKind.i64 i316)), V.f (F.lit (Value.int IntKind.i64 i317)), V.f (F.lit (Value.int IntKind.i64 i318)), V.f (F.lit (Value.int IntKind.i64 i319)), V.f (F.lit (Value.int IntKind.i64 i320)), V.f (F.lit (Value.bool b321)), V.f (F.lst [LT.int IntKind.u8] r322)], V.f (F.lit (Value.int IntKind.i64 i323)), V.undef, V.undef, V.bor [LT.int IntKind.i64, LT.int IntKind.i64, LT.int IntKind.i64, LT.int IntKind.i64, LT.int IntKind.i64, LT.bool, LT.lst [LT.int IntKind.u8]] r324, V.f (F.lit (Value.int IntKind.i64 i325)), V.f (F.lit (Value.int IntKind.i64 i326)), V.ref (12 : Nat) (1 : Nat), V.ref (12 : Nat) (6 : Nat), V.f (F.lst [LT.int IntKind.u8] r327), V.f (F.lit (Value.int IntKind.i64 i328)), V.f (F.lit (Value.int IntKind.i64 i329)), V.undef, V.undef, V.undef] k) r314 r315 i329 := by kernel_rfl
theorem eqLp34_19 (m : Nat) (R : Type) (r312 : Abs.Rows) (i313 : Int) (i316 : Int) (i317 : Int) (i318 : Int) (i319 : Int) (i320 : Int) (b321 : Bool) (r322 : Abs.Rows) (i323 : Int) (r324 : Abs.Rows) (i325 : Int) (i326 : Int) (r327 : Abs.Rows) (i328 : Int) (k : Ex → List V → Option R) : ∀ (n : Nat) (r314 : Abs.Rows) (r315 : Abs.Rows) (i329 : Int), ELp34_19 m R n [V.bor [LT.int IntKind.i64, LT.int IntKind.i64, LT.int IntKind.i64, LT.int IntKind.i64, LT.int IntKind.i64, LT.bool, LT.lst [LT.int IntKind.u8]] r312, V.f (F.lit (Value.int IntKind.i64 i313)), V.own [LT.int IntKind.i64] r314, V.own [LT.bool] r315, V.obj [V.f (F.lit (Value.int IntKind.i64 i316)), V.f (F.lit (Value.int IntKind.i64 i317)), V.f (F.lit (Value.int IntKind.i64 i318)), V.f (F.lit (Value.int IntKind.i64 i319)), V.f (F.lit (Value.int IntKind.i64 i320)), V.f (F.lit (Value.bool b321)), V.f (F.lst [LT.int IntKind.u8] r322)], V.f (F.lit (Value.int IntKind.i64 i323)), V.undef, V.undef, V.bor [LT.int IntKind.i64, LT.int IntKind.i64, LT.int IntKind.i64, LT.int IntKind.i64, LT.int IntKind.i64, LT.bool, LT.lst [LT.int IntKind.u8]] r324, V.f (F.lit (Value.int IntKind.i64 i325)), V.f (F.lit (Value.int IntKind.i64 i326)), V.ref (12 : Nat) (1 : Nat), V.ref (12 : Nat) (6 : Nat), V.f (F.lst [LT.int IntKind.u8] r327), V.f (F.lit (Value.int IntKind.i64 i328)), V.f (F.lit (Value.int IntKind.i64 i329)), V.undef, V.undef, V.undef] k = Lp34_19 m (fun r368 r369 i370 => k (Ex.exit (2 : Nat)) [V.bor [LT.int IntKind.i64, LT.int IntKind.i64, LT.int IntKind.i64, LT.int IntKind.i64, LT.int IntKind.i64, LT.bool, LT.lst [LT.int IntKind.u8]] r312, V.f (F.lit (Value.int IntKind.i64 i313)), V.own [LT.int IntKind.i64] r368, V.own [LT.bool] r369, V.obj [V.f (F.lit (Value.int IntKind.i64 i316)), V.f (F.lit (Value.int IntKind.i64 i317)), V.f (F.lit (Value.int IntKind.i64 i318)), V.f (F.lit (Value.int IntKind.i64 i319)), V.f (F.lit (Value.int IntKind.i64 i320)), V.f (F.lit (Value.bool b321)), V.f (F.lst [LT.int IntKind.u8] r322)], V.f (F.lit (Value.int IntKind.i64 i323)), V.undef, V.undef, V.bor [LT.int IntKind.i64, LT.int IntKind.i64, LT.int IntKind.i64, LT.int IntKind.i64, LT.int IntKind.i64, LT.bool, LT.lst [LT.int IntKind.u8]] r324, V.f (F.lit (Value.int IntKind.i64 i325)), V.f (F.lit (Value.int IntKind.i64 i326)), V.ref (12 : Nat) (1 : Nat), V.ref (12 : Nat) (6 : Nat), V.f (F.lst [LT.int IntKind.u8] r327), V.f (F.lit (Value.int IntKind.i64 i328)), V.f (F.lit (Value.int IntKind.i64 i370)), V.undef, V.undef, V.undef]) r312 i313 i316 i317 i318 i319 i320 b321 r322 i323 r324 i325 i326 r327 i328 n r314 r315 i329
  | 0, _, _, _ => rfl
  | n + 1, r314, r315, i329 => by
    simp only [ELp34_19, Lp34_19]
    congr 1
    funext r314 r315 i329
    exact eqLp34_19 m R r312 i313 i316 i317 i318 i319 i320 b321 r322 i323 r324 i325 i326 r327 i328 k n r314 r315 i329
def L11 (m : Nat) : LTbl := addB 34 19 (brLp34_19 m (L10 m)) (L10 m)
theorem okL11 (m : Nat) : LTOk Try.prog H (L11 m) := addB_ok (okT14 m) hM (okL10 m) (l := [0, 1, 9, 10, 12, 13, 33, 36, 37, 38, 39, 64, 65, 66, 67, 68, 126, 127, 128]) (by kernel_rfl) (by kernel_rfl) m (fun R n vs k => ELp34_19 m R n vs k) (fun R vs k => rfl) (fun R n vs k x h => by
      simp only [ELp34_19] at h
      split at h
      · exact (stLp34_19 m n R _ _ _ _ _ _ _ _ _ _ _ _ _ _ _ _ _ _ k).trans h
      · cases h) fun R vs k x h => by
    unfold brLp34_19 at h
    split at h
    · exact .inl ((eqLp34_19 m R _ _ _ _ _ _ _ _ _ _ _ _ _ _ _ k m _ _ _).trans h)
    · exact .inr h

/-- a round of a loop of hookflash/media.PlayOut -/
def Lp34_11_step {R : Type} (m : Nat) (kx0 : Abs.Rows → Abs.Rows → Int → Option R) (r301 : Abs.Rows) (i302 : Int) (r305 : Abs.Rows) (i306 : Int) (REC : Abs.Rows → Abs.Rows → Int → Option R) (r303 : Abs.Rows) (r304 : Abs.Rows) (i307 : Int) : Option R :=
  bif decide (i307 < i306) then (bif decide ((0 : Int) ≤ i307 ∧ i307 < (↑(List.length r305) : Int)) then (bif decide ((0 : Int) ≤ (0 : Int) ∧ (0 : Int) < (↑(List.length r301) : Int)) then (Fn72 m (fI r305 (Int.toNat i307) (3 : Nat)) (fI r301 (Int.toNat (0 : Int)) (3 : Nat)) (fun i311 => bif decide ((0 : Int) ≤ (0 : Int) ∧ (0 : Int) < (↑(List.length r301) : Int)) then (bif decide (fI r305 (Int.toNat i307) (0 : Nat) > IntKind.wrap IntKind.i64 (IntKind.wrap IntKind.i64 (fI r301 (Int.toNat (0 : Int)) (0 : Nat) + i302) + Int.fdiv i311 ((2 : Int) ^ min (Int.toNat (3 : Int)) (64 : Nat)))) then (REC r303 r304 (IntKind.wrap IntKind.i64 (i307 + (1 : Int)))) else
  (Lp34_19 m (fun r371 r372 i373 => REC r371 r372 (IntKind.wrap IntKind.i64 (i307 + (1 : Int)))) r301 i302 (fI r305 (Int.toNat i307) (0 : Nat)) (fI r305 (Int.toNat i307) (1 : Nat)) (fI r305 (Int.toNat i307) (2 : Nat)) (fI r305 (Int.toNat i307) (3 : Nat)) (fI r305 (Int.toNat i307) (4 : Nat)) (fB r305 (Int.toNat i307) (5 : Nat)) (fR r305 (Int.toNat i307) (6 : Nat)) i311 r305 i306 i307 (fR r305 (Int.toNat i307) (6 : Nat)) ((↑(List.length (fR r305 (Int.toNat i307) (6 : Nat))) : Int)) m r303 r304 ((0 : Int)))) else
  (none))) else
  (none)) else
  (none)) else
  (kx0 r303 r304 i307)
def Lp34_11 {R : Type} (m : Nat) (kx0 : Abs.Rows → Abs.Rows → Int → Option R) (r301 : Abs.Rows) (i302 : Int) (r305 : Abs.Rows) (i306 : Int) : Nat → Abs.Rows → Abs.Rows → Int → Option R
  | 0, _, _, _ => none
  | n + 1, r303, r304, i307 => Lp34_11_step m kx0 r301 i302 r305 i306 (Lp34_11 m kx0 r301 i302 r305 i306 n) r303 r304 i307
def ELp34_11 (m : Nat) (R : Type) : Nat → List V → (Ex → List V → Option R) → Option R
  | 0, _, _ => none
  | n + 1, vs, k => match vs with
    | [V.bor [LT.int IntKind.i64, LT.int IntKind.i64, LT.int IntKind.i64, LT.int IntKind.i64, LT.int IntKind.i64, LT.bool, LT.lst [LT.int IntKind.u8]] r301, V.f (F.lit (Value.int IntKind.i64 i302)), V.own [LT.int IntKind.i64] r303, V.own [LT.bool] r304, V.undef, V.undef, V.bor [LT.int IntKind.i64, LT.int IntKind.i64, LT.int IntKind.i64, LT.int IntKind.i64, LT.int IntKind.i64, LT.bool, LT.lst [LT.int IntKind.u8]] r305, V.f (F.lit (Value.int IntKind.i64 i306)), V.f (F.lit (Value.int IntKind.i64 i307)), V.undef, V.undef, V.undef] => Lp34_11_step m (fun r374 r375 i376 => k (Ex.exit (0 : Nat)) [V.bor [LT.int IntKind.i64, LT.int IntKind.i64, LT.int IntKind.i64, LT.int IntKind.i64, LT.int IntKind.i64, LT.bool, LT.lst [LT.int IntKind.u8]] r301, V.f (F.lit (Value.int IntKind.i64 i302)), V.own [LT.int IntKind.i64] r374, V.own [LT.bool] r375, V.undef, V.undef, V.bor [LT.int IntKind.i64, LT.int IntKind.i64, LT.int IntKind.i64, LT.int IntKind.i64, LT.int IntKind.i64, LT.bool, LT.lst [LT.int IntKind.u8]] r305, V.f (F.lit (Value.int IntKind.i64 i306)), V.f (F.lit (Value.int IntKind.i64 i376)), V.undef, V.undef, V.undef]) r301 i302 r305 i306 (fun r303 r304 i307 => ELp34_11 m R n [V.bor [LT.int IntKind.i64, LT.int IntKind.i64, LT.int IntKind.i64, LT.int IntKind.i64, LT.int IntKind.i64, LT.bool, LT.lst [LT.int IntKind.u8]] r301, V.f (F.lit (Value.int IntKind.i64 i302)), V.own [LT.int IntKind.i64] r303, V.own [LT.bool] r304, V.undef, V.undef, V.bor [LT.int IntKind.i64, LT.int IntKind.i64, LT.int IntKind.i64, LT.int IntKind.i64, LT.int IntKind.i64, LT.bool, LT.lst [LT.int IntKind.u8]] r305, V.f (F.lit (Value.int IntKind.i64 i306)), V.f (F.lit (Value.int IntKind.i64 i307)), V.undef, V.undef, V.undef] k) r303 r304 i307
    | _ => none
def brLp34_11 (m : Nat) (L : LTbl) (R : Type) (vs : List V) (k : Ex → List V → Option R) : Option R := match vs with
  | [V.bor [LT.int IntKind.i64, LT.int IntKind.i64, LT.int IntKind.i64, LT.int IntKind.i64, LT.int IntKind.i64, LT.bool, LT.lst [LT.int IntKind.u8]] r301, V.f (F.lit (Value.int IntKind.i64 i302)), V.own [LT.int IntKind.i64] r303, V.own [LT.bool] r304, V.undef, V.undef, V.bor [LT.int IntKind.i64, LT.int IntKind.i64, LT.int IntKind.i64, LT.int IntKind.i64, LT.int IntKind.i64, LT.bool, LT.lst [LT.int IntKind.u8]] r305, V.f (F.lit (Value.int IntKind.i64 i306)), V.f (F.lit (Value.int IntKind.i64 i307)), V.undef, V.undef, V.undef] => Lp34_11 m (fun r374 r375 i376 => k (Ex.exit (0 : Nat)) [V.bor [LT.int IntKind.i64, LT.int IntKind.i64, LT.int IntKind.i64, LT.int IntKind.i64, LT.int IntKind.i64, LT.bool, LT.lst [LT.int IntKind.u8]] r301, V.f (F.lit (Value.int IntKind.i64 i302)), V.own [LT.int IntKind.i64] r374, V.own [LT.bool] r375, V.undef, V.undef, V.bor [LT.int IntKind.i64, LT.int IntKind.i64, LT.int IntKind.i64, LT.int IntKind.i64, LT.int IntKind.i64, LT.bool, LT.lst [LT.int IntKind.u8]] r305, V.f (F.lit (Value.int IntKind.i64 i306)), V.f (F.lit (Value.int IntKind.i64 i376)), V.undef, V.undef, V.undef]) r301 i302 r305 i306 m r303 r304 i307
  | _ => L R 34 11 vs k
set_option maxRecDepth 100000 in
theorem stLp34_11 (m n : Nat) (R : Type) (r301 : Abs.Rows) (i302 : Int) (r303 : Abs.Rows) (r304 : Abs.Rows) (r305 : Abs.Rows) (i306 : Int) (i307 : Int) (k : Ex → List V → Option R) : codeK Try.prog H (T14 m) 34 (L11 m) 12 (loopBody Try.prog 34 11) (mkEnv [0, 1, 9, 10, 33, 36, 37, 38, 39, 126, 127, 128] [V.bor [LT.int IntKind.i64, LT.int IntKind.i64, LT.int IntKind.i64, LT.int IntKind.i64, LT.int IntKind.i64, LT.bool, LT.lst [LT.int IntKind.u8]] r301, V.f (F.lit (Value.int IntKind.i64 i302)), V.own [LT.int IntKind.i64] r303, V.own [LT.bool] r304, V.undef, V.undef, V.bor [LT.int IntKind.i64, LT.int IntKind.i64, LT.int IntKind.i64, LT.int IntKind.i64, LT.int IntKind.i64, LT.bool, LT.lst [LT.int IntKind.u8]] r305, V.f (F.lit (Value.int IntKind.i64 i306)), V.f (F.lit (Value.int IntKind.i64 i307)), V.undef, V.undef, V.undef] 0 (H.len 34)) (fun e env' => match e with | .normal => ELp34_11 m R n (vals [0, 1, 9, 10, 33, 36, 37, 38, 39, 126, 127, 128] env') k | e => k e (vals [0, 1, 9, 10, 33, 36, 37, 38, 39, 126, 127, 128] env')) = Lp34_11_step m (fun r374 r375 i376 => k (Ex.exit (0 : Nat)) [V.bor [LT.int IntKind.i64, LT.int IntKind.i64, LT.int IntKind.i64, LT.int IntKind.i64, LT.int IntKind.i64, LT.bool, LT.lst [LT.int IntKind.u8]] r301, V.f (F.lit (Value.int IntKind.i64 i302)), V.own [LT.int IntKind.i64] r374, V.own [LT.bool] r375, V.undef, V.undef, V.bor [LT.int IntKind.i64, LT.int IntKind.i64, LT.int IntKind.i64, LT.int IntKind.i64, LT.int IntKind.i64, LT.bool, LT.lst [LT.int IntKind.u8]] r305, V.f (F.lit (Value.int IntKind.i64 i306)), V.f (F.lit (Value.int IntKind.i64 i376)), V.undef, V.undef, V.undef]) r301 i302 r305 i306 (fun r303 r304 i307 => ELp34_11 m R n [V.bor [LT.int IntKind.i64, LT.int IntKind.i64, LT.int IntKind.i64, LT.int IntKind.i64, LT.int IntKind.i64, LT.bool, LT.lst [LT.int IntKind.u8]] r301, V.f (F.lit (Value.int IntKind.i64 i302)), V.own [LT.int IntKind.i64] r303, V.own [LT.bool] r304, V.undef, V.undef, V.bor [LT.int IntKind.i64, LT.int IntKind.i64, LT.int IntKind.i64, LT.int IntKind.i64, LT.int IntKind.i64, LT.bool, LT.lst [LT.int IntKind.u8]] r305, V.f (F.lit (Value.int IntKind.i64 i306)), V.f (F.lit (Value.int IntKind.i64 i307)), V.undef, V.undef, V.undef] k) r303 r304 i307 := by kernel_rfl
theorem eqLp34_11 (m : Nat) (R : Type) (r301 : Abs.Rows) (i302 : Int) (r305 : Abs.Rows) (i306 : Int) (k : Ex → List V → Option R) : ∀ (n : Nat) (r303 : Abs.Rows) (r304 : Abs.Rows) (i307 : Int), ELp34_11 m R n [V.bor [LT.int IntKind.i64, LT.int IntKind.i64, LT.int IntKind.i64, LT.int IntKind.i64, LT.int IntKind.i64, LT.bool, LT.lst [LT.int IntKind.u8]] r301, V.f (F.lit (Value.int IntKind.i64 i302)), V.own [LT.int IntKind.i64] r303, V.own [LT.bool] r304, V.undef, V.undef, V.bor [LT.int IntKind.i64, LT.int IntKind.i64, LT.int IntKind.i64, LT.int IntKind.i64, LT.int IntKind.i64, LT.bool, LT.lst [LT.int IntKind.u8]] r305, V.f (F.lit (Value.int IntKind.i64 i306)), V.f (F.lit (Value.int IntKind.i64 i307)), V.undef, V.undef, V.undef] k = Lp34_11 m (fun r374 r375 i376 => k (Ex.exit (0 : Nat)) [V.bor [LT.int IntKind.i64, LT.int IntKind.i64, LT.int IntKind.i64, LT.int IntKind.i64, LT.int IntKind.i64, LT.bool, LT.lst [LT.int IntKind.u8]] r301, V.f (F.lit (Value.int IntKind.i64 i302)), V.own [LT.int IntKind.i64] r374, V.own [LT.bool] r375, V.undef, V.undef, V.bor [LT.int IntKind.i64, LT.int IntKind.i64, LT.int IntKind.i64, LT.int IntKind.i64, LT.int IntKind.i64, LT.bool, LT.lst [LT.int IntKind.u8]] r305, V.f (F.lit (Value.int IntKind.i64 i306)), V.f (F.lit (Value.int IntKind.i64 i376)), V.undef, V.undef, V.undef]) r301 i302 r305 i306 n r303 r304 i307
  | 0, _, _, _ => rfl
  | n + 1, r303, r304, i307 => by
    simp only [ELp34_11, Lp34_11]
    congr 1
    funext r303 r304 i307
    exact eqLp34_11 m R r301 i302 r305 i306 k n r303 r304 i307
def L12 (m : Nat) : LTbl := addB 34 11 (brLp34_11 m (L11 m)) (L11 m)
theorem okL12 (m : Nat) : LTOk Try.prog H (L12 m) := addB_ok (okT14 m) hM (okL11 m) (l := [0, 1, 9, 10, 33, 36, 37, 38, 39, 126, 127, 128]) (by kernel_rfl) (by kernel_rfl) m (fun R n vs k => ELp34_11 m R n vs k) (fun R vs k => rfl) (fun R n vs k x h => by
      simp only [ELp34_11] at h
      split at h
      · exact (stLp34_11 m n R _ _ _ _ _ _ _ k).trans h
      · cases h) fun R vs k x h => by
    unfold brLp34_11 at h
    split at h
    · exact .inl ((eqLp34_11 m R _ _ _ _ k m _ _ _).trans h)
    · exact .inr h

/-- a rest of hookflash/media.PlayOut -/
def Jn34_33 {R : Type} (m : Nat) (kx0 : Abs.Rows → Bool → Option R) (r384 : Abs.Rows) (r385 : Abs.Rows) (i386 : Int) (i387 : Int) (i388 : Int) (b389 : Bool) : Option R :=
  bif b389 then (bif decide ((0 : Int) ≤ IntKind.wrap IntKind.i64 (i386 - (160 : Int)) ∧ IntKind.wrap IntKind.i64 (i386 - (160 : Int)) < (↑(List.length r384) : Int)) then (bif decide ((0 : Int) ≤ i386 ∧ i386 < (↑(List.length r384) : Int)) then (kx0 (stR [LT.int IntKind.i64] r384 (Int.toNat i386) (0 : Nat) [F.lit (Value.int IntKind.i64 (IntKind.wrap IntKind.i64 (Int.tdiv (fI r384 (Int.toNat (IntKind.wrap IntKind.i64 (i386 - (160 : Int)))) (0 : Nat)) (2 : Int))))]) true) else
  (none)) else
  (none)) else
  (kx0 r384 false)
def brJn34_33 (m : Nat) (L : LTbl) (R : Type) (vs : List V) (k : Ex → List V → Option R) : Option R := match vs with
  | [V.own [LT.int IntKind.i64] r384, V.own [LT.bool] r385, V.f (F.lit (Value.int IntKind.i64 i386)), V.undef, V.undef, V.f (F.lit (Value.int IntKind.i64 i387)), V.f (F.lit (Value.int IntKind.i64 i388)), V.f (F.lit (Value.bool b389)), V.undef, V.undef, V.undef] => Jn34_33 m (fun r390 b391 => k Ex.normal [V.own [LT.int IntKind.i64] r390, V.own [LT.bool] r385, V.f (F.lit (Value.int IntKind.i64 i386)), V.undef, V.undef, V.f (F.lit (Value.int IntKind.i64 i387)), V.f (F.lit (Value.int IntKind.i64 i388)), V.f (F.lit (Value.bool b391)), V.undef, V.undef, V.undef]) r384 r385 i386 i387 i388 b389
  | _ => L R 34 33 vs k
set_option maxRecDepth 100000 in
theorem evJn34_33 (m : Nat) (R : Type) (r384 : Abs.Rows) (r385 : Abs.Rows) (i386 : Int) (i387 : Int) (i388 : Int) (b389 : Bool) (k : Ex → List V → Option R) : codeK Try.prog H (T14 m) 34 (L12 m) 34 (loopBody Try.prog 34 33) (mkEnv [9, 10, 17, 33, 36, 102, 103, 114, 126, 127, 128] [V.own [LT.int IntKind.i64] r384, V.own [LT.bool] r385, V.f (F.lit (Value.int IntKind.i64 i386)), V.undef, V.undef, V.f (F.lit (Value.int IntKind.i64 i387)), V.f (F.lit (Value.int IntKind.i64 i388)), V.f (F.lit (Value.bool b389)), V.undef, V.undef, V.undef] 0 (H.len 34)) (fun e env' => k e (vals [9, 10, 17, 33, 36, 102, 103, 114, 126, 127, 128] env')) = Jn34_33 m (fun r390 b391 => k Ex.normal [V.own [LT.int IntKind.i64] r390, V.own [LT.bool] r385, V.f (F.lit (Value.int IntKind.i64 i386)), V.undef, V.undef, V.f (F.lit (Value.int IntKind.i64 i387)), V.f (F.lit (Value.int IntKind.i64 i388)), V.f (F.lit (Value.bool b391)), V.undef, V.undef, V.undef]) r384 r385 i386 i387 i388 b389 := by kernel_rfl
def L13 (m : Nat) : LTbl := addJ 34 33 (brJn34_33 m (L12 m)) (L12 m)
theorem okL13 (m : Nat) : LTOk Try.prog H (L13 m) := addJ_ok (okT14 m) hM (okL12 m) (l := [9, 10, 17, 33, 36, 102, 103, 114, 126, 127, 128]) (by kernel_rfl) (by kernel_rfl) fun R vs k x h => by
    unfold brJn34_33 at h
    split at h
    · exact .inl ((evJn34_33 m R _ _ _ _ _ _ k).trans h)
    · exact .inr h

/-- a round of a loop of hookflash/media.PlayOut -/
def Lp34_29_step {R : Type} (m : Nat) (kx0 : Abs.Rows → Int → Option R) (r381 : Abs.Rows) (i382 : Int) (REC : Abs.Rows → Int → Option R) (r380 : Abs.Rows) (i383 : Int) : Option R :=
  bif decide (i383 < i382) then (bif decide ((0 : Int) ≤ i383 ∧ i383 < (↑(List.length r381) : Int)) then (bif !fB r381 (Int.toNat i383) (0 : Nat) then (Jn34_33 m (fun r392 b393 => REC r392 (IntKind.wrap IntKind.i64 (i383 + (1 : Int)))) r380 r381 i383 i382 i383 (decide (i383 ≥ (160 : Int)))) else
  (Jn34_33 m (fun r394 b395 => REC r394 (IntKind.wrap IntKind.i64 (i383 + (1 : Int)))) r380 r381 i383 i382 i383 false)) else
  (none)) else
  (kx0 r380 i383)
def Lp34_29 {R : Type} (m : Nat) (kx0 : Abs.Rows → Int → Option R) (r381 : Abs.Rows) (i382 : Int) : Nat → Abs.Rows → Int → Option R
  | 0, _, _ => none
  | n + 1, r380, i383 => Lp34_29_step m kx0 r381 i382 (Lp34_29 m kx0 r381 i382 n) r380 i383
def ELp34_29 (m : Nat) (R : Type) : Nat → List V → (Ex → List V → Option R) → Option R
  | 0, _, _ => none
  | n + 1, vs, k => match vs with
    | [V.own [LT.int IntKind.i64] r380, V.own [LT.bool] r381, V.undef, V.undef, V.f (F.lit (Value.int IntKind.i64 i382)), V.f (F.lit (Value.int IntKind.i64 i383)), V.undef, V.undef, V.undef] => Lp34_29_step m (fun r396 i397 => k (Ex.exit (4 : Nat)) [V.own [LT.int IntKind.i64] r396, V.own [LT.bool] r381, V.undef, V.undef, V.f (F.lit (Value.int IntKind.i64 i382)), V.f (F.lit (Value.int IntKind.i64 i397)), V.undef, V.undef, V.undef]) r381 i382 (fun r380 i383 => ELp34_29 m R n [V.own [LT.int IntKind.i64] r380, V.own [LT.bool] r381, V.undef, V.undef, V.f (F.lit (Value.int IntKind.i64 i382)), V.f (F.lit (Value.int IntKind.i64 i383)), V.undef, V.undef, V.undef] k) r380 i383
    | _ => none
def brLp34_29 (m : Nat) (L : LTbl) (R : Type) (vs : List V) (k : Ex → List V → Option R) : Option R := match vs with
  | [V.own [LT.int IntKind.i64] r380, V.own [LT.bool] r381, V.undef, V.undef, V.f (F.lit (Value.int IntKind.i64 i382)), V.f (F.lit (Value.int IntKind.i64 i383)), V.undef, V.undef, V.undef] => Lp34_29 m (fun r396 i397 => k (Ex.exit (4 : Nat)) [V.own [LT.int IntKind.i64] r396, V.own [LT.bool] r381, V.undef, V.undef, V.f (F.lit (Value.int IntKind.i64 i382)), V.f (F.lit (Value.int IntKind.i64 i397)), V.undef, V.undef, V.undef]) r381 i382 m r380 i383
  | _ => L R 34 29 vs k
set_option maxRecDepth 100000 in
theorem stLp34_29 (m n : Nat) (R : Type) (r380 : Abs.Rows) (r381 : Abs.Rows) (i382 : Int) (i383 : Int) (k : Ex → List V → Option R) : codeK Try.prog H (T14 m) 34 (L13 m) 30 (loopBody Try.prog 34 29) (mkEnv [9, 10, 33, 36, 102, 103, 126, 127, 128] [V.own [LT.int IntKind.i64] r380, V.own [LT.bool] r381, V.undef, V.undef, V.f (F.lit (Value.int IntKind.i64 i382)), V.f (F.lit (Value.int IntKind.i64 i383)), V.undef, V.undef, V.undef] 0 (H.len 34)) (fun e env' => match e with | .normal => ELp34_29 m R n (vals [9, 10, 33, 36, 102, 103, 126, 127, 128] env') k | e => k e (vals [9, 10, 33, 36, 102, 103, 126, 127, 128] env')) = Lp34_29_step m (fun r396 i397 => k (Ex.exit (4 : Nat)) [V.own [LT.int IntKind.i64] r396, V.own [LT.bool] r381, V.undef, V.undef, V.f (F.lit (Value.int IntKind.i64 i382)), V.f (F.lit (Value.int IntKind.i64 i397)), V.undef, V.undef, V.undef]) r381 i382 (fun r380 i383 => ELp34_29 m R n [V.own [LT.int IntKind.i64] r380, V.own [LT.bool] r381, V.undef, V.undef, V.f (F.lit (Value.int IntKind.i64 i382)), V.f (F.lit (Value.int IntKind.i64 i383)), V.undef, V.undef, V.undef] k) r380 i383 := by kernel_rfl
theorem eqLp34_29 (m : Nat) (R : Type) (r381 : Abs.Rows) (i382 : Int) (k : Ex → List V → Option R) : ∀ (n : Nat) (r380 : Abs.Rows) (i383 : Int), ELp34_29 m R n [V.own [LT.int IntKind.i64] r380, V.own [LT.bool] r381, V.undef, V.undef, V.f (F.lit (Value.int IntKind.i64 i382)), V.f (F.lit (Value.int IntKind.i64 i383)), V.undef, V.undef, V.undef] k = Lp34_29 m (fun r396 i397 => k (Ex.exit (4 : Nat)) [V.own [LT.int IntKind.i64] r396, V.own [LT.bool] r381, V.undef, V.undef, V.f (F.lit (Value.int IntKind.i64 i382)), V.f (F.lit (Value.int IntKind.i64 i397)), V.undef, V.undef, V.undef]) r381 i382 n r380 i383
  | 0, _, _ => rfl
  | n + 1, r380, i383 => by
    simp only [ELp34_29, Lp34_29]
    congr 1
    funext r380 i383
    exact eqLp34_29 m R r381 i382 k n r380 i383
def L14 (m : Nat) : LTbl := addB 34 29 (brLp34_29 m (L13 m)) (L13 m)
theorem okL14 (m : Nat) : LTOk Try.prog H (L14 m) := addB_ok (okT14 m) hM (okL13 m) (l := [9, 10, 33, 36, 102, 103, 126, 127, 128]) (by kernel_rfl) (by kernel_rfl) m (fun R n vs k => ELp34_29 m R n vs k) (fun R vs k => rfl) (fun R n vs k x h => by
      simp only [ELp34_29] at h
      split at h
      · exact (stLp34_29 m n R _ _ _ _ k).trans h
      · cases h) fun R vs k x h => by
    unfold brLp34_29 at h
    split at h
    · exact .inl ((eqLp34_29 m R _ _ k m _ _).trans h)
    · exact .inr h

/-- a rest of hookflash/media.PlayOut -/
def Jn34_7 {R : Type} (m : Nat) (kx0 : Abs.Rows → Int → Option R) (r296 : Abs.Rows) (i297 : Int) (i298 : Int) (r299 : Abs.Rows) (i300 : Int) : Option R :=
  bif decide ((0 : Int) ≤ IntKind.wrap IntKind.i64 ((8 : Int) * i298) ∧ IntKind.wrap IntKind.i64 ((8 : Int) * i298) ≤ IntKind.wrap IntKind.i64 ((8 : Int) * i298) ∧ IntKind.wrap IntKind.i64 ((8 : Int) * i298) ≤ (↑rowMax : Int)) then (bif decide ((0 : Int) ≤ (↑(List.length (List.replicate (Int.toNat (IntKind.wrap IntKind.i64 ((8 : Int) * i298))) [F.lit (Value.int IntKind.i64 (0 : Int))])) : Int) ∧ (↑(List.length (List.replicate (Int.toNat (IntKind.wrap IntKind.i64 ((8 : Int) * i298))) [F.lit (Value.int IntKind.i64 (0 : Int))])) : Int) ≤ (↑(List.length (List.replicate (Int.toNat (IntKind.wrap IntKind.i64 ((8 : Int) * i298))) [F.lit (Value.int IntKind.i64 (0 : Int))])) : Int) ∧ (↑(List.length (List.replicate (Int.toNat (IntKind.wrap IntKind.i64 ((8 : Int) * i298))) [F.lit (Value.int IntKind.i64 (0 : Int))])) : Int) ≤ (↑rowMax : Int)) then (Lp34_11 m (fun r377 r378 i379 => Lp34_29 m (fun r398 i399 => kx0 r398 ((0 : Int))) r378 ((↑(List.length r377) : Int)) m r377 ((0 : Int))) r296 i297 r296 ((↑(List.length r296) : Int)) m (List.replicate (Int.toNat (IntKind.wrap IntKind.i64 ((8 : Int) * i298))) [F.lit (Value.int IntKind.i64 (0 : Int))]) (List.replicate (Int.toNat (↑(List.length (List.replicate (Int.toNat (IntKind.wrap IntKind.i64 ((8 : Int) * i298))) [F.lit (Value.int IntKind.i64 (0 : Int))])) : Int)) [F.lit (Value.bool false)]) ((0 : Int))) else
  (none)) else
  (none)
def brJn34_7 (m : Nat) (L : LTbl) (R : Type) (vs : List V) (k : Ex → List V → Option R) : Option R := match vs with
  | [V.bor [LT.int IntKind.i64, LT.int IntKind.i64, LT.int IntKind.i64, LT.int IntKind.i64, LT.int IntKind.i64, LT.bool, LT.lst [LT.int IntKind.u8]] r296, V.f (F.lit (Value.int IntKind.i64 i297)), V.f (F.lit (Value.int IntKind.i64 i298)), V.own [LT.int IntKind.i64] r299, V.f (F.lit (Value.int IntKind.i64 i300)), V.undef, V.undef, V.undef, V.undef, V.undef, V.undef] => Jn34_7 m (fun r400 i401 => k Ex.ret [V.undef, V.undef, V.undef, V.own [LT.int IntKind.i64] r400, V.f (F.lit (Value.int IntKind.i64 i401)), V.undef, V.undef, V.undef, V.undef, V.undef, V.undef]) r296 i297 i298 r299 i300
  | _ => L R 34 7 vs k
set_option maxRecDepth 100000 in
theorem evJn34_7 (m : Nat) (R : Type) (r296 : Abs.Rows) (i297 : Int) (i298 : Int) (r299 : Abs.Rows) (i300 : Int) (k : Ex → List V → Option R) : codeK Try.prog H (T14 m) 34 (L14 m) 8 (loopBody Try.prog 34 7) (mkEnv [0, 1, 2, 6, 7, 9, 33, 125, 126, 127, 128] [V.bor [LT.int IntKind.i64, LT.int IntKind.i64, LT.int IntKind.i64, LT.int IntKind.i64, LT.int IntKind.i64, LT.bool, LT.lst [LT.int IntKind.u8]] r296, V.f (F.lit (Value.int IntKind.i64 i297)), V.f (F.lit (Value.int IntKind.i64 i298)), V.own [LT.int IntKind.i64] r299, V.f (F.lit (Value.int IntKind.i64 i300)), V.undef, V.undef, V.undef, V.undef, V.undef, V.undef] 0 (H.len 34)) (fun e env' => k e (vals [0, 1, 2, 6, 7, 9, 33, 125, 126, 127, 128] env')) = Jn34_7 m (fun r400 i401 => k Ex.ret [V.undef, V.undef, V.undef, V.own [LT.int IntKind.i64] r400, V.f (F.lit (Value.int IntKind.i64 i401)), V.undef, V.undef, V.undef, V.undef, V.undef, V.undef]) r296 i297 i298 r299 i300 := by kernel_rfl
def L15 (m : Nat) : LTbl := addJ 34 7 (brJn34_7 m (L14 m)) (L14 m)
theorem okL15 (m : Nat) : LTOk Try.prog H (L15 m) := addJ_ok (okT14 m) hM (okL14 m) (l := [0, 1, 2, 6, 7, 9, 33, 125, 126, 127, 128]) (by kernel_rfl) (by kernel_rfl) fun R vs k x h => by
    unfold brJn34_7 at h
    split at h
    · exact .inl ((evJn34_7 m R _ _ _ _ _ k).trans h)
    · exact .inr h

/-- hookflash/media.PlayOut -/
def Fn34 {R : Type} (m : Nat) : Abs.Rows → Int → Int → (Abs.Rows → Int → Option R) → Option R := match m with
  | 0 => fun _ _ _ _ => none
  | m + 1 => fun r220 i221 i222 k =>
  Fn49 m r220 (fun i293 => bif i293 != (0 : Int) then (k rows0 i293) else
  (Fn67 m i221 ((0 : Int)) ((10000 : Int)) (fun b294 => bif !b294 then (k rows0 ((1 : Int))) else
  (Fn67 m i222 ((0 : Int)) ((2500 : Int)) (fun b295 => bif !b295 then (k rows0 ((1 : Int))) else
  (Jn34_7 m (fun r402 i403 => k r402 i403) r220 i221 i222 rows0 ((0 : Int))))))))
def brFn34 (m : Nat) (T : Tbl) (R : Type) (vs : List V) (k : V → List V → Option R) : Option R := match vs with
  | [V.bor [LT.int IntKind.i64, LT.int IntKind.i64, LT.int IntKind.i64, LT.int IntKind.i64, LT.int IntKind.i64, LT.bool, LT.lst [LT.int IntKind.u8]] r220, V.f (F.lit (Value.int IntKind.i64 i221)), V.f (F.lit (Value.int IntKind.i64 i222))] => Fn34 m r220 i221 i222 (fun r404 i405 => k (V.tup [V.own [LT.int IntKind.i64] r404, V.f (F.lit (Value.int IntKind.i64 i405))]) [V.undef, V.undef, V.undef])
  | _ => T R 34 vs k
set_option maxRecDepth 100000 in
theorem evFn34 (m : Nat) (R : Type) (r220 : Abs.Rows) (i221 : Int) (i222 : Int) (k : V → List V → Option R) : runK Try.prog H (T14 m) (L15 m) 34 [V.bor [LT.int IntKind.i64, LT.int IntKind.i64, LT.int IntKind.i64, LT.int IntKind.i64, LT.int IntKind.i64, LT.bool, LT.lst [LT.int IntKind.u8]] r220, V.f (F.lit (Value.int IntKind.i64 i221)), V.f (F.lit (Value.int IntKind.i64 i222))] k = Fn34 (m + 1) r220 i221 i222 (fun r404 i405 => k (V.tup [V.own [LT.int IntKind.i64] r404, V.f (F.lit (Value.int IntKind.i64 i405))]) [V.undef, V.undef, V.undef]) := by kernel_rfl
def T15 (m : Nat) : Tbl := addT 34 (brFn34 m (T14 m)) (T14 m)
theorem okT15 (m : Nat) : TblOk Try.prog (T15 m) := addT_ok (okT14 m) fun R vs k x h => by
  unfold brFn34 at h
  split at h
  · cases m with
    | zero => cases h
    | succ m => exact runK_some (okT14 m) hM (okL15 m) ((evFn34 m R _ _ _ k).trans h)
  · exact okT14 m R 34 _ k x h

/-- hookflash/flashref2.in -/
def Fn63 {R : Type} (m : Nat) : Int → Int → Int → (Bool → Option R) → Option R := match m with
  | 0 => fun _ _ _ _ => none
  | m + 1 => fun i415 i416 i417 k =>
  bif decide (i416 ≤ i415) then (k (decide (i415 ≤ i417))) else
  (k false)
def brFn63 (m : Nat) (T : Tbl) (R : Type) (vs : List V) (k : V → List V → Option R) : Option R := match vs with
  | [V.f (F.lit (Value.int IntKind.i64 i415)), V.f (F.lit (Value.int IntKind.i64 i416)), V.f (F.lit (Value.int IntKind.i64 i417))] => Fn63 m i415 i416 i417 (fun b418 => k (V.f (F.lit (Value.bool b418))) [V.undef, V.undef, V.undef])
  | _ => T R 63 vs k
set_option maxRecDepth 100000 in
theorem evFn63 (m : Nat) (R : Type) (i415 : Int) (i416 : Int) (i417 : Int) (k : V → List V → Option R) : runK Try.prog H (T15 m) (L15 m) 63 [V.f (F.lit (Value.int IntKind.i64 i415)), V.f (F.lit (Value.int IntKind.i64 i416)), V.f (F.lit (Value.int IntKind.i64 i417))] k = Fn63 (m + 1) i415 i416 i417 (fun b418 => k (V.f (F.lit (Value.bool b418))) [V.undef, V.undef, V.undef]) := by kernel_rfl
def T16 (m : Nat) : Tbl := addT 63 (brFn63 m (T15 m)) (T15 m)
theorem okT16 (m : Nat) : TblOk Try.prog (T16 m) := addT_ok (okT15 m) fun R vs k x h => by
  unfold brFn63 at h
  split at h
  · cases m with
    | zero => cases h
    | succ m => exact runK_some (okT15 m) hM (okL15 m) ((evFn63 m R _ _ _ k).trans h)
  · exact okT15 m R 63 _ k x h

/-- hookflash/flashref2.Moment -/
def Fn73 {R : Type} (m : Nat) : Int → (Bool → Option R) → Option R := match m with
  | 0 => fun _ _ => none
  | m + 1 => fun i414 k =>
  Fn63 m i414 ((0 : Int)) ((345686399999 : Int)) (fun b419 => k b419)
def brFn73 (m : Nat) (T : Tbl) (R : Type) (vs : List V) (k : V → List V → Option R) : Option R := match vs with
  | [V.f (F.lit (Value.int IntKind.i64 i414))] => Fn73 m i414 (fun b420 => k (V.f (F.lit (Value.bool b420))) [V.undef])
  | _ => T R 73 vs k
set_option maxRecDepth 100000 in
theorem evFn73 (m : Nat) (R : Type) (i414 : Int) (k : V → List V → Option R) : runK Try.prog H (T16 m) (L15 m) 73 [V.f (F.lit (Value.int IntKind.i64 i414))] k = Fn73 (m + 1) i414 (fun b420 => k (V.f (F.lit (Value.bool b420))) [V.undef]) := by kernel_rfl
def T17 (m : Nat) : Tbl := addT 73 (brFn73 m (T16 m)) (T16 m)
theorem okT17 (m : Nat) : TblOk Try.prog (T17 m) := addT_ok (okT16 m) fun R vs k x h => by
  unfold brFn73 at h
  split at h
  · cases m with
    | zero => cases h
    | succ m => exact runK_some (okT16 m) hM (okL15 m) ((evFn73 m R _ k).trans h)
  · exact okT16 m R 73 _ k x h

/-- a rest of hookflash/flashref2.PacketFault -/
def Jn12_1 {R : Type} (m : Nat) (kx0 : Int → Bool → Option R) (kx1 : Bool → Option R) (i429 : Int) (i430 : Int) (i431 : Int) (i432 : Int) (b433 : Bool) (r434 : Abs.Rows) (i435 : Int) (b436 : Bool) : Option R :=
  bif b436 then (kx0 ((1 : Int)) true) else
  (bif decide ((↑(List.length r434) : Int) > (1000 : Int)) then (kx0 ((2 : Int)) false) else
  (kx1 false))
def brJn12_1 (m : Nat) (L : LTbl) (R : Type) (vs : List V) (k : Ex → List V → Option R) : Option R := match vs with
  | [V.obj [V.f (F.lit (Value.int IntKind.i64 i429)), V.f (F.lit (Value.int IntKind.i64 i430)), V.f (F.lit (Value.int IntKind.i64 i431)), V.f (F.lit (Value.int IntKind.i64 i432)), V.f (F.lit (Value.bool b433)), V.f (F.lst [LT.int IntKind.u8] r434)], V.f (F.lit (Value.int IntKind.i64 i435)), V.f (F.lit (Value.bool b436)), V.undef] => Jn12_1 m (fun i437 b438 => k Ex.ret [V.obj [V.f (F.lit (Value.int IntKind.i64 i429)), V.f (F.lit (Value.int IntKind.i64 i430)), V.f (F.lit (Value.int IntKind.i64 i431)), V.f (F.lit (Value.int IntKind.i64 i432)), V.f (F.lit (Value.bool b433)), V.f (F.lst [LT.int IntKind.u8] r434)], V.f (F.lit (Value.int IntKind.i64 i437)), V.f (F.lit (Value.bool b438)), V.undef]) (fun b439 => k Ex.normal [V.obj [V.f (F.lit (Value.int IntKind.i64 i429)), V.f (F.lit (Value.int IntKind.i64 i430)), V.f (F.lit (Value.int IntKind.i64 i431)), V.f (F.lit (Value.int IntKind.i64 i432)), V.f (F.lit (Value.bool b433)), V.f (F.lst [LT.int IntKind.u8] r434)], V.f (F.lit (Value.int IntKind.i64 i435)), V.f (F.lit (Value.bool b439)), V.undef]) i429 i430 i431 i432 b433 r434 i435 b436
  | _ => L R 12 1 vs k
set_option maxRecDepth 100000 in
theorem evJn12_1 (m : Nat) (R : Type) (i429 : Int) (i430 : Int) (i431 : Int) (i432 : Int) (b433 : Bool) (r434 : Abs.Rows) (i435 : Int) (b436 : Bool) (k : Ex → List V → Option R) : codeK Try.prog H (T17 m) 12 (L15 m) 2 (loopBody Try.prog 12 1) (mkEnv [1, 2, 3, 31] [V.obj [V.f (F.lit (Value.int IntKind.i64 i429)), V.f (F.lit (Value.int IntKind.i64 i430)), V.f (F.lit (Value.int IntKind.i64 i431)), V.f (F.lit (Value.int IntKind.i64 i432)), V.f (F.lit (Value.bool b433)), V.f (F.lst [LT.int IntKind.u8] r434)], V.f (F.lit (Value.int IntKind.i64 i435)), V.f (F.lit (Value.bool b436)), V.undef] 0 (H.len 12)) (fun e env' => k e (vals [1, 2, 3, 31] env')) = Jn12_1 m (fun i437 b438 => k Ex.ret [V.obj [V.f (F.lit (Value.int IntKind.i64 i429)), V.f (F.lit (Value.int IntKind.i64 i430)), V.f (F.lit (Value.int IntKind.i64 i431)), V.f (F.lit (Value.int IntKind.i64 i432)), V.f (F.lit (Value.bool b433)), V.f (F.lst [LT.int IntKind.u8] r434)], V.f (F.lit (Value.int IntKind.i64 i437)), V.f (F.lit (Value.bool b438)), V.undef]) (fun b439 => k Ex.normal [V.obj [V.f (F.lit (Value.int IntKind.i64 i429)), V.f (F.lit (Value.int IntKind.i64 i430)), V.f (F.lit (Value.int IntKind.i64 i431)), V.f (F.lit (Value.int IntKind.i64 i432)), V.f (F.lit (Value.bool b433)), V.f (F.lst [LT.int IntKind.u8] r434)], V.f (F.lit (Value.int IntKind.i64 i435)), V.f (F.lit (Value.bool b439)), V.undef]) i429 i430 i431 i432 b433 r434 i435 b436 := by kernel_rfl
def L16 (m : Nat) : LTbl := addJ 12 1 (brJn12_1 m (L15 m)) (L15 m)
theorem okL16 (m : Nat) : LTOk Try.prog H (L16 m) := addJ_ok (okT17 m) hM (okL15 m) (l := [1, 2, 3, 31]) (by kernel_rfl) (by kernel_rfl) fun R vs k x h => by
    unfold brJn12_1 at h
    split at h
    · exact .inl ((evJn12_1 m R _ _ _ _ _ _ _ _ k).trans h)
    · exact .inr h

/-- hookflash/flashref2.PacketFault -/
def Fn12 {R : Type} (m : Nat) : Int → Int → Int → Int → Bool → Abs.Rows → (Int → Option R) → Option R := match m with
  | 0 => fun _ _ _ _ _ _ _ => none
  | m + 1 => fun i422 i423 i424 i425 b426 r427 k =>
  Fn63 m i422 ((0 : Int)) ((127 : Int)) (fun b428 => bif !b428 then (Jn12_1 m (fun i440 b441 => k i440) (fun b442 => k ((0 : Int))) i422 i423 i424 i425 b426 r427 ((0 : Int)) true) else
  (Fn63 m i423 ((0 : Int)) ((65535 : Int)) (fun b443 => bif !b443 then (Jn12_1 m (fun i444 b445 => k i444) (fun b446 => k ((0 : Int))) i422 i423 i424 i425 b426 r427 ((0 : Int)) true) else
  (Fn63 m i424 ((0 : Int)) ((4294967295 : Int)) (fun b447 => bif !b447 then (Jn12_1 m (fun i448 b449 => k i448) (fun b450 => k ((0 : Int))) i422 i423 i424 i425 b426 r427 ((0 : Int)) true) else
  (Fn63 m i425 ((0 : Int)) ((4294967295 : Int)) (fun b451 => Jn12_1 m (fun i452 b453 => k i452) (fun b454 => k ((0 : Int))) i422 i423 i424 i425 b426 r427 ((0 : Int)) (!b451))))))))
def brFn12 (m : Nat) (T : Tbl) (R : Type) (vs : List V) (k : V → List V → Option R) : Option R := match vs with
  | [V.agg [V.f (F.lit (Value.int IntKind.i64 i422)), V.f (F.lit (Value.int IntKind.i64 i423)), V.f (F.lit (Value.int IntKind.i64 i424)), V.f (F.lit (Value.int IntKind.i64 i425)), V.f (F.lit (Value.bool b426)), V.f (F.lst [LT.int IntKind.u8] r427)]] => Fn12 m i422 i423 i424 i425 b426 r427 (fun i455 => k (V.f (F.lit (Value.int IntKind.i64 i455))) [V.undef])
  | _ => T R 12 vs k
set_option maxRecDepth 100000 in
theorem evFn12 (m : Nat) (R : Type) (i422 : Int) (i423 : Int) (i424 : Int) (i425 : Int) (b426 : Bool) (r427 : Abs.Rows) (k : V → List V → Option R) : runK Try.prog H (T17 m) (L16 m) 12 [V.agg [V.f (F.lit (Value.int IntKind.i64 i422)), V.f (F.lit (Value.int IntKind.i64 i423)), V.f (F.lit (Value.int IntKind.i64 i424)), V.f (F.lit (Value.int IntKind.i64 i425)), V.f (F.lit (Value.bool b426)), V.f (F.lst [LT.int IntKind.u8] r427)]] k = Fn12 (m + 1) i422 i423 i424 i425 b426 r427 (fun i455 => k (V.f (F.lit (Value.int IntKind.i64 i455))) [V.undef]) := by kernel_rfl
def T18 (m : Nat) : Tbl := addT 12 (brFn12 m (T17 m)) (T17 m)
theorem okT18 (m : Nat) : TblOk Try.prog (T18 m) := addT_ok (okT17 m) fun R vs k x h => by
  unfold brFn12 at h
  split at h
  · cases m with
    | zero => cases h
    | succ m => exact runK_some (okT17 m) hM (okL16 m) ((evFn12 m R _ _ _ _ _ _ k).trans h)
  · exact okT17 m R 12 _ k x h

/-- a rest of hookflash/flashref2.ArrivalsFault -/
def Jn36_16 {R : Type} (m : Nat) (kx0 : Int → Bool → Option R) (kx1 : Bool → Option R) (r457 : Abs.Rows) (i458 : Int) (i459 : Int) (i460 : Int) (i461 : Int) (i462 : Int) (i463 : Int) (b464 : Bool) (r465 : Abs.Rows) (r466 : Abs.Rows) (i467 : Int) (i468 : Int) (b469 : Bool) : Option R :=
  bif b469 then (kx0 ((7 : Int)) true) else
  (bif decide ((0 : Int) ≤ (0 : Int) ∧ (0 : Int) < (↑(List.length r457) : Int)) then (bif i463 != fI r457 (Int.toNat (0 : Int)) (4 : Nat) then (kx0 ((13 : Int)) false) else
  (kx1 false)) else
  (none))
def brJn36_16 (m : Nat) (L : LTbl) (R : Type) (vs : List V) (k : Ex → List V → Option R) : Option R := match vs with
  | [V.bor [LT.int IntKind.i64, LT.int IntKind.i64, LT.int IntKind.i64, LT.int IntKind.i64, LT.int IntKind.i64, LT.bool, LT.lst [LT.int IntKind.u8]] r457, V.f (F.lit (Value.int IntKind.i64 i458)), V.obj [V.f (F.lit (Value.int IntKind.i64 i459)), V.f (F.lit (Value.int IntKind.i64 i460)), V.f (F.lit (Value.int IntKind.i64 i461)), V.f (F.lit (Value.int IntKind.i64 i462)), V.f (F.lit (Value.int IntKind.i64 i463)), V.f (F.lit (Value.bool b464)), V.f (F.lst [LT.int IntKind.u8] r465)], V.bor [LT.int IntKind.i64, LT.int IntKind.i64, LT.int IntKind.i64, LT.int IntKind.i64, LT.int IntKind.i64, LT.bool, LT.lst [LT.int IntKind.u8]] r466, V.f (F.lit (Value.int IntKind.i64 i467)), V.f (F.lit (Value.int IntKind.i64 i468)), V.f (F.lit (Value.bool b469)), V.undef] => Jn36_16 m (fun i470 b471 => k Ex.ret [V.bor [LT.int IntKind.i64, LT.int IntKind.i64, LT.int IntKind.i64, LT.int IntKind.i64, LT.int IntKind.i64, LT.bool, LT.lst [LT.int IntKind.u8]] r457, V.f (F.lit (Value.int IntKind.i64 i470)), V.obj [V.f (F.lit (Value.int IntKind.i64 i459)), V.f (F.lit (Value.int IntKind.i64 i460)), V.f (F.lit (Value.int IntKind.i64 i461)), V.f (F.lit (Value.int IntKind.i64 i462)), V.f (F.lit (Value.int IntKind.i64 i463)), V.f (F.lit (Value.bool b464)), V.f (F.lst [LT.int IntKind.u8] r465)], V.bor [LT.int IntKind.i64, LT.int IntKind.i64, LT.int IntKind.i64, LT.int IntKind.i64, LT.int IntKind.i64, LT.bool, LT.lst [LT.int IntKind.u8]] r466, V.f (F.lit (Value.int IntKind.i64 i467)), V.f (F.lit (Value.int IntKind.i64 i468)), V.f (F.lit (Value.bool b471)), V.undef]) (fun b472 => k Ex.normal [V.bor [LT.int IntKind.i64, LT.int IntKind.i64, LT.int IntKind.i64, LT.int IntKind.i64, LT.int IntKind.i64, LT.bool, LT.lst [LT.int IntKind.u8]] r457, V.f (F.lit (Value.int IntKind.i64 i458)), V.obj [V.f (F.lit (Value.int IntKind.i64 i459)), V.f (F.lit (Value.int IntKind.i64 i460)), V.f (F.lit (Value.int IntKind.i64 i461)), V.f (F.lit (Value.int IntKind.i64 i462)), V.f (F.lit (Value.int IntKind.i64 i463)), V.f (F.lit (Value.bool b464)), V.f (F.lst [LT.int IntKind.u8] r465)], V.bor [LT.int IntKind.i64, LT.int IntKind.i64, LT.int IntKind.i64, LT.int IntKind.i64, LT.int IntKind.i64, LT.bool, LT.lst [LT.int IntKind.u8]] r466, V.f (F.lit (Value.int IntKind.i64 i467)), V.f (F.lit (Value.int IntKind.i64 i468)), V.f (F.lit (Value.bool b472)), V.undef]) r457 i458 i459 i460 i461 i462 i463 b464 r465 r466 i467 i468 b469
  | _ => L R 36 16 vs k
set_option maxRecDepth 100000 in
theorem evJn36_16 (m : Nat) (R : Type) (r457 : Abs.Rows) (i458 : Int) (i459 : Int) (i460 : Int) (i461 : Int) (i462 : Int) (i463 : Int) (b464 : Bool) (r465 : Abs.Rows) (r466 : Abs.Rows) (i467 : Int) (i468 : Int) (b469 : Bool) (k : Ex → List V → Option R) : codeK Try.prog H (T18 m) 36 (L16 m) 17 (loopBody Try.prog 36 16) (mkEnv [0, 2, 4, 9, 10, 11, 26, 51] [V.bor [LT.int IntKind.i64, LT.int IntKind.i64, LT.int IntKind.i64, LT.int IntKind.i64, LT.int IntKind.i64, LT.bool, LT.lst [LT.int IntKind.u8]] r457, V.f (F.lit (Value.int IntKind.i64 i458)), V.obj [V.f (F.lit (Value.int IntKind.i64 i459)), V.f (F.lit (Value.int IntKind.i64 i460)), V.f (F.lit (Value.int IntKind.i64 i461)), V.f (F.lit (Value.int IntKind.i64 i462)), V.f (F.lit (Value.int IntKind.i64 i463)), V.f (F.lit (Value.bool b464)), V.f (F.lst [LT.int IntKind.u8] r465)], V.bor [LT.int IntKind.i64, LT.int IntKind.i64, LT.int IntKind.i64, LT.int IntKind.i64, LT.int IntKind.i64, LT.bool, LT.lst [LT.int IntKind.u8]] r466, V.f (F.lit (Value.int IntKind.i64 i467)), V.f (F.lit (Value.int IntKind.i64 i468)), V.f (F.lit (Value.bool b469)), V.undef] 0 (H.len 36)) (fun e env' => k e (vals [0, 2, 4, 9, 10, 11, 26, 51] env')) = Jn36_16 m (fun i470 b471 => k Ex.ret [V.bor [LT.int IntKind.i64, LT.int IntKind.i64, LT.int IntKind.i64, LT.int IntKind.i64, LT.int IntKind.i64, LT.bool, LT.lst [LT.int IntKind.u8]] r457, V.f (F.lit (Value.int IntKind.i64 i470)), V.obj [V.f (F.lit (Value.int IntKind.i64 i459)), V.f (F.lit (Value.int IntKind.i64 i460)), V.f (F.lit (Value.int IntKind.i64 i461)), V.f (F.lit (Value.int IntKind.i64 i462)), V.f (F.lit (Value.int IntKind.i64 i463)), V.f (F.lit (Value.bool b464)), V.f (F.lst [LT.int IntKind.u8] r465)], V.bor [LT.int IntKind.i64, LT.int IntKind.i64, LT.int IntKind.i64, LT.int IntKind.i64, LT.int IntKind.i64, LT.bool, LT.lst [LT.int IntKind.u8]] r466, V.f (F.lit (Value.int IntKind.i64 i467)), V.f (F.lit (Value.int IntKind.i64 i468)), V.f (F.lit (Value.bool b471)), V.undef]) (fun b472 => k Ex.normal [V.bor [LT.int IntKind.i64, LT.int IntKind.i64, LT.int IntKind.i64, LT.int IntKind.i64, LT.int IntKind.i64, LT.bool, LT.lst [LT.int IntKind.u8]] r457, V.f (F.lit (Value.int IntKind.i64 i458)), V.obj [V.f (F.lit (Value.int IntKind.i64 i459)), V.f (F.lit (Value.int IntKind.i64 i460)), V.f (F.lit (Value.int IntKind.i64 i461)), V.f (F.lit (Value.int IntKind.i64 i462)), V.f (F.lit (Value.int IntKind.i64 i463)), V.f (F.lit (Value.bool b464)), V.f (F.lst [LT.int IntKind.u8] r465)], V.bor [LT.int IntKind.i64, LT.int IntKind.i64, LT.int IntKind.i64, LT.int IntKind.i64, LT.int IntKind.i64, LT.bool, LT.lst [LT.int IntKind.u8]] r466, V.f (F.lit (Value.int IntKind.i64 i467)), V.f (F.lit (Value.int IntKind.i64 i468)), V.f (F.lit (Value.bool b472)), V.undef]) r457 i458 i459 i460 i461 i462 i463 b464 r465 r466 i467 i468 b469 := by kernel_rfl
def L17 (m : Nat) : LTbl := addJ 36 16 (brJn36_16 m (L16 m)) (L16 m)
theorem okL17 (m : Nat) : LTOk Try.prog H (L17 m) := addJ_ok (okT18 m) hM (okL16 m) (l := [0, 2, 4, 9, 10, 11, 26, 51]) (by kernel_rfl) (by kernel_rfl) fun R vs k x h => by
    unfold brJn36_16 at h
    split at h
    · exact .inl ((evJn36_16 m R _ _ _ _ _ _ _ _ _ _ _ _ _ k).trans h)
    · exact .inr h

/-- a round of a loop of hookflash/flashref2.ArrivalsFault -/
def Lp36_5_step {R : Type} (m : Nat) (kx0 : Int → Int → Option R) (kx1 : Int → Option R) (r409 : Abs.Rows) (i410 : Int) (r411 : Abs.Rows) (i412 : Int) (REC : Int → Option R) (i413 : Int) : Option R :=
  bif decide (i413 < i412) then (bif decide ((0 : Int) ≤ i413 ∧ i413 < (↑(List.length r411) : Int)) then (Fn73 m (fI r411 (Int.toNat i413) (0 : Nat)) (fun b421 => bif !b421 then (kx0 ((1 : Int)) i413) else
  (Fn12 m (fI r411 (Int.toNat i413) (1 : Nat)) (fI r411 (Int.toNat i413) (2 : Nat)) (fI r411 (Int.toNat i413) (3 : Nat)) (fI r411 (Int.toNat i413) (4 : Nat)) (fB r411 (Int.toNat i413) (5 : Nat)) (fR r411 (Int.toNat i413) (6 : Nat)) (fun i456 => bif i456 != (0 : Int) then (kx0 i456 i413) else
  (bif decide (i413 > (0 : Int)) then (bif decide ((0 : Int) ≤ IntKind.wrap IntKind.i64 (i413 - (1 : Int)) ∧ IntKind.wrap IntKind.i64 (i413 - (1 : Int)) < (↑(List.length r409) : Int)) then (Jn36_16 m (fun i473 b474 => kx0 i473 i413) (fun b475 => REC (IntKind.wrap IntKind.i64 (i413 + (1 : Int)))) r409 i410 (fI r411 (Int.toNat i413) (0 : Nat)) (fI r411 (Int.toNat i413) (1 : Nat)) (fI r411 (Int.toNat i413) (2 : Nat)) (fI r411 (Int.toNat i413) (3 : Nat)) (fI r411 (Int.toNat i413) (4 : Nat)) (fB r411 (Int.toNat i413) (5 : Nat)) (fR r411 (Int.toNat i413) (6 : Nat)) r411 i412 i413 (decide (fI r411 (Int.toNat i413) (0 : Nat) < fI r409 (Int.toNat (IntKind.wrap IntKind.i64 (i413 - (1 : Int)))) (0 : Nat)))) else
  (none)) else
  (Jn36_16 m (fun i476 b477 => kx0 i476 i413) (fun b478 => REC (IntKind.wrap IntKind.i64 (i413 + (1 : Int)))) r409 i410 (fI r411 (Int.toNat i413) (0 : Nat)) (fI r411 (Int.toNat i413) (1 : Nat)) (fI r411 (Int.toNat i413) (2 : Nat)) (fI r411 (Int.toNat i413) (3 : Nat)) (fI r411 (Int.toNat i413) (4 : Nat)) (fB r411 (Int.toNat i413) (5 : Nat)) (fR r411 (Int.toNat i413) (6 : Nat)) r411 i412 i413 false)))))) else
  (none)) else
  (kx1 i413)
def Lp36_5 {R : Type} (m : Nat) (kx0 : Int → Int → Option R) (kx1 : Int → Option R) (r409 : Abs.Rows) (i410 : Int) (r411 : Abs.Rows) (i412 : Int) : Nat → Int → Option R
  | 0, _ => none
  | n + 1, i413 => Lp36_5_step m kx0 kx1 r409 i410 r411 i412 (Lp36_5 m kx0 kx1 r409 i410 r411 i412 n) i413
def ELp36_5 (m : Nat) (R : Type) : Nat → List V → (Ex → List V → Option R) → Option R
  | 0, _, _ => none
  | n + 1, vs, k => match vs with
    | [V.bor [LT.int IntKind.i64, LT.int IntKind.i64, LT.int IntKind.i64, LT.int IntKind.i64, LT.int IntKind.i64, LT.bool, LT.lst [LT.int IntKind.u8]] r409, V.f (F.lit (Value.int IntKind.i64 i410)), V.bor [LT.int IntKind.i64, LT.int IntKind.i64, LT.int IntKind.i64, LT.int IntKind.i64, LT.int IntKind.i64, LT.bool, LT.lst [LT.int IntKind.u8]] r411, V.f (F.lit (Value.int IntKind.i64 i412)), V.f (F.lit (Value.int IntKind.i64 i413)), V.undef] => Lp36_5_step m (fun i479 i480 => k Ex.ret [V.bor [LT.int IntKind.i64, LT.int IntKind.i64, LT.int IntKind.i64, LT.int IntKind.i64, LT.int IntKind.i64, LT.bool, LT.lst [LT.int IntKind.u8]] r409, V.f (F.lit (Value.int IntKind.i64 i479)), V.bor [LT.int IntKind.i64, LT.int IntKind.i64, LT.int IntKind.i64, LT.int IntKind.i64, LT.int IntKind.i64, LT.bool, LT.lst [LT.int IntKind.u8]] r411, V.f (F.lit (Value.int IntKind.i64 i412)), V.f (F.lit (Value.int IntKind.i64 i480)), V.undef]) (fun i481 => k (Ex.exit (0 : Nat)) [V.bor [LT.int IntKind.i64, LT.int IntKind.i64, LT.int IntKind.i64, LT.int IntKind.i64, LT.int IntKind.i64, LT.bool, LT.lst [LT.int IntKind.u8]] r409, V.f (F.lit (Value.int IntKind.i64 i410)), V.bor [LT.int IntKind.i64, LT.int IntKind.i64, LT.int IntKind.i64, LT.int IntKind.i64, LT.int IntKind.i64, LT.bool, LT.lst [LT.int IntKind.u8]] r411, V.f (F.lit (Value.int IntKind.i64 i412)), V.f (F.lit (Value.int IntKind.i64 i481)), V.undef]) r409 i410 r411 i412 (fun i413 => ELp36_5 m R n [V.bor [LT.int IntKind.i64, LT.int IntKind.i64, LT.int IntKind.i64, LT.int IntKind.i64, LT.int IntKind.i64, LT.bool, LT.lst [LT.int IntKind.u8]] r409, V.f (F.lit (Value.int IntKind.i64 i410)), V.bor [LT.int IntKind.i64, LT.int IntKind.i64, LT.int IntKind.i64, LT.int IntKind.i64, LT.int IntKind.i64, LT.bool, LT.lst [LT.int IntKind.u8]] r411, V.f (F.lit (Value.int IntKind.i64 i412)), V.f (F.lit (Value.int IntKind.i64 i413)), V.undef] k) i413
    | _ => none
def brLp36_5 (m : Nat) (L : LTbl) (R : Type) (vs : List V) (k : Ex → List V → Option R) : Option R := match vs with
  | [V.bor [LT.int IntKind.i64, LT.int IntKind.i64, LT.int IntKind.i64, LT.int IntKind.i64, LT.int IntKind.i64, LT.bool, LT.lst [LT.int IntKind.u8]] r409, V.f (F.lit (Value.int IntKind.i64 i410)), V.bor [LT.int IntKind.i64, LT.int IntKind.i64, LT.int IntKind.i64, LT.int IntKind.i64, LT.int IntKind.i64, LT.bool, LT.lst [LT.int IntKind.u8]] r411, V.f (F.lit (Value.int IntKind.i64 i412)), V.f (F.lit (Value.int IntKind.i64 i413)), V.undef] => Lp36_5 m (fun i479 i480 => k Ex.ret [V.bor [LT.int IntKind.i64, LT.int IntKind.i64, LT.int IntKind.i64, LT.int IntKind.i64, LT.int IntKind.i64, LT.bool, LT.lst [LT.int IntKind.u8]] r409, V.f (F.lit (Value.int IntKind.i64 i479)), V.bor [LT.int IntKind.i64, LT.int IntKind.i64, LT.int IntKind.i64, LT.int IntKind.i64, LT.int IntKind.i64, LT.bool, LT.lst [LT.int IntKind.u8]] r411, V.f (F.lit (Value.int IntKind.i64 i412)), V.f (F.lit (Value.int IntKind.i64 i480)), V.undef]) (fun i481 => k (Ex.exit (0 : Nat)) [V.bor [LT.int IntKind.i64, LT.int IntKind.i64, LT.int IntKind.i64, LT.int IntKind.i64, LT.int IntKind.i64, LT.bool, LT.lst [LT.int IntKind.u8]] r409, V.f (F.lit (Value.int IntKind.i64 i410)), V.bor [LT.int IntKind.i64, LT.int IntKind.i64, LT.int IntKind.i64, LT.int IntKind.i64, LT.int IntKind.i64, LT.bool, LT.lst [LT.int IntKind.u8]] r411, V.f (F.lit (Value.int IntKind.i64 i412)), V.f (F.lit (Value.int IntKind.i64 i481)), V.undef]) r409 i410 r411 i412 m i413
  | _ => L R 36 5 vs k
set_option maxRecDepth 100000 in
theorem stLp36_5 (m n : Nat) (R : Type) (r409 : Abs.Rows) (i410 : Int) (r411 : Abs.Rows) (i412 : Int) (i413 : Int) (k : Ex → List V → Option R) : codeK Try.prog H (T18 m) 36 (L17 m) 6 (loopBody Try.prog 36 5) (mkEnv [0, 2, 9, 10, 11, 51] [V.bor [LT.int IntKind.i64, LT.int IntKind.i64, LT.int IntKind.i64, LT.int IntKind.i64, LT.int IntKind.i64, LT.bool, LT.lst [LT.int IntKind.u8]] r409, V.f (F.lit (Value.int IntKind.i64 i410)), V.bor [LT.int IntKind.i64, LT.int IntKind.i64, LT.int IntKind.i64, LT.int IntKind.i64, LT.int IntKind.i64, LT.bool, LT.lst [LT.int IntKind.u8]] r411, V.f (F.lit (Value.int IntKind.i64 i412)), V.f (F.lit (Value.int IntKind.i64 i413)), V.undef] 0 (H.len 36)) (fun e env' => match e with | .normal => ELp36_5 m R n (vals [0, 2, 9, 10, 11, 51] env') k | e => k e (vals [0, 2, 9, 10, 11, 51] env')) = Lp36_5_step m (fun i479 i480 => k Ex.ret [V.bor [LT.int IntKind.i64, LT.int IntKind.i64, LT.int IntKind.i64, LT.int IntKind.i64, LT.int IntKind.i64, LT.bool, LT.lst [LT.int IntKind.u8]] r409, V.f (F.lit (Value.int IntKind.i64 i479)), V.bor [LT.int IntKind.i64, LT.int IntKind.i64, LT.int IntKind.i64, LT.int IntKind.i64, LT.int IntKind.i64, LT.bool, LT.lst [LT.int IntKind.u8]] r411, V.f (F.lit (Value.int IntKind.i64 i412)), V.f (F.lit (Value.int IntKind.i64 i480)), V.undef]) (fun i481 => k (Ex.exit (0 : Nat)) [V.bor [LT.int IntKind.i64, LT.int IntKind.i64, LT.int IntKind.i64, LT.int IntKind.i64, LT.int IntKind.i64, LT.bool, LT.lst [LT.int IntKind.u8]] r409, V.f (F.lit (Value.int IntKind.i64 i410)), V.bor [LT.int IntKind.i64, LT.int IntKind.i64, LT.int IntKind.i64, LT.int IntKind.i64, LT.int IntKind.i64, LT.bool, LT.lst [LT.int IntKind.u8]] r411, V.f (F.lit (Value.int IntKind.i64 i412)), V.f (F.lit (Value.int IntKind.i64 i481)), V.undef]) r409 i410 r411 i412 (fun i413 => ELp36_5 m R n [V.bor [LT.int IntKind.i64, LT.int IntKind.i64, LT.int IntKind.i64, LT.int IntKind.i64, LT.int IntKind.i64, LT.bool, LT.lst [LT.int IntKind.u8]] r409, V.f (F.lit (Value.int IntKind.i64 i410)), V.bor [LT.int IntKind.i64, LT.int IntKind.i64, LT.int IntKind.i64, LT.int IntKind.i64, LT.int IntKind.i64, LT.bool, LT.lst [LT.int IntKind.u8]] r411, V.f (F.lit (Value.int IntKind.i64 i412)), V.f (F.lit (Value.int IntKind.i64 i413)), V.undef] k) i413 := by kernel_rfl
theorem eqLp36_5 (m : Nat) (R : Type) (r409 : Abs.Rows) (i410 : Int) (r411 : Abs.Rows) (i412 : Int) (k : Ex → List V → Option R) : ∀ (n : Nat) (i413 : Int), ELp36_5 m R n [V.bor [LT.int IntKind.i64, LT.int IntKind.i64, LT.int IntKind.i64, LT.int IntKind.i64, LT.int IntKind.i64, LT.bool, LT.lst [LT.int IntKind.u8]] r409, V.f (F.lit (Value.int IntKind.i64 i410)), V.bor [LT.int IntKind.i64, LT.int IntKind.i64, LT.int IntKind.i64, LT.int IntKind.i64, LT.int IntKind.i64, LT.bool, LT.lst [LT.int IntKind.u8]] r411, V.f (F.lit (Value.int IntKind.i64 i412)), V.f (F.lit (Value.int IntKind.i64 i413)), V.undef] k = Lp36_5 m (fun i479 i480 => k Ex.ret [V.bor [LT.int IntKind.i64, LT.int IntKind.i64, LT.int IntKind.i64, LT.int IntKind.i64, LT.int IntKind.i64, LT.bool, LT.lst [LT.int IntKind.u8]] r409, V.f (F.lit (Value.int IntKind.i64 i479)), V.bor [LT.int IntKind.i64, LT.int IntKind.i64, LT.int IntKind.i64, LT.int IntKind.i64, LT.int IntKind.i64, LT.bool, LT.lst [LT.int IntKind.u8]] r411, V.f (F.lit (Value.int IntKind.i64 i412)), V.f (F.lit (Value.int IntKind.i64 i480)), V.undef]) (fun i481 => k (Ex.exit (0 : Nat)) [V.bor [LT.int IntKind.i64, LT.int IntKind.i64, LT.int IntKind.i64, LT.int IntKind.i64, LT.int IntKind.i64, LT.bool, LT.lst [LT.int IntKind.u8]] r409, V.f (F.lit (Value.int IntKind.i64 i410)), V.bor [LT.int IntKind.i64, LT.int IntKind.i64, LT.int IntKind.i64, LT.int IntKind.i64, LT.int IntKind.i64, LT.bool, LT.lst [LT.int IntKind.u8]] r411, V.f (F.lit (Value.int IntKind.i64 i412)), V.f (F.lit (Value.int IntKind.i64 i481)), V.undef]) r409 i410 r411 i412 n i413
  | 0, _ => rfl
  | n + 1, i413 => by
    simp only [ELp36_5, Lp36_5]
    congr 1
    funext i413
    exact eqLp36_5 m R r409 i410 r411 i412 k n i413
def L18 (m : Nat) : LTbl := addB 36 5 (brLp36_5 m (L17 m)) (L17 m)
theorem okL18 (m : Nat) : LTOk Try.prog H (L18 m) := addB_ok (okT18 m) hM (okL17 m) (l := [0, 2, 9, 10, 11, 51]) (by kernel_rfl) (by kernel_rfl) m (fun R n vs k => ELp36_5 m R n vs k) (fun R vs k => rfl) (fun R n vs k x h => by
      simp only [ELp36_5] at h
      split at h
      · exact (stLp36_5 m n R _ _ _ _ _ k).trans h
      · cases h) fun R vs k x h => by
    unfold brLp36_5 at h
    split at h
    · exact .inl ((eqLp36_5 m R _ _ _ _ k m _).trans h)
    · exact .inr h

/-- hookflash/flashref2.ArrivalsFault -/
def Fn36 {R : Type} (m : Nat) : Abs.Rows → (Int → Option R) → Option R := match m with
  | 0 => fun _ _ => none
  | m + 1 => fun r408 k =>
  bif decide ((↑(List.length r408) : Int) > (2000 : Int)) then (k ((2 : Int))) else
  (Lp36_5 m (fun i482 i483 => k i482) (fun i484 => k ((0 : Int))) r408 ((0 : Int)) r408 ((↑(List.length r408) : Int)) m ((0 : Int)))
def brFn36 (m : Nat) (T : Tbl) (R : Type) (vs : List V) (k : V → List V → Option R) : Option R := match vs with
  | [V.bor [LT.int IntKind.i64, LT.int IntKind.i64, LT.int IntKind.i64, LT.int IntKind.i64, LT.int IntKind.i64, LT.bool, LT.lst [LT.int IntKind.u8]] r408] => Fn36 m r408 (fun i485 => k (V.f (F.lit (Value.int IntKind.i64 i485))) [V.undef])
  | _ => T R 36 vs k
set_option maxRecDepth 100000 in
theorem evFn36 (m : Nat) (R : Type) (r408 : Abs.Rows) (k : V → List V → Option R) : runK Try.prog H (T18 m) (L18 m) 36 [V.bor [LT.int IntKind.i64, LT.int IntKind.i64, LT.int IntKind.i64, LT.int IntKind.i64, LT.int IntKind.i64, LT.bool, LT.lst [LT.int IntKind.u8]] r408] k = Fn36 (m + 1) r408 (fun i485 => k (V.f (F.lit (Value.int IntKind.i64 i485))) [V.undef]) := by kernel_rfl
def T19 (m : Nat) : Tbl := addT 36 (brFn36 m (T18 m)) (T18 m)
theorem okT19 (m : Nat) : TblOk Try.prog (T19 m) := addT_ok (okT18 m) fun R vs k x h => by
  unfold brFn36 at h
  split at h
  · cases m with
    | zero => cases h
    | succ m => exact runK_some (okT18 m) hM (okL18 m) ((evFn36 m R _ k).trans h)
  · exact okT18 m R 36 _ k x h

/-- hookflash/flashlaw2.when -/
def Fn24 {R : Type} (m : Nat) : Bool → Int → (Int → Option R) → Option R := match m with
  | 0 => fun _ _ _ => none
  | m + 1 => fun b487 i488 k =>
  bif b487 then (k i488) else
  (k ((0 : Int)))
def brFn24 (m : Nat) (T : Tbl) (R : Type) (vs : List V) (k : V → List V → Option R) : Option R := match vs with
  | [V.f (F.lit (Value.bool b487)), V.f (F.lit (Value.int IntKind.i64 i488))] => Fn24 m b487 i488 (fun i489 => k (V.f (F.lit (Value.int IntKind.i64 i489))) [V.undef, V.undef])
  | _ => T R 24 vs k
set_option maxRecDepth 100000 in
theorem evFn24 (m : Nat) (R : Type) (b487 : Bool) (i488 : Int) (k : V → List V → Option R) : runK Try.prog H (T19 m) (L18 m) 24 [V.f (F.lit (Value.bool b487)), V.f (F.lit (Value.int IntKind.i64 i488))] k = Fn24 (m + 1) b487 i488 (fun i489 => k (V.f (F.lit (Value.int IntKind.i64 i489))) [V.undef, V.undef]) := by kernel_rfl
def T20 (m : Nat) : Tbl := addT 24 (brFn24 m (T19 m)) (T19 m)
theorem okT20 (m : Nat) : TblOk Try.prog (T20 m) := addT_ok (okT19 m) fun R vs k x h => by
  unfold brFn24 at h
  split at h
  · cases m with
    | zero => cases h
    | succ m => exact runK_some (okT19 m) hM (okL18 m) ((evFn24 m R _ _ k).trans h)
  · exact okT19 m R 24 _ k x h

/-- a round of a loop of hookflash/flashlaw2.errs -/
def Lp35_2_step {R : Type} (m : Nat) (kx0 : Int → Int → Option R) (kx1 : Int → Option R) (r492 : Abs.Rows) (i493 : Int) (r494 : Abs.Rows) (i495 : Int) (REC : Int → Option R) (i496 : Int) : Option R :=
  bif decide (i496 < i495) then (bif decide ((0 : Int) ≤ i496 ∧ i496 < (↑(List.length r494) : Int)) then (bif fI r494 (Int.toNat i496) (0 : Nat) != (0 : Int) then (kx0 (fI r494 (Int.toNat i496) (0 : Nat)) i496) else
  (REC (IntKind.wrap IntKind.i64 (i496 + (1 : Int))))) else
  (none)) else
  (kx1 i496)
def Lp35_2 {R : Type} (m : Nat) (kx0 : Int → Int → Option R) (kx1 : Int → Option R) (r492 : Abs.Rows) (i493 : Int) (r494 : Abs.Rows) (i495 : Int) : Nat → Int → Option R
  | 0, _ => none
  | n + 1, i496 => Lp35_2_step m kx0 kx1 r492 i493 r494 i495 (Lp35_2 m kx0 kx1 r492 i493 r494 i495 n) i496
def ELp35_2 (m : Nat) (R : Type) : Nat → List V → (Ex → List V → Option R) → Option R
  | 0, _, _ => none
  | n + 1, vs, k => match vs with
    | [V.bor [LT.int IntKind.i64] r492, V.f (F.lit (Value.int IntKind.i64 i493)), V.bor [LT.int IntKind.i64] r494, V.f (F.lit (Value.int IntKind.i64 i495)), V.f (F.lit (Value.int IntKind.i64 i496)), V.undef] => Lp35_2_step m (fun i497 i498 => k Ex.ret [V.bor [LT.int IntKind.i64] r492, V.f (F.lit (Value.int IntKind.i64 i497)), V.bor [LT.int IntKind.i64] r494, V.f (F.lit (Value.int IntKind.i64 i495)), V.f (F.lit (Value.int IntKind.i64 i498)), V.undef]) (fun i499 => k (Ex.exit (0 : Nat)) [V.bor [LT.int IntKind.i64] r492, V.f (F.lit (Value.int IntKind.i64 i493)), V.bor [LT.int IntKind.i64] r494, V.f (F.lit (Value.int IntKind.i64 i495)), V.f (F.lit (Value.int IntKind.i64 i499)), V.undef]) r492 i493 r494 i495 (fun i496 => ELp35_2 m R n [V.bor [LT.int IntKind.i64] r492, V.f (F.lit (Value.int IntKind.i64 i493)), V.bor [LT.int IntKind.i64] r494, V.f (F.lit (Value.int IntKind.i64 i495)), V.f (F.lit (Value.int IntKind.i64 i496)), V.undef] k) i496
    | _ => none
def brLp35_2 (m : Nat) (L : LTbl) (R : Type) (vs : List V) (k : Ex → List V → Option R) : Option R := match vs with
  | [V.bor [LT.int IntKind.i64] r492, V.f (F.lit (Value.int IntKind.i64 i493)), V.bor [LT.int IntKind.i64] r494, V.f (F.lit (Value.int IntKind.i64 i495)), V.f (F.lit (Value.int IntKind.i64 i496)), V.undef] => Lp35_2 m (fun i497 i498 => k Ex.ret [V.bor [LT.int IntKind.i64] r492, V.f (F.lit (Value.int IntKind.i64 i497)), V.bor [LT.int IntKind.i64] r494, V.f (F.lit (Value.int IntKind.i64 i495)), V.f (F.lit (Value.int IntKind.i64 i498)), V.undef]) (fun i499 => k (Ex.exit (0 : Nat)) [V.bor [LT.int IntKind.i64] r492, V.f (F.lit (Value.int IntKind.i64 i493)), V.bor [LT.int IntKind.i64] r494, V.f (F.lit (Value.int IntKind.i64 i495)), V.f (F.lit (Value.int IntKind.i64 i499)), V.undef]) r492 i493 r494 i495 m i496
  | _ => L R 35 2 vs k
set_option maxRecDepth 100000 in
theorem stLp35_2 (m n : Nat) (R : Type) (r492 : Abs.Rows) (i493 : Int) (r494 : Abs.Rows) (i495 : Int) (i496 : Int) (k : Ex → List V → Option R) : codeK Try.prog H (T20 m) 35 (L18 m) 3 (loopBody Try.prog 35 2) (mkEnv [0, 2, 5, 6, 7, 15] [V.bor [LT.int IntKind.i64] r492, V.f (F.lit (Value.int IntKind.i64 i493)), V.bor [LT.int IntKind.i64] r494, V.f (F.lit (Value.int IntKind.i64 i495)), V.f (F.lit (Value.int IntKind.i64 i496)), V.undef] 0 (H.len 35)) (fun e env' => match e with | .normal => ELp35_2 m R n (vals [0, 2, 5, 6, 7, 15] env') k | e => k e (vals [0, 2, 5, 6, 7, 15] env')) = Lp35_2_step m (fun i497 i498 => k Ex.ret [V.bor [LT.int IntKind.i64] r492, V.f (F.lit (Value.int IntKind.i64 i497)), V.bor [LT.int IntKind.i64] r494, V.f (F.lit (Value.int IntKind.i64 i495)), V.f (F.lit (Value.int IntKind.i64 i498)), V.undef]) (fun i499 => k (Ex.exit (0 : Nat)) [V.bor [LT.int IntKind.i64] r492, V.f (F.lit (Value.int IntKind.i64 i493)), V.bor [LT.int IntKind.i64] r494, V.f (F.lit (Value.int IntKind.i64 i495)), V.f (F.lit (Value.int IntKind.i64 i499)), V.undef]) r492 i493 r494 i495 (fun i496 => ELp35_2 m R n [V.bor [LT.int IntKind.i64] r492, V.f (F.lit (Value.int IntKind.i64 i493)), V.bor [LT.int IntKind.i64] r494, V.f (F.lit (Value.int IntKind.i64 i495)), V.f (F.lit (Value.int IntKind.i64 i496)), V.undef] k) i496 := by kernel_rfl
theorem eqLp35_2 (m : Nat) (R : Type) (r492 : Abs.Rows) (i493 : Int) (r494 : Abs.Rows) (i495 : Int) (k : Ex → List V → Option R) : ∀ (n : Nat) (i496 : Int), ELp35_2 m R n [V.bor [LT.int IntKind.i64] r492, V.f (F.lit (Value.int IntKind.i64 i493)), V.bor [LT.int IntKind.i64] r494, V.f (F.lit (Value.int IntKind.i64 i495)), V.f (F.lit (Value.int IntKind.i64 i496)), V.undef] k = Lp35_2 m (fun i497 i498 => k Ex.ret [V.bor [LT.int IntKind.i64] r492, V.f (F.lit (Value.int IntKind.i64 i497)), V.bor [LT.int IntKind.i64] r494, V.f (F.lit (Value.int IntKind.i64 i495)), V.f (F.lit (Value.int IntKind.i64 i498)), V.undef]) (fun i499 => k (Ex.exit (0 : Nat)) [V.bor [LT.int IntKind.i64] r492, V.f (F.lit (Value.int IntKind.i64 i493)), V.bor [LT.int IntKind.i64] r494, V.f (F.lit (Value.int IntKind.i64 i495)), V.f (F.lit (Value.int IntKind.i64 i499)), V.undef]) r492 i493 r494 i495 n i496
  | 0, _ => rfl
  | n + 1, i496 => by
    simp only [ELp35_2, Lp35_2]
    congr 1
    funext i496
    exact eqLp35_2 m R r492 i493 r494 i495 k n i496
def L19 (m : Nat) : LTbl := addB 35 2 (brLp35_2 m (L18 m)) (L18 m)
theorem okL19 (m : Nat) : LTOk Try.prog H (L19 m) := addB_ok (okT20 m) hM (okL18 m) (l := [0, 2, 5, 6, 7, 15]) (by kernel_rfl) (by kernel_rfl) m (fun R n vs k => ELp35_2 m R n vs k) (fun R vs k => rfl) (fun R n vs k x h => by
      simp only [ELp35_2] at h
      split at h
      · exact (stLp35_2 m n R _ _ _ _ _ k).trans h
      · cases h) fun R vs k x h => by
    unfold brLp35_2 at h
    split at h
    · exact .inl ((eqLp35_2 m R _ _ _ _ k m _).trans h)
    · exact .inr h

/-- hookflash/flashlaw2.errs -/
def Fn35 {R : Type} (m : Nat) : Abs.Rows → (Int → Option R) → Option R := match m with
  | 0 => fun _ _ => none
  | m + 1 => fun r491 k =>
  Lp35_2 m (fun i500 i501 => k i500) (fun i502 => k ((0 : Int))) r491 ((0 : Int)) r491 ((↑(List.length r491) : Int)) m ((0 : Int))
def brFn35 (m : Nat) (T : Tbl) (R : Type) (vs : List V) (k : V → List V → Option R) : Option R := match vs with
  | [V.bor [LT.int IntKind.i64] r491] => Fn35 m r491 (fun i503 => k (V.f (F.lit (Value.int IntKind.i64 i503))) [V.undef])
  | _ => T R 35 vs k
set_option maxRecDepth 100000 in
theorem evFn35 (m : Nat) (R : Type) (r491 : Abs.Rows) (k : V → List V → Option R) : runK Try.prog H (T20 m) (L19 m) 35 [V.bor [LT.int IntKind.i64] r491] k = Fn35 (m + 1) r491 (fun i503 => k (V.f (F.lit (Value.int IntKind.i64 i503))) [V.undef]) := by kernel_rfl
def T21 (m : Nat) : Tbl := addT 35 (brFn35 m (T20 m)) (T20 m)
theorem okT21 (m : Nat) : TblOk Try.prog (T21 m) := addT_ok (okT20 m) fun R vs k x h => by
  unfold brFn35 at h
  split at h
  · cases m with
    | zero => cases h
    | succ m => exact runK_some (okT20 m) hM (okL19 m) ((evFn35 m R _ k).trans h)
  · exact okT20 m R 35 _ k x h

/-- hookflash/flashref2.timeApart -/
def Fn74 {R : Type} (m : Nat) : Int → Int → (Int → Option R) → Option R := match m with
  | 0 => fun _ _ _ => none
  | m + 1 => fun i523 i524 k =>
  k (IntKind.wrap IntKind.i64 (IntKind.wrap IntKind.i32 (IntKind.wrap IntKind.u32 (IntKind.wrap IntKind.u32 i523 - IntKind.wrap IntKind.u32 i524))))
def brFn74 (m : Nat) (T : Tbl) (R : Type) (vs : List V) (k : V → List V → Option R) : Option R := match vs with
  | [V.f (F.lit (Value.int IntKind.i64 i523)), V.f (F.lit (Value.int IntKind.i64 i524))] => Fn74 m i523 i524 (fun i525 => k (V.f (F.lit (Value.int IntKind.i64 i525))) [V.undef, V.undef])
  | _ => T R 74 vs k
set_option maxRecDepth 100000 in
theorem evFn74 (m : Nat) (R : Type) (i523 : Int) (i524 : Int) (k : V → List V → Option R) : runK Try.prog H (T21 m) (L19 m) 74 [V.f (F.lit (Value.int IntKind.i64 i523)), V.f (F.lit (Value.int IntKind.i64 i524))] k = Fn74 (m + 1) i523 i524 (fun i525 => k (V.f (F.lit (Value.int IntKind.i64 i525))) [V.undef, V.undef]) := by kernel_rfl
def T22 (m : Nat) : Tbl := addT 74 (brFn74 m (T21 m)) (T21 m)
theorem okT22 (m : Nat) : TblOk Try.prog (T22 m) := addT_ok (okT21 m) fun R vs k x h => by
  unfold brFn74 at h
  split at h
  · cases m with
    | zero => cases h
    | succ m => exact runK_some (okT21 m) hM (okL19 m) ((evFn74 m R _ _ k).trans h)
  · exact okT21 m R 74 _ k x h

/-- hookflash/flashref2.floor -/
def Fn75 {R : Type} (m : Nat) : Int → Int → (Int → Option R) → Option R := match m with
  | 0 => fun _ _ _ => none
  | m + 1 => fun i527 i528 k =>
  bif decide (i528 ≠ (0 : Int)) then (bif decide (Int.tmod i527 i528 < (0 : Int)) then (bif decide (i528 ≠ (0 : Int)) then (k (IntKind.wrap IntKind.i64 (IntKind.wrap IntKind.i64 (Int.tdiv i527 i528) - (1 : Int)))) else
  (none)) else
  (bif decide (i528 ≠ (0 : Int)) then (k (IntKind.wrap IntKind.i64 (Int.tdiv i527 i528))) else
  (none))) else
  (none)
def brFn75 (m : Nat) (T : Tbl) (R : Type) (vs : List V) (k : V → List V → Option R) : Option R := match vs with
  | [V.f (F.lit (Value.int IntKind.i64 i527)), V.f (F.lit (Value.int IntKind.i64 i528))] => Fn75 m i527 i528 (fun i529 => k (V.f (F.lit (Value.int IntKind.i64 i529))) [V.undef, V.undef])
  | _ => T R 75 vs k
set_option maxRecDepth 100000 in
theorem evFn75 (m : Nat) (R : Type) (i527 : Int) (i528 : Int) (k : V → List V → Option R) : runK Try.prog H (T22 m) (L19 m) 75 [V.f (F.lit (Value.int IntKind.i64 i527)), V.f (F.lit (Value.int IntKind.i64 i528))] k = Fn75 (m + 1) i527 i528 (fun i529 => k (V.f (F.lit (Value.int IntKind.i64 i529))) [V.undef, V.undef]) := by kernel_rfl
def T23 (m : Nat) : Tbl := addT 75 (brFn75 m (T22 m)) (T22 m)
theorem okT23 (m : Nat) : TblOk Try.prog (T23 m) := addT_ok (okT22 m) fun R vs k x h => by
  unfold brFn75 at h
  split at h
  · cases m with
    | zero => cases h
    | succ m => exact runK_some (okT22 m) hM (okL19 m) ((evFn75 m R _ _ k).trans h)
  · exact okT22 m R 75 _ k x h

/-- hookflash/flashref2.ExpandOf -/
def Fn31 {R : Type} (m : Nat) : Int → (Int → Option R) → Option R := match m with
  | 0 => fun _ _ => none
  | m + 1 => fun i571 k =>
  bif decide ((0 : Int) ≤ Int.tmod (IntKind.wrap IntKind.i64 (Int.tdiv (IntKind.wrap IntKind.i64 ((255 : Int) - IntKind.wrap IntKind.i64 i571)) (16 : Int))) (8 : Int)) then (letV (IntKind.wrap IntKind.i64 (IntKind.wrap IntKind.i64 (IntKind.wrap IntKind.i64 ((2 : Int) * Int.tmod (IntKind.wrap IntKind.i64 ((255 : Int) - IntKind.wrap IntKind.i64 i571)) (16 : Int)) + (33 : Int)) * (2 : Int) ^ min (Int.toNat (Int.tmod (IntKind.wrap IntKind.i64 (Int.tdiv (IntKind.wrap IntKind.i64 ((255 : Int) - IntKind.wrap IntKind.i64 i571)) (16 : Int))) (8 : Int))) (64 : Nat))) (fun i572 => bif decide (IntKind.wrap IntKind.i64 ((255 : Int) - IntKind.wrap IntKind.i64 i571) ≥ (128 : Int)) then (k (IntKind.wrap IntKind.i64 (IntKind.wrap IntKind.i64 ((0 : Int) - IntKind.wrap IntKind.i64 (IntKind.wrap IntKind.i64 (i572 - (33 : Int)) * (4 : Int))) - (1 : Int)))) else
  (k (IntKind.wrap IntKind.i64 (IntKind.wrap IntKind.i64 (i572 - (33 : Int)) * (4 : Int)))))) else
  (none)
def brFn31 (m : Nat) (T : Tbl) (R : Type) (vs : List V) (k : V → List V → Option R) : Option R := match vs with
  | [V.f (F.lit (Value.int IntKind.u8 i571))] => Fn31 m i571 (fun i573 => k (V.f (F.lit (Value.int IntKind.i64 i573))) [V.undef])
  | _ => T R 31 vs k
set_option maxRecDepth 100000 in
theorem evFn31 (m : Nat) (R : Type) (i571 : Int) (k : V → List V → Option R) : runK Try.prog H (T23 m) (L19 m) 31 [V.f (F.lit (Value.int IntKind.u8 i571))] k = Fn31 (m + 1) i571 (fun i573 => k (V.f (F.lit (Value.int IntKind.i64 i573))) [V.undef]) := by kernel_rfl
def T24 (m : Nat) : Tbl := addT 31 (brFn31 m (T23 m)) (T23 m)
theorem okT24 (m : Nat) : TblOk Try.prog (T24 m) := addT_ok (okT23 m) fun R vs k x h => by
  unfold brFn31 at h
  split at h
  · cases m with
    | zero => cases h
    | succ m => exact runK_some (okT23 m) hM (okL19 m) ((evFn31 m R _ k).trans h)
  · exact okT23 m R 31 _ k x h

/-- a rest of hookflash/flashref2.PlayOutOf -/
def Jn37_17 {R : Type} (m : Nat) (kx0 : Abs.Rows → Abs.Rows → Bool → Option R) (r550 : Abs.Rows) (i551 : Int) (r552 : Abs.Rows) (r553 : Abs.Rows) (i554 : Int) (i555 : Int) (i556 : Int) (i557 : Int) (i558 : Int) (b559 : Bool) (r560 : Abs.Rows) (i561 : Int) (i562 : Int) (i563 : Int) (r564 : Abs.Rows) (i565 : Int) (i566 : Int) (r567 : Abs.Rows) (i568 : Int) (i569 : Int) (b570 : Bool) : Option R :=
  bif b570 then (Fn31 m i562 (fun i574 => bif decide ((0 : Int) ≤ i563 ∧ i563 < (↑(List.length r552) : Int)) then (bif decide ((0 : Int) ≤ i563 ∧ i563 < (↑(List.length r553) : Int)) then (letV (stR [LT.int IntKind.i64] r552 (Int.toNat i563) (0 : Nat) [F.lit (Value.int IntKind.i64 i574)]) (fun r575 => kx0 r575 (stR [LT.bool] r553 (Int.toNat i563) (0 : Nat) [F.lit (Value.bool true)]) true)) else
  (none)) else
  (none))) else
  (kx0 r552 r553 false)
def brJn37_17 (m : Nat) (L : LTbl) (R : Type) (vs : List V) (k : Ex → List V → Option R) : Option R := match vs with
  | [V.bor [LT.int IntKind.i64, LT.int IntKind.i64, LT.int IntKind.i64, LT.int IntKind.i64, LT.int IntKind.i64, LT.bool, LT.lst [LT.int IntKind.u8]] r550, V.f (F.lit (Value.int IntKind.i64 i551)), V.own [LT.int IntKind.i64] r552, V.own [LT.bool] r553, V.obj [V.f (F.lit (Value.int IntKind.i64 i554)), V.f (F.lit (Value.int IntKind.i64 i555)), V.f (F.lit (Value.int IntKind.i64 i556)), V.f (F.lit (Value.int IntKind.i64 i557)), V.f (F.lit (Value.int IntKind.i64 i558)), V.f (F.lit (Value.bool b559)), V.f (F.lst [LT.int IntKind.u8] r560)], V.f (F.lit (Value.int IntKind.i64 i561)), V.f (F.lit (Value.int IntKind.u8 i562)), V.f (F.lit (Value.int IntKind.i64 i563)), V.undef, V.undef, V.bor [LT.int IntKind.i64, LT.int IntKind.i64, LT.int IntKind.i64, LT.int IntKind.i64, LT.int IntKind.i64, LT.bool, LT.lst [LT.int IntKind.u8]] r564, V.f (F.lit (Value.int IntKind.i64 i565)), V.f (F.lit (Value.int IntKind.i64 i566)), V.ref (10 : Nat) (1 : Nat), V.ref (10 : Nat) (6 : Nat), V.f (F.lst [LT.int IntKind.u8] r567), V.f (F.lit (Value.int IntKind.i64 i568)), V.f (F.lit (Value.int IntKind.i64 i569)), V.f (F.lit (Value.bool b570)), V.undef, V.undef, V.undef] => Jn37_17 m (fun r576 r577 b578 => k Ex.normal [V.bor [LT.int IntKind.i64, LT.int IntKind.i64, LT.int IntKind.i64, LT.int IntKind.i64, LT.int IntKind.i64, LT.bool, LT.lst [LT.int IntKind.u8]] r550, V.f (F.lit (Value.int IntKind.i64 i551)), V.own [LT.int IntKind.i64] r576, V.own [LT.bool] r577, V.obj [V.f (F.lit (Value.int IntKind.i64 i554)), V.f (F.lit (Value.int IntKind.i64 i555)), V.f (F.lit (Value.int IntKind.i64 i556)), V.f (F.lit (Value.int IntKind.i64 i557)), V.f (F.lit (Value.int IntKind.i64 i558)), V.f (F.lit (Value.bool b559)), V.f (F.lst [LT.int IntKind.u8] r560)], V.f (F.lit (Value.int IntKind.i64 i561)), V.f (F.lit (Value.int IntKind.u8 i562)), V.f (F.lit (Value.int IntKind.i64 i563)), V.undef, V.undef, V.bor [LT.int IntKind.i64, LT.int IntKind.i64, LT.int IntKind.i64, LT.int IntKind.i64, LT.int IntKind.i64, LT.bool, LT.lst [LT.int IntKind.u8]] r564, V.f (F.lit (Value.int IntKind.i64 i565)), V.f (F.lit (Value.int IntKind.i64 i566)), V.ref (10 : Nat) (1 : Nat), V.ref (10 : Nat) (6 : Nat), V.f (F.lst [LT.int IntKind.u8] r567), V.f (F.lit (Value.int IntKind.i64 i568)), V.f (F.lit (Value.int IntKind.i64 i569)), V.f (F.lit (Value.bool b578)), V.undef, V.undef, V.undef]) r550 i551 r552 r553 i554 i555 i556 i557 i558 b559 r560 i561 i562 i563 r564 i565 i566 r567 i568 i569 b570
  | _ => L R 37 17 vs k
set_option maxRecDepth 100000 in
theorem evJn37_17 (m : Nat) (R : Type) (r550 : Abs.Rows) (i551 : Int) (r552 : Abs.Rows) (r553 : Abs.Rows) (i554 : Int) (i555 : Int) (i556 : Int) (i557 : Int) (i558 : Int) (b559 : Bool) (r560 : Abs.Rows) (i561 : Int) (i562 : Int) (i563 : Int) (r564 : Abs.Rows) (i565 : Int) (i566 : Int) (r567 : Abs.Rows) (i568 : Int) (i569 : Int) (b570 : Bool) (k : Ex → List V → Option R) : codeK Try.prog H (T24 m) 37 (L19 m) 18 (loopBody Try.prog 37 17) (mkEnv [0, 1, 7, 8, 10, 11, 13, 14, 18, 21, 22, 23, 24, 49, 50, 51, 52, 53, 72, 112, 113, 114] [V.bor [LT.int IntKind.i64, LT.int IntKind.i64, LT.int IntKind.i64, LT.int IntKind.i64, LT.int IntKind.i64, LT.bool, LT.lst [LT.int IntKind.u8]] r550, V.f (F.lit (Value.int IntKind.i64 i551)), V.own [LT.int IntKind.i64] r552, V.own [LT.bool] r553, V.obj [V.f (F.lit (Value.int IntKind.i64 i554)), V.f (F.lit (Value.int IntKind.i64 i555)), V.f (F.lit (Value.int IntKind.i64 i556)), V.f (F.lit (Value.int IntKind.i64 i557)), V.f (F.lit (Value.int IntKind.i64 i558)), V.f (F.lit (Value.bool b559)), V.f (F.lst [LT.int IntKind.u8] r560)], V.f (F.lit (Value.int IntKind.i64 i561)), V.f (F.lit (Value.int IntKind.u8 i562)), V.f (F.lit (Value.int IntKind.i64 i563)), V.undef, V.undef, V.bor [LT.int IntKind.i64, LT.int IntKind.i64, LT.int IntKind.i64, LT.int IntKind.i64, LT.int IntKind.i64, LT.bool, LT.lst [LT.int IntKind.u8]] r564, V.f (F.lit (Value.int IntKind.i64 i565)), V.f (F.lit (Value.int IntKind.i64 i566)), V.ref (10 : Nat) (1 : Nat), V.ref (10 : Nat) (6 : Nat), V.f (F.lst [LT.int IntKind.u8] r567), V.f (F.lit (Value.int IntKind.i64 i568)), V.f (F.lit (Value.int IntKind.i64 i569)), V.f (F.lit (Value.bool b570)), V.undef, V.undef, V.undef] 0 (H.len 37)) (fun e env' => k e (vals [0, 1, 7, 8, 10, 11, 13, 14, 18, 21, 22, 23, 24, 49, 50, 51, 52, 53, 72, 112, 113, 114] env')) = Jn37_17 m (fun r576 r577 b578 => k Ex.normal [V.bor [LT.int IntKind.i64, LT.int IntKind.i64, LT.int IntKind.i64, LT.int IntKind.i64, LT.int IntKind.i64, LT.bool, LT.lst [LT.int IntKind.u8]] r550, V.f (F.lit (Value.int IntKind.i64 i551)), V.own [LT.int IntKind.i64] r576, V.own [LT.bool] r577, V.obj [V.f (F.lit (Value.int IntKind.i64 i554)), V.f (F.lit (Value.int IntKind.i64 i555)), V.f (F.lit (Value.int IntKind.i64 i556)), V.f (F.lit (Value.int IntKind.i64 i557)), V.f (F.lit (Value.int IntKind.i64 i558)), V.f (F.lit (Value.bool b559)), V.f (F.lst [LT.int IntKind.u8] r560)], V.f (F.lit (Value.int IntKind.i64 i561)), V.f (F.lit (Value.int IntKind.u8 i562)), V.f (F.lit (Value.int IntKind.i64 i563)), V.undef, V.undef, V.bor [LT.int IntKind.i64, LT.int IntKind.i64, LT.int IntKind.i64, LT.int IntKind.i64, LT.int IntKind.i64, LT.bool, LT.lst [LT.int IntKind.u8]] r564, V.f (F.lit (Value.int IntKind.i64 i565)), V.f (F.lit (Value.int IntKind.i64 i566)), V.ref (10 : Nat) (1 : Nat), V.ref (10 : Nat) (6 : Nat), V.f (F.lst [LT.int IntKind.u8] r567), V.f (F.lit (Value.int IntKind.i64 i568)), V.f (F.lit (Value.int IntKind.i64 i569)), V.f (F.lit (Value.bool b578)), V.undef, V.undef, V.undef]) r550 i551 r552 r553 i554 i555 i556 i557 i558 b559 r560 i561 i562 i563 r564 i565 i566 r567 i568 i569 b570 := by kernel_rfl
def L20 (m : Nat) : LTbl := addJ 37 17 (brJn37_17 m (L19 m)) (L19 m)
theorem okL20 (m : Nat) : LTOk Try.prog H (L20 m) := addJ_ok (okT24 m) hM (okL19 m) (l := [0, 1, 7, 8, 10, 11, 13, 14, 18, 21, 22, 23, 24, 49, 50, 51, 52, 53, 72, 112, 113, 114]) (by kernel_rfl) (by kernel_rfl) fun R vs k x h => by
    unfold brJn37_17 at h
    split at h
    · exact .inl ((evJn37_17 m R _ _ _ _ _ _ _ _ _ _ _ _ _ _ _ _ _ _ _ _ _ k).trans h)
    · exact .inr h

/-- a round of a loop of hookflash/flashref2.PlayOutOf -/
def Lp37_12_step {R : Type} (m : Nat) (kx0 : Abs.Rows → Abs.Rows → Int → Option R) (r531 : Abs.Rows) (i532 : Int) (i535 : Int) (i536 : Int) (i537 : Int) (i538 : Int) (i539 : Int) (b540 : Bool) (r541 : Abs.Rows) (i542 : Int) (r543 : Abs.Rows) (i544 : Int) (i545 : Int) (r546 : Abs.Rows) (i547 : Int) (REC : Abs.Rows → Abs.Rows → Int → Option R) (r533 : Abs.Rows) (r534 : Abs.Rows) (i548 : Int) : Option R :=
  bif decide (i548 < i547) then (bif decide ((0 : Int) ≤ i548 ∧ i548 < (↑(List.length r546) : Int)) then (Fn63 m (IntKind.wrap IntKind.i64 (i542 + i548)) ((0 : Int)) (IntKind.wrap IntKind.i64 ((↑(List.length r533) : Int) - (1 : Int))) (fun b549 => bif b549 then (bif decide ((0 : Int) ≤ IntKind.wrap IntKind.i64 (i542 + i548) ∧ IntKind.wrap IntKind.i64 (i542 + i548) < (↑(List.length r534) : Int)) then (Jn37_17 m (fun r579 r580 b581 => REC r579 r580 (IntKind.wrap IntKind.i64 (i548 + (1 : Int)))) r531 i532 r533 r534 i535 i536 i537 i538 i539 b540 r541 i542 (fI r546 (Int.toNat i548) (0 : Nat)) (IntKind.wrap IntKind.i64 (i542 + i548)) r543 i544 i545 r546 i547 i548 (!fB r534 (Int.toNat (IntKind.wrap IntKind.i64 (i542 + i548))) (0 : Nat))) else
  (none)) else
  (Jn37_17 m (fun r582 r583 b584 => REC r582 r583 (IntKind.wrap IntKind.i64 (i548 + (1 : Int)))) r531 i532 r533 r534 i535 i536 i537 i538 i539 b540 r541 i542 (fI r546 (Int.toNat i548) (0 : Nat)) (IntKind.wrap IntKind.i64 (i542 + i548)) r543 i544 i545 r546 i547 i548 false))) else
  (none)) else
  (kx0 r533 r534 i548)
def Lp37_12 {R : Type} (m : Nat) (kx0 : Abs.Rows → Abs.Rows → Int → Option R) (r531 : Abs.Rows) (i532 : Int) (i535 : Int) (i536 : Int) (i537 : Int) (i538 : Int) (i539 : Int) (b540 : Bool) (r541 : Abs.Rows) (i542 : Int) (r543 : Abs.Rows) (i544 : Int) (i545 : Int) (r546 : Abs.Rows) (i547 : Int) : Nat → Abs.Rows → Abs.Rows → Int → Option R
  | 0, _, _, _ => none
  | n + 1, r533, r534, i548 => Lp37_12_step m kx0 r531 i532 i535 i536 i537 i538 i539 b540 r541 i542 r543 i544 i545 r546 i547 (Lp37_12 m kx0 r531 i532 i535 i536 i537 i538 i539 b540 r541 i542 r543 i544 i545 r546 i547 n) r533 r534 i548
def ELp37_12 (m : Nat) (R : Type) : Nat → List V → (Ex → List V → Option R) → Option R
  | 0, _, _ => none
  | n + 1, vs, k => match vs with
    | [V.bor [LT.int IntKind.i64, LT.int IntKind.i64, LT.int IntKind.i64, LT.int IntKind.i64, LT.int IntKind.i64, LT.bool, LT.lst [LT.int IntKind.u8]] r531, V.f (F.lit (Value.int IntKind.i64 i532)), V.own [LT.int IntKind.i64] r533, V.own [LT.bool] r534, V.obj [V.f (F.lit (Value.int IntKind.i64 i535)), V.f (F.lit (Value.int IntKind.i64 i536)), V.f (F.lit (Value.int IntKind.i64 i537)), V.f (F.lit (Value.int IntKind.i64 i538)), V.f (F.lit (Value.int IntKind.i64 i539)), V.f (F.lit (Value.bool b540)), V.f (F.lst [LT.int IntKind.u8] r541)], V.f (F.lit (Value.int IntKind.i64 i542)), V.undef, V.undef, V.bor [LT.int IntKind.i64, LT.int IntKind.i64, LT.int IntKind.i64, LT.int IntKind.i64, LT.int IntKind.i64, LT.bool, LT.lst [LT.int IntKind.u8]] r543, V.f (F.lit (Value.int IntKind.i64 i544)), V.f (F.lit (Value.int IntKind.i64 i545)), V.ref (10 : Nat) (1 : Nat), V.ref (10 : Nat) (6 : Nat), V.f (F.lst [LT.int IntKind.u8] r546), V.f (F.lit (Value.int IntKind.i64 i547)), V.f (F.lit (Value.int IntKind.i64 i548)), V.undef, V.undef, V.undef] => Lp37_12_step m (fun r585 r586 i587 => k (Ex.exit (2 : Nat)) [V.bor [LT.int IntKind.i64, LT.int IntKind.i64, LT.int IntKind.i64, LT.int IntKind.i64, LT.int IntKind.i64, LT.bool, LT.lst [LT.int IntKind.u8]] r531, V.f (F.lit (Value.int IntKind.i64 i532)), V.own [LT.int IntKind.i64] r585, V.own [LT.bool] r586, V.obj [V.f (F.lit (Value.int IntKind.i64 i535)), V.f (F.lit (Value.int IntKind.i64 i536)), V.f (F.lit (Value.int IntKind.i64 i537)), V.f (F.lit (Value.int IntKind.i64 i538)), V.f (F.lit (Value.int IntKind.i64 i539)), V.f (F.lit (Value.bool b540)), V.f (F.lst [LT.int IntKind.u8] r541)], V.f (F.lit (Value.int IntKind.i64 i542)), V.undef, V.undef, V.bor [LT.int IntKind.i64, LT.int IntKind.i64, LT.int IntKind.i64, LT.int IntKind.i64, LT.int IntKind.i64, LT.bool, LT.lst [LT.int IntKind.u8]] r543, V.f (F.lit (Value.int IntKind.i64 i544)), V.f (F.lit (Value.int IntKind.i64 i545)), V.ref (10 : Nat) (1 : Nat), V.ref (10 : Nat) (6 : Nat), V.f (F.lst [LT.int IntKind.u8] r546), V.f (F.lit (Value.int IntKind.i64 i547)), V.f (F.lit (Value.int IntKind.i64 i587)), V.undef, V.undef, V.undef]) r531 i532 i535 i536 i537 i538 i539 b540 r541 i542 r543 i544 i545 r546 i547 (fun r533 r534 i548 => ELp37_12 m R n [V.bor [LT.int IntKind.i64, LT.int IntKind.i64, LT.int IntKind.i64, LT.int IntKind.i64, LT.int IntKind.i64, LT.bool, LT.lst [LT.int IntKind.u8]] r531, V.f (F.lit (Value.int IntKind.i64 i532)), V.own [LT.int IntKind.i64] r533, V.own [LT.bool] r534, V.obj [V.f (F.lit (Value.int IntKind.i64 i535)), V.f (F.lit (Value.int IntKind.i64 i536)), V.f (F.lit (Value.int IntKind.i64 i537)), V.f (F.lit (Value.int IntKind.i64 i538)), V.f (F.lit (Value.int IntKind.i64 i539)), V.f (F.lit (Value.bool b540)), V.f (F.lst [LT.int IntKind.u8] r541)], V.f (F.lit (Value.int IntKind.i64 i542)), V.undef, V.undef, V.bor [LT.int IntKind.i64, LT.int IntKind.i64, LT.int IntKind.i64, LT.int IntKind.i64, LT.int IntKind.i64, LT.bool, LT.lst [LT.int IntKind.u8]] r543, V.f (F.lit (Value.int IntKind.i64 i544)), V.f (F.lit (Value.int IntKind.i64 i545)), V.ref (10 : Nat) (1 : Nat), V.ref (10 : Nat) (6 : Nat), V.f (F.lst [LT.int IntKind.u8] r546), V.f (F.lit (Value.int IntKind.i64 i547)), V.f (F.lit (Value.int IntKind.i64 i548)), V.undef, V.undef, V.undef] k) r533 r534 i548
    | _ => none
def brLp37_12 (m : Nat) (L : LTbl) (R : Type) (vs : List V) (k : Ex → List V → Option R) : Option R := match vs with
  | [V.bor [LT.int IntKind.i64, LT.int IntKind.i64, LT.int IntKind.i64, LT.int IntKind.i64, LT.int IntKind.i64, LT.bool, LT.lst [LT.int IntKind.u8]] r531, V.f (F.lit (Value.int IntKind.i64 i532)), V.own [LT.int IntKind.i64] r533, V.own [LT.bool] r534, V.obj [V.f (F.lit (Value.int IntKind.i64 i535)), V.f (F.lit (Value.int IntKind.i64 i536)), V.f (F.lit (Value.int IntKind.i64 i537)), V.f (F.lit (Value.int IntKind.i64 i538)), V.f (F.lit (Value.int IntKind.i64 i539)), V.f (F.lit (Value.bool b540)), V.f (F.lst [LT.int IntKind.u8] r541)], V.f (F.lit (Value.int IntKind.i64 i542)), V.undef, V.undef, V.bor [LT.int IntKind.i64, LT.int IntKind.i64, LT.int IntKind.i64, LT.int IntKind.i64, LT.int IntKind.i64, LT.bool, LT.lst [LT.int IntKind.u8]] r543, V.f (F.lit (Value.int IntKind.i64 i544)), V.f (F.lit (Value.int IntKind.i64 i545)), V.ref (10 : Nat) (1 : Nat), V.ref (10 : Nat) (6 : Nat), V.f (F.lst [LT.int IntKind.u8] r546), V.f (F.lit (Value.int IntKind.i64 i547)), V.f (F.lit (Value.int IntKind.i64 i548)), V.undef, V.undef, V.undef] => Lp37_12 m (fun r585 r586 i587 => k (Ex.exit (2 : Nat)) [V.bor [LT.int IntKind.i64, LT.int IntKind.i64, LT.int IntKind.i64, LT.int IntKind.i64, LT.int IntKind.i64, LT.bool, LT.lst [LT.int IntKind.u8]] r531, V.f (F.lit (Value.int IntKind.i64 i532)), V.own [LT.int IntKind.i64] r585, V.own [LT.bool] r586, V.obj [V.f (F.lit (Value.int IntKind.i64 i535)), V.f (F.lit (Value.int IntKind.i64 i536)), V.f (F.lit (Value.int IntKind.i64 i537)), V.f (F.lit (Value.int IntKind.i64 i538)), V.f (F.lit (Value.int IntKind.i64 i539)), V.f (F.lit (Value.bool b540)), V.f (F.lst [LT.int IntKind.u8] r541)], V.f (F.lit (Value.int IntKind.i64 i542)), V.undef, V.undef, V.bor [LT.int IntKind.i64, LT.int IntKind.i64, LT.int IntKind.i64, LT.int IntKind.i64, LT.int IntKind.i64, LT.bool, LT.lst [LT.int IntKind.u8]] r543, V.f (F.lit (Value.int IntKind.i64 i544)), V.f (F.lit (Value.int IntKind.i64 i545)), V.ref (10 : Nat) (1 : Nat), V.ref (10 : Nat) (6 : Nat), V.f (F.lst [LT.int IntKind.u8] r546), V.f (F.lit (Value.int IntKind.i64 i547)), V.f (F.lit (Value.int IntKind.i64 i587)), V.undef, V.undef, V.undef]) r531 i532 i535 i536 i537 i538 i539 b540 r541 i542 r543 i544 i545 r546 i547 m r533 r534 i548
  | _ => L R 37 12 vs k
set_option maxRecDepth 100000 in
theorem stLp37_12 (m n : Nat) (R : Type) (r531 : Abs.Rows) (i532 : Int) (r533 : Abs.Rows) (r534 : Abs.Rows) (i535 : Int) (i536 : Int) (i537 : Int) (i538 : Int) (i539 : Int) (b540 : Bool) (r541 : Abs.Rows) (i542 : Int) (r543 : Abs.Rows) (i544 : Int) (i545 : Int) (r546 : Abs.Rows) (i547 : Int) (i548 : Int) (k : Ex → List V → Option R) : codeK Try.prog H (T24 m) 37 (L20 m) 13 (loopBody Try.prog 37 12) (mkEnv [0, 1, 7, 8, 10, 11, 18, 21, 22, 23, 24, 49, 50, 51, 52, 53, 112, 113, 114] [V.bor [LT.int IntKind.i64, LT.int IntKind.i64, LT.int IntKind.i64, LT.int IntKind.i64, LT.int IntKind.i64, LT.bool, LT.lst [LT.int IntKind.u8]] r531, V.f (F.lit (Value.int IntKind.i64 i532)), V.own [LT.int IntKind.i64] r533, V.own [LT.bool] r534, V.obj [V.f (F.lit (Value.int IntKind.i64 i535)), V.f (F.lit (Value.int IntKind.i64 i536)), V.f (F.lit (Value.int IntKind.i64 i537)), V.f (F.lit (Value.int IntKind.i64 i538)), V.f (F.lit (Value.int IntKind.i64 i539)), V.f (F.lit (Value.bool b540)), V.f (F.lst [LT.int IntKind.u8] r541)], V.f (F.lit (Value.int IntKind.i64 i542)), V.undef, V.undef, V.bor [LT.int IntKind.i64, LT.int IntKind.i64, LT.int IntKind.i64, LT.int IntKind.i64, LT.int IntKind.i64, LT.bool, LT.lst [LT.int IntKind.u8]] r543, V.f (F.lit (Value.int IntKind.i64 i544)), V.f (F.lit (Value.int IntKind.i64 i545)), V.ref (10 : Nat) (1 : Nat), V.ref (10 : Nat) (6 : Nat), V.f (F.lst [LT.int IntKind.u8] r546), V.f (F.lit (Value.int IntKind.i64 i547)), V.f (F.lit (Value.int IntKind.i64 i548)), V.undef, V.undef, V.undef] 0 (H.len 37)) (fun e env' => match e with | .normal => ELp37_12 m R n (vals [0, 1, 7, 8, 10, 11, 18, 21, 22, 23, 24, 49, 50, 51, 52, 53, 112, 113, 114] env') k | e => k e (vals [0, 1, 7, 8, 10, 11, 18, 21, 22, 23, 24, 49, 50, 51, 52, 53, 112, 113, 114] env')) = Lp37_12_step m (fun r585 r586 i587 => k (Ex.exit (2 : Nat)) [V.bor [LT.int IntKind.i64, LT.int IntKind.i64, LT.int IntKind.i64, LT.int IntKind.i64, LT.int IntKind.i64, LT.bool, LT.lst [LT.int IntKind.u8]] r531, V.f (F.lit (Value.int IntKind.i64 i532)), V.own [LT.int IntKind.i64] r585, V.own [LT.bool] r586, V.obj [V.f (F.lit (Value.int IntKind.i64 i535)), V.f (F.lit (Value.int IntKind.i64 i536)), V.f (F.lit (Value.int IntKind.i64 i537)), V.f (F.lit (Value.int IntKind.i64 i538)), V.f (F.lit (Value.int IntKind.i64 i539)), V.f (F.lit (Value.bool b540)), V.f (F.lst [LT.int IntKind.u8] r541)], V.f (F.lit (Value.int IntKind.i64 i542)), V.undef, V.undef, V.bor [LT.int IntKind.i64, LT.int IntKind.i64, LT.int IntKind.i64, LT.int IntKind.i64, LT.int IntKind.i64, LT.bool, LT.lst [LT.int IntKind.u8]] r543, V.f (F.lit (Value.int IntKind.i64 i544)), V.f (F.lit (Value.int IntKind.i64 i545)), V.ref (10 : Nat) (1 : Nat), V.ref (10 : Nat) (6 : Nat), V.f (F.lst [LT.int IntKind.u8] r546), V.f (F.lit (Value.int IntKind.i64 i547)), V.f (F.lit (Value.int IntKind.i64 i587)), V.undef, V.undef, V.undef]) r531 i532 i535 i536 i537 i538 i539 b540 r541 i542 r543 i544 i545 r546 i547 (fun r533 r534 i548 => ELp37_12 m R n [V.bor [LT.int IntKind.i64, LT.int IntKind.i64, LT.int IntKind.i64, LT.int IntKind.i64, LT.int IntKind.i64, LT.bool, LT.lst [LT.int IntKind.u8]] r531, V.f (F.lit (Value.int IntKind.i64 i532)), V.own [LT.int IntKind.i64] r533, V.own [LT.bool] r534, V.obj [V.f (F.lit (Value.int IntKind.i64 i535)), V.f (F.lit (Value.int IntKind.i64 i536)), V.f (F.lit (Value.int IntKind.i64 i537)), V.f (F.lit (Value.int IntKind.i64 i538)), V.f (F.lit (Value.int IntKind.i64 i539)), V.f (F.lit (Value.bool b540)), V.f (F.lst [LT.int IntKind.u8] r541)], V.f (F.lit (Value.int IntKind.i64 i542)), V.undef, V.undef, V.bor [LT.int IntKind.i64, LT.int IntKind.i64, LT.int IntKind.i64, LT.int IntKind.i64, LT.int IntKind.i64, LT.bool, LT.lst [LT.int IntKind.u8]] r543, V.f (F.lit (Value.int IntKind.i64 i544)), V.f (F.lit (Value.int IntKind.i64 i545)), V.ref (10 : Nat) (1 : Nat), V.ref (10 : Nat) (6 : Nat), V.f (F.lst [LT.int IntKind.u8] r546), V.f (F.lit (Value.int IntKind.i64 i547)), V.f (F.lit (Value.int IntKind.i64 i548)), V.undef, V.undef, V.undef] k) r533 r534 i548 := by kernel_rfl
theorem eqLp37_12 (m : Nat) (R : Type) (r531 : Abs.Rows) (i532 : Int) (i535 : Int) (i536 : Int) (i537 : Int) (i538 : Int) (i539 : Int) (b540 : Bool) (r541 : Abs.Rows) (i542 : Int) (r543 : Abs.Rows) (i544 : Int) (i545 : Int) (r546 : Abs.Rows) (i547 : Int) (k : Ex → List V → Option R) : ∀ (n : Nat) (r533 : Abs.Rows) (r534 : Abs.Rows) (i548 : Int), ELp37_12 m R n [V.bor [LT.int IntKind.i64, LT.int IntKind.i64, LT.int IntKind.i64, LT.int IntKind.i64, LT.int IntKind.i64, LT.bool, LT.lst [LT.int IntKind.u8]] r531, V.f (F.lit (Value.int IntKind.i64 i532)), V.own [LT.int IntKind.i64] r533, V.own [LT.bool] r534, V.obj [V.f (F.lit (Value.int IntKind.i64 i535)), V.f (F.lit (Value.int IntKind.i64 i536)), V.f (F.lit (Value.int IntKind.i64 i537)), V.f (F.lit (Value.int IntKind.i64 i538)), V.f (F.lit (Value.int IntKind.i64 i539)), V.f (F.lit (Value.bool b540)), V.f (F.lst [LT.int IntKind.u8] r541)], V.f (F.lit (Value.int IntKind.i64 i542)), V.undef, V.undef, V.bor [LT.int IntKind.i64, LT.int IntKind.i64, LT.int IntKind.i64, LT.int IntKind.i64, LT.int IntKind.i64, LT.bool, LT.lst [LT.int IntKind.u8]] r543, V.f (F.lit (Value.int IntKind.i64 i544)), V.f (F.lit (Value.int IntKind.i64 i545)), V.ref (10 : Nat) (1 : Nat), V.ref (10 : Nat) (6 : Nat), V.f (F.lst [LT.int IntKind.u8] r546), V.f (F.lit (Value.int IntKind.i64 i547)), V.f (F.lit (Value.int IntKind.i64 i548)), V.undef, V.undef, V.undef] k = Lp37_12 m (fun r585 r586 i587 => k (Ex.exit (2 : Nat)) [V.bor [LT.int IntKind.i64, LT.int IntKind.i64, LT.int IntKind.i64, LT.int IntKind.i64, LT.int IntKind.i64, LT.bool, LT.lst [LT.int IntKind.u8]] r531, V.f (F.lit (Value.int IntKind.i64 i532)), V.own [LT.int IntKind.i64] r585, V.own [LT.bool] r586, V.obj [V.f (F.lit (Value.int IntKind.i64 i535)), V.f (F.lit (Value.int IntKind.i64 i536)), V.f (F.lit (Value.int IntKind.i64 i537)), V.f (F.lit (Value.int IntKind.i64 i538)), V.f (F.lit (Value.int IntKind.i64 i539)), V.f (F.lit (Value.bool b540)), V.f (F.lst [LT.int IntKind.u8] r541)], V.f (F.lit (Value.int IntKind.i64 i542)), V.undef, V.undef, V.bor [LT.int IntKind.i64, LT.int IntKind.i64, LT.int IntKind.i64, LT.int IntKind.i64, LT.int IntKind.i64, LT.bool, LT.lst [LT.int IntKind.u8]] r543, V.f (F.lit (Value.int IntKind.i64 i544)), V.f (F.lit (Value.int IntKind.i64 i545)), V.ref (10 : Nat) (1 : Nat), V.ref (10 : Nat) (6 : Nat), V.f (F.lst [LT.int IntKind.u8] r546), V.f (F.lit (Value.int IntKind.i64 i547)), V.f (F.lit (Value.int IntKind.i64 i587)), V.undef, V.undef, V.undef]) r531 i532 i535 i536 i537 i538 i539 b540 r541 i542 r543 i544 i545 r546 i547 n r533 r534 i548
  | 0, _, _, _ => rfl
  | n + 1, r533, r534, i548 => by
    simp only [ELp37_12, Lp37_12]
    congr 1
    funext r533 r534 i548
    exact eqLp37_12 m R r531 i532 i535 i536 i537 i538 i539 b540 r541 i542 r543 i544 i545 r546 i547 k n r533 r534 i548
def L21 (m : Nat) : LTbl := addB 37 12 (brLp37_12 m (L20 m)) (L20 m)
theorem okL21 (m : Nat) : LTOk Try.prog H (L21 m) := addB_ok (okT24 m) hM (okL20 m) (l := [0, 1, 7, 8, 10, 11, 18, 21, 22, 23, 24, 49, 50, 51, 52, 53, 112, 113, 114]) (by kernel_rfl) (by kernel_rfl) m (fun R n vs k => ELp37_12 m R n vs k) (fun R vs k => rfl) (fun R n vs k x h => by
      simp only [ELp37_12] at h
      split at h
      · exact (stLp37_12 m n R _ _ _ _ _ _ _ _ _ _ _ _ _ _ _ _ _ _ k).trans h
      · cases h) fun R vs k x h => by
    unfold brLp37_12 at h
    split at h
    · exact .inl ((eqLp37_12 m R _ _ _ _ _ _ _ _ _ _ _ _ _ _ _ k m _ _ _).trans h)
    · exact .inr h

/-- a round of a loop of hookflash/flashref2.PlayOutOf -/
def Lp37_4_step {R : Type} (m : Nat) (kx0 : Abs.Rows → Abs.Rows → Int → Option R) (r516 : Abs.Rows) (i517 : Int) (r520 : Abs.Rows) (i521 : Int) (REC : Abs.Rows → Abs.Rows → Int → Option R) (r518 : Abs.Rows) (r519 : Abs.Rows) (i522 : Int) : Option R :=
  bif decide (i522 < i521) then (bif decide ((0 : Int) ≤ i522 ∧ i522 < (↑(List.length r520) : Int)) then (bif decide ((0 : Int) ≤ (0 : Int) ∧ (0 : Int) < (↑(List.length r516) : Int)) then (Fn74 m (fI r520 (Int.toNat i522) (3 : Nat)) (fI r516 (Int.toNat (0 : Int)) (3 : Nat)) (fun i526 => bif decide ((0 : Int) ≤ (0 : Int) ∧ (0 : Int) < (↑(List.length r516) : Int)) then (Fn75 m i526 ((8 : Int)) (fun i530 => bif decide (fI r520 (Int.toNat i522) (0 : Nat) > IntKind.wrap IntKind.i64 (IntKind.wrap IntKind.i64 (fI r516 (Int.toNat (0 : Int)) (0 : Nat) + i517) + i530)) then (REC r518 r519 (IntKind.wrap IntKind.i64 (i522 + (1 : Int)))) else
  (Lp37_12 m (fun r588 r589 i590 => REC r588 r589 (IntKind.wrap IntKind.i64 (i522 + (1 : Int)))) r516 i517 (fI r520 (Int.toNat i522) (0 : Nat)) (fI r520 (Int.toNat i522) (1 : Nat)) (fI r520 (Int.toNat i522) (2 : Nat)) (fI r520 (Int.toNat i522) (3 : Nat)) (fI r520 (Int.toNat i522) (4 : Nat)) (fB r520 (Int.toNat i522) (5 : Nat)) (fR r520 (Int.toNat i522) (6 : Nat)) i526 r520 i521 i522 (fR r520 (Int.toNat i522) (6 : Nat)) ((↑(List.length (fR r520 (Int.toNat i522) (6 : Nat))) : Int)) m r518 r519 ((0 : Int))))) else
  (none))) else
  (none)) else
  (none)) else
  (kx0 r518 r519 i522)
def Lp37_4 {R : Type} (m : Nat) (kx0 : Abs.Rows → Abs.Rows → Int → Option R) (r516 : Abs.Rows) (i517 : Int) (r520 : Abs.Rows) (i521 : Int) : Nat → Abs.Rows → Abs.Rows → Int → Option R
  | 0, _, _, _ => none
  | n + 1, r518, r519, i522 => Lp37_4_step m kx0 r516 i517 r520 i521 (Lp37_4 m kx0 r516 i517 r520 i521 n) r518 r519 i522
def ELp37_4 (m : Nat) (R : Type) : Nat → List V → (Ex → List V → Option R) → Option R
  | 0, _, _ => none
  | n + 1, vs, k => match vs with
    | [V.bor [LT.int IntKind.i64, LT.int IntKind.i64, LT.int IntKind.i64, LT.int IntKind.i64, LT.int IntKind.i64, LT.bool, LT.lst [LT.int IntKind.u8]] r516, V.f (F.lit (Value.int IntKind.i64 i517)), V.own [LT.int IntKind.i64] r518, V.own [LT.bool] r519, V.undef, V.undef, V.bor [LT.int IntKind.i64, LT.int IntKind.i64, LT.int IntKind.i64, LT.int IntKind.i64, LT.int IntKind.i64, LT.bool, LT.lst [LT.int IntKind.u8]] r520, V.f (F.lit (Value.int IntKind.i64 i521)), V.f (F.lit (Value.int IntKind.i64 i522)), V.undef, V.undef, V.undef] => Lp37_4_step m (fun r591 r592 i593 => k (Ex.exit (0 : Nat)) [V.bor [LT.int IntKind.i64, LT.int IntKind.i64, LT.int IntKind.i64, LT.int IntKind.i64, LT.int IntKind.i64, LT.bool, LT.lst [LT.int IntKind.u8]] r516, V.f (F.lit (Value.int IntKind.i64 i517)), V.own [LT.int IntKind.i64] r591, V.own [LT.bool] r592, V.undef, V.undef, V.bor [LT.int IntKind.i64, LT.int IntKind.i64, LT.int IntKind.i64, LT.int IntKind.i64, LT.int IntKind.i64, LT.bool, LT.lst [LT.int IntKind.u8]] r520, V.f (F.lit (Value.int IntKind.i64 i521)), V.f (F.lit (Value.int IntKind.i64 i593)), V.undef, V.undef, V.undef]) r516 i517 r520 i521 (fun r518 r519 i522 => ELp37_4 m R n [V.bor [LT.int IntKind.i64, LT.int IntKind.i64, LT.int IntKind.i64, LT.int IntKind.i64, LT.int IntKind.i64, LT.bool, LT.lst [LT.int IntKind.u8]] r516, V.f (F.lit (Value.int IntKind.i64 i517)), V.own [LT.int IntKind.i64] r518, V.own [LT.bool] r519, V.undef, V.undef, V.bor [LT.int IntKind.i64, LT.int IntKind.i64, LT.int IntKind.i64, LT.int IntKind.i64, LT.int IntKind.i64, LT.bool, LT.lst [LT.int IntKind.u8]] r520, V.f (F.lit (Value.int IntKind.i64 i521)), V.f (F.lit (Value.int IntKind.i64 i522)), V.undef, V.undef, V.undef] k) r518 r519 i522
    | _ => none
def brLp37_4 (m : Nat) (L : LTbl) (R : Type) (vs : List V) (k : Ex → List V → Option R) : Option R := match vs with
  | [V.bor [LT.int IntKind.i64, LT.int IntKind.i64, LT.int IntKind.i64, LT.int IntKind.i64, LT.int IntKind.i64, LT.bool, LT.lst [LT.int IntKind.u8]] r516, V.f (F.lit (Value.int IntKind.i64 i517)), V.own [LT.int IntKind.i64] r518, V.own [LT.bool] r519, V.undef, V.undef, V.bor [LT.int IntKind.i64, LT.int IntKind.i64, LT.int IntKind.i64, LT.int IntKind.i64, LT.int IntKind.i64, LT.bool, LT.lst [LT.int IntKind.u8]] r520, V.f (F.lit (Value.int IntKind.i64 i521)), V.f (F.lit (Value.int IntKind.i64 i522)), V.undef, V.undef, V.undef] => Lp37_4 m (fun r591 r592 i593 => k (Ex.exit (0 : Nat)) [V.bor [LT.int IntKind.i64, LT.int IntKind.i64, LT.int IntKind.i64, LT.int IntKind.i64, LT.int IntKind.i64, LT.bool, LT.lst [LT.int IntKind.u8]] r516, V.f (F.lit (Value.int IntKind.i64 i517)), V.own [LT.int IntKind.i64] r591, V.own [LT.bool] r592, V.undef, V.undef, V.bor [LT.int IntKind.i64, LT.int IntKind.i64, LT.int IntKind.i64, LT.int IntKind.i64, LT.int IntKind.i64, LT.bool, LT.lst [LT.int IntKind.u8]] r520, V.f (F.lit (Value.int IntKind.i64 i521)), V.f (F.lit (Value.int IntKind.i64 i593)), V.undef, V.undef, V.undef]) r516 i517 r520 i521 m r518 r519 i522
  | _ => L R 37 4 vs k
set_option maxRecDepth 100000 in
theorem stLp37_4 (m n : Nat) (R : Type) (r516 : Abs.Rows) (i517 : Int) (r518 : Abs.Rows) (r519 : Abs.Rows) (r520 : Abs.Rows) (i521 : Int) (i522 : Int) (k : Ex → List V → Option R) : codeK Try.prog H (T24 m) 37 (L21 m) 5 (loopBody Try.prog 37 4) (mkEnv [0, 1, 7, 8, 18, 21, 22, 23, 24, 112, 113, 114] [V.bor [LT.int IntKind.i64, LT.int IntKind.i64, LT.int IntKind.i64, LT.int IntKind.i64, LT.int IntKind.i64, LT.bool, LT.lst [LT.int IntKind.u8]] r516, V.f (F.lit (Value.int IntKind.i64 i517)), V.own [LT.int IntKind.i64] r518, V.own [LT.bool] r519, V.undef, V.undef, V.bor [LT.int IntKind.i64, LT.int IntKind.i64, LT.int IntKind.i64, LT.int IntKind.i64, LT.int IntKind.i64, LT.bool, LT.lst [LT.int IntKind.u8]] r520, V.f (F.lit (Value.int IntKind.i64 i521)), V.f (F.lit (Value.int IntKind.i64 i522)), V.undef, V.undef, V.undef] 0 (H.len 37)) (fun e env' => match e with | .normal => ELp37_4 m R n (vals [0, 1, 7, 8, 18, 21, 22, 23, 24, 112, 113, 114] env') k | e => k e (vals [0, 1, 7, 8, 18, 21, 22, 23, 24, 112, 113, 114] env')) = Lp37_4_step m (fun r591 r592 i593 => k (Ex.exit (0 : Nat)) [V.bor [LT.int IntKind.i64, LT.int IntKind.i64, LT.int IntKind.i64, LT.int IntKind.i64, LT.int IntKind.i64, LT.bool, LT.lst [LT.int IntKind.u8]] r516, V.f (F.lit (Value.int IntKind.i64 i517)), V.own [LT.int IntKind.i64] r591, V.own [LT.bool] r592, V.undef, V.undef, V.bor [LT.int IntKind.i64, LT.int IntKind.i64, LT.int IntKind.i64, LT.int IntKind.i64, LT.int IntKind.i64, LT.bool, LT.lst [LT.int IntKind.u8]] r520, V.f (F.lit (Value.int IntKind.i64 i521)), V.f (F.lit (Value.int IntKind.i64 i593)), V.undef, V.undef, V.undef]) r516 i517 r520 i521 (fun r518 r519 i522 => ELp37_4 m R n [V.bor [LT.int IntKind.i64, LT.int IntKind.i64, LT.int IntKind.i64, LT.int IntKind.i64, LT.int IntKind.i64, LT.bool, LT.lst [LT.int IntKind.u8]] r516, V.f (F.lit (Value.int IntKind.i64 i517)), V.own [LT.int IntKind.i64] r518, V.own [LT.bool] r519, V.undef, V.undef, V.bor [LT.int IntKind.i64, LT.int IntKind.i64, LT.int IntKind.i64, LT.int IntKind.i64, LT.int IntKind.i64, LT.bool, LT.lst [LT.int IntKind.u8]] r520, V.f (F.lit (Value.int IntKind.i64 i521)), V.f (F.lit (Value.int IntKind.i64 i522)), V.undef, V.undef, V.undef] k) r518 r519 i522 := by kernel_rfl
theorem eqLp37_4 (m : Nat) (R : Type) (r516 : Abs.Rows) (i517 : Int) (r520 : Abs.Rows) (i521 : Int) (k : Ex → List V → Option R) : ∀ (n : Nat) (r518 : Abs.Rows) (r519 : Abs.Rows) (i522 : Int), ELp37_4 m R n [V.bor [LT.int IntKind.i64, LT.int IntKind.i64, LT.int IntKind.i64, LT.int IntKind.i64, LT.int IntKind.i64, LT.bool, LT.lst [LT.int IntKind.u8]] r516, V.f (F.lit (Value.int IntKind.i64 i517)), V.own [LT.int IntKind.i64] r518, V.own [LT.bool] r519, V.undef, V.undef, V.bor [LT.int IntKind.i64, LT.int IntKind.i64, LT.int IntKind.i64, LT.int IntKind.i64, LT.int IntKind.i64, LT.bool, LT.lst [LT.int IntKind.u8]] r520, V.f (F.lit (Value.int IntKind.i64 i521)), V.f (F.lit (Value.int IntKind.i64 i522)), V.undef, V.undef, V.undef] k = Lp37_4 m (fun r591 r592 i593 => k (Ex.exit (0 : Nat)) [V.bor [LT.int IntKind.i64, LT.int IntKind.i64, LT.int IntKind.i64, LT.int IntKind.i64, LT.int IntKind.i64, LT.bool, LT.lst [LT.int IntKind.u8]] r516, V.f (F.lit (Value.int IntKind.i64 i517)), V.own [LT.int IntKind.i64] r591, V.own [LT.bool] r592, V.undef, V.undef, V.bor [LT.int IntKind.i64, LT.int IntKind.i64, LT.int IntKind.i64, LT.int IntKind.i64, LT.int IntKind.i64, LT.bool, LT.lst [LT.int IntKind.u8]] r520, V.f (F.lit (Value.int IntKind.i64 i521)), V.f (F.lit (Value.int IntKind.i64 i593)), V.undef, V.undef, V.undef]) r516 i517 r520 i521 n r518 r519 i522
  | 0, _, _, _ => rfl
  | n + 1, r518, r519, i522 => by
    simp only [ELp37_4, Lp37_4]
    congr 1
    funext r518 r519 i522
    exact eqLp37_4 m R r516 i517 r520 i521 k n r518 r519 i522
def L22 (m : Nat) : LTbl := addB 37 4 (brLp37_4 m (L21 m)) (L21 m)
theorem okL22 (m : Nat) : LTOk Try.prog H (L22 m) := addB_ok (okT24 m) hM (okL21 m) (l := [0, 1, 7, 8, 18, 21, 22, 23, 24, 112, 113, 114]) (by kernel_rfl) (by kernel_rfl) m (fun R n vs k => ELp37_4 m R n vs k) (fun R vs k => rfl) (fun R n vs k x h => by
      simp only [ELp37_4] at h
      split at h
      · exact (stLp37_4 m n R _ _ _ _ _ _ _ k).trans h
      · cases h) fun R vs k x h => by
    unfold brLp37_4 at h
    split at h
    · exact .inl ((eqLp37_4 m R _ _ _ _ k m _ _ _).trans h)
    · exact .inr h

/-- a rest of hookflash/flashref2.PlayOutOf -/
def Jn37_29 {R : Type} (m : Nat) (kx0 : Abs.Rows → Bool → Option R) (r601 : Abs.Rows) (r602 : Abs.Rows) (i603 : Int) (i604 : Int) (i605 : Int) (b606 : Bool) : Option R :=
  bif b606 then (bif decide ((0 : Int) ≤ IntKind.wrap IntKind.i64 (i603 - (160 : Int)) ∧ IntKind.wrap IntKind.i64 (i603 - (160 : Int)) < (↑(List.length r601) : Int)) then (bif decide ((0 : Int) ≤ i603 ∧ i603 < (↑(List.length r601) : Int)) then (kx0 (stR [LT.int IntKind.i64] r601 (Int.toNat i603) (0 : Nat) [F.lit (Value.int IntKind.i64 (IntKind.wrap IntKind.i64 (Int.tdiv (fI r601 (Int.toNat (IntKind.wrap IntKind.i64 (i603 - (160 : Int)))) (0 : Nat)) (2 : Int))))]) true) else
  (none)) else
  (none)) else
  (kx0 r601 false)
def brJn37_29 (m : Nat) (L : LTbl) (R : Type) (vs : List V) (k : Ex → List V → Option R) : Option R := match vs with
  | [V.own [LT.int IntKind.i64] r601, V.own [LT.bool] r602, V.f (F.lit (Value.int IntKind.i64 i603)), V.undef, V.undef, V.f (F.lit (Value.int IntKind.i64 i604)), V.f (F.lit (Value.int IntKind.i64 i605)), V.f (F.lit (Value.bool b606)), V.undef, V.undef, V.undef] => Jn37_29 m (fun r607 b608 => k Ex.normal [V.own [LT.int IntKind.i64] r607, V.own [LT.bool] r602, V.f (F.lit (Value.int IntKind.i64 i603)), V.undef, V.undef, V.f (F.lit (Value.int IntKind.i64 i604)), V.f (F.lit (Value.int IntKind.i64 i605)), V.f (F.lit (Value.bool b608)), V.undef, V.undef, V.undef]) r601 r602 i603 i604 i605 b606
  | _ => L R 37 29 vs k
set_option maxRecDepth 100000 in
theorem evJn37_29 (m : Nat) (R : Type) (r601 : Abs.Rows) (r602 : Abs.Rows) (i603 : Int) (i604 : Int) (i605 : Int) (b606 : Bool) (k : Ex → List V → Option R) : codeK Try.prog H (T24 m) 37 (L22 m) 30 (loopBody Try.prog 37 29) (mkEnv [7, 8, 15, 18, 21, 88, 89, 100, 112, 113, 114] [V.own [LT.int IntKind.i64] r601, V.own [LT.bool] r602, V.f (F.lit (Value.int IntKind.i64 i603)), V.undef, V.undef, V.f (F.lit (Value.int IntKind.i64 i604)), V.f (F.lit (Value.int IntKind.i64 i605)), V.f (F.lit (Value.bool b606)), V.undef, V.undef, V.undef] 0 (H.len 37)) (fun e env' => k e (vals [7, 8, 15, 18, 21, 88, 89, 100, 112, 113, 114] env')) = Jn37_29 m (fun r607 b608 => k Ex.normal [V.own [LT.int IntKind.i64] r607, V.own [LT.bool] r602, V.f (F.lit (Value.int IntKind.i64 i603)), V.undef, V.undef, V.f (F.lit (Value.int IntKind.i64 i604)), V.f (F.lit (Value.int IntKind.i64 i605)), V.f (F.lit (Value.bool b608)), V.undef, V.undef, V.undef]) r601 r602 i603 i604 i605 b606 := by kernel_rfl
def L23 (m : Nat) : LTbl := addJ 37 29 (brJn37_29 m (L22 m)) (L22 m)
theorem okL23 (m : Nat) : LTOk Try.prog H (L23 m) := addJ_ok (okT24 m) hM (okL22 m) (l := [7, 8, 15, 18, 21, 88, 89, 100, 112, 113, 114]) (by kernel_rfl) (by kernel_rfl) fun R vs k x h => by
    unfold brJn37_29 at h
    split at h
    · exact .inl ((evJn37_29 m R _ _ _ _ _ _ k).trans h)
    · exact .inr h

/-- a round of a loop of hookflash/flashref2.PlayOutOf -/
def Lp37_25_step {R : Type} (m : Nat) (kx0 : Abs.Rows → Int → Option R) (r598 : Abs.Rows) (i599 : Int) (REC : Abs.Rows → Int → Option R) (r597 : Abs.Rows) (i600 : Int) : Option R :=
  bif decide (i600 < i599) then (bif decide ((0 : Int) ≤ i600 ∧ i600 < (↑(List.length r598) : Int)) then (bif !fB r598 (Int.toNat i600) (0 : Nat) then (Jn37_29 m (fun r609 b610 => REC r609 (IntKind.wrap IntKind.i64 (i600 + (1 : Int)))) r597 r598 i600 i599 i600 (decide (i600 ≥ (160 : Int)))) else
  (Jn37_29 m (fun r611 b612 => REC r611 (IntKind.wrap IntKind.i64 (i600 + (1 : Int)))) r597 r598 i600 i599 i600 false)) else
  (none)) else
  (kx0 r597 i600)
def Lp37_25 {R : Type} (m : Nat) (kx0 : Abs.Rows → Int → Option R) (r598 : Abs.Rows) (i599 : Int) : Nat → Abs.Rows → Int → Option R
  | 0, _, _ => none
  | n + 1, r597, i600 => Lp37_25_step m kx0 r598 i599 (Lp37_25 m kx0 r598 i599 n) r597 i600
def ELp37_25 (m : Nat) (R : Type) : Nat → List V → (Ex → List V → Option R) → Option R
  | 0, _, _ => none
  | n + 1, vs, k => match vs with
    | [V.own [LT.int IntKind.i64] r597, V.own [LT.bool] r598, V.undef, V.undef, V.f (F.lit (Value.int IntKind.i64 i599)), V.f (F.lit (Value.int IntKind.i64 i600)), V.undef, V.undef, V.undef] => Lp37_25_step m (fun r613 i614 => k (Ex.exit (4 : Nat)) [V.own [LT.int IntKind.i64] r613, V.own [LT.bool] r598, V.undef, V.undef, V.f (F.lit (Value.int IntKind.i64 i599)), V.f (F.lit (Value.int IntKind.i64 i614)), V.undef, V.undef, V.undef]) r598 i599 (fun r597 i600 => ELp37_25 m R n [V.own [LT.int IntKind.i64] r597, V.own [LT.bool] r598, V.undef, V.undef, V.f (F.lit (Value.int IntKind.i64 i599)), V.f (F.lit (Value.int IntKind.i64 i600)), V.undef, V.undef, V.undef] k) r597 i600
    | _ => none
def brLp37_25 (m : Nat) (L : LTbl) (R : Type) (vs : List V) (k : Ex → List V → Option R) : Option R := match vs with
  | [V.own [LT.int IntKind.i64] r597, V.own [LT.bool] r598, V.undef, V.undef, V.f (F.lit (Value.int IntKind.i64 i599)), V.f (F.lit (Value.int IntKind.i64 i600)), V.undef, V.undef, V.undef] => Lp37_25 m (fun r613 i614 => k (Ex.exit (4 : Nat)) [V.own [LT.int IntKind.i64] r613, V.own [LT.bool] r598, V.undef, V.undef, V.f (F.lit (Value.int IntKind.i64 i599)), V.f (F.lit (Value.int IntKind.i64 i614)), V.undef, V.undef, V.undef]) r598 i599 m r597 i600
  | _ => L R 37 25 vs k
set_option maxRecDepth 100000 in
theorem stLp37_25 (m n : Nat) (R : Type) (r597 : Abs.Rows) (r598 : Abs.Rows) (i599 : Int) (i600 : Int) (k : Ex → List V → Option R) : codeK Try.prog H (T24 m) 37 (L23 m) 26 (loopBody Try.prog 37 25) (mkEnv [7, 8, 18, 21, 88, 89, 112, 113, 114] [V.own [LT.int IntKind.i64] r597, V.own [LT.bool] r598, V.undef, V.undef, V.f (F.lit (Value.int IntKind.i64 i599)), V.f (F.lit (Value.int IntKind.i64 i600)), V.undef, V.undef, V.undef] 0 (H.len 37)) (fun e env' => match e with | .normal => ELp37_25 m R n (vals [7, 8, 18, 21, 88, 89, 112, 113, 114] env') k | e => k e (vals [7, 8, 18, 21, 88, 89, 112, 113, 114] env')) = Lp37_25_step m (fun r613 i614 => k (Ex.exit (4 : Nat)) [V.own [LT.int IntKind.i64] r613, V.own [LT.bool] r598, V.undef, V.undef, V.f (F.lit (Value.int IntKind.i64 i599)), V.f (F.lit (Value.int IntKind.i64 i614)), V.undef, V.undef, V.undef]) r598 i599 (fun r597 i600 => ELp37_25 m R n [V.own [LT.int IntKind.i64] r597, V.own [LT.bool] r598, V.undef, V.undef, V.f (F.lit (Value.int IntKind.i64 i599)), V.f (F.lit (Value.int IntKind.i64 i600)), V.undef, V.undef, V.undef] k) r597 i600 := by kernel_rfl
theorem eqLp37_25 (m : Nat) (R : Type) (r598 : Abs.Rows) (i599 : Int) (k : Ex → List V → Option R) : ∀ (n : Nat) (r597 : Abs.Rows) (i600 : Int), ELp37_25 m R n [V.own [LT.int IntKind.i64] r597, V.own [LT.bool] r598, V.undef, V.undef, V.f (F.lit (Value.int IntKind.i64 i599)), V.f (F.lit (Value.int IntKind.i64 i600)), V.undef, V.undef, V.undef] k = Lp37_25 m (fun r613 i614 => k (Ex.exit (4 : Nat)) [V.own [LT.int IntKind.i64] r613, V.own [LT.bool] r598, V.undef, V.undef, V.f (F.lit (Value.int IntKind.i64 i599)), V.f (F.lit (Value.int IntKind.i64 i614)), V.undef, V.undef, V.undef]) r598 i599 n r597 i600
  | 0, _, _ => rfl
  | n + 1, r597, i600 => by
    simp only [ELp37_25, Lp37_25]
    congr 1
    funext r597 i600
    exact eqLp37_25 m R r598 i599 k n r597 i600
def L24 (m : Nat) : LTbl := addB 37 25 (brLp37_25 m (L23 m)) (L23 m)
theorem okL24 (m : Nat) : LTOk Try.prog H (L24 m) := addB_ok (okT24 m) hM (okL23 m) (l := [7, 8, 18, 21, 88, 89, 112, 113, 114]) (by kernel_rfl) (by kernel_rfl) m (fun R n vs k => ELp37_25 m R n vs k) (fun R vs k => rfl) (fun R n vs k x h => by
      simp only [ELp37_25] at h
      split at h
      · exact (stLp37_25 m n R _ _ _ _ k).trans h
      · cases h) fun R vs k x h => by
    unfold brLp37_25 at h
    split at h
    · exact .inl ((eqLp37_25 m R _ _ k m _ _).trans h)
    · exact .inr h

/-- hookflash/flashref2.PlayOutOf -/
def Fn37 {R : Type} (m : Nat) : Abs.Rows → Int → Int → (Abs.Rows → Option R) → Option R := match m with
  | 0 => fun _ _ _ _ => none
  | m + 1 => fun r513 i514 i515 k =>
  bif decide ((0 : Int) ≤ IntKind.wrap IntKind.i64 ((8 : Int) * i515) ∧ IntKind.wrap IntKind.i64 ((8 : Int) * i515) ≤ IntKind.wrap IntKind.i64 ((8 : Int) * i515) ∧ IntKind.wrap IntKind.i64 ((8 : Int) * i515) ≤ (↑rowMax : Int)) then (bif decide ((0 : Int) ≤ (↑(List.length (List.replicate (Int.toNat (IntKind.wrap IntKind.i64 ((8 : Int) * i515))) [F.lit (Value.int IntKind.i64 (0 : Int))])) : Int) ∧ (↑(List.length (List.replicate (Int.toNat (IntKind.wrap IntKind.i64 ((8 : Int) * i515))) [F.lit (Value.int IntKind.i64 (0 : Int))])) : Int) ≤ (↑(List.length (List.replicate (Int.toNat (IntKind.wrap IntKind.i64 ((8 : Int) * i515))) [F.lit (Value.int IntKind.i64 (0 : Int))])) : Int) ∧ (↑(List.length (List.replicate (Int.toNat (IntKind.wrap IntKind.i64 ((8 : Int) * i515))) [F.lit (Value.int IntKind.i64 (0 : Int))])) : Int) ≤ (↑rowMax : Int)) then (Lp37_4 m (fun r594 r595 i596 => bif (↑(List.length r513) : Int) == (0 : Int) then (k r594) else
  (Lp37_25 m (fun r615 i616 => k r615) r595 ((↑(List.length r594) : Int)) m r594 ((0 : Int)))) r513 i514 r513 ((↑(List.length r513) : Int)) m (List.replicate (Int.toNat (IntKind.wrap IntKind.i64 ((8 : Int) * i515))) [F.lit (Value.int IntKind.i64 (0 : Int))]) (List.replicate (Int.toNat (↑(List.length (List.replicate (Int.toNat (IntKind.wrap IntKind.i64 ((8 : Int) * i515))) [F.lit (Value.int IntKind.i64 (0 : Int))])) : Int)) [F.lit (Value.bool false)]) ((0 : Int))) else
  (none)) else
  (none)
def brFn37 (m : Nat) (T : Tbl) (R : Type) (vs : List V) (k : V → List V → Option R) : Option R := match vs with
  | [V.bor [LT.int IntKind.i64, LT.int IntKind.i64, LT.int IntKind.i64, LT.int IntKind.i64, LT.int IntKind.i64, LT.bool, LT.lst [LT.int IntKind.u8]] r513, V.f (F.lit (Value.int IntKind.i64 i514)), V.f (F.lit (Value.int IntKind.i64 i515))] => Fn37 m r513 i514 i515 (fun r617 => k (V.own [LT.int IntKind.i64] r617) [V.undef, V.undef, V.undef])
  | _ => T R 37 vs k
set_option maxRecDepth 100000 in
theorem evFn37 (m : Nat) (R : Type) (r513 : Abs.Rows) (i514 : Int) (i515 : Int) (k : V → List V → Option R) : runK Try.prog H (T24 m) (L24 m) 37 [V.bor [LT.int IntKind.i64, LT.int IntKind.i64, LT.int IntKind.i64, LT.int IntKind.i64, LT.int IntKind.i64, LT.bool, LT.lst [LT.int IntKind.u8]] r513, V.f (F.lit (Value.int IntKind.i64 i514)), V.f (F.lit (Value.int IntKind.i64 i515))] k = Fn37 (m + 1) r513 i514 i515 (fun r617 => k (V.own [LT.int IntKind.i64] r617) [V.undef, V.undef, V.undef]) := by kernel_rfl
def T25 (m : Nat) : Tbl := addT 37 (brFn37 m (T24 m)) (T24 m)
theorem okT25 (m : Nat) : TblOk Try.prog (T25 m) := addT_ok (okT24 m) fun R vs k x h => by
  unfold brFn37 at h
  split at h
  · cases m with
    | zero => cases h
    | succ m => exact runK_some (okT24 m) hM (okL24 m) ((evFn37 m R _ _ _ k).trans h)
  · exact okT24 m R 37 _ k x h

/-- a round of a loop of slices.Equal[[]int,int] -/
def Lp38_5_step {R : Type} (m : Nat) (kx0 : Bool → Int → Option R) (kx1 : Int → Option R) (r627 : Abs.Rows) (r628 : Abs.Rows) (b629 : Bool) (i630 : Int) (REC : Int → Option R) (i631 : Int) : Option R :=
  bif decide (i631 < i630) then (bif decide ((0 : Int) ≤ i631 ∧ i631 < (↑(List.length r627) : Int)) then (bif decide ((0 : Int) ≤ i631 ∧ i631 < (↑(List.length r628) : Int)) then (bif fI r627 (Int.toNat i631) (0 : Nat) != fI r628 (Int.toNat i631) (0 : Nat) then (kx0 false i631) else
  (REC (IntKind.wrap IntKind.i64 (i631 + (1 : Int))))) else
  (none)) else
  (none)) else
  (kx1 i631)
def Lp38_5 {R : Type} (m : Nat) (kx0 : Bool → Int → Option R) (kx1 : Int → Option R) (r627 : Abs.Rows) (r628 : Abs.Rows) (b629 : Bool) (i630 : Int) : Nat → Int → Option R
  | 0, _ => none
  | n + 1, i631 => Lp38_5_step m kx0 kx1 r627 r628 b629 i630 (Lp38_5 m kx0 kx1 r627 r628 b629 i630 n) i631
def ELp38_5 (m : Nat) (R : Type) : Nat → List V → (Ex → List V → Option R) → Option R
  | 0, _, _ => none
  | n + 1, vs, k => match vs with
    | [V.bor [LT.int IntKind.i64] r627, V.bor [LT.int IntKind.i64] r628, V.f (F.lit (Value.bool b629)), V.f (F.lit (Value.int IntKind.i64 i630)), V.f (F.lit (Value.int IntKind.i64 i631)), V.undef, V.undef] => Lp38_5_step m (fun b632 i633 => k Ex.ret [V.bor [LT.int IntKind.i64] r627, V.bor [LT.int IntKind.i64] r628, V.f (F.lit (Value.bool b632)), V.f (F.lit (Value.int IntKind.i64 i630)), V.f (F.lit (Value.int IntKind.i64 i633)), V.undef, V.undef]) (fun i634 => k (Ex.exit (0 : Nat)) [V.bor [LT.int IntKind.i64] r627, V.bor [LT.int IntKind.i64] r628, V.f (F.lit (Value.bool b629)), V.f (F.lit (Value.int IntKind.i64 i630)), V.f (F.lit (Value.int IntKind.i64 i634)), V.undef, V.undef]) r627 r628 b629 i630 (fun i631 => ELp38_5 m R n [V.bor [LT.int IntKind.i64] r627, V.bor [LT.int IntKind.i64] r628, V.f (F.lit (Value.bool b629)), V.f (F.lit (Value.int IntKind.i64 i630)), V.f (F.lit (Value.int IntKind.i64 i631)), V.undef, V.undef] k) i631
    | _ => none
def brLp38_5 (m : Nat) (L : LTbl) (R : Type) (vs : List V) (k : Ex → List V → Option R) : Option R := match vs with
  | [V.bor [LT.int IntKind.i64] r627, V.bor [LT.int IntKind.i64] r628, V.f (F.lit (Value.bool b629)), V.f (F.lit (Value.int IntKind.i64 i630)), V.f (F.lit (Value.int IntKind.i64 i631)), V.undef, V.undef] => Lp38_5 m (fun b632 i633 => k Ex.ret [V.bor [LT.int IntKind.i64] r627, V.bor [LT.int IntKind.i64] r628, V.f (F.lit (Value.bool b632)), V.f (F.lit (Value.int IntKind.i64 i630)), V.f (F.lit (Value.int IntKind.i64 i633)), V.undef, V.undef]) (fun i634 => k (Ex.exit (0 : Nat)) [V.bor [LT.int IntKind.i64] r627, V.bor [LT.int IntKind.i64] r628, V.f (F.lit (Value.bool b629)), V.f (F.lit (Value.int IntKind.i64 i630)), V.f (F.lit (Value.int IntKind.i64 i634)), V.undef, V.undef]) r627 r628 b629 i630 m i631
  | _ => L R 38 5 vs k
set_option maxRecDepth 100000 in
theorem stLp38_5 (m n : Nat) (R : Type) (r627 : Abs.Rows) (r628 : Abs.Rows) (b629 : Bool) (i630 : Int) (i631 : Int) (k : Ex → List V → Option R) : codeK Try.prog H (T25 m) 38 (L24 m) 6 (loopBody Try.prog 38 5) (mkEnv [0, 1, 4, 12, 13, 26, 27] [V.bor [LT.int IntKind.i64] r627, V.bor [LT.int IntKind.i64] r628, V.f (F.lit (Value.bool b629)), V.f (F.lit (Value.int IntKind.i64 i630)), V.f (F.lit (Value.int IntKind.i64 i631)), V.undef, V.undef] 0 (H.len 38)) (fun e env' => match e with | .normal => ELp38_5 m R n (vals [0, 1, 4, 12, 13, 26, 27] env') k | e => k e (vals [0, 1, 4, 12, 13, 26, 27] env')) = Lp38_5_step m (fun b632 i633 => k Ex.ret [V.bor [LT.int IntKind.i64] r627, V.bor [LT.int IntKind.i64] r628, V.f (F.lit (Value.bool b632)), V.f (F.lit (Value.int IntKind.i64 i630)), V.f (F.lit (Value.int IntKind.i64 i633)), V.undef, V.undef]) (fun i634 => k (Ex.exit (0 : Nat)) [V.bor [LT.int IntKind.i64] r627, V.bor [LT.int IntKind.i64] r628, V.f (F.lit (Value.bool b629)), V.f (F.lit (Value.int IntKind.i64 i630)), V.f (F.lit (Value.int IntKind.i64 i634)), V.undef, V.undef]) r627 r628 b629 i630 (fun i631 => ELp38_5 m R n [V.bor [LT.int IntKind.i64] r627, V.bor [LT.int IntKind.i64] r628, V.f (F.lit (Value.bool b629)), V.f (F.lit (Value.int IntKind.i64 i630)), V.f (F.lit (Value.int IntKind.i64 i631)), V.undef, V.undef] k) i631 := by kernel_rfl
theorem eqLp38_5 (m : Nat) (R : Type) (r627 : Abs.Rows) (r628 : Abs.Rows) (b629 : Bool) (i630 : Int) (k : Ex → List V → Option R) : ∀ (n : Nat) (i631 : Int), ELp38_5 m R n [V.bor [LT.int IntKind.i64] r627, V.bor [LT.int IntKind.i64] r628, V.f (F.lit (Value.bool b629)), V.f (F.lit (Value.int IntKind.i64 i630)), V.f (F.lit (Value.int IntKind.i64 i631)), V.undef, V.undef] k = Lp38_5 m (fun b632 i633 => k Ex.ret [V.bor [LT.int IntKind.i64] r627, V.bor [LT.int IntKind.i64] r628, V.f (F.lit (Value.bool b632)), V.f (F.lit (Value.int IntKind.i64 i630)), V.f (F.lit (Value.int IntKind.i64 i633)), V.undef, V.undef]) (fun i634 => k (Ex.exit (0 : Nat)) [V.bor [LT.int IntKind.i64] r627, V.bor [LT.int IntKind.i64] r628, V.f (F.lit (Value.bool b629)), V.f (F.lit (Value.int IntKind.i64 i630)), V.f (F.lit (Value.int IntKind.i64 i634)), V.undef, V.undef]) r627 r628 b629 i630 n i631
  | 0, _ => rfl
  | n + 1, i631 => by
    simp only [ELp38_5, Lp38_5]
    congr 1
    funext i631
    exact eqLp38_5 m R r627 r628 b629 i630 k n i631
def L25 (m : Nat) : LTbl := addB 38 5 (brLp38_5 m (L24 m)) (L24 m)
theorem okL25 (m : Nat) : LTOk Try.prog H (L25 m) := addB_ok (okT25 m) hM (okL24 m) (l := [0, 1, 4, 12, 13, 26, 27]) (by kernel_rfl) (by kernel_rfl) m (fun R n vs k => ELp38_5 m R n vs k) (fun R vs k => rfl) (fun R n vs k x h => by
      simp only [ELp38_5] at h
      split at h
      · exact (stLp38_5 m n R _ _ _ _ _ k).trans h
      · cases h) fun R vs k x h => by
    unfold brLp38_5 at h
    split at h
    · exact .inl ((eqLp38_5 m R _ _ _ _ k m _).trans h)
    · exact .inr h

/-- slices.Equal[[]int,int] -/
def Fn38 {R : Type} (m : Nat) : Abs.Rows → Abs.Rows → (Bool → Option R) → Option R := match m with
  | 0 => fun _ _ _ => none
  | m + 1 => fun r625 r626 k =>
  bif (↑(List.length r625) : Int) != (↑(List.length r626) : Int) then (k false) else
  (Lp38_5 m (fun b635 i636 => k b635) (fun i637 => k true) r625 r626 false ((↑(List.length r625) : Int)) m ((0 : Int)))
def brFn38 (m : Nat) (T : Tbl) (R : Type) (vs : List V) (k : V → List V → Option R) : Option R := match vs with
  | [V.bor [LT.int IntKind.i64] r625, V.bor [LT.int IntKind.i64] r626] => Fn38 m r625 r626 (fun b638 => k (V.f (F.lit (Value.bool b638))) [V.undef, V.undef])
  | _ => T R 38 vs k
set_option maxRecDepth 100000 in
theorem evFn38 (m : Nat) (R : Type) (r625 : Abs.Rows) (r626 : Abs.Rows) (k : V → List V → Option R) : runK Try.prog H (T25 m) (L25 m) 38 [V.bor [LT.int IntKind.i64] r625, V.bor [LT.int IntKind.i64] r626] k = Fn38 (m + 1) r625 r626 (fun b638 => k (V.f (F.lit (Value.bool b638))) [V.undef, V.undef]) := by kernel_rfl
def T26 (m : Nat) : Tbl := addT 38 (brFn38 m (T25 m)) (T25 m)
theorem okT26 (m : Nat) : TblOk Try.prog (T26 m) := addT_ok (okT25 m) fun R vs k x h => by
  unfold brFn38 at h
  split at h
  · cases m with
    | zero => cases h
    | succ m => exact runK_some (okT25 m) hM (okL25 m) ((evFn38 m R _ _ k).trans h)
  · exact okT25 m R 38 _ k x h

/-- hookflash/flashlaw2.sounded -/
def Fn19 {R : Type} (m : Nat) : (Bool → Option R) → Option R := match m with
  | 0 => fun _ => none
  | m + 1 => fun  k =>
  Fn32 m ((128 : Int)) (fun i640 => k (i640 == (32124 : Int)))
def brFn19 (m : Nat) (T : Tbl) (R : Type) (vs : List V) (k : V → List V → Option R) : Option R := match vs with
  | [] => Fn19 m  (fun b641 => k (V.f (F.lit (Value.bool b641))) [])
  | _ => T R 19 vs k
set_option maxRecDepth 100000 in
theorem evFn19 (m : Nat) (R : Type)  (k : V → List V → Option R) : runK Try.prog H (T26 m) (L25 m) 19 [] k = Fn19 (m + 1)  (fun b641 => k (V.f (F.lit (Value.bool b641))) []) := by kernel_rfl
def T27 (m : Nat) : Tbl := addT 19 (brFn19 m (T26 m)) (T26 m)
theorem okT27 (m : Nat) : TblOk Try.prog (T27 m) := addT_ok (okT26 m) fun R vs k x h => by
  unfold brFn19 at h
  split at h
  · cases m with
    | zero => cases h
    | succ m => exact runK_some (okT26 m) hM (okL25 m) ((evFn19 m R k).trans h)
  · exact okT26 m R 19 _ k x h

/-- a rest of hookflash/flashlaw2.PacketsPlayed -/
def Jn5_7 {R : Type} (m : Nat) (kx0 : Bool → Option R) (b619 : Bool) (r620 : Abs.Rows) (i621 : Int) (i622 : Int) (r623 : Abs.Rows) (i624 : Int) : Option R :=
  bif i621 == i622 then (Fn38 m r620 r623 (fun b639 => bif b639 then (Fn19 m  (fun b642 => kx0 b642)) else
  (kx0 false))) else
  (kx0 false)
def brJn5_7 (m : Nat) (L : LTbl) (R : Type) (vs : List V) (k : Ex → List V → Option R) : Option R := match vs with
  | [V.f (F.lit (Value.bool b619)), V.own [LT.int IntKind.i64] r620, V.f (F.lit (Value.int IntKind.i64 i621)), V.f (F.lit (Value.int IntKind.i64 i622)), V.own [LT.int IntKind.i64] r623, V.tup [V.undef, V.f (F.lit (Value.int IntKind.i64 i624))], V.undef, V.undef, V.undef, V.undef] => Jn5_7 m (fun b643 => k Ex.ret [V.f (F.lit (Value.bool b643)), V.own [LT.int IntKind.i64] r620, V.f (F.lit (Value.int IntKind.i64 i621)), V.f (F.lit (Value.int IntKind.i64 i622)), V.own [LT.int IntKind.i64] r623, V.tup [V.undef, V.f (F.lit (Value.int IntKind.i64 i624))], V.undef, V.undef, V.undef, V.undef]) b619 r620 i621 i622 r623 i624
  | _ => L R 5 7 vs k
set_option maxRecDepth 100000 in
theorem evJn5_7 (m : Nat) (R : Type) (b619 : Bool) (r620 : Abs.Rows) (i621 : Int) (i622 : Int) (r623 : Abs.Rows) (i624 : Int) (k : Ex → List V → Option R) : codeK Try.prog H (T27 m) 5 (L25 m) 8 (loopBody Try.prog 5 7) (mkEnv [2, 7, 8, 9, 10, 22, 26, 27, 53, 65] [V.f (F.lit (Value.bool b619)), V.own [LT.int IntKind.i64] r620, V.f (F.lit (Value.int IntKind.i64 i621)), V.f (F.lit (Value.int IntKind.i64 i622)), V.own [LT.int IntKind.i64] r623, V.tup [V.undef, V.f (F.lit (Value.int IntKind.i64 i624))], V.undef, V.undef, V.undef, V.undef] 0 (H.len 5)) (fun e env' => k e (vals [2, 7, 8, 9, 10, 22, 26, 27, 53, 65] env')) = Jn5_7 m (fun b643 => k Ex.ret [V.f (F.lit (Value.bool b643)), V.own [LT.int IntKind.i64] r620, V.f (F.lit (Value.int IntKind.i64 i621)), V.f (F.lit (Value.int IntKind.i64 i622)), V.own [LT.int IntKind.i64] r623, V.tup [V.undef, V.f (F.lit (Value.int IntKind.i64 i624))], V.undef, V.undef, V.undef, V.undef]) b619 r620 i621 i622 r623 i624 := by kernel_rfl
def L26 (m : Nat) : LTbl := addJ 5 7 (brJn5_7 m (L25 m)) (L25 m)
theorem okL26 (m : Nat) : LTOk Try.prog H (L26 m) := addJ_ok (okT27 m) hM (okL25 m) (l := [2, 7, 8, 9, 10, 22, 26, 27, 53, 65]) (by kernel_rfl) (by kernel_rfl) fun R vs k x h => by
    unfold brJn5_7 at h
    split at h
    · exact .inl ((evJn5_7 m R _ _ _ _ _ _ k).trans h)
    · exact .inr h

/-- a rest of hookflash/flashlaw2.PacketsPlayed -/
def Jn5_4 {R : Type} (m : Nat) (kx0 : Bool → Option R) (b505 : Bool) (r506 : Abs.Rows) (i507 : Int) (i508 : Int) (r509 : Abs.Rows) (i510 : Int) (i511 : Int) (i512 : Int) : Option R :=
  bif i511 == (0 : Int) then (Fn37 m r506 i507 i508 (fun r618 => Jn5_7 m (fun b644 => kx0 b644) b505 r509 i510 i511 r618 i512)) else
  (Jn5_7 m (fun b645 => kx0 b645) b505 r509 i510 i511 rows0 i512)
def brJn5_4 (m : Nat) (L : LTbl) (R : Type) (vs : List V) (k : Ex → List V → Option R) : Option R := match vs with
  | [V.f (F.lit (Value.bool b505)), V.own [LT.int IntKind.i64, LT.int IntKind.i64, LT.int IntKind.i64, LT.int IntKind.i64, LT.int IntKind.i64, LT.bool, LT.lst [LT.int IntKind.u8]] r506, V.f (F.lit (Value.int IntKind.i64 i507)), V.f (F.lit (Value.int IntKind.i64 i508)), V.own [LT.int IntKind.i64] r509, V.f (F.lit (Value.int IntKind.i64 i510)), V.f (F.lit (Value.int IntKind.i64 i511)), V.undef, V.tup [V.undef, V.f (F.lit (Value.int IntKind.i64 i512))], V.undef, V.undef, V.undef] => Jn5_4 m (fun b646 => k Ex.ret [V.f (F.lit (Value.bool b646)), V.undef, V.undef, V.undef, V.own [LT.int IntKind.i64] r509, V.f (F.lit (Value.int IntKind.i64 i510)), V.f (F.lit (Value.int IntKind.i64 i511)), V.undef, V.tup [V.undef, V.f (F.lit (Value.int IntKind.i64 i512))], V.undef, V.undef, V.undef]) b505 r506 i507 i508 r509 i510 i511 i512
  | _ => L R 5 4 vs k
set_option maxRecDepth 100000 in
theorem evJn5_4 (m : Nat) (R : Type) (b505 : Bool) (r506 : Abs.Rows) (i507 : Int) (i508 : Int) (r509 : Abs.Rows) (i510 : Int) (i511 : Int) (i512 : Int) (k : Ex → List V → Option R) : codeK Try.prog H (T27 m) 5 (L26 m) 5 (loopBody Try.prog 5 4) (mkEnv [2, 4, 5, 6, 7, 8, 9, 15, 22, 26, 27, 65] [V.f (F.lit (Value.bool b505)), V.own [LT.int IntKind.i64, LT.int IntKind.i64, LT.int IntKind.i64, LT.int IntKind.i64, LT.int IntKind.i64, LT.bool, LT.lst [LT.int IntKind.u8]] r506, V.f (F.lit (Value.int IntKind.i64 i507)), V.f (F.lit (Value.int IntKind.i64 i508)), V.own [LT.int IntKind.i64] r509, V.f (F.lit (Value.int IntKind.i64 i510)), V.f (F.lit (Value.int IntKind.i64 i511)), V.undef, V.tup [V.undef, V.f (F.lit (Value.int IntKind.i64 i512))], V.undef, V.undef, V.undef] 0 (H.len 5)) (fun e env' => k e (vals [2, 4, 5, 6, 7, 8, 9, 15, 22, 26, 27, 65] env')) = Jn5_4 m (fun b646 => k Ex.ret [V.f (F.lit (Value.bool b646)), V.undef, V.undef, V.undef, V.own [LT.int IntKind.i64] r509, V.f (F.lit (Value.int IntKind.i64 i510)), V.f (F.lit (Value.int IntKind.i64 i511)), V.undef, V.tup [V.undef, V.f (F.lit (Value.int IntKind.i64 i512))], V.undef, V.undef, V.undef]) b505 r506 i507 i508 r509 i510 i511 i512 := by kernel_rfl
def L27 (m : Nat) : LTbl := addJ 5 4 (brJn5_4 m (L26 m)) (L26 m)
theorem okL27 (m : Nat) : LTOk Try.prog H (L27 m) := addJ_ok (okT27 m) hM (okL26 m) (l := [2, 4, 5, 6, 7, 8, 9, 15, 22, 26, 27, 65]) (by kernel_rfl) (by kernel_rfl) fun R vs k x h => by
    unfold brJn5_4 at h
    split at h
    · exact .inl ((evJn5_4 m R _ _ _ _ _ _ _ _ k).trans h)
    · exact .inr h

/-- hookflash/flashlaw2.PacketsPlayed -/
def Fn5 {R : Type} (m : Nat) : Abs.Rows → (Bool → Option R) → Option R := match m with
  | 0 => fun _ _ => none
  | m + 1 => fun r1 k =>
  Fn33 m r1 ((0 : Int)) ((12 : Int)) (fun r214 i215 => Fn20 m r1 i215 ([[F.lit (Value.int IntKind.i64 (0 : Int))], [F.lit (Value.int IntKind.i64 (10 : Int))], [F.lit (Value.int IntKind.i64 (20 : Int))], [F.lit (Value.int IntKind.i64 (60 : Int))], [F.lit (Value.int IntKind.i64 (-1 : Int))], [F.lit (Value.int IntKind.i64 (10001 : Int))]]) (fun i216 i217 => Fn20 m r1 i217 ([[F.lit (Value.int IntKind.i64 (0 : Int))], [F.lit (Value.int IntKind.i64 (10 : Int))], [F.lit (Value.int IntKind.i64 (50 : Int))], [F.lit (Value.int IntKind.i64 (100 : Int))], [F.lit (Value.int IntKind.i64 (-1 : Int))], [F.lit (Value.int IntKind.i64 (2501 : Int))]]) (fun i218 i219 => Fn34 m r214 i216 i218 (fun r406 i407 => Fn36 m r214 (fun i486 => bif decide (i216 < (0 : Int)) then (Fn24 m true ((1 : Int)) (fun i490 => Fn35 m ([[F.lit (Value.int IntKind.i64 i486)], [F.lit (Value.int IntKind.i64 i490)]]) (fun i504 => Jn5_4 m (fun b647 => k b647) false r214 i216 i218 r406 i407 i504 i407))) else
  (bif decide (i216 > (10000 : Int)) then (Fn24 m true ((1 : Int)) (fun i648 => Fn35 m ([[F.lit (Value.int IntKind.i64 i486)], [F.lit (Value.int IntKind.i64 i648)]]) (fun i649 => Jn5_4 m (fun b650 => k b650) false r214 i216 i218 r406 i407 i649 i407))) else
  (bif decide (i218 < (0 : Int)) then (Fn24 m true ((1 : Int)) (fun i651 => Fn35 m ([[F.lit (Value.int IntKind.i64 i486)], [F.lit (Value.int IntKind.i64 i651)]]) (fun i652 => Jn5_4 m (fun b653 => k b653) false r214 i216 i218 r406 i407 i652 i407))) else
  (Fn24 m (decide (i218 > (2500 : Int))) ((1 : Int)) (fun i654 => Fn35 m ([[F.lit (Value.int IntKind.i64 i486)], [F.lit (Value.int IntKind.i64 i654)]]) (fun i655 => Jn5_4 m (fun b656 => k b656) false r214 i216 i218 r406 i407 i655 i407))))))))))
def brFn5 (m : Nat) (T : Tbl) (R : Type) (vs : List V) (k : V → List V → Option R) : Option R := match vs with
  | [V.f (F.lst [LT.int IntKind.i64] r1)] => Fn5 m r1 (fun b657 => k (V.f (F.lit (Value.bool b657))) [V.undef])
  | _ => T R 5 vs k
set_option maxRecDepth 100000 in
theorem evFn5 (m : Nat) (R : Type) (r1 : Abs.Rows) (k : V → List V → Option R) : runK Try.prog H (T27 m) (L27 m) 5 [V.f (F.lst [LT.int IntKind.i64] r1)] k = Fn5 (m + 1) r1 (fun b657 => k (V.f (F.lit (Value.bool b657))) [V.undef]) := by kernel_rfl
def T28 (m : Nat) : Tbl := addT 5 (brFn5 m (T27 m)) (T27 m)
theorem okT28 (m : Nat) : TblOk Try.prog (T28 m) := addT_ok (okT27 m) fun R vs k x h => by
  unfold brFn5 at h
  split at h
  · cases m with
    | zero => cases h
    | succ m => exact runK_some (okT27 m) hM (okL27 m) ((evFn5 m R _ k).trans h)
  · exact okT27 m R 5 _ k x h

end Go.Proofs.Ytjhfbmhblpjigaa.Med
end
