/- A part of the proofs of the seat Ytjhfbmhblpjigaa: no statement of the seat stands here. -/
import Derived.Test.YtjhfbmhblpjigaaProg
import Derived.KernelRfl
import Derived.Test.YtjhfbmhblpjigaaAbsC
section
set_option linter.unusedVariables false
set_option linter.unusedSimpArgs false
namespace Go.Proofs.Ytjhfbmhblpjigaa.Med
open Go Go.Abs
def H : Hints where
  mode := fun f j => match f, j with
    | 62, 0 => .own
    | _, _ => .bor
  mv := fun f t => match f, t with
    | 3, 2 => true
    | 4, 2 => true
    | 5, 2 => true
    | 6, 2 => true
    | 7, 2 => true
    | 8, 2 => true
    | 10, 2 => true
    | 11, 2 => true
    | 11, 3 => true
    | 12, 2 => true
    | 13, 2 => true
    | 14, 3 => true
    | 15, 3 => true
    | 16, 2 => true
    | 17, 4 => true
    | 18, 4 => true
    | 19, 0 => true
    | 20, 4 => true
    | 21, 6 => true
    | 22, 4 => true
    | 23, 2 => true
    | 23, 3 => true
    | 24, 4 => true
    | 25, 2 => true
    | 26, 2 => true
    | 27, 2 => true
    | 27, 3 => true
    | 28, 2 => true
    | 29, 2 => true
    | 30, 2 => true
    | 30, 3 => true
    | 31, 2 => true
    | 32, 2 => true
    | 33, 4 => true
    | 34, 6 => true
    | 34, 7 => true
    | 35, 2 => true
    | 36, 2 => true
    | 37, 6 => true
    | 38, 4 => true
    | 39, 4 => true
    | 40, 2 => true
    | 40, 3 => true
    | 41, 4 => true
    | 41, 5 => true
    | 42, 6 => true
    | 42, 7 => true
    | 43, 2 => true
    | 44, 4 => true
    | 45, 6 => true
    | 46, 4 => true
    | 47, 2 => true
    | 47, 3 => true
    | 48, 3 => true
    | 49, 2 => true
    | 50, 2 => true
    | 52, 2 => true
    | 53, 2 => true
    | 54, 4 => true
    | 54, 5 => true
    | 55, 4 => true
    | 55, 5 => true
    | 56, 2 => true
    | 56, 3 => true
    | 57, 2 => true
    | 59, 4 => true
    | 60, 6 => true
    | 61, 4 => true
    | 62, 6 => true
    | 63, 6 => true
    | 64, 2 => true
    | 65, 2 => true
    | 66, 2 => true
    | 67, 6 => true
    | 68, 2 => true
    | 69, 4 => true
    | 70, 2 => true
    | 71, 4 => true
    | 72, 4 => true
    | 73, 2 => true
    | 74, 4 => true
    | 75, 4 => true
    | 76, 2 => true
    | 77, 2 => true
    | 78, 2 => true
    | 79, 2 => true
    | 80, 2 => true
    | 81, 2 => true
    | 82, 4 => true
    | 83, 4 => true
    | 84, 4 => true
    | 85, 0 => true
    | 86, 0 => true
    | 87, 4 => true
    | 88, 4 => true
    | 89, 0 => true
    | 90, 0 => true
    | 91, 4 => true
    | 91, 5 => true
    | 92, 4 => true
    | 93, 4 => true
    | 94, 4 => true
    | 95, 6 => true
    | 96, 4 => true
    | 97, 4 => true
    | 98, 4 => true
    | 99, 4 => true
    | _, _ => false
  live := fun f i => match f, i with
    | 3, 7 => some [2, 4, 5, 6, 7, 8, 9, 20, 21, 23, 24, 31, 69]
    | 4, 5 => some [3, 4, 5, 6, 21, 28, 30, 31, 147]
    | 4, 14 => some [2, 5, 6, 28, 38, 147]
    | 4, 20 => some [5, 6, 9, 10, 11, 12, 28, 38, 70, 72, 73, 79, 80, 81, 147]
    | 4, 25 => some [2, 5, 6, 9, 10, 11, 12, 28, 38, 70, 72, 73, 89, 147]
    | 4, 28 => some [2, 6, 38, 147]
    | 4, 31 => some [2, 6, 15, 16, 38, 106, 108, 109, 111, 112, 113, 147]
    | 5, 4 => some [2, 4, 5, 6, 7, 8, 9, 15, 22, 26, 27, 65]
    | 5, 7 => some [2, 7, 8, 9, 10, 22, 26, 27, 53, 65]
    | 6, 5 => some [3, 4, 5, 24, 26, 27, 149]
    | 6, 13 => some [2, 3, 4, 5, 24, 34, 43, 149]
    | 6, 20 => some [2, 5, 7, 8, 9, 10, 11, 12, 13, 14, 15, 16, 17, 45, 55, 57, 58, 60, 63, 64, 66, 70, 71, 76, 149]
    | 6, 21 => some [2, 5, 7, 8, 9, 10, 11, 12, 13, 14, 15, 16, 17, 18, 45, 55, 57, 58, 60, 63, 64, 66, 70, 71, 76, 149]
    | 6, 22 => some [2, 5, 7, 8, 9, 10, 11, 12, 13, 14, 15, 16, 17, 18, 19, 45, 55, 57, 58, 60, 63, 64, 66, 70, 71, 76, 149]
    | 6, 25 => some [2, 5, 7, 9, 10, 11, 12, 13, 14, 15, 16, 17, 18, 19, 20, 45, 55, 57, 58, 60, 63, 64, 66, 70, 71, 76, 111, 149]
    | 6, 28 => some [2, 5, 11, 12, 13, 14, 15, 16, 17, 18, 19, 20, 21, 55, 57, 58, 60, 63, 64, 66, 70, 71, 76, 111, 117, 149]
    | 8, 4 => some [2, 4, 5, 6, 24, 101]
    | 8, 7 => some [2, 4, 5, 6, 7, 8, 11, 24, 31, 34, 35, 101]
    | 8, 10 => some [2, 6, 7, 8, 11, 12, 24, 31, 34, 35, 56, 59, 60, 101]
    | 8, 13 => some [2, 6, 24, 101]
    | 10, 3 => some [0, 2, 3, 6, 11, 18, 19, 20]
    | 11, 7 => some [1, 2, 3, 5, 33, 34]
    | 12, 1 => some [1, 2, 3, 31]
    | 13, 3 => some [1, 2, 3, 10, 53, 54]
    | 13, 5 => some [1, 3, 10, 27, 28, 29, 54]
    | 13, 10 => some [1, 3, 5, 6, 10, 27, 28, 29, 54]
    | 14, 3 => some [0, 2, 3, 41]
    | 15, 3 => some [0, 2, 3, 45]
    | 16, 1 => some [1, 2, 3, 31]
    | 17, 5 => some [0, 1, 4, 12, 13, 26, 27]
    | 22, 3 => some [0, 5, 8, 9, 34, 35]
    | 22, 8 => some [0, 5, 16, 24, 34, 35]
    | 23, 6 => some [2, 3, 4, 5, 45]
    | 23, 9 => some [4, 5, 6, 45]
    | 26, 3 => some [2, 3, 4, 32]
    | 26, 6 => some [3, 4, 5, 32]
    | 27, 7 => some [0, 5, 15, 16, 17, 18, 33]
    | 29, 5 => some [0, 2, 8, 9, 10, 18]
    | 30, 6 => some [0, 4, 12, 13, 14, 15, 27]
    | 33, 2 => some [0, 5, 9, 16, 56, 57]
    | 34, 7 => some [0, 1, 2, 6, 7, 9, 33, 125, 126, 127, 128]
    | 34, 11 => some [0, 1, 9, 10, 33, 36, 37, 38, 39, 126, 127, 128]
    | 34, 19 => some [0, 1, 9, 10, 12, 13, 33, 36, 37, 38, 39, 64, 65, 66, 67, 68, 126, 127, 128]
    | 34, 24 => some [0, 1, 9, 10, 12, 13, 15, 16, 33, 36, 37, 38, 39, 64, 65, 66, 67, 68, 90, 126, 127, 128]
    | 34, 29 => some [9, 10, 33, 36, 102, 103, 126, 127, 128]
    | 34, 33 => some [9, 10, 17, 33, 36, 102, 103, 114, 126, 127, 128]
    | 35, 2 => some [0, 2, 5, 6, 7, 15]
    | 36, 5 => some [0, 2, 9, 10, 11, 51]
    | 36, 16 => some [0, 2, 4, 9, 10, 11, 26, 51]
    | 37, 4 => some [0, 1, 7, 8, 18, 21, 22, 23, 24, 112, 113, 114]
    | 37, 12 => some [0, 1, 7, 8, 10, 11, 18, 21, 22, 23, 24, 49, 50, 51, 52, 53, 112, 113, 114]
    | 37, 17 => some [0, 1, 7, 8, 10, 11, 13, 14, 18, 21, 22, 23, 24, 49, 50, 51, 52, 53, 72, 112, 113, 114]
    | 37, 25 => some [7, 8, 18, 21, 88, 89, 112, 113, 114]
    | 37, 29 => some [7, 8, 15, 18, 21, 88, 89, 100, 112, 113, 114]
    | 38, 5 => some [0, 1, 4, 12, 13, 26, 27]
    | 40, 6 => some [0, 2, 3, 4, 17, 18, 19, 72]
    | 40, 18 => some [0, 8, 34, 35, 36, 37, 72]
    | 40, 23 => some [0, 8, 10, 34, 35, 36, 37, 39, 40, 41, 42, 43, 72]
    | 40, 31 => some [8, 34, 58, 59, 72]
    | 41, 10 => some [0, 1, 7, 20, 21, 22, 23, 38, 39]
    | 42, 7 => some [0, 1, 2, 6, 7, 9, 55, 59, 60, 61, 62]
    | 42, 11 => some [0, 1, 2, 9, 10, 27, 28, 60, 61, 62]
    | 42, 16 => some [0, 1, 2, 9, 10, 11, 27, 28, 55, 60, 61, 62]
    | 43, 3 => some [0, 3, 9, 10, 11, 54]
    | 43, 7 => some [0, 3, 5, 9, 10, 11, 13, 14, 54]
    | 43, 12 => some [0, 3, 5, 9, 10, 11, 13, 14, 22, 23, 24, 25, 54]
    | 43, 20 => some [3, 22, 40, 41, 54]
    | 44, 3 => some [0, 1, 5, 8, 9, 10, 24, 25]
    | 45, 4 => some [0, 1, 2, 7, 8, 12, 13, 45, 46, 47]
    | 45, 9 => some [0, 1, 2, 7, 8, 9, 12, 13, 40, 45, 46, 47]
    | 46, 5 => some [0, 1, 4, 12, 13, 26, 27]
    | 48, 13 => some [0, 2, 5, 6, 7, 8, 9, 25, 32, 33, 34, 35, 123]
    | 48, 19 => some [0, 2, 5, 6, 7, 8, 9, 11, 25, 32, 33, 34, 35, 123]
    | 48, 26 => some [0, 2, 5, 12, 123]
    | 49, 5 => some [0, 2, 9, 10, 11, 49]
    | 49, 18 => some [0, 2, 4, 9, 10, 11, 49]
    | 50, 4 => some [0, 3, 4, 13, 14, 15, 88]
    | 50, 13 => some [0, 3, 4, 5, 7, 13, 14, 15, 39, 40, 41, 88]
    | 50, 20 => some [0, 3, 4, 5, 7, 13, 14, 15, 85, 88]
    | 51, 7 => some [0, 2, 3, 4, 10, 22, 23, 24, 112]
    | 51, 17 => some [0, 2, 4, 7, 112]
    | 53, 3 => some [0, 3, 13, 14, 84]
    | 53, 13 => some [0, 3, 6, 7, 13, 14, 68, 69, 84]
    | 54, 10 => some [7, 25, 32, 33, 34, 48, 49]
    | 55, 7 => some [7, 8, 20, 27, 29, 30, 45, 46]
    | 56, 8 => some [0, 5, 6, 7, 8, 71]
    | 56, 16 => some [0, 5, 6, 7, 8, 14, 68, 71]
    | 56, 18 => some [0, 5, 6, 7, 8, 14, 68, 71]
    | 57, 2 => some [0, 3, 82]
    | 57, 6 => some [0, 3, 4, 5, 27, 30, 38, 82]
    | 57, 11 => some [3, 6, 7, 30, 38, 82]
    | 57, 15 => some [3, 6, 7, 8, 30, 38, 82]
    | 57, 19 => some [3, 6, 7, 8, 30, 38, 71, 82]
    | 58, 3 => some [0, 2, 3, 20, 21, 33]
    | 61, 3 => some [0, 4, 5, 8, 10, 11, 64, 65]
    | 62, 2 => some [0, 1, 7, 23, 24, 25]
    | 64, 3 => some [0, 3, 6, 7, 8, 19]
    | 65, 3 => some [0, 3, 6, 7, 8, 19]
    | 71, 5 => some [0, 5, 6, 7, 8, 9, 25, 26, 128, 129]
    | 71, 10 => some [0, 5, 6, 7, 8, 9, 10, 25, 26, 35, 36, 128, 129]
    | 71, 17 => some [0, 5, 6, 7, 8, 9, 10, 25, 26, 66, 70, 83, 128, 129]
    | 71, 20 => some [0, 5, 6, 7, 8, 9, 25, 26, 66, 83, 125, 128, 129]
    | 71, 21 => some [0, 5, 6, 7, 8, 9, 25, 26, 66, 83, 113, 125, 128, 129]
    | 78, 4 => some [0, 3, 4, 8, 9, 10, 35]
    | 78, 10 => some [0, 3, 4, 7, 8, 9, 10, 32, 35]
    | 80, 2 => some [0, 2, 25]
    | 80, 5 => some [0, 3, 4, 25]
    | 81, 2 => some [0, 2, 25]
    | 81, 5 => some [0, 3, 4, 25]
    | 83, 2 => some [0, 1, 4, 7, 8, 19, 20]
    | 84, 3 => some [0, 5, 8, 10, 11, 43, 44]
    | 88, 3 => some [0, 5, 7, 8, 43, 44]
    | 91, 4 => some [0, 1, 6, 7, 12, 13, 14, 62, 63]
    | 91, 13 => some [4, 5, 6, 7, 24, 36, 37, 38, 62, 63]
    | 92, 3 => some [0, 1, 5, 11, 12, 13, 56, 57]
    | 92, 11 => some [4, 5, 8, 22, 28, 29, 30, 56, 57]
    | 94, 2 => some [0, 1, 4, 7, 8, 19, 20]
    | 96, 2 => some [0, 1, 4, 7, 8, 19, 20]
    | 98, 3 => some [0, 1, 5, 6, 10, 11, 12, 42, 43]
    | 99, 3 => some [0, 1, 5, 6, 9, 10, 11, 40, 41]
    | _, _ => none
  len := fun f => match f with
    | 3 => 70
    | 4 => 148
    | 5 => 66
    | 6 => 150
    | 7 => 76
    | 8 => 102
    | 9 => 37
    | 10 => 21
    | 11 => 35
    | 12 => 32
    | 13 => 55
    | 14 => 42
    | 15 => 46
    | 16 => 32
    | 17 => 28
    | 18 => 40
    | 19 => 3
    | 20 => 14
    | 21 => 22
    | 22 => 36
    | 23 => 46
    | 24 => 9
    | 25 => 6
    | 26 => 33
    | 27 => 34
    | 28 => 9
    | 29 => 19
    | 30 => 28
    | 31 => 25
    | 32 => 32
    | 33 => 58
    | 34 => 129
    | 35 => 16
    | 36 => 52
    | 37 => 115
    | 38 => 28
    | 39 => 11
    | 40 => 73
    | 41 => 40
    | 42 => 63
    | 43 => 55
    | 44 => 26
    | 45 => 48
    | 46 => 28
    | 47 => 13
    | 48 => 124
    | 49 => 50
    | 50 => 89
    | 51 => 113
    | 52 => 7
    | 53 => 85
    | 54 => 50
    | 55 => 47
    | 56 => 72
    | 57 => 83
    | 58 => 34
    | 59 => 66
    | 60 => 25
    | 61 => 66
    | 62 => 26
    | 63 => 18
    | 64 => 20
    | 65 => 20
    | 66 => 9
    | 67 => 18
    | 68 => 6
    | 69 => 11
    | 70 => 7
    | 71 => 130
    | 72 => 17
    | 73 => 6
    | 74 => 14
    | 75 => 18
    | 76 => 7
    | 77 => 7
    | 78 => 36
    | 79 => 10
    | 80 => 26
    | 81 => 26
    | 82 => 11
    | 83 => 21
    | 84 => 45
    | 85 => 2
    | 86 => 2
    | 87 => 10
    | 88 => 45
    | 89 => 2
    | 90 => 2
    | 91 => 64
    | 92 => 58
    | 93 => 18
    | 94 => 21
    | 95 => 27
    | 96 => 21
    | 97 => 10
    | 98 => 44
    | 99 => 42
    | _ => 0

end Go.Proofs.Ytjhfbmhblpjigaa.Med
end
section
set_option linter.unusedVariables false
set_option linter.unusedSimpArgs false
namespace Go.Proofs.Ytjhfbmhblpjigaa.Med
open Go Go.Abs Go.Proofs
set_option linter.unusedVariables false
theorem hM : Try.prog.follows .mixedOrders = true := by kernel_rfl
section
set_option maxRecDepth 100000
theorem cl66a (cap : Nat) (R : Type) (k : V → List V → Option R) : runK Try.prog H noT noL 66 [.f (.lit (.slice none 0 cap))] k = k (.own [.int .u8] []) [.undef] := by kernel_rfl
theorem cl66b (a : Addr) (cap : Nat) (R : Type) (k : V → List V → Option R) : runK Try.prog H noT noL 66 [.f (.lit (.slice (some a) 0 cap))] k = k (.own [.int .u8] []) [.undef] := by kernel_rfl
theorem cl66c (r : List F) (rs : Abs.Rows) (R : Type) (k : V → List V → Option R) : runK Try.prog H noT noL 66 [.bor [.int .u8] (r :: rs)] k = bif decide (0 + (r :: rs).length ≤ rowMax) then k (.own [.int .u8] (r :: rs)) [.undef] else none := by kernel_rfl
end
theorem clone66 (rows : Abs.Rows) (h : lenOk rows = true) : FnOk Try.prog 66 [.bor [.int .u8] rows] (.own [.int .u8] rows) [.undef] := by
  refine clone_ok (fun cap => fnOk_runK (tbl := noT) (lt := noL) (H := H) noT_ok hM noL_ok (cl66a cap)) (fun a cap => fnOk_runK (tbl := noT) (lt := noL) (H := H) noT_ok hM noL_ok (cl66b a cap)) (fun r rs hl => fnOk_runK (tbl := noT) (lt := noL) (H := H) noT_ok hM noL_ok fun R k => ?_) rows h
  rw [cl66c r rs R k, show decide (0 + (r :: rs).length ≤ rowMax) = true from by rw [Nat.zero_add]; exact hl]
  rfl
theorem idx100 (s : ByteArray) (c : Int) : FnOk Try.prog 100 [.f (.lit (.string s)), .f (.lit (.int .u8 c))] (vInt .i64 (idxByte s c)) [.undef, .undef] :=
  idx_ok (fn := Try.f100) Try.func100 (by kernel_rfl) (by kernel_rfl) (by kernel_rfl) (by kernel_rfl) s c
def T0 (_ : Nat) : Tbl := addT 100 (brIdx 100 (addT 66 (brClone [.int .u8] 66 noT) noT)) (addT 66 (brClone [.int .u8] 66 noT) noT)
def L0 (_ : Nat) : LTbl := noL
theorem okT0 (m : Nat) : TblOk Try.prog (T0 m) := brIdx_ok (brClone_ok noT_ok clone66) idx100
theorem okL0 (m : Nat) : LTOk Try.prog H (L0 m) := noL_ok
/-- hookflash/flashmake.Below -/
def Fn93 {R : Type} (m : Nat) : Int → Int → (Int → Option R) → Option R := match m with
  | 0 => fun _ _ _ => none
  | m + 1 => fun i9 i10 k =>
  bif decide (i10 < (1 : Int)) then (k ((0 : Int))) else
  (bif decide (i10 ≠ (0 : Int)) then (bif decide (Int.tmod i9 i10 < (0 : Int)) then (k (IntKind.wrap IntKind.i64 (Int.tmod i9 i10 + i10))) else
  (k (Int.tmod i9 i10))) else
  (none))
def brFn93 (m : Nat) (T : Tbl) (R : Type) (vs : List V) (k : V → List V → Option R) : Option R := match vs with
  | [V.f (F.lit (Value.int IntKind.i64 i9)), V.f (F.lit (Value.int IntKind.i64 i10))] => Fn93 m i9 i10 (fun i11 => k (V.f (F.lit (Value.int IntKind.i64 i11))) [V.undef, V.undef])
  | _ => T R 93 vs k
set_option maxRecDepth 100000 in
theorem evFn93 (m : Nat) (R : Type) (i9 : Int) (i10 : Int) (k : V → List V → Option R) : runK Try.prog H (T0 m) (L0 m) 93 [V.f (F.lit (Value.int IntKind.i64 i9)), V.f (F.lit (Value.int IntKind.i64 i10))] k = Fn93 (m + 1) i9 i10 (fun i11 => k (V.f (F.lit (Value.int IntKind.i64 i11))) [V.undef, V.undef]) := by kernel_rfl
def T1 (m : Nat) : Tbl := addT 93 (brFn93 m (T0 m)) (T0 m)
theorem okT1 (m : Nat) : TblOk Try.prog (T1 m) := addT_ok (okT0 m) fun R vs k x h => by
  unfold brFn93 at h
  split at h
  · cases m with
    | zero => cases h
    | succ m => exact runK_some (okT0 m) hM (okL0 m) ((evFn93 m R _ _ k).trans h)
  · exact okT0 m R 93 _ k x h

/-- (*hookflash/flashmake.Stream).Next -/
def Fn59 {R : Type} (m : Nat) : Abs.Rows → Int → Int → (Int → Int → Option R) → Option R := match m with
  | 0 => fun _ _ _ _ => none
  | m + 1 => fun r6 i7 i8 k =>
  bif (↑(List.length r6) : Int) == (0 : Int) then (Fn93 m (IntKind.wrap IntKind.i64 (IntKind.wrap IntKind.i64 (i7 + (1 : Int)) * (7919 : Int))) i8 (fun i12 => k i12 (IntKind.wrap IntKind.i64 (i7 + (1 : Int))))) else
  (bif decide ((↑(List.length r6) : Int) ≠ (0 : Int)) then (bif decide ((↑(List.length r6) : Int) ≠ (0 : Int)) then (bif decide ((0 : Int) ≤ Int.tmod (IntKind.wrap IntKind.i64 (IntKind.wrap IntKind.i64 (i7 + (1 : Int)) - (1 : Int))) (↑(List.length r6) : Int) ∧ Int.tmod (IntKind.wrap IntKind.i64 (IntKind.wrap IntKind.i64 (i7 + (1 : Int)) - (1 : Int))) (↑(List.length r6) : Int) < (↑(List.length r6) : Int)) then (Fn93 m (fI r6 (Int.toNat (Int.tmod (IntKind.wrap IntKind.i64 (IntKind.wrap IntKind.i64 (i7 + (1 : Int)) - (1 : Int))) (↑(List.length r6) : Int))) (0 : Nat)) ((1073741824 : Int)) (fun i13 => Fn93 m (IntKind.wrap IntKind.i64 (i13 + IntKind.wrap IntKind.i64 (IntKind.wrap IntKind.i64 (Int.tdiv (IntKind.wrap IntKind.i64 (IntKind.wrap IntKind.i64 (i7 + (1 : Int)) - (1 : Int))) (↑(List.length r6) : Int)) * IntKind.wrap IntKind.i64 ((7919 : Int) + Int.tmod (IntKind.wrap IntKind.i64 (IntKind.wrap IntKind.i64 (i7 + (1 : Int)) - (1 : Int))) (↑(List.length r6) : Int))))) i8 (fun i14 => letV (IntKind.wrap IntKind.i64 (i13 + IntKind.wrap IntKind.i64 (IntKind.wrap IntKind.i64 (Int.tdiv (IntKind.wrap IntKind.i64 (IntKind.wrap IntKind.i64 (i7 + (1 : Int)) - (1 : Int))) (↑(List.length r6) : Int)) * IntKind.wrap IntKind.i64 ((7919 : Int) + Int.tmod (IntKind.wrap IntKind.i64 (IntKind.wrap IntKind.i64 (i7 + (1 : Int)) - (1 : Int))) (↑(List.length r6) : Int))))) (fun i15 => letV (IntKind.wrap IntKind.i64 (IntKind.wrap IntKind.i64 (Int.tdiv (IntKind.wrap IntKind.i64 (IntKind.wrap IntKind.i64 (i7 + (1 : Int)) - (1 : Int))) (↑(List.length r6) : Int)) * IntKind.wrap IntKind.i64 ((7919 : Int) + Int.tmod (IntKind.wrap IntKind.i64 (IntKind.wrap IntKind.i64 (i7 + (1 : Int)) - (1 : Int))) (↑(List.length r6) : Int)))) (fun i16 => k i14 (IntKind.wrap IntKind.i64 (i7 + (1 : Int)))))))) else
  (none)) else
  (none)) else
  (none))
def brFn59 (m : Nat) (T : Tbl) (R : Type) (vs : List V) (k : V → List V → Option R) : Option R := match vs with
  | [V.obj [V.f (F.lst [LT.int IntKind.i64] r6), V.f (F.lit (Value.int IntKind.i64 i7))], V.f (F.lit (Value.int IntKind.i64 i8))] => Fn59 m r6 i7 i8 (fun i17 i18 => k (V.f (F.lit (Value.int IntKind.i64 i17))) [V.obj [V.f (F.lst [LT.int IntKind.i64] r6), V.f (F.lit (Value.int IntKind.i64 i18))], V.undef])
  | _ => T R 59 vs k
set_option maxRecDepth 100000 in
theorem evFn59 (m : Nat) (R : Type) (r6 : Abs.Rows) (i7 : Int) (i8 : Int) (k : V → List V → Option R) : runK Try.prog H (T1 m) (L0 m) 59 [V.obj [V.f (F.lst [LT.int IntKind.i64] r6), V.f (F.lit (Value.int IntKind.i64 i7))], V.f (F.lit (Value.int IntKind.i64 i8))] k = Fn59 (m + 1) r6 i7 i8 (fun i17 i18 => k (V.f (F.lit (Value.int IntKind.i64 i17))) [V.obj [V.f (F.lst [LT.int IntKind.i64] r6), V.f (F.lit (Value.int IntKind.i64 i18))], V.undef]) := by kernel_rfl
def T2 (m : Nat) : Tbl := addT 59 (brFn59 m (T1 m)) (T1 m)
theorem okT2 (m : Nat) : TblOk Try.prog (T2 m) := addT_ok (okT1 m) fun R vs k x h => by
  unfold brFn59 at h
  split at h
  · cases m with
    | zero => cases h
    | succ m => exact runK_some (okT1 m) hM (okL0 m) ((evFn59 m R _ _ _ k).trans h)
  · exact okT1 m R 59 _ k x h

/-- (*hookflash/flashmake.Stream).Range -/
def Fn21 {R : Type} (m : Nat) : Abs.Rows → Int → Int → Int → (Int → Int → Option R) → Option R := match m with
  | 0 => fun _ _ _ _ _ => none
  | m + 1 => fun r2 i3 i4 i5 k =>
  bif decide (i5 < i4) then (k i4 i3) else
  (Fn59 m r2 i3 (IntKind.wrap IntKind.i64 (IntKind.wrap IntKind.i64 (i5 - i4) + (1 : Int))) (fun i19 i20 => k (IntKind.wrap IntKind.i64 (i4 + i19)) i20))
def brFn21 (m : Nat) (T : Tbl) (R : Type) (vs : List V) (k : V → List V → Option R) : Option R := match vs with
  | [V.obj [V.f (F.lst [LT.int IntKind.i64] r2), V.f (F.lit (Value.int IntKind.i64 i3))], V.f (F.lit (Value.int IntKind.i64 i4)), V.f (F.lit (Value.int IntKind.i64 i5))] => Fn21 m r2 i3 i4 i5 (fun i21 i22 => k (V.f (F.lit (Value.int IntKind.i64 i21))) [V.obj [V.f (F.lst [LT.int IntKind.i64] r2), V.f (F.lit (Value.int IntKind.i64 i22))], V.undef, V.undef])
  | _ => T R 21 vs k
set_option maxRecDepth 100000 in
theorem evFn21 (m : Nat) (R : Type) (r2 : Abs.Rows) (i3 : Int) (i4 : Int) (i5 : Int) (k : V → List V → Option R) : runK Try.prog H (T2 m) (L0 m) 21 [V.obj [V.f (F.lst [LT.int IntKind.i64] r2), V.f (F.lit (Value.int IntKind.i64 i3))], V.f (F.lit (Value.int IntKind.i64 i4)), V.f (F.lit (Value.int IntKind.i64 i5))] k = Fn21 (m + 1) r2 i3 i4 i5 (fun i21 i22 => k (V.f (F.lit (Value.int IntKind.i64 i21))) [V.obj [V.f (F.lst [LT.int IntKind.i64] r2), V.f (F.lit (Value.int IntKind.i64 i22))], V.undef, V.undef]) := by kernel_rfl
def T3 (m : Nat) : Tbl := addT 21 (brFn21 m (T2 m)) (T2 m)
theorem okT3 (m : Nat) : TblOk Try.prog (T3 m) := addT_ok (okT2 m) fun R vs k x h => by
  unfold brFn21 at h
  split at h
  · cases m with
    | zero => cases h
    | succ m => exact runK_some (okT2 m) hM (okL0 m) ((evFn21 m R _ _ _ _ k).trans h)
  · exact okT2 m R 21 _ k x h

/-- (*hookflash/flashmake.Stream).Pick -/
def Fn20 {R : Type} (m : Nat) : Abs.Rows → Int → Abs.Rows → (Int → Int → Option R) → Option R := match m with
  | 0 => fun _ _ _ _ => none
  | m + 1 => fun r25 i26 r27 k =>
  Fn59 m r25 i26 ((↑(List.length r27) : Int)) (fun i28 i29 => bif decide ((0 : Int) ≤ i28 ∧ i28 < (↑(List.length r27) : Int)) then (k (fI r27 (Int.toNat i28) (0 : Nat)) i29) else
  (none))
def brFn20 (m : Nat) (T : Tbl) (R : Type) (vs : List V) (k : V → List V → Option R) : Option R := match vs with
  | [V.obj [V.f (F.lst [LT.int IntKind.i64] r25), V.f (F.lit (Value.int IntKind.i64 i26))], V.bor [LT.int IntKind.i64] r27] => Fn20 m r25 i26 r27 (fun i30 i31 => k (V.f (F.lit (Value.int IntKind.i64 i30))) [V.obj [V.f (F.lst [LT.int IntKind.i64] r25), V.f (F.lit (Value.int IntKind.i64 i31))], V.undef])
  | _ => T R 20 vs k
set_option maxRecDepth 100000 in
theorem evFn20 (m : Nat) (R : Type) (r25 : Abs.Rows) (i26 : Int) (r27 : Abs.Rows) (k : V → List V → Option R) : runK Try.prog H (T3 m) (L0 m) 20 [V.obj [V.f (F.lst [LT.int IntKind.i64] r25), V.f (F.lit (Value.int IntKind.i64 i26))], V.bor [LT.int IntKind.i64] r27] k = Fn20 (m + 1) r25 i26 r27 (fun i30 i31 => k (V.f (F.lit (Value.int IntKind.i64 i30))) [V.obj [V.f (F.lst [LT.int IntKind.i64] r25), V.f (F.lit (Value.int IntKind.i64 i31))], V.undef]) := by kernel_rfl
def T4 (m : Nat) : Tbl := addT 20 (brFn20 m (T3 m)) (T3 m)
theorem okT4 (m : Nat) : TblOk Try.prog (T4 m) := addT_ok (okT3 m) fun R vs k x h => by
  unfold brFn20 at h
  split at h
  · cases m with
    | zero => cases h
    | succ m => exact runK_some (okT3 m) hM (okL0 m) ((evFn20 m R _ _ _ k).trans h)
  · exact okT3 m R 20 _ k x h

/-- a round of a loop of (*hookflash/flashmake.Stream).Sound -/
def Lp22_3_step {R : Type} (m : Nat) (kx0 : Abs.Rows → Int → Int → Option R) (i40 : Int) (r42 : Abs.Rows) (REC : Abs.Rows → Int → Int → Option R) (r39 : Abs.Rows) (i41 : Int) (i43 : Int) : Option R :=
  bif decide (i41 < i40) then (Fn20 m r42 i43 ([[F.lit (Value.int IntKind.i64 (0 : Int))], [F.lit (Value.int IntKind.i64 (0 : Int))], [F.lit (Value.int IntKind.i64 (1 : Int))], [F.lit (Value.int IntKind.i64 (-1 : Int))], [F.lit (Value.int IntKind.i64 (5 : Int))], [F.lit (Value.int IntKind.i64 (-7 : Int))], [F.lit (Value.int IntKind.i64 (100 : Int))], [F.lit (Value.int IntKind.i64 (-300 : Int))], [F.lit (Value.int IntKind.i64 (4000 : Int))], [F.lit (Value.int IntKind.i64 (-9000 : Int))], [F.lit (Value.int IntKind.i64 (32767 : Int))], [F.lit (Value.int IntKind.i64 (-32768 : Int))]]) (fun i44 i45 => bif decide (List.length r39 + List.length [[F.lit (Value.int IntKind.i64 i44)]] ≤ rowMax) then (letV (r39 ++ [[F.lit (Value.int IntKind.i64 i44)]]) (fun r46 => REC r46 (IntKind.wrap IntKind.i64 (i41 + (1 : Int))) i45)) else
  (none))) else
  (kx0 r39 i41 i43)
def Lp22_3 {R : Type} (m : Nat) (kx0 : Abs.Rows → Int → Int → Option R) (i40 : Int) (r42 : Abs.Rows) : Nat → Abs.Rows → Int → Int → Option R
  | 0, _, _, _ => none
  | n + 1, r39, i41, i43 => Lp22_3_step m kx0 i40 r42 (Lp22_3 m kx0 i40 r42 n) r39 i41 i43
def ELp22_3 (m : Nat) (R : Type) : Nat → List V → (Ex → List V → Option R) → Option R
  | 0, _, _ => none
  | n + 1, vs, k => match vs with
    | [V.ref (34 : Nat) (0 : Nat), V.own [LT.int IntKind.i64] r39, V.f (F.lit (Value.int IntKind.i64 i40)), V.f (F.lit (Value.int IntKind.i64 i41)), V.obj [V.f (F.lst [LT.int IntKind.i64] r42), V.f (F.lit (Value.int IntKind.i64 i43))], V.undef] => Lp22_3_step m (fun r47 i48 i49 => k (Ex.exit (0 : Nat)) [V.ref (34 : Nat) (0 : Nat), V.own [LT.int IntKind.i64] r47, V.f (F.lit (Value.int IntKind.i64 i40)), V.f (F.lit (Value.int IntKind.i64 i48)), V.obj [V.f (F.lst [LT.int IntKind.i64] r42), V.f (F.lit (Value.int IntKind.i64 i49))], V.undef]) i40 r42 (fun r39 i41 i43 => ELp22_3 m R n [V.ref (34 : Nat) (0 : Nat), V.own [LT.int IntKind.i64] r39, V.f (F.lit (Value.int IntKind.i64 i40)), V.f (F.lit (Value.int IntKind.i64 i41)), V.obj [V.f (F.lst [LT.int IntKind.i64] r42), V.f (F.lit (Value.int IntKind.i64 i43))], V.undef] k) r39 i41 i43
    | _ => none
def brLp22_3 (m : Nat) (L : LTbl) (R : Type) (vs : List V) (k : Ex → List V → Option R) : Option R := match vs with
  | [V.ref (34 : Nat) (0 : Nat), V.own [LT.int IntKind.i64] r39, V.f (F.lit (Value.int IntKind.i64 i40)), V.f (F.lit (Value.int IntKind.i64 i41)), V.obj [V.f (F.lst [LT.int IntKind.i64] r42), V.f (F.lit (Value.int IntKind.i64 i43))], V.undef] => Lp22_3 m (fun r47 i48 i49 => k (Ex.exit (0 : Nat)) [V.ref (34 : Nat) (0 : Nat), V.own [LT.int IntKind.i64] r47, V.f (F.lit (Value.int IntKind.i64 i40)), V.f (F.lit (Value.int IntKind.i64 i48)), V.obj [V.f (F.lst [LT.int IntKind.i64] r42), V.f (F.lit (Value.int IntKind.i64 i49))], V.undef]) i40 r42 m r39 i41 i43
  | _ => L R 22 3 vs k
set_option maxRecDepth 100000 in
theorem stLp22_3 (m n : Nat) (R : Type) (r39 : Abs.Rows) (i40 : Int) (i41 : Int) (r42 : Abs.Rows) (i43 : Int) (k : Ex → List V → Option R) : codeK Try.prog H (T4 m) 22 (L0 m) 4 (loopBody Try.prog 22 3) (mkEnv [0, 5, 8, 9, 34, 35] [V.ref (34 : Nat) (0 : Nat), V.own [LT.int IntKind.i64] r39, V.f (F.lit (Value.int IntKind.i64 i40)), V.f (F.lit (Value.int IntKind.i64 i41)), V.obj [V.f (F.lst [LT.int IntKind.i64] r42), V.f (F.lit (Value.int IntKind.i64 i43))], V.undef] 0 (H.len 22)) (fun e env' => match e with | .normal => ELp22_3 m R n (vals [0, 5, 8, 9, 34, 35] env') k | e => k e (vals [0, 5, 8, 9, 34, 35] env')) = Lp22_3_step m (fun r47 i48 i49 => k (Ex.exit (0 : Nat)) [V.ref (34 : Nat) (0 : Nat), V.own [LT.int IntKind.i64] r47, V.f (F.lit (Value.int IntKind.i64 i40)), V.f (F.lit (Value.int IntKind.i64 i48)), V.obj [V.f (F.lst [LT.int IntKind.i64] r42), V.f (F.lit (Value.int IntKind.i64 i49))], V.undef]) i40 r42 (fun r39 i41 i43 => ELp22_3 m R n [V.ref (34 : Nat) (0 : Nat), V.own [LT.int IntKind.i64] r39, V.f (F.lit (Value.int IntKind.i64 i40)), V.f (F.lit (Value.int IntKind.i64 i41)), V.obj [V.f (F.lst [LT.int IntKind.i64] r42), V.f (F.lit (Value.int IntKind.i64 i43))], V.undef] k) r39 i41 i43 := by kernel_rfl
theorem eqLp22_3 (m : Nat) (R : Type) (i40 : Int) (r42 : Abs.Rows) (k : Ex → List V → Option R) : ∀ (n : Nat) (r39 : Abs.Rows) (i41 : Int) (i43 : Int), ELp22_3 m R n [V.ref (34 : Nat) (0 : Nat), V.own [LT.int IntKind.i64] r39, V.f (F.lit (Value.int IntKind.i64 i40)), V.f (F.lit (Value.int IntKind.i64 i41)), V.obj [V.f (F.lst [LT.int IntKind.i64] r42), V.f (F.lit (Value.int IntKind.i64 i43))], V.undef] k = Lp22_3 m (fun r47 i48 i49 => k (Ex.exit (0 : Nat)) [V.ref (34 : Nat) (0 : Nat), V.own [LT.int IntKind.i64] r47, V.f (F.lit (Value.int IntKind.i64 i40)), V.f (F.lit (Value.int IntKind.i64 i48)), V.obj [V.f (F.lst [LT.int IntKind.i64] r42), V.f (F.lit (Value.int IntKind.i64 i49))], V.undef]) i40 r42 n r39 i41 i43
  | 0, _, _, _ => rfl
  | n + 1, r39, i41, i43 => by
    simp only [ELp22_3, Lp22_3]
    congr 1
    funext r39 i41 i43
    exact eqLp22_3 m R i40 r42 k n r39 i41 i43
def L1 (m : Nat) : LTbl := addB 22 3 (brLp22_3 m (L0 m)) (L0 m)
theorem okL1 (m : Nat) : LTOk Try.prog H (L1 m) := addB_ok (okT4 m) hM (okL0 m) (l := [0, 5, 8, 9, 34, 35]) (by kernel_rfl) (by kernel_rfl) m (fun R n vs k => ELp22_3 m R n vs k) (fun R vs k => rfl) (fun R n vs k x h => by
      simp only [ELp22_3] at h
      split at h
      · exact (stLp22_3 m n R _ _ _ _ _ k).trans h
      · cases h) fun R vs k x h => by
    unfold brLp22_3 at h
    split at h
    · exact .inl ((eqLp22_3 m R _ _ k m _ _ _).trans h)
    · exact .inr h

/-- (*hookflash/flashmake.Stream).Flip -/
def Fn39 {R : Type} (m : Nat) : Abs.Rows → Int → Int → (Bool → Int → Option R) → Option R := match m with
  | 0 => fun _ _ _ _ => none
  | m + 1 => fun r53 i54 i55 k =>
  Fn59 m r53 i54 i55 (fun i56 i57 => k (i56 == (0 : Int)) i57)
def brFn39 (m : Nat) (T : Tbl) (R : Type) (vs : List V) (k : V → List V → Option R) : Option R := match vs with
  | [V.obj [V.f (F.lst [LT.int IntKind.i64] r53), V.f (F.lit (Value.int IntKind.i64 i54))], V.f (F.lit (Value.int IntKind.i64 i55))] => Fn39 m r53 i54 i55 (fun b58 i59 => k (V.f (F.lit (Value.bool b58))) [V.obj [V.f (F.lst [LT.int IntKind.i64] r53), V.f (F.lit (Value.int IntKind.i64 i59))], V.undef])
  | _ => T R 39 vs k
set_option maxRecDepth 100000 in
theorem evFn39 (m : Nat) (R : Type) (r53 : Abs.Rows) (i54 : Int) (i55 : Int) (k : V → List V → Option R) : runK Try.prog H (T4 m) (L1 m) 39 [V.obj [V.f (F.lst [LT.int IntKind.i64] r53), V.f (F.lit (Value.int IntKind.i64 i54))], V.f (F.lit (Value.int IntKind.i64 i55))] k = Fn39 (m + 1) r53 i54 i55 (fun b58 i59 => k (V.f (F.lit (Value.bool b58))) [V.obj [V.f (F.lst [LT.int IntKind.i64] r53), V.f (F.lit (Value.int IntKind.i64 i59))], V.undef]) := by kernel_rfl
def T5 (m : Nat) : Tbl := addT 39 (brFn39 m (T4 m)) (T4 m)
theorem okT5 (m : Nat) : TblOk Try.prog (T5 m) := addT_ok (okT4 m) fun R vs k x h => by
  unfold brFn39 at h
  split at h
  · cases m with
    | zero => cases h
    | succ m => exact runK_some (okT4 m) hM (okL1 m) ((evFn39 m R _ _ _ k).trans h)
  · exact okT4 m R 39 _ k x h

/-- (*hookflash/flashmake.Stream).Odd -/
def Fn60 {R : Type} (m : Nat) : Abs.Rows → Int → Int → Int → (Int → Int → Option R) → Option R := match m with
  | 0 => fun _ _ _ _ _ => none
  | m + 1 => fun r68 i69 i70 i71 k =>
  Fn39 m r68 i69 ((12 : Int)) (fun b72 i73 => bif b72 then (Fn20 m r68 i73 ([[F.lit (Value.int IntKind.i64 (IntKind.wrap IntKind.i64 (i70 - (1 : Int))))], [F.lit (Value.int IntKind.i64 (IntKind.wrap IntKind.i64 (i71 + (1 : Int))))], [F.lit (Value.int IntKind.i64 i70)], [F.lit (Value.int IntKind.i64 i71)], [F.lit (Value.int IntKind.i64 (-1099511627776 : Int))], [F.lit (Value.int IntKind.i64 (1099511627776 : Int))]]) (fun i74 i75 => k i74 i75)) else
  (Fn21 m r68 i73 i70 i71 (fun i76 i77 => k i76 i77)))
def brFn60 (m : Nat) (T : Tbl) (R : Type) (vs : List V) (k : V → List V → Option R) : Option R := match vs with
  | [V.obj [V.f (F.lst [LT.int IntKind.i64] r68), V.f (F.lit (Value.int IntKind.i64 i69))], V.f (F.lit (Value.int IntKind.i64 i70)), V.f (F.lit (Value.int IntKind.i64 i71))] => Fn60 m r68 i69 i70 i71 (fun i78 i79 => k (V.f (F.lit (Value.int IntKind.i64 i78))) [V.obj [V.f (F.lst [LT.int IntKind.i64] r68), V.f (F.lit (Value.int IntKind.i64 i79))], V.undef, V.undef])
  | _ => T R 60 vs k
set_option maxRecDepth 100000 in
theorem evFn60 (m : Nat) (R : Type) (r68 : Abs.Rows) (i69 : Int) (i70 : Int) (i71 : Int) (k : V → List V → Option R) : runK Try.prog H (T5 m) (L1 m) 60 [V.obj [V.f (F.lst [LT.int IntKind.i64] r68), V.f (F.lit (Value.int IntKind.i64 i69))], V.f (F.lit (Value.int IntKind.i64 i70)), V.f (F.lit (Value.int IntKind.i64 i71))] k = Fn60 (m + 1) r68 i69 i70 i71 (fun i78 i79 => k (V.f (F.lit (Value.int IntKind.i64 i78))) [V.obj [V.f (F.lst [LT.int IntKind.i64] r68), V.f (F.lit (Value.int IntKind.i64 i79))], V.undef, V.undef]) := by kernel_rfl
def T6 (m : Nat) : Tbl := addT 60 (brFn60 m (T5 m)) (T5 m)
theorem okT6 (m : Nat) : TblOk Try.prog (T6 m) := addT_ok (okT5 m) fun R vs k x h => by
  unfold brFn60 at h
  split at h
  · cases m with
    | zero => cases h
    | succ m => exact runK_some (okT5 m) hM (okL1 m) ((evFn60 m R _ _ _ _ k).trans h)
  · exact okT5 m R 60 _ k x h

/-- a rest of (*hookflash/flashmake.Stream).Sound -/
def Jn22_8 {R : Type} (m : Nat) (kx0 : Abs.Rows → Bool → Int → Option R) (r62 : Abs.Rows) (b63 : Bool) (r64 : Abs.Rows) (i65 : Int) : Option R :=
  bif b63 then (Fn59 m r64 i65 ((↑(List.length r62) : Int)) (fun i66 i67 => Fn60 m r64 i67 ((-32768 : Int)) ((32767 : Int)) (fun i80 i81 => bif decide ((0 : Int) ≤ i66 ∧ i66 < (↑(List.length r62) : Int)) then (kx0 (stR [LT.int IntKind.i64] r62 (Int.toNat i66) (0 : Nat) [F.lit (Value.int IntKind.i64 i80)]) true i81) else
  (none)))) else
  (kx0 r62 false i65)
def brJn22_8 (m : Nat) (L : LTbl) (R : Type) (vs : List V) (k : Ex → List V → Option R) : Option R := match vs with
  | [V.ref (34 : Nat) (0 : Nat), V.own [LT.int IntKind.i64] r62, V.undef, V.f (F.lit (Value.bool b63)), V.obj [V.f (F.lst [LT.int IntKind.i64] r64), V.f (F.lit (Value.int IntKind.i64 i65))], V.undef] => Jn22_8 m (fun r82 b83 i84 => k Ex.normal [V.ref (34 : Nat) (0 : Nat), V.own [LT.int IntKind.i64] r82, V.undef, V.f (F.lit (Value.bool b83)), V.obj [V.f (F.lst [LT.int IntKind.i64] r64), V.f (F.lit (Value.int IntKind.i64 i84))], V.undef]) r62 b63 r64 i65
  | _ => L R 22 8 vs k
set_option maxRecDepth 100000 in
theorem evJn22_8 (m : Nat) (R : Type) (r62 : Abs.Rows) (b63 : Bool) (r64 : Abs.Rows) (i65 : Int) (k : Ex → List V → Option R) : codeK Try.prog H (T6 m) 22 (L1 m) 9 (loopBody Try.prog 22 8) (mkEnv [0, 5, 16, 24, 34, 35] [V.ref (34 : Nat) (0 : Nat), V.own [LT.int IntKind.i64] r62, V.undef, V.f (F.lit (Value.bool b63)), V.obj [V.f (F.lst [LT.int IntKind.i64] r64), V.f (F.lit (Value.int IntKind.i64 i65))], V.undef] 0 (H.len 22)) (fun e env' => k e (vals [0, 5, 16, 24, 34, 35] env')) = Jn22_8 m (fun r82 b83 i84 => k Ex.normal [V.ref (34 : Nat) (0 : Nat), V.own [LT.int IntKind.i64] r82, V.undef, V.f (F.lit (Value.bool b83)), V.obj [V.f (F.lst [LT.int IntKind.i64] r64), V.f (F.lit (Value.int IntKind.i64 i84))], V.undef]) r62 b63 r64 i65 := by kernel_rfl
def L2 (m : Nat) : LTbl := addJ 22 8 (brJn22_8 m (L1 m)) (L1 m)
theorem okL2 (m : Nat) : LTOk Try.prog H (L2 m) := addJ_ok (okT6 m) hM (okL1 m) (l := [0, 5, 16, 24, 34, 35]) (by kernel_rfl) (by kernel_rfl) fun R vs k x h => by
    unfold brJn22_8 at h
    split at h
    · exact .inl ((evJn22_8 m R _ _ _ _ k).trans h)
    · exact .inr h

/-- (*hookflash/flashmake.Stream).Sound -/
def Fn22 {R : Type} (m : Nat) : Abs.Rows → Int → Int → (Abs.Rows → Int → Option R) → Option R := match m with
  | 0 => fun _ _ _ _ => none
  | m + 1 => fun r34 i35 i36 k =>
  Fn21 m r34 i35 ((0 : Int)) i36 (fun i37 i38 => Lp22_3 m (fun r50 i51 i52 => bif decide ((↑(List.length r50) : Int) > (0 : Int)) then (Fn39 m r34 i52 ((25 : Int)) (fun b60 i61 => Jn22_8 m (fun r85 b86 i87 => k r85 i87) r50 b60 r34 i61)) else
  (Jn22_8 m (fun r88 b89 i90 => k r88 i90) r50 false r34 i52)) i37 r34 m rows0 ((0 : Int)) i38)
def brFn22 (m : Nat) (T : Tbl) (R : Type) (vs : List V) (k : V → List V → Option R) : Option R := match vs with
  | [V.obj [V.f (F.lst [LT.int IntKind.i64] r34), V.f (F.lit (Value.int IntKind.i64 i35))], V.f (F.lit (Value.int IntKind.i64 i36))] => Fn22 m r34 i35 i36 (fun r91 i92 => k (V.own [LT.int IntKind.i64] r91) [V.obj [V.f (F.lst [LT.int IntKind.i64] r34), V.f (F.lit (Value.int IntKind.i64 i92))], V.undef])
  | _ => T R 22 vs k
set_option maxRecDepth 100000 in
theorem evFn22 (m : Nat) (R : Type) (r34 : Abs.Rows) (i35 : Int) (i36 : Int) (k : V → List V → Option R) : runK Try.prog H (T6 m) (L2 m) 22 [V.obj [V.f (F.lst [LT.int IntKind.i64] r34), V.f (F.lit (Value.int IntKind.i64 i35))], V.f (F.lit (Value.int IntKind.i64 i36))] k = Fn22 (m + 1) r34 i35 i36 (fun r91 i92 => k (V.own [LT.int IntKind.i64] r91) [V.obj [V.f (F.lst [LT.int IntKind.i64] r34), V.f (F.lit (Value.int IntKind.i64 i92))], V.undef]) := by kernel_rfl
def T7 (m : Nat) : Tbl := addT 22 (brFn22 m (T6 m)) (T6 m)
theorem okT7 (m : Nat) : TblOk Try.prog (T7 m) := addT_ok (okT6 m) fun R vs k x h => by
  unfold brFn22 at h
  split at h
  · cases m with
    | zero => cases h
    | succ m => exact runK_some (okT6 m) hM (okL2 m) ((evFn22 m R _ _ _ k).trans h)
  · exact okT6 m R 22 _ k x h

/-- a round of a loop of hookflash/flashlaw2.SamplesCompress -/
def Lp4_5_step {R : Type} (m : Nat) (kx0 : Int → Abs.Rows → Int → Option R) (r97 : Abs.Rows) (i99 : Int) (r100 : Abs.Rows) (i102 : Int) (REC : Int → Abs.Rows → Int → Option R) (i98 : Int) (r101 : Abs.Rows) (i103 : Int) : Option R :=
  bif decide (i103 < i102) then (Fn21 m r97 i98 ((0 : Int)) ((255 : Int)) (fun i104 i105 => bif decide (List.length r101 + List.length [[F.lit (Value.int IntKind.u8 (IntKind.wrap IntKind.u8 i104))]] ≤ rowMax) then (letV (r101 ++ [[F.lit (Value.int IntKind.u8 (IntKind.wrap IntKind.u8 i104))]]) (fun r106 => REC i105 r106 (IntKind.wrap IntKind.i64 (i103 + (1 : Int))))) else
  (none))) else
  (kx0 i98 r101 i103)
def Lp4_5 {R : Type} (m : Nat) (kx0 : Int → Abs.Rows → Int → Option R) (r97 : Abs.Rows) (i99 : Int) (r100 : Abs.Rows) (i102 : Int) : Nat → Int → Abs.Rows → Int → Option R
  | 0, _, _, _ => none
  | n + 1, i98, r101, i103 => Lp4_5_step m kx0 r97 i99 r100 i102 (Lp4_5 m kx0 r97 i99 r100 i102 n) i98 r101 i103
def ELp4_5 (m : Nat) (R : Type) : Nat → List V → (Ex → List V → Option R) → Option R
  | 0, _, _ => none
  | n + 1, vs, k => match vs with
    | [V.obj [V.f (F.lst [LT.int IntKind.i64] r97), V.f (F.lit (Value.int IntKind.i64 i98))], V.f (F.lit (Value.int IntKind.i64 i99)), V.own [LT.int IntKind.i64] r100, V.own [LT.int IntKind.u8] r101, V.undef, V.undef, V.f (F.lit (Value.int IntKind.i64 i102)), V.f (F.lit (Value.int IntKind.i64 i103)), V.undef] => Lp4_5_step m (fun i107 r108 i109 => k (Ex.exit (0 : Nat)) [V.obj [V.f (F.lst [LT.int IntKind.i64] r97), V.f (F.lit (Value.int IntKind.i64 i107))], V.f (F.lit (Value.int IntKind.i64 i99)), V.own [LT.int IntKind.i64] r100, V.own [LT.int IntKind.u8] r108, V.undef, V.undef, V.f (F.lit (Value.int IntKind.i64 i102)), V.f (F.lit (Value.int IntKind.i64 i109)), V.undef]) r97 i99 r100 i102 (fun i98 r101 i103 => ELp4_5 m R n [V.obj [V.f (F.lst [LT.int IntKind.i64] r97), V.f (F.lit (Value.int IntKind.i64 i98))], V.f (F.lit (Value.int IntKind.i64 i99)), V.own [LT.int IntKind.i64] r100, V.own [LT.int IntKind.u8] r101, V.undef, V.undef, V.f (F.lit (Value.int IntKind.i64 i102)), V.f (F.lit (Value.int IntKind.i64 i103)), V.undef] k) i98 r101 i103
    | _ => none
def brLp4_5 (m : Nat) (L : LTbl) (R : Type) (vs : List V) (k : Ex → List V → Option R) : Option R := match vs with
  | [V.obj [V.f (F.lst [LT.int IntKind.i64] r97), V.f (F.lit (Value.int IntKind.i64 i98))], V.f (F.lit (Value.int IntKind.i64 i99)), V.own [LT.int IntKind.i64] r100, V.own [LT.int IntKind.u8] r101, V.undef, V.undef, V.f (F.lit (Value.int IntKind.i64 i102)), V.f (F.lit (Value.int IntKind.i64 i103)), V.undef] => Lp4_5 m (fun i107 r108 i109 => k (Ex.exit (0 : Nat)) [V.obj [V.f (F.lst [LT.int IntKind.i64] r97), V.f (F.lit (Value.int IntKind.i64 i107))], V.f (F.lit (Value.int IntKind.i64 i99)), V.own [LT.int IntKind.i64] r100, V.own [LT.int IntKind.u8] r108, V.undef, V.undef, V.f (F.lit (Value.int IntKind.i64 i102)), V.f (F.lit (Value.int IntKind.i64 i109)), V.undef]) r97 i99 r100 i102 m i98 r101 i103
  | _ => L R 4 5 vs k
set_option maxRecDepth 100000 in
theorem stLp4_5 (m n : Nat) (R : Type) (r97 : Abs.Rows) (i98 : Int) (i99 : Int) (r100 : Abs.Rows) (r101 : Abs.Rows) (i102 : Int) (i103 : Int) (k : Ex → List V → Option R) : codeK Try.prog H (T7 m) 4 (L2 m) 6 (loopBody Try.prog 4 5) (mkEnv [3, 4, 5, 6, 21, 28, 30, 31, 147] [V.obj [V.f (F.lst [LT.int IntKind.i64] r97), V.f (F.lit (Value.int IntKind.i64 i98))], V.f (F.lit (Value.int IntKind.i64 i99)), V.own [LT.int IntKind.i64] r100, V.own [LT.int IntKind.u8] r101, V.undef, V.undef, V.f (F.lit (Value.int IntKind.i64 i102)), V.f (F.lit (Value.int IntKind.i64 i103)), V.undef] 0 (H.len 4)) (fun e env' => match e with | .normal => ELp4_5 m R n (vals [3, 4, 5, 6, 21, 28, 30, 31, 147] env') k | e => k e (vals [3, 4, 5, 6, 21, 28, 30, 31, 147] env')) = Lp4_5_step m (fun i107 r108 i109 => k (Ex.exit (0 : Nat)) [V.obj [V.f (F.lst [LT.int IntKind.i64] r97), V.f (F.lit (Value.int IntKind.i64 i107))], V.f (F.lit (Value.int IntKind.i64 i99)), V.own [LT.int IntKind.i64] r100, V.own [LT.int IntKind.u8] r108, V.undef, V.undef, V.f (F.lit (Value.int IntKind.i64 i102)), V.f (F.lit (Value.int IntKind.i64 i109)), V.undef]) r97 i99 r100 i102 (fun i98 r101 i103 => ELp4_5 m R n [V.obj [V.f (F.lst [LT.int IntKind.i64] r97), V.f (F.lit (Value.int IntKind.i64 i98))], V.f (F.lit (Value.int IntKind.i64 i99)), V.own [LT.int IntKind.i64] r100, V.own [LT.int IntKind.u8] r101, V.undef, V.undef, V.f (F.lit (Value.int IntKind.i64 i102)), V.f (F.lit (Value.int IntKind.i64 i103)), V.undef] k) i98 r101 i103 := by kernel_rfl
theorem eqLp4_5 (m : Nat) (R : Type) (r97 : Abs.Rows) (i99 : Int) (r100 : Abs.Rows) (i102 : Int) (k : Ex → List V → Option R) : ∀ (n : Nat) (i98 : Int) (r101 : Abs.Rows) (i103 : Int), ELp4_5 m R n [V.obj [V.f (F.lst [LT.int IntKind.i64] r97), V.f (F.lit (Value.int IntKind.i64 i98))], V.f (F.lit (Value.int IntKind.i64 i99)), V.own [LT.int IntKind.i64] r100, V.own [LT.int IntKind.u8] r101, V.undef, V.undef, V.f (F.lit (Value.int IntKind.i64 i102)), V.f (F.lit (Value.int IntKind.i64 i103)), V.undef] k = Lp4_5 m (fun i107 r108 i109 => k (Ex.exit (0 : Nat)) [V.obj [V.f (F.lst [LT.int IntKind.i64] r97), V.f (F.lit (Value.int IntKind.i64 i107))], V.f (F.lit (Value.int IntKind.i64 i99)), V.own [LT.int IntKind.i64] r100, V.own [LT.int IntKind.u8] r108, V.undef, V.undef, V.f (F.lit (Value.int IntKind.i64 i102)), V.f (F.lit (Value.int IntKind.i64 i109)), V.undef]) r97 i99 r100 i102 n i98 r101 i103
  | 0, _, _, _ => rfl
  | n + 1, i98, r101, i103 => by
    simp only [ELp4_5, Lp4_5]
    congr 1
    funext i98 r101 i103
    exact eqLp4_5 m R r97 i99 r100 i102 k n i98 r101 i103
def L3 (m : Nat) : LTbl := addB 4 5 (brLp4_5 m (L2 m)) (L2 m)
theorem okL3 (m : Nat) : LTOk Try.prog H (L3 m) := addB_ok (okT7 m) hM (okL2 m) (l := [3, 4, 5, 6, 21, 28, 30, 31, 147]) (by kernel_rfl) (by kernel_rfl) m (fun R n vs k => ELp4_5 m R n vs k) (fun R vs k => rfl) (fun R n vs k x h => by
      simp only [ELp4_5] at h
      split at h
      · exact (stLp4_5 m n R _ _ _ _ _ _ _ k).trans h
      · cases h) fun R vs k x h => by
    unfold brLp4_5 at h
    split at h
    · exact .inl ((eqLp4_5 m R _ _ _ _ k m _ _ _).trans h)
    · exact .inr h

/-- hookflash/media.within -/
def Fn67 {R : Type} (m : Nat) : Int → Int → Int → (Bool → Option R) → Option R := match m with
  | 0 => fun _ _ _ _ => none
  | m + 1 => fun i115 i116 i117 k =>
  bif decide (i115 ≥ i116) then (k (decide (i115 ≤ i117))) else
  (k false)
def brFn67 (m : Nat) (T : Tbl) (R : Type) (vs : List V) (k : V → List V → Option R) : Option R := match vs with
  | [V.f (F.lit (Value.int IntKind.i64 i115)), V.f (F.lit (Value.int IntKind.i64 i116)), V.f (F.lit (Value.int IntKind.i64 i117))] => Fn67 m i115 i116 i117 (fun b118 => k (V.f (F.lit (Value.bool b118))) [V.undef, V.undef, V.undef])
  | _ => T R 67 vs k
set_option maxRecDepth 100000 in
theorem evFn67 (m : Nat) (R : Type) (i115 : Int) (i116 : Int) (i117 : Int) (k : V → List V → Option R) : runK Try.prog H (T7 m) (L3 m) 67 [V.f (F.lit (Value.int IntKind.i64 i115)), V.f (F.lit (Value.int IntKind.i64 i116)), V.f (F.lit (Value.int IntKind.i64 i117))] k = Fn67 (m + 1) i115 i116 i117 (fun b118 => k (V.f (F.lit (Value.bool b118))) [V.undef, V.undef, V.undef]) := by kernel_rfl
def T8 (m : Nat) : Tbl := addT 67 (brFn67 m (T7 m)) (T7 m)
theorem okT8 (m : Nat) : TblOk Try.prog (T8 m) := addT_ok (okT7 m) fun R vs k x h => by
  unfold brFn67 at h
  split at h
  · cases m with
    | zero => cases h
    | succ m => exact runK_some (okT7 m) hM (okL3 m) ((evFn67 m R _ _ _ k).trans h)
  · exact okT7 m R 67 _ k x h

/-- hookflash/media.isSample -/
def Fn68 {R : Type} (m : Nat) : Int → (Bool → Option R) → Option R := match m with
  | 0 => fun _ _ => none
  | m + 1 => fun i114 k =>
  Fn67 m i114 ((-32768 : Int)) ((32767 : Int)) (fun b119 => k b119)
def brFn68 (m : Nat) (T : Tbl) (R : Type) (vs : List V) (k : V → List V → Option R) : Option R := match vs with
  | [V.f (F.lit (Value.int IntKind.i64 i114))] => Fn68 m i114 (fun b120 => k (V.f (F.lit (Value.bool b120))) [V.undef])
  | _ => T R 68 vs k
set_option maxRecDepth 100000 in
theorem evFn68 (m : Nat) (R : Type) (i114 : Int) (k : V → List V → Option R) : runK Try.prog H (T8 m) (L3 m) 68 [V.f (F.lit (Value.int IntKind.i64 i114))] k = Fn68 (m + 1) i114 (fun b120 => k (V.f (F.lit (Value.bool b120))) [V.undef]) := by kernel_rfl
def T9 (m : Nat) : Tbl := addT 68 (brFn68 m (T8 m)) (T8 m)
theorem okT9 (m : Nat) : TblOk Try.prog (T9 m) := addT_ok (okT8 m) fun R vs k x h => by
  unfold brFn68 at h
  split at h
  · cases m with
    | zero => cases h
    | succ m => exact runK_some (okT8 m) hM (okL3 m) ((evFn68 m R _ k).trans h)
  · exact okT8 m R 68 _ k x h

/-- a round of a loop of hookflash/media.Compress -/
def Lp23_9_step {R : Type} (m : Nat) (kx0 : Int → Option R) (i126 : Int) (i127 : Int) (REC : Int → Option R) (i128 : Int) : Option R :=
  bif decide (i128 < (7 : Int)) then (bif decide ((0 : Int) ≤ IntKind.wrap IntKind.i64 (i128 + (6 : Int))) then (bif decide (IntKind.wrap IntKind.i64 ((1 : Int) * (2 : Int) ^ min (Int.toNat (IntKind.wrap IntKind.i64 (i128 + (6 : Int)))) (64 : Nat)) ≤ i127) then (REC (IntKind.wrap IntKind.i64 (i128 + (1 : Int)))) else
  (kx0 i128)) else
  (none)) else
  (kx0 i128)
def Lp23_9 {R : Type} (m : Nat) (kx0 : Int → Option R) (i126 : Int) (i127 : Int) : Nat → Int → Option R
  | 0, _ => none
  | n + 1, i128 => Lp23_9_step m kx0 i126 i127 (Lp23_9 m kx0 i126 i127 n) i128
def ELp23_9 (m : Nat) (R : Type) : Nat → List V → (Ex → List V → Option R) → Option R
  | 0, _, _ => none
  | n + 1, vs, k => match vs with
    | [V.f (F.lit (Value.int IntKind.i64 i126)), V.f (F.lit (Value.int IntKind.i64 i127)), V.f (F.lit (Value.int IntKind.i64 i128)), V.undef] => Lp23_9_step m (fun i129 => k (Ex.exit (0 : Nat)) [V.f (F.lit (Value.int IntKind.i64 i126)), V.f (F.lit (Value.int IntKind.i64 i127)), V.f (F.lit (Value.int IntKind.i64 i129)), V.undef]) i126 i127 (fun i128 => ELp23_9 m R n [V.f (F.lit (Value.int IntKind.i64 i126)), V.f (F.lit (Value.int IntKind.i64 i127)), V.f (F.lit (Value.int IntKind.i64 i128)), V.undef] k) i128
    | _ => none
def brLp23_9 (m : Nat) (L : LTbl) (R : Type) (vs : List V) (k : Ex → List V → Option R) : Option R := match vs with
  | [V.f (F.lit (Value.int IntKind.i64 i126)), V.f (F.lit (Value.int IntKind.i64 i127)), V.f (F.lit (Value.int IntKind.i64 i128)), V.undef] => Lp23_9 m (fun i129 => k (Ex.exit (0 : Nat)) [V.f (F.lit (Value.int IntKind.i64 i126)), V.f (F.lit (Value.int IntKind.i64 i127)), V.f (F.lit (Value.int IntKind.i64 i129)), V.undef]) i126 i127 m i128
  | _ => L R 23 9 vs k
set_option maxRecDepth 100000 in
theorem stLp23_9 (m n : Nat) (R : Type) (i126 : Int) (i127 : Int) (i128 : Int) (k : Ex → List V → Option R) : codeK Try.prog H (T9 m) 23 (L3 m) 10 (loopBody Try.prog 23 9) (mkEnv [4, 5, 6, 45] [V.f (F.lit (Value.int IntKind.i64 i126)), V.f (F.lit (Value.int IntKind.i64 i127)), V.f (F.lit (Value.int IntKind.i64 i128)), V.undef] 0 (H.len 23)) (fun e env' => match e with | .normal => ELp23_9 m R n (vals [4, 5, 6, 45] env') k | e => k e (vals [4, 5, 6, 45] env')) = Lp23_9_step m (fun i129 => k (Ex.exit (0 : Nat)) [V.f (F.lit (Value.int IntKind.i64 i126)), V.f (F.lit (Value.int IntKind.i64 i127)), V.f (F.lit (Value.int IntKind.i64 i129)), V.undef]) i126 i127 (fun i128 => ELp23_9 m R n [V.f (F.lit (Value.int IntKind.i64 i126)), V.f (F.lit (Value.int IntKind.i64 i127)), V.f (F.lit (Value.int IntKind.i64 i128)), V.undef] k) i128 := by kernel_rfl
theorem eqLp23_9 (m : Nat) (R : Type) (i126 : Int) (i127 : Int) (k : Ex → List V → Option R) : ∀ (n : Nat) (i128 : Int), ELp23_9 m R n [V.f (F.lit (Value.int IntKind.i64 i126)), V.f (F.lit (Value.int IntKind.i64 i127)), V.f (F.lit (Value.int IntKind.i64 i128)), V.undef] k = Lp23_9 m (fun i129 => k (Ex.exit (0 : Nat)) [V.f (F.lit (Value.int IntKind.i64 i126)), V.f (F.lit (Value.int IntKind.i64 i127)), V.f (F.lit (Value.int IntKind.i64 i129)), V.undef]) i126 i127 n i128
  | 0, _ => rfl
  | n + 1, i128 => by
    simp only [ELp23_9, Lp23_9]
    congr 1
    funext i128
    exact eqLp23_9 m R i126 i127 k n i128
def L4 (m : Nat) : LTbl := addB 23 9 (brLp23_9 m (L3 m)) (L3 m)
theorem okL4 (m : Nat) : LTOk Try.prog H (L4 m) := addB_ok (okT9 m) hM (okL3 m) (l := [4, 5, 6, 45]) (by kernel_rfl) (by kernel_rfl) m (fun R n vs k => ELp23_9 m R n vs k) (fun R vs k => rfl) (fun R n vs k x h => by
      simp only [ELp23_9] at h
      split at h
      · exact (stLp23_9 m n R _ _ _ k).trans h
      · cases h) fun R vs k x h => by
    unfold brLp23_9 at h
    split at h
    · exact .inl ((eqLp23_9 m R _ _ k m _).trans h)
    · exact .inr h

/-- a rest of hookflash/media.Compress -/
def Jn23_6 {R : Type} (m : Nat) (kx0 : Int → Int → Int → Option R) (i122 : Int) (i123 : Int) (i124 : Int) (i125 : Int) : Option R :=
  Lp23_9 m (fun i130 => bif decide ((0 : Int) ≤ IntKind.wrap IntKind.i64 (i130 + (1 : Int))) then (kx0 (IntKind.wrap IntKind.u8 (IntKind.wrap IntKind.i64 ((255 : Int) - IntKind.wrap IntKind.i64 (IntKind.wrap IntKind.i64 (i124 + IntKind.wrap IntKind.i64 ((16 : Int) * i130)) + IntKind.wrap IntKind.i64 (Int.fdiv (IntKind.wrap IntKind.i64 ((if (8158 : Int) < IntKind.wrap IntKind.i64 (Int.tdiv i125 (4 : Int)) then (8158 : Int) else IntKind.wrap IntKind.i64 (Int.tdiv i125 (4 : Int))) + (33 : Int))) ((2 : Int) ^ min (Int.toNat (IntKind.wrap IntKind.i64 (i130 + (1 : Int)))) (64 : Nat)) - (16 : Int)))))) ((0 : Int)) (IntKind.wrap IntKind.i64 ((if (8158 : Int) < IntKind.wrap IntKind.i64 (Int.tdiv i125 (4 : Int)) then (8158 : Int) else IntKind.wrap IntKind.i64 (Int.tdiv i125 (4 : Int))) + (33 : Int)))) else
  (none)) i124 (IntKind.wrap IntKind.i64 ((if (8158 : Int) < IntKind.wrap IntKind.i64 (Int.tdiv i125 (4 : Int)) then (8158 : Int) else IntKind.wrap IntKind.i64 (Int.tdiv i125 (4 : Int))) + (33 : Int))) m ((0 : Int))
def brJn23_6 (m : Nat) (L : LTbl) (R : Type) (vs : List V) (k : Ex → List V → Option R) : Option R := match vs with
  | [V.f (F.lit (Value.int IntKind.u8 i122)), V.f (F.lit (Value.int IntKind.i64 i123)), V.f (F.lit (Value.int IntKind.i64 i124)), V.f (F.lit (Value.int IntKind.i64 i125)), V.undef] => Jn23_6 m (fun i131 i132 i133 => k Ex.ret [V.f (F.lit (Value.int IntKind.u8 i131)), V.f (F.lit (Value.int IntKind.i64 i132)), V.f (F.lit (Value.int IntKind.i64 i124)), V.f (F.lit (Value.int IntKind.i64 i133)), V.undef]) i122 i123 i124 i125
  | _ => L R 23 6 vs k
set_option maxRecDepth 100000 in
theorem evJn23_6 (m : Nat) (R : Type) (i122 : Int) (i123 : Int) (i124 : Int) (i125 : Int) (k : Ex → List V → Option R) : codeK Try.prog H (T9 m) 23 (L4 m) 7 (loopBody Try.prog 23 6) (mkEnv [2, 3, 4, 5, 45] [V.f (F.lit (Value.int IntKind.u8 i122)), V.f (F.lit (Value.int IntKind.i64 i123)), V.f (F.lit (Value.int IntKind.i64 i124)), V.f (F.lit (Value.int IntKind.i64 i125)), V.undef] 0 (H.len 23)) (fun e env' => k e (vals [2, 3, 4, 5, 45] env')) = Jn23_6 m (fun i131 i132 i133 => k Ex.ret [V.f (F.lit (Value.int IntKind.u8 i131)), V.f (F.lit (Value.int IntKind.i64 i132)), V.f (F.lit (Value.int IntKind.i64 i124)), V.f (F.lit (Value.int IntKind.i64 i133)), V.undef]) i122 i123 i124 i125 := by kernel_rfl
def L5 (m : Nat) : LTbl := addJ 23 6 (brJn23_6 m (L4 m)) (L4 m)
theorem okL5 (m : Nat) : LTOk Try.prog H (L5 m) := addJ_ok (okT9 m) hM (okL4 m) (l := [2, 3, 4, 5, 45]) (by kernel_rfl) (by kernel_rfl) fun R vs k x h => by
    unfold brJn23_6 at h
    split at h
    · exact .inl ((evJn23_6 m R _ _ _ _ k).trans h)
    · exact .inr h

/-- hookflash/media.Compress -/
def Fn23 {R : Type} (m : Nat) : Int → (Int → Int → Option R) → Option R := match m with
  | 0 => fun _ _ => none
  | m + 1 => fun i113 k =>
  Fn68 m i113 (fun b121 => bif !b121 then (k ((0 : Int)) ((1 : Int))) else
  (bif decide (i113 < (0 : Int)) then (Jn23_6 m (fun i134 i135 i136 => k i134 i135) ((0 : Int)) ((0 : Int)) ((128 : Int)) (IntKind.wrap IntKind.i64 (IntKind.wrap IntKind.i64 ((0 : Int) - i113) - (1 : Int)))) else
  (Jn23_6 m (fun i137 i138 i139 => k i137 i138) ((0 : Int)) ((0 : Int)) ((0 : Int)) i113)))
def brFn23 (m : Nat) (T : Tbl) (R : Type) (vs : List V) (k : V → List V → Option R) : Option R := match vs with
  | [V.f (F.lit (Value.int IntKind.i64 i113))] => Fn23 m i113 (fun i140 i141 => k (V.tup [V.f (F.lit (Value.int IntKind.u8 i140)), V.f (F.lit (Value.int IntKind.i64 i141))]) [V.undef])
  | _ => T R 23 vs k
set_option maxRecDepth 100000 in
theorem evFn23 (m : Nat) (R : Type) (i113 : Int) (k : V → List V → Option R) : runK Try.prog H (T9 m) (L5 m) 23 [V.f (F.lit (Value.int IntKind.i64 i113))] k = Fn23 (m + 1) i113 (fun i140 i141 => k (V.tup [V.f (F.lit (Value.int IntKind.u8 i140)), V.f (F.lit (Value.int IntKind.i64 i141))]) [V.undef]) := by kernel_rfl
def T10 (m : Nat) : Tbl := addT 23 (brFn23 m (T9 m)) (T9 m)
theorem okT10 (m : Nat) : TblOk Try.prog (T10 m) := addT_ok (okT9 m) fun R vs k x h => by
  unfold brFn23 at h
  split at h
  · cases m with
    | zero => cases h
    | succ m => exact runK_some (okT9 m) hM (okL5 m) ((evFn23 m R _ k).trans h)
  · exact okT9 m R 23 _ k x h

/-- hookflash/flashref2.in -/
def Fn63 {R : Type} (m : Nat) : Int → Int → Int → (Bool → Option R) → Option R := match m with
  | 0 => fun _ _ _ _ => none
  | m + 1 => fun i145 i146 i147 k =>
  bif decide (i146 ≤ i145) then (k (decide (i145 ≤ i147))) else
  (k false)
def brFn63 (m : Nat) (T : Tbl) (R : Type) (vs : List V) (k : V → List V → Option R) : Option R := match vs with
  | [V.f (F.lit (Value.int IntKind.i64 i145)), V.f (F.lit (Value.int IntKind.i64 i146)), V.f (F.lit (Value.int IntKind.i64 i147))] => Fn63 m i145 i146 i147 (fun b148 => k (V.f (F.lit (Value.bool b148))) [V.undef, V.undef, V.undef])
  | _ => T R 63 vs k
set_option maxRecDepth 100000 in
theorem evFn63 (m : Nat) (R : Type) (i145 : Int) (i146 : Int) (i147 : Int) (k : V → List V → Option R) : runK Try.prog H (T10 m) (L5 m) 63 [V.f (F.lit (Value.int IntKind.i64 i145)), V.f (F.lit (Value.int IntKind.i64 i146)), V.f (F.lit (Value.int IntKind.i64 i147))] k = Fn63 (m + 1) i145 i146 i147 (fun b148 => k (V.f (F.lit (Value.bool b148))) [V.undef, V.undef, V.undef]) := by kernel_rfl
def T11 (m : Nat) : Tbl := addT 63 (brFn63 m (T10 m)) (T10 m)
theorem okT11 (m : Nat) : TblOk Try.prog (T11 m) := addT_ok (okT10 m) fun R vs k x h => by
  unfold brFn63 at h
  split at h
  · cases m with
    | zero => cases h
    | succ m => exact runK_some (okT10 m) hM (okL5 m) ((evFn63 m R _ _ _ k).trans h)
  · exact okT10 m R 63 _ k x h

/-- hookflash/flashref2.Sample -/
def Fn25 {R : Type} (m : Nat) : Int → (Bool → Option R) → Option R := match m with
  | 0 => fun _ _ => none
  | m + 1 => fun i144 k =>
  Fn63 m i144 ((-32768 : Int)) ((32767 : Int)) (fun b149 => k b149)
def brFn25 (m : Nat) (T : Tbl) (R : Type) (vs : List V) (k : V → List V → Option R) : Option R := match vs with
  | [V.f (F.lit (Value.int IntKind.i64 i144))] => Fn25 m i144 (fun b150 => k (V.f (F.lit (Value.bool b150))) [V.undef])
  | _ => T R 25 vs k
set_option maxRecDepth 100000 in
theorem evFn25 (m : Nat) (R : Type) (i144 : Int) (k : V → List V → Option R) : runK Try.prog H (T11 m) (L5 m) 25 [V.f (F.lit (Value.int IntKind.i64 i144))] k = Fn25 (m + 1) i144 (fun b150 => k (V.f (F.lit (Value.bool b150))) [V.undef]) := by kernel_rfl
def T12 (m : Nat) : Tbl := addT 25 (brFn25 m (T11 m)) (T11 m)
theorem okT12 (m : Nat) : TblOk Try.prog (T12 m) := addT_ok (okT11 m) fun R vs k x h => by
  unfold brFn25 at h
  split at h
  · cases m with
    | zero => cases h
    | succ m => exact runK_some (okT11 m) hM (okL5 m) ((evFn25 m R _ k).trans h)
  · exact okT11 m R 25 _ k x h

/-- hookflash/flashlaw2.when -/
def Fn24 {R : Type} (m : Nat) : Bool → Int → (Int → Option R) → Option R := match m with
  | 0 => fun _ _ _ => none
  | m + 1 => fun b152 i153 k =>
  bif b152 then (k i153) else
  (k ((0 : Int)))
def brFn24 (m : Nat) (T : Tbl) (R : Type) (vs : List V) (k : V → List V → Option R) : Option R := match vs with
  | [V.f (F.lit (Value.bool b152)), V.f (F.lit (Value.int IntKind.i64 i153))] => Fn24 m b152 i153 (fun i154 => k (V.f (F.lit (Value.int IntKind.i64 i154))) [V.undef, V.undef])
  | _ => T R 24 vs k
set_option maxRecDepth 100000 in
theorem evFn24 (m : Nat) (R : Type) (b152 : Bool) (i153 : Int) (k : V → List V → Option R) : runK Try.prog H (T12 m) (L5 m) 24 [V.f (F.lit (Value.bool b152)), V.f (F.lit (Value.int IntKind.i64 i153))] k = Fn24 (m + 1) b152 i153 (fun i154 => k (V.f (F.lit (Value.int IntKind.i64 i154))) [V.undef, V.undef]) := by kernel_rfl
def T13 (m : Nat) : Tbl := addT 24 (brFn24 m (T12 m)) (T12 m)
theorem okT13 (m : Nat) : TblOk Try.prog (T13 m) := addT_ok (okT12 m) fun R vs k x h => by
  unfold brFn24 at h
  split at h
  · cases m with
    | zero => cases h
    | succ m => exact runK_some (okT12 m) hM (okL5 m) ((evFn24 m R _ _ k).trans h)
  · exact okT12 m R 24 _ k x h

/-- a round of a loop of hookflash/flashref2.CompressOf -/
def Lp26_6_step {R : Type} (m : Nat) (kx0 : Int → Int → Option R) (i160 : Int) (REC : Int → Int → Option R) (i161 : Int) (i162 : Int) : Option R :=
  bif decide (i161 ≥ (64 : Int)) then (REC (IntKind.wrap IntKind.i64 (Int.tdiv i161 (2 : Int))) (IntKind.wrap IntKind.i64 (i162 + (1 : Int)))) else
  (kx0 i161 i162)
def Lp26_6 {R : Type} (m : Nat) (kx0 : Int → Int → Option R) (i160 : Int) : Nat → Int → Int → Option R
  | 0, _, _ => none
  | n + 1, i161, i162 => Lp26_6_step m kx0 i160 (Lp26_6 m kx0 i160 n) i161 i162
def ELp26_6 (m : Nat) (R : Type) : Nat → List V → (Ex → List V → Option R) → Option R
  | 0, _, _ => none
  | n + 1, vs, k => match vs with
    | [V.f (F.lit (Value.int IntKind.i64 i160)), V.f (F.lit (Value.int IntKind.i64 i161)), V.f (F.lit (Value.int IntKind.i64 i162)), V.undef] => Lp26_6_step m (fun i163 i164 => k (Ex.exit (0 : Nat)) [V.f (F.lit (Value.int IntKind.i64 i160)), V.f (F.lit (Value.int IntKind.i64 i163)), V.f (F.lit (Value.int IntKind.i64 i164)), V.undef]) i160 (fun i161 i162 => ELp26_6 m R n [V.f (F.lit (Value.int IntKind.i64 i160)), V.f (F.lit (Value.int IntKind.i64 i161)), V.f (F.lit (Value.int IntKind.i64 i162)), V.undef] k) i161 i162
    | _ => none
def brLp26_6 (m : Nat) (L : LTbl) (R : Type) (vs : List V) (k : Ex → List V → Option R) : Option R := match vs with
  | [V.f (F.lit (Value.int IntKind.i64 i160)), V.f (F.lit (Value.int IntKind.i64 i161)), V.f (F.lit (Value.int IntKind.i64 i162)), V.undef] => Lp26_6 m (fun i163 i164 => k (Ex.exit (0 : Nat)) [V.f (F.lit (Value.int IntKind.i64 i160)), V.f (F.lit (Value.int IntKind.i64 i163)), V.f (F.lit (Value.int IntKind.i64 i164)), V.undef]) i160 m i161 i162
  | _ => L R 26 6 vs k
set_option maxRecDepth 100000 in
theorem stLp26_6 (m n : Nat) (R : Type) (i160 : Int) (i161 : Int) (i162 : Int) (k : Ex → List V → Option R) : codeK Try.prog H (T13 m) 26 (L5 m) 7 (loopBody Try.prog 26 6) (mkEnv [3, 4, 5, 32] [V.f (F.lit (Value.int IntKind.i64 i160)), V.f (F.lit (Value.int IntKind.i64 i161)), V.f (F.lit (Value.int IntKind.i64 i162)), V.undef] 0 (H.len 26)) (fun e env' => match e with | .normal => ELp26_6 m R n (vals [3, 4, 5, 32] env') k | e => k e (vals [3, 4, 5, 32] env')) = Lp26_6_step m (fun i163 i164 => k (Ex.exit (0 : Nat)) [V.f (F.lit (Value.int IntKind.i64 i160)), V.f (F.lit (Value.int IntKind.i64 i163)), V.f (F.lit (Value.int IntKind.i64 i164)), V.undef]) i160 (fun i161 i162 => ELp26_6 m R n [V.f (F.lit (Value.int IntKind.i64 i160)), V.f (F.lit (Value.int IntKind.i64 i161)), V.f (F.lit (Value.int IntKind.i64 i162)), V.undef] k) i161 i162 := by kernel_rfl
theorem eqLp26_6 (m : Nat) (R : Type) (i160 : Int) (k : Ex → List V → Option R) : ∀ (n : Nat) (i161 : Int) (i162 : Int), ELp26_6 m R n [V.f (F.lit (Value.int IntKind.i64 i160)), V.f (F.lit (Value.int IntKind.i64 i161)), V.f (F.lit (Value.int IntKind.i64 i162)), V.undef] k = Lp26_6 m (fun i163 i164 => k (Ex.exit (0 : Nat)) [V.f (F.lit (Value.int IntKind.i64 i160)), V.f (F.lit (Value.int IntKind.i64 i163)), V.f (F.lit (Value.int IntKind.i64 i164)), V.undef]) i160 n i161 i162
  | 0, _, _ => rfl
  | n + 1, i161, i162 => by
    simp only [ELp26_6, Lp26_6]
    congr 1
    funext i161 i162
    exact eqLp26_6 m R i160 k n i161 i162
def L6 (m : Nat) : LTbl := addB 26 6 (brLp26_6 m (L5 m)) (L5 m)
theorem okL6 (m : Nat) : LTOk Try.prog H (L6 m) := addB_ok (okT13 m) hM (okL5 m) (l := [3, 4, 5, 32]) (by kernel_rfl) (by kernel_rfl) m (fun R n vs k => ELp26_6 m R n vs k) (fun R vs k => rfl) (fun R n vs k x h => by
      simp only [ELp26_6] at h
      split at h
      · exact (stLp26_6 m n R _ _ _ k).trans h
      · cases h) fun R vs k x h => by
    unfold brLp26_6 at h
    split at h
    · exact .inl ((eqLp26_6 m R _ k m _ _).trans h)
    · exact .inr h

/-- a rest of hookflash/flashref2.CompressOf -/
def Jn26_3 {R : Type} (m : Nat) (kx0 : Int → Int → Option R) (i157 : Int) (i158 : Int) (i159 : Int) : Option R :=
  Lp26_6 m (fun i165 i166 => kx0 (IntKind.wrap IntKind.u8 (IntKind.wrap IntKind.i64 ((255 : Int) - IntKind.wrap IntKind.i64 (IntKind.wrap IntKind.i64 (IntKind.wrap IntKind.i64 (i158 + IntKind.wrap IntKind.i64 ((16 : Int) * i166)) + IntKind.wrap IntKind.i64 (Int.tdiv i165 (2 : Int))) - (16 : Int))))) i165) i158 m (IntKind.wrap IntKind.i64 ((if (8158 : Int) < IntKind.wrap IntKind.i64 (Int.tdiv i159 (4 : Int)) then (8158 : Int) else IntKind.wrap IntKind.i64 (Int.tdiv i159 (4 : Int))) + (33 : Int))) ((0 : Int))
def brJn26_3 (m : Nat) (L : LTbl) (R : Type) (vs : List V) (k : Ex → List V → Option R) : Option R := match vs with
  | [V.f (F.lit (Value.int IntKind.u8 i157)), V.f (F.lit (Value.int IntKind.i64 i158)), V.f (F.lit (Value.int IntKind.i64 i159)), V.undef] => Jn26_3 m (fun i167 i168 => k Ex.ret [V.f (F.lit (Value.int IntKind.u8 i167)), V.f (F.lit (Value.int IntKind.i64 i158)), V.f (F.lit (Value.int IntKind.i64 i168)), V.undef]) i157 i158 i159
  | _ => L R 26 3 vs k
set_option maxRecDepth 100000 in
theorem evJn26_3 (m : Nat) (R : Type) (i157 : Int) (i158 : Int) (i159 : Int) (k : Ex → List V → Option R) : codeK Try.prog H (T13 m) 26 (L6 m) 4 (loopBody Try.prog 26 3) (mkEnv [2, 3, 4, 32] [V.f (F.lit (Value.int IntKind.u8 i157)), V.f (F.lit (Value.int IntKind.i64 i158)), V.f (F.lit (Value.int IntKind.i64 i159)), V.undef] 0 (H.len 26)) (fun e env' => k e (vals [2, 3, 4, 32] env')) = Jn26_3 m (fun i167 i168 => k Ex.ret [V.f (F.lit (Value.int IntKind.u8 i167)), V.f (F.lit (Value.int IntKind.i64 i158)), V.f (F.lit (Value.int IntKind.i64 i168)), V.undef]) i157 i158 i159 := by kernel_rfl
def L7 (m : Nat) : LTbl := addJ 26 3 (brJn26_3 m (L6 m)) (L6 m)
theorem okL7 (m : Nat) : LTOk Try.prog H (L7 m) := addJ_ok (okT13 m) hM (okL6 m) (l := [2, 3, 4, 32]) (by kernel_rfl) (by kernel_rfl) fun R vs k x h => by
    unfold brJn26_3 at h
    split at h
    · exact .inl ((evJn26_3 m R _ _ _ k).trans h)
    · exact .inr h

/-- hookflash/flashref2.CompressOf -/
def Fn26 {R : Type} (m : Nat) : Int → (Int → Option R) → Option R := match m with
  | 0 => fun _ _ => none
  | m + 1 => fun i156 k =>
  bif decide (i156 < (0 : Int)) then (Jn26_3 m (fun i169 i170 => k i169) ((0 : Int)) ((128 : Int)) (IntKind.wrap IntKind.i64 (IntKind.wrap IntKind.i64 ((0 : Int) - i156) - (1 : Int)))) else
  (Jn26_3 m (fun i171 i172 => k i171) ((0 : Int)) ((0 : Int)) i156)
def brFn26 (m : Nat) (T : Tbl) (R : Type) (vs : List V) (k : V → List V → Option R) : Option R := match vs with
  | [V.f (F.lit (Value.int IntKind.i64 i156))] => Fn26 m i156 (fun i173 => k (V.f (F.lit (Value.int IntKind.u8 i173))) [V.undef])
  | _ => T R 26 vs k
set_option maxRecDepth 100000 in
theorem evFn26 (m : Nat) (R : Type) (i156 : Int) (k : V → List V → Option R) : runK Try.prog H (T13 m) (L7 m) 26 [V.f (F.lit (Value.int IntKind.i64 i156))] k = Fn26 (m + 1) i156 (fun i173 => k (V.f (F.lit (Value.int IntKind.u8 i173))) [V.undef]) := by kernel_rfl
def T14 (m : Nat) : Tbl := addT 26 (brFn26 m (T13 m)) (T13 m)
theorem okT14 (m : Nat) : TblOk Try.prog (T14 m) := addT_ok (okT13 m) fun R vs k x h => by
  unfold brFn26 at h
  split at h
  · cases m with
    | zero => cases h
    | succ m => exact runK_some (okT13 m) hM (okL7 m) ((evFn26 m R _ k).trans h)
  · exact okT13 m R 26 _ k x h

/-- a round of a loop of hookflash/media.CheckSamples -/
def Lp29_5_step {R : Type} (m : Nat) (kx0 : Int → Int → Option R) (kx1 : Int → Option R) (r179 : Abs.Rows) (i180 : Int) (r181 : Abs.Rows) (i182 : Int) (REC : Int → Option R) (i183 : Int) : Option R :=
  bif decide (i183 < i182) then (bif decide ((0 : Int) ≤ i183 ∧ i183 < (↑(List.length r181) : Int)) then (Fn68 m (fI r181 (Int.toNat i183) (0 : Nat)) (fun b184 => bif !b184 then (kx0 ((1 : Int)) i183) else
  (REC (IntKind.wrap IntKind.i64 (i183 + (1 : Int)))))) else
  (none)) else
  (kx1 i183)
def Lp29_5 {R : Type} (m : Nat) (kx0 : Int → Int → Option R) (kx1 : Int → Option R) (r179 : Abs.Rows) (i180 : Int) (r181 : Abs.Rows) (i182 : Int) : Nat → Int → Option R
  | 0, _ => none
  | n + 1, i183 => Lp29_5_step m kx0 kx1 r179 i180 r181 i182 (Lp29_5 m kx0 kx1 r179 i180 r181 i182 n) i183
def ELp29_5 (m : Nat) (R : Type) : Nat → List V → (Ex → List V → Option R) → Option R
  | 0, _, _ => none
  | n + 1, vs, k => match vs with
    | [V.bor [LT.int IntKind.i64] r179, V.f (F.lit (Value.int IntKind.i64 i180)), V.bor [LT.int IntKind.i64] r181, V.f (F.lit (Value.int IntKind.i64 i182)), V.f (F.lit (Value.int IntKind.i64 i183)), V.undef] => Lp29_5_step m (fun i185 i186 => k Ex.ret [V.bor [LT.int IntKind.i64] r179, V.f (F.lit (Value.int IntKind.i64 i185)), V.bor [LT.int IntKind.i64] r181, V.f (F.lit (Value.int IntKind.i64 i182)), V.f (F.lit (Value.int IntKind.i64 i186)), V.undef]) (fun i187 => k (Ex.exit (0 : Nat)) [V.bor [LT.int IntKind.i64] r179, V.f (F.lit (Value.int IntKind.i64 i180)), V.bor [LT.int IntKind.i64] r181, V.f (F.lit (Value.int IntKind.i64 i182)), V.f (F.lit (Value.int IntKind.i64 i187)), V.undef]) r179 i180 r181 i182 (fun i183 => ELp29_5 m R n [V.bor [LT.int IntKind.i64] r179, V.f (F.lit (Value.int IntKind.i64 i180)), V.bor [LT.int IntKind.i64] r181, V.f (F.lit (Value.int IntKind.i64 i182)), V.f (F.lit (Value.int IntKind.i64 i183)), V.undef] k) i183
    | _ => none
def brLp29_5 (m : Nat) (L : LTbl) (R : Type) (vs : List V) (k : Ex → List V → Option R) : Option R := match vs with
  | [V.bor [LT.int IntKind.i64] r179, V.f (F.lit (Value.int IntKind.i64 i180)), V.bor [LT.int IntKind.i64] r181, V.f (F.lit (Value.int IntKind.i64 i182)), V.f (F.lit (Value.int IntKind.i64 i183)), V.undef] => Lp29_5 m (fun i185 i186 => k Ex.ret [V.bor [LT.int IntKind.i64] r179, V.f (F.lit (Value.int IntKind.i64 i185)), V.bor [LT.int IntKind.i64] r181, V.f (F.lit (Value.int IntKind.i64 i182)), V.f (F.lit (Value.int IntKind.i64 i186)), V.undef]) (fun i187 => k (Ex.exit (0 : Nat)) [V.bor [LT.int IntKind.i64] r179, V.f (F.lit (Value.int IntKind.i64 i180)), V.bor [LT.int IntKind.i64] r181, V.f (F.lit (Value.int IntKind.i64 i182)), V.f (F.lit (Value.int IntKind.i64 i187)), V.undef]) r179 i180 r181 i182 m i183
  | _ => L R 29 5 vs k
set_option maxRecDepth 100000 in
theorem stLp29_5 (m n : Nat) (R : Type) (r179 : Abs.Rows) (i180 : Int) (r181 : Abs.Rows) (i182 : Int) (i183 : Int) (k : Ex → List V → Option R) : codeK Try.prog H (T14 m) 29 (L7 m) 6 (loopBody Try.prog 29 5) (mkEnv [0, 2, 8, 9, 10, 18] [V.bor [LT.int IntKind.i64] r179, V.f (F.lit (Value.int IntKind.i64 i180)), V.bor [LT.int IntKind.i64] r181, V.f (F.lit (Value.int IntKind.i64 i182)), V.f (F.lit (Value.int IntKind.i64 i183)), V.undef] 0 (H.len 29)) (fun e env' => match e with | .normal => ELp29_5 m R n (vals [0, 2, 8, 9, 10, 18] env') k | e => k e (vals [0, 2, 8, 9, 10, 18] env')) = Lp29_5_step m (fun i185 i186 => k Ex.ret [V.bor [LT.int IntKind.i64] r179, V.f (F.lit (Value.int IntKind.i64 i185)), V.bor [LT.int IntKind.i64] r181, V.f (F.lit (Value.int IntKind.i64 i182)), V.f (F.lit (Value.int IntKind.i64 i186)), V.undef]) (fun i187 => k (Ex.exit (0 : Nat)) [V.bor [LT.int IntKind.i64] r179, V.f (F.lit (Value.int IntKind.i64 i180)), V.bor [LT.int IntKind.i64] r181, V.f (F.lit (Value.int IntKind.i64 i182)), V.f (F.lit (Value.int IntKind.i64 i187)), V.undef]) r179 i180 r181 i182 (fun i183 => ELp29_5 m R n [V.bor [LT.int IntKind.i64] r179, V.f (F.lit (Value.int IntKind.i64 i180)), V.bor [LT.int IntKind.i64] r181, V.f (F.lit (Value.int IntKind.i64 i182)), V.f (F.lit (Value.int IntKind.i64 i183)), V.undef] k) i183 := by kernel_rfl
theorem eqLp29_5 (m : Nat) (R : Type) (r179 : Abs.Rows) (i180 : Int) (r181 : Abs.Rows) (i182 : Int) (k : Ex → List V → Option R) : ∀ (n : Nat) (i183 : Int), ELp29_5 m R n [V.bor [LT.int IntKind.i64] r179, V.f (F.lit (Value.int IntKind.i64 i180)), V.bor [LT.int IntKind.i64] r181, V.f (F.lit (Value.int IntKind.i64 i182)), V.f (F.lit (Value.int IntKind.i64 i183)), V.undef] k = Lp29_5 m (fun i185 i186 => k Ex.ret [V.bor [LT.int IntKind.i64] r179, V.f (F.lit (Value.int IntKind.i64 i185)), V.bor [LT.int IntKind.i64] r181, V.f (F.lit (Value.int IntKind.i64 i182)), V.f (F.lit (Value.int IntKind.i64 i186)), V.undef]) (fun i187 => k (Ex.exit (0 : Nat)) [V.bor [LT.int IntKind.i64] r179, V.f (F.lit (Value.int IntKind.i64 i180)), V.bor [LT.int IntKind.i64] r181, V.f (F.lit (Value.int IntKind.i64 i182)), V.f (F.lit (Value.int IntKind.i64 i187)), V.undef]) r179 i180 r181 i182 n i183
  | 0, _ => rfl
  | n + 1, i183 => by
    simp only [ELp29_5, Lp29_5]
    congr 1
    funext i183
    exact eqLp29_5 m R r179 i180 r181 i182 k n i183
def L8 (m : Nat) : LTbl := addB 29 5 (brLp29_5 m (L7 m)) (L7 m)
theorem okL8 (m : Nat) : LTOk Try.prog H (L8 m) := addB_ok (okT14 m) hM (okL7 m) (l := [0, 2, 8, 9, 10, 18]) (by kernel_rfl) (by kernel_rfl) m (fun R n vs k => ELp29_5 m R n vs k) (fun R vs k => rfl) (fun R n vs k x h => by
      simp only [ELp29_5] at h
      split at h
      · exact (stLp29_5 m n R _ _ _ _ _ k).trans h
      · cases h) fun R vs k x h => by
    unfold brLp29_5 at h
    split at h
    · exact .inl ((eqLp29_5 m R _ _ _ _ k m _).trans h)
    · exact .inr h

/-- hookflash/media.CheckSamples -/
def Fn29 {R : Type} (m : Nat) : Abs.Rows → (Int → Option R) → Option R := match m with
  | 0 => fun _ _ => none
  | m + 1 => fun r178 k =>
  bif decide ((↑(List.length r178) : Int) > (20000 : Int)) then (k ((2 : Int))) else
  (Lp29_5 m (fun i188 i189 => k i188) (fun i190 => k ((0 : Int))) r178 ((0 : Int)) r178 ((↑(List.length r178) : Int)) m ((0 : Int)))
def brFn29 (m : Nat) (T : Tbl) (R : Type) (vs : List V) (k : V → List V → Option R) : Option R := match vs with
  | [V.bor [LT.int IntKind.i64] r178] => Fn29 m r178 (fun i191 => k (V.f (F.lit (Value.int IntKind.i64 i191))) [V.undef])
  | _ => T R 29 vs k
set_option maxRecDepth 100000 in
theorem evFn29 (m : Nat) (R : Type) (r178 : Abs.Rows) (k : V → List V → Option R) : runK Try.prog H (T14 m) (L8 m) 29 [V.bor [LT.int IntKind.i64] r178] k = Fn29 (m + 1) r178 (fun i191 => k (V.f (F.lit (Value.int IntKind.i64 i191))) [V.undef]) := by kernel_rfl
def T15 (m : Nat) : Tbl := addT 29 (brFn29 m (T14 m)) (T14 m)
theorem okT15 (m : Nat) : TblOk Try.prog (T15 m) := addT_ok (okT14 m) fun R vs k x h => by
  unfold brFn29 at h
  split at h
  · cases m with
    | zero => cases h
    | succ m => exact runK_some (okT14 m) hM (okL8 m) ((evFn29 m R _ k).trans h)
  · exact okT14 m R 29 _ k x h

/-- a round of a loop of hookflash/media.Small -/
def Lp27_7_step {R : Type} (m : Nat) (kx0 : Abs.Rows → Int → Option R) (r193 : Abs.Rows) (r195 : Abs.Rows) (i196 : Int) (REC : Abs.Rows → Int → Option R) (r194 : Abs.Rows) (i197 : Int) : Option R :=
  bif decide (i197 < i196) then (bif decide ((0 : Int) ≤ i197 ∧ i197 < (↑(List.length r195) : Int)) then (Fn23 m (fI r195 (Int.toNat i197) (0 : Nat)) (fun i198 i199 => bif decide ((0 : Int) ≤ i197 ∧ i197 < (↑(List.length r194) : Int)) then (REC (stR [LT.int IntKind.u8] r194 (Int.toNat i197) (0 : Nat) [F.lit (Value.int IntKind.u8 i198)]) (IntKind.wrap IntKind.i64 (i197 + (1 : Int)))) else
  (none))) else
  (none)) else
  (kx0 r194 i197)
def Lp27_7 {R : Type} (m : Nat) (kx0 : Abs.Rows → Int → Option R) (r193 : Abs.Rows) (r195 : Abs.Rows) (i196 : Int) : Nat → Abs.Rows → Int → Option R
  | 0, _, _ => none
  | n + 1, r194, i197 => Lp27_7_step m kx0 r193 r195 i196 (Lp27_7 m kx0 r193 r195 i196 n) r194 i197
def ELp27_7 (m : Nat) (R : Type) : Nat → List V → (Ex → List V → Option R) → Option R
  | 0, _, _ => none
  | n + 1, vs, k => match vs with
    | [V.bor [LT.int IntKind.i64] r193, V.own [LT.int IntKind.u8] r194, V.undef, V.bor [LT.int IntKind.i64] r195, V.f (F.lit (Value.int IntKind.i64 i196)), V.f (F.lit (Value.int IntKind.i64 i197)), V.undef] => Lp27_7_step m (fun r200 i201 => k (Ex.exit (0 : Nat)) [V.bor [LT.int IntKind.i64] r193, V.own [LT.int IntKind.u8] r200, V.undef, V.bor [LT.int IntKind.i64] r195, V.f (F.lit (Value.int IntKind.i64 i196)), V.f (F.lit (Value.int IntKind.i64 i201)), V.undef]) r193 r195 i196 (fun r194 i197 => ELp27_7 m R n [V.bor [LT.int IntKind.i64] r193, V.own [LT.int IntKind.u8] r194, V.undef, V.bor [LT.int IntKind.i64] r195, V.f (F.lit (Value.int IntKind.i64 i196)), V.f (F.lit (Value.int IntKind.i64 i197)), V.undef] k) r194 i197
    | _ => none
def brLp27_7 (m : Nat) (L : LTbl) (R : Type) (vs : List V) (k : Ex → List V → Option R) : Option R := match vs with
  | [V.bor [LT.int IntKind.i64] r193, V.own [LT.int IntKind.u8] r194, V.undef, V.bor [LT.int IntKind.i64] r195, V.f (F.lit (Value.int IntKind.i64 i196)), V.f (F.lit (Value.int IntKind.i64 i197)), V.undef] => Lp27_7 m (fun r200 i201 => k (Ex.exit (0 : Nat)) [V.bor [LT.int IntKind.i64] r193, V.own [LT.int IntKind.u8] r200, V.undef, V.bor [LT.int IntKind.i64] r195, V.f (F.lit (Value.int IntKind.i64 i196)), V.f (F.lit (Value.int IntKind.i64 i201)), V.undef]) r193 r195 i196 m r194 i197
  | _ => L R 27 7 vs k
set_option maxRecDepth 100000 in
theorem stLp27_7 (m n : Nat) (R : Type) (r193 : Abs.Rows) (r194 : Abs.Rows) (r195 : Abs.Rows) (i196 : Int) (i197 : Int) (k : Ex → List V → Option R) : codeK Try.prog H (T15 m) 27 (L8 m) 8 (loopBody Try.prog 27 7) (mkEnv [0, 5, 15, 16, 17, 18, 33] [V.bor [LT.int IntKind.i64] r193, V.own [LT.int IntKind.u8] r194, V.undef, V.bor [LT.int IntKind.i64] r195, V.f (F.lit (Value.int IntKind.i64 i196)), V.f (F.lit (Value.int IntKind.i64 i197)), V.undef] 0 (H.len 27)) (fun e env' => match e with | .normal => ELp27_7 m R n (vals [0, 5, 15, 16, 17, 18, 33] env') k | e => k e (vals [0, 5, 15, 16, 17, 18, 33] env')) = Lp27_7_step m (fun r200 i201 => k (Ex.exit (0 : Nat)) [V.bor [LT.int IntKind.i64] r193, V.own [LT.int IntKind.u8] r200, V.undef, V.bor [LT.int IntKind.i64] r195, V.f (F.lit (Value.int IntKind.i64 i196)), V.f (F.lit (Value.int IntKind.i64 i201)), V.undef]) r193 r195 i196 (fun r194 i197 => ELp27_7 m R n [V.bor [LT.int IntKind.i64] r193, V.own [LT.int IntKind.u8] r194, V.undef, V.bor [LT.int IntKind.i64] r195, V.f (F.lit (Value.int IntKind.i64 i196)), V.f (F.lit (Value.int IntKind.i64 i197)), V.undef] k) r194 i197 := by kernel_rfl
theorem eqLp27_7 (m : Nat) (R : Type) (r193 : Abs.Rows) (r195 : Abs.Rows) (i196 : Int) (k : Ex → List V → Option R) : ∀ (n : Nat) (r194 : Abs.Rows) (i197 : Int), ELp27_7 m R n [V.bor [LT.int IntKind.i64] r193, V.own [LT.int IntKind.u8] r194, V.undef, V.bor [LT.int IntKind.i64] r195, V.f (F.lit (Value.int IntKind.i64 i196)), V.f (F.lit (Value.int IntKind.i64 i197)), V.undef] k = Lp27_7 m (fun r200 i201 => k (Ex.exit (0 : Nat)) [V.bor [LT.int IntKind.i64] r193, V.own [LT.int IntKind.u8] r200, V.undef, V.bor [LT.int IntKind.i64] r195, V.f (F.lit (Value.int IntKind.i64 i196)), V.f (F.lit (Value.int IntKind.i64 i201)), V.undef]) r193 r195 i196 n r194 i197
  | 0, _, _ => rfl
  | n + 1, r194, i197 => by
    simp only [ELp27_7, Lp27_7]
    congr 1
    funext r194 i197
    exact eqLp27_7 m R r193 r195 i196 k n r194 i197
def L9 (m : Nat) : LTbl := addB 27 7 (brLp27_7 m (L8 m)) (L8 m)
theorem okL9 (m : Nat) : LTOk Try.prog H (L9 m) := addB_ok (okT15 m) hM (okL8 m) (l := [0, 5, 15, 16, 17, 18, 33]) (by kernel_rfl) (by kernel_rfl) m (fun R n vs k => ELp27_7 m R n vs k) (fun R vs k => rfl) (fun R n vs k x h => by
      simp only [ELp27_7] at h
      split at h
      · exact (stLp27_7 m n R _ _ _ _ _ k).trans h
      · cases h) fun R vs k x h => by
    unfold brLp27_7 at h
    split at h
    · exact .inl ((eqLp27_7 m R _ _ _ k m _ _).trans h)
    · exact .inr h

/-- hookflash/media.Small -/
def Fn27 {R : Type} (m : Nat) : Abs.Rows → (Abs.Rows → Int → Option R) → Option R := match m with
  | 0 => fun _ _ => none
  | m + 1 => fun r177 k =>
  Fn29 m r177 (fun i192 => bif i192 != (0 : Int) then (k rows0 i192) else
  (bif decide ((0 : Int) ≤ (↑(List.length r177) : Int) ∧ (↑(List.length r177) : Int) ≤ (↑(List.length r177) : Int) ∧ (↑(List.length r177) : Int) ≤ (↑rowMax : Int)) then (Lp27_7 m (fun r202 i203 => k r202 ((0 : Int))) r177 r177 ((↑(List.length r177) : Int)) m (List.replicate (Int.toNat (↑(List.length r177) : Int)) [F.lit (Value.int IntKind.u8 (0 : Int))]) ((0 : Int))) else
  (none)))
def brFn27 (m : Nat) (T : Tbl) (R : Type) (vs : List V) (k : V → List V → Option R) : Option R := match vs with
  | [V.bor [LT.int IntKind.i64] r177] => Fn27 m r177 (fun r204 i205 => k (V.tup [V.own [LT.int IntKind.u8] r204, V.f (F.lit (Value.int IntKind.i64 i205))]) [V.undef])
  | _ => T R 27 vs k
set_option maxRecDepth 100000 in
theorem evFn27 (m : Nat) (R : Type) (r177 : Abs.Rows) (k : V → List V → Option R) : runK Try.prog H (T15 m) (L9 m) 27 [V.bor [LT.int IntKind.i64] r177] k = Fn27 (m + 1) r177 (fun r204 i205 => k (V.tup [V.own [LT.int IntKind.u8] r204, V.f (F.lit (Value.int IntKind.i64 i205))]) [V.undef]) := by kernel_rfl
def T16 (m : Nat) : Tbl := addT 27 (brFn27 m (T15 m)) (T15 m)
theorem okT16 (m : Nat) : TblOk Try.prog (T16 m) := addT_ok (okT15 m) fun R vs k x h => by
  unfold brFn27 at h
  split at h
  · cases m with
    | zero => cases h
    | succ m => exact runK_some (okT15 m) hM (okL9 m) ((evFn27 m R _ k).trans h)
  · exact okT15 m R 27 _ k x h

/-- hookflash/flashref2.SamplesFault$1 -/
def Fn70 {R : Type} (m : Nat) : Int → (Bool → Option R) → Option R := match m with
  | 0 => fun _ _ => none
  | m + 1 => fun i215 k =>
  Fn25 m i215 (fun b216 => k (!b216))
def brFn70 (m : Nat) (T : Tbl) (R : Type) (vs : List V) (k : V → List V → Option R) : Option R := match vs with
  | [V.f (F.lit (Value.int IntKind.i64 i215))] => Fn70 m i215 (fun b217 => k (V.f (F.lit (Value.bool b217))) [V.undef])
  | _ => T R 70 vs k
set_option maxRecDepth 100000 in
theorem evFn70 (m : Nat) (R : Type) (i215 : Int) (k : V → List V → Option R) : runK Try.prog H (T16 m) (L9 m) 70 [V.f (F.lit (Value.int IntKind.i64 i215))] k = Fn70 (m + 1) i215 (fun b217 => k (V.f (F.lit (Value.bool b217))) [V.undef]) := by kernel_rfl
def T17 (m : Nat) : Tbl := addT 70 (brFn70 m (T16 m)) (T16 m)
theorem okT17 (m : Nat) : TblOk Try.prog (T17 m) := addT_ok (okT16 m) fun R vs k x h => by
  unfold brFn70 at h
  split at h
  · cases m with
    | zero => cases h
    | succ m => exact runK_some (okT16 m) hM (okL9 m) ((evFn70 m R _ k).trans h)
  · exact okT16 m R 70 _ k x h

/-- a round of a loop of slices.IndexFunc[[]int,int] -/
def Lp94_2_step {R : Type} (m : Nat) (kx0 : Int → Int → Option R) (kx1 : Int → Option R) (r211 : Abs.Rows) (i212 : Int) (i213 : Int) (REC : Int → Option R) (i214 : Int) : Option R :=
  bif decide (i214 < i213) then (bif decide ((0 : Int) ≤ i214 ∧ i214 < (↑(List.length r211) : Int)) then (Fn70 m (fI r211 (Int.toNat i214) (0 : Nat)) (fun b218 => bif b218 then (kx0 i214 i214) else
  (REC (IntKind.wrap IntKind.i64 (i214 + (1 : Int)))))) else
  (none)) else
  (kx1 i214)
def Lp94_2 {R : Type} (m : Nat) (kx0 : Int → Int → Option R) (kx1 : Int → Option R) (r211 : Abs.Rows) (i212 : Int) (i213 : Int) : Nat → Int → Option R
  | 0, _ => none
  | n + 1, i214 => Lp94_2_step m kx0 kx1 r211 i212 i213 (Lp94_2 m kx0 kx1 r211 i212 i213 n) i214
def ELp94_2 (m : Nat) (R : Type) : Nat → List V → (Ex → List V → Option R) → Option R
  | 0, _, _ => none
  | n + 1, vs, k => match vs with
    | [V.bor [LT.int IntKind.i64] r211, V.clos (70 : Nat) [], V.f (F.lit (Value.int IntKind.i64 i212)), V.f (F.lit (Value.int IntKind.i64 i213)), V.f (F.lit (Value.int IntKind.i64 i214)), V.undef, V.undef] => Lp94_2_step m (fun i219 i220 => k Ex.ret [V.bor [LT.int IntKind.i64] r211, V.clos (70 : Nat) [], V.f (F.lit (Value.int IntKind.i64 i219)), V.f (F.lit (Value.int IntKind.i64 i213)), V.f (F.lit (Value.int IntKind.i64 i220)), V.undef, V.undef]) (fun i221 => k (Ex.exit (0 : Nat)) [V.bor [LT.int IntKind.i64] r211, V.clos (70 : Nat) [], V.f (F.lit (Value.int IntKind.i64 i212)), V.f (F.lit (Value.int IntKind.i64 i213)), V.f (F.lit (Value.int IntKind.i64 i221)), V.undef, V.undef]) r211 i212 i213 (fun i214 => ELp94_2 m R n [V.bor [LT.int IntKind.i64] r211, V.clos (70 : Nat) [], V.f (F.lit (Value.int IntKind.i64 i212)), V.f (F.lit (Value.int IntKind.i64 i213)), V.f (F.lit (Value.int IntKind.i64 i214)), V.undef, V.undef] k) i214
    | _ => none
def brLp94_2 (m : Nat) (L : LTbl) (R : Type) (vs : List V) (k : Ex → List V → Option R) : Option R := match vs with
  | [V.bor [LT.int IntKind.i64] r211, V.clos (70 : Nat) [], V.f (F.lit (Value.int IntKind.i64 i212)), V.f (F.lit (Value.int IntKind.i64 i213)), V.f (F.lit (Value.int IntKind.i64 i214)), V.undef, V.undef] => Lp94_2 m (fun i219 i220 => k Ex.ret [V.bor [LT.int IntKind.i64] r211, V.clos (70 : Nat) [], V.f (F.lit (Value.int IntKind.i64 i219)), V.f (F.lit (Value.int IntKind.i64 i213)), V.f (F.lit (Value.int IntKind.i64 i220)), V.undef, V.undef]) (fun i221 => k (Ex.exit (0 : Nat)) [V.bor [LT.int IntKind.i64] r211, V.clos (70 : Nat) [], V.f (F.lit (Value.int IntKind.i64 i212)), V.f (F.lit (Value.int IntKind.i64 i213)), V.f (F.lit (Value.int IntKind.i64 i221)), V.undef, V.undef]) r211 i212 i213 m i214
  | _ => L R 94 2 vs k
set_option maxRecDepth 100000 in
theorem stLp94_2 (m n : Nat) (R : Type) (r211 : Abs.Rows) (i212 : Int) (i213 : Int) (i214 : Int) (k : Ex → List V → Option R) : codeK Try.prog H (T17 m) 94 (L9 m) 3 (loopBody Try.prog 94 2) (mkEnv [0, 1, 4, 7, 8, 19, 20] [V.bor [LT.int IntKind.i64] r211, V.clos (70 : Nat) [], V.f (F.lit (Value.int IntKind.i64 i212)), V.f (F.lit (Value.int IntKind.i64 i213)), V.f (F.lit (Value.int IntKind.i64 i214)), V.undef, V.undef] 0 (H.len 94)) (fun e env' => match e with | .normal => ELp94_2 m R n (vals [0, 1, 4, 7, 8, 19, 20] env') k | e => k e (vals [0, 1, 4, 7, 8, 19, 20] env')) = Lp94_2_step m (fun i219 i220 => k Ex.ret [V.bor [LT.int IntKind.i64] r211, V.clos (70 : Nat) [], V.f (F.lit (Value.int IntKind.i64 i219)), V.f (F.lit (Value.int IntKind.i64 i213)), V.f (F.lit (Value.int IntKind.i64 i220)), V.undef, V.undef]) (fun i221 => k (Ex.exit (0 : Nat)) [V.bor [LT.int IntKind.i64] r211, V.clos (70 : Nat) [], V.f (F.lit (Value.int IntKind.i64 i212)), V.f (F.lit (Value.int IntKind.i64 i213)), V.f (F.lit (Value.int IntKind.i64 i221)), V.undef, V.undef]) r211 i212 i213 (fun i214 => ELp94_2 m R n [V.bor [LT.int IntKind.i64] r211, V.clos (70 : Nat) [], V.f (F.lit (Value.int IntKind.i64 i212)), V.f (F.lit (Value.int IntKind.i64 i213)), V.f (F.lit (Value.int IntKind.i64 i214)), V.undef, V.undef] k) i214 := by kernel_rfl
theorem eqLp94_2 (m : Nat) (R : Type) (r211 : Abs.Rows) (i212 : Int) (i213 : Int) (k : Ex → List V → Option R) : ∀ (n : Nat) (i214 : Int), ELp94_2 m R n [V.bor [LT.int IntKind.i64] r211, V.clos (70 : Nat) [], V.f (F.lit (Value.int IntKind.i64 i212)), V.f (F.lit (Value.int IntKind.i64 i213)), V.f (F.lit (Value.int IntKind.i64 i214)), V.undef, V.undef] k = Lp94_2 m (fun i219 i220 => k Ex.ret [V.bor [LT.int IntKind.i64] r211, V.clos (70 : Nat) [], V.f (F.lit (Value.int IntKind.i64 i219)), V.f (F.lit (Value.int IntKind.i64 i213)), V.f (F.lit (Value.int IntKind.i64 i220)), V.undef, V.undef]) (fun i221 => k (Ex.exit (0 : Nat)) [V.bor [LT.int IntKind.i64] r211, V.clos (70 : Nat) [], V.f (F.lit (Value.int IntKind.i64 i212)), V.f (F.lit (Value.int IntKind.i64 i213)), V.f (F.lit (Value.int IntKind.i64 i221)), V.undef, V.undef]) r211 i212 i213 n i214
  | 0, _ => rfl
  | n + 1, i214 => by
    simp only [ELp94_2, Lp94_2]
    congr 1
    funext i214
    exact eqLp94_2 m R r211 i212 i213 k n i214
def L10 (m : Nat) : LTbl := addB 94 2 (brLp94_2 m (L9 m)) (L9 m)
theorem okL10 (m : Nat) : LTOk Try.prog H (L10 m) := addB_ok (okT17 m) hM (okL9 m) (l := [0, 1, 4, 7, 8, 19, 20]) (by kernel_rfl) (by kernel_rfl) m (fun R n vs k => ELp94_2 m R n vs k) (fun R vs k => rfl) (fun R n vs k x h => by
      simp only [ELp94_2] at h
      split at h
      · exact (stLp94_2 m n R _ _ _ _ k).trans h
      · cases h) fun R vs k x h => by
    unfold brLp94_2 at h
    split at h
    · exact .inl ((eqLp94_2 m R _ _ _ k m _).trans h)
    · exact .inr h

/-- slices.IndexFunc[[]int,int] -/
def Fn94 {R : Type} (m : Nat) : Abs.Rows → (Int → Option R) → Option R := match m with
  | 0 => fun _ _ => none
  | m + 1 => fun r210 k =>
  Lp94_2 m (fun i222 i223 => k i222) (fun i224 => k ((-1 : Int))) r210 ((0 : Int)) ((↑(List.length r210) : Int)) m ((0 : Int))
def brFn94 (m : Nat) (T : Tbl) (R : Type) (vs : List V) (k : V → List V → Option R) : Option R := match vs with
  | [V.bor [LT.int IntKind.i64] r210, V.clos (70 : Nat) []] => Fn94 m r210 (fun i225 => k (V.f (F.lit (Value.int IntKind.i64 i225))) [V.undef, V.undef])
  | _ => T R 94 vs k
set_option maxRecDepth 100000 in
theorem evFn94 (m : Nat) (R : Type) (r210 : Abs.Rows) (k : V → List V → Option R) : runK Try.prog H (T17 m) (L10 m) 94 [V.bor [LT.int IntKind.i64] r210, V.clos (70 : Nat) []] k = Fn94 (m + 1) r210 (fun i225 => k (V.f (F.lit (Value.int IntKind.i64 i225))) [V.undef, V.undef]) := by kernel_rfl
def T18 (m : Nat) : Tbl := addT 94 (brFn94 m (T17 m)) (T17 m)
theorem okT18 (m : Nat) : TblOk Try.prog (T18 m) := addT_ok (okT17 m) fun R vs k x h => by
  unfold brFn94 at h
  split at h
  · cases m with
    | zero => cases h
    | succ m => exact runK_some (okT17 m) hM (okL10 m) ((evFn94 m R _ k).trans h)
  · exact okT17 m R 94 _ k x h

/-- slices.ContainsFunc[[]int,int] -/
def Fn69 {R : Type} (m : Nat) : Abs.Rows → (Bool → Option R) → Option R := match m with
  | 0 => fun _ _ => none
  | m + 1 => fun r209 k =>
  Fn94 m r209 (fun i226 => k (decide (i226 ≥ (0 : Int))))
def brFn69 (m : Nat) (T : Tbl) (R : Type) (vs : List V) (k : V → List V → Option R) : Option R := match vs with
  | [V.bor [LT.int IntKind.i64] r209, V.clos (70 : Nat) []] => Fn69 m r209 (fun b227 => k (V.f (F.lit (Value.bool b227))) [V.undef, V.undef])
  | _ => T R 69 vs k
set_option maxRecDepth 100000 in
theorem evFn69 (m : Nat) (R : Type) (r209 : Abs.Rows) (k : V → List V → Option R) : runK Try.prog H (T18 m) (L10 m) 69 [V.bor [LT.int IntKind.i64] r209, V.clos (70 : Nat) []] k = Fn69 (m + 1) r209 (fun b227 => k (V.f (F.lit (Value.bool b227))) [V.undef, V.undef]) := by kernel_rfl
def T19 (m : Nat) : Tbl := addT 69 (brFn69 m (T18 m)) (T18 m)
theorem okT19 (m : Nat) : TblOk Try.prog (T19 m) := addT_ok (okT18 m) fun R vs k x h => by
  unfold brFn69 at h
  split at h
  · cases m with
    | zero => cases h
    | succ m => exact runK_some (okT18 m) hM (okL10 m) ((evFn69 m R _ k).trans h)
  · exact okT18 m R 69 _ k x h

/-- hookflash/flashref2.SamplesFault -/
def Fn28 {R : Type} (m : Nat) : Abs.Rows → (Int → Option R) → Option R := match m with
  | 0 => fun _ _ => none
  | m + 1 => fun r208 k =>
  bif decide ((↑(List.length r208) : Int) > (20000 : Int)) then (k ((2 : Int))) else
  (Fn69 m r208 (fun b228 => bif b228 then (k ((1 : Int))) else
  (k ((0 : Int)))))
def brFn28 (m : Nat) (T : Tbl) (R : Type) (vs : List V) (k : V → List V → Option R) : Option R := match vs with
  | [V.bor [LT.int IntKind.i64] r208] => Fn28 m r208 (fun i229 => k (V.f (F.lit (Value.int IntKind.i64 i229))) [V.undef])
  | _ => T R 28 vs k
set_option maxRecDepth 100000 in
theorem evFn28 (m : Nat) (R : Type) (r208 : Abs.Rows) (k : V → List V → Option R) : runK Try.prog H (T19 m) (L10 m) 28 [V.bor [LT.int IntKind.i64] r208] k = Fn28 (m + 1) r208 (fun i229 => k (V.f (F.lit (Value.int IntKind.i64 i229))) [V.undef]) := by kernel_rfl
def T20 (m : Nat) : Tbl := addT 28 (brFn28 m (T19 m)) (T19 m)
theorem okT20 (m : Nat) : TblOk Try.prog (T20 m) := addT_ok (okT19 m) fun R vs k x h => by
  unfold brFn28 at h
  split at h
  · cases m with
    | zero => cases h
    | succ m => exact runK_some (okT19 m) hM (okL10 m) ((evFn28 m R _ k).trans h)
  · exact okT19 m R 28 _ k x h

/-- a round of a loop of hookflash/flashlaw2.SamplesCompress -/
def Lp4_20_step {R : Type} (m : Nat) (kx0 : Abs.Rows → Int → Option R) (r231 : Abs.Rows) (r232 : Abs.Rows) (i233 : Int) (r234 : Abs.Rows) (i235 : Int) (i237 : Int) (n238 : Nat) (i239 : Int) (REC : Abs.Rows → Int → Option R) (r236 : Abs.Rows) (i240 : Int) : Option R :=
  bif decide (i240 < i239) then (bif decide ((0 : Int) ≤ i240 ∧ i240 < (↑n238 : Int)) then (Fn26 m (fI r231 (Int.toNat i240) (0 : Nat)) (fun i241 => bif decide (List.length r236 + List.length [[F.lit (Value.int IntKind.u8 i241)]] ≤ rowMax) then (letV (r236 ++ [[F.lit (Value.int IntKind.u8 i241)]]) (fun r242 => REC r242 (IntKind.wrap IntKind.i64 (i240 + (1 : Int))))) else
  (none))) else
  (none)) else
  (kx0 r236 i240)
def Lp4_20 {R : Type} (m : Nat) (kx0 : Abs.Rows → Int → Option R) (r231 : Abs.Rows) (r232 : Abs.Rows) (i233 : Int) (r234 : Abs.Rows) (i235 : Int) (i237 : Int) (n238 : Nat) (i239 : Int) : Nat → Abs.Rows → Int → Option R
  | 0, _, _ => none
  | n + 1, r236, i240 => Lp4_20_step m kx0 r231 r232 i233 r234 i235 i237 n238 i239 (Lp4_20 m kx0 r231 r232 i233 r234 i235 i237 n238 i239 n) r236 i240
def ELp4_20 (m : Nat) (R : Type) : Nat → List V → (Ex → List V → Option R) → Option R
  | 0, _, _ => none
  | n + 1, vs, k => match vs with
    | [V.own [LT.int IntKind.i64] r231, V.own [LT.int IntKind.u8] r232, V.f (F.lit (Value.int IntKind.i64 i233)), V.own [LT.int IntKind.u8] r234, V.f (F.lit (Value.int IntKind.i64 i235)), V.own [LT.int IntKind.u8] r236, V.undef, V.undef, V.tup [V.undef, V.f (F.lit (Value.int IntKind.i64 i237))], V.undef, V.undef, V.lent { slot := (5 : Nat), leaf := none } (1 : Nat) n238, V.f (F.lit (Value.int IntKind.i64 i239)), V.f (F.lit (Value.int IntKind.i64 i240)), V.undef] => Lp4_20_step m (fun r243 i244 => k (Ex.exit (2 : Nat)) [V.own [LT.int IntKind.i64] r231, V.own [LT.int IntKind.u8] r232, V.f (F.lit (Value.int IntKind.i64 i233)), V.own [LT.int IntKind.u8] r234, V.f (F.lit (Value.int IntKind.i64 i235)), V.own [LT.int IntKind.u8] r243, V.undef, V.undef, V.tup [V.undef, V.f (F.lit (Value.int IntKind.i64 i237))], V.undef, V.undef, V.lent { slot := (5 : Nat), leaf := none } (1 : Nat) n238, V.f (F.lit (Value.int IntKind.i64 i239)), V.f (F.lit (Value.int IntKind.i64 i244)), V.undef]) r231 r232 i233 r234 i235 i237 n238 i239 (fun r236 i240 => ELp4_20 m R n [V.own [LT.int IntKind.i64] r231, V.own [LT.int IntKind.u8] r232, V.f (F.lit (Value.int IntKind.i64 i233)), V.own [LT.int IntKind.u8] r234, V.f (F.lit (Value.int IntKind.i64 i235)), V.own [LT.int IntKind.u8] r236, V.undef, V.undef, V.tup [V.undef, V.f (F.lit (Value.int IntKind.i64 i237))], V.undef, V.undef, V.lent { slot := (5 : Nat), leaf := none } (1 : Nat) n238, V.f (F.lit (Value.int IntKind.i64 i239)), V.f (F.lit (Value.int IntKind.i64 i240)), V.undef] k) r236 i240
    | _ => none
def brLp4_20 (m : Nat) (L : LTbl) (R : Type) (vs : List V) (k : Ex → List V → Option R) : Option R := match vs with
  | [V.own [LT.int IntKind.i64] r231, V.own [LT.int IntKind.u8] r232, V.f (F.lit (Value.int IntKind.i64 i233)), V.own [LT.int IntKind.u8] r234, V.f (F.lit (Value.int IntKind.i64 i235)), V.own [LT.int IntKind.u8] r236, V.undef, V.undef, V.tup [V.undef, V.f (F.lit (Value.int IntKind.i64 i237))], V.undef, V.undef, V.lent { slot := (5 : Nat), leaf := none } (1 : Nat) n238, V.f (F.lit (Value.int IntKind.i64 i239)), V.f (F.lit (Value.int IntKind.i64 i240)), V.undef] => Lp4_20 m (fun r243 i244 => k (Ex.exit (2 : Nat)) [V.own [LT.int IntKind.i64] r231, V.own [LT.int IntKind.u8] r232, V.f (F.lit (Value.int IntKind.i64 i233)), V.own [LT.int IntKind.u8] r234, V.f (F.lit (Value.int IntKind.i64 i235)), V.own [LT.int IntKind.u8] r243, V.undef, V.undef, V.tup [V.undef, V.f (F.lit (Value.int IntKind.i64 i237))], V.undef, V.undef, V.lent { slot := (5 : Nat), leaf := none } (1 : Nat) n238, V.f (F.lit (Value.int IntKind.i64 i239)), V.f (F.lit (Value.int IntKind.i64 i244)), V.undef]) r231 r232 i233 r234 i235 i237 n238 i239 m r236 i240
  | _ => L R 4 20 vs k
set_option maxRecDepth 100000 in
theorem stLp4_20 (m n : Nat) (R : Type) (r231 : Abs.Rows) (r232 : Abs.Rows) (i233 : Int) (r234 : Abs.Rows) (i235 : Int) (r236 : Abs.Rows) (i237 : Int) (n238 : Nat) (i239 : Int) (i240 : Int) (k : Ex → List V → Option R) : codeK Try.prog H (T20 m) 4 (L10 m) 21 (loopBody Try.prog 4 20) (mkEnv [5, 6, 9, 10, 11, 12, 28, 38, 70, 72, 73, 79, 80, 81, 147] [V.own [LT.int IntKind.i64] r231, V.own [LT.int IntKind.u8] r232, V.f (F.lit (Value.int IntKind.i64 i233)), V.own [LT.int IntKind.u8] r234, V.f (F.lit (Value.int IntKind.i64 i235)), V.own [LT.int IntKind.u8] r236, V.undef, V.undef, V.tup [V.undef, V.f (F.lit (Value.int IntKind.i64 i237))], V.undef, V.undef, V.lent { slot := (5 : Nat), leaf := none } (1 : Nat) n238, V.f (F.lit (Value.int IntKind.i64 i239)), V.f (F.lit (Value.int IntKind.i64 i240)), V.undef] 0 (H.len 4)) (fun e env' => match e with | .normal => ELp4_20 m R n (vals [5, 6, 9, 10, 11, 12, 28, 38, 70, 72, 73, 79, 80, 81, 147] env') k | e => k e (vals [5, 6, 9, 10, 11, 12, 28, 38, 70, 72, 73, 79, 80, 81, 147] env')) = Lp4_20_step m (fun r243 i244 => k (Ex.exit (2 : Nat)) [V.own [LT.int IntKind.i64] r231, V.own [LT.int IntKind.u8] r232, V.f (F.lit (Value.int IntKind.i64 i233)), V.own [LT.int IntKind.u8] r234, V.f (F.lit (Value.int IntKind.i64 i235)), V.own [LT.int IntKind.u8] r243, V.undef, V.undef, V.tup [V.undef, V.f (F.lit (Value.int IntKind.i64 i237))], V.undef, V.undef, V.lent { slot := (5 : Nat), leaf := none } (1 : Nat) n238, V.f (F.lit (Value.int IntKind.i64 i239)), V.f (F.lit (Value.int IntKind.i64 i244)), V.undef]) r231 r232 i233 r234 i235 i237 n238 i239 (fun r236 i240 => ELp4_20 m R n [V.own [LT.int IntKind.i64] r231, V.own [LT.int IntKind.u8] r232, V.f (F.lit (Value.int IntKind.i64 i233)), V.own [LT.int IntKind.u8] r234, V.f (F.lit (Value.int IntKind.i64 i235)), V.own [LT.int IntKind.u8] r236, V.undef, V.undef, V.tup [V.undef, V.f (F.lit (Value.int IntKind.i64 i237))], V.undef, V.undef, V.lent { slot := (5 : Nat), leaf := none } (1 : Nat) n238, V.f (F.lit (Value.int IntKind.i64 i239)), V.f (F.lit (Value.int IntKind.i64 i240)), V.undef] k) r236 i240 := by kernel_rfl
theorem eqLp4_20 (m : Nat) (R : Type) (r231 : Abs.Rows) (r232 : Abs.Rows) (i233 : Int) (r234 : Abs.Rows) (i235 : Int) (i237 : Int) (n238 : Nat) (i239 : Int) (k : Ex → List V → Option R) : ∀ (n : Nat) (r236 : Abs.Rows) (i240 : Int), ELp4_20 m R n [V.own [LT.int IntKind.i64] r231, V.own [LT.int IntKind.u8] r232, V.f (F.lit (Value.int IntKind.i64 i233)), V.own [LT.int IntKind.u8] r234, V.f (F.lit (Value.int IntKind.i64 i235)), V.own [LT.int IntKind.u8] r236, V.undef, V.undef, V.tup [V.undef, V.f (F.lit (Value.int IntKind.i64 i237))], V.undef, V.undef, V.lent { slot := (5 : Nat), leaf := none } (1 : Nat) n238, V.f (F.lit (Value.int IntKind.i64 i239)), V.f (F.lit (Value.int IntKind.i64 i240)), V.undef] k = Lp4_20 m (fun r243 i244 => k (Ex.exit (2 : Nat)) [V.own [LT.int IntKind.i64] r231, V.own [LT.int IntKind.u8] r232, V.f (F.lit (Value.int IntKind.i64 i233)), V.own [LT.int IntKind.u8] r234, V.f (F.lit (Value.int IntKind.i64 i235)), V.own [LT.int IntKind.u8] r243, V.undef, V.undef, V.tup [V.undef, V.f (F.lit (Value.int IntKind.i64 i237))], V.undef, V.undef, V.lent { slot := (5 : Nat), leaf := none } (1 : Nat) n238, V.f (F.lit (Value.int IntKind.i64 i239)), V.f (F.lit (Value.int IntKind.i64 i244)), V.undef]) r231 r232 i233 r234 i235 i237 n238 i239 n r236 i240
  | 0, _, _ => rfl
  | n + 1, r236, i240 => by
    simp only [ELp4_20, Lp4_20]
    congr 1
    funext r236 i240
    exact eqLp4_20 m R r231 r232 i233 r234 i235 i237 n238 i239 k n r236 i240
def L11 (m : Nat) : LTbl := addB 4 20 (brLp4_20 m (L10 m)) (L10 m)
theorem okL11 (m : Nat) : LTOk Try.prog H (L11 m) := addB_ok (okT20 m) hM (okL10 m) (l := [5, 6, 9, 10, 11, 12, 28, 38, 70, 72, 73, 79, 80, 81, 147]) (by kernel_rfl) (by kernel_rfl) m (fun R n vs k => ELp4_20 m R n vs k) (fun R vs k => rfl) (fun R n vs k x h => by
      simp only [ELp4_20] at h
      split at h
      · exact (stLp4_20 m n R _ _ _ _ _ _ _ _ _ _ k).trans h
      · cases h) fun R vs k x h => by
    unfold brLp4_20 at h
    split at h
    · exact .inl ((eqLp4_20 m R _ _ _ _ _ _ _ _ k m _ _).trans h)
    · exact .inr h

/-- a round of a loop of slices.Equal[[]byte,byte] -/
def Lp17_5_step {R : Type} (m : Nat) (kx0 : Bool → Int → Option R) (kx1 : Int → Option R) (r257 : Abs.Rows) (r258 : Abs.Rows) (b259 : Bool) (i260 : Int) (REC : Int → Option R) (i261 : Int) : Option R :=
  bif decide (i261 < i260) then (bif decide ((0 : Int) ≤ i261 ∧ i261 < (↑(List.length r257) : Int)) then (bif decide ((0 : Int) ≤ i261 ∧ i261 < (↑(List.length r258) : Int)) then (bif fI r257 (Int.toNat i261) (0 : Nat) != fI r258 (Int.toNat i261) (0 : Nat) then (kx0 false i261) else
  (REC (IntKind.wrap IntKind.i64 (i261 + (1 : Int))))) else
  (none)) else
  (none)) else
  (kx1 i261)
def Lp17_5 {R : Type} (m : Nat) (kx0 : Bool → Int → Option R) (kx1 : Int → Option R) (r257 : Abs.Rows) (r258 : Abs.Rows) (b259 : Bool) (i260 : Int) : Nat → Int → Option R
  | 0, _ => none
  | n + 1, i261 => Lp17_5_step m kx0 kx1 r257 r258 b259 i260 (Lp17_5 m kx0 kx1 r257 r258 b259 i260 n) i261
def ELp17_5 (m : Nat) (R : Type) : Nat → List V → (Ex → List V → Option R) → Option R
  | 0, _, _ => none
  | n + 1, vs, k => match vs with
    | [V.bor [LT.int IntKind.u8] r257, V.bor [LT.int IntKind.u8] r258, V.f (F.lit (Value.bool b259)), V.f (F.lit (Value.int IntKind.i64 i260)), V.f (F.lit (Value.int IntKind.i64 i261)), V.undef, V.undef] => Lp17_5_step m (fun b262 i263 => k Ex.ret [V.bor [LT.int IntKind.u8] r257, V.bor [LT.int IntKind.u8] r258, V.f (F.lit (Value.bool b262)), V.f (F.lit (Value.int IntKind.i64 i260)), V.f (F.lit (Value.int IntKind.i64 i263)), V.undef, V.undef]) (fun i264 => k (Ex.exit (0 : Nat)) [V.bor [LT.int IntKind.u8] r257, V.bor [LT.int IntKind.u8] r258, V.f (F.lit (Value.bool b259)), V.f (F.lit (Value.int IntKind.i64 i260)), V.f (F.lit (Value.int IntKind.i64 i264)), V.undef, V.undef]) r257 r258 b259 i260 (fun i261 => ELp17_5 m R n [V.bor [LT.int IntKind.u8] r257, V.bor [LT.int IntKind.u8] r258, V.f (F.lit (Value.bool b259)), V.f (F.lit (Value.int IntKind.i64 i260)), V.f (F.lit (Value.int IntKind.i64 i261)), V.undef, V.undef] k) i261
    | _ => none
def brLp17_5 (m : Nat) (L : LTbl) (R : Type) (vs : List V) (k : Ex → List V → Option R) : Option R := match vs with
  | [V.bor [LT.int IntKind.u8] r257, V.bor [LT.int IntKind.u8] r258, V.f (F.lit (Value.bool b259)), V.f (F.lit (Value.int IntKind.i64 i260)), V.f (F.lit (Value.int IntKind.i64 i261)), V.undef, V.undef] => Lp17_5 m (fun b262 i263 => k Ex.ret [V.bor [LT.int IntKind.u8] r257, V.bor [LT.int IntKind.u8] r258, V.f (F.lit (Value.bool b262)), V.f (F.lit (Value.int IntKind.i64 i260)), V.f (F.lit (Value.int IntKind.i64 i263)), V.undef, V.undef]) (fun i264 => k (Ex.exit (0 : Nat)) [V.bor [LT.int IntKind.u8] r257, V.bor [LT.int IntKind.u8] r258, V.f (F.lit (Value.bool b259)), V.f (F.lit (Value.int IntKind.i64 i260)), V.f (F.lit (Value.int IntKind.i64 i264)), V.undef, V.undef]) r257 r258 b259 i260 m i261
  | _ => L R 17 5 vs k
set_option maxRecDepth 100000 in
theorem stLp17_5 (m n : Nat) (R : Type) (r257 : Abs.Rows) (r258 : Abs.Rows) (b259 : Bool) (i260 : Int) (i261 : Int) (k : Ex → List V → Option R) : codeK Try.prog H (T20 m) 17 (L11 m) 6 (loopBody Try.prog 17 5) (mkEnv [0, 1, 4, 12, 13, 26, 27] [V.bor [LT.int IntKind.u8] r257, V.bor [LT.int IntKind.u8] r258, V.f (F.lit (Value.bool b259)), V.f (F.lit (Value.int IntKind.i64 i260)), V.f (F.lit (Value.int IntKind.i64 i261)), V.undef, V.undef] 0 (H.len 17)) (fun e env' => match e with | .normal => ELp17_5 m R n (vals [0, 1, 4, 12, 13, 26, 27] env') k | e => k e (vals [0, 1, 4, 12, 13, 26, 27] env')) = Lp17_5_step m (fun b262 i263 => k Ex.ret [V.bor [LT.int IntKind.u8] r257, V.bor [LT.int IntKind.u8] r258, V.f (F.lit (Value.bool b262)), V.f (F.lit (Value.int IntKind.i64 i260)), V.f (F.lit (Value.int IntKind.i64 i263)), V.undef, V.undef]) (fun i264 => k (Ex.exit (0 : Nat)) [V.bor [LT.int IntKind.u8] r257, V.bor [LT.int IntKind.u8] r258, V.f (F.lit (Value.bool b259)), V.f (F.lit (Value.int IntKind.i64 i260)), V.f (F.lit (Value.int IntKind.i64 i264)), V.undef, V.undef]) r257 r258 b259 i260 (fun i261 => ELp17_5 m R n [V.bor [LT.int IntKind.u8] r257, V.bor [LT.int IntKind.u8] r258, V.f (F.lit (Value.bool b259)), V.f (F.lit (Value.int IntKind.i64 i260)), V.f (F.lit (Value.int IntKind.i64 i261)), V.undef, V.undef] k) i261 := by kernel_rfl
theorem eqLp17_5 (m : Nat) (R : Type) (r257 : Abs.Rows) (r258 : Abs.Rows) (b259 : Bool) (i260 : Int) (k : Ex → List V → Option R) : ∀ (n : Nat) (i261 : Int), ELp17_5 m R n [V.bor [LT.int IntKind.u8] r257, V.bor [LT.int IntKind.u8] r258, V.f (F.lit (Value.bool b259)), V.f (F.lit (Value.int IntKind.i64 i260)), V.f (F.lit (Value.int IntKind.i64 i261)), V.undef, V.undef] k = Lp17_5 m (fun b262 i263 => k Ex.ret [V.bor [LT.int IntKind.u8] r257, V.bor [LT.int IntKind.u8] r258, V.f (F.lit (Value.bool b262)), V.f (F.lit (Value.int IntKind.i64 i260)), V.f (F.lit (Value.int IntKind.i64 i263)), V.undef, V.undef]) (fun i264 => k (Ex.exit (0 : Nat)) [V.bor [LT.int IntKind.u8] r257, V.bor [LT.int IntKind.u8] r258, V.f (F.lit (Value.bool b259)), V.f (F.lit (Value.int IntKind.i64 i260)), V.f (F.lit (Value.int IntKind.i64 i264)), V.undef, V.undef]) r257 r258 b259 i260 n i261
  | 0, _ => rfl
  | n + 1, i261 => by
    simp only [ELp17_5, Lp17_5]
    congr 1
    funext i261
    exact eqLp17_5 m R r257 r258 b259 i260 k n i261
def L12 (m : Nat) : LTbl := addB 17 5 (brLp17_5 m (L11 m)) (L11 m)
theorem okL12 (m : Nat) : LTOk Try.prog H (L12 m) := addB_ok (okT20 m) hM (okL11 m) (l := [0, 1, 4, 12, 13, 26, 27]) (by kernel_rfl) (by kernel_rfl) m (fun R n vs k => ELp17_5 m R n vs k) (fun R vs k => rfl) (fun R n vs k x h => by
      simp only [ELp17_5] at h
      split at h
      · exact (stLp17_5 m n R _ _ _ _ _ k).trans h
      · cases h) fun R vs k x h => by
    unfold brLp17_5 at h
    split at h
    · exact .inl ((eqLp17_5 m R _ _ _ _ k m _).trans h)
    · exact .inr h

/-- slices.Equal[[]byte,byte] -/
def Fn17 {R : Type} (m : Nat) : Abs.Rows → Abs.Rows → (Bool → Option R) → Option R := match m with
  | 0 => fun _ _ _ => none
  | m + 1 => fun r255 r256 k =>
  bif (↑(List.length r255) : Int) != (↑(List.length r256) : Int) then (k false) else
  (Lp17_5 m (fun b265 i266 => k b265) (fun i267 => k true) r255 r256 false ((↑(List.length r255) : Int)) m ((0 : Int)))
def brFn17 (m : Nat) (T : Tbl) (R : Type) (vs : List V) (k : V → List V → Option R) : Option R := match vs with
  | [V.bor [LT.int IntKind.u8] r255, V.bor [LT.int IntKind.u8] r256] => Fn17 m r255 r256 (fun b268 => k (V.f (F.lit (Value.bool b268))) [V.undef, V.undef])
  | _ => T R 17 vs k
set_option maxRecDepth 100000 in
theorem evFn17 (m : Nat) (R : Type) (r255 : Abs.Rows) (r256 : Abs.Rows) (k : V → List V → Option R) : runK Try.prog H (T20 m) (L12 m) 17 [V.bor [LT.int IntKind.u8] r255, V.bor [LT.int IntKind.u8] r256] k = Fn17 (m + 1) r255 r256 (fun b268 => k (V.f (F.lit (Value.bool b268))) [V.undef, V.undef]) := by kernel_rfl
def T21 (m : Nat) : Tbl := addT 17 (brFn17 m (T20 m)) (T20 m)
theorem okT21 (m : Nat) : TblOk Try.prog (T21 m) := addT_ok (okT20 m) fun R vs k x h => by
  unfold brFn17 at h
  split at h
  · cases m with
    | zero => cases h
    | succ m => exact runK_some (okT20 m) hM (okL12 m) ((evFn17 m R _ _ k).trans h)
  · exact okT20 m R 17 _ k x h

/-- hookflash/media.Expand -/
def Fn32 {R : Type} (m : Nat) : Int → (Int → Option R) → Option R := match m with
  | 0 => fun _ _ => none
  | m + 1 => fun i277 k =>
  bif decide ((0 : Int) ≤ Int.tmod (IntKind.wrap IntKind.i64 (Int.tdiv (IntKind.wrap IntKind.i64 ((255 : Int) - IntKind.wrap IntKind.i64 i277)) (16 : Int))) (8 : Int)) then (letV (IntKind.wrap IntKind.i64 (IntKind.wrap IntKind.i64 (IntKind.wrap IntKind.i64 ((2 : Int) * Int.tmod (IntKind.wrap IntKind.i64 ((255 : Int) - IntKind.wrap IntKind.i64 i277)) (16 : Int)) + (33 : Int)) * (2 : Int) ^ min (Int.toNat (Int.tmod (IntKind.wrap IntKind.i64 (Int.tdiv (IntKind.wrap IntKind.i64 ((255 : Int) - IntKind.wrap IntKind.i64 i277)) (16 : Int))) (8 : Int))) (64 : Nat))) (fun i278 => bif IntKind.wrap IntKind.i64 (Int.tdiv (IntKind.wrap IntKind.i64 ((255 : Int) - IntKind.wrap IntKind.i64 i277)) (128 : Int)) == (1 : Int) then (k (IntKind.wrap IntKind.i64 (IntKind.wrap IntKind.i64 ((0 : Int) - IntKind.wrap IntKind.i64 (IntKind.wrap IntKind.i64 (i278 - (33 : Int)) * (4 : Int))) - (1 : Int)))) else
  (k (IntKind.wrap IntKind.i64 (IntKind.wrap IntKind.i64 (i278 - (33 : Int)) * (4 : Int)))))) else
  (none)
def brFn32 (m : Nat) (T : Tbl) (R : Type) (vs : List V) (k : V → List V → Option R) : Option R := match vs with
  | [V.f (F.lit (Value.int IntKind.u8 i277))] => Fn32 m i277 (fun i279 => k (V.f (F.lit (Value.int IntKind.i64 i279))) [V.undef])
  | _ => T R 32 vs k
set_option maxRecDepth 100000 in
theorem evFn32 (m : Nat) (R : Type) (i277 : Int) (k : V → List V → Option R) : runK Try.prog H (T21 m) (L12 m) 32 [V.f (F.lit (Value.int IntKind.u8 i277))] k = Fn32 (m + 1) i277 (fun i279 => k (V.f (F.lit (Value.int IntKind.i64 i279))) [V.undef]) := by kernel_rfl
def T22 (m : Nat) : Tbl := addT 32 (brFn32 m (T21 m)) (T21 m)
theorem okT22 (m : Nat) : TblOk Try.prog (T22 m) := addT_ok (okT21 m) fun R vs k x h => by
  unfold brFn32 at h
  split at h
  · cases m with
    | zero => cases h
    | succ m => exact runK_some (okT21 m) hM (okL12 m) ((evFn32 m R _ k).trans h)
  · exact okT21 m R 32 _ k x h

/-- a round of a loop of hookflash/media.Great -/
def Lp30_6_step {R : Type} (m : Nat) (kx0 : Abs.Rows → Int → Option R) (r272 : Abs.Rows) (r274 : Abs.Rows) (i275 : Int) (REC : Abs.Rows → Int → Option R) (r273 : Abs.Rows) (i276 : Int) : Option R :=
  bif decide (i276 < i275) then (bif decide ((0 : Int) ≤ i276 ∧ i276 < (↑(List.length r274) : Int)) then (Fn32 m (fI r274 (Int.toNat i276) (0 : Nat)) (fun i280 => bif decide ((0 : Int) ≤ i276 ∧ i276 < (↑(List.length r273) : Int)) then (REC (stR [LT.int IntKind.i64] r273 (Int.toNat i276) (0 : Nat) [F.lit (Value.int IntKind.i64 i280)]) (IntKind.wrap IntKind.i64 (i276 + (1 : Int)))) else
  (none))) else
  (none)) else
  (kx0 r273 i276)
def Lp30_6 {R : Type} (m : Nat) (kx0 : Abs.Rows → Int → Option R) (r272 : Abs.Rows) (r274 : Abs.Rows) (i275 : Int) : Nat → Abs.Rows → Int → Option R
  | 0, _, _ => none
  | n + 1, r273, i276 => Lp30_6_step m kx0 r272 r274 i275 (Lp30_6 m kx0 r272 r274 i275 n) r273 i276
def ELp30_6 (m : Nat) (R : Type) : Nat → List V → (Ex → List V → Option R) → Option R
  | 0, _, _ => none
  | n + 1, vs, k => match vs with
    | [V.bor [LT.int IntKind.u8] r272, V.own [LT.int IntKind.i64] r273, V.undef, V.bor [LT.int IntKind.u8] r274, V.f (F.lit (Value.int IntKind.i64 i275)), V.f (F.lit (Value.int IntKind.i64 i276)), V.undef] => Lp30_6_step m (fun r281 i282 => k (Ex.exit (0 : Nat)) [V.bor [LT.int IntKind.u8] r272, V.own [LT.int IntKind.i64] r281, V.undef, V.bor [LT.int IntKind.u8] r274, V.f (F.lit (Value.int IntKind.i64 i275)), V.f (F.lit (Value.int IntKind.i64 i282)), V.undef]) r272 r274 i275 (fun r273 i276 => ELp30_6 m R n [V.bor [LT.int IntKind.u8] r272, V.own [LT.int IntKind.i64] r273, V.undef, V.bor [LT.int IntKind.u8] r274, V.f (F.lit (Value.int IntKind.i64 i275)), V.f (F.lit (Value.int IntKind.i64 i276)), V.undef] k) r273 i276
    | _ => none
def brLp30_6 (m : Nat) (L : LTbl) (R : Type) (vs : List V) (k : Ex → List V → Option R) : Option R := match vs with
  | [V.bor [LT.int IntKind.u8] r272, V.own [LT.int IntKind.i64] r273, V.undef, V.bor [LT.int IntKind.u8] r274, V.f (F.lit (Value.int IntKind.i64 i275)), V.f (F.lit (Value.int IntKind.i64 i276)), V.undef] => Lp30_6 m (fun r281 i282 => k (Ex.exit (0 : Nat)) [V.bor [LT.int IntKind.u8] r272, V.own [LT.int IntKind.i64] r281, V.undef, V.bor [LT.int IntKind.u8] r274, V.f (F.lit (Value.int IntKind.i64 i275)), V.f (F.lit (Value.int IntKind.i64 i282)), V.undef]) r272 r274 i275 m r273 i276
  | _ => L R 30 6 vs k
set_option maxRecDepth 100000 in
theorem stLp30_6 (m n : Nat) (R : Type) (r272 : Abs.Rows) (r273 : Abs.Rows) (r274 : Abs.Rows) (i275 : Int) (i276 : Int) (k : Ex → List V → Option R) : codeK Try.prog H (T22 m) 30 (L12 m) 7 (loopBody Try.prog 30 6) (mkEnv [0, 4, 12, 13, 14, 15, 27] [V.bor [LT.int IntKind.u8] r272, V.own [LT.int IntKind.i64] r273, V.undef, V.bor [LT.int IntKind.u8] r274, V.f (F.lit (Value.int IntKind.i64 i275)), V.f (F.lit (Value.int IntKind.i64 i276)), V.undef] 0 (H.len 30)) (fun e env' => match e with | .normal => ELp30_6 m R n (vals [0, 4, 12, 13, 14, 15, 27] env') k | e => k e (vals [0, 4, 12, 13, 14, 15, 27] env')) = Lp30_6_step m (fun r281 i282 => k (Ex.exit (0 : Nat)) [V.bor [LT.int IntKind.u8] r272, V.own [LT.int IntKind.i64] r281, V.undef, V.bor [LT.int IntKind.u8] r274, V.f (F.lit (Value.int IntKind.i64 i275)), V.f (F.lit (Value.int IntKind.i64 i282)), V.undef]) r272 r274 i275 (fun r273 i276 => ELp30_6 m R n [V.bor [LT.int IntKind.u8] r272, V.own [LT.int IntKind.i64] r273, V.undef, V.bor [LT.int IntKind.u8] r274, V.f (F.lit (Value.int IntKind.i64 i275)), V.f (F.lit (Value.int IntKind.i64 i276)), V.undef] k) r273 i276 := by kernel_rfl
theorem eqLp30_6 (m : Nat) (R : Type) (r272 : Abs.Rows) (r274 : Abs.Rows) (i275 : Int) (k : Ex → List V → Option R) : ∀ (n : Nat) (r273 : Abs.Rows) (i276 : Int), ELp30_6 m R n [V.bor [LT.int IntKind.u8] r272, V.own [LT.int IntKind.i64] r273, V.undef, V.bor [LT.int IntKind.u8] r274, V.f (F.lit (Value.int IntKind.i64 i275)), V.f (F.lit (Value.int IntKind.i64 i276)), V.undef] k = Lp30_6 m (fun r281 i282 => k (Ex.exit (0 : Nat)) [V.bor [LT.int IntKind.u8] r272, V.own [LT.int IntKind.i64] r281, V.undef, V.bor [LT.int IntKind.u8] r274, V.f (F.lit (Value.int IntKind.i64 i275)), V.f (F.lit (Value.int IntKind.i64 i282)), V.undef]) r272 r274 i275 n r273 i276
  | 0, _, _ => rfl
  | n + 1, r273, i276 => by
    simp only [ELp30_6, Lp30_6]
    congr 1
    funext r273 i276
    exact eqLp30_6 m R r272 r274 i275 k n r273 i276
def L13 (m : Nat) : LTbl := addB 30 6 (brLp30_6 m (L12 m)) (L12 m)
theorem okL13 (m : Nat) : LTOk Try.prog H (L13 m) := addB_ok (okT22 m) hM (okL12 m) (l := [0, 4, 12, 13, 14, 15, 27]) (by kernel_rfl) (by kernel_rfl) m (fun R n vs k => ELp30_6 m R n vs k) (fun R vs k => rfl) (fun R n vs k x h => by
      simp only [ELp30_6] at h
      split at h
      · exact (stLp30_6 m n R _ _ _ _ _ k).trans h
      · cases h) fun R vs k x h => by
    unfold brLp30_6 at h
    split at h
    · exact .inl ((eqLp30_6 m R _ _ _ k m _ _).trans h)
    · exact .inr h

/-- hookflash/media.Great -/
def Fn30 {R : Type} (m : Nat) : Abs.Rows → (Abs.Rows → Int → Option R) → Option R := match m with
  | 0 => fun _ _ => none
  | m + 1 => fun r271 k =>
  bif decide ((↑(List.length r271) : Int) > (20000 : Int)) then (k rows0 ((2 : Int))) else
  (bif decide ((0 : Int) ≤ (↑(List.length r271) : Int) ∧ (↑(List.length r271) : Int) ≤ (↑(List.length r271) : Int) ∧ (↑(List.length r271) : Int) ≤ (↑rowMax : Int)) then (Lp30_6 m (fun r283 i284 => k r283 ((0 : Int))) r271 r271 ((↑(List.length r271) : Int)) m (List.replicate (Int.toNat (↑(List.length r271) : Int)) [F.lit (Value.int IntKind.i64 (0 : Int))]) ((0 : Int))) else
  (none))
def brFn30 (m : Nat) (T : Tbl) (R : Type) (vs : List V) (k : V → List V → Option R) : Option R := match vs with
  | [V.bor [LT.int IntKind.u8] r271] => Fn30 m r271 (fun r285 i286 => k (V.tup [V.own [LT.int IntKind.i64] r285, V.f (F.lit (Value.int IntKind.i64 i286))]) [V.undef])
  | _ => T R 30 vs k
set_option maxRecDepth 100000 in
theorem evFn30 (m : Nat) (R : Type) (r271 : Abs.Rows) (k : V → List V → Option R) : runK Try.prog H (T22 m) (L13 m) 30 [V.bor [LT.int IntKind.u8] r271] k = Fn30 (m + 1) r271 (fun r285 i286 => k (V.tup [V.own [LT.int IntKind.i64] r285, V.f (F.lit (Value.int IntKind.i64 i286))]) [V.undef]) := by kernel_rfl
def T23 (m : Nat) : Tbl := addT 30 (brFn30 m (T22 m)) (T22 m)
theorem okT23 (m : Nat) : TblOk Try.prog (T23 m) := addT_ok (okT22 m) fun R vs k x h => by
  unfold brFn30 at h
  split at h
  · cases m with
    | zero => cases h
    | succ m => exact runK_some (okT22 m) hM (okL13 m) ((evFn30 m R _ k).trans h)
  · exact okT22 m R 30 _ k x h

/-- hookflash/flashref2.ExpandOf -/
def Fn31 {R : Type} (m : Nat) : Int → (Int → Option R) → Option R := match m with
  | 0 => fun _ _ => none
  | m + 1 => fun i296 k =>
  bif decide ((0 : Int) ≤ Int.tmod (IntKind.wrap IntKind.i64 (Int.tdiv (IntKind.wrap IntKind.i64 ((255 : Int) - IntKind.wrap IntKind.i64 i296)) (16 : Int))) (8 : Int)) then (letV (IntKind.wrap IntKind.i64 (IntKind.wrap IntKind.i64 (IntKind.wrap IntKind.i64 ((2 : Int) * Int.tmod (IntKind.wrap IntKind.i64 ((255 : Int) - IntKind.wrap IntKind.i64 i296)) (16 : Int)) + (33 : Int)) * (2 : Int) ^ min (Int.toNat (Int.tmod (IntKind.wrap IntKind.i64 (Int.tdiv (IntKind.wrap IntKind.i64 ((255 : Int) - IntKind.wrap IntKind.i64 i296)) (16 : Int))) (8 : Int))) (64 : Nat))) (fun i297 => bif decide (IntKind.wrap IntKind.i64 ((255 : Int) - IntKind.wrap IntKind.i64 i296) ≥ (128 : Int)) then (k (IntKind.wrap IntKind.i64 (IntKind.wrap IntKind.i64 ((0 : Int) - IntKind.wrap IntKind.i64 (IntKind.wrap IntKind.i64 (i297 - (33 : Int)) * (4 : Int))) - (1 : Int)))) else
  (k (IntKind.wrap IntKind.i64 (IntKind.wrap IntKind.i64 (i297 - (33 : Int)) * (4 : Int)))))) else
  (none)
def brFn31 (m : Nat) (T : Tbl) (R : Type) (vs : List V) (k : V → List V → Option R) : Option R := match vs with
  | [V.f (F.lit (Value.int IntKind.u8 i296))] => Fn31 m i296 (fun i298 => k (V.f (F.lit (Value.int IntKind.i64 i298))) [V.undef])
  | _ => T R 31 vs k
set_option maxRecDepth 100000 in
theorem evFn31 (m : Nat) (R : Type) (i296 : Int) (k : V → List V → Option R) : runK Try.prog H (T23 m) (L13 m) 31 [V.f (F.lit (Value.int IntKind.u8 i296))] k = Fn31 (m + 1) i296 (fun i298 => k (V.f (F.lit (Value.int IntKind.i64 i298))) [V.undef]) := by kernel_rfl
def T24 (m : Nat) : Tbl := addT 31 (brFn31 m (T23 m)) (T23 m)
theorem okT24 (m : Nat) : TblOk Try.prog (T24 m) := addT_ok (okT23 m) fun R vs k x h => by
  unfold brFn31 at h
  split at h
  · cases m with
    | zero => cases h
    | succ m => exact runK_some (okT23 m) hM (okL13 m) ((evFn31 m R _ k).trans h)
  · exact okT23 m R 31 _ k x h

/-- a round of a loop of hookflash/flashlaw2.SamplesCompress -/
def Lp4_31_step {R : Type} (m : Nat) (kx0 : Bool → Int → Option R) (kx1 : Int → Option R) (r289 : Abs.Rows) (r290 : Abs.Rows) (i291 : Int) (i292 : Int) (n293 : Nat) (i294 : Int) (REC : Int → Option R) (i295 : Int) : Option R :=
  bif decide (i295 < i294) then (bif decide ((0 : Int) ≤ i295 ∧ i295 < (↑n293 : Int)) then (bif i291 != (0 : Int) then (kx0 false i295) else
  (bif (↑(List.length r290) : Int) != (↑(List.length r289) : Int) then (kx0 false i295) else
  (bif decide ((0 : Int) ≤ i295 ∧ i295 < (↑(List.length r290) : Int)) then (Fn31 m (fI r289 (Int.toNat i295) (0 : Nat)) (fun i299 => bif fI r290 (Int.toNat i295) (0 : Nat) != i299 then (kx0 false i295) else
  (Fn32 m (fI r289 (Int.toNat i295) (0 : Nat)) (fun i300 => bif decide ((0 : Int) ≤ i295 ∧ i295 < (↑(List.length r290) : Int)) then (bif i300 != fI r290 (Int.toNat i295) (0 : Nat) then (kx0 false i295) else
  (REC (IntKind.wrap IntKind.i64 (i295 + (1 : Int))))) else
  (none))))) else
  (none)))) else
  (none)) else
  (kx1 i295)
def Lp4_31 {R : Type} (m : Nat) (kx0 : Bool → Int → Option R) (kx1 : Int → Option R) (r289 : Abs.Rows) (r290 : Abs.Rows) (i291 : Int) (i292 : Int) (n293 : Nat) (i294 : Int) : Nat → Int → Option R
  | 0, _ => none
  | n + 1, i295 => Lp4_31_step m kx0 kx1 r289 r290 i291 i292 n293 i294 (Lp4_31 m kx0 kx1 r289 r290 i291 i292 n293 i294 n) i295
def ELp4_31 (m : Nat) (R : Type) : Nat → List V → (Ex → List V → Option R) → Option R
  | 0, _, _ => none
  | n + 1, vs, k => match vs with
    | [V.undef, V.own [LT.int IntKind.u8] r289, V.own [LT.int IntKind.i64] r290, V.f (F.lit (Value.int IntKind.i64 i291)), V.undef, V.tup [V.undef, V.f (F.lit (Value.int IntKind.i64 i292))], V.undef, V.undef, V.lent { slot := (6 : Nat), leaf := none } (1 : Nat) n293, V.f (F.lit (Value.int IntKind.i64 i294)), V.f (F.lit (Value.int IntKind.i64 i295)), V.undef] => Lp4_31_step m (fun b301 i302 => k Ex.ret [V.f (F.lit (Value.bool b301)), V.own [LT.int IntKind.u8] r289, V.own [LT.int IntKind.i64] r290, V.f (F.lit (Value.int IntKind.i64 i291)), V.undef, V.tup [V.undef, V.f (F.lit (Value.int IntKind.i64 i292))], V.undef, V.undef, V.lent { slot := (6 : Nat), leaf := none } (1 : Nat) n293, V.f (F.lit (Value.int IntKind.i64 i294)), V.f (F.lit (Value.int IntKind.i64 i302)), V.undef]) (fun i303 => k (Ex.exit (4 : Nat)) [V.undef, V.own [LT.int IntKind.u8] r289, V.own [LT.int IntKind.i64] r290, V.f (F.lit (Value.int IntKind.i64 i291)), V.undef, V.tup [V.undef, V.f (F.lit (Value.int IntKind.i64 i292))], V.undef, V.undef, V.lent { slot := (6 : Nat), leaf := none } (1 : Nat) n293, V.f (F.lit (Value.int IntKind.i64 i294)), V.f (F.lit (Value.int IntKind.i64 i303)), V.undef]) r289 r290 i291 i292 n293 i294 (fun i295 => ELp4_31 m R n [V.undef, V.own [LT.int IntKind.u8] r289, V.own [LT.int IntKind.i64] r290, V.f (F.lit (Value.int IntKind.i64 i291)), V.undef, V.tup [V.undef, V.f (F.lit (Value.int IntKind.i64 i292))], V.undef, V.undef, V.lent { slot := (6 : Nat), leaf := none } (1 : Nat) n293, V.f (F.lit (Value.int IntKind.i64 i294)), V.f (F.lit (Value.int IntKind.i64 i295)), V.undef] k) i295
    | _ => none
def brLp4_31 (m : Nat) (L : LTbl) (R : Type) (vs : List V) (k : Ex → List V → Option R) : Option R := match vs with
  | [V.undef, V.own [LT.int IntKind.u8] r289, V.own [LT.int IntKind.i64] r290, V.f (F.lit (Value.int IntKind.i64 i291)), V.undef, V.tup [V.undef, V.f (F.lit (Value.int IntKind.i64 i292))], V.undef, V.undef, V.lent { slot := (6 : Nat), leaf := none } (1 : Nat) n293, V.f (F.lit (Value.int IntKind.i64 i294)), V.f (F.lit (Value.int IntKind.i64 i295)), V.undef] => Lp4_31 m (fun b301 i302 => k Ex.ret [V.f (F.lit (Value.bool b301)), V.own [LT.int IntKind.u8] r289, V.own [LT.int IntKind.i64] r290, V.f (F.lit (Value.int IntKind.i64 i291)), V.undef, V.tup [V.undef, V.f (F.lit (Value.int IntKind.i64 i292))], V.undef, V.undef, V.lent { slot := (6 : Nat), leaf := none } (1 : Nat) n293, V.f (F.lit (Value.int IntKind.i64 i294)), V.f (F.lit (Value.int IntKind.i64 i302)), V.undef]) (fun i303 => k (Ex.exit (4 : Nat)) [V.undef, V.own [LT.int IntKind.u8] r289, V.own [LT.int IntKind.i64] r290, V.f (F.lit (Value.int IntKind.i64 i291)), V.undef, V.tup [V.undef, V.f (F.lit (Value.int IntKind.i64 i292))], V.undef, V.undef, V.lent { slot := (6 : Nat), leaf := none } (1 : Nat) n293, V.f (F.lit (Value.int IntKind.i64 i294)), V.f (F.lit (Value.int IntKind.i64 i303)), V.undef]) r289 r290 i291 i292 n293 i294 m i295
  | _ => L R 4 31 vs k
set_option maxRecDepth 100000 in
theorem stLp4_31 (m n : Nat) (R : Type) (r289 : Abs.Rows) (r290 : Abs.Rows) (i291 : Int) (i292 : Int) (n293 : Nat) (i294 : Int) (i295 : Int) (k : Ex → List V → Option R) : codeK Try.prog H (T24 m) 4 (L13 m) 32 (loopBody Try.prog 4 31) (mkEnv [2, 6, 15, 16, 38, 106, 108, 109, 111, 112, 113, 147] [V.undef, V.own [LT.int IntKind.u8] r289, V.own [LT.int IntKind.i64] r290, V.f (F.lit (Value.int IntKind.i64 i291)), V.undef, V.tup [V.undef, V.f (F.lit (Value.int IntKind.i64 i292))], V.undef, V.undef, V.lent { slot := (6 : Nat), leaf := none } (1 : Nat) n293, V.f (F.lit (Value.int IntKind.i64 i294)), V.f (F.lit (Value.int IntKind.i64 i295)), V.undef] 0 (H.len 4)) (fun e env' => match e with | .normal => ELp4_31 m R n (vals [2, 6, 15, 16, 38, 106, 108, 109, 111, 112, 113, 147] env') k | e => k e (vals [2, 6, 15, 16, 38, 106, 108, 109, 111, 112, 113, 147] env')) = Lp4_31_step m (fun b301 i302 => k Ex.ret [V.f (F.lit (Value.bool b301)), V.own [LT.int IntKind.u8] r289, V.own [LT.int IntKind.i64] r290, V.f (F.lit (Value.int IntKind.i64 i291)), V.undef, V.tup [V.undef, V.f (F.lit (Value.int IntKind.i64 i292))], V.undef, V.undef, V.lent { slot := (6 : Nat), leaf := none } (1 : Nat) n293, V.f (F.lit (Value.int IntKind.i64 i294)), V.f (F.lit (Value.int IntKind.i64 i302)), V.undef]) (fun i303 => k (Ex.exit (4 : Nat)) [V.undef, V.own [LT.int IntKind.u8] r289, V.own [LT.int IntKind.i64] r290, V.f (F.lit (Value.int IntKind.i64 i291)), V.undef, V.tup [V.undef, V.f (F.lit (Value.int IntKind.i64 i292))], V.undef, V.undef, V.lent { slot := (6 : Nat), leaf := none } (1 : Nat) n293, V.f (F.lit (Value.int IntKind.i64 i294)), V.f (F.lit (Value.int IntKind.i64 i303)), V.undef]) r289 r290 i291 i292 n293 i294 (fun i295 => ELp4_31 m R n [V.undef, V.own [LT.int IntKind.u8] r289, V.own [LT.int IntKind.i64] r290, V.f (F.lit (Value.int IntKind.i64 i291)), V.undef, V.tup [V.undef, V.f (F.lit (Value.int IntKind.i64 i292))], V.undef, V.undef, V.lent { slot := (6 : Nat), leaf := none } (1 : Nat) n293, V.f (F.lit (Value.int IntKind.i64 i294)), V.f (F.lit (Value.int IntKind.i64 i295)), V.undef] k) i295 := by kernel_rfl
theorem eqLp4_31 (m : Nat) (R : Type) (r289 : Abs.Rows) (r290 : Abs.Rows) (i291 : Int) (i292 : Int) (n293 : Nat) (i294 : Int) (k : Ex → List V → Option R) : ∀ (n : Nat) (i295 : Int), ELp4_31 m R n [V.undef, V.own [LT.int IntKind.u8] r289, V.own [LT.int IntKind.i64] r290, V.f (F.lit (Value.int IntKind.i64 i291)), V.undef, V.tup [V.undef, V.f (F.lit (Value.int IntKind.i64 i292))], V.undef, V.undef, V.lent { slot := (6 : Nat), leaf := none } (1 : Nat) n293, V.f (F.lit (Value.int IntKind.i64 i294)), V.f (F.lit (Value.int IntKind.i64 i295)), V.undef] k = Lp4_31 m (fun b301 i302 => k Ex.ret [V.f (F.lit (Value.bool b301)), V.own [LT.int IntKind.u8] r289, V.own [LT.int IntKind.i64] r290, V.f (F.lit (Value.int IntKind.i64 i291)), V.undef, V.tup [V.undef, V.f (F.lit (Value.int IntKind.i64 i292))], V.undef, V.undef, V.lent { slot := (6 : Nat), leaf := none } (1 : Nat) n293, V.f (F.lit (Value.int IntKind.i64 i294)), V.f (F.lit (Value.int IntKind.i64 i302)), V.undef]) (fun i303 => k (Ex.exit (4 : Nat)) [V.undef, V.own [LT.int IntKind.u8] r289, V.own [LT.int IntKind.i64] r290, V.f (F.lit (Value.int IntKind.i64 i291)), V.undef, V.tup [V.undef, V.f (F.lit (Value.int IntKind.i64 i292))], V.undef, V.undef, V.lent { slot := (6 : Nat), leaf := none } (1 : Nat) n293, V.f (F.lit (Value.int IntKind.i64 i294)), V.f (F.lit (Value.int IntKind.i64 i303)), V.undef]) r289 r290 i291 i292 n293 i294 n i295
  | 0, _ => rfl
  | n + 1, i295 => by
    simp only [ELp4_31, Lp4_31]
    congr 1
    funext i295
    exact eqLp4_31 m R r289 r290 i291 i292 n293 i294 k n i295
def L14 (m : Nat) : LTbl := addB 4 31 (brLp4_31 m (L13 m)) (L13 m)
theorem okL14 (m : Nat) : LTOk Try.prog H (L14 m) := addB_ok (okT24 m) hM (okL13 m) (l := [2, 6, 15, 16, 38, 106, 108, 109, 111, 112, 113, 147]) (by kernel_rfl) (by kernel_rfl) m (fun R n vs k => ELp4_31 m R n vs k) (fun R vs k => rfl) (fun R n vs k x h => by
      simp only [ELp4_31] at h
      split at h
      · exact (stLp4_31 m n R _ _ _ _ _ _ _ k).trans h
      · cases h) fun R vs k x h => by
    unfold brLp4_31 at h
    split at h
    · exact .inl ((eqLp4_31 m R _ _ _ _ _ _ k m _).trans h)
    · exact .inr h

/-- hookflash/flashlaw2.sounded -/
def Fn19 {R : Type} (m : Nat) : (Bool → Option R) → Option R := match m with
  | 0 => fun _ => none
  | m + 1 => fun  k =>
  Fn32 m ((128 : Int)) (fun i307 => k (i307 == (32124 : Int)))
def brFn19 (m : Nat) (T : Tbl) (R : Type) (vs : List V) (k : V → List V → Option R) : Option R := match vs with
  | [] => Fn19 m  (fun b308 => k (V.f (F.lit (Value.bool b308))) [])
  | _ => T R 19 vs k
set_option maxRecDepth 100000 in
theorem evFn19 (m : Nat) (R : Type)  (k : V → List V → Option R) : runK Try.prog H (T24 m) (L14 m) 19 [] k = Fn19 (m + 1)  (fun b308 => k (V.f (F.lit (Value.bool b308))) []) := by kernel_rfl
def T25 (m : Nat) : Tbl := addT 19 (brFn19 m (T24 m)) (T24 m)
theorem okT25 (m : Nat) : TblOk Try.prog (T25 m) := addT_ok (okT24 m) fun R vs k x h => by
  unfold brFn19 at h
  split at h
  · cases m with
    | zero => cases h
    | succ m => exact runK_some (okT24 m) hM (okL14 m) ((evFn19 m R k).trans h)
  · exact okT24 m R 19 _ k x h

/-- a rest of hookflash/flashlaw2.SamplesCompress -/
def Jn4_28 {R : Type} (m : Nat) (kx0 : Bool → Option R) (r270 : Abs.Rows) : Option R :=
  Fn30 m r270 (fun r287 i288 => Lp4_31 m (fun b304 i305 => kx0 b304) (fun i306 => Fn19 m  (fun b309 => kx0 b309)) r270 r287 i288 i288 (List.length r270) ((↑(List.length r270) : Int)) m ((0 : Int)))
def brJn4_28 (m : Nat) (L : LTbl) (R : Type) (vs : List V) (k : Ex → List V → Option R) : Option R := match vs with
  | [V.undef, V.own [LT.int IntKind.u8] r270, V.undef, V.undef] => Jn4_28 m (fun b310 => k Ex.ret [V.f (F.lit (Value.bool b310)), V.own [LT.int IntKind.u8] r270, V.undef, V.undef]) r270
  | _ => L R 4 28 vs k
set_option maxRecDepth 100000 in
theorem evJn4_28 (m : Nat) (R : Type) (r270 : Abs.Rows) (k : Ex → List V → Option R) : codeK Try.prog H (T25 m) 4 (L14 m) 29 (loopBody Try.prog 4 28) (mkEnv [2, 6, 38, 147] [V.undef, V.own [LT.int IntKind.u8] r270, V.undef, V.undef] 0 (H.len 4)) (fun e env' => k e (vals [2, 6, 38, 147] env')) = Jn4_28 m (fun b310 => k Ex.ret [V.f (F.lit (Value.bool b310)), V.own [LT.int IntKind.u8] r270, V.undef, V.undef]) r270 := by kernel_rfl
def L15 (m : Nat) : LTbl := addJ 4 28 (brJn4_28 m (L14 m)) (L14 m)
theorem okL15 (m : Nat) : LTOk Try.prog H (L15 m) := addJ_ok (okT25 m) hM (okL14 m) (l := [2, 6, 38, 147]) (by kernel_rfl) (by kernel_rfl) fun R vs k x h => by
    unfold brJn4_28 at h
    split at h
    · exact .inl ((evJn4_28 m R _ k).trans h)
    · exact .inr h

/-- a rest of hookflash/flashlaw2.SamplesCompress -/
def Jn4_25 {R : Type} (m : Nat) (kx0 : Bool → Option R) (kx1 : Bool → Option R) (r247 : Abs.Rows) (r248 : Abs.Rows) (i249 : Int) (r250 : Abs.Rows) (i251 : Int) (r252 : Abs.Rows) (i253 : Int) : Option R :=
  Fn29 m r247 (fun i254 => bif i254 != i249 then (kx0 false) else
  (bif i251 != i249 then (kx0 false) else
  (Fn17 m r250 r252 (fun b269 => bif !b269 then (kx0 false) else
  (Jn4_28 m (fun b311 => kx1 b311) r248)))))
def brJn4_25 (m : Nat) (L : LTbl) (R : Type) (vs : List V) (k : Ex → List V → Option R) : Option R := match vs with
  | [V.undef, V.own [LT.int IntKind.i64] r247, V.own [LT.int IntKind.u8] r248, V.f (F.lit (Value.int IntKind.i64 i249)), V.own [LT.int IntKind.u8] r250, V.f (F.lit (Value.int IntKind.i64 i251)), V.own [LT.int IntKind.u8] r252, V.undef, V.undef, V.tup [V.undef, V.f (F.lit (Value.int IntKind.i64 i253))], V.undef, V.undef, V.undef, V.undef] => Jn4_25 m (fun b312 => k Ex.ret [V.f (F.lit (Value.bool b312)), V.own [LT.int IntKind.i64] r247, V.own [LT.int IntKind.u8] r248, V.f (F.lit (Value.int IntKind.i64 i249)), V.own [LT.int IntKind.u8] r250, V.f (F.lit (Value.int IntKind.i64 i251)), V.own [LT.int IntKind.u8] r252, V.undef, V.undef, V.tup [V.undef, V.f (F.lit (Value.int IntKind.i64 i253))], V.undef, V.undef, V.undef, V.undef]) (fun b313 => k Ex.ret [V.f (F.lit (Value.bool b313)), V.undef, V.own [LT.int IntKind.u8] r248, V.undef, V.undef, V.undef, V.undef, V.undef, V.undef, V.undef, V.undef, V.undef, V.undef, V.undef]) r247 r248 i249 r250 i251 r252 i253
  | _ => L R 4 25 vs k
set_option maxRecDepth 100000 in
theorem evJn4_25 (m : Nat) (R : Type) (r247 : Abs.Rows) (r248 : Abs.Rows) (i249 : Int) (r250 : Abs.Rows) (i251 : Int) (r252 : Abs.Rows) (i253 : Int) (k : Ex → List V → Option R) : codeK Try.prog H (T25 m) 4 (L15 m) 26 (loopBody Try.prog 4 25) (mkEnv [2, 5, 6, 9, 10, 11, 12, 28, 38, 70, 72, 73, 89, 147] [V.undef, V.own [LT.int IntKind.i64] r247, V.own [LT.int IntKind.u8] r248, V.f (F.lit (Value.int IntKind.i64 i249)), V.own [LT.int IntKind.u8] r250, V.f (F.lit (Value.int IntKind.i64 i251)), V.own [LT.int IntKind.u8] r252, V.undef, V.undef, V.tup [V.undef, V.f (F.lit (Value.int IntKind.i64 i253))], V.undef, V.undef, V.undef, V.undef] 0 (H.len 4)) (fun e env' => k e (vals [2, 5, 6, 9, 10, 11, 12, 28, 38, 70, 72, 73, 89, 147] env')) = Jn4_25 m (fun b312 => k Ex.ret [V.f (F.lit (Value.bool b312)), V.own [LT.int IntKind.i64] r247, V.own [LT.int IntKind.u8] r248, V.f (F.lit (Value.int IntKind.i64 i249)), V.own [LT.int IntKind.u8] r250, V.f (F.lit (Value.int IntKind.i64 i251)), V.own [LT.int IntKind.u8] r252, V.undef, V.undef, V.tup [V.undef, V.f (F.lit (Value.int IntKind.i64 i253))], V.undef, V.undef, V.undef, V.undef]) (fun b313 => k Ex.ret [V.f (F.lit (Value.bool b313)), V.undef, V.own [LT.int IntKind.u8] r248, V.undef, V.undef, V.undef, V.undef, V.undef, V.undef, V.undef, V.undef, V.undef, V.undef, V.undef]) r247 r248 i249 r250 i251 r252 i253 := by kernel_rfl
def L16 (m : Nat) : LTbl := addJ 4 25 (brJn4_25 m (L15 m)) (L15 m)
theorem okL16 (m : Nat) : LTOk Try.prog H (L16 m) := addJ_ok (okT25 m) hM (okL15 m) (l := [2, 5, 6, 9, 10, 11, 12, 28, 38, 70, 72, 73, 89, 147]) (by kernel_rfl) (by kernel_rfl) fun R vs k x h => by
    unfold brJn4_25 at h
    split at h
    · exact .inl ((evJn4_25 m R _ _ _ _ _ _ _ k).trans h)
    · exact .inr h

/-- a rest of hookflash/flashlaw2.SamplesCompress -/
def Jn4_14 {R : Type} (m : Nat) (kx0 : Bool → Option R) (kx1 : Bool → Option R) (r175 : Abs.Rows) (r176 : Abs.Rows) : Option R :=
  Fn27 m r175 (fun r206 i207 => Fn28 m r175 (fun i230 => bif i230 == (0 : Int) then (Lp4_20 m (fun r245 i246 => Jn4_25 m (fun b314 => kx0 b314) (fun b315 => kx1 b315) r175 r176 i230 r206 i207 r245 i207) r175 r176 i230 r206 i207 i207 (List.length r175) ((↑(List.length r175) : Int)) m rows0 ((0 : Int))) else
  (Jn4_25 m (fun b316 => kx0 b316) (fun b317 => kx1 b317) r175 r176 i230 r206 i207 rows0 i207)))
def brJn4_14 (m : Nat) (L : LTbl) (R : Type) (vs : List V) (k : Ex → List V → Option R) : Option R := match vs with
  | [V.undef, V.own [LT.int IntKind.i64] r175, V.own [LT.int IntKind.u8] r176, V.undef, V.undef, V.undef] => Jn4_14 m (fun b318 => k Ex.ret [V.f (F.lit (Value.bool b318)), V.own [LT.int IntKind.i64] r175, V.own [LT.int IntKind.u8] r176, V.undef, V.undef, V.undef]) (fun b319 => k Ex.ret [V.f (F.lit (Value.bool b319)), V.undef, V.own [LT.int IntKind.u8] r176, V.undef, V.undef, V.undef]) r175 r176
  | _ => L R 4 14 vs k
set_option maxRecDepth 100000 in
theorem evJn4_14 (m : Nat) (R : Type) (r175 : Abs.Rows) (r176 : Abs.Rows) (k : Ex → List V → Option R) : codeK Try.prog H (T25 m) 4 (L16 m) 15 (loopBody Try.prog 4 14) (mkEnv [2, 5, 6, 28, 38, 147] [V.undef, V.own [LT.int IntKind.i64] r175, V.own [LT.int IntKind.u8] r176, V.undef, V.undef, V.undef] 0 (H.len 4)) (fun e env' => k e (vals [2, 5, 6, 28, 38, 147] env')) = Jn4_14 m (fun b318 => k Ex.ret [V.f (F.lit (Value.bool b318)), V.own [LT.int IntKind.i64] r175, V.own [LT.int IntKind.u8] r176, V.undef, V.undef, V.undef]) (fun b319 => k Ex.ret [V.f (F.lit (Value.bool b319)), V.undef, V.own [LT.int IntKind.u8] r176, V.undef, V.undef, V.undef]) r175 r176 := by kernel_rfl
def L17 (m : Nat) : LTbl := addJ 4 14 (brJn4_14 m (L16 m)) (L16 m)
theorem okL17 (m : Nat) : LTOk Try.prog H (L17 m) := addJ_ok (okT25 m) hM (okL16 m) (l := [2, 5, 6, 28, 38, 147]) (by kernel_rfl) (by kernel_rfl) fun R vs k x h => by
    unfold brJn4_14 at h
    split at h
    · exact .inl ((evJn4_14 m R _ _ k).trans h)
    · exact .inr h

/-- hookflash/flashlaw2.SamplesCompress -/
def Fn4 {R : Type} (m : Nat) : Abs.Rows → (Bool → Option R) → Option R := match m with
  | 0 => fun _ _ => none
  | m + 1 => fun r1 k =>
  Fn21 m r1 ((0 : Int)) ((-32768 : Int)) ((32767 : Int)) (fun i23 i24 => Fn20 m r1 i24 ([[F.lit (Value.int IntKind.i64 (0 : Int))], [F.lit (Value.int IntKind.i64 (1 : Int))], [F.lit (Value.int IntKind.i64 (-1 : Int))], [F.lit (Value.int IntKind.i64 (3 : Int))], [F.lit (Value.int IntKind.i64 (4 : Int))], [F.lit (Value.int IntKind.i64 (100 : Int))], [F.lit (Value.int IntKind.i64 (32767 : Int))], [F.lit (Value.int IntKind.i64 (-32768 : Int))], [F.lit (Value.int IntKind.i64 (32632 : Int))], [F.lit (Value.int IntKind.i64 (32635 : Int))], [F.lit (Value.int IntKind.i64 (32636 : Int))], [F.lit (Value.int IntKind.i64 (32768 : Int))], [F.lit (Value.int IntKind.i64 (-32769 : Int))], [F.lit (Value.int IntKind.i64 i23)]]) (fun i32 i33 => Fn22 m r1 i33 ((12 : Int)) (fun r93 i94 => Fn21 m r1 i94 ((0 : Int)) ((6 : Int)) (fun i95 i96 => Lp4_5 m (fun i110 r111 i112 => Fn23 m i32 (fun i142 i143 => Fn25 m i32 (fun b151 => Fn24 m (!b151) ((1 : Int)) (fun i155 => bif i143 != i155 then (k false) else
  (bif i155 == (0 : Int) then (Fn26 m i32 (fun i174 => bif i142 != i174 then (k false) else
  (bif i155 != (0 : Int) then (bif i142 != (0 : Int) then (k false) else
  (Jn4_14 m (fun b320 => k b320) (fun b321 => k b321) r93 r111)) else
  (Jn4_14 m (fun b322 => k b322) (fun b323 => k b323) r93 r111)))) else
  (bif i155 != (0 : Int) then (bif i142 != (0 : Int) then (k false) else
  (Jn4_14 m (fun b324 => k b324) (fun b325 => k b325) r93 r111)) else
  (Jn4_14 m (fun b326 => k b326) (fun b327 => k b327) r93 r111))))))) r1 i32 r93 i95 m i96 rows0 ((0 : Int))))))
def brFn4 (m : Nat) (T : Tbl) (R : Type) (vs : List V) (k : V → List V → Option R) : Option R := match vs with
  | [V.f (F.lst [LT.int IntKind.i64] r1)] => Fn4 m r1 (fun b328 => k (V.f (F.lit (Value.bool b328))) [V.undef])
  | _ => T R 4 vs k
set_option maxRecDepth 100000 in
theorem evFn4 (m : Nat) (R : Type) (r1 : Abs.Rows) (k : V → List V → Option R) : runK Try.prog H (T25 m) (L17 m) 4 [V.f (F.lst [LT.int IntKind.i64] r1)] k = Fn4 (m + 1) r1 (fun b328 => k (V.f (F.lit (Value.bool b328))) [V.undef]) := by kernel_rfl
def T26 (m : Nat) : Tbl := addT 4 (brFn4 m (T25 m)) (T25 m)
theorem okT26 (m : Nat) : TblOk Try.prog (T26 m) := addT_ok (okT25 m) fun R vs k x h => by
  unfold brFn4 at h
  split at h
  · cases m with
    | zero => cases h
    | succ m => exact runK_some (okT25 m) hM (okL17 m) ((evFn4 m R _ k).trans h)
  · exact okT25 m R 4 _ k x h

end Go.Proofs.Ytjhfbmhblpjigaa.Med
end
