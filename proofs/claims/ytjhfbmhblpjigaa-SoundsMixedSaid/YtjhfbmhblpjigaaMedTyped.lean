/- A part of the proofs of the seat Ytjhfbmhblpjigaa: no statement of the seat stands here. -/
import Derived.Test.YtjhfbmhblpjigaaProg
import Derived.KernelRfl
import Derived.Test.YtjhfbmhblpjigaaAbsC
section
set_option linter.unusedVariables false
set_option linter.unusedSimpArgs false
namespace Go.Proofs.Ytjhfbmhblpjigaa.Med
open Go Go.Abs
def H : Hints where
  mode := fun f j => match f, j with
    | 62, 0 => .own
    | _, _ => .bor
  mv := fun f t => match f, t with
    | 3, 2 => true
    | 4, 2 => true
    | 5, 2 => true
    | 6, 2 => true
    | 7, 2 => true
    | 8, 2 => true
    | 10, 2 => true
    | 11, 2 => true
    | 11, 3 => true
    | 12, 2 => true
    | 13, 2 => true
    | 14, 3 => true
    | 15, 3 => true
    | 16, 2 => true
    | 17, 4 => true
    | 18, 4 => true
    | 19, 0 => true
    | 20, 4 => true
    | 21, 6 => true
    | 22, 4 => true
    | 23, 2 => true
    | 23, 3 => true
    | 24, 4 => true
    | 25, 2 => true
    | 26, 2 => true
    | 27, 2 => true
    | 27, 3 => true
    | 28, 2 => true
    | 29, 2 => true
    | 30, 2 => true
    | 30, 3 => true
    | 31, 2 => true
    | 32, 2 => true
    | 33, 4 => true
    | 34, 6 => true
    | 34, 7 => true
    | 35, 2 => true
    | 36, 2 => true
    | 37, 6 => true
    | 38, 4 => true
    | 39, 4 => true
    | 40, 2 => true
    | 40, 3 => true
    | 41, 4 => true
    | 41, 5 => true
    | 42, 6 => true
    | 42, 7 => true
    | 43, 2 => true
    | 44, 4 => true
    | 45, 6 => true
    | 46, 4 => true
    | 47, 2 => true
    | 47, 3 => true
    | 48, 3 => true
    | 49, 2 => true
    | 50, 2 => true
    | 52, 2 => true
    | 53, 2 => true
    | 54, 4 => true
    | 54, 5 => true
    | 55, 4 => true
    | 55, 5 => true
    | 56, 2 => true
    | 56, 3 => true
    | 57, 2 => true
    | 59, 4 => true
    | 60, 6 => true
    | 61, 4 => true
    | 62, 6 => true
    | 63, 6 => true
    | 64, 2 => true
    | 65, 2 => true
    | 66, 2 => true
    | 67, 6 => true
    | 68, 2 => true
    | 69, 4 => true
    | 70, 2 => true
    | 71, 4 => true
    | 72, 4 => true
    | 73, 2 => true
    | 74, 4 => true
    | 75, 4 => true
    | 76, 2 => true
    | 77, 2 => true
    | 78, 2 => true
    | 79, 2 => true
    | 80, 2 => true
    | 81, 2 => true
    | 82, 4 => true
    | 83, 4 => true
    | 84, 4 => true
    | 85, 0 => true
    | 86, 0 => true
    | 87, 4 => true
    | 88, 4 => true
    | 89, 0 => true
    | 90, 0 => true
    | 91, 4 => true
    | 91, 5 => true
    | 92, 4 => true
    | 93, 4 => true
    | 94, 4 => true
    | 95, 6 => true
    | 96, 4 => true
    | 97, 4 => true
    | 98, 4 => true
    | 99, 4 => true
    | _, _ => false
  live := fun f i => match f, i with
    | 3, 7 => some [2, 4, 5, 6, 7, 8, 9, 20, 21, 23, 24, 31, 69]
    | 4, 5 => some [3, 4, 5, 6, 21, 28, 30, 31, 147]
    | 4, 14 => some [2, 5, 6, 28, 38, 147]
    | 4, 20 => some [5, 6, 9, 10, 11, 12, 28, 38, 70, 72, 73, 79, 80, 81, 147]
    | 4, 25 => some [2, 5, 6, 9, 10, 11, 12, 28, 38, 70, 72, 73, 89, 147]
    | 4, 28 => some [2, 6, 38, 147]
    | 4, 31 => some [2, 6, 15, 16, 38, 106, 108, 109, 111, 112, 113, 147]
    | 5, 4 => some [2, 4, 5, 6, 7, 8, 9, 15, 22, 26, 27, 65]
    | 5, 7 => some [2, 7, 8, 9, 10, 22, 26, 27, 53, 65]
    | 6, 5 => some [3, 4, 5, 24, 26, 27, 149]
    | 6, 13 => some [2, 3, 4, 5, 24, 34, 43, 149]
    | 6, 20 => some [2, 5, 7, 8, 9, 10, 11, 12, 13, 14, 15, 16, 17, 45, 55, 57, 58, 60, 63, 64, 66, 70, 71, 76, 149]
    | 6, 21 => some [2, 5, 7, 8, 9, 10, 11, 12, 13, 14, 15, 16, 17, 18, 45, 55, 57, 58, 60, 63, 64, 66, 70, 71, 76, 149]
    | 6, 22 => some [2, 5, 7, 8, 9, 10, 11, 12, 13, 14, 15, 16, 17, 18, 19, 45, 55, 57, 58, 60, 63, 64, 66, 70, 71, 76, 149]
    | 6, 25 => some [2, 5, 7, 9, 10, 11, 12, 13, 14, 15, 16, 17, 18, 19, 20, 45, 55, 57, 58, 60, 63, 64, 66, 70, 71, 76, 111, 149]
    | 6, 28 => some [2, 5, 11, 12, 13, 14, 15, 16, 17, 18, 19, 20, 21, 55, 57, 58, 60, 63, 64, 66, 70, 71, 76, 111, 117, 149]
    | 8, 4 => some [2, 4, 5, 6, 24, 101]
    | 8, 7 => some [2, 4, 5, 6, 7, 8, 11, 24, 31, 34, 35, 101]
    | 8, 10 => some [2, 6, 7, 8, 11, 12, 24, 31, 34, 35, 56, 59, 60, 101]
    | 8, 13 => some [2, 6, 24, 101]
    | 10, 3 => some [0, 2, 3, 6, 11, 18, 19, 20]
    | 11, 7 => some [1, 2, 3, 5, 33, 34]
    | 12, 1 => some [1, 2, 3, 31]
    | 13, 3 => some [1, 2, 3, 10, 53, 54]
    | 13, 5 => some [1, 3, 10, 27, 28, 29, 54]
    | 13, 10 => some [1, 3, 5, 6, 10, 27, 28, 29, 54]
    | 14, 3 => some [0, 2, 3, 41]
    | 15, 3 => some [0, 2, 3, 45]
    | 16, 1 => some [1, 2, 3, 31]
    | 17, 5 => some [0, 1, 4, 12, 13, 26, 27]
    | 22, 3 => some [0, 5, 8, 9, 34, 35]
    | 22, 8 => some [0, 5, 16, 24, 34, 35]
    | 23, 6 => some [2, 3, 4, 5, 45]
    | 23, 9 => some [4, 5, 6, 45]
    | 26, 3 => some [2, 3, 4, 32]
    | 26, 6 => some [3, 4, 5, 32]
    | 27, 7 => some [0, 5, 15, 16, 17, 18, 33]
    | 29, 5 => some [0, 2, 8, 9, 10, 18]
    | 30, 6 => some [0, 4, 12, 13, 14, 15, 27]
    | 33, 2 => some [0, 5, 9, 16, 56, 57]
    | 34, 7 => some [0, 1, 2, 6, 7, 9, 33, 125, 126, 127, 128]
    | 34, 11 => some [0, 1, 9, 10, 33, 36, 37, 38, 39, 126, 127, 128]
    | 34, 19 => some [0, 1, 9, 10, 12, 13, 33, 36, 37, 38, 39, 64, 65, 66, 67, 68, 126, 127, 128]
    | 34, 24 => some [0, 1, 9, 10, 12, 13, 15, 16, 33, 36, 37, 38, 39, 64, 65, 66, 67, 68, 90, 126, 127, 128]
    | 34, 29 => some [9, 10, 33, 36, 102, 103, 126, 127, 128]
    | 34, 33 => some [9, 10, 17, 33, 36, 102, 103, 114, 126, 127, 128]
    | 35, 2 => some [0, 2, 5, 6, 7, 15]
    | 36, 5 => some [0, 2, 9, 10, 11, 51]
    | 36, 16 => some [0, 2, 4, 9, 10, 11, 26, 51]
    | 37, 4 => some [0, 1, 7, 8, 18, 21, 22, 23, 24, 112, 113, 114]
    | 37, 12 => some [0, 1, 7, 8, 10, 11, 18, 21, 22, 23, 24, 49, 50, 51, 52, 53, 112, 113, 114]
    | 37, 17 => some [0, 1, 7, 8, 10, 11, 13, 14, 18, 21, 22, 23, 24, 49, 50, 51, 52, 53, 72, 112, 113, 114]
    | 37, 25 => some [7, 8, 18, 21, 88, 89, 112, 113, 114]
    | 37, 29 => some [7, 8, 15, 18, 21, 88, 89, 100, 112, 113, 114]
    | 38, 5 => some [0, 1, 4, 12, 13, 26, 27]
    | 40, 6 => some [0, 2, 3, 4, 17, 18, 19, 72]
    | 40, 18 => some [0, 8, 34, 35, 36, 37, 72]
    | 40, 23 => some [0, 8, 10, 34, 35, 36, 37, 39, 40, 41, 42, 43, 72]
    | 40, 31 => some [8, 34, 58, 59, 72]
    | 41, 10 => some [0, 1, 7, 20, 21, 22, 23, 38, 39]
    | 42, 7 => some [0, 1, 2, 6, 7, 9, 55, 59, 60, 61, 62]
    | 42, 11 => some [0, 1, 2, 9, 10, 27, 28, 60, 61, 62]
    | 42, 16 => some [0, 1, 2, 9, 10, 11, 27, 28, 55, 60, 61, 62]
    | 43, 3 => some [0, 3, 9, 10, 11, 54]
    | 43, 7 => some [0, 3, 5, 9, 10, 11, 13, 14, 54]
    | 43, 12 => some [0, 3, 5, 9, 10, 11, 13, 14, 22, 23, 24, 25, 54]
    | 43, 20 => some [3, 22, 40, 41, 54]
    | 44, 3 => some [0, 1, 5, 8, 9, 10, 24, 25]
    | 45, 4 => some [0, 1, 2, 7, 8, 12, 13, 45, 46, 47]
    | 45, 9 => some [0, 1, 2, 7, 8, 9, 12, 13, 40, 45, 46, 47]
    | 46, 5 => some [0, 1, 4, 12, 13, 26, 27]
    | 48, 13 => some [0, 2, 5, 6, 7, 8, 9, 25, 32, 33, 34, 35, 123]
    | 48, 19 => some [0, 2, 5, 6, 7, 8, 9, 11, 25, 32, 33, 34, 35, 123]
    | 48, 26 => some [0, 2, 5, 12, 123]
    | 49, 5 => some [0, 2, 9, 10, 11, 49]
    | 49, 18 => some [0, 2, 4, 9, 10, 11, 49]
    | 50, 4 => some [0, 3, 4, 13, 14, 15, 88]
    | 50, 13 => some [0, 3, 4, 5, 7, 13, 14, 15, 39, 40, 41, 88]
    | 50, 20 => some [0, 3, 4, 5, 7, 13, 14, 15, 85, 88]
    | 51, 7 => some [0, 2, 3, 4, 10, 22, 23, 24, 112]
    | 51, 17 => some [0, 2, 4, 7, 112]
    | 53, 3 => some [0, 3, 13, 14, 84]
    | 53, 13 => some [0, 3, 6, 7, 13, 14, 68, 69, 84]
    | 54, 10 => some [7, 25, 32, 33, 34, 48, 49]
    | 55, 7 => some [7, 8, 20, 27, 29, 30, 45, 46]
    | 56, 8 => some [0, 5, 6, 7, 8, 71]
    | 56, 16 => some [0, 5, 6, 7, 8, 14, 68, 71]
    | 56, 18 => some [0, 5, 6, 7, 8, 14, 68, 71]
    | 57, 2 => some [0, 3, 82]
    | 57, 6 => some [0, 3, 4, 5, 27, 30, 38, 82]
    | 57, 11 => some [3, 6, 7, 30, 38, 82]
    | 57, 15 => some [3, 6, 7, 8, 30, 38, 82]
    | 57, 19 => some [3, 6, 7, 8, 30, 38, 71, 82]
    | 58, 3 => some [0, 2, 3, 20, 21, 33]
    | 61, 3 => some [0, 4, 5, 8, 10, 11, 64, 65]
    | 62, 2 => some [0, 1, 7, 23, 24, 25]
    | 64, 3 => some [0, 3, 6, 7, 8, 19]
    | 65, 3 => some [0, 3, 6, 7, 8, 19]
    | 71, 5 => some [0, 5, 6, 7, 8, 9, 25, 26, 128, 129]
    | 71, 10 => some [0, 5, 6, 7, 8, 9, 10, 25, 26, 35, 36, 128, 129]
    | 71, 17 => some [0, 5, 6, 7, 8, 9, 10, 25, 26, 66, 70, 83, 128, 129]
    | 71, 20 => some [0, 5, 6, 7, 8, 9, 25, 26, 66, 83, 125, 128, 129]
    | 71, 21 => some [0, 5, 6, 7, 8, 9, 25, 26, 66, 83, 113, 125, 128, 129]
    | 78, 4 => some [0, 3, 4, 8, 9, 10, 35]
    | 78, 10 => some [0, 3, 4, 7, 8, 9, 10, 32, 35]
    | 80, 2 => some [0, 2, 25]
    | 80, 5 => some [0, 3, 4, 25]
    | 81, 2 => some [0, 2, 25]
    | 81, 5 => some [0, 3, 4, 25]
    | 83, 2 => some [0, 1, 4, 7, 8, 19, 20]
    | 84, 3 => some [0, 5, 8, 10, 11, 43, 44]
    | 88, 3 => some [0, 5, 7, 8, 43, 44]
    | 91, 4 => some [0, 1, 6, 7, 12, 13, 14, 62, 63]
    | 91, 13 => some [4, 5, 6, 7, 24, 36, 37, 38, 62, 63]
    | 92, 3 => some [0, 1, 5, 11, 12, 13, 56, 57]
    | 92, 11 => some [4, 5, 8, 22, 28, 29, 30, 56, 57]
    | 94, 2 => some [0, 1, 4, 7, 8, 19, 20]
    | 96, 2 => some [0, 1, 4, 7, 8, 19, 20]
    | 98, 3 => some [0, 1, 5, 6, 10, 11, 12, 42, 43]
    | 99, 3 => some [0, 1, 5, 6, 9, 10, 11, 40, 41]
    | _, _ => none
  len := fun f => match f with
    | 3 => 70
    | 4 => 148
    | 5 => 66
    | 6 => 150
    | 7 => 76
    | 8 => 102
    | 9 => 37
    | 10 => 21
    | 11 => 35
    | 12 => 32
    | 13 => 55
    | 14 => 42
    | 15 => 46
    | 16 => 32
    | 17 => 28
    | 18 => 40
    | 19 => 3
    | 20 => 14
    | 21 => 22
    | 22 => 36
    | 23 => 46
    | 24 => 9
    | 25 => 6
    | 26 => 33
    | 27 => 34
    | 28 => 9
    | 29 => 19
    | 30 => 28
    | 31 => 25
    | 32 => 32
    | 33 => 58
    | 34 => 129
    | 35 => 16
    | 36 => 52
    | 37 => 115
    | 38 => 28
    | 39 => 11
    | 40 => 73
    | 41 => 40
    | 42 => 63
    | 43 => 55
    | 44 => 26
    | 45 => 48
    | 46 => 28
    | 47 => 13
    | 48 => 124
    | 49 => 50
    | 50 => 89
    | 51 => 113
    | 52 => 7
    | 53 => 85
    | 54 => 50
    | 55 => 47
    | 56 => 72
    | 57 => 83
    | 58 => 34
    | 59 => 66
    | 60 => 25
    | 61 => 66
    | 62 => 26
    | 63 => 18
    | 64 => 20
    | 65 => 20
    | 66 => 9
    | 67 => 18
    | 68 => 6
    | 69 => 11
    | 70 => 7
    | 71 => 130
    | 72 => 17
    | 73 => 6
    | 74 => 14
    | 75 => 18
    | 76 => 7
    | 77 => 7
    | 78 => 36
    | 79 => 10
    | 80 => 26
    | 81 => 26
    | 82 => 11
    | 83 => 21
    | 84 => 45
    | 85 => 2
    | 86 => 2
    | 87 => 10
    | 88 => 45
    | 89 => 2
    | 90 => 2
    | 91 => 64
    | 92 => 58
    | 93 => 18
    | 94 => 21
    | 95 => 27
    | 96 => 21
    | 97 => 10
    | 98 => 44
    | 99 => 42
    | _ => 0

end Go.Proofs.Ytjhfbmhblpjigaa.Med
end
section
set_option linter.unusedVariables false
set_option linter.unusedSimpArgs false
namespace Go.Proofs.Ytjhfbmhblpjigaa.Med
open Go Go.Abs Go.Proofs
set_option linter.unusedVariables false
theorem hM : Try.prog.follows .mixedOrders = true := by kernel_rfl
section
set_option maxRecDepth 100000
theorem cl66a (cap : Nat) (R : Type) (k : V → List V → Option R) : runK Try.prog H noT noL 66 [.f (.lit (.slice none 0 cap))] k = k (.own [.int .u8] []) [.undef] := by kernel_rfl
theorem cl66b (a : Addr) (cap : Nat) (R : Type) (k : V → List V → Option R) : runK Try.prog H noT noL 66 [.f (.lit (.slice (some a) 0 cap))] k = k (.own [.int .u8] []) [.undef] := by kernel_rfl
theorem cl66c (r : List F) (rs : Abs.Rows) (R : Type) (k : V → List V → Option R) : runK Try.prog H noT noL 66 [.bor [.int .u8] (r :: rs)] k = bif decide (0 + (r :: rs).length ≤ rowMax) then k (.own [.int .u8] (r :: rs)) [.undef] else none := by kernel_rfl
end
theorem clone66 (rows : Abs.Rows) (h : lenOk rows = true) : FnOk Try.prog 66 [.bor [.int .u8] rows] (.own [.int .u8] rows) [.undef] := by
  refine clone_ok (fun cap => fnOk_runK (tbl := noT) (lt := noL) (H := H) noT_ok hM noL_ok (cl66a cap)) (fun a cap => fnOk_runK (tbl := noT) (lt := noL) (H := H) noT_ok hM noL_ok (cl66b a cap)) (fun r rs hl => fnOk_runK (tbl := noT) (lt := noL) (H := H) noT_ok hM noL_ok fun R k => ?_) rows h
  rw [cl66c r rs R k, show decide (0 + (r :: rs).length ≤ rowMax) = true from by rw [Nat.zero_add]; exact hl]
  rfl
theorem idx100 (s : ByteArray) (c : Int) : FnOk Try.prog 100 [.f (.lit (.string s)), .f (.lit (.int .u8 c))] (vInt .i64 (idxByte s c)) [.undef, .undef] :=
  idx_ok (fn := Try.f100) Try.func100 (by kernel_rfl) (by kernel_rfl) (by kernel_rfl) (by kernel_rfl) s c
def T0 (_ : Nat) : Tbl := addT 100 (brIdx 100 (addT 66 (brClone [.int .u8] 66 noT) noT)) (addT 66 (brClone [.int .u8] 66 noT) noT)
def L0 (_ : Nat) : LTbl := noL
theorem okT0 (m : Nat) : TblOk Try.prog (T0 m) := brIdx_ok (brClone_ok noT_ok clone66) idx100
theorem okL0 (m : Nat) : LTOk Try.prog H (L0 m) := noL_ok
/-- hookflash/flashmake.Below -/
def Fn93 {R : Type} (m : Nat) : Int → Int → (Int → Option R) → Option R := match m with
  | 0 => fun _ _ _ => none
  | m + 1 => fun i9 i10 k =>
  bif decide (i10 < (1 : Int)) then (k ((0 : Int))) else
  (bif decide (i10 ≠ (0 : Int)) then (bif decide (Int.tmod i9 i10 < (0 : Int)) then (k (IntKind.wrap IntKind.i64 (Int.tmod i9 i10 + i10))) else
  (k (Int.tmod i9 i10))) else
  (none))
def brFn93 (m : Nat) (T : Tbl) (R : Type) (vs : List V) (k : V → List V → Option R) : Option R := match vs with
  | [V.f (F.lit (Value.int IntKind.i64 i9)), V.f (F.lit (Value.int IntKind.i64 i10))] => Fn93 m i9 i10 (fun i11 => k (V.f (F.lit (Value.int IntKind.i64 i11))) [V.undef, V.undef])
  | _ => T R 93 vs k
set_option maxRecDepth 100000 in
theorem evFn93 (m : Nat) (R : Type) (i9 : Int) (i10 : Int) (k : V → List V → Option R) : runK Try.prog H (T0 m) (L0 m) 93 [V.f (F.lit (Value.int IntKind.i64 i9)), V.f (F.lit (Value.int IntKind.i64 i10))] k = Fn93 (m + 1) i9 i10 (fun i11 => k (V.f (F.lit (Value.int IntKind.i64 i11))) [V.undef, V.undef]) := by kernel_rfl
def T1 (m : Nat) : Tbl := addT 93 (brFn93 m (T0 m)) (T0 m)
theorem okT1 (m : Nat) : TblOk Try.prog (T1 m) := addT_ok (okT0 m) fun R vs k x h => by
  unfold brFn93 at h
  split at h
  · cases m with
    | zero => cases h
    | succ m => exact runK_some (okT0 m) hM (okL0 m) ((evFn93 m R _ _ k).trans h)
  · exact okT0 m R 93 _ k x h

/-- (*hookflash/flashmake.Stream).Next -/
def Fn59 {R : Type} (m : Nat) : Abs.Rows → Int → Int → (Int → Int → Option R) → Option R := match m with
  | 0 => fun _ _ _ _ => none
  | m + 1 => fun r6 i7 i8 k =>
  bif (↑(List.length r6) : Int) == (0 : Int) then (Fn93 m (IntKind.wrap IntKind.i64 (IntKind.wrap IntKind.i64 (i7 + (1 : Int)) * (7919 : Int))) i8 (fun i12 => k i12 (IntKind.wrap IntKind.i64 (i7 + (1 : Int))))) else
  (bif decide ((↑(List.length r6) : Int) ≠ (0 : Int)) then (bif decide ((↑(List.length r6) : Int) ≠ (0 : Int)) then (bif decide ((0 : Int) ≤ Int.tmod (IntKind.wrap IntKind.i64 (IntKind.wrap IntKind.i64 (i7 + (1 : Int)) - (1 : Int))) (↑(List.length r6) : Int) ∧ Int.tmod (IntKind.wrap IntKind.i64 (IntKind.wrap IntKind.i64 (i7 + (1 : Int)) - (1 : Int))) (↑(List.length r6) : Int) < (↑(List.length r6) : Int)) then (Fn93 m (fI r6 (Int.toNat (Int.tmod (IntKind.wrap IntKind.i64 (IntKind.wrap IntKind.i64 (i7 + (1 : Int)) - (1 : Int))) (↑(List.length r6) : Int))) (0 : Nat)) ((1073741824 : Int)) (fun i13 => Fn93 m (IntKind.wrap IntKind.i64 (i13 + IntKind.wrap IntKind.i64 (IntKind.wrap IntKind.i64 (Int.tdiv (IntKind.wrap IntKind.i64 (IntKind.wrap IntKind.i64 (i7 + (1 : Int)) - (1 : Int))) (↑(List.length r6) : Int)) * IntKind.wrap IntKind.i64 ((7919 : Int) + Int.tmod (IntKind.wrap IntKind.i64 (IntKind.wrap IntKind.i64 (i7 + (1 : Int)) - (1 : Int))) (↑(List.length r6) : Int))))) i8 (fun i14 => letV (IntKind.wrap IntKind.i64 (i13 + IntKind.wrap IntKind.i64 (IntKind.wrap IntKind.i64 (Int.tdiv (IntKind.wrap IntKind.i64 (IntKind.wrap IntKind.i64 (i7 + (1 : Int)) - (1 : Int))) (↑(List.length r6) : Int)) * IntKind.wrap IntKind.i64 ((7919 : Int) + Int.tmod (IntKind.wrap IntKind.i64 (IntKind.wrap IntKind.i64 (i7 + (1 : Int)) - (1 : Int))) (↑(List.length r6) : Int))))) (fun i15 => letV (IntKind.wrap IntKind.i64 (IntKind.wrap IntKind.i64 (Int.tdiv (IntKind.wrap IntKind.i64 (IntKind.wrap IntKind.i64 (i7 + (1 : Int)) - (1 : Int))) (↑(List.length r6) : Int)) * IntKind.wrap IntKind.i64 ((7919 : Int) + Int.tmod (IntKind.wrap IntKind.i64 (IntKind.wrap IntKind.i64 (i7 + (1 : Int)) - (1 : Int))) (↑(List.length r6) : Int)))) (fun i16 => k i14 (IntKind.wrap IntKind.i64 (i7 + (1 : Int)))))))) else
  (none)) else
  (none)) else
  (none))
def brFn59 (m : Nat) (T : Tbl) (R : Type) (vs : List V) (k : V → List V → Option R) : Option R := match vs with
  | [V.obj [V.f (F.lst [LT.int IntKind.i64] r6), V.f (F.lit (Value.int IntKind.i64 i7))], V.f (F.lit (Value.int IntKind.i64 i8))] => Fn59 m r6 i7 i8 (fun i17 i18 => k (V.f (F.lit (Value.int IntKind.i64 i17))) [V.obj [V.f (F.lst [LT.int IntKind.i64] r6), V.f (F.lit (Value.int IntKind.i64 i18))], V.undef])
  | _ => T R 59 vs k
set_option maxRecDepth 100000 in
theorem evFn59 (m : Nat) (R : Type) (r6 : Abs.Rows) (i7 : Int) (i8 : Int) (k : V → List V → Option R) : runK Try.prog H (T1 m) (L0 m) 59 [V.obj [V.f (F.lst [LT.int IntKind.i64] r6), V.f (F.lit (Value.int IntKind.i64 i7))], V.f (F.lit (Value.int IntKind.i64 i8))] k = Fn59 (m + 1) r6 i7 i8 (fun i17 i18 => k (V.f (F.lit (Value.int IntKind.i64 i17))) [V.obj [V.f (F.lst [LT.int IntKind.i64] r6), V.f (F.lit (Value.int IntKind.i64 i18))], V.undef]) := by kernel_rfl
def T2 (m : Nat) : Tbl := addT 59 (brFn59 m (T1 m)) (T1 m)
theorem okT2 (m : Nat) : TblOk Try.prog (T2 m) := addT_ok (okT1 m) fun R vs k x h => by
  unfold brFn59 at h
  split at h
  · cases m with
    | zero => cases h
    | succ m => exact runK_some (okT1 m) hM (okL0 m) ((evFn59 m R _ _ _ k).trans h)
  · exact okT1 m R 59 _ k x h

/-- (*hookflash/flashmake.Stream).Range -/
def Fn21 {R : Type} (m : Nat) : Abs.Rows → Int → Int → Int → (Int → Int → Option R) → Option R := match m with
  | 0 => fun _ _ _ _ _ => none
  | m + 1 => fun r2 i3 i4 i5 k =>
  bif decide (i5 < i4) then (k i4 i3) else
  (Fn59 m r2 i3 (IntKind.wrap IntKind.i64 (IntKind.wrap IntKind.i64 (i5 - i4) + (1 : Int))) (fun i19 i20 => k (IntKind.wrap IntKind.i64 (i4 + i19)) i20))
def brFn21 (m : Nat) (T : Tbl) (R : Type) (vs : List V) (k : V → List V → Option R) : Option R := match vs with
  | [V.obj [V.f (F.lst [LT.int IntKind.i64] r2), V.f (F.lit (Value.int IntKind.i64 i3))], V.f (F.lit (Value.int IntKind.i64 i4)), V.f (F.lit (Value.int IntKind.i64 i5))] => Fn21 m r2 i3 i4 i5 (fun i21 i22 => k (V.f (F.lit (Value.int IntKind.i64 i21))) [V.obj [V.f (F.lst [LT.int IntKind.i64] r2), V.f (F.lit (Value.int IntKind.i64 i22))], V.undef, V.undef])
  | _ => T R 21 vs k
set_option maxRecDepth 100000 in
theorem evFn21 (m : Nat) (R : Type) (r2 : Abs.Rows) (i3 : Int) (i4 : Int) (i5 : Int) (k : V → List V → Option R) : runK Try.prog H (T2 m) (L0 m) 21 [V.obj [V.f (F.lst [LT.int IntKind.i64] r2), V.f (F.lit (Value.int IntKind.i64 i3))], V.f (F.lit (Value.int IntKind.i64 i4)), V.f (F.lit (Value.int IntKind.i64 i5))] k = Fn21 (m + 1) r2 i3 i4 i5 (fun i21 i22 => k (V.f (F.lit (Value.int IntKind.i64 i21))) [V.obj [V.f (F.lst [LT.int IntKind.i64] r2), V.f (F.lit (Value.int IntKind.i64 i22))], V.undef, V.undef]) := by kernel_rfl
def T3 (m : Nat) : Tbl := addT 21 (brFn21 m (T2 m)) (T2 m)
theorem okT3 (m : Nat) : TblOk Try.prog (T3 m) := addT_ok (okT2 m) fun R vs k x h => by
  unfold brFn21 at h
  split at h
  · cases m with
    | zero => cases h
    | succ m => exact runK_some (okT2 m) hM (okL0 m) ((evFn21 m R _ _ _ _ k).trans h)
  · exact okT2 m R 21 _ k x h

/-- (*hookflash/flashmake.Stream).Pick -/
def Fn20 {R : Type} (m : Nat) : Abs.Rows → Int → Abs.Rows → (Int → Int → Option R) → Option R := match m with
  | 0 => fun _ _ _ _ => none
  | m + 1 => fun r41 i42 r43 k =>
  Fn59 m r41 i42 ((↑(List.length r43) : Int)) (fun i44 i45 => bif decide ((0 : Int) ≤ i44 ∧ i44 < (↑(List.length r43) : Int)) then (k (fI r43 (Int.toNat i44) (0 : Nat)) i45) else
  (none))
def brFn20 (m : Nat) (T : Tbl) (R : Type) (vs : List V) (k : V → List V → Option R) : Option R := match vs with
  | [V.obj [V.f (F.lst [LT.int IntKind.i64] r41), V.f (F.lit (Value.int IntKind.i64 i42))], V.bor [LT.int IntKind.i64] r43] => Fn20 m r41 i42 r43 (fun i46 i47 => k (V.f (F.lit (Value.int IntKind.i64 i46))) [V.obj [V.f (F.lst [LT.int IntKind.i64] r41), V.f (F.lit (Value.int IntKind.i64 i47))], V.undef])
  | _ => T R 20 vs k
set_option maxRecDepth 100000 in
theorem evFn20 (m : Nat) (R : Type) (r41 : Abs.Rows) (i42 : Int) (r43 : Abs.Rows) (k : V → List V → Option R) : runK Try.prog H (T3 m) (L0 m) 20 [V.obj [V.f (F.lst [LT.int IntKind.i64] r41), V.f (F.lit (Value.int IntKind.i64 i42))], V.bor [LT.int IntKind.i64] r43] k = Fn20 (m + 1) r41 i42 r43 (fun i46 i47 => k (V.f (F.lit (Value.int IntKind.i64 i46))) [V.obj [V.f (F.lst [LT.int IntKind.i64] r41), V.f (F.lit (Value.int IntKind.i64 i47))], V.undef]) := by kernel_rfl
def T4 (m : Nat) : Tbl := addT 20 (brFn20 m (T3 m)) (T3 m)
theorem okT4 (m : Nat) : TblOk Try.prog (T4 m) := addT_ok (okT3 m) fun R vs k x h => by
  unfold brFn20 at h
  split at h
  · cases m with
    | zero => cases h
    | succ m => exact runK_some (okT3 m) hM (okL0 m) ((evFn20 m R _ _ _ k).trans h)
  · exact okT3 m R 20 _ k x h

/-- a round of a loop of (*hookflash/flashmake.Stream).Sound -/
def Lp22_3_step {R : Type} (m : Nat) (kx0 : Abs.Rows → Int → Int → Option R) (i37 : Int) (r39 : Abs.Rows) (REC : Abs.Rows → Int → Int → Option R) (r36 : Abs.Rows) (i38 : Int) (i40 : Int) : Option R :=
  bif decide (i38 < i37) then (Fn20 m r39 i40 ([[F.lit (Value.int IntKind.i64 (0 : Int))], [F.lit (Value.int IntKind.i64 (0 : Int))], [F.lit (Value.int IntKind.i64 (1 : Int))], [F.lit (Value.int IntKind.i64 (-1 : Int))], [F.lit (Value.int IntKind.i64 (5 : Int))], [F.lit (Value.int IntKind.i64 (-7 : Int))], [F.lit (Value.int IntKind.i64 (100 : Int))], [F.lit (Value.int IntKind.i64 (-300 : Int))], [F.lit (Value.int IntKind.i64 (4000 : Int))], [F.lit (Value.int IntKind.i64 (-9000 : Int))], [F.lit (Value.int IntKind.i64 (32767 : Int))], [F.lit (Value.int IntKind.i64 (-32768 : Int))]]) (fun i48 i49 => bif decide (List.length r36 + List.length [[F.lit (Value.int IntKind.i64 i48)]] ≤ rowMax) then (letV (r36 ++ [[F.lit (Value.int IntKind.i64 i48)]]) (fun r50 => REC r50 (IntKind.wrap IntKind.i64 (i38 + (1 : Int))) i49)) else
  (none))) else
  (kx0 r36 i38 i40)
def Lp22_3 {R : Type} (m : Nat) (kx0 : Abs.Rows → Int → Int → Option R) (i37 : Int) (r39 : Abs.Rows) : Nat → Abs.Rows → Int → Int → Option R
  | 0, _, _, _ => none
  | n + 1, r36, i38, i40 => Lp22_3_step m kx0 i37 r39 (Lp22_3 m kx0 i37 r39 n) r36 i38 i40
def ELp22_3 (m : Nat) (R : Type) : Nat → List V → (Ex → List V → Option R) → Option R
  | 0, _, _ => none
  | n + 1, vs, k => match vs with
    | [V.ref (34 : Nat) (0 : Nat), V.own [LT.int IntKind.i64] r36, V.f (F.lit (Value.int IntKind.i64 i37)), V.f (F.lit (Value.int IntKind.i64 i38)), V.obj [V.f (F.lst [LT.int IntKind.i64] r39), V.f (F.lit (Value.int IntKind.i64 i40))], V.undef] => Lp22_3_step m (fun r51 i52 i53 => k (Ex.exit (0 : Nat)) [V.ref (34 : Nat) (0 : Nat), V.own [LT.int IntKind.i64] r51, V.f (F.lit (Value.int IntKind.i64 i37)), V.f (F.lit (Value.int IntKind.i64 i52)), V.obj [V.f (F.lst [LT.int IntKind.i64] r39), V.f (F.lit (Value.int IntKind.i64 i53))], V.undef]) i37 r39 (fun r36 i38 i40 => ELp22_3 m R n [V.ref (34 : Nat) (0 : Nat), V.own [LT.int IntKind.i64] r36, V.f (F.lit (Value.int IntKind.i64 i37)), V.f (F.lit (Value.int IntKind.i64 i38)), V.obj [V.f (F.lst [LT.int IntKind.i64] r39), V.f (F.lit (Value.int IntKind.i64 i40))], V.undef] k) r36 i38 i40
    | _ => none
def brLp22_3 (m : Nat) (L : LTbl) (R : Type) (vs : List V) (k : Ex → List V → Option R) : Option R := match vs with
  | [V.ref (34 : Nat) (0 : Nat), V.own [LT.int IntKind.i64] r36, V.f (F.lit (Value.int IntKind.i64 i37)), V.f (F.lit (Value.int IntKind.i64 i38)), V.obj [V.f (F.lst [LT.int IntKind.i64] r39), V.f (F.lit (Value.int IntKind.i64 i40))], V.undef] => Lp22_3 m (fun r51 i52 i53 => k (Ex.exit (0 : Nat)) [V.ref (34 : Nat) (0 : Nat), V.own [LT.int IntKind.i64] r51, V.f (F.lit (Value.int IntKind.i64 i37)), V.f (F.lit (Value.int IntKind.i64 i52)), V.obj [V.f (F.lst [LT.int IntKind.i64] r39), V.f (F.lit (Value.int IntKind.i64 i53))], V.undef]) i37 r39 m r36 i38 i40
  | _ => L R 22 3 vs k
set_option maxRecDepth 100000 in
theorem stLp22_3 (m n : Nat) (R : Type) (r36 : Abs.Rows) (i37 : Int) (i38 : Int) (r39 : Abs.Rows) (i40 : Int) (k : Ex → List V → Option R) : codeK Try.prog H (T4 m) 22 (L0 m) 4 (loopBody Try.prog 22 3) (mkEnv [0, 5, 8, 9, 34, 35] [V.ref (34 : Nat) (0 : Nat), V.own [LT.int IntKind.i64] r36, V.f (F.lit (Value.int IntKind.i64 i37)), V.f (F.lit (Value.int IntKind.i64 i38)), V.obj [V.f (F.lst [LT.int IntKind.i64] r39), V.f (F.lit (Value.int IntKind.i64 i40))], V.undef] 0 (H.len 22)) (fun e env' => match e with | .normal => ELp22_3 m R n (vals [0, 5, 8, 9, 34, 35] env') k | e => k e (vals [0, 5, 8, 9, 34, 35] env')) = Lp22_3_step m (fun r51 i52 i53 => k (Ex.exit (0 : Nat)) [V.ref (34 : Nat) (0 : Nat), V.own [LT.int IntKind.i64] r51, V.f (F.lit (Value.int IntKind.i64 i37)), V.f (F.lit (Value.int IntKind.i64 i52)), V.obj [V.f (F.lst [LT.int IntKind.i64] r39), V.f (F.lit (Value.int IntKind.i64 i53))], V.undef]) i37 r39 (fun r36 i38 i40 => ELp22_3 m R n [V.ref (34 : Nat) (0 : Nat), V.own [LT.int IntKind.i64] r36, V.f (F.lit (Value.int IntKind.i64 i37)), V.f (F.lit (Value.int IntKind.i64 i38)), V.obj [V.f (F.lst [LT.int IntKind.i64] r39), V.f (F.lit (Value.int IntKind.i64 i40))], V.undef] k) r36 i38 i40 := by kernel_rfl
theorem eqLp22_3 (m : Nat) (R : Type) (i37 : Int) (r39 : Abs.Rows) (k : Ex → List V → Option R) : ∀ (n : Nat) (r36 : Abs.Rows) (i38 : Int) (i40 : Int), ELp22_3 m R n [V.ref (34 : Nat) (0 : Nat), V.own [LT.int IntKind.i64] r36, V.f (F.lit (Value.int IntKind.i64 i37)), V.f (F.lit (Value.int IntKind.i64 i38)), V.obj [V.f (F.lst [LT.int IntKind.i64] r39), V.f (F.lit (Value.int IntKind.i64 i40))], V.undef] k = Lp22_3 m (fun r51 i52 i53 => k (Ex.exit (0 : Nat)) [V.ref (34 : Nat) (0 : Nat), V.own [LT.int IntKind.i64] r51, V.f (F.lit (Value.int IntKind.i64 i37)), V.f (F.lit (Value.int IntKind.i64 i52)), V.obj [V.f (F.lst [LT.int IntKind.i64] r39), V.f (F.lit (Value.int IntKind.i64 i53))], V.undef]) i37 r39 n r36 i38 i40
  | 0, _, _, _ => rfl
  | n + 1, r36, i38, i40 => by
    simp only [ELp22_3, Lp22_3]
    congr 1
    funext r36 i38 i40
    exact eqLp22_3 m R i37 r39 k n r36 i38 i40
def L1 (m : Nat) : LTbl := addB 22 3 (brLp22_3 m (L0 m)) (L0 m)
theorem okL1 (m : Nat) : LTOk Try.prog H (L1 m) := addB_ok (okT4 m) hM (okL0 m) (l := [0, 5, 8, 9, 34, 35]) (by kernel_rfl) (by kernel_rfl) m (fun R n vs k => ELp22_3 m R n vs k) (fun R vs k => rfl) (fun R n vs k x h => by
      simp only [ELp22_3] at h
      split at h
      · exact (stLp22_3 m n R _ _ _ _ _ k).trans h
      · cases h) fun R vs k x h => by
    unfold brLp22_3 at h
    split at h
    · exact .inl ((eqLp22_3 m R _ _ k m _ _ _).trans h)
    · exact .inr h

/-- (*hookflash/flashmake.Stream).Flip -/
def Fn39 {R : Type} (m : Nat) : Abs.Rows → Int → Int → (Bool → Int → Option R) → Option R := match m with
  | 0 => fun _ _ _ _ => none
  | m + 1 => fun r57 i58 i59 k =>
  Fn59 m r57 i58 i59 (fun i60 i61 => k (i60 == (0 : Int)) i61)
def brFn39 (m : Nat) (T : Tbl) (R : Type) (vs : List V) (k : V → List V → Option R) : Option R := match vs with
  | [V.obj [V.f (F.lst [LT.int IntKind.i64] r57), V.f (F.lit (Value.int IntKind.i64 i58))], V.f (F.lit (Value.int IntKind.i64 i59))] => Fn39 m r57 i58 i59 (fun b62 i63 => k (V.f (F.lit (Value.bool b62))) [V.obj [V.f (F.lst [LT.int IntKind.i64] r57), V.f (F.lit (Value.int IntKind.i64 i63))], V.undef])
  | _ => T R 39 vs k
set_option maxRecDepth 100000 in
theorem evFn39 (m : Nat) (R : Type) (r57 : Abs.Rows) (i58 : Int) (i59 : Int) (k : V → List V → Option R) : runK Try.prog H (T4 m) (L1 m) 39 [V.obj [V.f (F.lst [LT.int IntKind.i64] r57), V.f (F.lit (Value.int IntKind.i64 i58))], V.f (F.lit (Value.int IntKind.i64 i59))] k = Fn39 (m + 1) r57 i58 i59 (fun b62 i63 => k (V.f (F.lit (Value.bool b62))) [V.obj [V.f (F.lst [LT.int IntKind.i64] r57), V.f (F.lit (Value.int IntKind.i64 i63))], V.undef]) := by kernel_rfl
def T5 (m : Nat) : Tbl := addT 39 (brFn39 m (T4 m)) (T4 m)
theorem okT5 (m : Nat) : TblOk Try.prog (T5 m) := addT_ok (okT4 m) fun R vs k x h => by
  unfold brFn39 at h
  split at h
  · cases m with
    | zero => cases h
    | succ m => exact runK_some (okT4 m) hM (okL1 m) ((evFn39 m R _ _ _ k).trans h)
  · exact okT4 m R 39 _ k x h

/-- (*hookflash/flashmake.Stream).Odd -/
def Fn60 {R : Type} (m : Nat) : Abs.Rows → Int → Int → Int → (Int → Int → Option R) → Option R := match m with
  | 0 => fun _ _ _ _ _ => none
  | m + 1 => fun r72 i73 i74 i75 k =>
  Fn39 m r72 i73 ((12 : Int)) (fun b76 i77 => bif b76 then (Fn20 m r72 i77 ([[F.lit (Value.int IntKind.i64 (IntKind.wrap IntKind.i64 (i74 - (1 : Int))))], [F.lit (Value.int IntKind.i64 (IntKind.wrap IntKind.i64 (i75 + (1 : Int))))], [F.lit (Value.int IntKind.i64 i74)], [F.lit (Value.int IntKind.i64 i75)], [F.lit (Value.int IntKind.i64 (-1099511627776 : Int))], [F.lit (Value.int IntKind.i64 (1099511627776 : Int))]]) (fun i78 i79 => k i78 i79)) else
  (Fn21 m r72 i77 i74 i75 (fun i80 i81 => k i80 i81)))
def brFn60 (m : Nat) (T : Tbl) (R : Type) (vs : List V) (k : V → List V → Option R) : Option R := match vs with
  | [V.obj [V.f (F.lst [LT.int IntKind.i64] r72), V.f (F.lit (Value.int IntKind.i64 i73))], V.f (F.lit (Value.int IntKind.i64 i74)), V.f (F.lit (Value.int IntKind.i64 i75))] => Fn60 m r72 i73 i74 i75 (fun i82 i83 => k (V.f (F.lit (Value.int IntKind.i64 i82))) [V.obj [V.f (F.lst [LT.int IntKind.i64] r72), V.f (F.lit (Value.int IntKind.i64 i83))], V.undef, V.undef])
  | _ => T R 60 vs k
set_option maxRecDepth 100000 in
theorem evFn60 (m : Nat) (R : Type) (r72 : Abs.Rows) (i73 : Int) (i74 : Int) (i75 : Int) (k : V → List V → Option R) : runK Try.prog H (T5 m) (L1 m) 60 [V.obj [V.f (F.lst [LT.int IntKind.i64] r72), V.f (F.lit (Value.int IntKind.i64 i73))], V.f (F.lit (Value.int IntKind.i64 i74)), V.f (F.lit (Value.int IntKind.i64 i75))] k = Fn60 (m + 1) r72 i73 i74 i75 (fun i82 i83 => k (V.f (F.lit (Value.int IntKind.i64 i82))) [V.obj [V.f (F.lst [LT.int IntKind.i64] r72), V.f (F.lit (Value.int IntKind.i64 i83))], V.undef, V.undef]) := by kernel_rfl
def T6 (m : Nat) : Tbl := addT 60 (brFn60 m (T5 m)) (T5 m)
theorem okT6 (m : Nat) : TblOk Try.prog (T6 m) := addT_ok (okT5 m) fun R vs k x h => by
  unfold brFn60 at h
  split at h
  · cases m with
    | zero => cases h
    | succ m => exact runK_some (okT5 m) hM (okL1 m) ((evFn60 m R _ _ _ _ k).trans h)
  · exact okT5 m R 60 _ k x h

/-- a rest of (*hookflash/flashmake.Stream).Sound -/
def Jn22_8 {R : Type} (m : Nat) (kx0 : Abs.Rows → Bool → Int → Option R) (r66 : Abs.Rows) (b67 : Bool) (r68 : Abs.Rows) (i69 : Int) : Option R :=
  bif b67 then (Fn59 m r68 i69 ((↑(List.length r66) : Int)) (fun i70 i71 => Fn60 m r68 i71 ((-32768 : Int)) ((32767 : Int)) (fun i84 i85 => bif decide ((0 : Int) ≤ i70 ∧ i70 < (↑(List.length r66) : Int)) then (kx0 (stR [LT.int IntKind.i64] r66 (Int.toNat i70) (0 : Nat) [F.lit (Value.int IntKind.i64 i84)]) true i85) else
  (none)))) else
  (kx0 r66 false i69)
def brJn22_8 (m : Nat) (L : LTbl) (R : Type) (vs : List V) (k : Ex → List V → Option R) : Option R := match vs with
  | [V.ref (34 : Nat) (0 : Nat), V.own [LT.int IntKind.i64] r66, V.undef, V.f (F.lit (Value.bool b67)), V.obj [V.f (F.lst [LT.int IntKind.i64] r68), V.f (F.lit (Value.int IntKind.i64 i69))], V.undef] => Jn22_8 m (fun r86 b87 i88 => k Ex.normal [V.ref (34 : Nat) (0 : Nat), V.own [LT.int IntKind.i64] r86, V.undef, V.f (F.lit (Value.bool b87)), V.obj [V.f (F.lst [LT.int IntKind.i64] r68), V.f (F.lit (Value.int IntKind.i64 i88))], V.undef]) r66 b67 r68 i69
  | _ => L R 22 8 vs k
set_option maxRecDepth 100000 in
theorem evJn22_8 (m : Nat) (R : Type) (r66 : Abs.Rows) (b67 : Bool) (r68 : Abs.Rows) (i69 : Int) (k : Ex → List V → Option R) : codeK Try.prog H (T6 m) 22 (L1 m) 9 (loopBody Try.prog 22 8) (mkEnv [0, 5, 16, 24, 34, 35] [V.ref (34 : Nat) (0 : Nat), V.own [LT.int IntKind.i64] r66, V.undef, V.f (F.lit (Value.bool b67)), V.obj [V.f (F.lst [LT.int IntKind.i64] r68), V.f (F.lit (Value.int IntKind.i64 i69))], V.undef] 0 (H.len 22)) (fun e env' => k e (vals [0, 5, 16, 24, 34, 35] env')) = Jn22_8 m (fun r86 b87 i88 => k Ex.normal [V.ref (34 : Nat) (0 : Nat), V.own [LT.int IntKind.i64] r86, V.undef, V.f (F.lit (Value.bool b87)), V.obj [V.f (F.lst [LT.int IntKind.i64] r68), V.f (F.lit (Value.int IntKind.i64 i88))], V.undef]) r66 b67 r68 i69 := by kernel_rfl
def L2 (m : Nat) : LTbl := addJ 22 8 (brJn22_8 m (L1 m)) (L1 m)
theorem okL2 (m : Nat) : LTOk Try.prog H (L2 m) := addJ_ok (okT6 m) hM (okL1 m) (l := [0, 5, 16, 24, 34, 35]) (by kernel_rfl) (by kernel_rfl) fun R vs k x h => by
    unfold brJn22_8 at h
    split at h
    · exact .inl ((evJn22_8 m R _ _ _ _ k).trans h)
    · exact .inr h

/-- (*hookflash/flashmake.Stream).Sound -/
def Fn22 {R : Type} (m : Nat) : Abs.Rows → Int → Int → (Abs.Rows → Int → Option R) → Option R := match m with
  | 0 => fun _ _ _ _ => none
  | m + 1 => fun r31 i32 i33 k =>
  Fn21 m r31 i32 ((0 : Int)) i33 (fun i34 i35 => Lp22_3 m (fun r54 i55 i56 => bif decide ((↑(List.length r54) : Int) > (0 : Int)) then (Fn39 m r31 i56 ((25 : Int)) (fun b64 i65 => Jn22_8 m (fun r89 b90 i91 => k r89 i91) r54 b64 r31 i65)) else
  (Jn22_8 m (fun r92 b93 i94 => k r92 i94) r54 false r31 i56)) i34 r31 m rows0 ((0 : Int)) i35)
def brFn22 (m : Nat) (T : Tbl) (R : Type) (vs : List V) (k : V → List V → Option R) : Option R := match vs with
  | [V.obj [V.f (F.lst [LT.int IntKind.i64] r31), V.f (F.lit (Value.int IntKind.i64 i32))], V.f (F.lit (Value.int IntKind.i64 i33))] => Fn22 m r31 i32 i33 (fun r95 i96 => k (V.own [LT.int IntKind.i64] r95) [V.obj [V.f (F.lst [LT.int IntKind.i64] r31), V.f (F.lit (Value.int IntKind.i64 i96))], V.undef])
  | _ => T R 22 vs k
set_option maxRecDepth 100000 in
theorem evFn22 (m : Nat) (R : Type) (r31 : Abs.Rows) (i32 : Int) (i33 : Int) (k : V → List V → Option R) : runK Try.prog H (T6 m) (L2 m) 22 [V.obj [V.f (F.lst [LT.int IntKind.i64] r31), V.f (F.lit (Value.int IntKind.i64 i32))], V.f (F.lit (Value.int IntKind.i64 i33))] k = Fn22 (m + 1) r31 i32 i33 (fun r95 i96 => k (V.own [LT.int IntKind.i64] r95) [V.obj [V.f (F.lst [LT.int IntKind.i64] r31), V.f (F.lit (Value.int IntKind.i64 i96))], V.undef]) := by kernel_rfl
def T7 (m : Nat) : Tbl := addT 22 (brFn22 m (T6 m)) (T6 m)
theorem okT7 (m : Nat) : TblOk Try.prog (T7 m) := addT_ok (okT6 m) fun R vs k x h => by
  unfold brFn22 at h
  split at h
  · cases m with
    | zero => cases h
    | succ m => exact runK_some (okT6 m) hM (okL2 m) ((evFn22 m R _ _ _ k).trans h)
  · exact okT6 m R 22 _ k x h

/-- hookflash/flashref2.in -/
def Fn63 {R : Type} (m : Nat) : Int → Int → Int → (Bool → Option R) → Option R := match m with
  | 0 => fun _ _ _ _ => none
  | m + 1 => fun i109 i110 i111 k =>
  bif decide (i110 ≤ i109) then (k (decide (i109 ≤ i111))) else
  (k false)
def brFn63 (m : Nat) (T : Tbl) (R : Type) (vs : List V) (k : V → List V → Option R) : Option R := match vs with
  | [V.f (F.lit (Value.int IntKind.i64 i109)), V.f (F.lit (Value.int IntKind.i64 i110)), V.f (F.lit (Value.int IntKind.i64 i111))] => Fn63 m i109 i110 i111 (fun b112 => k (V.f (F.lit (Value.bool b112))) [V.undef, V.undef, V.undef])
  | _ => T R 63 vs k
set_option maxRecDepth 100000 in
theorem evFn63 (m : Nat) (R : Type) (i109 : Int) (i110 : Int) (i111 : Int) (k : V → List V → Option R) : runK Try.prog H (T7 m) (L2 m) 63 [V.f (F.lit (Value.int IntKind.i64 i109)), V.f (F.lit (Value.int IntKind.i64 i110)), V.f (F.lit (Value.int IntKind.i64 i111))] k = Fn63 (m + 1) i109 i110 i111 (fun b112 => k (V.f (F.lit (Value.bool b112))) [V.undef, V.undef, V.undef]) := by kernel_rfl
def T8 (m : Nat) : Tbl := addT 63 (brFn63 m (T7 m)) (T7 m)
theorem okT8 (m : Nat) : TblOk Try.prog (T8 m) := addT_ok (okT7 m) fun R vs k x h => by
  unfold brFn63 at h
  split at h
  · cases m with
    | zero => cases h
    | succ m => exact runK_some (okT7 m) hM (okL2 m) ((evFn63 m R _ _ _ k).trans h)
  · exact okT7 m R 63 _ k x h

/-- hookflash/flashref2.Sample -/
def Fn25 {R : Type} (m : Nat) : Int → (Bool → Option R) → Option R := match m with
  | 0 => fun _ _ => none
  | m + 1 => fun i108 k =>
  Fn63 m i108 ((-32768 : Int)) ((32767 : Int)) (fun b113 => k b113)
def brFn25 (m : Nat) (T : Tbl) (R : Type) (vs : List V) (k : V → List V → Option R) : Option R := match vs with
  | [V.f (F.lit (Value.int IntKind.i64 i108))] => Fn25 m i108 (fun b114 => k (V.f (F.lit (Value.bool b114))) [V.undef])
  | _ => T R 25 vs k
set_option maxRecDepth 100000 in
theorem evFn25 (m : Nat) (R : Type) (i108 : Int) (k : V → List V → Option R) : runK Try.prog H (T8 m) (L2 m) 25 [V.f (F.lit (Value.int IntKind.i64 i108))] k = Fn25 (m + 1) i108 (fun b114 => k (V.f (F.lit (Value.bool b114))) [V.undef]) := by kernel_rfl
def T9 (m : Nat) : Tbl := addT 25 (brFn25 m (T8 m)) (T8 m)
theorem okT9 (m : Nat) : TblOk Try.prog (T9 m) := addT_ok (okT8 m) fun R vs k x h => by
  unfold brFn25 at h
  split at h
  · cases m with
    | zero => cases h
    | succ m => exact runK_some (okT8 m) hM (okL2 m) ((evFn25 m R _ k).trans h)
  · exact okT8 m R 25 _ k x h

/-- hookflash/flashref2.SamplesFault$1 -/
def Fn70 {R : Type} (m : Nat) : Int → (Bool → Option R) → Option R := match m with
  | 0 => fun _ _ => none
  | m + 1 => fun i107 k =>
  Fn25 m i107 (fun b115 => k (!b115))
def brFn70 (m : Nat) (T : Tbl) (R : Type) (vs : List V) (k : V → List V → Option R) : Option R := match vs with
  | [V.f (F.lit (Value.int IntKind.i64 i107))] => Fn70 m i107 (fun b116 => k (V.f (F.lit (Value.bool b116))) [V.undef])
  | _ => T R 70 vs k
set_option maxRecDepth 100000 in
theorem evFn70 (m : Nat) (R : Type) (i107 : Int) (k : V → List V → Option R) : runK Try.prog H (T9 m) (L2 m) 70 [V.f (F.lit (Value.int IntKind.i64 i107))] k = Fn70 (m + 1) i107 (fun b116 => k (V.f (F.lit (Value.bool b116))) [V.undef]) := by kernel_rfl
def T10 (m : Nat) : Tbl := addT 70 (brFn70 m (T9 m)) (T9 m)
theorem okT10 (m : Nat) : TblOk Try.prog (T10 m) := addT_ok (okT9 m) fun R vs k x h => by
  unfold brFn70 at h
  split at h
  · cases m with
    | zero => cases h
    | succ m => exact runK_some (okT9 m) hM (okL2 m) ((evFn70 m R _ k).trans h)
  · exact okT9 m R 70 _ k x h

/-- a round of a loop of slices.IndexFunc[[]int,int] -/
def Lp94_2_step {R : Type} (m : Nat) (kx0 : Int → Int → Option R) (kx1 : Int → Option R) (r103 : Abs.Rows) (i104 : Int) (i105 : Int) (REC : Int → Option R) (i106 : Int) : Option R :=
  bif decide (i106 < i105) then (bif decide ((0 : Int) ≤ i106 ∧ i106 < (↑(List.length r103) : Int)) then (Fn70 m (fI r103 (Int.toNat i106) (0 : Nat)) (fun b117 => bif b117 then (kx0 i106 i106) else
  (REC (IntKind.wrap IntKind.i64 (i106 + (1 : Int)))))) else
  (none)) else
  (kx1 i106)
def Lp94_2 {R : Type} (m : Nat) (kx0 : Int → Int → Option R) (kx1 : Int → Option R) (r103 : Abs.Rows) (i104 : Int) (i105 : Int) : Nat → Int → Option R
  | 0, _ => none
  | n + 1, i106 => Lp94_2_step m kx0 kx1 r103 i104 i105 (Lp94_2 m kx0 kx1 r103 i104 i105 n) i106
def ELp94_2 (m : Nat) (R : Type) : Nat → List V → (Ex → List V → Option R) → Option R
  | 0, _, _ => none
  | n + 1, vs, k => match vs with
    | [V.f (F.lst [LT.int IntKind.i64] r103), V.clos (70 : Nat) [], V.f (F.lit (Value.int IntKind.i64 i104)), V.f (F.lit (Value.int IntKind.i64 i105)), V.f (F.lit (Value.int IntKind.i64 i106)), V.undef, V.undef] => Lp94_2_step m (fun i118 i119 => k Ex.ret [V.f (F.lst [LT.int IntKind.i64] r103), V.clos (70 : Nat) [], V.f (F.lit (Value.int IntKind.i64 i118)), V.f (F.lit (Value.int IntKind.i64 i105)), V.f (F.lit (Value.int IntKind.i64 i119)), V.undef, V.undef]) (fun i120 => k (Ex.exit (0 : Nat)) [V.f (F.lst [LT.int IntKind.i64] r103), V.clos (70 : Nat) [], V.f (F.lit (Value.int IntKind.i64 i104)), V.f (F.lit (Value.int IntKind.i64 i105)), V.f (F.lit (Value.int IntKind.i64 i120)), V.undef, V.undef]) r103 i104 i105 (fun i106 => ELp94_2 m R n [V.f (F.lst [LT.int IntKind.i64] r103), V.clos (70 : Nat) [], V.f (F.lit (Value.int IntKind.i64 i104)), V.f (F.lit (Value.int IntKind.i64 i105)), V.f (F.lit (Value.int IntKind.i64 i106)), V.undef, V.undef] k) i106
    | _ => none
def brLp94_2 (m : Nat) (L : LTbl) (R : Type) (vs : List V) (k : Ex → List V → Option R) : Option R := match vs with
  | [V.f (F.lst [LT.int IntKind.i64] r103), V.clos (70 : Nat) [], V.f (F.lit (Value.int IntKind.i64 i104)), V.f (F.lit (Value.int IntKind.i64 i105)), V.f (F.lit (Value.int IntKind.i64 i106)), V.undef, V.undef] => Lp94_2 m (fun i118 i119 => k Ex.ret [V.f (F.lst [LT.int IntKind.i64] r103), V.clos (70 : Nat) [], V.f (F.lit (Value.int IntKind.i64 i118)), V.f (F.lit (Value.int IntKind.i64 i105)), V.f (F.lit (Value.int IntKind.i64 i119)), V.undef, V.undef]) (fun i120 => k (Ex.exit (0 : Nat)) [V.f (F.lst [LT.int IntKind.i64] r103), V.clos (70 : Nat) [], V.f (F.lit (Value.int IntKind.i64 i104)), V.f (F.lit (Value.int IntKind.i64 i105)), V.f (F.lit (Value.int IntKind.i64 i120)), V.undef, V.undef]) r103 i104 i105 m i106
  | _ => L R 94 2 vs k
set_option maxRecDepth 100000 in
theorem stLp94_2 (m n : Nat) (R : Type) (r103 : Abs.Rows) (i104 : Int) (i105 : Int) (i106 : Int) (k : Ex → List V → Option R) : codeK Try.prog H (T10 m) 94 (L2 m) 3 (loopBody Try.prog 94 2) (mkEnv [0, 1, 4, 7, 8, 19, 20] [V.f (F.lst [LT.int IntKind.i64] r103), V.clos (70 : Nat) [], V.f (F.lit (Value.int IntKind.i64 i104)), V.f (F.lit (Value.int IntKind.i64 i105)), V.f (F.lit (Value.int IntKind.i64 i106)), V.undef, V.undef] 0 (H.len 94)) (fun e env' => match e with | .normal => ELp94_2 m R n (vals [0, 1, 4, 7, 8, 19, 20] env') k | e => k e (vals [0, 1, 4, 7, 8, 19, 20] env')) = Lp94_2_step m (fun i118 i119 => k Ex.ret [V.f (F.lst [LT.int IntKind.i64] r103), V.clos (70 : Nat) [], V.f (F.lit (Value.int IntKind.i64 i118)), V.f (F.lit (Value.int IntKind.i64 i105)), V.f (F.lit (Value.int IntKind.i64 i119)), V.undef, V.undef]) (fun i120 => k (Ex.exit (0 : Nat)) [V.f (F.lst [LT.int IntKind.i64] r103), V.clos (70 : Nat) [], V.f (F.lit (Value.int IntKind.i64 i104)), V.f (F.lit (Value.int IntKind.i64 i105)), V.f (F.lit (Value.int IntKind.i64 i120)), V.undef, V.undef]) r103 i104 i105 (fun i106 => ELp94_2 m R n [V.f (F.lst [LT.int IntKind.i64] r103), V.clos (70 : Nat) [], V.f (F.lit (Value.int IntKind.i64 i104)), V.f (F.lit (Value.int IntKind.i64 i105)), V.f (F.lit (Value.int IntKind.i64 i106)), V.undef, V.undef] k) i106 := by kernel_rfl
theorem eqLp94_2 (m : Nat) (R : Type) (r103 : Abs.Rows) (i104 : Int) (i105 : Int) (k : Ex → List V → Option R) : ∀ (n : Nat) (i106 : Int), ELp94_2 m R n [V.f (F.lst [LT.int IntKind.i64] r103), V.clos (70 : Nat) [], V.f (F.lit (Value.int IntKind.i64 i104)), V.f (F.lit (Value.int IntKind.i64 i105)), V.f (F.lit (Value.int IntKind.i64 i106)), V.undef, V.undef] k = Lp94_2 m (fun i118 i119 => k Ex.ret [V.f (F.lst [LT.int IntKind.i64] r103), V.clos (70 : Nat) [], V.f (F.lit (Value.int IntKind.i64 i118)), V.f (F.lit (Value.int IntKind.i64 i105)), V.f (F.lit (Value.int IntKind.i64 i119)), V.undef, V.undef]) (fun i120 => k (Ex.exit (0 : Nat)) [V.f (F.lst [LT.int IntKind.i64] r103), V.clos (70 : Nat) [], V.f (F.lit (Value.int IntKind.i64 i104)), V.f (F.lit (Value.int IntKind.i64 i105)), V.f (F.lit (Value.int IntKind.i64 i120)), V.undef, V.undef]) r103 i104 i105 n i106
  | 0, _ => rfl
  | n + 1, i106 => by
    simp only [ELp94_2, Lp94_2]
    congr 1
    funext i106
    exact eqLp94_2 m R r103 i104 i105 k n i106
def L3 (m : Nat) : LTbl := addB 94 2 (brLp94_2 m (L2 m)) (L2 m)
theorem okL3 (m : Nat) : LTOk Try.prog H (L3 m) := addB_ok (okT10 m) hM (okL2 m) (l := [0, 1, 4, 7, 8, 19, 20]) (by kernel_rfl) (by kernel_rfl) m (fun R n vs k => ELp94_2 m R n vs k) (fun R vs k => rfl) (fun R n vs k x h => by
      simp only [ELp94_2] at h
      split at h
      · exact (stLp94_2 m n R _ _ _ _ k).trans h
      · cases h) fun R vs k x h => by
    unfold brLp94_2 at h
    split at h
    · exact .inl ((eqLp94_2 m R _ _ _ k m _).trans h)
    · exact .inr h

/-- slices.IndexFunc[[]int,int] -/
def Fn94 {R : Type} (m : Nat) : Abs.Rows → (Int → Option R) → Option R := match m with
  | 0 => fun _ _ => none
  | m + 1 => fun r102 k =>
  Lp94_2 m (fun i121 i122 => k i121) (fun i123 => k ((-1 : Int))) r102 ((0 : Int)) ((↑(List.length r102) : Int)) m ((0 : Int))
def brFn94 (m : Nat) (T : Tbl) (R : Type) (vs : List V) (k : V → List V → Option R) : Option R := match vs with
  | [V.f (F.lst [LT.int IntKind.i64] r102), V.clos (70 : Nat) []] => Fn94 m r102 (fun i124 => k (V.f (F.lit (Value.int IntKind.i64 i124))) [V.undef, V.undef])
  | _ => T R 94 vs k
set_option maxRecDepth 100000 in
theorem evFn94 (m : Nat) (R : Type) (r102 : Abs.Rows) (k : V → List V → Option R) : runK Try.prog H (T10 m) (L3 m) 94 [V.f (F.lst [LT.int IntKind.i64] r102), V.clos (70 : Nat) []] k = Fn94 (m + 1) r102 (fun i124 => k (V.f (F.lit (Value.int IntKind.i64 i124))) [V.undef, V.undef]) := by kernel_rfl
def T11 (m : Nat) : Tbl := addT 94 (brFn94 m (T10 m)) (T10 m)
theorem okT11 (m : Nat) : TblOk Try.prog (T11 m) := addT_ok (okT10 m) fun R vs k x h => by
  unfold brFn94 at h
  split at h
  · cases m with
    | zero => cases h
    | succ m => exact runK_some (okT10 m) hM (okL3 m) ((evFn94 m R _ k).trans h)
  · exact okT10 m R 94 _ k x h

/-- slices.ContainsFunc[[]int,int] -/
def Fn69 {R : Type} (m : Nat) : Abs.Rows → (Bool → Option R) → Option R := match m with
  | 0 => fun _ _ => none
  | m + 1 => fun r101 k =>
  Fn94 m r101 (fun i125 => k (decide (i125 ≥ (0 : Int))))
def brFn69 (m : Nat) (T : Tbl) (R : Type) (vs : List V) (k : V → List V → Option R) : Option R := match vs with
  | [V.f (F.lst [LT.int IntKind.i64] r101), V.clos (70 : Nat) []] => Fn69 m r101 (fun b126 => k (V.f (F.lit (Value.bool b126))) [V.undef, V.undef])
  | _ => T R 69 vs k
set_option maxRecDepth 100000 in
theorem evFn69 (m : Nat) (R : Type) (r101 : Abs.Rows) (k : V → List V → Option R) : runK Try.prog H (T11 m) (L3 m) 69 [V.f (F.lst [LT.int IntKind.i64] r101), V.clos (70 : Nat) []] k = Fn69 (m + 1) r101 (fun b126 => k (V.f (F.lit (Value.bool b126))) [V.undef, V.undef]) := by kernel_rfl
def T12 (m : Nat) : Tbl := addT 69 (brFn69 m (T11 m)) (T11 m)
theorem okT12 (m : Nat) : TblOk Try.prog (T12 m) := addT_ok (okT11 m) fun R vs k x h => by
  unfold brFn69 at h
  split at h
  · cases m with
    | zero => cases h
    | succ m => exact runK_some (okT11 m) hM (okL3 m) ((evFn69 m R _ k).trans h)
  · exact okT11 m R 69 _ k x h

/-- hookflash/flashref2.SamplesFault -/
def Fn28 {R : Type} (m : Nat) : Abs.Rows → (Int → Option R) → Option R := match m with
  | 0 => fun _ _ => none
  | m + 1 => fun r100 k =>
  bif decide ((↑(List.length r100) : Int) > (20000 : Int)) then (k ((2 : Int))) else
  (Fn69 m r100 (fun b127 => bif b127 then (k ((1 : Int))) else
  (k ((0 : Int)))))
def brFn28 (m : Nat) (T : Tbl) (R : Type) (vs : List V) (k : V → List V → Option R) : Option R := match vs with
  | [V.f (F.lst [LT.int IntKind.i64] r100)] => Fn28 m r100 (fun i128 => k (V.f (F.lit (Value.int IntKind.i64 i128))) [V.undef])
  | _ => T R 28 vs k
set_option maxRecDepth 100000 in
theorem evFn28 (m : Nat) (R : Type) (r100 : Abs.Rows) (k : V → List V → Option R) : runK Try.prog H (T12 m) (L3 m) 28 [V.f (F.lst [LT.int IntKind.i64] r100)] k = Fn28 (m + 1) r100 (fun i128 => k (V.f (F.lit (Value.int IntKind.i64 i128))) [V.undef]) := by kernel_rfl
def T13 (m : Nat) : Tbl := addT 28 (brFn28 m (T12 m)) (T12 m)
theorem okT13 (m : Nat) : TblOk Try.prog (T13 m) := addT_ok (okT12 m) fun R vs k x h => by
  unfold brFn28 at h
  split at h
  · cases m with
    | zero => cases h
    | succ m => exact runK_some (okT12 m) hM (okL3 m) ((evFn28 m R _ k).trans h)
  · exact okT12 m R 28 _ k x h

/-- a round of a loop of hookflash/flashlaw2.errs -/
def Lp35_2_step {R : Type} (m : Nat) (kx0 : Int → Int → Option R) (kx1 : Int → Option R) (r131 : Abs.Rows) (i132 : Int) (r133 : Abs.Rows) (i134 : Int) (REC : Int → Option R) (i135 : Int) : Option R :=
  bif decide (i135 < i134) then (bif decide ((0 : Int) ≤ i135 ∧ i135 < (↑(List.length r133) : Int)) then (bif fI r133 (Int.toNat i135) (0 : Nat) != (0 : Int) then (kx0 (fI r133 (Int.toNat i135) (0 : Nat)) i135) else
  (REC (IntKind.wrap IntKind.i64 (i135 + (1 : Int))))) else
  (none)) else
  (kx1 i135)
def Lp35_2 {R : Type} (m : Nat) (kx0 : Int → Int → Option R) (kx1 : Int → Option R) (r131 : Abs.Rows) (i132 : Int) (r133 : Abs.Rows) (i134 : Int) : Nat → Int → Option R
  | 0, _ => none
  | n + 1, i135 => Lp35_2_step m kx0 kx1 r131 i132 r133 i134 (Lp35_2 m kx0 kx1 r131 i132 r133 i134 n) i135
def ELp35_2 (m : Nat) (R : Type) : Nat → List V → (Ex → List V → Option R) → Option R
  | 0, _, _ => none
  | n + 1, vs, k => match vs with
    | [V.bor [LT.int IntKind.i64] r131, V.f (F.lit (Value.int IntKind.i64 i132)), V.bor [LT.int IntKind.i64] r133, V.f (F.lit (Value.int IntKind.i64 i134)), V.f (F.lit (Value.int IntKind.i64 i135)), V.undef] => Lp35_2_step m (fun i136 i137 => k Ex.ret [V.bor [LT.int IntKind.i64] r131, V.f (F.lit (Value.int IntKind.i64 i136)), V.bor [LT.int IntKind.i64] r133, V.f (F.lit (Value.int IntKind.i64 i134)), V.f (F.lit (Value.int IntKind.i64 i137)), V.undef]) (fun i138 => k (Ex.exit (0 : Nat)) [V.bor [LT.int IntKind.i64] r131, V.f (F.lit (Value.int IntKind.i64 i132)), V.bor [LT.int IntKind.i64] r133, V.f (F.lit (Value.int IntKind.i64 i134)), V.f (F.lit (Value.int IntKind.i64 i138)), V.undef]) r131 i132 r133 i134 (fun i135 => ELp35_2 m R n [V.bor [LT.int IntKind.i64] r131, V.f (F.lit (Value.int IntKind.i64 i132)), V.bor [LT.int IntKind.i64] r133, V.f (F.lit (Value.int IntKind.i64 i134)), V.f (F.lit (Value.int IntKind.i64 i135)), V.undef] k) i135
    | _ => none
def brLp35_2 (m : Nat) (L : LTbl) (R : Type) (vs : List V) (k : Ex → List V → Option R) : Option R := match vs with
  | [V.bor [LT.int IntKind.i64] r131, V.f (F.lit (Value.int IntKind.i64 i132)), V.bor [LT.int IntKind.i64] r133, V.f (F.lit (Value.int IntKind.i64 i134)), V.f (F.lit (Value.int IntKind.i64 i135)), V.undef] => Lp35_2 m (fun i136 i137 => k Ex.ret [V.bor [LT.int IntKind.i64] r131, V.f (F.lit (Value.int IntKind.i64 i136)), V.bor [LT.int IntKind.i64] r133, V.f (F.lit (Value.int IntKind.i64 i134)), V.f (F.lit (Value.int IntKind.i64 i137)), V.undef]) (fun i138 => k (Ex.exit (0 : Nat)) [V.bor [LT.int IntKind.i64] r131, V.f (F.lit (Value.int IntKind.i64 i132)), V.bor [LT.int IntKind.i64] r133, V.f (F.lit (Value.int IntKind.i64 i134)), V.f (F.lit (Value.int IntKind.i64 i138)), V.undef]) r131 i132 r133 i134 m i135
  | _ => L R 35 2 vs k
set_option maxRecDepth 100000 in
theorem stLp35_2 (m n : Nat) (R : Type) (r131 : Abs.Rows) (i132 : Int) (r133 : Abs.Rows) (i134 : Int) (i135 : Int) (k : Ex → List V → Option R) : codeK Try.prog H (T13 m) 35 (L3 m) 3 (loopBody Try.prog 35 2) (mkEnv [0, 2, 5, 6, 7, 15] [V.bor [LT.int IntKind.i64] r131, V.f (F.lit (Value.int IntKind.i64 i132)), V.bor [LT.int IntKind.i64] r133, V.f (F.lit (Value.int IntKind.i64 i134)), V.f (F.lit (Value.int IntKind.i64 i135)), V.undef] 0 (H.len 35)) (fun e env' => match e with | .normal => ELp35_2 m R n (vals [0, 2, 5, 6, 7, 15] env') k | e => k e (vals [0, 2, 5, 6, 7, 15] env')) = Lp35_2_step m (fun i136 i137 => k Ex.ret [V.bor [LT.int IntKind.i64] r131, V.f (F.lit (Value.int IntKind.i64 i136)), V.bor [LT.int IntKind.i64] r133, V.f (F.lit (Value.int IntKind.i64 i134)), V.f (F.lit (Value.int IntKind.i64 i137)), V.undef]) (fun i138 => k (Ex.exit (0 : Nat)) [V.bor [LT.int IntKind.i64] r131, V.f (F.lit (Value.int IntKind.i64 i132)), V.bor [LT.int IntKind.i64] r133, V.f (F.lit (Value.int IntKind.i64 i134)), V.f (F.lit (Value.int IntKind.i64 i138)), V.undef]) r131 i132 r133 i134 (fun i135 => ELp35_2 m R n [V.bor [LT.int IntKind.i64] r131, V.f (F.lit (Value.int IntKind.i64 i132)), V.bor [LT.int IntKind.i64] r133, V.f (F.lit (Value.int IntKind.i64 i134)), V.f (F.lit (Value.int IntKind.i64 i135)), V.undef] k) i135 := by kernel_rfl
theorem eqLp35_2 (m : Nat) (R : Type) (r131 : Abs.Rows) (i132 : Int) (r133 : Abs.Rows) (i134 : Int) (k : Ex → List V → Option R) : ∀ (n : Nat) (i135 : Int), ELp35_2 m R n [V.bor [LT.int IntKind.i64] r131, V.f (F.lit (Value.int IntKind.i64 i132)), V.bor [LT.int IntKind.i64] r133, V.f (F.lit (Value.int IntKind.i64 i134)), V.f (F.lit (Value.int IntKind.i64 i135)), V.undef] k = Lp35_2 m (fun i136 i137 => k Ex.ret [V.bor [LT.int IntKind.i64] r131, V.f (F.lit (Value.int IntKind.i64 i136)), V.bor [LT.int IntKind.i64] r133, V.f (F.lit (Value.int IntKind.i64 i134)), V.f (F.lit (Value.int IntKind.i64 i137)), V.undef]) (fun i138 => k (Ex.exit (0 : Nat)) [V.bor [LT.int IntKind.i64] r131, V.f (F.lit (Value.int IntKind.i64 i132)), V.bor [LT.int IntKind.i64] r133, V.f (F.lit (Value.int IntKind.i64 i134)), V.f (F.lit (Value.int IntKind.i64 i138)), V.undef]) r131 i132 r133 i134 n i135
  | 0, _ => rfl
  | n + 1, i135 => by
    simp only [ELp35_2, Lp35_2]
    congr 1
    funext i135
    exact eqLp35_2 m R r131 i132 r133 i134 k n i135
def L4 (m : Nat) : LTbl := addB 35 2 (brLp35_2 m (L3 m)) (L3 m)
theorem okL4 (m : Nat) : LTOk Try.prog H (L4 m) := addB_ok (okT13 m) hM (okL3 m) (l := [0, 2, 5, 6, 7, 15]) (by kernel_rfl) (by kernel_rfl) m (fun R n vs k => ELp35_2 m R n vs k) (fun R vs k => rfl) (fun R n vs k x h => by
      simp only [ELp35_2] at h
      split at h
      · exact (stLp35_2 m n R _ _ _ _ _ k).trans h
      · cases h) fun R vs k x h => by
    unfold brLp35_2 at h
    split at h
    · exact .inl ((eqLp35_2 m R _ _ _ _ k m _).trans h)
    · exact .inr h

/-- hookflash/flashlaw2.errs -/
def Fn35 {R : Type} (m : Nat) : Abs.Rows → (Int → Option R) → Option R := match m with
  | 0 => fun _ _ => none
  | m + 1 => fun r130 k =>
  Lp35_2 m (fun i139 i140 => k i139) (fun i141 => k ((0 : Int))) r130 ((0 : Int)) r130 ((↑(List.length r130) : Int)) m ((0 : Int))
def brFn35 (m : Nat) (T : Tbl) (R : Type) (vs : List V) (k : V → List V → Option R) : Option R := match vs with
  | [V.bor [LT.int IntKind.i64] r130] => Fn35 m r130 (fun i142 => k (V.f (F.lit (Value.int IntKind.i64 i142))) [V.undef])
  | _ => T R 35 vs k
set_option maxRecDepth 100000 in
theorem evFn35 (m : Nat) (R : Type) (r130 : Abs.Rows) (k : V → List V → Option R) : runK Try.prog H (T13 m) (L4 m) 35 [V.bor [LT.int IntKind.i64] r130] k = Fn35 (m + 1) r130 (fun i142 => k (V.f (F.lit (Value.int IntKind.i64 i142))) [V.undef]) := by kernel_rfl
def T14 (m : Nat) : Tbl := addT 35 (brFn35 m (T13 m)) (T13 m)
theorem okT14 (m : Nat) : TblOk Try.prog (T14 m) := addT_ok (okT13 m) fun R vs k x h => by
  unfold brFn35 at h
  split at h
  · cases m with
    | zero => cases h
    | succ m => exact runK_some (okT13 m) hM (okL4 m) ((evFn35 m R _ k).trans h)
  · exact okT13 m R 35 _ k x h

/-- a round of a loop of hookflash/flashlaw2.SoundsMixed -/
def Lp6_5_step {R : Type} (m : Nat) (kx0 : Int → Abs.Rows → Int → Int → Option R) (r25 : Abs.Rows) (i29 : Int) (REC : Int → Abs.Rows → Int → Int → Option R) (i26 : Int) (r27 : Abs.Rows) (i28 : Int) (i30 : Int) : Option R :=
  bif decide (i30 < i29) then (Fn22 m r25 i26 ((8 : Int)) (fun r97 i98 => bif decide (List.length r27 + List.length [[F.lst [LT.int IntKind.i64] r97]] ≤ rowMax) then (letV (r27 ++ [[F.lst [LT.int IntKind.i64] r97]]) (fun r99 => Fn28 m r97 (fun i129 => Fn35 m ([[F.lit (Value.int IntKind.i64 i28)], [F.lit (Value.int IntKind.i64 i129)]]) (fun i143 => REC i98 r99 i143 (IntKind.wrap IntKind.i64 (i30 + (1 : Int))))))) else
  (none))) else
  (kx0 i26 r27 i28 i30)
def Lp6_5 {R : Type} (m : Nat) (kx0 : Int → Abs.Rows → Int → Int → Option R) (r25 : Abs.Rows) (i29 : Int) : Nat → Int → Abs.Rows → Int → Int → Option R
  | 0, _, _, _, _ => none
  | n + 1, i26, r27, i28, i30 => Lp6_5_step m kx0 r25 i29 (Lp6_5 m kx0 r25 i29 n) i26 r27 i28 i30
def ELp6_5 (m : Nat) (R : Type) : Nat → List V → (Ex → List V → Option R) → Option R
  | 0, _, _ => none
  | n + 1, vs, k => match vs with
    | [V.obj [V.f (F.lst [LT.int IntKind.i64] r25), V.f (F.lit (Value.int IntKind.i64 i26))], V.own [LT.lst [LT.int IntKind.i64]] r27, V.f (F.lit (Value.int IntKind.i64 i28)), V.undef, V.f (F.lit (Value.int IntKind.i64 i29)), V.f (F.lit (Value.int IntKind.i64 i30)), V.undef] => Lp6_5_step m (fun i144 r145 i146 i147 => k (Ex.exit (0 : Nat)) [V.obj [V.f (F.lst [LT.int IntKind.i64] r25), V.f (F.lit (Value.int IntKind.i64 i144))], V.own [LT.lst [LT.int IntKind.i64]] r145, V.f (F.lit (Value.int IntKind.i64 i146)), V.undef, V.f (F.lit (Value.int IntKind.i64 i29)), V.f (F.lit (Value.int IntKind.i64 i147)), V.undef]) r25 i29 (fun i26 r27 i28 i30 => ELp6_5 m R n [V.obj [V.f (F.lst [LT.int IntKind.i64] r25), V.f (F.lit (Value.int IntKind.i64 i26))], V.own [LT.lst [LT.int IntKind.i64]] r27, V.f (F.lit (Value.int IntKind.i64 i28)), V.undef, V.f (F.lit (Value.int IntKind.i64 i29)), V.f (F.lit (Value.int IntKind.i64 i30)), V.undef] k) i26 r27 i28 i30
    | _ => none
def brLp6_5 (m : Nat) (L : LTbl) (R : Type) (vs : List V) (k : Ex → List V → Option R) : Option R := match vs with
  | [V.obj [V.f (F.lst [LT.int IntKind.i64] r25), V.f (F.lit (Value.int IntKind.i64 i26))], V.own [LT.lst [LT.int IntKind.i64]] r27, V.f (F.lit (Value.int IntKind.i64 i28)), V.undef, V.f (F.lit (Value.int IntKind.i64 i29)), V.f (F.lit (Value.int IntKind.i64 i30)), V.undef] => Lp6_5 m (fun i144 r145 i146 i147 => k (Ex.exit (0 : Nat)) [V.obj [V.f (F.lst [LT.int IntKind.i64] r25), V.f (F.lit (Value.int IntKind.i64 i144))], V.own [LT.lst [LT.int IntKind.i64]] r145, V.f (F.lit (Value.int IntKind.i64 i146)), V.undef, V.f (F.lit (Value.int IntKind.i64 i29)), V.f (F.lit (Value.int IntKind.i64 i147)), V.undef]) r25 i29 m i26 r27 i28 i30
  | _ => L R 6 5 vs k
set_option maxRecDepth 100000 in
theorem stLp6_5 (m n : Nat) (R : Type) (r25 : Abs.Rows) (i26 : Int) (r27 : Abs.Rows) (i28 : Int) (i29 : Int) (i30 : Int) (k : Ex → List V → Option R) : codeK Try.prog H (T14 m) 6 (L4 m) 6 (loopBody Try.prog 6 5) (mkEnv [3, 4, 5, 24, 26, 27, 149] [V.obj [V.f (F.lst [LT.int IntKind.i64] r25), V.f (F.lit (Value.int IntKind.i64 i26))], V.own [LT.lst [LT.int IntKind.i64]] r27, V.f (F.lit (Value.int IntKind.i64 i28)), V.undef, V.f (F.lit (Value.int IntKind.i64 i29)), V.f (F.lit (Value.int IntKind.i64 i30)), V.undef] 0 (H.len 6)) (fun e env' => match e with | .normal => ELp6_5 m R n (vals [3, 4, 5, 24, 26, 27, 149] env') k | e => k e (vals [3, 4, 5, 24, 26, 27, 149] env')) = Lp6_5_step m (fun i144 r145 i146 i147 => k (Ex.exit (0 : Nat)) [V.obj [V.f (F.lst [LT.int IntKind.i64] r25), V.f (F.lit (Value.int IntKind.i64 i144))], V.own [LT.lst [LT.int IntKind.i64]] r145, V.f (F.lit (Value.int IntKind.i64 i146)), V.undef, V.f (F.lit (Value.int IntKind.i64 i29)), V.f (F.lit (Value.int IntKind.i64 i147)), V.undef]) r25 i29 (fun i26 r27 i28 i30 => ELp6_5 m R n [V.obj [V.f (F.lst [LT.int IntKind.i64] r25), V.f (F.lit (Value.int IntKind.i64 i26))], V.own [LT.lst [LT.int IntKind.i64]] r27, V.f (F.lit (Value.int IntKind.i64 i28)), V.undef, V.f (F.lit (Value.int IntKind.i64 i29)), V.f (F.lit (Value.int IntKind.i64 i30)), V.undef] k) i26 r27 i28 i30 := by kernel_rfl
theorem eqLp6_5 (m : Nat) (R : Type) (r25 : Abs.Rows) (i29 : Int) (k : Ex → List V → Option R) : ∀ (n : Nat) (i26 : Int) (r27 : Abs.Rows) (i28 : Int) (i30 : Int), ELp6_5 m R n [V.obj [V.f (F.lst [LT.int IntKind.i64] r25), V.f (F.lit (Value.int IntKind.i64 i26))], V.own [LT.lst [LT.int IntKind.i64]] r27, V.f (F.lit (Value.int IntKind.i64 i28)), V.undef, V.f (F.lit (Value.int IntKind.i64 i29)), V.f (F.lit (Value.int IntKind.i64 i30)), V.undef] k = Lp6_5 m (fun i144 r145 i146 i147 => k (Ex.exit (0 : Nat)) [V.obj [V.f (F.lst [LT.int IntKind.i64] r25), V.f (F.lit (Value.int IntKind.i64 i144))], V.own [LT.lst [LT.int IntKind.i64]] r145, V.f (F.lit (Value.int IntKind.i64 i146)), V.undef, V.f (F.lit (Value.int IntKind.i64 i29)), V.f (F.lit (Value.int IntKind.i64 i147)), V.undef]) r25 i29 n i26 r27 i28 i30
  | 0, _, _, _, _ => rfl
  | n + 1, i26, r27, i28, i30 => by
    simp only [ELp6_5, Lp6_5]
    congr 1
    funext i26 r27 i28 i30
    exact eqLp6_5 m R r25 i29 k n i26 r27 i28 i30
def L5 (m : Nat) : LTbl := addB 6 5 (brLp6_5 m (L4 m)) (L4 m)
theorem okL5 (m : Nat) : LTOk Try.prog H (L5 m) := addB_ok (okT14 m) hM (okL4 m) (l := [3, 4, 5, 24, 26, 27, 149]) (by kernel_rfl) (by kernel_rfl) m (fun R n vs k => ELp6_5 m R n vs k) (fun R vs k => rfl) (fun R n vs k x h => by
      simp only [ELp6_5] at h
      split at h
      · exact (stLp6_5 m n R _ _ _ _ _ _ k).trans h
      · cases h) fun R vs k x h => by
    unfold brLp6_5 at h
    split at h
    · exact .inl ((eqLp6_5 m R _ _ k m _ _ _ _).trans h)
    · exact .inr h

/-- hookflash/media.within -/
def Fn67 {R : Type} (m : Nat) : Int → Int → Int → (Bool → Option R) → Option R := match m with
  | 0 => fun _ _ _ _ => none
  | m + 1 => fun i181 i182 i183 k =>
  bif decide (i181 ≥ i182) then (k (decide (i181 ≤ i183))) else
  (k false)
def brFn67 (m : Nat) (T : Tbl) (R : Type) (vs : List V) (k : V → List V → Option R) : Option R := match vs with
  | [V.f (F.lit (Value.int IntKind.i64 i181)), V.f (F.lit (Value.int IntKind.i64 i182)), V.f (F.lit (Value.int IntKind.i64 i183))] => Fn67 m i181 i182 i183 (fun b184 => k (V.f (F.lit (Value.bool b184))) [V.undef, V.undef, V.undef])
  | _ => T R 67 vs k
set_option maxRecDepth 100000 in
theorem evFn67 (m : Nat) (R : Type) (i181 : Int) (i182 : Int) (i183 : Int) (k : V → List V → Option R) : runK Try.prog H (T14 m) (L5 m) 67 [V.f (F.lit (Value.int IntKind.i64 i181)), V.f (F.lit (Value.int IntKind.i64 i182)), V.f (F.lit (Value.int IntKind.i64 i183))] k = Fn67 (m + 1) i181 i182 i183 (fun b184 => k (V.f (F.lit (Value.bool b184))) [V.undef, V.undef, V.undef]) := by kernel_rfl
def T15 (m : Nat) : Tbl := addT 67 (brFn67 m (T14 m)) (T14 m)
theorem okT15 (m : Nat) : TblOk Try.prog (T15 m) := addT_ok (okT14 m) fun R vs k x h => by
  unfold brFn67 at h
  split at h
  · cases m with
    | zero => cases h
    | succ m => exact runK_some (okT14 m) hM (okL5 m) ((evFn67 m R _ _ _ k).trans h)
  · exact okT14 m R 67 _ k x h

/-- hookflash/media.isSample -/
def Fn68 {R : Type} (m : Nat) : Int → (Bool → Option R) → Option R := match m with
  | 0 => fun _ _ => none
  | m + 1 => fun i180 k =>
  Fn67 m i180 ((-32768 : Int)) ((32767 : Int)) (fun b185 => k b185)
def brFn68 (m : Nat) (T : Tbl) (R : Type) (vs : List V) (k : V → List V → Option R) : Option R := match vs with
  | [V.f (F.lit (Value.int IntKind.i64 i180))] => Fn68 m i180 (fun b186 => k (V.f (F.lit (Value.bool b186))) [V.undef])
  | _ => T R 68 vs k
set_option maxRecDepth 100000 in
theorem evFn68 (m : Nat) (R : Type) (i180 : Int) (k : V → List V → Option R) : runK Try.prog H (T15 m) (L5 m) 68 [V.f (F.lit (Value.int IntKind.i64 i180))] k = Fn68 (m + 1) i180 (fun b186 => k (V.f (F.lit (Value.bool b186))) [V.undef]) := by kernel_rfl
def T16 (m : Nat) : Tbl := addT 68 (brFn68 m (T15 m)) (T15 m)
theorem okT16 (m : Nat) : TblOk Try.prog (T16 m) := addT_ok (okT15 m) fun R vs k x h => by
  unfold brFn68 at h
  split at h
  · cases m with
    | zero => cases h
    | succ m => exact runK_some (okT15 m) hM (okL5 m) ((evFn68 m R _ k).trans h)
  · exact okT15 m R 68 _ k x h

/-- a round of a loop of hookflash/media.CheckSamples -/
def Lp29_5_step {R : Type} (m : Nat) (kx0 : Int → Int → Option R) (kx1 : Int → Option R) (r175 : Abs.Rows) (i176 : Int) (r177 : Abs.Rows) (i178 : Int) (REC : Int → Option R) (i179 : Int) : Option R :=
  bif decide (i179 < i178) then (bif decide ((0 : Int) ≤ i179 ∧ i179 < (↑(List.length r177) : Int)) then (Fn68 m (fI r177 (Int.toNat i179) (0 : Nat)) (fun b187 => bif !b187 then (kx0 ((1 : Int)) i179) else
  (REC (IntKind.wrap IntKind.i64 (i179 + (1 : Int)))))) else
  (none)) else
  (kx1 i179)
def Lp29_5 {R : Type} (m : Nat) (kx0 : Int → Int → Option R) (kx1 : Int → Option R) (r175 : Abs.Rows) (i176 : Int) (r177 : Abs.Rows) (i178 : Int) : Nat → Int → Option R
  | 0, _ => none
  | n + 1, i179 => Lp29_5_step m kx0 kx1 r175 i176 r177 i178 (Lp29_5 m kx0 kx1 r175 i176 r177 i178 n) i179
def ELp29_5 (m : Nat) (R : Type) : Nat → List V → (Ex → List V → Option R) → Option R
  | 0, _, _ => none
  | n + 1, vs, k => match vs with
    | [V.f (F.lst [LT.int IntKind.i64] r175), V.f (F.lit (Value.int IntKind.i64 i176)), V.f (F.lst [LT.int IntKind.i64] r177), V.f (F.lit (Value.int IntKind.i64 i178)), V.f (F.lit (Value.int IntKind.i64 i179)), V.undef] => Lp29_5_step m (fun i188 i189 => k Ex.ret [V.f (F.lst [LT.int IntKind.i64] r175), V.f (F.lit (Value.int IntKind.i64 i188)), V.f (F.lst [LT.int IntKind.i64] r177), V.f (F.lit (Value.int IntKind.i64 i178)), V.f (F.lit (Value.int IntKind.i64 i189)), V.undef]) (fun i190 => k (Ex.exit (0 : Nat)) [V.f (F.lst [LT.int IntKind.i64] r175), V.f (F.lit (Value.int IntKind.i64 i176)), V.f (F.lst [LT.int IntKind.i64] r177), V.f (F.lit (Value.int IntKind.i64 i178)), V.f (F.lit (Value.int IntKind.i64 i190)), V.undef]) r175 i176 r177 i178 (fun i179 => ELp29_5 m R n [V.f (F.lst [LT.int IntKind.i64] r175), V.f (F.lit (Value.int IntKind.i64 i176)), V.f (F.lst [LT.int IntKind.i64] r177), V.f (F.lit (Value.int IntKind.i64 i178)), V.f (F.lit (Value.int IntKind.i64 i179)), V.undef] k) i179
    | _ => none
def brLp29_5 (m : Nat) (L : LTbl) (R : Type) (vs : List V) (k : Ex → List V → Option R) : Option R := match vs with
  | [V.f (F.lst [LT.int IntKind.i64] r175), V.f (F.lit (Value.int IntKind.i64 i176)), V.f (F.lst [LT.int IntKind.i64] r177), V.f (F.lit (Value.int IntKind.i64 i178)), V.f (F.lit (Value.int IntKind.i64 i179)), V.undef] => Lp29_5 m (fun i188 i189 => k Ex.ret [V.f (F.lst [LT.int IntKind.i64] r175), V.f (F.lit (Value.int IntKind.i64 i188)), V.f (F.lst [LT.int IntKind.i64] r177), V.f (F.lit (Value.int IntKind.i64 i178)), V.f (F.lit (Value.int IntKind.i64 i189)), V.undef]) (fun i190 => k (Ex.exit (0 : Nat)) [V.f (F.lst [LT.int IntKind.i64] r175), V.f (F.lit (Value.int IntKind.i64 i176)), V.f (F.lst [LT.int IntKind.i64] r177), V.f (F.lit (Value.int IntKind.i64 i178)), V.f (F.lit (Value.int IntKind.i64 i190)), V.undef]) r175 i176 r177 i178 m i179
  | _ => L R 29 5 vs k
set_option maxRecDepth 100000 in
theorem stLp29_5 (m n : Nat) (R : Type) (r175 : Abs.Rows) (i176 : Int) (r177 : Abs.Rows) (i178 : Int) (i179 : Int) (k : Ex → List V → Option R) : codeK Try.prog H (T16 m) 29 (L5 m) 6 (loopBody Try.prog 29 5) (mkEnv [0, 2, 8, 9, 10, 18] [V.f (F.lst [LT.int IntKind.i64] r175), V.f (F.lit (Value.int IntKind.i64 i176)), V.f (F.lst [LT.int IntKind.i64] r177), V.f (F.lit (Value.int IntKind.i64 i178)), V.f (F.lit (Value.int IntKind.i64 i179)), V.undef] 0 (H.len 29)) (fun e env' => match e with | .normal => ELp29_5 m R n (vals [0, 2, 8, 9, 10, 18] env') k | e => k e (vals [0, 2, 8, 9, 10, 18] env')) = Lp29_5_step m (fun i188 i189 => k Ex.ret [V.f (F.lst [LT.int IntKind.i64] r175), V.f (F.lit (Value.int IntKind.i64 i188)), V.f (F.lst [LT.int IntKind.i64] r177), V.f (F.lit (Value.int IntKind.i64 i178)), V.f (F.lit (Value.int IntKind.i64 i189)), V.undef]) (fun i190 => k (Ex.exit (0 : Nat)) [V.f (F.lst [LT.int IntKind.i64] r175), V.f (F.lit (Value.int IntKind.i64 i176)), V.f (F.lst [LT.int IntKind.i64] r177), V.f (F.lit (Value.int IntKind.i64 i178)), V.f (F.lit (Value.int IntKind.i64 i190)), V.undef]) r175 i176 r177 i178 (fun i179 => ELp29_5 m R n [V.f (F.lst [LT.int IntKind.i64] r175), V.f (F.lit (Value.int IntKind.i64 i176)), V.f (F.lst [LT.int IntKind.i64] r177), V.f (F.lit (Value.int IntKind.i64 i178)), V.f (F.lit (Value.int IntKind.i64 i179)), V.undef] k) i179 := by kernel_rfl
theorem eqLp29_5 (m : Nat) (R : Type) (r175 : Abs.Rows) (i176 : Int) (r177 : Abs.Rows) (i178 : Int) (k : Ex → List V → Option R) : ∀ (n : Nat) (i179 : Int), ELp29_5 m R n [V.f (F.lst [LT.int IntKind.i64] r175), V.f (F.lit (Value.int IntKind.i64 i176)), V.f (F.lst [LT.int IntKind.i64] r177), V.f (F.lit (Value.int IntKind.i64 i178)), V.f (F.lit (Value.int IntKind.i64 i179)), V.undef] k = Lp29_5 m (fun i188 i189 => k Ex.ret [V.f (F.lst [LT.int IntKind.i64] r175), V.f (F.lit (Value.int IntKind.i64 i188)), V.f (F.lst [LT.int IntKind.i64] r177), V.f (F.lit (Value.int IntKind.i64 i178)), V.f (F.lit (Value.int IntKind.i64 i189)), V.undef]) (fun i190 => k (Ex.exit (0 : Nat)) [V.f (F.lst [LT.int IntKind.i64] r175), V.f (F.lit (Value.int IntKind.i64 i176)), V.f (F.lst [LT.int IntKind.i64] r177), V.f (F.lit (Value.int IntKind.i64 i178)), V.f (F.lit (Value.int IntKind.i64 i190)), V.undef]) r175 i176 r177 i178 n i179
  | 0, _ => rfl
  | n + 1, i179 => by
    simp only [ELp29_5, Lp29_5]
    congr 1
    funext i179
    exact eqLp29_5 m R r175 i176 r177 i178 k n i179
def L6 (m : Nat) : LTbl := addB 29 5 (brLp29_5 m (L5 m)) (L5 m)
theorem okL6 (m : Nat) : LTOk Try.prog H (L6 m) := addB_ok (okT16 m) hM (okL5 m) (l := [0, 2, 8, 9, 10, 18]) (by kernel_rfl) (by kernel_rfl) m (fun R n vs k => ELp29_5 m R n vs k) (fun R vs k => rfl) (fun R n vs k x h => by
      simp only [ELp29_5] at h
      split at h
      · exact (stLp29_5 m n R _ _ _ _ _ k).trans h
      · cases h) fun R vs k x h => by
    unfold brLp29_5 at h
    split at h
    · exact .inl ((eqLp29_5 m R _ _ _ _ k m _).trans h)
    · exact .inr h

/-- hookflash/media.CheckSamples -/
def Fn29 {R : Type} (m : Nat) : Abs.Rows → (Int → Option R) → Option R := match m with
  | 0 => fun _ _ => none
  | m + 1 => fun r174 k =>
  bif decide ((↑(List.length r174) : Int) > (20000 : Int)) then (k ((2 : Int))) else
  (Lp29_5 m (fun i191 i192 => k i191) (fun i193 => k ((0 : Int))) r174 ((0 : Int)) r174 ((↑(List.length r174) : Int)) m ((0 : Int)))
def brFn29 (m : Nat) (T : Tbl) (R : Type) (vs : List V) (k : V → List V → Option R) : Option R := match vs with
  | [V.f (F.lst [LT.int IntKind.i64] r174)] => Fn29 m r174 (fun i194 => k (V.f (F.lit (Value.int IntKind.i64 i194))) [V.undef])
  | _ => T R 29 vs k
set_option maxRecDepth 100000 in
theorem evFn29 (m : Nat) (R : Type) (r174 : Abs.Rows) (k : V → List V → Option R) : runK Try.prog H (T16 m) (L6 m) 29 [V.f (F.lst [LT.int IntKind.i64] r174)] k = Fn29 (m + 1) r174 (fun i194 => k (V.f (F.lit (Value.int IntKind.i64 i194))) [V.undef]) := by kernel_rfl
def T17 (m : Nat) : Tbl := addT 29 (brFn29 m (T16 m)) (T16 m)
theorem okT17 (m : Nat) : TblOk Try.prog (T17 m) := addT_ok (okT16 m) fun R vs k x h => by
  unfold brFn29 at h
  split at h
  · cases m with
    | zero => cases h
    | succ m => exact runK_some (okT16 m) hM (okL6 m) ((evFn29 m R _ k).trans h)
  · exact okT16 m R 29 _ k x h

/-- a round of a loop of hookflash/media.Mix -/
def Lp40_6_step {R : Type} (m : Nat) (kx0 : Abs.Rows → Int → Int → Int → Option R) (kx1 : Int → Int → Option R) (r167 : Abs.Rows) (r168 : Abs.Rows) (i169 : Int) (r171 : Abs.Rows) (i172 : Int) (REC : Int → Int → Option R) (i170 : Int) (i173 : Int) : Option R :=
  bif decide (i173 < i172) then (bif decide ((0 : Int) ≤ i173 ∧ i173 < (↑(List.length r171) : Int)) then (Fn29 m (fR r171 (Int.toNat i173) (0 : Nat)) (fun i195 => bif i195 != (0 : Int) then (kx0 rows0 i195 i170 i173) else
  (REC (if (↑(List.length (fR r171 (Int.toNat i173) (0 : Nat))) : Int) > i170 then (↑(List.length (fR r171 (Int.toNat i173) (0 : Nat))) : Int) else i170) (IntKind.wrap IntKind.i64 (i173 + (1 : Int)))))) else
  (none)) else
  (kx1 i170 i173)
def Lp40_6 {R : Type} (m : Nat) (kx0 : Abs.Rows → Int → Int → Int → Option R) (kx1 : Int → Int → Option R) (r167 : Abs.Rows) (r168 : Abs.Rows) (i169 : Int) (r171 : Abs.Rows) (i172 : Int) : Nat → Int → Int → Option R
  | 0, _, _ => none
  | n + 1, i170, i173 => Lp40_6_step m kx0 kx1 r167 r168 i169 r171 i172 (Lp40_6 m kx0 kx1 r167 r168 i169 r171 i172 n) i170 i173
def ELp40_6 (m : Nat) (R : Type) : Nat → List V → (Ex → List V → Option R) → Option R
  | 0, _, _ => none
  | n + 1, vs, k => match vs with
    | [V.bor [LT.lst [LT.int IntKind.i64]] r167, V.own [LT.int IntKind.i64] r168, V.f (F.lit (Value.int IntKind.i64 i169)), V.f (F.lit (Value.int IntKind.i64 i170)), V.bor [LT.lst [LT.int IntKind.i64]] r171, V.f (F.lit (Value.int IntKind.i64 i172)), V.f (F.lit (Value.int IntKind.i64 i173)), V.undef] => Lp40_6_step m (fun r196 i197 i198 i199 => k Ex.ret [V.bor [LT.lst [LT.int IntKind.i64]] r167, V.own [LT.int IntKind.i64] r196, V.f (F.lit (Value.int IntKind.i64 i197)), V.f (F.lit (Value.int IntKind.i64 i198)), V.bor [LT.lst [LT.int IntKind.i64]] r171, V.f (F.lit (Value.int IntKind.i64 i172)), V.f (F.lit (Value.int IntKind.i64 i199)), V.undef]) (fun i200 i201 => k (Ex.exit (0 : Nat)) [V.bor [LT.lst [LT.int IntKind.i64]] r167, V.own [LT.int IntKind.i64] r168, V.f (F.lit (Value.int IntKind.i64 i169)), V.f (F.lit (Value.int IntKind.i64 i200)), V.bor [LT.lst [LT.int IntKind.i64]] r171, V.f (F.lit (Value.int IntKind.i64 i172)), V.f (F.lit (Value.int IntKind.i64 i201)), V.undef]) r167 r168 i169 r171 i172 (fun i170 i173 => ELp40_6 m R n [V.bor [LT.lst [LT.int IntKind.i64]] r167, V.own [LT.int IntKind.i64] r168, V.f (F.lit (Value.int IntKind.i64 i169)), V.f (F.lit (Value.int IntKind.i64 i170)), V.bor [LT.lst [LT.int IntKind.i64]] r171, V.f (F.lit (Value.int IntKind.i64 i172)), V.f (F.lit (Value.int IntKind.i64 i173)), V.undef] k) i170 i173
    | _ => none
def brLp40_6 (m : Nat) (L : LTbl) (R : Type) (vs : List V) (k : Ex → List V → Option R) : Option R := match vs with
  | [V.bor [LT.lst [LT.int IntKind.i64]] r167, V.own [LT.int IntKind.i64] r168, V.f (F.lit (Value.int IntKind.i64 i169)), V.f (F.lit (Value.int IntKind.i64 i170)), V.bor [LT.lst [LT.int IntKind.i64]] r171, V.f (F.lit (Value.int IntKind.i64 i172)), V.f (F.lit (Value.int IntKind.i64 i173)), V.undef] => Lp40_6 m (fun r196 i197 i198 i199 => k Ex.ret [V.bor [LT.lst [LT.int IntKind.i64]] r167, V.own [LT.int IntKind.i64] r196, V.f (F.lit (Value.int IntKind.i64 i197)), V.f (F.lit (Value.int IntKind.i64 i198)), V.bor [LT.lst [LT.int IntKind.i64]] r171, V.f (F.lit (Value.int IntKind.i64 i172)), V.f (F.lit (Value.int IntKind.i64 i199)), V.undef]) (fun i200 i201 => k (Ex.exit (0 : Nat)) [V.bor [LT.lst [LT.int IntKind.i64]] r167, V.own [LT.int IntKind.i64] r168, V.f (F.lit (Value.int IntKind.i64 i169)), V.f (F.lit (Value.int IntKind.i64 i200)), V.bor [LT.lst [LT.int IntKind.i64]] r171, V.f (F.lit (Value.int IntKind.i64 i172)), V.f (F.lit (Value.int IntKind.i64 i201)), V.undef]) r167 r168 i169 r171 i172 m i170 i173
  | _ => L R 40 6 vs k
set_option maxRecDepth 100000 in
theorem stLp40_6 (m n : Nat) (R : Type) (r167 : Abs.Rows) (r168 : Abs.Rows) (i169 : Int) (i170 : Int) (r171 : Abs.Rows) (i172 : Int) (i173 : Int) (k : Ex → List V → Option R) : codeK Try.prog H (T17 m) 40 (L6 m) 7 (loopBody Try.prog 40 6) (mkEnv [0, 2, 3, 4, 17, 18, 19, 72] [V.bor [LT.lst [LT.int IntKind.i64]] r167, V.own [LT.int IntKind.i64] r168, V.f (F.lit (Value.int IntKind.i64 i169)), V.f (F.lit (Value.int IntKind.i64 i170)), V.bor [LT.lst [LT.int IntKind.i64]] r171, V.f (F.lit (Value.int IntKind.i64 i172)), V.f (F.lit (Value.int IntKind.i64 i173)), V.undef] 0 (H.len 40)) (fun e env' => match e with | .normal => ELp40_6 m R n (vals [0, 2, 3, 4, 17, 18, 19, 72] env') k | e => k e (vals [0, 2, 3, 4, 17, 18, 19, 72] env')) = Lp40_6_step m (fun r196 i197 i198 i199 => k Ex.ret [V.bor [LT.lst [LT.int IntKind.i64]] r167, V.own [LT.int IntKind.i64] r196, V.f (F.lit (Value.int IntKind.i64 i197)), V.f (F.lit (Value.int IntKind.i64 i198)), V.bor [LT.lst [LT.int IntKind.i64]] r171, V.f (F.lit (Value.int IntKind.i64 i172)), V.f (F.lit (Value.int IntKind.i64 i199)), V.undef]) (fun i200 i201 => k (Ex.exit (0 : Nat)) [V.bor [LT.lst [LT.int IntKind.i64]] r167, V.own [LT.int IntKind.i64] r168, V.f (F.lit (Value.int IntKind.i64 i169)), V.f (F.lit (Value.int IntKind.i64 i200)), V.bor [LT.lst [LT.int IntKind.i64]] r171, V.f (F.lit (Value.int IntKind.i64 i172)), V.f (F.lit (Value.int IntKind.i64 i201)), V.undef]) r167 r168 i169 r171 i172 (fun i170 i173 => ELp40_6 m R n [V.bor [LT.lst [LT.int IntKind.i64]] r167, V.own [LT.int IntKind.i64] r168, V.f (F.lit (Value.int IntKind.i64 i169)), V.f (F.lit (Value.int IntKind.i64 i170)), V.bor [LT.lst [LT.int IntKind.i64]] r171, V.f (F.lit (Value.int IntKind.i64 i172)), V.f (F.lit (Value.int IntKind.i64 i173)), V.undef] k) i170 i173 := by kernel_rfl
theorem eqLp40_6 (m : Nat) (R : Type) (r167 : Abs.Rows) (r168 : Abs.Rows) (i169 : Int) (r171 : Abs.Rows) (i172 : Int) (k : Ex → List V → Option R) : ∀ (n : Nat) (i170 : Int) (i173 : Int), ELp40_6 m R n [V.bor [LT.lst [LT.int IntKind.i64]] r167, V.own [LT.int IntKind.i64] r168, V.f (F.lit (Value.int IntKind.i64 i169)), V.f (F.lit (Value.int IntKind.i64 i170)), V.bor [LT.lst [LT.int IntKind.i64]] r171, V.f (F.lit (Value.int IntKind.i64 i172)), V.f (F.lit (Value.int IntKind.i64 i173)), V.undef] k = Lp40_6 m (fun r196 i197 i198 i199 => k Ex.ret [V.bor [LT.lst [LT.int IntKind.i64]] r167, V.own [LT.int IntKind.i64] r196, V.f (F.lit (Value.int IntKind.i64 i197)), V.f (F.lit (Value.int IntKind.i64 i198)), V.bor [LT.lst [LT.int IntKind.i64]] r171, V.f (F.lit (Value.int IntKind.i64 i172)), V.f (F.lit (Value.int IntKind.i64 i199)), V.undef]) (fun i200 i201 => k (Ex.exit (0 : Nat)) [V.bor [LT.lst [LT.int IntKind.i64]] r167, V.own [LT.int IntKind.i64] r168, V.f (F.lit (Value.int IntKind.i64 i169)), V.f (F.lit (Value.int IntKind.i64 i200)), V.bor [LT.lst [LT.int IntKind.i64]] r171, V.f (F.lit (Value.int IntKind.i64 i172)), V.f (F.lit (Value.int IntKind.i64 i201)), V.undef]) r167 r168 i169 r171 i172 n i170 i173
  | 0, _, _ => rfl
  | n + 1, i170, i173 => by
    simp only [ELp40_6, Lp40_6]
    congr 1
    funext i170 i173
    exact eqLp40_6 m R r167 r168 i169 r171 i172 k n i170 i173
def L7 (m : Nat) : LTbl := addB 40 6 (brLp40_6 m (L6 m)) (L6 m)
theorem okL7 (m : Nat) : LTOk Try.prog H (L7 m) := addB_ok (okT17 m) hM (okL6 m) (l := [0, 2, 3, 4, 17, 18, 19, 72]) (by kernel_rfl) (by kernel_rfl) m (fun R n vs k => ELp40_6 m R n vs k) (fun R vs k => rfl) (fun R n vs k x h => by
      simp only [ELp40_6] at h
      split at h
      · exact (stLp40_6 m n R _ _ _ _ _ _ _ k).trans h
      · cases h) fun R vs k x h => by
    unfold brLp40_6 at h
    split at h
    · exact .inl ((eqLp40_6 m R _ _ _ _ _ k m _ _).trans h)
    · exact .inr h

/-- a round of a loop of hookflash/media.Mix -/
def Lp40_23_step {R : Type} (m : Nat) (kx0 : Abs.Rows → Int → Option R) (r213 : Abs.Rows) (r215 : Abs.Rows) (r216 : Abs.Rows) (i217 : Int) (i218 : Int) (r219 : Abs.Rows) (n220 : Nat) (r221 : Abs.Rows) (r222 : Abs.Rows) (i223 : Int) (REC : Abs.Rows → Int → Option R) (r214 : Abs.Rows) (i224 : Int) : Option R :=
  bif decide (i224 < i223) then (bif decide ((0 : Int) ≤ i224 ∧ i224 < (↑(List.length r222) : Int)) then (bif decide ((0 : Int) ≤ i224 ∧ i224 < (↑(List.length r214) : Int)) then (bif decide ((0 : Int) ≤ i224 ∧ i224 < (↑(List.length r214) : Int)) then (REC (stR [LT.int IntKind.i64] r214 (Int.toNat i224) (0 : Nat) [F.lit (Value.int IntKind.i64 (IntKind.wrap IntKind.i64 (fI r214 (Int.toNat i224) (0 : Nat) + fI r222 (Int.toNat i224) (0 : Nat))))]) (IntKind.wrap IntKind.i64 (i224 + (1 : Int)))) else
  (none)) else
  (none)) else
  (none)) else
  (kx0 r214 i224)
def Lp40_23 {R : Type} (m : Nat) (kx0 : Abs.Rows → Int → Option R) (r213 : Abs.Rows) (r215 : Abs.Rows) (r216 : Abs.Rows) (i217 : Int) (i218 : Int) (r219 : Abs.Rows) (n220 : Nat) (r221 : Abs.Rows) (r222 : Abs.Rows) (i223 : Int) : Nat → Abs.Rows → Int → Option R
  | 0, _, _ => none
  | n + 1, r214, i224 => Lp40_23_step m kx0 r213 r215 r216 i217 i218 r219 n220 r221 r222 i223 (Lp40_23 m kx0 r213 r215 r216 i217 i218 r219 n220 r221 r222 i223 n) r214 i224
def ELp40_23 (m : Nat) (R : Type) : Nat → List V → (Ex → List V → Option R) → Option R
  | 0, _, _ => none
  | n + 1, vs, k => match vs with
    | [V.bor [LT.lst [LT.int IntKind.i64]] r213, V.own [LT.int IntKind.i64] r214, V.f (F.lst [LT.int IntKind.i64] r215), V.undef, V.bor [LT.lst [LT.int IntKind.i64]] r216, V.f (F.lit (Value.int IntKind.i64 i217)), V.f (F.lit (Value.int IntKind.i64 i218)), V.iref [LT.lst [LT.int IntKind.i64]] r219 n220 (0 : Nat), V.f (F.lst [LT.int IntKind.i64] r221), V.f (F.lst [LT.int IntKind.i64] r222), V.f (F.lit (Value.int IntKind.i64 i223)), V.f (F.lit (Value.int IntKind.i64 i224)), V.undef] => Lp40_23_step m (fun r225 i226 => k (Ex.exit (4 : Nat)) [V.bor [LT.lst [LT.int IntKind.i64]] r213, V.own [LT.int IntKind.i64] r225, V.f (F.lst [LT.int IntKind.i64] r215), V.undef, V.bor [LT.lst [LT.int IntKind.i64]] r216, V.f (F.lit (Value.int IntKind.i64 i217)), V.f (F.lit (Value.int IntKind.i64 i218)), V.iref [LT.lst [LT.int IntKind.i64]] r219 n220 (0 : Nat), V.f (F.lst [LT.int IntKind.i64] r221), V.f (F.lst [LT.int IntKind.i64] r222), V.f (F.lit (Value.int IntKind.i64 i223)), V.f (F.lit (Value.int IntKind.i64 i226)), V.undef]) r213 r215 r216 i217 i218 r219 n220 r221 r222 i223 (fun r214 i224 => ELp40_23 m R n [V.bor [LT.lst [LT.int IntKind.i64]] r213, V.own [LT.int IntKind.i64] r214, V.f (F.lst [LT.int IntKind.i64] r215), V.undef, V.bor [LT.lst [LT.int IntKind.i64]] r216, V.f (F.lit (Value.int IntKind.i64 i217)), V.f (F.lit (Value.int IntKind.i64 i218)), V.iref [LT.lst [LT.int IntKind.i64]] r219 n220 (0 : Nat), V.f (F.lst [LT.int IntKind.i64] r221), V.f (F.lst [LT.int IntKind.i64] r222), V.f (F.lit (Value.int IntKind.i64 i223)), V.f (F.lit (Value.int IntKind.i64 i224)), V.undef] k) r214 i224
    | _ => none
def brLp40_23 (m : Nat) (L : LTbl) (R : Type) (vs : List V) (k : Ex → List V → Option R) : Option R := match vs with
  | [V.bor [LT.lst [LT.int IntKind.i64]] r213, V.own [LT.int IntKind.i64] r214, V.f (F.lst [LT.int IntKind.i64] r215), V.undef, V.bor [LT.lst [LT.int IntKind.i64]] r216, V.f (F.lit (Value.int IntKind.i64 i217)), V.f (F.lit (Value.int IntKind.i64 i218)), V.iref [LT.lst [LT.int IntKind.i64]] r219 n220 (0 : Nat), V.f (F.lst [LT.int IntKind.i64] r221), V.f (F.lst [LT.int IntKind.i64] r222), V.f (F.lit (Value.int IntKind.i64 i223)), V.f (F.lit (Value.int IntKind.i64 i224)), V.undef] => Lp40_23 m (fun r225 i226 => k (Ex.exit (4 : Nat)) [V.bor [LT.lst [LT.int IntKind.i64]] r213, V.own [LT.int IntKind.i64] r225, V.f (F.lst [LT.int IntKind.i64] r215), V.undef, V.bor [LT.lst [LT.int IntKind.i64]] r216, V.f (F.lit (Value.int IntKind.i64 i217)), V.f (F.lit (Value.int IntKind.i64 i218)), V.iref [LT.lst [LT.int IntKind.i64]] r219 n220 (0 : Nat), V.f (F.lst [LT.int IntKind.i64] r221), V.f (F.lst [LT.int IntKind.i64] r222), V.f (F.lit (Value.int IntKind.i64 i223)), V.f (F.lit (Value.int IntKind.i64 i226)), V.undef]) r213 r215 r216 i217 i218 r219 n220 r221 r222 i223 m r214 i224
  | _ => L R 40 23 vs k
set_option maxRecDepth 100000 in
theorem stLp40_23 (m n : Nat) (R : Type) (r213 : Abs.Rows) (r214 : Abs.Rows) (r215 : Abs.Rows) (r216 : Abs.Rows) (i217 : Int) (i218 : Int) (r219 : Abs.Rows) (n220 : Nat) (r221 : Abs.Rows) (r222 : Abs.Rows) (i223 : Int) (i224 : Int) (k : Ex → List V → Option R) : codeK Try.prog H (T17 m) 40 (L7 m) 24 (loopBody Try.prog 40 23) (mkEnv [0, 8, 10, 34, 35, 36, 37, 39, 40, 41, 42, 43, 72] [V.bor [LT.lst [LT.int IntKind.i64]] r213, V.own [LT.int IntKind.i64] r214, V.f (F.lst [LT.int IntKind.i64] r215), V.undef, V.bor [LT.lst [LT.int IntKind.i64]] r216, V.f (F.lit (Value.int IntKind.i64 i217)), V.f (F.lit (Value.int IntKind.i64 i218)), V.iref [LT.lst [LT.int IntKind.i64]] r219 n220 (0 : Nat), V.f (F.lst [LT.int IntKind.i64] r221), V.f (F.lst [LT.int IntKind.i64] r222), V.f (F.lit (Value.int IntKind.i64 i223)), V.f (F.lit (Value.int IntKind.i64 i224)), V.undef] 0 (H.len 40)) (fun e env' => match e with | .normal => ELp40_23 m R n (vals [0, 8, 10, 34, 35, 36, 37, 39, 40, 41, 42, 43, 72] env') k | e => k e (vals [0, 8, 10, 34, 35, 36, 37, 39, 40, 41, 42, 43, 72] env')) = Lp40_23_step m (fun r225 i226 => k (Ex.exit (4 : Nat)) [V.bor [LT.lst [LT.int IntKind.i64]] r213, V.own [LT.int IntKind.i64] r225, V.f (F.lst [LT.int IntKind.i64] r215), V.undef, V.bor [LT.lst [LT.int IntKind.i64]] r216, V.f (F.lit (Value.int IntKind.i64 i217)), V.f (F.lit (Value.int IntKind.i64 i218)), V.iref [LT.lst [LT.int IntKind.i64]] r219 n220 (0 : Nat), V.f (F.lst [LT.int IntKind.i64] r221), V.f (F.lst [LT.int IntKind.i64] r222), V.f (F.lit (Value.int IntKind.i64 i223)), V.f (F.lit (Value.int IntKind.i64 i226)), V.undef]) r213 r215 r216 i217 i218 r219 n220 r221 r222 i223 (fun r214 i224 => ELp40_23 m R n [V.bor [LT.lst [LT.int IntKind.i64]] r213, V.own [LT.int IntKind.i64] r214, V.f (F.lst [LT.int IntKind.i64] r215), V.undef, V.bor [LT.lst [LT.int IntKind.i64]] r216, V.f (F.lit (Value.int IntKind.i64 i217)), V.f (F.lit (Value.int IntKind.i64 i218)), V.iref [LT.lst [LT.int IntKind.i64]] r219 n220 (0 : Nat), V.f (F.lst [LT.int IntKind.i64] r221), V.f (F.lst [LT.int IntKind.i64] r222), V.f (F.lit (Value.int IntKind.i64 i223)), V.f (F.lit (Value.int IntKind.i64 i224)), V.undef] k) r214 i224 := by kernel_rfl
theorem eqLp40_23 (m : Nat) (R : Type) (r213 : Abs.Rows) (r215 : Abs.Rows) (r216 : Abs.Rows) (i217 : Int) (i218 : Int) (r219 : Abs.Rows) (n220 : Nat) (r221 : Abs.Rows) (r222 : Abs.Rows) (i223 : Int) (k : Ex → List V → Option R) : ∀ (n : Nat) (r214 : Abs.Rows) (i224 : Int), ELp40_23 m R n [V.bor [LT.lst [LT.int IntKind.i64]] r213, V.own [LT.int IntKind.i64] r214, V.f (F.lst [LT.int IntKind.i64] r215), V.undef, V.bor [LT.lst [LT.int IntKind.i64]] r216, V.f (F.lit (Value.int IntKind.i64 i217)), V.f (F.lit (Value.int IntKind.i64 i218)), V.iref [LT.lst [LT.int IntKind.i64]] r219 n220 (0 : Nat), V.f (F.lst [LT.int IntKind.i64] r221), V.f (F.lst [LT.int IntKind.i64] r222), V.f (F.lit (Value.int IntKind.i64 i223)), V.f (F.lit (Value.int IntKind.i64 i224)), V.undef] k = Lp40_23 m (fun r225 i226 => k (Ex.exit (4 : Nat)) [V.bor [LT.lst [LT.int IntKind.i64]] r213, V.own [LT.int IntKind.i64] r225, V.f (F.lst [LT.int IntKind.i64] r215), V.undef, V.bor [LT.lst [LT.int IntKind.i64]] r216, V.f (F.lit (Value.int IntKind.i64 i217)), V.f (F.lit (Value.int IntKind.i64 i218)), V.iref [LT.lst [LT.int IntKind.i64]] r219 n220 (0 : Nat), V.f (F.lst [LT.int IntKind.i64] r221), V.f (F.lst [LT.int IntKind.i64] r222), V.f (F.lit (Value.int IntKind.i64 i223)), V.f (F.lit (Value.int IntKind.i64 i226)), V.undef]) r213 r215 r216 i217 i218 r219 n220 r221 r222 i223 n r214 i224
  | 0, _, _ => rfl
  | n + 1, r214, i224 => by
    simp only [ELp40_23, Lp40_23]
    congr 1
    funext r214 i224
    exact eqLp40_23 m R r213 r215 r216 i217 i218 r219 n220 r221 r222 i223 k n r214 i224
def L8 (m : Nat) : LTbl := addB 40 23 (brLp40_23 m (L7 m)) (L7 m)
theorem okL8 (m : Nat) : LTOk Try.prog H (L8 m) := addB_ok (okT17 m) hM (okL7 m) (l := [0, 8, 10, 34, 35, 36, 37, 39, 40, 41, 42, 43, 72]) (by kernel_rfl) (by kernel_rfl) m (fun R n vs k => ELp40_23 m R n vs k) (fun R vs k => rfl) (fun R n vs k x h => by
      simp only [ELp40_23] at h
      split at h
      · exact (stLp40_23 m n R _ _ _ _ _ _ _ _ _ _ _ _ k).trans h
      · cases h) fun R vs k x h => by
    unfold brLp40_23 at h
    split at h
    · exact .inl ((eqLp40_23 m R _ _ _ _ _ _ _ _ _ _ k m _ _).trans h)
    · exact .inr h

/-- a round of a loop of hookflash/media.Mix -/
def Lp40_18_step {R : Type} (m : Nat) (kx0 : Abs.Rows → Int → Option R) (r208 : Abs.Rows) (r210 : Abs.Rows) (i211 : Int) (REC : Abs.Rows → Int → Option R) (r209 : Abs.Rows) (i212 : Int) : Option R :=
  bif decide (i212 < i211) then (bif decide ((0 : Int) ≤ i212 ∧ i212 < (↑(List.length r210) : Int)) then (Lp40_23 m (fun r227 i228 => REC r227 (IntKind.wrap IntKind.i64 (i212 + (1 : Int)))) r208 (fR r210 (Int.toNat i212) (0 : Nat)) r210 i211 i212 r210 (Int.toNat i212) (fR r210 (Int.toNat i212) (0 : Nat)) (fR r210 (Int.toNat i212) (0 : Nat)) ((↑(List.length (fR r210 (Int.toNat i212) (0 : Nat))) : Int)) m r209 ((0 : Int))) else
  (none)) else
  (kx0 r209 i212)
def Lp40_18 {R : Type} (m : Nat) (kx0 : Abs.Rows → Int → Option R) (r208 : Abs.Rows) (r210 : Abs.Rows) (i211 : Int) : Nat → Abs.Rows → Int → Option R
  | 0, _, _ => none
  | n + 1, r209, i212 => Lp40_18_step m kx0 r208 r210 i211 (Lp40_18 m kx0 r208 r210 i211 n) r209 i212
def ELp40_18 (m : Nat) (R : Type) : Nat → List V → (Ex → List V → Option R) → Option R
  | 0, _, _ => none
  | n + 1, vs, k => match vs with
    | [V.bor [LT.lst [LT.int IntKind.i64]] r208, V.own [LT.int IntKind.i64] r209, V.undef, V.bor [LT.lst [LT.int IntKind.i64]] r210, V.f (F.lit (Value.int IntKind.i64 i211)), V.f (F.lit (Value.int IntKind.i64 i212)), V.undef] => Lp40_18_step m (fun r229 i230 => k (Ex.exit (2 : Nat)) [V.bor [LT.lst [LT.int IntKind.i64]] r208, V.own [LT.int IntKind.i64] r229, V.undef, V.bor [LT.lst [LT.int IntKind.i64]] r210, V.f (F.lit (Value.int IntKind.i64 i211)), V.f (F.lit (Value.int IntKind.i64 i230)), V.undef]) r208 r210 i211 (fun r209 i212 => ELp40_18 m R n [V.bor [LT.lst [LT.int IntKind.i64]] r208, V.own [LT.int IntKind.i64] r209, V.undef, V.bor [LT.lst [LT.int IntKind.i64]] r210, V.f (F.lit (Value.int IntKind.i64 i211)), V.f (F.lit (Value.int IntKind.i64 i212)), V.undef] k) r209 i212
    | _ => none
def brLp40_18 (m : Nat) (L : LTbl) (R : Type) (vs : List V) (k : Ex → List V → Option R) : Option R := match vs with
  | [V.bor [LT.lst [LT.int IntKind.i64]] r208, V.own [LT.int IntKind.i64] r209, V.undef, V.bor [LT.lst [LT.int IntKind.i64]] r210, V.f (F.lit (Value.int IntKind.i64 i211)), V.f (F.lit (Value.int IntKind.i64 i212)), V.undef] => Lp40_18 m (fun r229 i230 => k (Ex.exit (2 : Nat)) [V.bor [LT.lst [LT.int IntKind.i64]] r208, V.own [LT.int IntKind.i64] r229, V.undef, V.bor [LT.lst [LT.int IntKind.i64]] r210, V.f (F.lit (Value.int IntKind.i64 i211)), V.f (F.lit (Value.int IntKind.i64 i230)), V.undef]) r208 r210 i211 m r209 i212
  | _ => L R 40 18 vs k
set_option maxRecDepth 100000 in
theorem stLp40_18 (m n : Nat) (R : Type) (r208 : Abs.Rows) (r209 : Abs.Rows) (r210 : Abs.Rows) (i211 : Int) (i212 : Int) (k : Ex → List V → Option R) : codeK Try.prog H (T17 m) 40 (L8 m) 19 (loopBody Try.prog 40 18) (mkEnv [0, 8, 34, 35, 36, 37, 72] [V.bor [LT.lst [LT.int IntKind.i64]] r208, V.own [LT.int IntKind.i64] r209, V.undef, V.bor [LT.lst [LT.int IntKind.i64]] r210, V.f (F.lit (Value.int IntKind.i64 i211)), V.f (F.lit (Value.int IntKind.i64 i212)), V.undef] 0 (H.len 40)) (fun e env' => match e with | .normal => ELp40_18 m R n (vals [0, 8, 34, 35, 36, 37, 72] env') k | e => k e (vals [0, 8, 34, 35, 36, 37, 72] env')) = Lp40_18_step m (fun r229 i230 => k (Ex.exit (2 : Nat)) [V.bor [LT.lst [LT.int IntKind.i64]] r208, V.own [LT.int IntKind.i64] r229, V.undef, V.bor [LT.lst [LT.int IntKind.i64]] r210, V.f (F.lit (Value.int IntKind.i64 i211)), V.f (F.lit (Value.int IntKind.i64 i230)), V.undef]) r208 r210 i211 (fun r209 i212 => ELp40_18 m R n [V.bor [LT.lst [LT.int IntKind.i64]] r208, V.own [LT.int IntKind.i64] r209, V.undef, V.bor [LT.lst [LT.int IntKind.i64]] r210, V.f (F.lit (Value.int IntKind.i64 i211)), V.f (F.lit (Value.int IntKind.i64 i212)), V.undef] k) r209 i212 := by kernel_rfl
theorem eqLp40_18 (m : Nat) (R : Type) (r208 : Abs.Rows) (r210 : Abs.Rows) (i211 : Int) (k : Ex → List V → Option R) : ∀ (n : Nat) (r209 : Abs.Rows) (i212 : Int), ELp40_18 m R n [V.bor [LT.lst [LT.int IntKind.i64]] r208, V.own [LT.int IntKind.i64] r209, V.undef, V.bor [LT.lst [LT.int IntKind.i64]] r210, V.f (F.lit (Value.int IntKind.i64 i211)), V.f (F.lit (Value.int IntKind.i64 i212)), V.undef] k = Lp40_18 m (fun r229 i230 => k (Ex.exit (2 : Nat)) [V.bor [LT.lst [LT.int IntKind.i64]] r208, V.own [LT.int IntKind.i64] r229, V.undef, V.bor [LT.lst [LT.int IntKind.i64]] r210, V.f (F.lit (Value.int IntKind.i64 i211)), V.f (F.lit (Value.int IntKind.i64 i230)), V.undef]) r208 r210 i211 n r209 i212
  | 0, _, _ => rfl
  | n + 1, r209, i212 => by
    simp only [ELp40_18, Lp40_18]
    congr 1
    funext r209 i212
    exact eqLp40_18 m R r208 r210 i211 k n r209 i212
def L9 (m : Nat) : LTbl := addB 40 18 (brLp40_18 m (L8 m)) (L8 m)
theorem okL9 (m : Nat) : LTOk Try.prog H (L9 m) := addB_ok (okT17 m) hM (okL8 m) (l := [0, 8, 34, 35, 36, 37, 72]) (by kernel_rfl) (by kernel_rfl) m (fun R n vs k => ELp40_18 m R n vs k) (fun R vs k => rfl) (fun R n vs k x h => by
      simp only [ELp40_18] at h
      split at h
      · exact (stLp40_18 m n R _ _ _ _ _ k).trans h
      · cases h) fun R vs k x h => by
    unfold brLp40_18 at h
    split at h
    · exact .inl ((eqLp40_18 m R _ _ _ k m _ _).trans h)
    · exact .inr h

/-- hookflash/media.cut -/
def Fn76 {R : Type} (m : Nat) : Int → (Int → Option R) → Option R := match m with
  | 0 => fun _ _ => none
  | m + 1 => fun i236 k =>
  k (if (32767 : Int) < if (-32768 : Int) > i236 then (-32768 : Int) else i236 then (32767 : Int) else if (-32768 : Int) > i236 then (-32768 : Int) else i236)
def brFn76 (m : Nat) (T : Tbl) (R : Type) (vs : List V) (k : V → List V → Option R) : Option R := match vs with
  | [V.f (F.lit (Value.int IntKind.i64 i236))] => Fn76 m i236 (fun i237 => k (V.f (F.lit (Value.int IntKind.i64 i237))) [V.undef])
  | _ => T R 76 vs k
set_option maxRecDepth 100000 in
theorem evFn76 (m : Nat) (R : Type) (i236 : Int) (k : V → List V → Option R) : runK Try.prog H (T17 m) (L9 m) 76 [V.f (F.lit (Value.int IntKind.i64 i236))] k = Fn76 (m + 1) i236 (fun i237 => k (V.f (F.lit (Value.int IntKind.i64 i237))) [V.undef]) := by kernel_rfl
def T18 (m : Nat) : Tbl := addT 76 (brFn76 m (T17 m)) (T17 m)
theorem okT18 (m : Nat) : TblOk Try.prog (T18 m) := addT_ok (okT17 m) fun R vs k x h => by
  unfold brFn76 at h
  split at h
  · cases m with
    | zero => cases h
    | succ m => exact runK_some (okT17 m) hM (okL9 m) ((evFn76 m R _ k).trans h)
  · exact okT17 m R 76 _ k x h

/-- a round of a loop of hookflash/media.Mix -/
def Lp40_31_step {R : Type} (m : Nat) (kx0 : Abs.Rows → Int → Option R) (i234 : Int) (REC : Abs.Rows → Int → Option R) (r233 : Abs.Rows) (i235 : Int) : Option R :=
  bif decide (i235 < i234) then (bif decide ((0 : Int) ≤ i235 ∧ i235 < (↑(List.length r233) : Int)) then (Fn76 m (fI r233 (Int.toNat i235) (0 : Nat)) (fun i238 => bif decide ((0 : Int) ≤ i235 ∧ i235 < (↑(List.length r233) : Int)) then (REC (stR [LT.int IntKind.i64] r233 (Int.toNat i235) (0 : Nat) [F.lit (Value.int IntKind.i64 i238)]) (IntKind.wrap IntKind.i64 (i235 + (1 : Int)))) else
  (none))) else
  (none)) else
  (kx0 r233 i235)
def Lp40_31 {R : Type} (m : Nat) (kx0 : Abs.Rows → Int → Option R) (i234 : Int) : Nat → Abs.Rows → Int → Option R
  | 0, _, _ => none
  | n + 1, r233, i235 => Lp40_31_step m kx0 i234 (Lp40_31 m kx0 i234 n) r233 i235
def ELp40_31 (m : Nat) (R : Type) : Nat → List V → (Ex → List V → Option R) → Option R
  | 0, _, _ => none
  | n + 1, vs, k => match vs with
    | [V.own [LT.int IntKind.i64] r233, V.undef, V.f (F.lit (Value.int IntKind.i64 i234)), V.f (F.lit (Value.int IntKind.i64 i235)), V.undef] => Lp40_31_step m (fun r239 i240 => k (Ex.exit (6 : Nat)) [V.own [LT.int IntKind.i64] r239, V.undef, V.f (F.lit (Value.int IntKind.i64 i234)), V.f (F.lit (Value.int IntKind.i64 i240)), V.undef]) i234 (fun r233 i235 => ELp40_31 m R n [V.own [LT.int IntKind.i64] r233, V.undef, V.f (F.lit (Value.int IntKind.i64 i234)), V.f (F.lit (Value.int IntKind.i64 i235)), V.undef] k) r233 i235
    | _ => none
def brLp40_31 (m : Nat) (L : LTbl) (R : Type) (vs : List V) (k : Ex → List V → Option R) : Option R := match vs with
  | [V.own [LT.int IntKind.i64] r233, V.undef, V.f (F.lit (Value.int IntKind.i64 i234)), V.f (F.lit (Value.int IntKind.i64 i235)), V.undef] => Lp40_31 m (fun r239 i240 => k (Ex.exit (6 : Nat)) [V.own [LT.int IntKind.i64] r239, V.undef, V.f (F.lit (Value.int IntKind.i64 i234)), V.f (F.lit (Value.int IntKind.i64 i240)), V.undef]) i234 m r233 i235
  | _ => L R 40 31 vs k
set_option maxRecDepth 100000 in
theorem stLp40_31 (m n : Nat) (R : Type) (r233 : Abs.Rows) (i234 : Int) (i235 : Int) (k : Ex → List V → Option R) : codeK Try.prog H (T18 m) 40 (L9 m) 32 (loopBody Try.prog 40 31) (mkEnv [8, 34, 58, 59, 72] [V.own [LT.int IntKind.i64] r233, V.undef, V.f (F.lit (Value.int IntKind.i64 i234)), V.f (F.lit (Value.int IntKind.i64 i235)), V.undef] 0 (H.len 40)) (fun e env' => match e with | .normal => ELp40_31 m R n (vals [8, 34, 58, 59, 72] env') k | e => k e (vals [8, 34, 58, 59, 72] env')) = Lp40_31_step m (fun r239 i240 => k (Ex.exit (6 : Nat)) [V.own [LT.int IntKind.i64] r239, V.undef, V.f (F.lit (Value.int IntKind.i64 i234)), V.f (F.lit (Value.int IntKind.i64 i240)), V.undef]) i234 (fun r233 i235 => ELp40_31 m R n [V.own [LT.int IntKind.i64] r233, V.undef, V.f (F.lit (Value.int IntKind.i64 i234)), V.f (F.lit (Value.int IntKind.i64 i235)), V.undef] k) r233 i235 := by kernel_rfl
theorem eqLp40_31 (m : Nat) (R : Type) (i234 : Int) (k : Ex → List V → Option R) : ∀ (n : Nat) (r233 : Abs.Rows) (i235 : Int), ELp40_31 m R n [V.own [LT.int IntKind.i64] r233, V.undef, V.f (F.lit (Value.int IntKind.i64 i234)), V.f (F.lit (Value.int IntKind.i64 i235)), V.undef] k = Lp40_31 m (fun r239 i240 => k (Ex.exit (6 : Nat)) [V.own [LT.int IntKind.i64] r239, V.undef, V.f (F.lit (Value.int IntKind.i64 i234)), V.f (F.lit (Value.int IntKind.i64 i240)), V.undef]) i234 n r233 i235
  | 0, _, _ => rfl
  | n + 1, r233, i235 => by
    simp only [ELp40_31, Lp40_31]
    congr 1
    funext r233 i235
    exact eqLp40_31 m R i234 k n r233 i235
def L10 (m : Nat) : LTbl := addB 40 31 (brLp40_31 m (L9 m)) (L9 m)
theorem okL10 (m : Nat) : LTOk Try.prog H (L10 m) := addB_ok (okT18 m) hM (okL9 m) (l := [8, 34, 58, 59, 72]) (by kernel_rfl) (by kernel_rfl) m (fun R n vs k => ELp40_31 m R n vs k) (fun R vs k => rfl) (fun R n vs k x h => by
      simp only [ELp40_31] at h
      split at h
      · exact (stLp40_31 m n R _ _ _ k).trans h
      · cases h) fun R vs k x h => by
    unfold brLp40_31 at h
    split at h
    · exact .inl ((eqLp40_31 m R _ k m _ _).trans h)
    · exact .inr h

/-- hookflash/media.Mix -/
def Fn40 {R : Type} (m : Nat) : Abs.Rows → (Abs.Rows → Int → Option R) → Option R := match m with
  | 0 => fun _ _ => none
  | m + 1 => fun r166 k =>
  bif decide ((↑(List.length r166) : Int) > (20 : Int)) then (k rows0 ((2 : Int))) else
  (Lp40_6 m (fun r202 i203 i204 i205 => k r202 i203) (fun i206 i207 => bif decide ((0 : Int) ≤ i206 ∧ i206 ≤ i206 ∧ i206 ≤ (↑rowMax : Int)) then (Lp40_18 m (fun r231 i232 => Lp40_31 m (fun r241 i242 => k r241 ((0 : Int))) ((↑(List.length r231) : Int)) m r231 ((0 : Int))) r166 r166 ((↑(List.length r166) : Int)) m (List.replicate (Int.toNat i206) [F.lit (Value.int IntKind.i64 (0 : Int))]) ((0 : Int))) else
  (none)) r166 rows0 ((0 : Int)) r166 ((↑(List.length r166) : Int)) m ((0 : Int)) ((0 : Int)))
def brFn40 (m : Nat) (T : Tbl) (R : Type) (vs : List V) (k : V → List V → Option R) : Option R := match vs with
  | [V.bor [LT.lst [LT.int IntKind.i64]] r166] => Fn40 m r166 (fun r243 i244 => k (V.tup [V.own [LT.int IntKind.i64] r243, V.f (F.lit (Value.int IntKind.i64 i244))]) [V.undef])
  | _ => T R 40 vs k
set_option maxRecDepth 100000 in
theorem evFn40 (m : Nat) (R : Type) (r166 : Abs.Rows) (k : V → List V → Option R) : runK Try.prog H (T18 m) (L10 m) 40 [V.bor [LT.lst [LT.int IntKind.i64]] r166] k = Fn40 (m + 1) r166 (fun r243 i244 => k (V.tup [V.own [LT.int IntKind.i64] r243, V.f (F.lit (Value.int IntKind.i64 i244))]) [V.undef]) := by kernel_rfl
def T19 (m : Nat) : Tbl := addT 40 (brFn40 m (T18 m)) (T18 m)
theorem okT19 (m : Nat) : TblOk Try.prog (T19 m) := addT_ok (okT18 m) fun R vs k x h => by
  unfold brFn40 at h
  split at h
  · cases m with
    | zero => cases h
    | succ m => exact runK_some (okT18 m) hM (okL10 m) ((evFn40 m R _ k).trans h)
  · exact okT18 m R 40 _ k x h

/-- a round of a loop of hookflash/media.CheckSamples -/
def Lp29_5v1_step {R : Type} (m : Nat) (kx0 : Int → Int → Option R) (kx1 : Int → Option R) (r250 : Abs.Rows) (i251 : Int) (r252 : Abs.Rows) (i253 : Int) (REC : Int → Option R) (i254 : Int) : Option R :=
  bif decide (i254 < i253) then (bif decide ((0 : Int) ≤ i254 ∧ i254 < (↑(List.length r252) : Int)) then (Fn68 m (fI r252 (Int.toNat i254) (0 : Nat)) (fun b255 => bif !b255 then (kx0 ((1 : Int)) i254) else
  (REC (IntKind.wrap IntKind.i64 (i254 + (1 : Int)))))) else
  (none)) else
  (kx1 i254)
def Lp29_5v1 {R : Type} (m : Nat) (kx0 : Int → Int → Option R) (kx1 : Int → Option R) (r250 : Abs.Rows) (i251 : Int) (r252 : Abs.Rows) (i253 : Int) : Nat → Int → Option R
  | 0, _ => none
  | n + 1, i254 => Lp29_5v1_step m kx0 kx1 r250 i251 r252 i253 (Lp29_5v1 m kx0 kx1 r250 i251 r252 i253 n) i254
def ELp29_5v1 (m : Nat) (R : Type) : Nat → List V → (Ex → List V → Option R) → Option R
  | 0, _, _ => none
  | n + 1, vs, k => match vs with
    | [V.bor [LT.int IntKind.i64] r250, V.f (F.lit (Value.int IntKind.i64 i251)), V.bor [LT.int IntKind.i64] r252, V.f (F.lit (Value.int IntKind.i64 i253)), V.f (F.lit (Value.int IntKind.i64 i254)), V.undef] => Lp29_5v1_step m (fun i256 i257 => k Ex.ret [V.bor [LT.int IntKind.i64] r250, V.f (F.lit (Value.int IntKind.i64 i256)), V.bor [LT.int IntKind.i64] r252, V.f (F.lit (Value.int IntKind.i64 i253)), V.f (F.lit (Value.int IntKind.i64 i257)), V.undef]) (fun i258 => k (Ex.exit (0 : Nat)) [V.bor [LT.int IntKind.i64] r250, V.f (F.lit (Value.int IntKind.i64 i251)), V.bor [LT.int IntKind.i64] r252, V.f (F.lit (Value.int IntKind.i64 i253)), V.f (F.lit (Value.int IntKind.i64 i258)), V.undef]) r250 i251 r252 i253 (fun i254 => ELp29_5v1 m R n [V.bor [LT.int IntKind.i64] r250, V.f (F.lit (Value.int IntKind.i64 i251)), V.bor [LT.int IntKind.i64] r252, V.f (F.lit (Value.int IntKind.i64 i253)), V.f (F.lit (Value.int IntKind.i64 i254)), V.undef] k) i254
    | _ => none
def brLp29_5v1 (m : Nat) (L : LTbl) (R : Type) (vs : List V) (k : Ex → List V → Option R) : Option R := match vs with
  | [V.bor [LT.int IntKind.i64] r250, V.f (F.lit (Value.int IntKind.i64 i251)), V.bor [LT.int IntKind.i64] r252, V.f (F.lit (Value.int IntKind.i64 i253)), V.f (F.lit (Value.int IntKind.i64 i254)), V.undef] => Lp29_5v1 m (fun i256 i257 => k Ex.ret [V.bor [LT.int IntKind.i64] r250, V.f (F.lit (Value.int IntKind.i64 i256)), V.bor [LT.int IntKind.i64] r252, V.f (F.lit (Value.int IntKind.i64 i253)), V.f (F.lit (Value.int IntKind.i64 i257)), V.undef]) (fun i258 => k (Ex.exit (0 : Nat)) [V.bor [LT.int IntKind.i64] r250, V.f (F.lit (Value.int IntKind.i64 i251)), V.bor [LT.int IntKind.i64] r252, V.f (F.lit (Value.int IntKind.i64 i253)), V.f (F.lit (Value.int IntKind.i64 i258)), V.undef]) r250 i251 r252 i253 m i254
  | _ => L R 29 5 vs k
set_option maxRecDepth 100000 in
theorem stLp29_5v1 (m n : Nat) (R : Type) (r250 : Abs.Rows) (i251 : Int) (r252 : Abs.Rows) (i253 : Int) (i254 : Int) (k : Ex → List V → Option R) : codeK Try.prog H (T19 m) 29 (L10 m) 6 (loopBody Try.prog 29 5) (mkEnv [0, 2, 8, 9, 10, 18] [V.bor [LT.int IntKind.i64] r250, V.f (F.lit (Value.int IntKind.i64 i251)), V.bor [LT.int IntKind.i64] r252, V.f (F.lit (Value.int IntKind.i64 i253)), V.f (F.lit (Value.int IntKind.i64 i254)), V.undef] 0 (H.len 29)) (fun e env' => match e with | .normal => ELp29_5v1 m R n (vals [0, 2, 8, 9, 10, 18] env') k | e => k e (vals [0, 2, 8, 9, 10, 18] env')) = Lp29_5v1_step m (fun i256 i257 => k Ex.ret [V.bor [LT.int IntKind.i64] r250, V.f (F.lit (Value.int IntKind.i64 i256)), V.bor [LT.int IntKind.i64] r252, V.f (F.lit (Value.int IntKind.i64 i253)), V.f (F.lit (Value.int IntKind.i64 i257)), V.undef]) (fun i258 => k (Ex.exit (0 : Nat)) [V.bor [LT.int IntKind.i64] r250, V.f (F.lit (Value.int IntKind.i64 i251)), V.bor [LT.int IntKind.i64] r252, V.f (F.lit (Value.int IntKind.i64 i253)), V.f (F.lit (Value.int IntKind.i64 i258)), V.undef]) r250 i251 r252 i253 (fun i254 => ELp29_5v1 m R n [V.bor [LT.int IntKind.i64] r250, V.f (F.lit (Value.int IntKind.i64 i251)), V.bor [LT.int IntKind.i64] r252, V.f (F.lit (Value.int IntKind.i64 i253)), V.f (F.lit (Value.int IntKind.i64 i254)), V.undef] k) i254 := by kernel_rfl
theorem eqLp29_5v1 (m : Nat) (R : Type) (r250 : Abs.Rows) (i251 : Int) (r252 : Abs.Rows) (i253 : Int) (k : Ex → List V → Option R) : ∀ (n : Nat) (i254 : Int), ELp29_5v1 m R n [V.bor [LT.int IntKind.i64] r250, V.f (F.lit (Value.int IntKind.i64 i251)), V.bor [LT.int IntKind.i64] r252, V.f (F.lit (Value.int IntKind.i64 i253)), V.f (F.lit (Value.int IntKind.i64 i254)), V.undef] k = Lp29_5v1 m (fun i256 i257 => k Ex.ret [V.bor [LT.int IntKind.i64] r250, V.f (F.lit (Value.int IntKind.i64 i256)), V.bor [LT.int IntKind.i64] r252, V.f (F.lit (Value.int IntKind.i64 i253)), V.f (F.lit (Value.int IntKind.i64 i257)), V.undef]) (fun i258 => k (Ex.exit (0 : Nat)) [V.bor [LT.int IntKind.i64] r250, V.f (F.lit (Value.int IntKind.i64 i251)), V.bor [LT.int IntKind.i64] r252, V.f (F.lit (Value.int IntKind.i64 i253)), V.f (F.lit (Value.int IntKind.i64 i258)), V.undef]) r250 i251 r252 i253 n i254
  | 0, _ => rfl
  | n + 1, i254 => by
    simp only [ELp29_5v1, Lp29_5v1]
    congr 1
    funext i254
    exact eqLp29_5v1 m R r250 i251 r252 i253 k n i254
def L11 (m : Nat) : LTbl := addB 29 5 (brLp29_5v1 m (L10 m)) (L10 m)
theorem okL11 (m : Nat) : LTOk Try.prog H (L11 m) := addB_ok (okT19 m) hM (okL10 m) (l := [0, 2, 8, 9, 10, 18]) (by kernel_rfl) (by kernel_rfl) m (fun R n vs k => ELp29_5v1 m R n vs k) (fun R vs k => rfl) (fun R n vs k x h => by
      simp only [ELp29_5v1] at h
      split at h
      · exact (stLp29_5v1 m n R _ _ _ _ _ k).trans h
      · cases h) fun R vs k x h => by
    unfold brLp29_5v1 at h
    split at h
    · exact .inl ((eqLp29_5v1 m R _ _ _ _ k m _).trans h)
    · exact .inr h

/-- hookflash/media.CheckSamples -/
def Fn29v1 {R : Type} (m : Nat) : Abs.Rows → (Int → Option R) → Option R := match m with
  | 0 => fun _ _ => none
  | m + 1 => fun r249 k =>
  bif decide ((↑(List.length r249) : Int) > (20000 : Int)) then (k ((2 : Int))) else
  (Lp29_5v1 m (fun i259 i260 => k i259) (fun i261 => k ((0 : Int))) r249 ((0 : Int)) r249 ((↑(List.length r249) : Int)) m ((0 : Int)))
def brFn29v1 (m : Nat) (T : Tbl) (R : Type) (vs : List V) (k : V → List V → Option R) : Option R := match vs with
  | [V.bor [LT.int IntKind.i64] r249] => Fn29v1 m r249 (fun i262 => k (V.f (F.lit (Value.int IntKind.i64 i262))) [V.undef])
  | _ => T R 29 vs k
set_option maxRecDepth 100000 in
theorem evFn29v1 (m : Nat) (R : Type) (r249 : Abs.Rows) (k : V → List V → Option R) : runK Try.prog H (T19 m) (L11 m) 29 [V.bor [LT.int IntKind.i64] r249] k = Fn29v1 (m + 1) r249 (fun i262 => k (V.f (F.lit (Value.int IntKind.i64 i262))) [V.undef]) := by kernel_rfl
def T20 (m : Nat) : Tbl := addT 29 (brFn29v1 m (T19 m)) (T19 m)
theorem okT20 (m : Nat) : TblOk Try.prog (T20 m) := addT_ok (okT19 m) fun R vs k x h => by
  unfold brFn29v1 at h
  split at h
  · cases m with
    | zero => cases h
    | succ m => exact runK_some (okT19 m) hM (okL11 m) ((evFn29v1 m R _ k).trans h)
  · exact okT19 m R 29 _ k x h

/-- a round of a loop of hookflash/media.Louder -/
def Lp41_10_step {R : Type} (m : Nat) (kx0 : Abs.Rows → Int → Option R) (r265 : Abs.Rows) (i266 : Int) (r268 : Abs.Rows) (i269 : Int) (REC : Abs.Rows → Int → Option R) (r267 : Abs.Rows) (i270 : Int) : Option R :=
  bif decide (i270 < i269) then (bif decide ((0 : Int) ≤ i270 ∧ i270 < (↑(List.length r268) : Int)) then (Fn76 m (Int.fdiv (IntKind.wrap IntKind.i64 (fI r268 (Int.toNat i270) (0 : Nat) * i266)) ((2 : Int) ^ min (Int.toNat (8 : Int)) (64 : Nat))) (fun i271 => bif decide ((0 : Int) ≤ i270 ∧ i270 < (↑(List.length r267) : Int)) then (REC (stR [LT.int IntKind.i64] r267 (Int.toNat i270) (0 : Nat) [F.lit (Value.int IntKind.i64 i271)]) (IntKind.wrap IntKind.i64 (i270 + (1 : Int)))) else
  (none))) else
  (none)) else
  (kx0 r267 i270)
def Lp41_10 {R : Type} (m : Nat) (kx0 : Abs.Rows → Int → Option R) (r265 : Abs.Rows) (i266 : Int) (r268 : Abs.Rows) (i269 : Int) : Nat → Abs.Rows → Int → Option R
  | 0, _, _ => none
  | n + 1, r267, i270 => Lp41_10_step m kx0 r265 i266 r268 i269 (Lp41_10 m kx0 r265 i266 r268 i269 n) r267 i270
def ELp41_10 (m : Nat) (R : Type) : Nat → List V → (Ex → List V → Option R) → Option R
  | 0, _, _ => none
  | n + 1, vs, k => match vs with
    | [V.bor [LT.int IntKind.i64] r265, V.f (F.lit (Value.int IntKind.i64 i266)), V.own [LT.int IntKind.i64] r267, V.undef, V.bor [LT.int IntKind.i64] r268, V.f (F.lit (Value.int IntKind.i64 i269)), V.f (F.lit (Value.int IntKind.i64 i270)), V.undef, V.undef] => Lp41_10_step m (fun r272 i273 => k (Ex.exit (0 : Nat)) [V.bor [LT.int IntKind.i64] r265, V.f (F.lit (Value.int IntKind.i64 i266)), V.own [LT.int IntKind.i64] r272, V.undef, V.bor [LT.int IntKind.i64] r268, V.f (F.lit (Value.int IntKind.i64 i269)), V.f (F.lit (Value.int IntKind.i64 i273)), V.undef, V.undef]) r265 i266 r268 i269 (fun r267 i270 => ELp41_10 m R n [V.bor [LT.int IntKind.i64] r265, V.f (F.lit (Value.int IntKind.i64 i266)), V.own [LT.int IntKind.i64] r267, V.undef, V.bor [LT.int IntKind.i64] r268, V.f (F.lit (Value.int IntKind.i64 i269)), V.f (F.lit (Value.int IntKind.i64 i270)), V.undef, V.undef] k) r267 i270
    | _ => none
def brLp41_10 (m : Nat) (L : LTbl) (R : Type) (vs : List V) (k : Ex → List V → Option R) : Option R := match vs with
  | [V.bor [LT.int IntKind.i64] r265, V.f (F.lit (Value.int IntKind.i64 i266)), V.own [LT.int IntKind.i64] r267, V.undef, V.bor [LT.int IntKind.i64] r268, V.f (F.lit (Value.int IntKind.i64 i269)), V.f (F.lit (Value.int IntKind.i64 i270)), V.undef, V.undef] => Lp41_10 m (fun r272 i273 => k (Ex.exit (0 : Nat)) [V.bor [LT.int IntKind.i64] r265, V.f (F.lit (Value.int IntKind.i64 i266)), V.own [LT.int IntKind.i64] r272, V.undef, V.bor [LT.int IntKind.i64] r268, V.f (F.lit (Value.int IntKind.i64 i269)), V.f (F.lit (Value.int IntKind.i64 i273)), V.undef, V.undef]) r265 i266 r268 i269 m r267 i270
  | _ => L R 41 10 vs k
set_option maxRecDepth 100000 in
theorem stLp41_10 (m n : Nat) (R : Type) (r265 : Abs.Rows) (i266 : Int) (r267 : Abs.Rows) (r268 : Abs.Rows) (i269 : Int) (i270 : Int) (k : Ex → List V → Option R) : codeK Try.prog H (T20 m) 41 (L11 m) 11 (loopBody Try.prog 41 10) (mkEnv [0, 1, 7, 20, 21, 22, 23, 38, 39] [V.bor [LT.int IntKind.i64] r265, V.f (F.lit (Value.int IntKind.i64 i266)), V.own [LT.int IntKind.i64] r267, V.undef, V.bor [LT.int IntKind.i64] r268, V.f (F.lit (Value.int IntKind.i64 i269)), V.f (F.lit (Value.int IntKind.i64 i270)), V.undef, V.undef] 0 (H.len 41)) (fun e env' => match e with | .normal => ELp41_10 m R n (vals [0, 1, 7, 20, 21, 22, 23, 38, 39] env') k | e => k e (vals [0, 1, 7, 20, 21, 22, 23, 38, 39] env')) = Lp41_10_step m (fun r272 i273 => k (Ex.exit (0 : Nat)) [V.bor [LT.int IntKind.i64] r265, V.f (F.lit (Value.int IntKind.i64 i266)), V.own [LT.int IntKind.i64] r272, V.undef, V.bor [LT.int IntKind.i64] r268, V.f (F.lit (Value.int IntKind.i64 i269)), V.f (F.lit (Value.int IntKind.i64 i273)), V.undef, V.undef]) r265 i266 r268 i269 (fun r267 i270 => ELp41_10 m R n [V.bor [LT.int IntKind.i64] r265, V.f (F.lit (Value.int IntKind.i64 i266)), V.own [LT.int IntKind.i64] r267, V.undef, V.bor [LT.int IntKind.i64] r268, V.f (F.lit (Value.int IntKind.i64 i269)), V.f (F.lit (Value.int IntKind.i64 i270)), V.undef, V.undef] k) r267 i270 := by kernel_rfl
theorem eqLp41_10 (m : Nat) (R : Type) (r265 : Abs.Rows) (i266 : Int) (r268 : Abs.Rows) (i269 : Int) (k : Ex → List V → Option R) : ∀ (n : Nat) (r267 : Abs.Rows) (i270 : Int), ELp41_10 m R n [V.bor [LT.int IntKind.i64] r265, V.f (F.lit (Value.int IntKind.i64 i266)), V.own [LT.int IntKind.i64] r267, V.undef, V.bor [LT.int IntKind.i64] r268, V.f (F.lit (Value.int IntKind.i64 i269)), V.f (F.lit (Value.int IntKind.i64 i270)), V.undef, V.undef] k = Lp41_10 m (fun r272 i273 => k (Ex.exit (0 : Nat)) [V.bor [LT.int IntKind.i64] r265, V.f (F.lit (Value.int IntKind.i64 i266)), V.own [LT.int IntKind.i64] r272, V.undef, V.bor [LT.int IntKind.i64] r268, V.f (F.lit (Value.int IntKind.i64 i269)), V.f (F.lit (Value.int IntKind.i64 i273)), V.undef, V.undef]) r265 i266 r268 i269 n r267 i270
  | 0, _, _ => rfl
  | n + 1, r267, i270 => by
    simp only [ELp41_10, Lp41_10]
    congr 1
    funext r267 i270
    exact eqLp41_10 m R r265 i266 r268 i269 k n r267 i270
def L12 (m : Nat) : LTbl := addB 41 10 (brLp41_10 m (L11 m)) (L11 m)
theorem okL12 (m : Nat) : LTOk Try.prog H (L12 m) := addB_ok (okT20 m) hM (okL11 m) (l := [0, 1, 7, 20, 21, 22, 23, 38, 39]) (by kernel_rfl) (by kernel_rfl) m (fun R n vs k => ELp41_10 m R n vs k) (fun R vs k => rfl) (fun R n vs k x h => by
      simp only [ELp41_10] at h
      split at h
      · exact (stLp41_10 m n R _ _ _ _ _ _ k).trans h
      · cases h) fun R vs k x h => by
    unfold brLp41_10 at h
    split at h
    · exact .inl ((eqLp41_10 m R _ _ _ _ k m _ _).trans h)
    · exact .inr h

/-- hookflash/media.Louder -/
def Fn41 {R : Type} (m : Nat) : Abs.Rows → Int → (Abs.Rows → Int → Option R) → Option R := match m with
  | 0 => fun _ _ _ => none
  | m + 1 => fun r247 i248 k =>
  Fn29v1 m r247 (fun i263 => bif i263 != (0 : Int) then (k rows0 i263) else
  (Fn67 m i248 ((0 : Int)) ((65536 : Int)) (fun b264 => bif !b264 then (k rows0 ((1 : Int))) else
  (bif decide ((0 : Int) ≤ (↑(List.length r247) : Int) ∧ (↑(List.length r247) : Int) ≤ (↑(List.length r247) : Int) ∧ (↑(List.length r247) : Int) ≤ (↑rowMax : Int)) then (Lp41_10 m (fun r274 i275 => k r274 ((0 : Int))) r247 i248 r247 ((↑(List.length r247) : Int)) m (List.replicate (Int.toNat (↑(List.length r247) : Int)) [F.lit (Value.int IntKind.i64 (0 : Int))]) ((0 : Int))) else
  (none)))))
def brFn41 (m : Nat) (T : Tbl) (R : Type) (vs : List V) (k : V → List V → Option R) : Option R := match vs with
  | [V.bor [LT.int IntKind.i64] r247, V.f (F.lit (Value.int IntKind.i64 i248))] => Fn41 m r247 i248 (fun r276 i277 => k (V.tup [V.own [LT.int IntKind.i64] r276, V.f (F.lit (Value.int IntKind.i64 i277))]) [V.undef, V.undef])
  | _ => T R 41 vs k
set_option maxRecDepth 100000 in
theorem evFn41 (m : Nat) (R : Type) (r247 : Abs.Rows) (i248 : Int) (k : V → List V → Option R) : runK Try.prog H (T20 m) (L12 m) 41 [V.bor [LT.int IntKind.i64] r247, V.f (F.lit (Value.int IntKind.i64 i248))] k = Fn41 (m + 1) r247 i248 (fun r276 i277 => k (V.tup [V.own [LT.int IntKind.i64] r276, V.f (F.lit (Value.int IntKind.i64 i277))]) [V.undef, V.undef]) := by kernel_rfl
def T21 (m : Nat) : Tbl := addT 41 (brFn41 m (T20 m)) (T20 m)
theorem okT21 (m : Nat) : TblOk Try.prog (T21 m) := addT_ok (okT20 m) fun R vs k x h => by
  unfold brFn41 at h
  split at h
  · cases m with
    | zero => cases h
    | succ m => exact runK_some (okT20 m) hM (okL12 m) ((evFn41 m R _ _ k).trans h)
  · exact okT20 m R 41 _ k x h

/-- a rest of hookflash/media.Silent -/
def Jn42_16 {R : Type} (m : Nat) (kx0 : Abs.Rows → Int → Option R) (r299 : Abs.Rows) (i300 : Int) (i301 : Int) (r302 : Abs.Rows) (i303 : Int) (i304 : Int) (i305 : Int) (i306 : Int) : Option R :=
  bif decide (IntKind.wrap IntKind.i64 (i304 - i303) ≥ i301) then (bif decide (List.length r302 + List.length [[F.lit (Value.int IntKind.i64 i303), F.lit (Value.int IntKind.i64 i304)]] ≤ rowMax) then (letV (r302 ++ [[F.lit (Value.int IntKind.i64 i303), F.lit (Value.int IntKind.i64 i304)]]) (fun r307 => kx0 r307 (IntKind.wrap IntKind.i64 (i304 + (1 : Int))))) else
  (none)) else
  (kx0 r302 (IntKind.wrap IntKind.i64 (i304 + (1 : Int))))
def brJn42_16 (m : Nat) (L : LTbl) (R : Type) (vs : List V) (k : Ex → List V → Option R) : Option R := match vs with
  | [V.bor [LT.int IntKind.i64] r299, V.f (F.lit (Value.int IntKind.i64 i300)), V.f (F.lit (Value.int IntKind.i64 i301)), V.own [LT.int IntKind.i64, LT.int IntKind.i64] r302, V.f (F.lit (Value.int IntKind.i64 i303)), V.f (F.lit (Value.int IntKind.i64 i304)), V.f (F.lit (Value.int IntKind.i64 i305)), V.f (F.lit (Value.int IntKind.i64 i306)), V.undef, V.undef, V.undef, V.undef] => Jn42_16 m (fun r308 i309 => k Ex.normal [V.bor [LT.int IntKind.i64] r299, V.f (F.lit (Value.int IntKind.i64 i300)), V.f (F.lit (Value.int IntKind.i64 i301)), V.own [LT.int IntKind.i64, LT.int IntKind.i64] r308, V.f (F.lit (Value.int IntKind.i64 i309)), V.f (F.lit (Value.int IntKind.i64 i304)), V.f (F.lit (Value.int IntKind.i64 i305)), V.f (F.lit (Value.int IntKind.i64 i306)), V.undef, V.undef, V.undef, V.undef]) r299 i300 i301 r302 i303 i304 i305 i306
  | _ => L R 42 16 vs k
set_option maxRecDepth 100000 in
theorem evJn42_16 (m : Nat) (R : Type) (r299 : Abs.Rows) (i300 : Int) (i301 : Int) (r302 : Abs.Rows) (i303 : Int) (i304 : Int) (i305 : Int) (i306 : Int) (k : Ex → List V → Option R) : codeK Try.prog H (T21 m) 42 (L12 m) 17 (loopBody Try.prog 42 16) (mkEnv [0, 1, 2, 9, 10, 11, 27, 28, 55, 60, 61, 62] [V.bor [LT.int IntKind.i64] r299, V.f (F.lit (Value.int IntKind.i64 i300)), V.f (F.lit (Value.int IntKind.i64 i301)), V.own [LT.int IntKind.i64, LT.int IntKind.i64] r302, V.f (F.lit (Value.int IntKind.i64 i303)), V.f (F.lit (Value.int IntKind.i64 i304)), V.f (F.lit (Value.int IntKind.i64 i305)), V.f (F.lit (Value.int IntKind.i64 i306)), V.undef, V.undef, V.undef, V.undef] 0 (H.len 42)) (fun e env' => k e (vals [0, 1, 2, 9, 10, 11, 27, 28, 55, 60, 61, 62] env')) = Jn42_16 m (fun r308 i309 => k Ex.normal [V.bor [LT.int IntKind.i64] r299, V.f (F.lit (Value.int IntKind.i64 i300)), V.f (F.lit (Value.int IntKind.i64 i301)), V.own [LT.int IntKind.i64, LT.int IntKind.i64] r308, V.f (F.lit (Value.int IntKind.i64 i309)), V.f (F.lit (Value.int IntKind.i64 i304)), V.f (F.lit (Value.int IntKind.i64 i305)), V.f (F.lit (Value.int IntKind.i64 i306)), V.undef, V.undef, V.undef, V.undef]) r299 i300 i301 r302 i303 i304 i305 i306 := by kernel_rfl
def L13 (m : Nat) : LTbl := addJ 42 16 (brJn42_16 m (L12 m)) (L12 m)
theorem okL13 (m : Nat) : LTOk Try.prog H (L13 m) := addJ_ok (okT21 m) hM (okL12 m) (l := [0, 1, 2, 9, 10, 11, 27, 28, 55, 60, 61, 62]) (by kernel_rfl) (by kernel_rfl) fun R vs k x h => by
    unfold brJn42_16 at h
    split at h
    · exact .inl ((evJn42_16 m R _ _ _ _ _ _ _ _ k).trans h)
    · exact .inr h

/-- a round of a loop of hookflash/media.Silent -/
def Lp42_11_step {R : Type} (m : Nat) (kx0 : Abs.Rows → Int → Int → Option R) (r291 : Abs.Rows) (i292 : Int) (i293 : Int) (i296 : Int) (REC : Abs.Rows → Int → Int → Option R) (r294 : Abs.Rows) (i295 : Int) (i297 : Int) : Option R :=
  bif decide (i297 < i296) then (bif decide (i297 < (↑(List.length r291) : Int)) then (bif decide ((0 : Int) ≤ i297 ∧ i297 < (↑(List.length r291) : Int)) then (Fn67 m (fI r291 (Int.toNat i297) (0 : Nat)) (IntKind.wrap IntKind.i64 ((0 : Int) - i292)) i292 (fun b298 => bif b298 then (REC r294 i295 (IntKind.wrap IntKind.i64 (i297 + (1 : Int)))) else
  (Jn42_16 m (fun r310 i311 => REC r310 i311 (IntKind.wrap IntKind.i64 (i297 + (1 : Int)))) r291 i292 i293 r294 i295 i297 i296 i297))) else
  (none)) else
  (Jn42_16 m (fun r312 i313 => REC r312 i313 (IntKind.wrap IntKind.i64 (i297 + (1 : Int)))) r291 i292 i293 r294 i295 i297 i296 i297)) else
  (kx0 r294 i295 i297)
def Lp42_11 {R : Type} (m : Nat) (kx0 : Abs.Rows → Int → Int → Option R) (r291 : Abs.Rows) (i292 : Int) (i293 : Int) (i296 : Int) : Nat → Abs.Rows → Int → Int → Option R
  | 0, _, _, _ => none
  | n + 1, r294, i295, i297 => Lp42_11_step m kx0 r291 i292 i293 i296 (Lp42_11 m kx0 r291 i292 i293 i296 n) r294 i295 i297
def ELp42_11 (m : Nat) (R : Type) : Nat → List V → (Ex → List V → Option R) → Option R
  | 0, _, _ => none
  | n + 1, vs, k => match vs with
    | [V.bor [LT.int IntKind.i64] r291, V.f (F.lit (Value.int IntKind.i64 i292)), V.f (F.lit (Value.int IntKind.i64 i293)), V.own [LT.int IntKind.i64, LT.int IntKind.i64] r294, V.f (F.lit (Value.int IntKind.i64 i295)), V.f (F.lit (Value.int IntKind.i64 i296)), V.f (F.lit (Value.int IntKind.i64 i297)), V.undef, V.undef, V.undef] => Lp42_11_step m (fun r314 i315 i316 => k (Ex.exit (0 : Nat)) [V.bor [LT.int IntKind.i64] r291, V.f (F.lit (Value.int IntKind.i64 i292)), V.f (F.lit (Value.int IntKind.i64 i293)), V.own [LT.int IntKind.i64, LT.int IntKind.i64] r314, V.f (F.lit (Value.int IntKind.i64 i315)), V.f (F.lit (Value.int IntKind.i64 i296)), V.f (F.lit (Value.int IntKind.i64 i316)), V.undef, V.undef, V.undef]) r291 i292 i293 i296 (fun r294 i295 i297 => ELp42_11 m R n [V.bor [LT.int IntKind.i64] r291, V.f (F.lit (Value.int IntKind.i64 i292)), V.f (F.lit (Value.int IntKind.i64 i293)), V.own [LT.int IntKind.i64, LT.int IntKind.i64] r294, V.f (F.lit (Value.int IntKind.i64 i295)), V.f (F.lit (Value.int IntKind.i64 i296)), V.f (F.lit (Value.int IntKind.i64 i297)), V.undef, V.undef, V.undef] k) r294 i295 i297
    | _ => none
def brLp42_11 (m : Nat) (L : LTbl) (R : Type) (vs : List V) (k : Ex → List V → Option R) : Option R := match vs with
  | [V.bor [LT.int IntKind.i64] r291, V.f (F.lit (Value.int IntKind.i64 i292)), V.f (F.lit (Value.int IntKind.i64 i293)), V.own [LT.int IntKind.i64, LT.int IntKind.i64] r294, V.f (F.lit (Value.int IntKind.i64 i295)), V.f (F.lit (Value.int IntKind.i64 i296)), V.f (F.lit (Value.int IntKind.i64 i297)), V.undef, V.undef, V.undef] => Lp42_11 m (fun r314 i315 i316 => k (Ex.exit (0 : Nat)) [V.bor [LT.int IntKind.i64] r291, V.f (F.lit (Value.int IntKind.i64 i292)), V.f (F.lit (Value.int IntKind.i64 i293)), V.own [LT.int IntKind.i64, LT.int IntKind.i64] r314, V.f (F.lit (Value.int IntKind.i64 i315)), V.f (F.lit (Value.int IntKind.i64 i296)), V.f (F.lit (Value.int IntKind.i64 i316)), V.undef, V.undef, V.undef]) r291 i292 i293 i296 m r294 i295 i297
  | _ => L R 42 11 vs k
set_option maxRecDepth 100000 in
theorem stLp42_11 (m n : Nat) (R : Type) (r291 : Abs.Rows) (i292 : Int) (i293 : Int) (r294 : Abs.Rows) (i295 : Int) (i296 : Int) (i297 : Int) (k : Ex → List V → Option R) : codeK Try.prog H (T21 m) 42 (L13 m) 12 (loopBody Try.prog 42 11) (mkEnv [0, 1, 2, 9, 10, 27, 28, 60, 61, 62] [V.bor [LT.int IntKind.i64] r291, V.f (F.lit (Value.int IntKind.i64 i292)), V.f (F.lit (Value.int IntKind.i64 i293)), V.own [LT.int IntKind.i64, LT.int IntKind.i64] r294, V.f (F.lit (Value.int IntKind.i64 i295)), V.f (F.lit (Value.int IntKind.i64 i296)), V.f (F.lit (Value.int IntKind.i64 i297)), V.undef, V.undef, V.undef] 0 (H.len 42)) (fun e env' => match e with | .normal => ELp42_11 m R n (vals [0, 1, 2, 9, 10, 27, 28, 60, 61, 62] env') k | e => k e (vals [0, 1, 2, 9, 10, 27, 28, 60, 61, 62] env')) = Lp42_11_step m (fun r314 i315 i316 => k (Ex.exit (0 : Nat)) [V.bor [LT.int IntKind.i64] r291, V.f (F.lit (Value.int IntKind.i64 i292)), V.f (F.lit (Value.int IntKind.i64 i293)), V.own [LT.int IntKind.i64, LT.int IntKind.i64] r314, V.f (F.lit (Value.int IntKind.i64 i315)), V.f (F.lit (Value.int IntKind.i64 i296)), V.f (F.lit (Value.int IntKind.i64 i316)), V.undef, V.undef, V.undef]) r291 i292 i293 i296 (fun r294 i295 i297 => ELp42_11 m R n [V.bor [LT.int IntKind.i64] r291, V.f (F.lit (Value.int IntKind.i64 i292)), V.f (F.lit (Value.int IntKind.i64 i293)), V.own [LT.int IntKind.i64, LT.int IntKind.i64] r294, V.f (F.lit (Value.int IntKind.i64 i295)), V.f (F.lit (Value.int IntKind.i64 i296)), V.f (F.lit (Value.int IntKind.i64 i297)), V.undef, V.undef, V.undef] k) r294 i295 i297 := by kernel_rfl
theorem eqLp42_11 (m : Nat) (R : Type) (r291 : Abs.Rows) (i292 : Int) (i293 : Int) (i296 : Int) (k : Ex → List V → Option R) : ∀ (n : Nat) (r294 : Abs.Rows) (i295 : Int) (i297 : Int), ELp42_11 m R n [V.bor [LT.int IntKind.i64] r291, V.f (F.lit (Value.int IntKind.i64 i292)), V.f (F.lit (Value.int IntKind.i64 i293)), V.own [LT.int IntKind.i64, LT.int IntKind.i64] r294, V.f (F.lit (Value.int IntKind.i64 i295)), V.f (F.lit (Value.int IntKind.i64 i296)), V.f (F.lit (Value.int IntKind.i64 i297)), V.undef, V.undef, V.undef] k = Lp42_11 m (fun r314 i315 i316 => k (Ex.exit (0 : Nat)) [V.bor [LT.int IntKind.i64] r291, V.f (F.lit (Value.int IntKind.i64 i292)), V.f (F.lit (Value.int IntKind.i64 i293)), V.own [LT.int IntKind.i64, LT.int IntKind.i64] r314, V.f (F.lit (Value.int IntKind.i64 i315)), V.f (F.lit (Value.int IntKind.i64 i296)), V.f (F.lit (Value.int IntKind.i64 i316)), V.undef, V.undef, V.undef]) r291 i292 i293 i296 n r294 i295 i297
  | 0, _, _, _ => rfl
  | n + 1, r294, i295, i297 => by
    simp only [ELp42_11, Lp42_11]
    congr 1
    funext r294 i295 i297
    exact eqLp42_11 m R r291 i292 i293 i296 k n r294 i295 i297
def L14 (m : Nat) : LTbl := addB 42 11 (brLp42_11 m (L13 m)) (L13 m)
theorem okL14 (m : Nat) : LTOk Try.prog H (L14 m) := addB_ok (okT21 m) hM (okL13 m) (l := [0, 1, 2, 9, 10, 27, 28, 60, 61, 62]) (by kernel_rfl) (by kernel_rfl) m (fun R n vs k => ELp42_11 m R n vs k) (fun R vs k => rfl) (fun R n vs k x h => by
      simp only [ELp42_11] at h
      split at h
      · exact (stLp42_11 m n R _ _ _ _ _ _ _ k).trans h
      · cases h) fun R vs k x h => by
    unfold brLp42_11 at h
    split at h
    · exact .inl ((eqLp42_11 m R _ _ _ _ k m _ _ _).trans h)
    · exact .inr h

/-- a rest of hookflash/media.Silent -/
def Jn42_7 {R : Type} (m : Nat) (kx0 : Abs.Rows → Int → Option R) (r286 : Abs.Rows) (i287 : Int) (i288 : Int) (r289 : Abs.Rows) (i290 : Int) : Option R :=
  Lp42_11 m (fun r317 i318 i319 => kx0 r317 ((0 : Int))) r286 i287 i288 (IntKind.wrap IntKind.i64 ((↑(List.length r286) : Int) + (1 : Int))) m rows0 ((0 : Int)) ((0 : Int))
def brJn42_7 (m : Nat) (L : LTbl) (R : Type) (vs : List V) (k : Ex → List V → Option R) : Option R := match vs with
  | [V.bor [LT.int IntKind.i64] r286, V.f (F.lit (Value.int IntKind.i64 i287)), V.f (F.lit (Value.int IntKind.i64 i288)), V.own [LT.int IntKind.i64, LT.int IntKind.i64] r289, V.f (F.lit (Value.int IntKind.i64 i290)), V.undef, V.undef, V.undef, V.undef, V.undef, V.undef] => Jn42_7 m (fun r320 i321 => k Ex.ret [V.bor [LT.int IntKind.i64] r286, V.f (F.lit (Value.int IntKind.i64 i287)), V.f (F.lit (Value.int IntKind.i64 i288)), V.own [LT.int IntKind.i64, LT.int IntKind.i64] r320, V.f (F.lit (Value.int IntKind.i64 i321)), V.undef, V.undef, V.undef, V.undef, V.undef, V.undef]) r286 i287 i288 r289 i290
  | _ => L R 42 7 vs k
set_option maxRecDepth 100000 in
theorem evJn42_7 (m : Nat) (R : Type) (r286 : Abs.Rows) (i287 : Int) (i288 : Int) (r289 : Abs.Rows) (i290 : Int) (k : Ex → List V → Option R) : codeK Try.prog H (T21 m) 42 (L14 m) 8 (loopBody Try.prog 42 7) (mkEnv [0, 1, 2, 6, 7, 9, 55, 59, 60, 61, 62] [V.bor [LT.int IntKind.i64] r286, V.f (F.lit (Value.int IntKind.i64 i287)), V.f (F.lit (Value.int IntKind.i64 i288)), V.own [LT.int IntKind.i64, LT.int IntKind.i64] r289, V.f (F.lit (Value.int IntKind.i64 i290)), V.undef, V.undef, V.undef, V.undef, V.undef, V.undef] 0 (H.len 42)) (fun e env' => k e (vals [0, 1, 2, 6, 7, 9, 55, 59, 60, 61, 62] env')) = Jn42_7 m (fun r320 i321 => k Ex.ret [V.bor [LT.int IntKind.i64] r286, V.f (F.lit (Value.int IntKind.i64 i287)), V.f (F.lit (Value.int IntKind.i64 i288)), V.own [LT.int IntKind.i64, LT.int IntKind.i64] r320, V.f (F.lit (Value.int IntKind.i64 i321)), V.undef, V.undef, V.undef, V.undef, V.undef, V.undef]) r286 i287 i288 r289 i290 := by kernel_rfl
def L15 (m : Nat) : LTbl := addJ 42 7 (brJn42_7 m (L14 m)) (L14 m)
theorem okL15 (m : Nat) : LTOk Try.prog H (L15 m) := addJ_ok (okT21 m) hM (okL14 m) (l := [0, 1, 2, 6, 7, 9, 55, 59, 60, 61, 62]) (by kernel_rfl) (by kernel_rfl) fun R vs k x h => by
    unfold brJn42_7 at h
    split at h
    · exact .inl ((evJn42_7 m R _ _ _ _ _ k).trans h)
    · exact .inr h

/-- hookflash/media.Silent -/
def Fn42 {R : Type} (m : Nat) : Abs.Rows → Int → Int → (Abs.Rows → Int → Option R) → Option R := match m with
  | 0 => fun _ _ _ _ => none
  | m + 1 => fun r280 i281 i282 k =>
  Fn29v1 m r280 (fun i283 => bif i283 != (0 : Int) then (k rows0 i283) else
  (Fn67 m i281 ((0 : Int)) ((32767 : Int)) (fun b284 => bif !b284 then (k rows0 ((1 : Int))) else
  (Fn67 m i282 ((1 : Int)) ((20000 : Int)) (fun b285 => bif !b285 then (k rows0 ((1 : Int))) else
  (Jn42_7 m (fun r322 i323 => k r322 i323) r280 i281 i282 rows0 ((0 : Int))))))))
def brFn42 (m : Nat) (T : Tbl) (R : Type) (vs : List V) (k : V → List V → Option R) : Option R := match vs with
  | [V.bor [LT.int IntKind.i64] r280, V.f (F.lit (Value.int IntKind.i64 i281)), V.f (F.lit (Value.int IntKind.i64 i282))] => Fn42 m r280 i281 i282 (fun r324 i325 => k (V.tup [V.own [LT.int IntKind.i64, LT.int IntKind.i64] r324, V.f (F.lit (Value.int IntKind.i64 i325))]) [V.undef, V.undef, V.undef])
  | _ => T R 42 vs k
set_option maxRecDepth 100000 in
theorem evFn42 (m : Nat) (R : Type) (r280 : Abs.Rows) (i281 : Int) (i282 : Int) (k : V → List V → Option R) : runK Try.prog H (T21 m) (L15 m) 42 [V.bor [LT.int IntKind.i64] r280, V.f (F.lit (Value.int IntKind.i64 i281)), V.f (F.lit (Value.int IntKind.i64 i282))] k = Fn42 (m + 1) r280 i281 i282 (fun r324 i325 => k (V.tup [V.own [LT.int IntKind.i64, LT.int IntKind.i64] r324, V.f (F.lit (Value.int IntKind.i64 i325))]) [V.undef, V.undef, V.undef]) := by kernel_rfl
def T22 (m : Nat) : Tbl := addT 42 (brFn42 m (T21 m)) (T21 m)
theorem okT22 (m : Nat) : TblOk Try.prog (T22 m) := addT_ok (okT21 m) fun R vs k x h => by
  unfold brFn42 at h
  split at h
  · cases m with
    | zero => cases h
    | succ m => exact runK_some (okT21 m) hM (okL15 m) ((evFn42 m R _ _ _ k).trans h)
  · exact okT21 m R 42 _ k x h

/-- a round of a loop of hookflash/flashref2.MixOf -/
def Lp43_7_step {R : Type} (m : Nat) (kx0 : Abs.Rows → Option R) (r334 : Abs.Rows) (r336 : Abs.Rows) (r337 : Abs.Rows) (i338 : Int) (i339 : Int) (r340 : Abs.Rows) (n341 : Nat) (r342 : Abs.Rows) (REC : Abs.Rows → Option R) (r335 : Abs.Rows) : Option R :=
  bif decide ((↑(List.length r335) : Int) < (↑(List.length r336) : Int)) then (bif decide (List.length r335 + List.length [[F.lit (Value.int IntKind.i64 (0 : Int))]] ≤ rowMax) then (letV (r335 ++ [[F.lit (Value.int IntKind.i64 (0 : Int))]]) (fun r343 => REC r343)) else
  (none)) else
  (kx0 r335)
def Lp43_7 {R : Type} (m : Nat) (kx0 : Abs.Rows → Option R) (r334 : Abs.Rows) (r336 : Abs.Rows) (r337 : Abs.Rows) (i338 : Int) (i339 : Int) (r340 : Abs.Rows) (n341 : Nat) (r342 : Abs.Rows) : Nat → Abs.Rows → Option R
  | 0, _ => none
  | n + 1, r335 => Lp43_7_step m kx0 r334 r336 r337 i338 i339 r340 n341 r342 (Lp43_7 m kx0 r334 r336 r337 i338 i339 r340 n341 r342 n) r335
def ELp43_7 (m : Nat) (R : Type) : Nat → List V → (Ex → List V → Option R) → Option R
  | 0, _, _ => none
  | n + 1, vs, k => match vs with
    | [V.bor [LT.lst [LT.int IntKind.i64]] r334, V.own [LT.int IntKind.i64] r335, V.f (F.lst [LT.int IntKind.i64] r336), V.bor [LT.lst [LT.int IntKind.i64]] r337, V.f (F.lit (Value.int IntKind.i64 i338)), V.f (F.lit (Value.int IntKind.i64 i339)), V.iref [LT.lst [LT.int IntKind.i64]] r340 n341 (0 : Nat), V.f (F.lst [LT.int IntKind.i64] r342), V.undef] => Lp43_7_step m (fun r344 => k (Ex.exit (2 : Nat)) [V.bor [LT.lst [LT.int IntKind.i64]] r334, V.own [LT.int IntKind.i64] r344, V.f (F.lst [LT.int IntKind.i64] r336), V.bor [LT.lst [LT.int IntKind.i64]] r337, V.f (F.lit (Value.int IntKind.i64 i338)), V.f (F.lit (Value.int IntKind.i64 i339)), V.iref [LT.lst [LT.int IntKind.i64]] r340 n341 (0 : Nat), V.f (F.lst [LT.int IntKind.i64] r342), V.undef]) r334 r336 r337 i338 i339 r340 n341 r342 (fun r335 => ELp43_7 m R n [V.bor [LT.lst [LT.int IntKind.i64]] r334, V.own [LT.int IntKind.i64] r335, V.f (F.lst [LT.int IntKind.i64] r336), V.bor [LT.lst [LT.int IntKind.i64]] r337, V.f (F.lit (Value.int IntKind.i64 i338)), V.f (F.lit (Value.int IntKind.i64 i339)), V.iref [LT.lst [LT.int IntKind.i64]] r340 n341 (0 : Nat), V.f (F.lst [LT.int IntKind.i64] r342), V.undef] k) r335
    | _ => none
def brLp43_7 (m : Nat) (L : LTbl) (R : Type) (vs : List V) (k : Ex → List V → Option R) : Option R := match vs with
  | [V.bor [LT.lst [LT.int IntKind.i64]] r334, V.own [LT.int IntKind.i64] r335, V.f (F.lst [LT.int IntKind.i64] r336), V.bor [LT.lst [LT.int IntKind.i64]] r337, V.f (F.lit (Value.int IntKind.i64 i338)), V.f (F.lit (Value.int IntKind.i64 i339)), V.iref [LT.lst [LT.int IntKind.i64]] r340 n341 (0 : Nat), V.f (F.lst [LT.int IntKind.i64] r342), V.undef] => Lp43_7 m (fun r344 => k (Ex.exit (2 : Nat)) [V.bor [LT.lst [LT.int IntKind.i64]] r334, V.own [LT.int IntKind.i64] r344, V.f (F.lst [LT.int IntKind.i64] r336), V.bor [LT.lst [LT.int IntKind.i64]] r337, V.f (F.lit (Value.int IntKind.i64 i338)), V.f (F.lit (Value.int IntKind.i64 i339)), V.iref [LT.lst [LT.int IntKind.i64]] r340 n341 (0 : Nat), V.f (F.lst [LT.int IntKind.i64] r342), V.undef]) r334 r336 r337 i338 i339 r340 n341 r342 m r335
  | _ => L R 43 7 vs k
set_option maxRecDepth 100000 in
theorem stLp43_7 (m n : Nat) (R : Type) (r334 : Abs.Rows) (r335 : Abs.Rows) (r336 : Abs.Rows) (r337 : Abs.Rows) (i338 : Int) (i339 : Int) (r340 : Abs.Rows) (n341 : Nat) (r342 : Abs.Rows) (k : Ex → List V → Option R) : codeK Try.prog H (T22 m) 43 (L15 m) 8 (loopBody Try.prog 43 7) (mkEnv [0, 3, 5, 9, 10, 11, 13, 14, 54] [V.bor [LT.lst [LT.int IntKind.i64]] r334, V.own [LT.int IntKind.i64] r335, V.f (F.lst [LT.int IntKind.i64] r336), V.bor [LT.lst [LT.int IntKind.i64]] r337, V.f (F.lit (Value.int IntKind.i64 i338)), V.f (F.lit (Value.int IntKind.i64 i339)), V.iref [LT.lst [LT.int IntKind.i64]] r340 n341 (0 : Nat), V.f (F.lst [LT.int IntKind.i64] r342), V.undef] 0 (H.len 43)) (fun e env' => match e with | .normal => ELp43_7 m R n (vals [0, 3, 5, 9, 10, 11, 13, 14, 54] env') k | e => k e (vals [0, 3, 5, 9, 10, 11, 13, 14, 54] env')) = Lp43_7_step m (fun r344 => k (Ex.exit (2 : Nat)) [V.bor [LT.lst [LT.int IntKind.i64]] r334, V.own [LT.int IntKind.i64] r344, V.f (F.lst [LT.int IntKind.i64] r336), V.bor [LT.lst [LT.int IntKind.i64]] r337, V.f (F.lit (Value.int IntKind.i64 i338)), V.f (F.lit (Value.int IntKind.i64 i339)), V.iref [LT.lst [LT.int IntKind.i64]] r340 n341 (0 : Nat), V.f (F.lst [LT.int IntKind.i64] r342), V.undef]) r334 r336 r337 i338 i339 r340 n341 r342 (fun r335 => ELp43_7 m R n [V.bor [LT.lst [LT.int IntKind.i64]] r334, V.own [LT.int IntKind.i64] r335, V.f (F.lst [LT.int IntKind.i64] r336), V.bor [LT.lst [LT.int IntKind.i64]] r337, V.f (F.lit (Value.int IntKind.i64 i338)), V.f (F.lit (Value.int IntKind.i64 i339)), V.iref [LT.lst [LT.int IntKind.i64]] r340 n341 (0 : Nat), V.f (F.lst [LT.int IntKind.i64] r342), V.undef] k) r335 := by kernel_rfl
theorem eqLp43_7 (m : Nat) (R : Type) (r334 : Abs.Rows) (r336 : Abs.Rows) (r337 : Abs.Rows) (i338 : Int) (i339 : Int) (r340 : Abs.Rows) (n341 : Nat) (r342 : Abs.Rows) (k : Ex → List V → Option R) : ∀ (n : Nat) (r335 : Abs.Rows), ELp43_7 m R n [V.bor [LT.lst [LT.int IntKind.i64]] r334, V.own [LT.int IntKind.i64] r335, V.f (F.lst [LT.int IntKind.i64] r336), V.bor [LT.lst [LT.int IntKind.i64]] r337, V.f (F.lit (Value.int IntKind.i64 i338)), V.f (F.lit (Value.int IntKind.i64 i339)), V.iref [LT.lst [LT.int IntKind.i64]] r340 n341 (0 : Nat), V.f (F.lst [LT.int IntKind.i64] r342), V.undef] k = Lp43_7 m (fun r344 => k (Ex.exit (2 : Nat)) [V.bor [LT.lst [LT.int IntKind.i64]] r334, V.own [LT.int IntKind.i64] r344, V.f (F.lst [LT.int IntKind.i64] r336), V.bor [LT.lst [LT.int IntKind.i64]] r337, V.f (F.lit (Value.int IntKind.i64 i338)), V.f (F.lit (Value.int IntKind.i64 i339)), V.iref [LT.lst [LT.int IntKind.i64]] r340 n341 (0 : Nat), V.f (F.lst [LT.int IntKind.i64] r342), V.undef]) r334 r336 r337 i338 i339 r340 n341 r342 n r335
  | 0, _ => rfl
  | n + 1, r335 => by
    simp only [ELp43_7, Lp43_7]
    congr 1
    funext r335
    exact eqLp43_7 m R r334 r336 r337 i338 i339 r340 n341 r342 k n r335
def L16 (m : Nat) : LTbl := addB 43 7 (brLp43_7 m (L15 m)) (L15 m)
theorem okL16 (m : Nat) : LTOk Try.prog H (L16 m) := addB_ok (okT22 m) hM (okL15 m) (l := [0, 3, 5, 9, 10, 11, 13, 14, 54]) (by kernel_rfl) (by kernel_rfl) m (fun R n vs k => ELp43_7 m R n vs k) (fun R vs k => rfl) (fun R n vs k x h => by
      simp only [ELp43_7] at h
      split at h
      · exact (stLp43_7 m n R _ _ _ _ _ _ _ _ _ k).trans h
      · cases h) fun R vs k x h => by
    unfold brLp43_7 at h
    split at h
    · exact .inl ((eqLp43_7 m R _ _ _ _ _ _ _ _ k m _).trans h)
    · exact .inr h

/-- a round of a loop of hookflash/flashref2.MixOf -/
def Lp43_12_step {R : Type} (m : Nat) (kx0 : Abs.Rows → Int → Option R) (r346 : Abs.Rows) (r348 : Abs.Rows) (r349 : Abs.Rows) (i350 : Int) (i351 : Int) (r352 : Abs.Rows) (n353 : Nat) (r354 : Abs.Rows) (r355 : Abs.Rows) (i356 : Int) (REC : Abs.Rows → Int → Option R) (r347 : Abs.Rows) (i357 : Int) : Option R :=
  bif decide (i357 < i356) then (bif decide ((0 : Int) ≤ i357 ∧ i357 < (↑(List.length r355) : Int)) then (bif decide ((0 : Int) ≤ i357 ∧ i357 < (↑(List.length r347) : Int)) then (bif decide ((0 : Int) ≤ i357 ∧ i357 < (↑(List.length r347) : Int)) then (REC (stR [LT.int IntKind.i64] r347 (Int.toNat i357) (0 : Nat) [F.lit (Value.int IntKind.i64 (IntKind.wrap IntKind.i64 (fI r347 (Int.toNat i357) (0 : Nat) + fI r355 (Int.toNat i357) (0 : Nat))))]) (IntKind.wrap IntKind.i64 (i357 + (1 : Int)))) else
  (none)) else
  (none)) else
  (none)) else
  (kx0 r347 i357)
def Lp43_12 {R : Type} (m : Nat) (kx0 : Abs.Rows → Int → Option R) (r346 : Abs.Rows) (r348 : Abs.Rows) (r349 : Abs.Rows) (i350 : Int) (i351 : Int) (r352 : Abs.Rows) (n353 : Nat) (r354 : Abs.Rows) (r355 : Abs.Rows) (i356 : Int) : Nat → Abs.Rows → Int → Option R
  | 0, _, _ => none
  | n + 1, r347, i357 => Lp43_12_step m kx0 r346 r348 r349 i350 i351 r352 n353 r354 r355 i356 (Lp43_12 m kx0 r346 r348 r349 i350 i351 r352 n353 r354 r355 i356 n) r347 i357
def ELp43_12 (m : Nat) (R : Type) : Nat → List V → (Ex → List V → Option R) → Option R
  | 0, _, _ => none
  | n + 1, vs, k => match vs with
    | [V.bor [LT.lst [LT.int IntKind.i64]] r346, V.own [LT.int IntKind.i64] r347, V.f (F.lst [LT.int IntKind.i64] r348), V.bor [LT.lst [LT.int IntKind.i64]] r349, V.f (F.lit (Value.int IntKind.i64 i350)), V.f (F.lit (Value.int IntKind.i64 i351)), V.iref [LT.lst [LT.int IntKind.i64]] r352 n353 (0 : Nat), V.f (F.lst [LT.int IntKind.i64] r354), V.undef, V.f (F.lst [LT.int IntKind.i64] r355), V.f (F.lit (Value.int IntKind.i64 i356)), V.f (F.lit (Value.int IntKind.i64 i357)), V.undef] => Lp43_12_step m (fun r358 i359 => k (Ex.exit (4 : Nat)) [V.bor [LT.lst [LT.int IntKind.i64]] r346, V.own [LT.int IntKind.i64] r358, V.f (F.lst [LT.int IntKind.i64] r348), V.bor [LT.lst [LT.int IntKind.i64]] r349, V.f (F.lit (Value.int IntKind.i64 i350)), V.f (F.lit (Value.int IntKind.i64 i351)), V.iref [LT.lst [LT.int IntKind.i64]] r352 n353 (0 : Nat), V.f (F.lst [LT.int IntKind.i64] r354), V.undef, V.f (F.lst [LT.int IntKind.i64] r355), V.f (F.lit (Value.int IntKind.i64 i356)), V.f (F.lit (Value.int IntKind.i64 i359)), V.undef]) r346 r348 r349 i350 i351 r352 n353 r354 r355 i356 (fun r347 i357 => ELp43_12 m R n [V.bor [LT.lst [LT.int IntKind.i64]] r346, V.own [LT.int IntKind.i64] r347, V.f (F.lst [LT.int IntKind.i64] r348), V.bor [LT.lst [LT.int IntKind.i64]] r349, V.f (F.lit (Value.int IntKind.i64 i350)), V.f (F.lit (Value.int IntKind.i64 i351)), V.iref [LT.lst [LT.int IntKind.i64]] r352 n353 (0 : Nat), V.f (F.lst [LT.int IntKind.i64] r354), V.undef, V.f (F.lst [LT.int IntKind.i64] r355), V.f (F.lit (Value.int IntKind.i64 i356)), V.f (F.lit (Value.int IntKind.i64 i357)), V.undef] k) r347 i357
    | _ => none
def brLp43_12 (m : Nat) (L : LTbl) (R : Type) (vs : List V) (k : Ex → List V → Option R) : Option R := match vs with
  | [V.bor [LT.lst [LT.int IntKind.i64]] r346, V.own [LT.int IntKind.i64] r347, V.f (F.lst [LT.int IntKind.i64] r348), V.bor [LT.lst [LT.int IntKind.i64]] r349, V.f (F.lit (Value.int IntKind.i64 i350)), V.f (F.lit (Value.int IntKind.i64 i351)), V.iref [LT.lst [LT.int IntKind.i64]] r352 n353 (0 : Nat), V.f (F.lst [LT.int IntKind.i64] r354), V.undef, V.f (F.lst [LT.int IntKind.i64] r355), V.f (F.lit (Value.int IntKind.i64 i356)), V.f (F.lit (Value.int IntKind.i64 i357)), V.undef] => Lp43_12 m (fun r358 i359 => k (Ex.exit (4 : Nat)) [V.bor [LT.lst [LT.int IntKind.i64]] r346, V.own [LT.int IntKind.i64] r358, V.f (F.lst [LT.int IntKind.i64] r348), V.bor [LT.lst [LT.int IntKind.i64]] r349, V.f (F.lit (Value.int IntKind.i64 i350)), V.f (F.lit (Value.int IntKind.i64 i351)), V.iref [LT.lst [LT.int IntKind.i64]] r352 n353 (0 : Nat), V.f (F.lst [LT.int IntKind.i64] r354), V.undef, V.f (F.lst [LT.int IntKind.i64] r355), V.f (F.lit (Value.int IntKind.i64 i356)), V.f (F.lit (Value.int IntKind.i64 i359)), V.undef]) r346 r348 r349 i350 i351 r352 n353 r354 r355 i356 m r347 i357
  | _ => L R 43 12 vs k
set_option maxRecDepth 100000 in
theorem stLp43_12 (m n : Nat) (R : Type) (r346 : Abs.Rows) (r347 : Abs.Rows) (r348 : Abs.Rows) (r349 : Abs.Rows) (i350 : Int) (i351 : Int) (r352 : Abs.Rows) (n353 : Nat) (r354 : Abs.Rows) (r355 : Abs.Rows) (i356 : Int) (i357 : Int) (k : Ex → List V → Option R) : codeK Try.prog H (T22 m) 43 (L16 m) 13 (loopBody Try.prog 43 12) (mkEnv [0, 3, 5, 9, 10, 11, 13, 14, 22, 23, 24, 25, 54] [V.bor [LT.lst [LT.int IntKind.i64]] r346, V.own [LT.int IntKind.i64] r347, V.f (F.lst [LT.int IntKind.i64] r348), V.bor [LT.lst [LT.int IntKind.i64]] r349, V.f (F.lit (Value.int IntKind.i64 i350)), V.f (F.lit (Value.int IntKind.i64 i351)), V.iref [LT.lst [LT.int IntKind.i64]] r352 n353 (0 : Nat), V.f (F.lst [LT.int IntKind.i64] r354), V.undef, V.f (F.lst [LT.int IntKind.i64] r355), V.f (F.lit (Value.int IntKind.i64 i356)), V.f (F.lit (Value.int IntKind.i64 i357)), V.undef] 0 (H.len 43)) (fun e env' => match e with | .normal => ELp43_12 m R n (vals [0, 3, 5, 9, 10, 11, 13, 14, 22, 23, 24, 25, 54] env') k | e => k e (vals [0, 3, 5, 9, 10, 11, 13, 14, 22, 23, 24, 25, 54] env')) = Lp43_12_step m (fun r358 i359 => k (Ex.exit (4 : Nat)) [V.bor [LT.lst [LT.int IntKind.i64]] r346, V.own [LT.int IntKind.i64] r358, V.f (F.lst [LT.int IntKind.i64] r348), V.bor [LT.lst [LT.int IntKind.i64]] r349, V.f (F.lit (Value.int IntKind.i64 i350)), V.f (F.lit (Value.int IntKind.i64 i351)), V.iref [LT.lst [LT.int IntKind.i64]] r352 n353 (0 : Nat), V.f (F.lst [LT.int IntKind.i64] r354), V.undef, V.f (F.lst [LT.int IntKind.i64] r355), V.f (F.lit (Value.int IntKind.i64 i356)), V.f (F.lit (Value.int IntKind.i64 i359)), V.undef]) r346 r348 r349 i350 i351 r352 n353 r354 r355 i356 (fun r347 i357 => ELp43_12 m R n [V.bor [LT.lst [LT.int IntKind.i64]] r346, V.own [LT.int IntKind.i64] r347, V.f (F.lst [LT.int IntKind.i64] r348), V.bor [LT.lst [LT.int IntKind.i64]] r349, V.f (F.lit (Value.int IntKind.i64 i350)), V.f (F.lit (Value.int IntKind.i64 i351)), V.iref [LT.lst [LT.int IntKind.i64]] r352 n353 (0 : Nat), V.f (F.lst [LT.int IntKind.i64] r354), V.undef, V.f (F.lst [LT.int IntKind.i64] r355), V.f (F.lit (Value.int IntKind.i64 i356)), V.f (F.lit (Value.int IntKind.i64 i357)), V.undef] k) r347 i357 := by kernel_rfl
theorem eqLp43_12 (m : Nat) (R : Type) (r346 : Abs.Rows) (r348 : Abs.Rows) (r349 : Abs.Rows) (i350 : Int) (i351 : Int) (r352 : Abs.Rows) (n353 : Nat) (r354 : Abs.Rows) (r355 : Abs.Rows) (i356 : Int) (k : Ex → List V → Option R) : ∀ (n : Nat) (r347 : Abs.Rows) (i357 : Int), ELp43_12 m R n [V.bor [LT.lst [LT.int IntKind.i64]] r346, V.own [LT.int IntKind.i64] r347, V.f (F.lst [LT.int IntKind.i64] r348), V.bor [LT.lst [LT.int IntKind.i64]] r349, V.f (F.lit (Value.int IntKind.i64 i350)), V.f (F.lit (Value.int IntKind.i64 i351)), V.iref [LT.lst [LT.int IntKind.i64]] r352 n353 (0 : Nat), V.f (F.lst [LT.int IntKind.i64] r354), V.undef, V.f (F.lst [LT.int IntKind.i64] r355), V.f (F.lit (Value.int IntKind.i64 i356)), V.f (F.lit (Value.int IntKind.i64 i357)), V.undef] k = Lp43_12 m (fun r358 i359 => k (Ex.exit (4 : Nat)) [V.bor [LT.lst [LT.int IntKind.i64]] r346, V.own [LT.int IntKind.i64] r358, V.f (F.lst [LT.int IntKind.i64] r348), V.bor [LT.lst [LT.int IntKind.i64]] r349, V.f (F.lit (Value.int IntKind.i64 i350)), V.f (F.lit (Value.int IntKind.i64 i351)), V.iref [LT.lst [LT.int IntKind.i64]] r352 n353 (0 : Nat), V.f (F.lst [LT.int IntKind.i64] r354), V.undef, V.f (F.lst [LT.int IntKind.i64] r355), V.f (F.lit (Value.int IntKind.i64 i356)), V.f (F.lit (Value.int IntKind.i64 i359)), V.undef]) r346 r348 r349 i350 i351 r352 n353 r354 r355 i356 n r347 i357
  | 0, _, _ => rfl
  | n + 1, r347, i357 => by
    simp only [ELp43_12, Lp43_12]
    congr 1
    funext r347 i357
    exact eqLp43_12 m R r346 r348 r349 i350 i351 r352 n353 r354 r355 i356 k n r347 i357
def L17 (m : Nat) : LTbl := addB 43 12 (brLp43_12 m (L16 m)) (L16 m)
theorem okL17 (m : Nat) : LTOk Try.prog H (L17 m) := addB_ok (okT22 m) hM (okL16 m) (l := [0, 3, 5, 9, 10, 11, 13, 14, 22, 23, 24, 25, 54]) (by kernel_rfl) (by kernel_rfl) m (fun R n vs k => ELp43_12 m R n vs k) (fun R vs k => rfl) (fun R n vs k x h => by
      simp only [ELp43_12] at h
      split at h
      · exact (stLp43_12 m n R _ _ _ _ _ _ _ _ _ _ _ _ k).trans h
      · cases h) fun R vs k x h => by
    unfold brLp43_12 at h
    split at h
    · exact .inl ((eqLp43_12 m R _ _ _ _ _ _ _ _ _ _ k m _ _).trans h)
    · exact .inr h

/-- a round of a loop of hookflash/flashref2.MixOf -/
def Lp43_3_step {R : Type} (m : Nat) (kx0 : Abs.Rows → Int → Option R) (r329 : Abs.Rows) (r331 : Abs.Rows) (i332 : Int) (REC : Abs.Rows → Int → Option R) (r330 : Abs.Rows) (i333 : Int) : Option R :=
  bif decide (i333 < i332) then (bif decide ((0 : Int) ≤ i333 ∧ i333 < (↑(List.length r331) : Int)) then (Lp43_7 m (fun r345 => Lp43_12 m (fun r360 i361 => REC r360 (IntKind.wrap IntKind.i64 (i333 + (1 : Int)))) r329 (fR r331 (Int.toNat i333) (0 : Nat)) r331 i332 i333 r331 (Int.toNat i333) (fR r331 (Int.toNat i333) (0 : Nat)) (fR r331 (Int.toNat i333) (0 : Nat)) ((↑(List.length (fR r331 (Int.toNat i333) (0 : Nat))) : Int)) m r345 ((0 : Int))) r329 (fR r331 (Int.toNat i333) (0 : Nat)) r331 i332 i333 r331 (Int.toNat i333) (fR r331 (Int.toNat i333) (0 : Nat)) m r330) else
  (none)) else
  (kx0 r330 i333)
def Lp43_3 {R : Type} (m : Nat) (kx0 : Abs.Rows → Int → Option R) (r329 : Abs.Rows) (r331 : Abs.Rows) (i332 : Int) : Nat → Abs.Rows → Int → Option R
  | 0, _, _ => none
  | n + 1, r330, i333 => Lp43_3_step m kx0 r329 r331 i332 (Lp43_3 m kx0 r329 r331 i332 n) r330 i333
def ELp43_3 (m : Nat) (R : Type) : Nat → List V → (Ex → List V → Option R) → Option R
  | 0, _, _ => none
  | n + 1, vs, k => match vs with
    | [V.bor [LT.lst [LT.int IntKind.i64]] r329, V.own [LT.int IntKind.i64] r330, V.bor [LT.lst [LT.int IntKind.i64]] r331, V.f (F.lit (Value.int IntKind.i64 i332)), V.f (F.lit (Value.int IntKind.i64 i333)), V.undef] => Lp43_3_step m (fun r362 i363 => k (Ex.exit (0 : Nat)) [V.bor [LT.lst [LT.int IntKind.i64]] r329, V.own [LT.int IntKind.i64] r362, V.bor [LT.lst [LT.int IntKind.i64]] r331, V.f (F.lit (Value.int IntKind.i64 i332)), V.f (F.lit (Value.int IntKind.i64 i363)), V.undef]) r329 r331 i332 (fun r330 i333 => ELp43_3 m R n [V.bor [LT.lst [LT.int IntKind.i64]] r329, V.own [LT.int IntKind.i64] r330, V.bor [LT.lst [LT.int IntKind.i64]] r331, V.f (F.lit (Value.int IntKind.i64 i332)), V.f (F.lit (Value.int IntKind.i64 i333)), V.undef] k) r330 i333
    | _ => none
def brLp43_3 (m : Nat) (L : LTbl) (R : Type) (vs : List V) (k : Ex → List V → Option R) : Option R := match vs with
  | [V.bor [LT.lst [LT.int IntKind.i64]] r329, V.own [LT.int IntKind.i64] r330, V.bor [LT.lst [LT.int IntKind.i64]] r331, V.f (F.lit (Value.int IntKind.i64 i332)), V.f (F.lit (Value.int IntKind.i64 i333)), V.undef] => Lp43_3 m (fun r362 i363 => k (Ex.exit (0 : Nat)) [V.bor [LT.lst [LT.int IntKind.i64]] r329, V.own [LT.int IntKind.i64] r362, V.bor [LT.lst [LT.int IntKind.i64]] r331, V.f (F.lit (Value.int IntKind.i64 i332)), V.f (F.lit (Value.int IntKind.i64 i363)), V.undef]) r329 r331 i332 m r330 i333
  | _ => L R 43 3 vs k
set_option maxRecDepth 100000 in
theorem stLp43_3 (m n : Nat) (R : Type) (r329 : Abs.Rows) (r330 : Abs.Rows) (r331 : Abs.Rows) (i332 : Int) (i333 : Int) (k : Ex → List V → Option R) : codeK Try.prog H (T22 m) 43 (L17 m) 4 (loopBody Try.prog 43 3) (mkEnv [0, 3, 9, 10, 11, 54] [V.bor [LT.lst [LT.int IntKind.i64]] r329, V.own [LT.int IntKind.i64] r330, V.bor [LT.lst [LT.int IntKind.i64]] r331, V.f (F.lit (Value.int IntKind.i64 i332)), V.f (F.lit (Value.int IntKind.i64 i333)), V.undef] 0 (H.len 43)) (fun e env' => match e with | .normal => ELp43_3 m R n (vals [0, 3, 9, 10, 11, 54] env') k | e => k e (vals [0, 3, 9, 10, 11, 54] env')) = Lp43_3_step m (fun r362 i363 => k (Ex.exit (0 : Nat)) [V.bor [LT.lst [LT.int IntKind.i64]] r329, V.own [LT.int IntKind.i64] r362, V.bor [LT.lst [LT.int IntKind.i64]] r331, V.f (F.lit (Value.int IntKind.i64 i332)), V.f (F.lit (Value.int IntKind.i64 i363)), V.undef]) r329 r331 i332 (fun r330 i333 => ELp43_3 m R n [V.bor [LT.lst [LT.int IntKind.i64]] r329, V.own [LT.int IntKind.i64] r330, V.bor [LT.lst [LT.int IntKind.i64]] r331, V.f (F.lit (Value.int IntKind.i64 i332)), V.f (F.lit (Value.int IntKind.i64 i333)), V.undef] k) r330 i333 := by kernel_rfl
theorem eqLp43_3 (m : Nat) (R : Type) (r329 : Abs.Rows) (r331 : Abs.Rows) (i332 : Int) (k : Ex → List V → Option R) : ∀ (n : Nat) (r330 : Abs.Rows) (i333 : Int), ELp43_3 m R n [V.bor [LT.lst [LT.int IntKind.i64]] r329, V.own [LT.int IntKind.i64] r330, V.bor [LT.lst [LT.int IntKind.i64]] r331, V.f (F.lit (Value.int IntKind.i64 i332)), V.f (F.lit (Value.int IntKind.i64 i333)), V.undef] k = Lp43_3 m (fun r362 i363 => k (Ex.exit (0 : Nat)) [V.bor [LT.lst [LT.int IntKind.i64]] r329, V.own [LT.int IntKind.i64] r362, V.bor [LT.lst [LT.int IntKind.i64]] r331, V.f (F.lit (Value.int IntKind.i64 i332)), V.f (F.lit (Value.int IntKind.i64 i363)), V.undef]) r329 r331 i332 n r330 i333
  | 0, _, _ => rfl
  | n + 1, r330, i333 => by
    simp only [ELp43_3, Lp43_3]
    congr 1
    funext r330 i333
    exact eqLp43_3 m R r329 r331 i332 k n r330 i333
def L18 (m : Nat) : LTbl := addB 43 3 (brLp43_3 m (L17 m)) (L17 m)
theorem okL18 (m : Nat) : LTOk Try.prog H (L18 m) := addB_ok (okT22 m) hM (okL17 m) (l := [0, 3, 9, 10, 11, 54]) (by kernel_rfl) (by kernel_rfl) m (fun R n vs k => ELp43_3 m R n vs k) (fun R vs k => rfl) (fun R n vs k x h => by
      simp only [ELp43_3] at h
      split at h
      · exact (stLp43_3 m n R _ _ _ _ _ k).trans h
      · cases h) fun R vs k x h => by
    unfold brLp43_3 at h
    split at h
    · exact .inl ((eqLp43_3 m R _ _ _ k m _ _).trans h)
    · exact .inr h

/-- hookflash/flashref2.cut -/
def Fn77 {R : Type} (m : Nat) : Int → (Int → Option R) → Option R := match m with
  | 0 => fun _ _ => none
  | m + 1 => fun i369 k =>
  k (if (32767 : Int) < if (-32768 : Int) > i369 then (-32768 : Int) else i369 then (32767 : Int) else if (-32768 : Int) > i369 then (-32768 : Int) else i369)
def brFn77 (m : Nat) (T : Tbl) (R : Type) (vs : List V) (k : V → List V → Option R) : Option R := match vs with
  | [V.f (F.lit (Value.int IntKind.i64 i369))] => Fn77 m i369 (fun i370 => k (V.f (F.lit (Value.int IntKind.i64 i370))) [V.undef])
  | _ => T R 77 vs k
set_option maxRecDepth 100000 in
theorem evFn77 (m : Nat) (R : Type) (i369 : Int) (k : V → List V → Option R) : runK Try.prog H (T22 m) (L18 m) 77 [V.f (F.lit (Value.int IntKind.i64 i369))] k = Fn77 (m + 1) i369 (fun i370 => k (V.f (F.lit (Value.int IntKind.i64 i370))) [V.undef]) := by kernel_rfl
def T23 (m : Nat) : Tbl := addT 77 (brFn77 m (T22 m)) (T22 m)
theorem okT23 (m : Nat) : TblOk Try.prog (T23 m) := addT_ok (okT22 m) fun R vs k x h => by
  unfold brFn77 at h
  split at h
  · cases m with
    | zero => cases h
    | succ m => exact runK_some (okT22 m) hM (okL18 m) ((evFn77 m R _ k).trans h)
  · exact okT22 m R 77 _ k x h

/-- a round of a loop of hookflash/flashref2.MixOf -/
def Lp43_20_step {R : Type} (m : Nat) (kx0 : Abs.Rows → Int → Option R) (i367 : Int) (REC : Abs.Rows → Int → Option R) (r366 : Abs.Rows) (i368 : Int) : Option R :=
  bif decide (i368 < i367) then (bif decide ((0 : Int) ≤ i368 ∧ i368 < (↑(List.length r366) : Int)) then (Fn77 m (fI r366 (Int.toNat i368) (0 : Nat)) (fun i371 => bif decide ((0 : Int) ≤ i368 ∧ i368 < (↑(List.length r366) : Int)) then (REC (stR [LT.int IntKind.i64] r366 (Int.toNat i368) (0 : Nat) [F.lit (Value.int IntKind.i64 i371)]) (IntKind.wrap IntKind.i64 (i368 + (1 : Int)))) else
  (none))) else
  (none)) else
  (kx0 r366 i368)
def Lp43_20 {R : Type} (m : Nat) (kx0 : Abs.Rows → Int → Option R) (i367 : Int) : Nat → Abs.Rows → Int → Option R
  | 0, _, _ => none
  | n + 1, r366, i368 => Lp43_20_step m kx0 i367 (Lp43_20 m kx0 i367 n) r366 i368
def ELp43_20 (m : Nat) (R : Type) : Nat → List V → (Ex → List V → Option R) → Option R
  | 0, _, _ => none
  | n + 1, vs, k => match vs with
    | [V.own [LT.int IntKind.i64] r366, V.undef, V.f (F.lit (Value.int IntKind.i64 i367)), V.f (F.lit (Value.int IntKind.i64 i368)), V.undef] => Lp43_20_step m (fun r372 i373 => k (Ex.exit (6 : Nat)) [V.own [LT.int IntKind.i64] r372, V.undef, V.f (F.lit (Value.int IntKind.i64 i367)), V.f (F.lit (Value.int IntKind.i64 i373)), V.undef]) i367 (fun r366 i368 => ELp43_20 m R n [V.own [LT.int IntKind.i64] r366, V.undef, V.f (F.lit (Value.int IntKind.i64 i367)), V.f (F.lit (Value.int IntKind.i64 i368)), V.undef] k) r366 i368
    | _ => none
def brLp43_20 (m : Nat) (L : LTbl) (R : Type) (vs : List V) (k : Ex → List V → Option R) : Option R := match vs with
  | [V.own [LT.int IntKind.i64] r366, V.undef, V.f (F.lit (Value.int IntKind.i64 i367)), V.f (F.lit (Value.int IntKind.i64 i368)), V.undef] => Lp43_20 m (fun r372 i373 => k (Ex.exit (6 : Nat)) [V.own [LT.int IntKind.i64] r372, V.undef, V.f (F.lit (Value.int IntKind.i64 i367)), V.f (F.lit (Value.int IntKind.i64 i373)), V.undef]) i367 m r366 i368
  | _ => L R 43 20 vs k
set_option maxRecDepth 100000 in
theorem stLp43_20 (m n : Nat) (R : Type) (r366 : Abs.Rows) (i367 : Int) (i368 : Int) (k : Ex → List V → Option R) : codeK Try.prog H (T23 m) 43 (L18 m) 21 (loopBody Try.prog 43 20) (mkEnv [3, 22, 40, 41, 54] [V.own [LT.int IntKind.i64] r366, V.undef, V.f (F.lit (Value.int IntKind.i64 i367)), V.f (F.lit (Value.int IntKind.i64 i368)), V.undef] 0 (H.len 43)) (fun e env' => match e with | .normal => ELp43_20 m R n (vals [3, 22, 40, 41, 54] env') k | e => k e (vals [3, 22, 40, 41, 54] env')) = Lp43_20_step m (fun r372 i373 => k (Ex.exit (6 : Nat)) [V.own [LT.int IntKind.i64] r372, V.undef, V.f (F.lit (Value.int IntKind.i64 i367)), V.f (F.lit (Value.int IntKind.i64 i373)), V.undef]) i367 (fun r366 i368 => ELp43_20 m R n [V.own [LT.int IntKind.i64] r366, V.undef, V.f (F.lit (Value.int IntKind.i64 i367)), V.f (F.lit (Value.int IntKind.i64 i368)), V.undef] k) r366 i368 := by kernel_rfl
theorem eqLp43_20 (m : Nat) (R : Type) (i367 : Int) (k : Ex → List V → Option R) : ∀ (n : Nat) (r366 : Abs.Rows) (i368 : Int), ELp43_20 m R n [V.own [LT.int IntKind.i64] r366, V.undef, V.f (F.lit (Value.int IntKind.i64 i367)), V.f (F.lit (Value.int IntKind.i64 i368)), V.undef] k = Lp43_20 m (fun r372 i373 => k (Ex.exit (6 : Nat)) [V.own [LT.int IntKind.i64] r372, V.undef, V.f (F.lit (Value.int IntKind.i64 i367)), V.f (F.lit (Value.int IntKind.i64 i373)), V.undef]) i367 n r366 i368
  | 0, _, _ => rfl
  | n + 1, r366, i368 => by
    simp only [ELp43_20, Lp43_20]
    congr 1
    funext r366 i368
    exact eqLp43_20 m R i367 k n r366 i368
def L19 (m : Nat) : LTbl := addB 43 20 (brLp43_20 m (L18 m)) (L18 m)
theorem okL19 (m : Nat) : LTOk Try.prog H (L19 m) := addB_ok (okT23 m) hM (okL18 m) (l := [3, 22, 40, 41, 54]) (by kernel_rfl) (by kernel_rfl) m (fun R n vs k => ELp43_20 m R n vs k) (fun R vs k => rfl) (fun R n vs k x h => by
      simp only [ELp43_20] at h
      split at h
      · exact (stLp43_20 m n R _ _ _ k).trans h
      · cases h) fun R vs k x h => by
    unfold brLp43_20 at h
    split at h
    · exact .inl ((eqLp43_20 m R _ k m _ _).trans h)
    · exact .inr h

/-- hookflash/flashref2.MixOf -/
def Fn43 {R : Type} (m : Nat) : Abs.Rows → (Abs.Rows → Option R) → Option R := match m with
  | 0 => fun _ _ => none
  | m + 1 => fun r328 k =>
  Lp43_3 m (fun r364 i365 => Lp43_20 m (fun r374 i375 => k r374) ((↑(List.length r364) : Int)) m r364 ((0 : Int))) r328 r328 ((↑(List.length r328) : Int)) m rows0 ((0 : Int))
def brFn43 (m : Nat) (T : Tbl) (R : Type) (vs : List V) (k : V → List V → Option R) : Option R := match vs with
  | [V.bor [LT.lst [LT.int IntKind.i64]] r328] => Fn43 m r328 (fun r376 => k (V.own [LT.int IntKind.i64] r376) [V.undef])
  | _ => T R 43 vs k
set_option maxRecDepth 100000 in
theorem evFn43 (m : Nat) (R : Type) (r328 : Abs.Rows) (k : V → List V → Option R) : runK Try.prog H (T23 m) (L19 m) 43 [V.bor [LT.lst [LT.int IntKind.i64]] r328] k = Fn43 (m + 1) r328 (fun r376 => k (V.own [LT.int IntKind.i64] r376) [V.undef]) := by kernel_rfl
def T24 (m : Nat) : Tbl := addT 43 (brFn43 m (T23 m)) (T23 m)
theorem okT24 (m : Nat) : TblOk Try.prog (T24 m) := addT_ok (okT23 m) fun R vs k x h => by
  unfold brFn43 at h
  split at h
  · cases m with
    | zero => cases h
    | succ m => exact runK_some (okT23 m) hM (okL19 m) ((evFn43 m R _ k).trans h)
  · exact okT23 m R 43 _ k x h

/-- a round of a loop of slices.IndexFunc[[]int,int] -/
def Lp94_2v1_step {R : Type} (m : Nat) (kx0 : Int → Int → Option R) (kx1 : Int → Option R) (r396 : Abs.Rows) (i397 : Int) (i398 : Int) (REC : Int → Option R) (i399 : Int) : Option R :=
  bif decide (i399 < i398) then (bif decide ((0 : Int) ≤ i399 ∧ i399 < (↑(List.length r396) : Int)) then (Fn70 m (fI r396 (Int.toNat i399) (0 : Nat)) (fun b400 => bif b400 then (kx0 i399 i399) else
  (REC (IntKind.wrap IntKind.i64 (i399 + (1 : Int)))))) else
  (none)) else
  (kx1 i399)
def Lp94_2v1 {R : Type} (m : Nat) (kx0 : Int → Int → Option R) (kx1 : Int → Option R) (r396 : Abs.Rows) (i397 : Int) (i398 : Int) : Nat → Int → Option R
  | 0, _ => none
  | n + 1, i399 => Lp94_2v1_step m kx0 kx1 r396 i397 i398 (Lp94_2v1 m kx0 kx1 r396 i397 i398 n) i399
def ELp94_2v1 (m : Nat) (R : Type) : Nat → List V → (Ex → List V → Option R) → Option R
  | 0, _, _ => none
  | n + 1, vs, k => match vs with
    | [V.bor [LT.int IntKind.i64] r396, V.clos (70 : Nat) [], V.f (F.lit (Value.int IntKind.i64 i397)), V.f (F.lit (Value.int IntKind.i64 i398)), V.f (F.lit (Value.int IntKind.i64 i399)), V.undef, V.undef] => Lp94_2v1_step m (fun i401 i402 => k Ex.ret [V.bor [LT.int IntKind.i64] r396, V.clos (70 : Nat) [], V.f (F.lit (Value.int IntKind.i64 i401)), V.f (F.lit (Value.int IntKind.i64 i398)), V.f (F.lit (Value.int IntKind.i64 i402)), V.undef, V.undef]) (fun i403 => k (Ex.exit (0 : Nat)) [V.bor [LT.int IntKind.i64] r396, V.clos (70 : Nat) [], V.f (F.lit (Value.int IntKind.i64 i397)), V.f (F.lit (Value.int IntKind.i64 i398)), V.f (F.lit (Value.int IntKind.i64 i403)), V.undef, V.undef]) r396 i397 i398 (fun i399 => ELp94_2v1 m R n [V.bor [LT.int IntKind.i64] r396, V.clos (70 : Nat) [], V.f (F.lit (Value.int IntKind.i64 i397)), V.f (F.lit (Value.int IntKind.i64 i398)), V.f (F.lit (Value.int IntKind.i64 i399)), V.undef, V.undef] k) i399
    | _ => none
def brLp94_2v1 (m : Nat) (L : LTbl) (R : Type) (vs : List V) (k : Ex → List V → Option R) : Option R := match vs with
  | [V.bor [LT.int IntKind.i64] r396, V.clos (70 : Nat) [], V.f (F.lit (Value.int IntKind.i64 i397)), V.f (F.lit (Value.int IntKind.i64 i398)), V.f (F.lit (Value.int IntKind.i64 i399)), V.undef, V.undef] => Lp94_2v1 m (fun i401 i402 => k Ex.ret [V.bor [LT.int IntKind.i64] r396, V.clos (70 : Nat) [], V.f (F.lit (Value.int IntKind.i64 i401)), V.f (F.lit (Value.int IntKind.i64 i398)), V.f (F.lit (Value.int IntKind.i64 i402)), V.undef, V.undef]) (fun i403 => k (Ex.exit (0 : Nat)) [V.bor [LT.int IntKind.i64] r396, V.clos (70 : Nat) [], V.f (F.lit (Value.int IntKind.i64 i397)), V.f (F.lit (Value.int IntKind.i64 i398)), V.f (F.lit (Value.int IntKind.i64 i403)), V.undef, V.undef]) r396 i397 i398 m i399
  | _ => L R 94 2 vs k
set_option maxRecDepth 100000 in
theorem stLp94_2v1 (m n : Nat) (R : Type) (r396 : Abs.Rows) (i397 : Int) (i398 : Int) (i399 : Int) (k : Ex → List V → Option R) : codeK Try.prog H (T24 m) 94 (L19 m) 3 (loopBody Try.prog 94 2) (mkEnv [0, 1, 4, 7, 8, 19, 20] [V.bor [LT.int IntKind.i64] r396, V.clos (70 : Nat) [], V.f (F.lit (Value.int IntKind.i64 i397)), V.f (F.lit (Value.int IntKind.i64 i398)), V.f (F.lit (Value.int IntKind.i64 i399)), V.undef, V.undef] 0 (H.len 94)) (fun e env' => match e with | .normal => ELp94_2v1 m R n (vals [0, 1, 4, 7, 8, 19, 20] env') k | e => k e (vals [0, 1, 4, 7, 8, 19, 20] env')) = Lp94_2v1_step m (fun i401 i402 => k Ex.ret [V.bor [LT.int IntKind.i64] r396, V.clos (70 : Nat) [], V.f (F.lit (Value.int IntKind.i64 i401)), V.f (F.lit (Value.int IntKind.i64 i398)), V.f (F.lit (Value.int IntKind.i64 i402)), V.undef, V.undef]) (fun i403 => k (Ex.exit (0 : Nat)) [V.bor [LT.int IntKind.i64] r396, V.clos (70 : Nat) [], V.f (F.lit (Value.int IntKind.i64 i397)), V.f (F.lit (Value.int IntKind.i64 i398)), V.f (F.lit (Value.int IntKind.i64 i403)), V.undef, V.undef]) r396 i397 i398 (fun i399 => ELp94_2v1 m R n [V.bor [LT.int IntKind.i64] r396, V.clos (70 : Nat) [], V.f (F.lit (Value.int IntKind.i64 i397)), V.f (F.lit (Value.int IntKind.i64 i398)), V.f (F.lit (Value.int IntKind.i64 i399)), V.undef, V.undef] k) i399 := by kernel_rfl
theorem eqLp94_2v1 (m : Nat) (R : Type) (r396 : Abs.Rows) (i397 : Int) (i398 : Int) (k : Ex → List V → Option R) : ∀ (n : Nat) (i399 : Int), ELp94_2v1 m R n [V.bor [LT.int IntKind.i64] r396, V.clos (70 : Nat) [], V.f (F.lit (Value.int IntKind.i64 i397)), V.f (F.lit (Value.int IntKind.i64 i398)), V.f (F.lit (Value.int IntKind.i64 i399)), V.undef, V.undef] k = Lp94_2v1 m (fun i401 i402 => k Ex.ret [V.bor [LT.int IntKind.i64] r396, V.clos (70 : Nat) [], V.f (F.lit (Value.int IntKind.i64 i401)), V.f (F.lit (Value.int IntKind.i64 i398)), V.f (F.lit (Value.int IntKind.i64 i402)), V.undef, V.undef]) (fun i403 => k (Ex.exit (0 : Nat)) [V.bor [LT.int IntKind.i64] r396, V.clos (70 : Nat) [], V.f (F.lit (Value.int IntKind.i64 i397)), V.f (F.lit (Value.int IntKind.i64 i398)), V.f (F.lit (Value.int IntKind.i64 i403)), V.undef, V.undef]) r396 i397 i398 n i399
  | 0, _ => rfl
  | n + 1, i399 => by
    simp only [ELp94_2v1, Lp94_2v1]
    congr 1
    funext i399
    exact eqLp94_2v1 m R r396 i397 i398 k n i399
def L20 (m : Nat) : LTbl := addB 94 2 (brLp94_2v1 m (L19 m)) (L19 m)
theorem okL20 (m : Nat) : LTOk Try.prog H (L20 m) := addB_ok (okT24 m) hM (okL19 m) (l := [0, 1, 4, 7, 8, 19, 20]) (by kernel_rfl) (by kernel_rfl) m (fun R n vs k => ELp94_2v1 m R n vs k) (fun R vs k => rfl) (fun R n vs k x h => by
      simp only [ELp94_2v1] at h
      split at h
      · exact (stLp94_2v1 m n R _ _ _ _ k).trans h
      · cases h) fun R vs k x h => by
    unfold brLp94_2v1 at h
    split at h
    · exact .inl ((eqLp94_2v1 m R _ _ _ k m _).trans h)
    · exact .inr h

/-- slices.IndexFunc[[]int,int] -/
def Fn94v1 {R : Type} (m : Nat) : Abs.Rows → (Int → Option R) → Option R := match m with
  | 0 => fun _ _ => none
  | m + 1 => fun r395 k =>
  Lp94_2v1 m (fun i404 i405 => k i404) (fun i406 => k ((-1 : Int))) r395 ((0 : Int)) ((↑(List.length r395) : Int)) m ((0 : Int))
def brFn94v1 (m : Nat) (T : Tbl) (R : Type) (vs : List V) (k : V → List V → Option R) : Option R := match vs with
  | [V.bor [LT.int IntKind.i64] r395, V.clos (70 : Nat) []] => Fn94v1 m r395 (fun i407 => k (V.f (F.lit (Value.int IntKind.i64 i407))) [V.undef, V.undef])
  | _ => T R 94 vs k
set_option maxRecDepth 100000 in
theorem evFn94v1 (m : Nat) (R : Type) (r395 : Abs.Rows) (k : V → List V → Option R) : runK Try.prog H (T24 m) (L20 m) 94 [V.bor [LT.int IntKind.i64] r395, V.clos (70 : Nat) []] k = Fn94v1 (m + 1) r395 (fun i407 => k (V.f (F.lit (Value.int IntKind.i64 i407))) [V.undef, V.undef]) := by kernel_rfl
def T25 (m : Nat) : Tbl := addT 94 (brFn94v1 m (T24 m)) (T24 m)
theorem okT25 (m : Nat) : TblOk Try.prog (T25 m) := addT_ok (okT24 m) fun R vs k x h => by
  unfold brFn94v1 at h
  split at h
  · cases m with
    | zero => cases h
    | succ m => exact runK_some (okT24 m) hM (okL20 m) ((evFn94v1 m R _ k).trans h)
  · exact okT24 m R 94 _ k x h

/-- slices.ContainsFunc[[]int,int] -/
def Fn69v1 {R : Type} (m : Nat) : Abs.Rows → (Bool → Option R) → Option R := match m with
  | 0 => fun _ _ => none
  | m + 1 => fun r394 k =>
  Fn94v1 m r394 (fun i408 => k (decide (i408 ≥ (0 : Int))))
def brFn69v1 (m : Nat) (T : Tbl) (R : Type) (vs : List V) (k : V → List V → Option R) : Option R := match vs with
  | [V.bor [LT.int IntKind.i64] r394, V.clos (70 : Nat) []] => Fn69v1 m r394 (fun b409 => k (V.f (F.lit (Value.bool b409))) [V.undef, V.undef])
  | _ => T R 69 vs k
set_option maxRecDepth 100000 in
theorem evFn69v1 (m : Nat) (R : Type) (r394 : Abs.Rows) (k : V → List V → Option R) : runK Try.prog H (T25 m) (L20 m) 69 [V.bor [LT.int IntKind.i64] r394, V.clos (70 : Nat) []] k = Fn69v1 (m + 1) r394 (fun b409 => k (V.f (F.lit (Value.bool b409))) [V.undef, V.undef]) := by kernel_rfl
def T26 (m : Nat) : Tbl := addT 69 (brFn69v1 m (T25 m)) (T25 m)
theorem okT26 (m : Nat) : TblOk Try.prog (T26 m) := addT_ok (okT25 m) fun R vs k x h => by
  unfold brFn69v1 at h
  split at h
  · cases m with
    | zero => cases h
    | succ m => exact runK_some (okT25 m) hM (okL20 m) ((evFn69v1 m R _ k).trans h)
  · exact okT25 m R 69 _ k x h

/-- hookflash/flashref2.SamplesFault -/
def Fn28v1 {R : Type} (m : Nat) : Abs.Rows → (Int → Option R) → Option R := match m with
  | 0 => fun _ _ => none
  | m + 1 => fun r393 k =>
  bif decide ((↑(List.length r393) : Int) > (20000 : Int)) then (k ((2 : Int))) else
  (Fn69v1 m r393 (fun b410 => bif b410 then (k ((1 : Int))) else
  (k ((0 : Int)))))
def brFn28v1 (m : Nat) (T : Tbl) (R : Type) (vs : List V) (k : V → List V → Option R) : Option R := match vs with
  | [V.bor [LT.int IntKind.i64] r393] => Fn28v1 m r393 (fun i411 => k (V.f (F.lit (Value.int IntKind.i64 i411))) [V.undef])
  | _ => T R 28 vs k
set_option maxRecDepth 100000 in
theorem evFn28v1 (m : Nat) (R : Type) (r393 : Abs.Rows) (k : V → List V → Option R) : runK Try.prog H (T26 m) (L20 m) 28 [V.bor [LT.int IntKind.i64] r393] k = Fn28v1 (m + 1) r393 (fun i411 => k (V.f (F.lit (Value.int IntKind.i64 i411))) [V.undef]) := by kernel_rfl
def T27 (m : Nat) : Tbl := addT 28 (brFn28v1 m (T26 m)) (T26 m)
theorem okT27 (m : Nat) : TblOk Try.prog (T27 m) := addT_ok (okT26 m) fun R vs k x h => by
  unfold brFn28v1 at h
  split at h
  · cases m with
    | zero => cases h
    | succ m => exact runK_some (okT26 m) hM (okL20 m) ((evFn28v1 m R _ k).trans h)
  · exact okT26 m R 28 _ k x h

/-- hookflash/flashlaw2.when -/
def Fn24 {R : Type} (m : Nat) : Bool → Int → (Int → Option R) → Option R := match m with
  | 0 => fun _ _ _ => none
  | m + 1 => fun b413 i414 k =>
  bif b413 then (k i414) else
  (k ((0 : Int)))
def brFn24 (m : Nat) (T : Tbl) (R : Type) (vs : List V) (k : V → List V → Option R) : Option R := match vs with
  | [V.f (F.lit (Value.bool b413)), V.f (F.lit (Value.int IntKind.i64 i414))] => Fn24 m b413 i414 (fun i415 => k (V.f (F.lit (Value.int IntKind.i64 i415))) [V.undef, V.undef])
  | _ => T R 24 vs k
set_option maxRecDepth 100000 in
theorem evFn24 (m : Nat) (R : Type) (b413 : Bool) (i414 : Int) (k : V → List V → Option R) : runK Try.prog H (T27 m) (L20 m) 24 [V.f (F.lit (Value.bool b413)), V.f (F.lit (Value.int IntKind.i64 i414))] k = Fn24 (m + 1) b413 i414 (fun i415 => k (V.f (F.lit (Value.int IntKind.i64 i415))) [V.undef, V.undef]) := by kernel_rfl
def T28 (m : Nat) : Tbl := addT 24 (brFn24 m (T27 m)) (T27 m)
theorem okT28 (m : Nat) : TblOk Try.prog (T28 m) := addT_ok (okT27 m) fun R vs k x h => by
  unfold brFn24 at h
  split at h
  · cases m with
    | zero => cases h
    | succ m => exact runK_some (okT27 m) hM (okL20 m) ((evFn24 m R _ _ k).trans h)
  · exact okT27 m R 24 _ k x h

/-- hookflash/flashref2.floor -/
def Fn75 {R : Type} (m : Nat) : Int → Int → (Int → Option R) → Option R := match m with
  | 0 => fun _ _ _ => none
  | m + 1 => fun i462 i463 k =>
  bif decide (i463 ≠ (0 : Int)) then (bif decide (Int.tmod i462 i463 < (0 : Int)) then (bif decide (i463 ≠ (0 : Int)) then (k (IntKind.wrap IntKind.i64 (IntKind.wrap IntKind.i64 (Int.tdiv i462 i463) - (1 : Int)))) else
  (none)) else
  (bif decide (i463 ≠ (0 : Int)) then (k (IntKind.wrap IntKind.i64 (Int.tdiv i462 i463))) else
  (none))) else
  (none)
def brFn75 (m : Nat) (T : Tbl) (R : Type) (vs : List V) (k : V → List V → Option R) : Option R := match vs with
  | [V.f (F.lit (Value.int IntKind.i64 i462)), V.f (F.lit (Value.int IntKind.i64 i463))] => Fn75 m i462 i463 (fun i464 => k (V.f (F.lit (Value.int IntKind.i64 i464))) [V.undef, V.undef])
  | _ => T R 75 vs k
set_option maxRecDepth 100000 in
theorem evFn75 (m : Nat) (R : Type) (i462 : Int) (i463 : Int) (k : V → List V → Option R) : runK Try.prog H (T28 m) (L20 m) 75 [V.f (F.lit (Value.int IntKind.i64 i462)), V.f (F.lit (Value.int IntKind.i64 i463))] k = Fn75 (m + 1) i462 i463 (fun i464 => k (V.f (F.lit (Value.int IntKind.i64 i464))) [V.undef, V.undef]) := by kernel_rfl
def T29 (m : Nat) : Tbl := addT 75 (brFn75 m (T28 m)) (T28 m)
theorem okT29 (m : Nat) : TblOk Try.prog (T29 m) := addT_ok (okT28 m) fun R vs k x h => by
  unfold brFn75 at h
  split at h
  · cases m with
    | zero => cases h
    | succ m => exact runK_some (okT28 m) hM (okL20 m) ((evFn75 m R _ _ k).trans h)
  · exact okT28 m R 75 _ k x h

/-- a round of a loop of hookflash/flashref2.LouderOf -/
def Lp44_3_step {R : Type} (m : Nat) (kx0 : Abs.Rows → Int → Option R) (r456 : Abs.Rows) (i457 : Int) (r459 : Abs.Rows) (i460 : Int) (REC : Abs.Rows → Int → Option R) (r458 : Abs.Rows) (i461 : Int) : Option R :=
  bif decide (i461 < i460) then (bif decide ((0 : Int) ≤ i461 ∧ i461 < (↑(List.length r459) : Int)) then (Fn75 m (IntKind.wrap IntKind.i64 (fI r459 (Int.toNat i461) (0 : Nat) * i457)) ((256 : Int)) (fun i465 => Fn77 m i465 (fun i466 => bif decide (List.length r458 + List.length [[F.lit (Value.int IntKind.i64 i466)]] ≤ rowMax) then (letV (r458 ++ [[F.lit (Value.int IntKind.i64 i466)]]) (fun r467 => REC r467 (IntKind.wrap IntKind.i64 (i461 + (1 : Int))))) else
  (none)))) else
  (none)) else
  (kx0 r458 i461)
def Lp44_3 {R : Type} (m : Nat) (kx0 : Abs.Rows → Int → Option R) (r456 : Abs.Rows) (i457 : Int) (r459 : Abs.Rows) (i460 : Int) : Nat → Abs.Rows → Int → Option R
  | 0, _, _ => none
  | n + 1, r458, i461 => Lp44_3_step m kx0 r456 i457 r459 i460 (Lp44_3 m kx0 r456 i457 r459 i460 n) r458 i461
def ELp44_3 (m : Nat) (R : Type) : Nat → List V → (Ex → List V → Option R) → Option R
  | 0, _, _ => none
  | n + 1, vs, k => match vs with
    | [V.bor [LT.int IntKind.i64] r456, V.f (F.lit (Value.int IntKind.i64 i457)), V.own [LT.int IntKind.i64] r458, V.bor [LT.int IntKind.i64] r459, V.f (F.lit (Value.int IntKind.i64 i460)), V.f (F.lit (Value.int IntKind.i64 i461)), V.undef, V.undef] => Lp44_3_step m (fun r468 i469 => k (Ex.exit (0 : Nat)) [V.bor [LT.int IntKind.i64] r456, V.f (F.lit (Value.int IntKind.i64 i457)), V.own [LT.int IntKind.i64] r468, V.bor [LT.int IntKind.i64] r459, V.f (F.lit (Value.int IntKind.i64 i460)), V.f (F.lit (Value.int IntKind.i64 i469)), V.undef, V.undef]) r456 i457 r459 i460 (fun r458 i461 => ELp44_3 m R n [V.bor [LT.int IntKind.i64] r456, V.f (F.lit (Value.int IntKind.i64 i457)), V.own [LT.int IntKind.i64] r458, V.bor [LT.int IntKind.i64] r459, V.f (F.lit (Value.int IntKind.i64 i460)), V.f (F.lit (Value.int IntKind.i64 i461)), V.undef, V.undef] k) r458 i461
    | _ => none
def brLp44_3 (m : Nat) (L : LTbl) (R : Type) (vs : List V) (k : Ex → List V → Option R) : Option R := match vs with
  | [V.bor [LT.int IntKind.i64] r456, V.f (F.lit (Value.int IntKind.i64 i457)), V.own [LT.int IntKind.i64] r458, V.bor [LT.int IntKind.i64] r459, V.f (F.lit (Value.int IntKind.i64 i460)), V.f (F.lit (Value.int IntKind.i64 i461)), V.undef, V.undef] => Lp44_3 m (fun r468 i469 => k (Ex.exit (0 : Nat)) [V.bor [LT.int IntKind.i64] r456, V.f (F.lit (Value.int IntKind.i64 i457)), V.own [LT.int IntKind.i64] r468, V.bor [LT.int IntKind.i64] r459, V.f (F.lit (Value.int IntKind.i64 i460)), V.f (F.lit (Value.int IntKind.i64 i469)), V.undef, V.undef]) r456 i457 r459 i460 m r458 i461
  | _ => L R 44 3 vs k
set_option maxRecDepth 100000 in
theorem stLp44_3 (m n : Nat) (R : Type) (r456 : Abs.Rows) (i457 : Int) (r458 : Abs.Rows) (r459 : Abs.Rows) (i460 : Int) (i461 : Int) (k : Ex → List V → Option R) : codeK Try.prog H (T29 m) 44 (L20 m) 4 (loopBody Try.prog 44 3) (mkEnv [0, 1, 5, 8, 9, 10, 24, 25] [V.bor [LT.int IntKind.i64] r456, V.f (F.lit (Value.int IntKind.i64 i457)), V.own [LT.int IntKind.i64] r458, V.bor [LT.int IntKind.i64] r459, V.f (F.lit (Value.int IntKind.i64 i460)), V.f (F.lit (Value.int IntKind.i64 i461)), V.undef, V.undef] 0 (H.len 44)) (fun e env' => match e with | .normal => ELp44_3 m R n (vals [0, 1, 5, 8, 9, 10, 24, 25] env') k | e => k e (vals [0, 1, 5, 8, 9, 10, 24, 25] env')) = Lp44_3_step m (fun r468 i469 => k (Ex.exit (0 : Nat)) [V.bor [LT.int IntKind.i64] r456, V.f (F.lit (Value.int IntKind.i64 i457)), V.own [LT.int IntKind.i64] r468, V.bor [LT.int IntKind.i64] r459, V.f (F.lit (Value.int IntKind.i64 i460)), V.f (F.lit (Value.int IntKind.i64 i469)), V.undef, V.undef]) r456 i457 r459 i460 (fun r458 i461 => ELp44_3 m R n [V.bor [LT.int IntKind.i64] r456, V.f (F.lit (Value.int IntKind.i64 i457)), V.own [LT.int IntKind.i64] r458, V.bor [LT.int IntKind.i64] r459, V.f (F.lit (Value.int IntKind.i64 i460)), V.f (F.lit (Value.int IntKind.i64 i461)), V.undef, V.undef] k) r458 i461 := by kernel_rfl
theorem eqLp44_3 (m : Nat) (R : Type) (r456 : Abs.Rows) (i457 : Int) (r459 : Abs.Rows) (i460 : Int) (k : Ex → List V → Option R) : ∀ (n : Nat) (r458 : Abs.Rows) (i461 : Int), ELp44_3 m R n [V.bor [LT.int IntKind.i64] r456, V.f (F.lit (Value.int IntKind.i64 i457)), V.own [LT.int IntKind.i64] r458, V.bor [LT.int IntKind.i64] r459, V.f (F.lit (Value.int IntKind.i64 i460)), V.f (F.lit (Value.int IntKind.i64 i461)), V.undef, V.undef] k = Lp44_3 m (fun r468 i469 => k (Ex.exit (0 : Nat)) [V.bor [LT.int IntKind.i64] r456, V.f (F.lit (Value.int IntKind.i64 i457)), V.own [LT.int IntKind.i64] r468, V.bor [LT.int IntKind.i64] r459, V.f (F.lit (Value.int IntKind.i64 i460)), V.f (F.lit (Value.int IntKind.i64 i469)), V.undef, V.undef]) r456 i457 r459 i460 n r458 i461
  | 0, _, _ => rfl
  | n + 1, r458, i461 => by
    simp only [ELp44_3, Lp44_3]
    congr 1
    funext r458 i461
    exact eqLp44_3 m R r456 i457 r459 i460 k n r458 i461
def L21 (m : Nat) : LTbl := addB 44 3 (brLp44_3 m (L20 m)) (L20 m)
theorem okL21 (m : Nat) : LTOk Try.prog H (L21 m) := addB_ok (okT29 m) hM (okL20 m) (l := [0, 1, 5, 8, 9, 10, 24, 25]) (by kernel_rfl) (by kernel_rfl) m (fun R n vs k => ELp44_3 m R n vs k) (fun R vs k => rfl) (fun R n vs k x h => by
      simp only [ELp44_3] at h
      split at h
      · exact (stLp44_3 m n R _ _ _ _ _ _ k).trans h
      · cases h) fun R vs k x h => by
    unfold brLp44_3 at h
    split at h
    · exact .inl ((eqLp44_3 m R _ _ _ _ k m _ _).trans h)
    · exact .inr h

/-- hookflash/flashref2.LouderOf -/
def Fn44 {R : Type} (m : Nat) : Abs.Rows → Int → (Abs.Rows → Option R) → Option R := match m with
  | 0 => fun _ _ _ => none
  | m + 1 => fun r454 i455 k =>
  Lp44_3 m (fun r470 i471 => k r470) r454 i455 r454 ((↑(List.length r454) : Int)) m rows0 ((0 : Int))
def brFn44 (m : Nat) (T : Tbl) (R : Type) (vs : List V) (k : V → List V → Option R) : Option R := match vs with
  | [V.bor [LT.int IntKind.i64] r454, V.f (F.lit (Value.int IntKind.i64 i455))] => Fn44 m r454 i455 (fun r472 => k (V.own [LT.int IntKind.i64] r472) [V.undef, V.undef])
  | _ => T R 44 vs k
set_option maxRecDepth 100000 in
theorem evFn44 (m : Nat) (R : Type) (r454 : Abs.Rows) (i455 : Int) (k : V → List V → Option R) : runK Try.prog H (T29 m) (L21 m) 44 [V.bor [LT.int IntKind.i64] r454, V.f (F.lit (Value.int IntKind.i64 i455))] k = Fn44 (m + 1) r454 i455 (fun r472 => k (V.own [LT.int IntKind.i64] r472) [V.undef, V.undef]) := by kernel_rfl
def T30 (m : Nat) : Tbl := addT 44 (brFn44 m (T29 m)) (T29 m)
theorem okT30 (m : Nat) : TblOk Try.prog (T30 m) := addT_ok (okT29 m) fun R vs k x h => by
  unfold brFn44 at h
  split at h
  · cases m with
    | zero => cases h
    | succ m => exact runK_some (okT29 m) hM (okL21 m) ((evFn44 m R _ _ k).trans h)
  · exact okT29 m R 44 _ k x h

/-- a rest of hookflash/flashref2.SilentOf -/
def Jn45_9 {R : Type} (m : Nat) (kx0 : Abs.Rows → Int → Option R) (r502 : Abs.Rows) (i503 : Int) (i504 : Int) (r505 : Abs.Rows) (i506 : Int) (i507 : Int) (i508 : Int) (i509 : Int) : Option R :=
  bif decide (IntKind.wrap IntKind.i64 (i507 - i506) ≥ i504) then (bif decide (List.length r505 + List.length [[F.lit (Value.int IntKind.i64 i506), F.lit (Value.int IntKind.i64 i507)]] ≤ rowMax) then (letV (r505 ++ [[F.lit (Value.int IntKind.i64 i506), F.lit (Value.int IntKind.i64 i507)]]) (fun r510 => kx0 r510 (IntKind.wrap IntKind.i64 (i507 + (1 : Int))))) else
  (none)) else
  (kx0 r505 (IntKind.wrap IntKind.i64 (i507 + (1 : Int))))
def brJn45_9 (m : Nat) (L : LTbl) (R : Type) (vs : List V) (k : Ex → List V → Option R) : Option R := match vs with
  | [V.bor [LT.int IntKind.i64] r502, V.f (F.lit (Value.int IntKind.i64 i503)), V.f (F.lit (Value.int IntKind.i64 i504)), V.own [LT.int IntKind.i64, LT.int IntKind.i64] r505, V.f (F.lit (Value.int IntKind.i64 i506)), V.f (F.lit (Value.int IntKind.i64 i507)), V.f (F.lit (Value.int IntKind.i64 i508)), V.f (F.lit (Value.int IntKind.i64 i509)), V.undef, V.undef, V.undef, V.undef] => Jn45_9 m (fun r511 i512 => k Ex.normal [V.bor [LT.int IntKind.i64] r502, V.f (F.lit (Value.int IntKind.i64 i503)), V.f (F.lit (Value.int IntKind.i64 i504)), V.own [LT.int IntKind.i64, LT.int IntKind.i64] r511, V.f (F.lit (Value.int IntKind.i64 i512)), V.f (F.lit (Value.int IntKind.i64 i507)), V.f (F.lit (Value.int IntKind.i64 i508)), V.f (F.lit (Value.int IntKind.i64 i509)), V.undef, V.undef, V.undef, V.undef]) r502 i503 i504 r505 i506 i507 i508 i509
  | _ => L R 45 9 vs k
set_option maxRecDepth 100000 in
theorem evJn45_9 (m : Nat) (R : Type) (r502 : Abs.Rows) (i503 : Int) (i504 : Int) (r505 : Abs.Rows) (i506 : Int) (i507 : Int) (i508 : Int) (i509 : Int) (k : Ex → List V → Option R) : codeK Try.prog H (T30 m) 45 (L21 m) 10 (loopBody Try.prog 45 9) (mkEnv [0, 1, 2, 7, 8, 9, 12, 13, 40, 45, 46, 47] [V.bor [LT.int IntKind.i64] r502, V.f (F.lit (Value.int IntKind.i64 i503)), V.f (F.lit (Value.int IntKind.i64 i504)), V.own [LT.int IntKind.i64, LT.int IntKind.i64] r505, V.f (F.lit (Value.int IntKind.i64 i506)), V.f (F.lit (Value.int IntKind.i64 i507)), V.f (F.lit (Value.int IntKind.i64 i508)), V.f (F.lit (Value.int IntKind.i64 i509)), V.undef, V.undef, V.undef, V.undef] 0 (H.len 45)) (fun e env' => k e (vals [0, 1, 2, 7, 8, 9, 12, 13, 40, 45, 46, 47] env')) = Jn45_9 m (fun r511 i512 => k Ex.normal [V.bor [LT.int IntKind.i64] r502, V.f (F.lit (Value.int IntKind.i64 i503)), V.f (F.lit (Value.int IntKind.i64 i504)), V.own [LT.int IntKind.i64, LT.int IntKind.i64] r511, V.f (F.lit (Value.int IntKind.i64 i512)), V.f (F.lit (Value.int IntKind.i64 i507)), V.f (F.lit (Value.int IntKind.i64 i508)), V.f (F.lit (Value.int IntKind.i64 i509)), V.undef, V.undef, V.undef, V.undef]) r502 i503 i504 r505 i506 i507 i508 i509 := by kernel_rfl
def L22 (m : Nat) : LTbl := addJ 45 9 (brJn45_9 m (L21 m)) (L21 m)
theorem okL22 (m : Nat) : LTOk Try.prog H (L22 m) := addJ_ok (okT30 m) hM (okL21 m) (l := [0, 1, 2, 7, 8, 9, 12, 13, 40, 45, 46, 47]) (by kernel_rfl) (by kernel_rfl) fun R vs k x h => by
    unfold brJn45_9 at h
    split at h
    · exact .inl ((evJn45_9 m R _ _ _ _ _ _ _ _ k).trans h)
    · exact .inr h

/-- a round of a loop of hookflash/flashref2.SilentOf -/
def Lp45_4_step {R : Type} (m : Nat) (kx0 : Abs.Rows → Int → Int → Option R) (r494 : Abs.Rows) (i495 : Int) (i496 : Int) (i499 : Int) (REC : Abs.Rows → Int → Int → Option R) (r497 : Abs.Rows) (i498 : Int) (i500 : Int) : Option R :=
  bif decide (i500 < i499) then (bif decide (i500 < (↑(List.length r494) : Int)) then (bif decide ((0 : Int) ≤ i500 ∧ i500 < (↑(List.length r494) : Int)) then (Fn63 m (fI r494 (Int.toNat i500) (0 : Nat)) (IntKind.wrap IntKind.i64 ((0 : Int) - i495)) i495 (fun b501 => bif b501 then (REC r497 i498 (IntKind.wrap IntKind.i64 (i500 + (1 : Int)))) else
  (Jn45_9 m (fun r513 i514 => REC r513 i514 (IntKind.wrap IntKind.i64 (i500 + (1 : Int)))) r494 i495 i496 r497 i498 i500 i499 i500))) else
  (none)) else
  (Jn45_9 m (fun r515 i516 => REC r515 i516 (IntKind.wrap IntKind.i64 (i500 + (1 : Int)))) r494 i495 i496 r497 i498 i500 i499 i500)) else
  (kx0 r497 i498 i500)
def Lp45_4 {R : Type} (m : Nat) (kx0 : Abs.Rows → Int → Int → Option R) (r494 : Abs.Rows) (i495 : Int) (i496 : Int) (i499 : Int) : Nat → Abs.Rows → Int → Int → Option R
  | 0, _, _, _ => none
  | n + 1, r497, i498, i500 => Lp45_4_step m kx0 r494 i495 i496 i499 (Lp45_4 m kx0 r494 i495 i496 i499 n) r497 i498 i500
def ELp45_4 (m : Nat) (R : Type) : Nat → List V → (Ex → List V → Option R) → Option R
  | 0, _, _ => none
  | n + 1, vs, k => match vs with
    | [V.bor [LT.int IntKind.i64] r494, V.f (F.lit (Value.int IntKind.i64 i495)), V.f (F.lit (Value.int IntKind.i64 i496)), V.own [LT.int IntKind.i64, LT.int IntKind.i64] r497, V.f (F.lit (Value.int IntKind.i64 i498)), V.f (F.lit (Value.int IntKind.i64 i499)), V.f (F.lit (Value.int IntKind.i64 i500)), V.undef, V.undef, V.undef] => Lp45_4_step m (fun r517 i518 i519 => k (Ex.exit (0 : Nat)) [V.bor [LT.int IntKind.i64] r494, V.f (F.lit (Value.int IntKind.i64 i495)), V.f (F.lit (Value.int IntKind.i64 i496)), V.own [LT.int IntKind.i64, LT.int IntKind.i64] r517, V.f (F.lit (Value.int IntKind.i64 i518)), V.f (F.lit (Value.int IntKind.i64 i499)), V.f (F.lit (Value.int IntKind.i64 i519)), V.undef, V.undef, V.undef]) r494 i495 i496 i499 (fun r497 i498 i500 => ELp45_4 m R n [V.bor [LT.int IntKind.i64] r494, V.f (F.lit (Value.int IntKind.i64 i495)), V.f (F.lit (Value.int IntKind.i64 i496)), V.own [LT.int IntKind.i64, LT.int IntKind.i64] r497, V.f (F.lit (Value.int IntKind.i64 i498)), V.f (F.lit (Value.int IntKind.i64 i499)), V.f (F.lit (Value.int IntKind.i64 i500)), V.undef, V.undef, V.undef] k) r497 i498 i500
    | _ => none
def brLp45_4 (m : Nat) (L : LTbl) (R : Type) (vs : List V) (k : Ex → List V → Option R) : Option R := match vs with
  | [V.bor [LT.int IntKind.i64] r494, V.f (F.lit (Value.int IntKind.i64 i495)), V.f (F.lit (Value.int IntKind.i64 i496)), V.own [LT.int IntKind.i64, LT.int IntKind.i64] r497, V.f (F.lit (Value.int IntKind.i64 i498)), V.f (F.lit (Value.int IntKind.i64 i499)), V.f (F.lit (Value.int IntKind.i64 i500)), V.undef, V.undef, V.undef] => Lp45_4 m (fun r517 i518 i519 => k (Ex.exit (0 : Nat)) [V.bor [LT.int IntKind.i64] r494, V.f (F.lit (Value.int IntKind.i64 i495)), V.f (F.lit (Value.int IntKind.i64 i496)), V.own [LT.int IntKind.i64, LT.int IntKind.i64] r517, V.f (F.lit (Value.int IntKind.i64 i518)), V.f (F.lit (Value.int IntKind.i64 i499)), V.f (F.lit (Value.int IntKind.i64 i519)), V.undef, V.undef, V.undef]) r494 i495 i496 i499 m r497 i498 i500
  | _ => L R 45 4 vs k
set_option maxRecDepth 100000 in
theorem stLp45_4 (m n : Nat) (R : Type) (r494 : Abs.Rows) (i495 : Int) (i496 : Int) (r497 : Abs.Rows) (i498 : Int) (i499 : Int) (i500 : Int) (k : Ex → List V → Option R) : codeK Try.prog H (T30 m) 45 (L22 m) 5 (loopBody Try.prog 45 4) (mkEnv [0, 1, 2, 7, 8, 12, 13, 45, 46, 47] [V.bor [LT.int IntKind.i64] r494, V.f (F.lit (Value.int IntKind.i64 i495)), V.f (F.lit (Value.int IntKind.i64 i496)), V.own [LT.int IntKind.i64, LT.int IntKind.i64] r497, V.f (F.lit (Value.int IntKind.i64 i498)), V.f (F.lit (Value.int IntKind.i64 i499)), V.f (F.lit (Value.int IntKind.i64 i500)), V.undef, V.undef, V.undef] 0 (H.len 45)) (fun e env' => match e with | .normal => ELp45_4 m R n (vals [0, 1, 2, 7, 8, 12, 13, 45, 46, 47] env') k | e => k e (vals [0, 1, 2, 7, 8, 12, 13, 45, 46, 47] env')) = Lp45_4_step m (fun r517 i518 i519 => k (Ex.exit (0 : Nat)) [V.bor [LT.int IntKind.i64] r494, V.f (F.lit (Value.int IntKind.i64 i495)), V.f (F.lit (Value.int IntKind.i64 i496)), V.own [LT.int IntKind.i64, LT.int IntKind.i64] r517, V.f (F.lit (Value.int IntKind.i64 i518)), V.f (F.lit (Value.int IntKind.i64 i499)), V.f (F.lit (Value.int IntKind.i64 i519)), V.undef, V.undef, V.undef]) r494 i495 i496 i499 (fun r497 i498 i500 => ELp45_4 m R n [V.bor [LT.int IntKind.i64] r494, V.f (F.lit (Value.int IntKind.i64 i495)), V.f (F.lit (Value.int IntKind.i64 i496)), V.own [LT.int IntKind.i64, LT.int IntKind.i64] r497, V.f (F.lit (Value.int IntKind.i64 i498)), V.f (F.lit (Value.int IntKind.i64 i499)), V.f (F.lit (Value.int IntKind.i64 i500)), V.undef, V.undef, V.undef] k) r497 i498 i500 := by kernel_rfl
theorem eqLp45_4 (m : Nat) (R : Type) (r494 : Abs.Rows) (i495 : Int) (i496 : Int) (i499 : Int) (k : Ex → List V → Option R) : ∀ (n : Nat) (r497 : Abs.Rows) (i498 : Int) (i500 : Int), ELp45_4 m R n [V.bor [LT.int IntKind.i64] r494, V.f (F.lit (Value.int IntKind.i64 i495)), V.f (F.lit (Value.int IntKind.i64 i496)), V.own [LT.int IntKind.i64, LT.int IntKind.i64] r497, V.f (F.lit (Value.int IntKind.i64 i498)), V.f (F.lit (Value.int IntKind.i64 i499)), V.f (F.lit (Value.int IntKind.i64 i500)), V.undef, V.undef, V.undef] k = Lp45_4 m (fun r517 i518 i519 => k (Ex.exit (0 : Nat)) [V.bor [LT.int IntKind.i64] r494, V.f (F.lit (Value.int IntKind.i64 i495)), V.f (F.lit (Value.int IntKind.i64 i496)), V.own [LT.int IntKind.i64, LT.int IntKind.i64] r517, V.f (F.lit (Value.int IntKind.i64 i518)), V.f (F.lit (Value.int IntKind.i64 i499)), V.f (F.lit (Value.int IntKind.i64 i519)), V.undef, V.undef, V.undef]) r494 i495 i496 i499 n r497 i498 i500
  | 0, _, _, _ => rfl
  | n + 1, r497, i498, i500 => by
    simp only [ELp45_4, Lp45_4]
    congr 1
    funext r497 i498 i500
    exact eqLp45_4 m R r494 i495 i496 i499 k n r497 i498 i500
def L23 (m : Nat) : LTbl := addB 45 4 (brLp45_4 m (L22 m)) (L22 m)
theorem okL23 (m : Nat) : LTOk Try.prog H (L23 m) := addB_ok (okT30 m) hM (okL22 m) (l := [0, 1, 2, 7, 8, 12, 13, 45, 46, 47]) (by kernel_rfl) (by kernel_rfl) m (fun R n vs k => ELp45_4 m R n vs k) (fun R vs k => rfl) (fun R n vs k x h => by
      simp only [ELp45_4] at h
      split at h
      · exact (stLp45_4 m n R _ _ _ _ _ _ _ k).trans h
      · cases h) fun R vs k x h => by
    unfold brLp45_4 at h
    split at h
    · exact .inl ((eqLp45_4 m R _ _ _ _ k m _ _ _).trans h)
    · exact .inr h

/-- hookflash/flashref2.SilentOf -/
def Fn45 {R : Type} (m : Nat) : Abs.Rows → Int → Int → (Abs.Rows → Option R) → Option R := match m with
  | 0 => fun _ _ _ _ => none
  | m + 1 => fun r491 i492 i493 k =>
  Lp45_4 m (fun r520 i521 i522 => k r520) r491 i492 i493 (IntKind.wrap IntKind.i64 ((↑(List.length r491) : Int) + (1 : Int))) m rows0 ((0 : Int)) ((0 : Int))
def brFn45 (m : Nat) (T : Tbl) (R : Type) (vs : List V) (k : V → List V → Option R) : Option R := match vs with
  | [V.bor [LT.int IntKind.i64] r491, V.f (F.lit (Value.int IntKind.i64 i492)), V.f (F.lit (Value.int IntKind.i64 i493))] => Fn45 m r491 i492 i493 (fun r523 => k (V.own [LT.int IntKind.i64, LT.int IntKind.i64] r523) [V.undef, V.undef, V.undef])
  | _ => T R 45 vs k
set_option maxRecDepth 100000 in
theorem evFn45 (m : Nat) (R : Type) (r491 : Abs.Rows) (i492 : Int) (i493 : Int) (k : V → List V → Option R) : runK Try.prog H (T30 m) (L23 m) 45 [V.bor [LT.int IntKind.i64] r491, V.f (F.lit (Value.int IntKind.i64 i492)), V.f (F.lit (Value.int IntKind.i64 i493))] k = Fn45 (m + 1) r491 i492 i493 (fun r523 => k (V.own [LT.int IntKind.i64, LT.int IntKind.i64] r523) [V.undef, V.undef, V.undef]) := by kernel_rfl
def T31 (m : Nat) : Tbl := addT 45 (brFn45 m (T30 m)) (T30 m)
theorem okT31 (m : Nat) : TblOk Try.prog (T31 m) := addT_ok (okT30 m) fun R vs k x h => by
  unfold brFn45 at h
  split at h
  · cases m with
    | zero => cases h
    | succ m => exact runK_some (okT30 m) hM (okL23 m) ((evFn45 m R _ _ _ k).trans h)
  · exact okT30 m R 45 _ k x h

/-- a round of a loop of slices.Equal[[]int,int] -/
def Lp38_5_step {R : Type} (m : Nat) (kx0 : Bool → Int → Option R) (kx1 : Int → Option R) (r542 : Abs.Rows) (r543 : Abs.Rows) (b544 : Bool) (i545 : Int) (REC : Int → Option R) (i546 : Int) : Option R :=
  bif decide (i546 < i545) then (bif decide ((0 : Int) ≤ i546 ∧ i546 < (↑(List.length r542) : Int)) then (bif decide ((0 : Int) ≤ i546 ∧ i546 < (↑(List.length r543) : Int)) then (bif fI r542 (Int.toNat i546) (0 : Nat) != fI r543 (Int.toNat i546) (0 : Nat) then (kx0 false i546) else
  (REC (IntKind.wrap IntKind.i64 (i546 + (1 : Int))))) else
  (none)) else
  (none)) else
  (kx1 i546)
def Lp38_5 {R : Type} (m : Nat) (kx0 : Bool → Int → Option R) (kx1 : Int → Option R) (r542 : Abs.Rows) (r543 : Abs.Rows) (b544 : Bool) (i545 : Int) : Nat → Int → Option R
  | 0, _ => none
  | n + 1, i546 => Lp38_5_step m kx0 kx1 r542 r543 b544 i545 (Lp38_5 m kx0 kx1 r542 r543 b544 i545 n) i546
def ELp38_5 (m : Nat) (R : Type) : Nat → List V → (Ex → List V → Option R) → Option R
  | 0, _, _ => none
  | n + 1, vs, k => match vs with
    | [V.bor [LT.int IntKind.i64] r542, V.bor [LT.int IntKind.i64] r543, V.f (F.lit (Value.bool b544)), V.f (F.lit (Value.int IntKind.i64 i545)), V.f (F.lit (Value.int IntKind.i64 i546)), V.undef, V.undef] => Lp38_5_step m (fun b547 i548 => k Ex.ret [V.bor [LT.int IntKind.i64] r542, V.bor [LT.int IntKind.i64] r543, V.f (F.lit (Value.bool b547)), V.f (F.lit (Value.int IntKind.i64 i545)), V.f (F.lit (Value.int IntKind.i64 i548)), V.undef, V.undef]) (fun i549 => k (Ex.exit (0 : Nat)) [V.bor [LT.int IntKind.i64] r542, V.bor [LT.int IntKind.i64] r543, V.f (F.lit (Value.bool b544)), V.f (F.lit (Value.int IntKind.i64 i545)), V.f (F.lit (Value.int IntKind.i64 i549)), V.undef, V.undef]) r542 r543 b544 i545 (fun i546 => ELp38_5 m R n [V.bor [LT.int IntKind.i64] r542, V.bor [LT.int IntKind.i64] r543, V.f (F.lit (Value.bool b544)), V.f (F.lit (Value.int IntKind.i64 i545)), V.f (F.lit (Value.int IntKind.i64 i546)), V.undef, V.undef] k) i546
    | _ => none
def brLp38_5 (m : Nat) (L : LTbl) (R : Type) (vs : List V) (k : Ex → List V → Option R) : Option R := match vs with
  | [V.bor [LT.int IntKind.i64] r542, V.bor [LT.int IntKind.i64] r543, V.f (F.lit (Value.bool b544)), V.f (F.lit (Value.int IntKind.i64 i545)), V.f (F.lit (Value.int IntKind.i64 i546)), V.undef, V.undef] => Lp38_5 m (fun b547 i548 => k Ex.ret [V.bor [LT.int IntKind.i64] r542, V.bor [LT.int IntKind.i64] r543, V.f (F.lit (Value.bool b547)), V.f (F.lit (Value.int IntKind.i64 i545)), V.f (F.lit (Value.int IntKind.i64 i548)), V.undef, V.undef]) (fun i549 => k (Ex.exit (0 : Nat)) [V.bor [LT.int IntKind.i64] r542, V.bor [LT.int IntKind.i64] r543, V.f (F.lit (Value.bool b544)), V.f (F.lit (Value.int IntKind.i64 i545)), V.f (F.lit (Value.int IntKind.i64 i549)), V.undef, V.undef]) r542 r543 b544 i545 m i546
  | _ => L R 38 5 vs k
set_option maxRecDepth 100000 in
theorem stLp38_5 (m n : Nat) (R : Type) (r542 : Abs.Rows) (r543 : Abs.Rows) (b544 : Bool) (i545 : Int) (i546 : Int) (k : Ex → List V → Option R) : codeK Try.prog H (T31 m) 38 (L23 m) 6 (loopBody Try.prog 38 5) (mkEnv [0, 1, 4, 12, 13, 26, 27] [V.bor [LT.int IntKind.i64] r542, V.bor [LT.int IntKind.i64] r543, V.f (F.lit (Value.bool b544)), V.f (F.lit (Value.int IntKind.i64 i545)), V.f (F.lit (Value.int IntKind.i64 i546)), V.undef, V.undef] 0 (H.len 38)) (fun e env' => match e with | .normal => ELp38_5 m R n (vals [0, 1, 4, 12, 13, 26, 27] env') k | e => k e (vals [0, 1, 4, 12, 13, 26, 27] env')) = Lp38_5_step m (fun b547 i548 => k Ex.ret [V.bor [LT.int IntKind.i64] r542, V.bor [LT.int IntKind.i64] r543, V.f (F.lit (Value.bool b547)), V.f (F.lit (Value.int IntKind.i64 i545)), V.f (F.lit (Value.int IntKind.i64 i548)), V.undef, V.undef]) (fun i549 => k (Ex.exit (0 : Nat)) [V.bor [LT.int IntKind.i64] r542, V.bor [LT.int IntKind.i64] r543, V.f (F.lit (Value.bool b544)), V.f (F.lit (Value.int IntKind.i64 i545)), V.f (F.lit (Value.int IntKind.i64 i549)), V.undef, V.undef]) r542 r543 b544 i545 (fun i546 => ELp38_5 m R n [V.bor [LT.int IntKind.i64] r542, V.bor [LT.int IntKind.i64] r543, V.f (F.lit (Value.bool b544)), V.f (F.lit (Value.int IntKind.i64 i545)), V.f (F.lit (Value.int IntKind.i64 i546)), V.undef, V.undef] k) i546 := by kernel_rfl
theorem eqLp38_5 (m : Nat) (R : Type) (r542 : Abs.Rows) (r543 : Abs.Rows) (b544 : Bool) (i545 : Int) (k : Ex → List V → Option R) : ∀ (n : Nat) (i546 : Int), ELp38_5 m R n [V.bor [LT.int IntKind.i64] r542, V.bor [LT.int IntKind.i64] r543, V.f (F.lit (Value.bool b544)), V.f (F.lit (Value.int IntKind.i64 i545)), V.f (F.lit (Value.int IntKind.i64 i546)), V.undef, V.undef] k = Lp38_5 m (fun b547 i548 => k Ex.ret [V.bor [LT.int IntKind.i64] r542, V.bor [LT.int IntKind.i64] r543, V.f (F.lit (Value.bool b547)), V.f (F.lit (Value.int IntKind.i64 i545)), V.f (F.lit (Value.int IntKind.i64 i548)), V.undef, V.undef]) (fun i549 => k (Ex.exit (0 : Nat)) [V.bor [LT.int IntKind.i64] r542, V.bor [LT.int IntKind.i64] r543, V.f (F.lit (Value.bool b544)), V.f (F.lit (Value.int IntKind.i64 i545)), V.f (F.lit (Value.int IntKind.i64 i549)), V.undef, V.undef]) r542 r543 b544 i545 n i546
  | 0, _ => rfl
  | n + 1, i546 => by
    simp only [ELp38_5, Lp38_5]
    congr 1
    funext i546
    exact eqLp38_5 m R r542 r543 b544 i545 k n i546
def L24 (m : Nat) : LTbl := addB 38 5 (brLp38_5 m (L23 m)) (L23 m)
theorem okL24 (m : Nat) : LTOk Try.prog H (L24 m) := addB_ok (okT31 m) hM (okL23 m) (l := [0, 1, 4, 12, 13, 26, 27]) (by kernel_rfl) (by kernel_rfl) m (fun R n vs k => ELp38_5 m R n vs k) (fun R vs k => rfl) (fun R n vs k x h => by
      simp only [ELp38_5] at h
      split at h
      · exact (stLp38_5 m n R _ _ _ _ _ k).trans h
      · cases h) fun R vs k x h => by
    unfold brLp38_5 at h
    split at h
    · exact .inl ((eqLp38_5 m R _ _ _ _ k m _).trans h)
    · exact .inr h

/-- slices.Equal[[]int,int] -/
def Fn38 {R : Type} (m : Nat) : Abs.Rows → Abs.Rows → (Bool → Option R) → Option R := match m with
  | 0 => fun _ _ _ => none
  | m + 1 => fun r540 r541 k =>
  bif (↑(List.length r540) : Int) != (↑(List.length r541) : Int) then (k false) else
  (Lp38_5 m (fun b550 i551 => k b550) (fun i552 => k true) r540 r541 false ((↑(List.length r540) : Int)) m ((0 : Int)))
def brFn38 (m : Nat) (T : Tbl) (R : Type) (vs : List V) (k : V → List V → Option R) : Option R := match vs with
  | [V.bor [LT.int IntKind.i64] r540, V.bor [LT.int IntKind.i64] r541] => Fn38 m r540 r541 (fun b553 => k (V.f (F.lit (Value.bool b553))) [V.undef, V.undef])
  | _ => T R 38 vs k
set_option maxRecDepth 100000 in
theorem evFn38 (m : Nat) (R : Type) (r540 : Abs.Rows) (r541 : Abs.Rows) (k : V → List V → Option R) : runK Try.prog H (T31 m) (L24 m) 38 [V.bor [LT.int IntKind.i64] r540, V.bor [LT.int IntKind.i64] r541] k = Fn38 (m + 1) r540 r541 (fun b553 => k (V.f (F.lit (Value.bool b553))) [V.undef, V.undef]) := by kernel_rfl
def T32 (m : Nat) : Tbl := addT 38 (brFn38 m (T31 m)) (T31 m)
theorem okT32 (m : Nat) : TblOk Try.prog (T32 m) := addT_ok (okT31 m) fun R vs k x h => by
  unfold brFn38 at h
  split at h
  · cases m with
    | zero => cases h
    | succ m => exact runK_some (okT31 m) hM (okL24 m) ((evFn38 m R _ _ k).trans h)
  · exact okT31 m R 38 _ k x h

/-- a round of a loop of slices.Equal[[]hookflash/api.Window,hookflash/api.Window] -/
def Lp46_5_step {R : Type} (m : Nat) (kx0 : Bool → Int → Option R) (kx1 : Int → Option R) (r558 : Abs.Rows) (r559 : Abs.Rows) (b560 : Bool) (i561 : Int) (REC : Int → Option R) (i562 : Int) : Option R :=
  bif decide (i562 < i561) then (bif decide ((0 : Int) ≤ i562 ∧ i562 < (↑(List.length r558) : Int)) then (bif decide ((0 : Int) ≤ i562 ∧ i562 < (↑(List.length r559) : Int)) then (bif !(fI r558 (Int.toNat i562) (0 : Nat) == fI r559 (Int.toNat i562) (0 : Nat) && (fI r558 (Int.toNat i562) (1 : Nat) == fI r559 (Int.toNat i562) (1 : Nat) && true)) then (kx0 false i562) else
  (REC (IntKind.wrap IntKind.i64 (i562 + (1 : Int))))) else
  (none)) else
  (none)) else
  (kx1 i562)
def Lp46_5 {R : Type} (m : Nat) (kx0 : Bool → Int → Option R) (kx1 : Int → Option R) (r558 : Abs.Rows) (r559 : Abs.Rows) (b560 : Bool) (i561 : Int) : Nat → Int → Option R
  | 0, _ => none
  | n + 1, i562 => Lp46_5_step m kx0 kx1 r558 r559 b560 i561 (Lp46_5 m kx0 kx1 r558 r559 b560 i561 n) i562
def ELp46_5 (m : Nat) (R : Type) : Nat → List V → (Ex → List V → Option R) → Option R
  | 0, _, _ => none
  | n + 1, vs, k => match vs with
    | [V.bor [LT.int IntKind.i64, LT.int IntKind.i64] r558, V.bor [LT.int IntKind.i64, LT.int IntKind.i64] r559, V.f (F.lit (Value.bool b560)), V.f (F.lit (Value.int IntKind.i64 i561)), V.f (F.lit (Value.int IntKind.i64 i562)), V.undef, V.undef] => Lp46_5_step m (fun b563 i564 => k Ex.ret [V.bor [LT.int IntKind.i64, LT.int IntKind.i64] r558, V.bor [LT.int IntKind.i64, LT.int IntKind.i64] r559, V.f (F.lit (Value.bool b563)), V.f (F.lit (Value.int IntKind.i64 i561)), V.f (F.lit (Value.int IntKind.i64 i564)), V.undef, V.undef]) (fun i565 => k (Ex.exit (0 : Nat)) [V.bor [LT.int IntKind.i64, LT.int IntKind.i64] r558, V.bor [LT.int IntKind.i64, LT.int IntKind.i64] r559, V.f (F.lit (Value.bool b560)), V.f (F.lit (Value.int IntKind.i64 i561)), V.f (F.lit (Value.int IntKind.i64 i565)), V.undef, V.undef]) r558 r559 b560 i561 (fun i562 => ELp46_5 m R n [V.bor [LT.int IntKind.i64, LT.int IntKind.i64] r558, V.bor [LT.int IntKind.i64, LT.int IntKind.i64] r559, V.f (F.lit (Value.bool b560)), V.f (F.lit (Value.int IntKind.i64 i561)), V.f (F.lit (Value.int IntKind.i64 i562)), V.undef, V.undef] k) i562
    | _ => none
def brLp46_5 (m : Nat) (L : LTbl) (R : Type) (vs : List V) (k : Ex → List V → Option R) : Option R := match vs with
  | [V.bor [LT.int IntKind.i64, LT.int IntKind.i64] r558, V.bor [LT.int IntKind.i64, LT.int IntKind.i64] r559, V.f (F.lit (Value.bool b560)), V.f (F.lit (Value.int IntKind.i64 i561)), V.f (F.lit (Value.int IntKind.i64 i562)), V.undef, V.undef] => Lp46_5 m (fun b563 i564 => k Ex.ret [V.bor [LT.int IntKind.i64, LT.int IntKind.i64] r558, V.bor [LT.int IntKind.i64, LT.int IntKind.i64] r559, V.f (F.lit (Value.bool b563)), V.f (F.lit (Value.int IntKind.i64 i561)), V.f (F.lit (Value.int IntKind.i64 i564)), V.undef, V.undef]) (fun i565 => k (Ex.exit (0 : Nat)) [V.bor [LT.int IntKind.i64, LT.int IntKind.i64] r558, V.bor [LT.int IntKind.i64, LT.int IntKind.i64] r559, V.f (F.lit (Value.bool b560)), V.f (F.lit (Value.int IntKind.i64 i561)), V.f (F.lit (Value.int IntKind.i64 i565)), V.undef, V.undef]) r558 r559 b560 i561 m i562
  | _ => L R 46 5 vs k
set_option maxRecDepth 100000 in
theorem stLp46_5 (m n : Nat) (R : Type) (r558 : Abs.Rows) (r559 : Abs.Rows) (b560 : Bool) (i561 : Int) (i562 : Int) (k : Ex → List V → Option R) : codeK Try.prog H (T32 m) 46 (L24 m) 6 (loopBody Try.prog 46 5) (mkEnv [0, 1, 4, 12, 13, 26, 27] [V.bor [LT.int IntKind.i64, LT.int IntKind.i64] r558, V.bor [LT.int IntKind.i64, LT.int IntKind.i64] r559, V.f (F.lit (Value.bool b560)), V.f (F.lit (Value.int IntKind.i64 i561)), V.f (F.lit (Value.int IntKind.i64 i562)), V.undef, V.undef] 0 (H.len 46)) (fun e env' => match e with | .normal => ELp46_5 m R n (vals [0, 1, 4, 12, 13, 26, 27] env') k | e => k e (vals [0, 1, 4, 12, 13, 26, 27] env')) = Lp46_5_step m (fun b563 i564 => k Ex.ret [V.bor [LT.int IntKind.i64, LT.int IntKind.i64] r558, V.bor [LT.int IntKind.i64, LT.int IntKind.i64] r559, V.f (F.lit (Value.bool b563)), V.f (F.lit (Value.int IntKind.i64 i561)), V.f (F.lit (Value.int IntKind.i64 i564)), V.undef, V.undef]) (fun i565 => k (Ex.exit (0 : Nat)) [V.bor [LT.int IntKind.i64, LT.int IntKind.i64] r558, V.bor [LT.int IntKind.i64, LT.int IntKind.i64] r559, V.f (F.lit (Value.bool b560)), V.f (F.lit (Value.int IntKind.i64 i561)), V.f (F.lit (Value.int IntKind.i64 i565)), V.undef, V.undef]) r558 r559 b560 i561 (fun i562 => ELp46_5 m R n [V.bor [LT.int IntKind.i64, LT.int IntKind.i64] r558, V.bor [LT.int IntKind.i64, LT.int IntKind.i64] r559, V.f (F.lit (Value.bool b560)), V.f (F.lit (Value.int IntKind.i64 i561)), V.f (F.lit (Value.int IntKind.i64 i562)), V.undef, V.undef] k) i562 := by kernel_rfl
theorem eqLp46_5 (m : Nat) (R : Type) (r558 : Abs.Rows) (r559 : Abs.Rows) (b560 : Bool) (i561 : Int) (k : Ex → List V → Option R) : ∀ (n : Nat) (i562 : Int), ELp46_5 m R n [V.bor [LT.int IntKind.i64, LT.int IntKind.i64] r558, V.bor [LT.int IntKind.i64, LT.int IntKind.i64] r559, V.f (F.lit (Value.bool b560)), V.f (F.lit (Value.int IntKind.i64 i561)), V.f (F.lit (Value.int IntKind.i64 i562)), V.undef, V.undef] k = Lp46_5 m (fun b563 i564 => k Ex.ret [V.bor [LT.int IntKind.i64, LT.int IntKind.i64] r558, V.bor [LT.int IntKind.i64, LT.int IntKind.i64] r559, V.f (F.lit (Value.bool b563)), V.f (F.lit (Value.int IntKind.i64 i561)), V.f (F.lit (Value.int IntKind.i64 i564)), V.undef, V.undef]) (fun i565 => k (Ex.exit (0 : Nat)) [V.bor [LT.int IntKind.i64, LT.int IntKind.i64] r558, V.bor [LT.int IntKind.i64, LT.int IntKind.i64] r559, V.f (F.lit (Value.bool b560)), V.f (F.lit (Value.int IntKind.i64 i561)), V.f (F.lit (Value.int IntKind.i64 i565)), V.undef, V.undef]) r558 r559 b560 i561 n i562
  | 0, _ => rfl
  | n + 1, i562 => by
    simp only [ELp46_5, Lp46_5]
    congr 1
    funext i562
    exact eqLp46_5 m R r558 r559 b560 i561 k n i562
def L25 (m : Nat) : LTbl := addB 46 5 (brLp46_5 m (L24 m)) (L24 m)
theorem okL25 (m : Nat) : LTOk Try.prog H (L25 m) := addB_ok (okT32 m) hM (okL24 m) (l := [0, 1, 4, 12, 13, 26, 27]) (by kernel_rfl) (by kernel_rfl) m (fun R n vs k => ELp46_5 m R n vs k) (fun R vs k => rfl) (fun R n vs k x h => by
      simp only [ELp46_5] at h
      split at h
      · exact (stLp46_5 m n R _ _ _ _ _ k).trans h
      · cases h) fun R vs k x h => by
    unfold brLp46_5 at h
    split at h
    · exact .inl ((eqLp46_5 m R _ _ _ _ k m _).trans h)
    · exact .inr h

/-- slices.Equal[[]hookflash/api.Window,hookflash/api.Window] -/
def Fn46 {R : Type} (m : Nat) : Abs.Rows → Abs.Rows → (Bool → Option R) → Option R := match m with
  | 0 => fun _ _ _ => none
  | m + 1 => fun r556 r557 k =>
  bif (↑(List.length r556) : Int) != (↑(List.length r557) : Int) then (k false) else
  (Lp46_5 m (fun b566 i567 => k b566) (fun i568 => k true) r556 r557 false ((↑(List.length r556) : Int)) m ((0 : Int)))
def brFn46 (m : Nat) (T : Tbl) (R : Type) (vs : List V) (k : V → List V → Option R) : Option R := match vs with
  | [V.bor [LT.int IntKind.i64, LT.int IntKind.i64] r556, V.bor [LT.int IntKind.i64, LT.int IntKind.i64] r557] => Fn46 m r556 r557 (fun b569 => k (V.f (F.lit (Value.bool b569))) [V.undef, V.undef])
  | _ => T R 46 vs k
set_option maxRecDepth 100000 in
theorem evFn46 (m : Nat) (R : Type) (r556 : Abs.Rows) (r557 : Abs.Rows) (k : V → List V → Option R) : runK Try.prog H (T32 m) (L25 m) 46 [V.bor [LT.int IntKind.i64, LT.int IntKind.i64] r556, V.bor [LT.int IntKind.i64, LT.int IntKind.i64] r557] k = Fn46 (m + 1) r556 r557 (fun b569 => k (V.f (F.lit (Value.bool b569))) [V.undef, V.undef]) := by kernel_rfl
def T33 (m : Nat) : Tbl := addT 46 (brFn46 m (T32 m)) (T32 m)
theorem okT33 (m : Nat) : TblOk Try.prog (T33 m) := addT_ok (okT32 m) fun R vs k x h => by
  unfold brFn46 at h
  split at h
  · cases m with
    | zero => cases h
    | succ m => exact runK_some (okT32 m) hM (okL25 m) ((evFn46 m R _ _ k).trans h)
  · exact okT32 m R 46 _ k x h

/-- hookflash/media.Expand -/
def Fn32 {R : Type} (m : Nat) : Int → (Int → Option R) → Option R := match m with
  | 0 => fun _ _ => none
  | m + 1 => fun i571 k =>
  bif decide ((0 : Int) ≤ Int.tmod (IntKind.wrap IntKind.i64 (Int.tdiv (IntKind.wrap IntKind.i64 ((255 : Int) - IntKind.wrap IntKind.i64 i571)) (16 : Int))) (8 : Int)) then (letV (IntKind.wrap IntKind.i64 (IntKind.wrap IntKind.i64 (IntKind.wrap IntKind.i64 ((2 : Int) * Int.tmod (IntKind.wrap IntKind.i64 ((255 : Int) - IntKind.wrap IntKind.i64 i571)) (16 : Int)) + (33 : Int)) * (2 : Int) ^ min (Int.toNat (Int.tmod (IntKind.wrap IntKind.i64 (Int.tdiv (IntKind.wrap IntKind.i64 ((255 : Int) - IntKind.wrap IntKind.i64 i571)) (16 : Int))) (8 : Int))) (64 : Nat))) (fun i572 => bif IntKind.wrap IntKind.i64 (Int.tdiv (IntKind.wrap IntKind.i64 ((255 : Int) - IntKind.wrap IntKind.i64 i571)) (128 : Int)) == (1 : Int) then (k (IntKind.wrap IntKind.i64 (IntKind.wrap IntKind.i64 ((0 : Int) - IntKind.wrap IntKind.i64 (IntKind.wrap IntKind.i64 (i572 - (33 : Int)) * (4 : Int))) - (1 : Int)))) else
  (k (IntKind.wrap IntKind.i64 (IntKind.wrap IntKind.i64 (i572 - (33 : Int)) * (4 : Int)))))) else
  (none)
def brFn32 (m : Nat) (T : Tbl) (R : Type) (vs : List V) (k : V → List V → Option R) : Option R := match vs with
  | [V.f (F.lit (Value.int IntKind.u8 i571))] => Fn32 m i571 (fun i573 => k (V.f (F.lit (Value.int IntKind.i64 i573))) [V.undef])
  | _ => T R 32 vs k
set_option maxRecDepth 100000 in
theorem evFn32 (m : Nat) (R : Type) (i571 : Int) (k : V → List V → Option R) : runK Try.prog H (T33 m) (L25 m) 32 [V.f (F.lit (Value.int IntKind.u8 i571))] k = Fn32 (m + 1) i571 (fun i573 => k (V.f (F.lit (Value.int IntKind.i64 i573))) [V.undef]) := by kernel_rfl
def T34 (m : Nat) : Tbl := addT 32 (brFn32 m (T33 m)) (T33 m)
theorem okT34 (m : Nat) : TblOk Try.prog (T34 m) := addT_ok (okT33 m) fun R vs k x h => by
  unfold brFn32 at h
  split at h
  · cases m with
    | zero => cases h
    | succ m => exact runK_some (okT33 m) hM (okL25 m) ((evFn32 m R _ k).trans h)
  · exact okT33 m R 32 _ k x h

/-- hookflash/flashlaw2.sounded -/
def Fn19 {R : Type} (m : Nat) : (Bool → Option R) → Option R := match m with
  | 0 => fun _ => none
  | m + 1 => fun  k =>
  Fn32 m ((128 : Int)) (fun i574 => k (i574 == (32124 : Int)))
def brFn19 (m : Nat) (T : Tbl) (R : Type) (vs : List V) (k : V → List V → Option R) : Option R := match vs with
  | [] => Fn19 m  (fun b575 => k (V.f (F.lit (Value.bool b575))) [])
  | _ => T R 19 vs k
set_option maxRecDepth 100000 in
theorem evFn19 (m : Nat) (R : Type)  (k : V → List V → Option R) : runK Try.prog H (T34 m) (L25 m) 19 [] k = Fn19 (m + 1)  (fun b575 => k (V.f (F.lit (Value.bool b575))) []) := by kernel_rfl
def T35 (m : Nat) : Tbl := addT 19 (brFn19 m (T34 m)) (T34 m)
theorem okT35 (m : Nat) : TblOk Try.prog (T35 m) := addT_ok (okT34 m) fun R vs k x h => by
  unfold brFn19 at h
  split at h
  · cases m with
    | zero => cases h
    | succ m => exact runK_some (okT34 m) hM (okL25 m) ((evFn19 m R k).trans h)
  · exact okT34 m R 19 _ k x h

/-- a rest of hookflash/flashlaw2.SoundsMixed -/
def Jn6_28 {R : Type} (m : Nat) (kx0 : Bool → Option R) (i525 : Int) (r526 : Abs.Rows) (i527 : Int) (r528 : Abs.Rows) (i529 : Int) (r530 : Abs.Rows) (i531 : Int) (r532 : Abs.Rows) (i533 : Int) (i534 : Int) (r535 : Abs.Rows) (r536 : Abs.Rows) (i537 : Int) (i538 : Int) (i539 : Int) : Option R :=
  bif i527 == i525 then (Fn38 m r526 r532 (fun b554 => bif b554 then (bif i529 == i533 then (Fn38 m r528 r535 (fun b555 => bif b555 then (bif i531 == i534 then (Fn46 m r530 r536 (fun b570 => bif b570 then (Fn19 m  (fun b576 => kx0 b576)) else
  (kx0 false))) else
  (kx0 false)) else
  (kx0 false))) else
  (kx0 false)) else
  (kx0 false))) else
  (kx0 false)
def brJn6_28 (m : Nat) (L : LTbl) (R : Type) (vs : List V) (k : Ex → List V → Option R) : Option R := match vs with
  | [V.undef, V.f (F.lit (Value.int IntKind.i64 i525)), V.own [LT.int IntKind.i64] r526, V.f (F.lit (Value.int IntKind.i64 i527)), V.own [LT.int IntKind.i64] r528, V.f (F.lit (Value.int IntKind.i64 i529)), V.own [LT.int IntKind.i64, LT.int IntKind.i64] r530, V.f (F.lit (Value.int IntKind.i64 i531)), V.own [LT.int IntKind.i64] r532, V.f (F.lit (Value.int IntKind.i64 i533)), V.f (F.lit (Value.int IntKind.i64 i534)), V.own [LT.int IntKind.i64] r535, V.own [LT.int IntKind.i64, LT.int IntKind.i64] r536, V.tup [V.undef, V.f (F.lit (Value.int IntKind.i64 i537))], V.undef, V.undef, V.tup [V.undef, V.f (F.lit (Value.int IntKind.i64 i538))], V.undef, V.undef, V.tup [V.undef, V.f (F.lit (Value.int IntKind.i64 i539))], V.undef, V.undef, V.undef, V.undef, V.undef, V.undef] => Jn6_28 m (fun b577 => k Ex.ret [V.f (F.lit (Value.bool b577)), V.f (F.lit (Value.int IntKind.i64 i525)), V.own [LT.int IntKind.i64] r526, V.f (F.lit (Value.int IntKind.i64 i527)), V.own [LT.int IntKind.i64] r528, V.f (F.lit (Value.int IntKind.i64 i529)), V.own [LT.int IntKind.i64, LT.int IntKind.i64] r530, V.f (F.lit (Value.int IntKind.i64 i531)), V.own [LT.int IntKind.i64] r532, V.f (F.lit (Value.int IntKind.i64 i533)), V.f (F.lit (Value.int IntKind.i64 i534)), V.own [LT.int IntKind.i64] r535, V.own [LT.int IntKind.i64, LT.int IntKind.i64] r536, V.tup [V.undef, V.f (F.lit (Value.int IntKind.i64 i537))], V.undef, V.undef, V.tup [V.undef, V.f (F.lit (Value.int IntKind.i64 i538))], V.undef, V.undef, V.tup [V.undef, V.f (F.lit (Value.int IntKind.i64 i539))], V.undef, V.undef, V.undef, V.undef, V.undef, V.undef]) i525 r526 i527 r528 i529 r530 i531 r532 i533 i534 r535 r536 i537 i538 i539
  | _ => L R 6 28 vs k
set_option maxRecDepth 100000 in
theorem evJn6_28 (m : Nat) (R : Type) (i525 : Int) (r526 : Abs.Rows) (i527 : Int) (r528 : Abs.Rows) (i529 : Int) (r530 : Abs.Rows) (i531 : Int) (r532 : Abs.Rows) (i533 : Int) (i534 : Int) (r535 : Abs.Rows) (r536 : Abs.Rows) (i537 : Int) (i538 : Int) (i539 : Int) (k : Ex → List V → Option R) : codeK Try.prog H (T35 m) 6 (L25 m) 29 (loopBody Try.prog 6 28) (mkEnv [2, 5, 11, 12, 13, 14, 15, 16, 17, 18, 19, 20, 21, 55, 57, 58, 60, 63, 64, 66, 70, 71, 76, 111, 117, 149] [V.undef, V.f (F.lit (Value.int IntKind.i64 i525)), V.own [LT.int IntKind.i64] r526, V.f (F.lit (Value.int IntKind.i64 i527)), V.own [LT.int IntKind.i64] r528, V.f (F.lit (Value.int IntKind.i64 i529)), V.own [LT.int IntKind.i64, LT.int IntKind.i64] r530, V.f (F.lit (Value.int IntKind.i64 i531)), V.own [LT.int IntKind.i64] r532, V.f (F.lit (Value.int IntKind.i64 i533)), V.f (F.lit (Value.int IntKind.i64 i534)), V.own [LT.int IntKind.i64] r535, V.own [LT.int IntKind.i64, LT.int IntKind.i64] r536, V.tup [V.undef, V.f (F.lit (Value.int IntKind.i64 i537))], V.undef, V.undef, V.tup [V.undef, V.f (F.lit (Value.int IntKind.i64 i538))], V.undef, V.undef, V.tup [V.undef, V.f (F.lit (Value.int IntKind.i64 i539))], V.undef, V.undef, V.undef, V.undef, V.undef, V.undef] 0 (H.len 6)) (fun e env' => k e (vals [2, 5, 11, 12, 13, 14, 15, 16, 17, 18, 19, 20, 21, 55, 57, 58, 60, 63, 64, 66, 70, 71, 76, 111, 117, 149] env')) = Jn6_28 m (fun b577 => k Ex.ret [V.f (F.lit (Value.bool b577)), V.f (F.lit (Value.int IntKind.i64 i525)), V.own [LT.int IntKind.i64] r526, V.f (F.lit (Value.int IntKind.i64 i527)), V.own [LT.int IntKind.i64] r528, V.f (F.lit (Value.int IntKind.i64 i529)), V.own [LT.int IntKind.i64, LT.int IntKind.i64] r530, V.f (F.lit (Value.int IntKind.i64 i531)), V.own [LT.int IntKind.i64] r532, V.f (F.lit (Value.int IntKind.i64 i533)), V.f (F.lit (Value.int IntKind.i64 i534)), V.own [LT.int IntKind.i64] r535, V.own [LT.int IntKind.i64, LT.int IntKind.i64] r536, V.tup [V.undef, V.f (F.lit (Value.int IntKind.i64 i537))], V.undef, V.undef, V.tup [V.undef, V.f (F.lit (Value.int IntKind.i64 i538))], V.undef, V.undef, V.tup [V.undef, V.f (F.lit (Value.int IntKind.i64 i539))], V.undef, V.undef, V.undef, V.undef, V.undef, V.undef]) i525 r526 i527 r528 i529 r530 i531 r532 i533 i534 r535 r536 i537 i538 i539 := by kernel_rfl
def L26 (m : Nat) : LTbl := addJ 6 28 (brJn6_28 m (L25 m)) (L25 m)
theorem okL26 (m : Nat) : LTOk Try.prog H (L26 m) := addJ_ok (okT35 m) hM (okL25 m) (l := [2, 5, 11, 12, 13, 14, 15, 16, 17, 18, 19, 20, 21, 55, 57, 58, 60, 63, 64, 66, 70, 71, 76, 111, 117, 149]) (by kernel_rfl) (by kernel_rfl) fun R vs k x h => by
    unfold brJn6_28 at h
    split at h
    · exact .inl ((evJn6_28 m R _ _ _ _ _ _ _ _ _ _ _ _ _ _ _ k).trans h)
    · exact .inr h

/-- a rest of hookflash/flashlaw2.SoundsMixed -/
def Jn6_25 {R : Type} (m : Nat) (kx0 : Bool → Option R) (i474 : Int) (r475 : Abs.Rows) (i476 : Int) (i477 : Int) (r478 : Abs.Rows) (i479 : Int) (r480 : Abs.Rows) (i481 : Int) (r482 : Abs.Rows) (i483 : Int) (r484 : Abs.Rows) (i485 : Int) (i486 : Int) (r487 : Abs.Rows) (i488 : Int) (i489 : Int) (i490 : Int) : Option R :=
  bif i486 == (0 : Int) then (Fn45 m r475 i476 i477 (fun r524 => Jn6_28 m (fun b578 => kx0 b578) i474 r478 i479 r480 i481 r482 i483 r484 i485 i486 r487 r524 i488 i489 i490)) else
  (Jn6_28 m (fun b579 => kx0 b579) i474 r478 i479 r480 i481 r482 i483 r484 i485 i486 r487 rows0 i488 i489 i490)
def brJn6_25 (m : Nat) (L : LTbl) (R : Type) (vs : List V) (k : Ex → List V → Option R) : Option R := match vs with
  | [V.undef, V.f (F.lit (Value.int IntKind.i64 i474)), V.own [LT.int IntKind.i64] r475, V.f (F.lit (Value.int IntKind.i64 i476)), V.f (F.lit (Value.int IntKind.i64 i477)), V.own [LT.int IntKind.i64] r478, V.f (F.lit (Value.int IntKind.i64 i479)), V.own [LT.int IntKind.i64] r480, V.f (F.lit (Value.int IntKind.i64 i481)), V.own [LT.int IntKind.i64, LT.int IntKind.i64] r482, V.f (F.lit (Value.int IntKind.i64 i483)), V.own [LT.int IntKind.i64] r484, V.f (F.lit (Value.int IntKind.i64 i485)), V.f (F.lit (Value.int IntKind.i64 i486)), V.own [LT.int IntKind.i64] r487, V.undef, V.tup [V.undef, V.f (F.lit (Value.int IntKind.i64 i488))], V.undef, V.undef, V.tup [V.undef, V.f (F.lit (Value.int IntKind.i64 i489))], V.undef, V.undef, V.tup [V.undef, V.f (F.lit (Value.int IntKind.i64 i490))], V.undef, V.undef, V.undef, V.undef, V.undef] => Jn6_25 m (fun b580 => k Ex.ret [V.f (F.lit (Value.bool b580)), V.f (F.lit (Value.int IntKind.i64 i474)), V.undef, V.undef, V.undef, V.own [LT.int IntKind.i64] r478, V.f (F.lit (Value.int IntKind.i64 i479)), V.own [LT.int IntKind.i64] r480, V.f (F.lit (Value.int IntKind.i64 i481)), V.own [LT.int IntKind.i64, LT.int IntKind.i64] r482, V.f (F.lit (Value.int IntKind.i64 i483)), V.own [LT.int IntKind.i64] r484, V.f (F.lit (Value.int IntKind.i64 i485)), V.f (F.lit (Value.int IntKind.i64 i486)), V.own [LT.int IntKind.i64] r487, V.undef, V.tup [V.undef, V.f (F.lit (Value.int IntKind.i64 i488))], V.undef, V.undef, V.tup [V.undef, V.f (F.lit (Value.int IntKind.i64 i489))], V.undef, V.undef, V.tup [V.undef, V.f (F.lit (Value.int IntKind.i64 i490))], V.undef, V.undef, V.undef, V.undef, V.undef]) i474 r475 i476 i477 r478 i479 r480 i481 r482 i483 r484 i485 i486 r487 i488 i489 i490
  | _ => L R 6 25 vs k
set_option maxRecDepth 100000 in
theorem evJn6_25 (m : Nat) (R : Type) (i474 : Int) (r475 : Abs.Rows) (i476 : Int) (i477 : Int) (r478 : Abs.Rows) (i479 : Int) (r480 : Abs.Rows) (i481 : Int) (r482 : Abs.Rows) (i483 : Int) (r484 : Abs.Rows) (i485 : Int) (i486 : Int) (r487 : Abs.Rows) (i488 : Int) (i489 : Int) (i490 : Int) (k : Ex → List V → Option R) : codeK Try.prog H (T35 m) 6 (L26 m) 26 (loopBody Try.prog 6 25) (mkEnv [2, 5, 7, 9, 10, 11, 12, 13, 14, 15, 16, 17, 18, 19, 20, 45, 55, 57, 58, 60, 63, 64, 66, 70, 71, 76, 111, 149] [V.undef, V.f (F.lit (Value.int IntKind.i64 i474)), V.own [LT.int IntKind.i64] r475, V.f (F.lit (Value.int IntKind.i64 i476)), V.f (F.lit (Value.int IntKind.i64 i477)), V.own [LT.int IntKind.i64] r478, V.f (F.lit (Value.int IntKind.i64 i479)), V.own [LT.int IntKind.i64] r480, V.f (F.lit (Value.int IntKind.i64 i481)), V.own [LT.int IntKind.i64, LT.int IntKind.i64] r482, V.f (F.lit (Value.int IntKind.i64 i483)), V.own [LT.int IntKind.i64] r484, V.f (F.lit (Value.int IntKind.i64 i485)), V.f (F.lit (Value.int IntKind.i64 i486)), V.own [LT.int IntKind.i64] r487, V.undef, V.tup [V.undef, V.f (F.lit (Value.int IntKind.i64 i488))], V.undef, V.undef, V.tup [V.undef, V.f (F.lit (Value.int IntKind.i64 i489))], V.undef, V.undef, V.tup [V.undef, V.f (F.lit (Value.int IntKind.i64 i490))], V.undef, V.undef, V.undef, V.undef, V.undef] 0 (H.len 6)) (fun e env' => k e (vals [2, 5, 7, 9, 10, 11, 12, 13, 14, 15, 16, 17, 18, 19, 20, 45, 55, 57, 58, 60, 63, 64, 66, 70, 71, 76, 111, 149] env')) = Jn6_25 m (fun b580 => k Ex.ret [V.f (F.lit (Value.bool b580)), V.f (F.lit (Value.int IntKind.i64 i474)), V.undef, V.undef, V.undef, V.own [LT.int IntKind.i64] r478, V.f (F.lit (Value.int IntKind.i64 i479)), V.own [LT.int IntKind.i64] r480, V.f (F.lit (Value.int IntKind.i64 i481)), V.own [LT.int IntKind.i64, LT.int IntKind.i64] r482, V.f (F.lit (Value.int IntKind.i64 i483)), V.own [LT.int IntKind.i64] r484, V.f (F.lit (Value.int IntKind.i64 i485)), V.f (F.lit (Value.int IntKind.i64 i486)), V.own [LT.int IntKind.i64] r487, V.undef, V.tup [V.undef, V.f (F.lit (Value.int IntKind.i64 i488))], V.undef, V.undef, V.tup [V.undef, V.f (F.lit (Value.int IntKind.i64 i489))], V.undef, V.undef, V.tup [V.undef, V.f (F.lit (Value.int IntKind.i64 i490))], V.undef, V.undef, V.undef, V.undef, V.undef]) i474 r475 i476 i477 r478 i479 r480 i481 r482 i483 r484 i485 i486 r487 i488 i489 i490 := by kernel_rfl
def L27 (m : Nat) : LTbl := addJ 6 25 (brJn6_25 m (L26 m)) (L26 m)
theorem okL27 (m : Nat) : LTOk Try.prog H (L27 m) := addJ_ok (okT35 m) hM (okL26 m) (l := [2, 5, 7, 9, 10, 11, 12, 13, 14, 15, 16, 17, 18, 19, 20, 45, 55, 57, 58, 60, 63, 64, 66, 70, 71, 76, 111, 149]) (by kernel_rfl) (by kernel_rfl) fun R vs k x h => by
    unfold brJn6_25 at h
    split at h
    · exact .inl ((evJn6_25 m R _ _ _ _ _ _ _ _ _ _ _ _ _ _ _ _ _ k).trans h)
    · exact .inr h

/-- a rest of hookflash/flashlaw2.SoundsMixed -/
def Jn6_22 {R : Type} (m : Nat) (kx0 : Bool → Option R) (i437 : Int) (r438 : Abs.Rows) (i439 : Int) (i440 : Int) (i441 : Int) (r442 : Abs.Rows) (i443 : Int) (r444 : Abs.Rows) (i445 : Int) (r446 : Abs.Rows) (i447 : Int) (r448 : Abs.Rows) (i449 : Int) (i450 : Int) (i451 : Int) (i452 : Int) (i453 : Int) : Option R :=
  bif i449 == (0 : Int) then (Fn44 m r438 i439 (fun r473 => Jn6_25 m (fun b581 => kx0 b581) i437 r438 i440 i441 r442 i443 r444 i445 r446 i447 r448 i449 i450 r473 i451 i452 i453)) else
  (Jn6_25 m (fun b582 => kx0 b582) i437 r438 i440 i441 r442 i443 r444 i445 r446 i447 r448 i449 i450 rows0 i451 i452 i453)
def brJn6_22 (m : Nat) (L : LTbl) (R : Type) (vs : List V) (k : Ex → List V → Option R) : Option R := match vs with
  | [V.undef, V.f (F.lit (Value.int IntKind.i64 i437)), V.own [LT.int IntKind.i64] r438, V.f (F.lit (Value.int IntKind.i64 i439)), V.f (F.lit (Value.int IntKind.i64 i440)), V.f (F.lit (Value.int IntKind.i64 i441)), V.own [LT.int IntKind.i64] r442, V.f (F.lit (Value.int IntKind.i64 i443)), V.own [LT.int IntKind.i64] r444, V.f (F.lit (Value.int IntKind.i64 i445)), V.own [LT.int IntKind.i64, LT.int IntKind.i64] r446, V.f (F.lit (Value.int IntKind.i64 i447)), V.own [LT.int IntKind.i64] r448, V.f (F.lit (Value.int IntKind.i64 i449)), V.f (F.lit (Value.int IntKind.i64 i450)), V.undef, V.tup [V.undef, V.f (F.lit (Value.int IntKind.i64 i451))], V.undef, V.undef, V.tup [V.undef, V.f (F.lit (Value.int IntKind.i64 i452))], V.undef, V.undef, V.tup [V.undef, V.f (F.lit (Value.int IntKind.i64 i453))], V.undef, V.undef, V.undef, V.undef] => Jn6_22 m (fun b583 => k Ex.ret [V.f (F.lit (Value.bool b583)), V.f (F.lit (Value.int IntKind.i64 i437)), V.undef, V.undef, V.undef, V.undef, V.own [LT.int IntKind.i64] r442, V.f (F.lit (Value.int IntKind.i64 i443)), V.own [LT.int IntKind.i64] r444, V.f (F.lit (Value.int IntKind.i64 i445)), V.own [LT.int IntKind.i64, LT.int IntKind.i64] r446, V.f (F.lit (Value.int IntKind.i64 i447)), V.own [LT.int IntKind.i64] r448, V.f (F.lit (Value.int IntKind.i64 i449)), V.f (F.lit (Value.int IntKind.i64 i450)), V.undef, V.tup [V.undef, V.f (F.lit (Value.int IntKind.i64 i451))], V.undef, V.undef, V.tup [V.undef, V.f (F.lit (Value.int IntKind.i64 i452))], V.undef, V.undef, V.tup [V.undef, V.f (F.lit (Value.int IntKind.i64 i453))], V.undef, V.undef, V.undef, V.undef]) i437 r438 i439 i440 i441 r442 i443 r444 i445 r446 i447 r448 i449 i450 i451 i452 i453
  | _ => L R 6 22 vs k
set_option maxRecDepth 100000 in
theorem evJn6_22 (m : Nat) (R : Type) (i437 : Int) (r438 : Abs.Rows) (i439 : Int) (i440 : Int) (i441 : Int) (r442 : Abs.Rows) (i443 : Int) (r444 : Abs.Rows) (i445 : Int) (r446 : Abs.Rows) (i447 : Int) (r448 : Abs.Rows) (i449 : Int) (i450 : Int) (i451 : Int) (i452 : Int) (i453 : Int) (k : Ex → List V → Option R) : codeK Try.prog H (T35 m) 6 (L27 m) 23 (loopBody Try.prog 6 22) (mkEnv [2, 5, 7, 8, 9, 10, 11, 12, 13, 14, 15, 16, 17, 18, 19, 45, 55, 57, 58, 60, 63, 64, 66, 70, 71, 76, 149] [V.undef, V.f (F.lit (Value.int IntKind.i64 i437)), V.own [LT.int IntKind.i64] r438, V.f (F.lit (Value.int IntKind.i64 i439)), V.f (F.lit (Value.int IntKind.i64 i440)), V.f (F.lit (Value.int IntKind.i64 i441)), V.own [LT.int IntKind.i64] r442, V.f (F.lit (Value.int IntKind.i64 i443)), V.own [LT.int IntKind.i64] r444, V.f (F.lit (Value.int IntKind.i64 i445)), V.own [LT.int IntKind.i64, LT.int IntKind.i64] r446, V.f (F.lit (Value.int IntKind.i64 i447)), V.own [LT.int IntKind.i64] r448, V.f (F.lit (Value.int IntKind.i64 i449)), V.f (F.lit (Value.int IntKind.i64 i450)), V.undef, V.tup [V.undef, V.f (F.lit (Value.int IntKind.i64 i451))], V.undef, V.undef, V.tup [V.undef, V.f (F.lit (Value.int IntKind.i64 i452))], V.undef, V.undef, V.tup [V.undef, V.f (F.lit (Value.int IntKind.i64 i453))], V.undef, V.undef, V.undef, V.undef] 0 (H.len 6)) (fun e env' => k e (vals [2, 5, 7, 8, 9, 10, 11, 12, 13, 14, 15, 16, 17, 18, 19, 45, 55, 57, 58, 60, 63, 64, 66, 70, 71, 76, 149] env')) = Jn6_22 m (fun b583 => k Ex.ret [V.f (F.lit (Value.bool b583)), V.f (F.lit (Value.int IntKind.i64 i437)), V.undef, V.undef, V.undef, V.undef, V.own [LT.int IntKind.i64] r442, V.f (F.lit (Value.int IntKind.i64 i443)), V.own [LT.int IntKind.i64] r444, V.f (F.lit (Value.int IntKind.i64 i445)), V.own [LT.int IntKind.i64, LT.int IntKind.i64] r446, V.f (F.lit (Value.int IntKind.i64 i447)), V.own [LT.int IntKind.i64] r448, V.f (F.lit (Value.int IntKind.i64 i449)), V.f (F.lit (Value.int IntKind.i64 i450)), V.undef, V.tup [V.undef, V.f (F.lit (Value.int IntKind.i64 i451))], V.undef, V.undef, V.tup [V.undef, V.f (F.lit (Value.int IntKind.i64 i452))], V.undef, V.undef, V.tup [V.undef, V.f (F.lit (Value.int IntKind.i64 i453))], V.undef, V.undef, V.undef, V.undef]) i437 r438 i439 i440 i441 r442 i443 r444 i445 r446 i447 r448 i449 i450 i451 i452 i453 := by kernel_rfl
def L28 (m : Nat) : LTbl := addJ 6 22 (brJn6_22 m (L27 m)) (L27 m)
theorem okL28 (m : Nat) : LTOk Try.prog H (L28 m) := addJ_ok (okT35 m) hM (okL27 m) (l := [2, 5, 7, 8, 9, 10, 11, 12, 13, 14, 15, 16, 17, 18, 19, 45, 55, 57, 58, 60, 63, 64, 66, 70, 71, 76, 149]) (by kernel_rfl) (by kernel_rfl) fun R vs k x h => by
    unfold brJn6_22 at h
    split at h
    · exact .inl ((evJn6_22 m R _ _ _ _ _ _ _ _ _ _ _ _ _ _ _ _ _ k).trans h)
    · exact .inr h

/-- a rest of hookflash/flashlaw2.SoundsMixed -/
def Jn6_21 {R : Type} (m : Nat) (kx0 : Bool → Option R) (i418 : Int) (r419 : Abs.Rows) (i420 : Int) (i421 : Int) (i422 : Int) (r423 : Abs.Rows) (i424 : Int) (r425 : Abs.Rows) (i426 : Int) (r427 : Abs.Rows) (i428 : Int) (r429 : Abs.Rows) (i430 : Int) (i431 : Int) (i432 : Int) (i433 : Int) : Option R :=
  Fn28v1 m r419 (fun i434 => bif decide (i421 < (0 : Int)) then (Fn24 m true ((1 : Int)) (fun i435 => Fn35 m ([[F.lit (Value.int IntKind.i64 i434)], [F.lit (Value.int IntKind.i64 i435)]]) (fun i436 => Jn6_22 m (fun b584 => kx0 b584) i418 r419 i420 i421 i422 r423 i424 r425 i426 r427 i428 r429 i430 i436 i431 i432 i433))) else
  (bif decide (i421 > (32767 : Int)) then (Fn24 m true ((1 : Int)) (fun i585 => Fn35 m ([[F.lit (Value.int IntKind.i64 i434)], [F.lit (Value.int IntKind.i64 i585)]]) (fun i586 => Jn6_22 m (fun b587 => kx0 b587) i418 r419 i420 i421 i422 r423 i424 r425 i426 r427 i428 r429 i430 i586 i431 i432 i433))) else
  (bif decide (i422 < (1 : Int)) then (Fn24 m true ((1 : Int)) (fun i588 => Fn35 m ([[F.lit (Value.int IntKind.i64 i434)], [F.lit (Value.int IntKind.i64 i588)]]) (fun i589 => Jn6_22 m (fun b590 => kx0 b590) i418 r419 i420 i421 i422 r423 i424 r425 i426 r427 i428 r429 i430 i589 i431 i432 i433))) else
  (Fn24 m (decide (i422 > (20000 : Int))) ((1 : Int)) (fun i591 => Fn35 m ([[F.lit (Value.int IntKind.i64 i434)], [F.lit (Value.int IntKind.i64 i591)]]) (fun i592 => Jn6_22 m (fun b593 => kx0 b593) i418 r419 i420 i421 i422 r423 i424 r425 i426 r427 i428 r429 i430 i592 i431 i432 i433))))))
def brJn6_21 (m : Nat) (L : LTbl) (R : Type) (vs : List V) (k : Ex → List V → Option R) : Option R := match vs with
  | [V.undef, V.f (F.lit (Value.int IntKind.i64 i418)), V.own [LT.int IntKind.i64] r419, V.f (F.lit (Value.int IntKind.i64 i420)), V.f (F.lit (Value.int IntKind.i64 i421)), V.f (F.lit (Value.int IntKind.i64 i422)), V.own [LT.int IntKind.i64] r423, V.f (F.lit (Value.int IntKind.i64 i424)), V.own [LT.int IntKind.i64] r425, V.f (F.lit (Value.int IntKind.i64 i426)), V.own [LT.int IntKind.i64, LT.int IntKind.i64] r427, V.f (F.lit (Value.int IntKind.i64 i428)), V.own [LT.int IntKind.i64] r429, V.f (F.lit (Value.int IntKind.i64 i430)), V.undef, V.tup [V.undef, V.f (F.lit (Value.int IntKind.i64 i431))], V.undef, V.undef, V.tup [V.undef, V.f (F.lit (Value.int IntKind.i64 i432))], V.undef, V.undef, V.tup [V.undef, V.f (F.lit (Value.int IntKind.i64 i433))], V.undef, V.undef, V.undef, V.undef] => Jn6_21 m (fun b594 => k Ex.ret [V.f (F.lit (Value.bool b594)), V.f (F.lit (Value.int IntKind.i64 i418)), V.undef, V.undef, V.undef, V.undef, V.own [LT.int IntKind.i64] r423, V.f (F.lit (Value.int IntKind.i64 i424)), V.own [LT.int IntKind.i64] r425, V.f (F.lit (Value.int IntKind.i64 i426)), V.own [LT.int IntKind.i64, LT.int IntKind.i64] r427, V.f (F.lit (Value.int IntKind.i64 i428)), V.own [LT.int IntKind.i64] r429, V.f (F.lit (Value.int IntKind.i64 i430)), V.undef, V.tup [V.undef, V.f (F.lit (Value.int IntKind.i64 i431))], V.undef, V.undef, V.tup [V.undef, V.f (F.lit (Value.int IntKind.i64 i432))], V.undef, V.undef, V.tup [V.undef, V.f (F.lit (Value.int IntKind.i64 i433))], V.undef, V.undef, V.undef, V.undef]) i418 r419 i420 i421 i422 r423 i424 r425 i426 r427 i428 r429 i430 i431 i432 i433
  | _ => L R 6 21 vs k
set_option maxRecDepth 100000 in
theorem evJn6_21 (m : Nat) (R : Type) (i418 : Int) (r419 : Abs.Rows) (i420 : Int) (i421 : Int) (i422 : Int) (r423 : Abs.Rows) (i424 : Int) (r425 : Abs.Rows) (i426 : Int) (r427 : Abs.Rows) (i428 : Int) (r429 : Abs.Rows) (i430 : Int) (i431 : Int) (i432 : Int) (i433 : Int) (k : Ex → List V → Option R) : codeK Try.prog H (T35 m) 6 (L28 m) 22 (loopBody Try.prog 6 21) (mkEnv [2, 5, 7, 8, 9, 10, 11, 12, 13, 14, 15, 16, 17, 18, 45, 55, 57, 58, 60, 63, 64, 66, 70, 71, 76, 149] [V.undef, V.f (F.lit (Value.int IntKind.i64 i418)), V.own [LT.int IntKind.i64] r419, V.f (F.lit (Value.int IntKind.i64 i420)), V.f (F.lit (Value.int IntKind.i64 i421)), V.f (F.lit (Value.int IntKind.i64 i422)), V.own [LT.int IntKind.i64] r423, V.f (F.lit (Value.int IntKind.i64 i424)), V.own [LT.int IntKind.i64] r425, V.f (F.lit (Value.int IntKind.i64 i426)), V.own [LT.int IntKind.i64, LT.int IntKind.i64] r427, V.f (F.lit (Value.int IntKind.i64 i428)), V.own [LT.int IntKind.i64] r429, V.f (F.lit (Value.int IntKind.i64 i430)), V.undef, V.tup [V.undef, V.f (F.lit (Value.int IntKind.i64 i431))], V.undef, V.undef, V.tup [V.undef, V.f (F.lit (Value.int IntKind.i64 i432))], V.undef, V.undef, V.tup [V.undef, V.f (F.lit (Value.int IntKind.i64 i433))], V.undef, V.undef, V.undef, V.undef] 0 (H.len 6)) (fun e env' => k e (vals [2, 5, 7, 8, 9, 10, 11, 12, 13, 14, 15, 16, 17, 18, 45, 55, 57, 58, 60, 63, 64, 66, 70, 71, 76, 149] env')) = Jn6_21 m (fun b594 => k Ex.ret [V.f (F.lit (Value.bool b594)), V.f (F.lit (Value.int IntKind.i64 i418)), V.undef, V.undef, V.undef, V.undef, V.own [LT.int IntKind.i64] r423, V.f (F.lit (Value.int IntKind.i64 i424)), V.own [LT.int IntKind.i64] r425, V.f (F.lit (Value.int IntKind.i64 i426)), V.own [LT.int IntKind.i64, LT.int IntKind.i64] r427, V.f (F.lit (Value.int IntKind.i64 i428)), V.own [LT.int IntKind.i64] r429, V.f (F.lit (Value.int IntKind.i64 i430)), V.undef, V.tup [V.undef, V.f (F.lit (Value.int IntKind.i64 i431))], V.undef, V.undef, V.tup [V.undef, V.f (F.lit (Value.int IntKind.i64 i432))], V.undef, V.undef, V.tup [V.undef, V.f (F.lit (Value.int IntKind.i64 i433))], V.undef, V.undef, V.undef, V.undef]) i418 r419 i420 i421 i422 r423 i424 r425 i426 r427 i428 r429 i430 i431 i432 i433 := by kernel_rfl
def L29 (m : Nat) : LTbl := addJ 6 21 (brJn6_21 m (L28 m)) (L28 m)
theorem okL29 (m : Nat) : LTOk Try.prog H (L29 m) := addJ_ok (okT35 m) hM (okL28 m) (l := [2, 5, 7, 8, 9, 10, 11, 12, 13, 14, 15, 16, 17, 18, 45, 55, 57, 58, 60, 63, 64, 66, 70, 71, 76, 149]) (by kernel_rfl) (by kernel_rfl) fun R vs k x h => by
    unfold brJn6_21 at h
    split at h
    · exact .inl ((evJn6_21 m R _ _ _ _ _ _ _ _ _ _ _ _ _ _ _ _ k).trans h)
    · exact .inr h

/-- a rest of hookflash/flashlaw2.SoundsMixed -/
def Jn6_20 {R : Type} (m : Nat) (kx0 : Bool → Option R) (i378 : Int) (r379 : Abs.Rows) (i380 : Int) (i381 : Int) (i382 : Int) (r383 : Abs.Rows) (i384 : Int) (r385 : Abs.Rows) (i386 : Int) (r387 : Abs.Rows) (i388 : Int) (r389 : Abs.Rows) (i390 : Int) (i391 : Int) (i392 : Int) : Option R :=
  Fn28v1 m r379 (fun i412 => bif decide (i380 < (0 : Int)) then (Fn24 m true ((1 : Int)) (fun i416 => Fn35 m ([[F.lit (Value.int IntKind.i64 i412)], [F.lit (Value.int IntKind.i64 i416)]]) (fun i417 => Jn6_21 m (fun b595 => kx0 b595) i378 r379 i380 i381 i382 r383 i384 r385 i386 r387 i388 r389 i417 i390 i391 i392))) else
  (Fn24 m (decide (i380 > (65536 : Int))) ((1 : Int)) (fun i596 => Fn35 m ([[F.lit (Value.int IntKind.i64 i412)], [F.lit (Value.int IntKind.i64 i596)]]) (fun i597 => Jn6_21 m (fun b598 => kx0 b598) i378 r379 i380 i381 i382 r383 i384 r385 i386 r387 i388 r389 i597 i390 i391 i392))))
def brJn6_20 (m : Nat) (L : LTbl) (R : Type) (vs : List V) (k : Ex → List V → Option R) : Option R := match vs with
  | [V.undef, V.f (F.lit (Value.int IntKind.i64 i378)), V.own [LT.int IntKind.i64] r379, V.f (F.lit (Value.int IntKind.i64 i380)), V.f (F.lit (Value.int IntKind.i64 i381)), V.f (F.lit (Value.int IntKind.i64 i382)), V.own [LT.int IntKind.i64] r383, V.f (F.lit (Value.int IntKind.i64 i384)), V.own [LT.int IntKind.i64] r385, V.f (F.lit (Value.int IntKind.i64 i386)), V.own [LT.int IntKind.i64, LT.int IntKind.i64] r387, V.f (F.lit (Value.int IntKind.i64 i388)), V.own [LT.int IntKind.i64] r389, V.undef, V.tup [V.undef, V.f (F.lit (Value.int IntKind.i64 i390))], V.undef, V.undef, V.tup [V.undef, V.f (F.lit (Value.int IntKind.i64 i391))], V.undef, V.undef, V.tup [V.undef, V.f (F.lit (Value.int IntKind.i64 i392))], V.undef, V.undef, V.undef, V.undef] => Jn6_20 m (fun b599 => k Ex.ret [V.f (F.lit (Value.bool b599)), V.f (F.lit (Value.int IntKind.i64 i378)), V.undef, V.undef, V.undef, V.undef, V.own [LT.int IntKind.i64] r383, V.f (F.lit (Value.int IntKind.i64 i384)), V.own [LT.int IntKind.i64] r385, V.f (F.lit (Value.int IntKind.i64 i386)), V.own [LT.int IntKind.i64, LT.int IntKind.i64] r387, V.f (F.lit (Value.int IntKind.i64 i388)), V.own [LT.int IntKind.i64] r389, V.undef, V.tup [V.undef, V.f (F.lit (Value.int IntKind.i64 i390))], V.undef, V.undef, V.tup [V.undef, V.f (F.lit (Value.int IntKind.i64 i391))], V.undef, V.undef, V.tup [V.undef, V.f (F.lit (Value.int IntKind.i64 i392))], V.undef, V.undef, V.undef, V.undef]) i378 r379 i380 i381 i382 r383 i384 r385 i386 r387 i388 r389 i390 i391 i392
  | _ => L R 6 20 vs k
set_option maxRecDepth 100000 in
theorem evJn6_20 (m : Nat) (R : Type) (i378 : Int) (r379 : Abs.Rows) (i380 : Int) (i381 : Int) (i382 : Int) (r383 : Abs.Rows) (i384 : Int) (r385 : Abs.Rows) (i386 : Int) (r387 : Abs.Rows) (i388 : Int) (r389 : Abs.Rows) (i390 : Int) (i391 : Int) (i392 : Int) (k : Ex → List V → Option R) : codeK Try.prog H (T35 m) 6 (L29 m) 21 (loopBody Try.prog 6 20) (mkEnv [2, 5, 7, 8, 9, 10, 11, 12, 13, 14, 15, 16, 17, 45, 55, 57, 58, 60, 63, 64, 66, 70, 71, 76, 149] [V.undef, V.f (F.lit (Value.int IntKind.i64 i378)), V.own [LT.int IntKind.i64] r379, V.f (F.lit (Value.int IntKind.i64 i380)), V.f (F.lit (Value.int IntKind.i64 i381)), V.f (F.lit (Value.int IntKind.i64 i382)), V.own [LT.int IntKind.i64] r383, V.f (F.lit (Value.int IntKind.i64 i384)), V.own [LT.int IntKind.i64] r385, V.f (F.lit (Value.int IntKind.i64 i386)), V.own [LT.int IntKind.i64, LT.int IntKind.i64] r387, V.f (F.lit (Value.int IntKind.i64 i388)), V.own [LT.int IntKind.i64] r389, V.undef, V.tup [V.undef, V.f (F.lit (Value.int IntKind.i64 i390))], V.undef, V.undef, V.tup [V.undef, V.f (F.lit (Value.int IntKind.i64 i391))], V.undef, V.undef, V.tup [V.undef, V.f (F.lit (Value.int IntKind.i64 i392))], V.undef, V.undef, V.undef, V.undef] 0 (H.len 6)) (fun e env' => k e (vals [2, 5, 7, 8, 9, 10, 11, 12, 13, 14, 15, 16, 17, 45, 55, 57, 58, 60, 63, 64, 66, 70, 71, 76, 149] env')) = Jn6_20 m (fun b599 => k Ex.ret [V.f (F.lit (Value.bool b599)), V.f (F.lit (Value.int IntKind.i64 i378)), V.undef, V.undef, V.undef, V.undef, V.own [LT.int IntKind.i64] r383, V.f (F.lit (Value.int IntKind.i64 i384)), V.own [LT.int IntKind.i64] r385, V.f (F.lit (Value.int IntKind.i64 i386)), V.own [LT.int IntKind.i64, LT.int IntKind.i64] r387, V.f (F.lit (Value.int IntKind.i64 i388)), V.own [LT.int IntKind.i64] r389, V.undef, V.tup [V.undef, V.f (F.lit (Value.int IntKind.i64 i390))], V.undef, V.undef, V.tup [V.undef, V.f (F.lit (Value.int IntKind.i64 i391))], V.undef, V.undef, V.tup [V.undef, V.f (F.lit (Value.int IntKind.i64 i392))], V.undef, V.undef, V.undef, V.undef]) i378 r379 i380 i381 i382 r383 i384 r385 i386 r387 i388 r389 i390 i391 i392 := by kernel_rfl
def L30 (m : Nat) : LTbl := addJ 6 20 (brJn6_20 m (L29 m)) (L29 m)
theorem okL30 (m : Nat) : LTOk Try.prog H (L30 m) := addJ_ok (okT35 m) hM (okL29 m) (l := [2, 5, 7, 8, 9, 10, 11, 12, 13, 14, 15, 16, 17, 45, 55, 57, 58, 60, 63, 64, 66, 70, 71, 76, 149]) (by kernel_rfl) (by kernel_rfl) fun R vs k x h => by
    unfold brJn6_20 at h
    split at h
    · exact .inl ((evJn6_20 m R _ _ _ _ _ _ _ _ _ _ _ _ _ _ _ k).trans h)
    · exact .inr h

/-- a rest of hookflash/flashlaw2.SoundsMixed -/
def Jn6_13 {R : Type} (m : Nat) (kx0 : Bool → Option R) (r154 : Abs.Rows) (i155 : Int) (r156 : Abs.Rows) (i157 : Int) : Option R :=
  Fn22 m r154 i155 ((10 : Int)) (fun r158 i159 => Fn20 m r154 i159 ([[F.lit (Value.int IntKind.i64 (0 : Int))], [F.lit (Value.int IntKind.i64 (128 : Int))], [F.lit (Value.int IntKind.i64 (255 : Int))], [F.lit (Value.int IntKind.i64 (256 : Int))], [F.lit (Value.int IntKind.i64 (1000 : Int))], [F.lit (Value.int IntKind.i64 (65536 : Int))], [F.lit (Value.int IntKind.i64 (-1 : Int))], [F.lit (Value.int IntKind.i64 (65537 : Int))]]) (fun i160 i161 => Fn20 m r154 i161 ([[F.lit (Value.int IntKind.i64 (0 : Int))], [F.lit (Value.int IntKind.i64 (1 : Int))], [F.lit (Value.int IntKind.i64 (5 : Int))], [F.lit (Value.int IntKind.i64 (32767 : Int))], [F.lit (Value.int IntKind.i64 (-1 : Int))], [F.lit (Value.int IntKind.i64 (32768 : Int))]]) (fun i162 i163 => Fn20 m r154 i163 ([[F.lit (Value.int IntKind.i64 (1 : Int))], [F.lit (Value.int IntKind.i64 (2 : Int))], [F.lit (Value.int IntKind.i64 (3 : Int))], [F.lit (Value.int IntKind.i64 (0 : Int))], [F.lit (Value.int IntKind.i64 (20001 : Int))]]) (fun i164 i165 => Fn40 m r156 (fun r245 i246 => Fn41 m r158 i160 (fun r278 i279 => Fn42 m r158 i162 i164 (fun r326 i327 => bif i157 == (0 : Int) then (Fn43 m r156 (fun r377 => Jn6_20 m (fun b600 => kx0 b600) i157 r158 i160 i162 i164 r245 i246 r278 i279 r326 i327 r377 i246 i279 i327)) else
  (Jn6_20 m (fun b601 => kx0 b601) i157 r158 i160 i162 i164 r245 i246 r278 i279 r326 i327 rows0 i246 i279 i327))))))))
def brJn6_13 (m : Nat) (L : LTbl) (R : Type) (vs : List V) (k : Ex → List V → Option R) : Option R := match vs with
  | [V.undef, V.obj [V.f (F.lst [LT.int IntKind.i64] r154), V.f (F.lit (Value.int IntKind.i64 i155))], V.own [LT.lst [LT.int IntKind.i64]] r156, V.f (F.lit (Value.int IntKind.i64 i157)), V.undef, V.undef, V.undef, V.undef] => Jn6_13 m (fun b602 => k Ex.ret [V.f (F.lit (Value.bool b602)), V.undef, V.undef, V.f (F.lit (Value.int IntKind.i64 i157)), V.undef, V.undef, V.undef, V.undef]) r154 i155 r156 i157
  | _ => L R 6 13 vs k
set_option maxRecDepth 100000 in
theorem evJn6_13 (m : Nat) (R : Type) (r154 : Abs.Rows) (i155 : Int) (r156 : Abs.Rows) (i157 : Int) (k : Ex → List V → Option R) : codeK Try.prog H (T35 m) 6 (L30 m) 14 (loopBody Try.prog 6 13) (mkEnv [2, 3, 4, 5, 24, 34, 43, 149] [V.undef, V.obj [V.f (F.lst [LT.int IntKind.i64] r154), V.f (F.lit (Value.int IntKind.i64 i155))], V.own [LT.lst [LT.int IntKind.i64]] r156, V.f (F.lit (Value.int IntKind.i64 i157)), V.undef, V.undef, V.undef, V.undef] 0 (H.len 6)) (fun e env' => k e (vals [2, 3, 4, 5, 24, 34, 43, 149] env')) = Jn6_13 m (fun b602 => k Ex.ret [V.f (F.lit (Value.bool b602)), V.undef, V.undef, V.f (F.lit (Value.int IntKind.i64 i157)), V.undef, V.undef, V.undef, V.undef]) r154 i155 r156 i157 := by kernel_rfl
def L31 (m : Nat) : LTbl := addJ 6 13 (brJn6_13 m (L30 m)) (L30 m)
theorem okL31 (m : Nat) : LTOk Try.prog H (L31 m) := addJ_ok (okT35 m) hM (okL30 m) (l := [2, 3, 4, 5, 24, 34, 43, 149]) (by kernel_rfl) (by kernel_rfl) fun R vs k x h => by
    unfold brJn6_13 at h
    split at h
    · exact .inl ((evJn6_13 m R _ _ _ _ k).trans h)
    · exact .inr h

/-- hookflash/flashlaw2.SoundsMixed -/
def Fn6 {R : Type} (m : Nat) : Abs.Rows → (Bool → Option R) → Option R := match m with
  | 0 => fun _ _ => none
  | m + 1 => fun r1 k =>
  Fn21 m r1 ((0 : Int)) ((0 : Int)) ((4 : Int)) (fun i23 i24 => Lp6_5 m (fun i148 r149 i150 i151 => Fn39 m r1 i148 ((40 : Int)) (fun b152 i153 => bif b152 then (Jn6_13 m (fun b603 => k b603) r1 i153 ([[F.lst [LT.int IntKind.i64] rows0], [F.lst [LT.int IntKind.i64] rows0], [F.lst [LT.int IntKind.i64] rows0], [F.lst [LT.int IntKind.i64] rows0], [F.lst [LT.int IntKind.i64] rows0], [F.lst [LT.int IntKind.i64] rows0], [F.lst [LT.int IntKind.i64] rows0], [F.lst [LT.int IntKind.i64] rows0], [F.lst [LT.int IntKind.i64] rows0], [F.lst [LT.int IntKind.i64] rows0], [F.lst [LT.int IntKind.i64] rows0], [F.lst [LT.int IntKind.i64] rows0], [F.lst [LT.int IntKind.i64] rows0], [F.lst [LT.int IntKind.i64] rows0], [F.lst [LT.int IntKind.i64] rows0], [F.lst [LT.int IntKind.i64] rows0], [F.lst [LT.int IntKind.i64] rows0], [F.lst [LT.int IntKind.i64] rows0], [F.lst [LT.int IntKind.i64] rows0], [F.lst [LT.int IntKind.i64] rows0], [F.lst [LT.int IntKind.i64] rows0]]) ((2 : Int))) else
  (Jn6_13 m (fun b604 => k b604) r1 i153 r149 i150))) r1 i23 m i24 rows0 ((0 : Int)) ((0 : Int)))
def brFn6 (m : Nat) (T : Tbl) (R : Type) (vs : List V) (k : V → List V → Option R) : Option R := match vs with
  | [V.f (F.lst [LT.int IntKind.i64] r1)] => Fn6 m r1 (fun b605 => k (V.f (F.lit (Value.bool b605))) [V.undef])
  | _ => T R 6 vs k
set_option maxRecDepth 100000 in
theorem evFn6 (m : Nat) (R : Type) (r1 : Abs.Rows) (k : V → List V → Option R) : runK Try.prog H (T35 m) (L31 m) 6 [V.f (F.lst [LT.int IntKind.i64] r1)] k = Fn6 (m + 1) r1 (fun b605 => k (V.f (F.lit (Value.bool b605))) [V.undef]) := by kernel_rfl
def T36 (m : Nat) : Tbl := addT 6 (brFn6 m (T35 m)) (T35 m)
theorem okT36 (m : Nat) : TblOk Try.prog (T36 m) := addT_ok (okT35 m) fun R vs k x h => by
  unfold brFn6 at h
  split at h
  · cases m with
    | zero => cases h
    | succ m => exact runK_some (okT35 m) hM (okL31 m) ((evFn6 m R _ k).trans h)
  · exact okT35 m R 6 _ k x h

end Go.Proofs.Ytjhfbmhblpjigaa.Med
end
