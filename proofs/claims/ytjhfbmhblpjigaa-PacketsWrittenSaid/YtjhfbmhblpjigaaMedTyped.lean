/- A part of the proofs of the seat Ytjhfbmhblpjigaa: no statement of the seat stands here. -/
import Derived.Test.YtjhfbmhblpjigaaProg
import Derived.KernelRfl
import Derived.Test.YtjhfbmhblpjigaaAbsC
section
set_option linter.unusedVariables false
set_option linter.unusedSimpArgs false
namespace Go.Proofs.Ytjhfbmhblpjigaa.Med
open Go.Abs
def H : Hints where
  mode := fun f j => match f, j with
    | 62, 0 => .own
    | _, _ => .bor
  mv := fun f t => match f, t with
    | 3, 2 => true
    | 4, 2 => true
    | 5, 2 => true
    | 6, 2 => true
    | 7, 2 => true
    | 8, 2 => true
    | 10, 2 => true
    | 11, 2 => true
    | 11, 3 => true
    | 12, 2 => true
    | 13, 2 => true
    | 14, 3 => true
    | 15, 3 => true
    | 16, 2 => true
    | 17, 4 => true
    | 18, 4 => true
    | 19, 0 => true
    | 20, 4 => true
    | 21, 6 => true
    | 22, 4 => true
    | 23, 2 => true
    | 23, 3 => true
    | 24, 4 => true
    | 25, 2 => true
    | 26, 2 => true
    | 27, 2 => true
    | 27, 3 => true
    | 28, 2 => true
    | 29, 2 => true
    | 30, 2 => true
    | 30, 3 => true
    | 31, 2 => true
    | 32, 2 => true
    | 33, 4 => true
    | 34, 6 => true
    | 34, 7 => true
    | 35, 2 => true
    | 36, 2 => true
    | 37, 6 => true
    | 38, 4 => true
    | 39, 4 => true
    | 40, 2 => true
    | 40, 3 => true
    | 41, 4 => true
    | 41, 5 => true
    | 42, 6 => true
    | 42, 7 => true
    | 43, 2 => true
    | 44, 4 => true
    | 45, 6 => true
    | 46, 4 => true
    | 47, 2 => true
    | 47, 3 => true
    | 48, 3 => true
    | 49, 2 => true
    | 50, 2 => true
    | 52, 2 => true
    | 53, 2 => true
    | 54, 4 => true
    | 54, 5 => true
    | 55, 4 => true
    | 55, 5 => true
    | 56, 2 => true
    | 56, 3 => true
    | 57, 2 => true
    | 59, 4 => true
    | 60, 6 => true
    | 61, 4 => true
    | 62, 6 => true
    | 63, 6 => true
    | 64, 2 => true
    | 65, 2 => true
    | 66, 2 => true
    | 67, 6 => true
    | 68, 2 => true
    | 69, 4 => true
    | 70, 2 => true
    | 71, 4 => true
    | 72, 4 => true
    | 73, 2 => true
    | 74, 4 => true
    | 75, 4 => true
    | 76, 2 => true
    | 77, 2 => true
    | 78, 2 => true
    | 79, 2 => true
    | 80, 2 => true
    | 81, 2 => true
    | 82, 4 => true
    | 83, 4 => true
    | 84, 4 => true
    | 85, 0 => true
    | 86, 0 => true
    | 87, 4 => true
    | 88, 4 => true
    | 89, 0 => true
    | 90, 0 => true
    | 91, 4 => true
    | 91, 5 => true
    | 92, 4 => true
    | 93, 4 => true
    | 94, 4 => true
    | 95, 6 => true
    | 96, 4 => true
    | 97, 4 => true
    | 98, 4 => true
    | 99, 4 => true
    | _, _ => false
  live := fun f i => match f, i with
    | 4, 0 => some [3, 4, 5, 6, 21, 26, 28, 30, 31, 147]
    | 4, 1 => some [5, 6, 9, 10, 11, 12, 28, 38, 48, 70, 72, 73, 74, 76, 79, 80, 81, 147]
    | 4, 2 => some [2, 6, 15, 16, 38, 106, 108, 109, 110, 111, 112, 113, 147]
    | 6, 0 => some [3, 4, 5, 24, 26, 27, 149]
    | 13, 0 => some [1, 3, 10, 27, 28, 29, 54]
    | 13, 1 => some [1, 3, 5, 6, 10, 27, 28, 29, 35, 54]
    | 17, 0 => some [0, 1, 4, 12, 13, 26, 27]
    | 22, 0 => some [0, 5, 8, 9, 34, 35]
    | 23, 0 => some [0, 4, 5, 6, 11, 16, 20, 45]
    | 26, 0 => some [0, 3, 4, 5, 6, 11, 15, 32]
    | 27, 0 => some [0, 5, 15, 16, 17, 18, 33]
    | 29, 0 => some [0, 2, 8, 9, 10, 18]
    | 30, 0 => some [0, 4, 12, 13, 14, 15, 27]
    | 34, 0 => some [0, 1, 9, 10, 33, 36, 37, 38, 39, 126, 127, 128]
    | 34, 1 => some [0, 1, 9, 10, 12, 13, 33, 36, 37, 38, 39, 51, 64, 65, 66, 67, 68, 126, 127, 128]
    | 34, 2 => some [9, 10, 33, 36, 102, 103, 126, 127, 128]
    | 35, 0 => some [0, 2, 5, 6, 7, 15]
    | 36, 0 => some [0, 2, 9, 10, 11, 51]
    | 37, 0 => some [0, 1, 7, 8, 18, 21, 22, 23, 24, 112, 113, 114]
    | 37, 1 => some [0, 1, 7, 8, 10, 11, 18, 21, 22, 23, 24, 36, 49, 50, 51, 52, 53, 112, 113, 114]
    | 37, 2 => some [7, 8, 18, 21, 88, 89, 112, 113, 114]
    | 38, 0 => some [0, 1, 4, 12, 13, 26, 27]
    | 40, 0 => some [0, 2, 3, 4, 17, 18, 19, 72]
    | 40, 1 => some [0, 8, 34, 35, 36, 37, 72]
    | 40, 2 => some [0, 8, 10, 34, 35, 36, 37, 39, 40, 41, 42, 43, 72]
    | 40, 3 => some [8, 34, 58, 59, 72]
    | 41, 0 => some [0, 1, 7, 20, 21, 22, 23, 38, 39]
    | 42, 0 => some [0, 1, 2, 9, 10, 27, 28, 60, 61, 62]
    | 43, 0 => some [0, 3, 9, 10, 11, 54]
    | 43, 1 => some [0, 3, 5, 9, 10, 11, 13, 14, 54]
    | 43, 2 => some [0, 3, 5, 9, 10, 11, 13, 14, 22, 23, 24, 25, 54]
    | 43, 3 => some [3, 22, 40, 41, 54]
    | 44, 0 => some [0, 1, 5, 8, 9, 10, 24, 25]
    | 45, 0 => some [0, 1, 2, 7, 8, 12, 13, 45, 46, 47]
    | 46, 0 => some [0, 1, 4, 12, 13, 26, 27]
    | 48, 0 => some [0, 2, 5, 6, 7, 8, 9, 25, 26, 27, 28, 29, 30, 31, 32, 33, 34, 35, 123]
    | 48, 1 => some [0, 2, 5, 12, 123]
    | 49, 0 => some [0, 2, 9, 10, 11, 49]
    | 50, 0 => some [0, 3, 4, 13, 14, 15, 88]
    | 50, 1 => some [0, 3, 4, 5, 7, 13, 14, 15, 17, 23, 34, 39, 40, 41, 88]
    | 51, 0 => some [0, 2, 3, 4, 10, 22, 23, 24, 112]
    | 51, 1 => some [0, 2, 4, 7, 112]
    | 53, 0 => some [0, 3, 13, 14, 84]
    | 53, 1 => some [0, 3, 6, 7, 13, 14, 63, 65, 68, 69, 84]
    | 54, 0 => some [7, 25, 32, 33, 34, 48, 49]
    | 55, 0 => some [7, 8, 20, 27, 29, 30, 45, 46]
    | 56, 0 => some [0, 5, 6, 7, 8, 71]
    | 57, 0 => some [0, 3, 82]
    | 57, 1 => some [3, 6, 7, 30, 38, 82]
    | 57, 2 => some [3, 6, 7, 8, 30, 38, 43, 82]
    | 58, 0 => some [0, 2, 3, 20, 21, 33]
    | 61, 0 => some [0, 4, 5, 8, 10, 11, 64, 65]
    | 62, 0 => some [0, 1, 7, 9, 23, 24, 25]
    | 64, 0 => some [0, 3, 6, 7, 8, 19]
    | 65, 0 => some [0, 3, 6, 7, 8, 19]
    | 71, 0 => some [0, 5, 6, 7, 8, 9, 14, 17, 19, 22, 25, 26, 128, 129]
    | 71, 1 => some [0, 5, 6, 7, 8, 9, 10, 14, 17, 19, 22, 25, 26, 35, 36, 128, 129]
    | 78, 0 => some [0, 3, 4, 8, 9, 10, 35]
    | 80, 0 => some [0, 3, 4, 9, 10, 11, 25]
    | 81, 0 => some [0, 3, 4, 9, 10, 11, 25]
    | 83, 0 => some [0, 1, 4, 7, 8, 19, 20]
    | 84, 0 => some [0, 5, 8, 10, 11, 43, 44]
    | 88, 0 => some [0, 1, 5, 7, 8, 43, 44]
    | 91, 0 => some [0, 1, 6, 7, 12, 13, 14, 62, 63]
    | 91, 1 => some [4, 5, 6, 7, 8, 14, 16, 24, 34, 35, 36, 37, 38, 62, 63]
    | 92, 0 => some [0, 1, 5, 11, 12, 13, 56, 57]
    | 92, 1 => some [4, 5, 8, 22, 27, 28, 29, 30, 56, 57]
    | 94, 0 => some [0, 1, 4, 7, 8, 19, 20]
    | 96, 0 => some [0, 1, 4, 7, 8, 19, 20]
    | 98, 0 => some [0, 1, 5, 6, 10, 11, 12, 42, 43]
    | 99, 0 => some [0, 1, 5, 6, 9, 10, 11, 40, 41]
    | _, _ => none
  len := fun f => match f with
    | 3 => 70
    | 4 => 148
    | 5 => 66
    | 6 => 150
    | 7 => 76
    | 8 => 102
    | 9 => 37
    | 10 => 21
    | 11 => 35
    | 12 => 32
    | 13 => 55
    | 14 => 42
    | 15 => 46
    | 16 => 32
    | 17 => 28
    | 18 => 40
    | 19 => 3
    | 20 => 14
    | 21 => 22
    | 22 => 36
    | 23 => 46
    | 24 => 9
    | 25 => 6
    | 26 => 33
    | 27 => 34
    | 28 => 9
    | 29 => 19
    | 30 => 28
    | 31 => 25
    | 32 => 32
    | 33 => 58
    | 34 => 129
    | 35 => 16
    | 36 => 52
    | 37 => 115
    | 38 => 28
    | 39 => 11
    | 40 => 73
    | 41 => 40
    | 42 => 63
    | 43 => 55
    | 44 => 26
    | 45 => 48
    | 46 => 28
    | 47 => 13
    | 48 => 124
    | 49 => 50
    | 50 => 89
    | 51 => 113
    | 52 => 7
    | 53 => 85
    | 54 => 50
    | 55 => 47
    | 56 => 72
    | 57 => 83
    | 58 => 34
    | 59 => 66
    | 60 => 25
    | 61 => 66
    | 62 => 26
    | 63 => 18
    | 64 => 20
    | 65 => 20
    | 66 => 9
    | 67 => 18
    | 68 => 6
    | 69 => 11
    | 70 => 7
    | 71 => 130
    | 72 => 17
    | 73 => 6
    | 74 => 14
    | 75 => 18
    | 76 => 7
    | 77 => 7
    | 78 => 36
    | 79 => 10
    | 80 => 26
    | 81 => 26
    | 82 => 11
    | 83 => 21
    | 84 => 45
    | 85 => 2
    | 86 => 2
    | 87 => 10
    | 88 => 45
    | 89 => 2
    | 90 => 2
    | 91 => 64
    | 92 => 58
    | 93 => 18
    | 94 => 21
    | 95 => 27
    | 96 => 21
    | 97 => 10
    | 98 => 44
    | 99 => 42
    | _ => 0

end Go.Proofs.Ytjhfbmhblpjigaa.Med
end
section
set_option linter.unusedVariables false
set_option linter.unusedSimpArgs false
namespace Go.Proofs.Ytjhfbmhblpjigaa.Med
open Go Go.Abs Go.Proofs
set_option linter.unusedVariables false
theorem hM : Try.prog.follows .mixedOrders = true := by kernel_rfl
section
set_option maxRecDepth 100000
theorem cl66a (cap : Nat) (R : Type) (k : V → List V → Option R) : runK Try.prog H noT noL 66 [.f (.lit (.slice none 0 cap))] k = k (.own [.int .u8] []) [.undef] := by kernel_rfl
theorem cl66b (a : Addr) (cap : Nat) (R : Type) (k : V → List V → Option R) : runK Try.prog H noT noL 66 [.f (.lit (.slice (some a) 0 cap))] k = k (.own [.int .u8] []) [.undef] := by kernel_rfl
theorem cl66c (r : List F) (rs : Abs.Rows) (R : Type) (k : V → List V → Option R) : runK Try.prog H noT noL 66 [.bor [.int .u8] (r :: rs)] k = bif decide (0 + (r :: rs).length ≤ rowMax) then k (.own [.int .u8] (r :: rs)) [.undef] else none := by kernel_rfl
end
theorem clone66 (rows : Abs.Rows) (h : lenOk rows = true) : FnOk Try.prog 66 [.bor [.int .u8] rows] (.own [.int .u8] rows) [.undef] := by
  refine clone_ok (fun cap => fnOk_runK (tbl := noT) (lt := noL) (H := H) noT_ok hM noL_ok (cl66a cap)) (fun a cap => fnOk_runK (tbl := noT) (lt := noL) (H := H) noT_ok hM noL_ok (cl66b a cap)) (fun r rs hl => fnOk_runK (tbl := noT) (lt := noL) (H := H) noT_ok hM noL_ok fun R k => ?_) rows h
  rw [cl66c r rs R k, show decide (0 + (r :: rs).length ≤ rowMax) = true from by rw [Nat.zero_add]; exact hl]
  rfl
def T0 (_ : Nat) : Tbl := addT 66 (brClone [.int .u8] 66 noT) noT
def L0 (_ : Nat) : LTbl := noL
theorem okT0 (m : Nat) : TblOk Try.prog (T0 m) := brClone_ok noT_ok clone66
theorem okL0 (m : Nat) : LTOk Try.prog H (L0 m) := noL_ok
/-- hookflash/flashmake.Below -/
def Fn93 {R : Type} (m : Nat) : Int → Int → (Int → Option R) → Option R := match m with
  | 0 => fun _ _ _ => none
  | m + 1 => fun i12 i13 k =>
  bif decide (i13 < (1 : Int)) then (k ((0 : Int))) else
  (bif decide (i13 ≠ (0 : Int)) then (bif decide (Int.tmod i12 i13 < (0 : Int)) then (k (IntKind.wrap IntKind.i64 (Int.tmod i12 i13 + i13))) else
  (k (Int.tmod i12 i13))) else
  (none))
def brFn93 (m : Nat) (T : Tbl) (R : Type) (vs : List V) (k : V → List V → Option R) : Option R := match vs with
  | [V.f (F.lit (Value.int IntKind.i64 i12)), V.f (F.lit (Value.int IntKind.i64 i13))] => Fn93 m i12 i13 (fun i14 => k (V.f (F.lit (Value.int IntKind.i64 i14))) [V.undef, V.undef])
  | _ => T R 93 vs k
set_option maxRecDepth 100000 in
theorem evFn93 (m : Nat) (R : Type) (i12 : Int) (i13 : Int) (k : V → List V → Option R) : runK Try.prog H (T0 m) (L0 m) 93 [V.f (F.lit (Value.int IntKind.i64 i12)), V.f (F.lit (Value.int IntKind.i64 i13))] k = Fn93 (m + 1) i12 i13 (fun i14 => k (V.f (F.lit (Value.int IntKind.i64 i14))) [V.undef, V.undef]) := by kernel_rfl
def T1 (m : Nat) : Tbl := addT 93 (brFn93 m (T0 m)) (T0 m)
theorem okT1 (m : Nat) : TblOk Try.prog (T1 m) := addT_ok (okT0 m) fun R vs k x h => by
  unfold brFn93 at h
  split at h
  · cases m with
    | zero => cases h
    | succ m => exact runK_some (okT0 m) hM (okL0 m) ((evFn93 m R _ _ k).trans h)
  · exact okT0 m R 93 _ k x h

/-- (*hookflash/flashmake.Stream).Next -/
def Fn59 {R : Type} (m : Nat) : Abs.Rows → Int → Int → (Int → Int → Option R) → Option R := match m with
  | 0 => fun _ _ _ _ => none
  | m + 1 => fun r9 i10 i11 k =>
  bif (↑(List.length r9) : Int) == (0 : Int) then (Fn93 m (IntKind.wrap IntKind.i64 (IntKind.wrap IntKind.i64 (i10 + (1 : Int)) * (7919 : Int))) i11 (fun i15 => k i15 (IntKind.wrap IntKind.i64 (i10 + (1 : Int))))) else
  (bif decide ((↑(List.length r9) : Int) ≠ (0 : Int)) then (bif decide ((↑(List.length r9) : Int) ≠ (0 : Int)) then (bif decide ((0 : Int) ≤ Int.tmod (IntKind.wrap IntKind.i64 (IntKind.wrap IntKind.i64 (i10 + (1 : Int)) - (1 : Int))) (↑(List.length r9) : Int) ∧ Int.tmod (IntKind.wrap IntKind.i64 (IntKind.wrap IntKind.i64 (i10 + (1 : Int)) - (1 : Int))) (↑(List.length r9) : Int) < (↑(List.length r9) : Int)) then (Fn93 m (F.toInt (List.headD (Abs.rowAt r9 (Int.toNat (Int.tmod (IntKind.wrap IntKind.i64 (IntKind.wrap IntKind.i64 (i10 + (1 : Int)) - (1 : Int))) (↑(List.length r9) : Int)))) default)) ((1073741824 : Int)) (fun i16 => Fn93 m (IntKind.wrap IntKind.i64 (i16 + IntKind.wrap IntKind.i64 (IntKind.wrap IntKind.i64 (Int.tdiv (IntKind.wrap IntKind.i64 (IntKind.wrap IntKind.i64 (i10 + (1 : Int)) - (1 : Int))) (↑(List.length r9) : Int)) * IntKind.wrap IntKind.i64 ((7919 : Int) + Int.tmod (IntKind.wrap IntKind.i64 (IntKind.wrap IntKind.i64 (i10 + (1 : Int)) - (1 : Int))) (↑(List.length r9) : Int))))) i11 (fun i17 => k i17 (IntKind.wrap IntKind.i64 (i10 + (1 : Int)))))) else
  (none)) else
  (none)) else
  (none))
def brFn59 (m : Nat) (T : Tbl) (R : Type) (vs : List V) (k : V → List V → Option R) : Option R := match vs with
  | [V.obj [V.f (F.lst [LT.int IntKind.i64] r9), V.f (F.lit (Value.int IntKind.i64 i10))], V.f (F.lit (Value.int IntKind.i64 i11))] => Fn59 m r9 i10 i11 (fun i18 i19 => k (V.f (F.lit (Value.int IntKind.i64 i18))) [V.obj [V.f (F.lst [LT.int IntKind.i64] r9), V.f (F.lit (Value.int IntKind.i64 i19))], V.undef])
  | _ => T R 59 vs k
set_option maxRecDepth 100000 in
theorem evFn59 (m : Nat) (R : Type) (r9 : Abs.Rows) (i10 : Int) (i11 : Int) (k : V → List V → Option R) : runK Try.prog H (T1 m) (L0 m) 59 [V.obj [V.f (F.lst [LT.int IntKind.i64] r9), V.f (F.lit (Value.int IntKind.i64 i10))], V.f (F.lit (Value.int IntKind.i64 i11))] k = Fn59 (m + 1) r9 i10 i11 (fun i18 i19 => k (V.f (F.lit (Value.int IntKind.i64 i18))) [V.obj [V.f (F.lst [LT.int IntKind.i64] r9), V.f (F.lit (Value.int IntKind.i64 i19))], V.undef]) := by kernel_rfl
def T2 (m : Nat) : Tbl := addT 59 (brFn59 m (T1 m)) (T1 m)
theorem okT2 (m : Nat) : TblOk Try.prog (T2 m) := addT_ok (okT1 m) fun R vs k x h => by
  unfold brFn59 at h
  split at h
  · cases m with
    | zero => cases h
    | succ m => exact runK_some (okT1 m) hM (okL0 m) ((evFn59 m R _ _ _ k).trans h)
  · exact okT1 m R 59 _ k x h

/-- (*hookflash/flashmake.Stream).Pick -/
def Fn20 {R : Type} (m : Nat) : Abs.Rows → Int → Abs.Rows → (Int → Int → Option R) → Option R := match m with
  | 0 => fun _ _ _ _ => none
  | m + 1 => fun r6 i7 r8 k =>
  Fn59 m r6 i7 ((↑(List.length r8) : Int)) (fun i20 i21 => bif decide ((0 : Int) ≤ i20 ∧ i20 < (↑(List.length r8) : Int)) then (k (F.toInt (List.headD (Abs.rowAt r8 (Int.toNat i20)) default)) i21) else
  (none))
def brFn20 (m : Nat) (T : Tbl) (R : Type) (vs : List V) (k : V → List V → Option R) : Option R := match vs with
  | [V.obj [V.f (F.lst [LT.int IntKind.i64] r6), V.f (F.lit (Value.int IntKind.i64 i7))], V.bor [LT.int IntKind.i64] r8] => Fn20 m r6 i7 r8 (fun i22 i23 => k (V.f (F.lit (Value.int IntKind.i64 i22))) [V.obj [V.f (F.lst [LT.int IntKind.i64] r6), V.f (F.lit (Value.int IntKind.i64 i23))], V.undef])
  | _ => T R 20 vs k
set_option maxRecDepth 100000 in
theorem evFn20 (m : Nat) (R : Type) (r6 : Abs.Rows) (i7 : Int) (r8 : Abs.Rows) (k : V → List V → Option R) : runK Try.prog H (T2 m) (L0 m) 20 [V.obj [V.f (F.lst [LT.int IntKind.i64] r6), V.f (F.lit (Value.int IntKind.i64 i7))], V.bor [LT.int IntKind.i64] r8] k = Fn20 (m + 1) r6 i7 r8 (fun i22 i23 => k (V.f (F.lit (Value.int IntKind.i64 i22))) [V.obj [V.f (F.lst [LT.int IntKind.i64] r6), V.f (F.lit (Value.int IntKind.i64 i23))], V.undef]) := by kernel_rfl
def T3 (m : Nat) : Tbl := addT 20 (brFn20 m (T2 m)) (T2 m)
theorem okT3 (m : Nat) : TblOk Try.prog (T3 m) := addT_ok (okT2 m) fun R vs k x h => by
  unfold brFn20 at h
  split at h
  · cases m with
    | zero => cases h
    | succ m => exact runK_some (okT2 m) hM (okL0 m) ((evFn20 m R _ _ _ k).trans h)
  · exact okT2 m R 20 _ k x h

/-- (*hookflash/flashmake.Stream).Flip -/
def Fn39 {R : Type} (m : Nat) : Abs.Rows → Int → Int → (Bool → Int → Option R) → Option R := match m with
  | 0 => fun _ _ _ _ => none
  | m + 1 => fun r32 i33 i34 k =>
  Fn59 m r32 i33 i34 (fun i35 i36 => k (i35 == (0 : Int)) i36)
def brFn39 (m : Nat) (T : Tbl) (R : Type) (vs : List V) (k : V → List V → Option R) : Option R := match vs with
  | [V.obj [V.f (F.lst [LT.int IntKind.i64] r32), V.f (F.lit (Value.int IntKind.i64 i33))], V.f (F.lit (Value.int IntKind.i64 i34))] => Fn39 m r32 i33 i34 (fun b37 i38 => k (V.f (F.lit (Value.bool b37))) [V.obj [V.f (F.lst [LT.int IntKind.i64] r32), V.f (F.lit (Value.int IntKind.i64 i38))], V.undef])
  | _ => T R 39 vs k
set_option maxRecDepth 100000 in
theorem evFn39 (m : Nat) (R : Type) (r32 : Abs.Rows) (i33 : Int) (i34 : Int) (k : V → List V → Option R) : runK Try.prog H (T3 m) (L0 m) 39 [V.obj [V.f (F.lst [LT.int IntKind.i64] r32), V.f (F.lit (Value.int IntKind.i64 i33))], V.f (F.lit (Value.int IntKind.i64 i34))] k = Fn39 (m + 1) r32 i33 i34 (fun b37 i38 => k (V.f (F.lit (Value.bool b37))) [V.obj [V.f (F.lst [LT.int IntKind.i64] r32), V.f (F.lit (Value.int IntKind.i64 i38))], V.undef]) := by kernel_rfl
def T4 (m : Nat) : Tbl := addT 39 (brFn39 m (T3 m)) (T3 m)
theorem okT4 (m : Nat) : TblOk Try.prog (T4 m) := addT_ok (okT3 m) fun R vs k x h => by
  unfold brFn39 at h
  split at h
  · cases m with
    | zero => cases h
    | succ m => exact runK_some (okT3 m) hM (okL0 m) ((evFn39 m R _ _ _ k).trans h)
  · exact okT3 m R 39 _ k x h

/-- (*hookflash/flashmake.Stream).Range -/
def Fn21 {R : Type} (m : Nat) : Abs.Rows → Int → Int → Int → (Int → Int → Option R) → Option R := match m with
  | 0 => fun _ _ _ _ _ => none
  | m + 1 => fun r41 i42 i43 i44 k =>
  bif decide (i44 < i43) then (k i43 i42) else
  (Fn59 m r41 i42 (IntKind.wrap IntKind.i64 (IntKind.wrap IntKind.i64 (i44 - i43) + (1 : Int))) (fun i45 i46 => k (IntKind.wrap IntKind.i64 (i43 + i45)) i46))
def brFn21 (m : Nat) (T : Tbl) (R : Type) (vs : List V) (k : V → List V → Option R) : Option R := match vs with
  | [V.obj [V.f (F.lst [LT.int IntKind.i64] r41), V.f (F.lit (Value.int IntKind.i64 i42))], V.f (F.lit (Value.int IntKind.i64 i43)), V.f (F.lit (Value.int IntKind.i64 i44))] => Fn21 m r41 i42 i43 i44 (fun i47 i48 => k (V.f (F.lit (Value.int IntKind.i64 i47))) [V.obj [V.f (F.lst [LT.int IntKind.i64] r41), V.f (F.lit (Value.int IntKind.i64 i48))], V.undef, V.undef])
  | _ => T R 21 vs k
set_option maxRecDepth 100000 in
theorem evFn21 (m : Nat) (R : Type) (r41 : Abs.Rows) (i42 : Int) (i43 : Int) (i44 : Int) (k : V → List V → Option R) : runK Try.prog H (T4 m) (L0 m) 21 [V.obj [V.f (F.lst [LT.int IntKind.i64] r41), V.f (F.lit (Value.int IntKind.i64 i42))], V.f (F.lit (Value.int IntKind.i64 i43)), V.f (F.lit (Value.int IntKind.i64 i44))] k = Fn21 (m + 1) r41 i42 i43 i44 (fun i47 i48 => k (V.f (F.lit (Value.int IntKind.i64 i47))) [V.obj [V.f (F.lst [LT.int IntKind.i64] r41), V.f (F.lit (Value.int IntKind.i64 i48))], V.undef, V.undef]) := by kernel_rfl
def T5 (m : Nat) : Tbl := addT 21 (brFn21 m (T4 m)) (T4 m)
theorem okT5 (m : Nat) : TblOk Try.prog (T5 m) := addT_ok (okT4 m) fun R vs k x h => by
  unfold brFn21 at h
  split at h
  · cases m with
    | zero => cases h
    | succ m => exact runK_some (okT4 m) hM (okL0 m) ((evFn21 m R _ _ _ _ k).trans h)
  · exact okT4 m R 21 _ k x h

/-- a round of a loop of (*hookflash/flashmake.Stream).RightPacket -/
def Lp58_0_step {R : Type} (m : Nat) (kx0 : Abs.Rows → Int → Int → Option R) (i51 : Int) (i52 : Int) (i53 : Int) (i54 : Int) (b55 : Bool) (r56 : Abs.Rows) (i57 : Int) (i58 : Int) (i59 : Int) (i60 : Int) (b61 : Bool) (i63 : Int) (r65 : Abs.Rows) (REC : Abs.Rows → Int → Int → Option R) (r62 : Abs.Rows) (i64 : Int) (i66 : Int) : Option R :=
  bif decide (i64 < i63) then (Fn21 m r65 i66 ((0 : Int)) ((255 : Int)) (fun i67 i68 => bif decide (List.length r62 + List.length [[F.lit (Value.int IntKind.u8 (IntKind.wrap IntKind.u8 i67))]] ≤ rowMax) then (REC (r62 ++ [[F.lit (Value.int IntKind.u8 (IntKind.wrap IntKind.u8 i67))]]) (IntKind.wrap IntKind.i64 (i64 + (1 : Int))) i68) else
  (none))) else
  (kx0 r62 i64 i66)
def Lp58_0 {R : Type} (m : Nat) (kx0 : Abs.Rows → Int → Int → Option R) (i51 : Int) (i52 : Int) (i53 : Int) (i54 : Int) (b55 : Bool) (r56 : Abs.Rows) (i57 : Int) (i58 : Int) (i59 : Int) (i60 : Int) (b61 : Bool) (i63 : Int) (r65 : Abs.Rows) : Nat → Abs.Rows → Int → Int → Option R
  | 0, _, _, _ => none
  | n + 1, r62, i64, i66 => Lp58_0_step m kx0 i51 i52 i53 i54 b55 r56 i57 i58 i59 i60 b61 i63 r65 (Lp58_0 m kx0 i51 i52 i53 i54 b55 r56 i57 i58 i59 i60 b61 i63 r65 n) r62 i64 i66
def ELp58_0 (m : Nat) (R : Type) : Nat → List V → (Ex → List V → Option R) → Option R
  | 0, _, _ => none
  | n + 1, vs, k => match vs with
    | [V.ref (33 : Nat) (0 : Nat), V.obj [V.f (F.lit (Value.int IntKind.i64 i51)), V.f (F.lit (Value.int IntKind.i64 i52)), V.f (F.lit (Value.int IntKind.i64 i53)), V.f (F.lit (Value.int IntKind.i64 i54)), V.f (F.lit (Value.bool b55)), V.own [LT.int IntKind.u8] r56], V.obj [V.f (F.lit (Value.int IntKind.i64 i57)), V.f (F.lit (Value.int IntKind.i64 i58)), V.f (F.lit (Value.int IntKind.i64 i59)), V.f (F.lit (Value.int IntKind.i64 i60)), V.f (F.lit (Value.bool b61)), V.own [LT.int IntKind.u8] r62], V.f (F.lit (Value.int IntKind.i64 i63)), V.f (F.lit (Value.int IntKind.i64 i64)), V.obj [V.f (F.lst [LT.int IntKind.i64] r65), V.f (F.lit (Value.int IntKind.i64 i66))]] => Lp58_0_step m (fun r69 i70 i71 => k (Ex.exit (0 : Nat)) [V.ref (33 : Nat) (0 : Nat), V.obj [V.f (F.lit (Value.int IntKind.i64 i51)), V.f (F.lit (Value.int IntKind.i64 i52)), V.f (F.lit (Value.int IntKind.i64 i53)), V.f (F.lit (Value.int IntKind.i64 i54)), V.f (F.lit (Value.bool b55)), V.own [LT.int IntKind.u8] r56], V.obj [V.f (F.lit (Value.int IntKind.i64 i57)), V.f (F.lit (Value.int IntKind.i64 i58)), V.f (F.lit (Value.int IntKind.i64 i59)), V.f (F.lit (Value.int IntKind.i64 i60)), V.f (F.lit (Value.bool b61)), V.own [LT.int IntKind.u8] r69], V.f (F.lit (Value.int IntKind.i64 i63)), V.f (F.lit (Value.int IntKind.i64 i70)), V.obj [V.f (F.lst [LT.int IntKind.i64] r65), V.f (F.lit (Value.int IntKind.i64 i71))]]) i51 i52 i53 i54 b55 r56 i57 i58 i59 i60 b61 i63 r65 (fun r62 i64 i66 => ELp58_0 m R n [V.ref (33 : Nat) (0 : Nat), V.obj [V.f (F.lit (Value.int IntKind.i64 i51)), V.f (F.lit (Value.int IntKind.i64 i52)), V.f (F.lit (Value.int IntKind.i64 i53)), V.f (F.lit (Value.int IntKind.i64 i54)), V.f (F.lit (Value.bool b55)), V.own [LT.int IntKind.u8] r56], V.obj [V.f (F.lit (Value.int IntKind.i64 i57)), V.f (F.lit (Value.int IntKind.i64 i58)), V.f (F.lit (Value.int IntKind.i64 i59)), V.f (F.lit (Value.int IntKind.i64 i60)), V.f (F.lit (Value.bool b61)), V.own [LT.int IntKind.u8] r62], V.f (F.lit (Value.int IntKind.i64 i63)), V.f (F.lit (Value.int IntKind.i64 i64)), V.obj [V.f (F.lst [LT.int IntKind.i64] r65), V.f (F.lit (Value.int IntKind.i64 i66))]] k) r62 i64 i66
    | _ => none
def brLp58_0 (m : Nat) (L : LTbl) (R : Type) (vs : List V) (k : Ex → List V → Option R) : Option R := match vs with
  | [V.ref (33 : Nat) (0 : Nat), V.obj [V.f (F.lit (Value.int IntKind.i64 i51)), V.f (F.lit (Value.int IntKind.i64 i52)), V.f (F.lit (Value.int IntKind.i64 i53)), V.f (F.lit (Value.int IntKind.i64 i54)), V.f (F.lit (Value.bool b55)), V.own [LT.int IntKind.u8] r56], V.obj [V.f (F.lit (Value.int IntKind.i64 i57)), V.f (F.lit (Value.int IntKind.i64 i58)), V.f (F.lit (Value.int IntKind.i64 i59)), V.f (F.lit (Value.int IntKind.i64 i60)), V.f (F.lit (Value.bool b61)), V.own [LT.int IntKind.u8] r62], V.f (F.lit (Value.int IntKind.i64 i63)), V.f (F.lit (Value.int IntKind.i64 i64)), V.obj [V.f (F.lst [LT.int IntKind.i64] r65), V.f (F.lit (Value.int IntKind.i64 i66))]] => Lp58_0 m (fun r69 i70 i71 => k (Ex.exit (0 : Nat)) [V.ref (33 : Nat) (0 : Nat), V.obj [V.f (F.lit (Value.int IntKind.i64 i51)), V.f (F.lit (Value.int IntKind.i64 i52)), V.f (F.lit (Value.int IntKind.i64 i53)), V.f (F.lit (Value.int IntKind.i64 i54)), V.f (F.lit (Value.bool b55)), V.own [LT.int IntKind.u8] r56], V.obj [V.f (F.lit (Value.int IntKind.i64 i57)), V.f (F.lit (Value.int IntKind.i64 i58)), V.f (F.lit (Value.int IntKind.i64 i59)), V.f (F.lit (Value.int IntKind.i64 i60)), V.f (F.lit (Value.bool b61)), V.own [LT.int IntKind.u8] r69], V.f (F.lit (Value.int IntKind.i64 i63)), V.f (F.lit (Value.int IntKind.i64 i70)), V.obj [V.f (F.lst [LT.int IntKind.i64] r65), V.f (F.lit (Value.int IntKind.i64 i71))]]) i51 i52 i53 i54 b55 r56 i57 i58 i59 i60 b61 i63 r65 m r62 i64 i66
  | _ => L R 58 0 vs k
set_option maxRecDepth 100000 in
theorem stLp58_0 (m n : Nat) (R : Type) (i51 : Int) (i52 : Int) (i53 : Int) (i54 : Int) (b55 : Bool) (r56 : Abs.Rows) (i57 : Int) (i58 : Int) (i59 : Int) (i60 : Int) (b61 : Bool) (r62 : Abs.Rows) (i63 : Int) (i64 : Int) (r65 : Abs.Rows) (i66 : Int) (k : Ex → List V → Option R) : codeK Try.prog H (T5 m) 58 (L0 m) 1 (loopBody Try.prog 58 0) (mkEnv [0, 2, 3, 20, 21, 33] [V.ref (33 : Nat) (0 : Nat), V.obj [V.f (F.lit (Value.int IntKind.i64 i51)), V.f (F.lit (Value.int IntKind.i64 i52)), V.f (F.lit (Value.int IntKind.i64 i53)), V.f (F.lit (Value.int IntKind.i64 i54)), V.f (F.lit (Value.bool b55)), V.own [LT.int IntKind.u8] r56], V.obj [V.f (F.lit (Value.int IntKind.i64 i57)), V.f (F.lit (Value.int IntKind.i64 i58)), V.f (F.lit (Value.int IntKind.i64 i59)), V.f (F.lit (Value.int IntKind.i64 i60)), V.f (F.lit (Value.bool b61)), V.own [LT.int IntKind.u8] r62], V.f (F.lit (Value.int IntKind.i64 i63)), V.f (F.lit (Value.int IntKind.i64 i64)), V.obj [V.f (F.lst [LT.int IntKind.i64] r65), V.f (F.lit (Value.int IntKind.i64 i66))]] 0 (H.len 58)) (fun e env' => match e with | .normal => ELp58_0 m R n (vals [0, 2, 3, 20, 21, 33] env') k | e => k e (vals [0, 2, 3, 20, 21, 33] env')) = Lp58_0_step m (fun r69 i70 i71 => k (Ex.exit (0 : Nat)) [V.ref (33 : Nat) (0 : Nat), V.obj [V.f (F.lit (Value.int IntKind.i64 i51)), V.f (F.lit (Value.int IntKind.i64 i52)), V.f (F.lit (Value.int IntKind.i64 i53)), V.f (F.lit (Value.int IntKind.i64 i54)), V.f (F.lit (Value.bool b55)), V.own [LT.int IntKind.u8] r56], V.obj [V.f (F.lit (Value.int IntKind.i64 i57)), V.f (F.lit (Value.int IntKind.i64 i58)), V.f (F.lit (Value.int IntKind.i64 i59)), V.f (F.lit (Value.int IntKind.i64 i60)), V.f (F.lit (Value.bool b61)), V.own [LT.int IntKind.u8] r69], V.f (F.lit (Value.int IntKind.i64 i63)), V.f (F.lit (Value.int IntKind.i64 i70)), V.obj [V.f (F.lst [LT.int IntKind.i64] r65), V.f (F.lit (Value.int IntKind.i64 i71))]]) i51 i52 i53 i54 b55 r56 i57 i58 i59 i60 b61 i63 r65 (fun r62 i64 i66 => ELp58_0 m R n [V.ref (33 : Nat) (0 : Nat), V.obj [V.f (F.lit (Value.int IntKind.i64 i51)), V.f (F.lit (Value.int IntKind.i64 i52)), V.f (F.lit (Value.int IntKind.i64 i53)), V.f (F.lit (Value.int IntKind.i64 i54)), V.f (F.lit (Value.bool b55)), V.own [LT.int IntKind.u8] r56], V.obj [V.f (F.lit (Value.int IntKind.i64 i57)), V.f (F.lit (Value.int IntKind.i64 i58)), V.f (F.lit (Value.int IntKind.i64 i59)), V.f (F.lit (Value.int IntKind.i64 i60)), V.f (F.lit (Value.bool b61)), V.own [LT.int IntKind.u8] r62], V.f (F.lit (Value.int IntKind.i64 i63)), V.f (F.lit (Value.int IntKind.i64 i64)), V.obj [V.f (F.lst [LT.int IntKind.i64] r65), V.f (F.lit (Value.int IntKind.i64 i66))]] k) r62 i64 i66 := by kernel_rfl
theorem eqLp58_0 (m : Nat) (R : Type) (i51 : Int) (i52 : Int) (i53 : Int) (i54 : Int) (b55 : Bool) (r56 : Abs.Rows) (i57 : Int) (i58 : Int) (i59 : Int) (i60 : Int) (b61 : Bool) (i63 : Int) (r65 : Abs.Rows) (k : Ex → List V → Option R) : ∀ (n : Nat) (r62 : Abs.Rows) (i64 : Int) (i66 : Int), ELp58_0 m R n [V.ref (33 : Nat) (0 : Nat), V.obj [V.f (F.lit (Value.int IntKind.i64 i51)), V.f (F.lit (Value.int IntKind.i64 i52)), V.f (F.lit (Value.int IntKind.i64 i53)), V.f (F.lit (Value.int IntKind.i64 i54)), V.f (F.lit (Value.bool b55)), V.own [LT.int IntKind.u8] r56], V.obj [V.f (F.lit (Value.int IntKind.i64 i57)), V.f (F.lit (Value.int IntKind.i64 i58)), V.f (F.lit (Value.int IntKind.i64 i59)), V.f (F.lit (Value.int IntKind.i64 i60)), V.f (F.lit (Value.bool b61)), V.own [LT.int IntKind.u8] r62], V.f (F.lit (Value.int IntKind.i64 i63)), V.f (F.lit (Value.int IntKind.i64 i64)), V.obj [V.f (F.lst [LT.int IntKind.i64] r65), V.f (F.lit (Value.int IntKind.i64 i66))]] k = Lp58_0 m (fun r69 i70 i71 => k (Ex.exit (0 : Nat)) [V.ref (33 : Nat) (0 : Nat), V.obj [V.f (F.lit (Value.int IntKind.i64 i51)), V.f (F.lit (Value.int IntKind.i64 i52)), V.f (F.lit (Value.int IntKind.i64 i53)), V.f (F.lit (Value.int IntKind.i64 i54)), V.f (F.lit (Value.bool b55)), V.own [LT.int IntKind.u8] r56], V.obj [V.f (F.lit (Value.int IntKind.i64 i57)), V.f (F.lit (Value.int IntKind.i64 i58)), V.f (F.lit (Value.int IntKind.i64 i59)), V.f (F.lit (Value.int IntKind.i64 i60)), V.f (F.lit (Value.bool b61)), V.own [LT.int IntKind.u8] r69], V.f (F.lit (Value.int IntKind.i64 i63)), V.f (F.lit (Value.int IntKind.i64 i70)), V.obj [V.f (F.lst [LT.int IntKind.i64] r65), V.f (F.lit (Value.int IntKind.i64 i71))]]) i51 i52 i53 i54 b55 r56 i57 i58 i59 i60 b61 i63 r65 n r62 i64 i66
  | 0, _, _, _ => rfl
  | n + 1, r62, i64, i66 => by
    simp only [ELp58_0, Lp58_0]
    congr 1
    funext r62 i64 i66
    exact eqLp58_0 m R i51 i52 i53 i54 b55 r56 i57 i58 i59 i60 b61 i63 r65 k n r62 i64 i66
def L1 (m : Nat) : LTbl := addB 58 0 (brLp58_0 m (L0 m)) (L0 m)
theorem okL1 (m : Nat) : LTOk Try.prog H (L1 m) := addB_ok (okT5 m) hM (okL0 m) (l := [0, 2, 3, 20, 21, 33]) (by kernel_rfl) (by kernel_rfl) m (fun R n vs k => ELp58_0 m R n vs k) (fun R vs k => rfl) (fun R n vs k x h => by
      simp only [ELp58_0] at h
      split at h
      · exact (stLp58_0 m n R _ _ _ _ _ _ _ _ _ _ _ _ _ _ _ _ k).trans h
      · cases h) fun R vs k x h => by
    unfold brLp58_0 at h
    split at h
    · exact .inl ((eqLp58_0 m R _ _ _ _ _ _ _ _ _ _ _ _ _ k m _ _ _).trans h)
    · exact .inr h

/-- (*hookflash/flashmake.Stream).RightPacket -/
def Fn58 {R : Type} (m : Nat) : Abs.Rows → Int → (Int → Int → Int → Int → Bool → Abs.Rows → Int → Option R) → Option R := match m with
  | 0 => fun _ _ _ => none
  | m + 1 => fun r4 i5 k =>
  Fn20 m r4 i5 ([[F.lit (Value.int IntKind.i64 (0 : Int))], [F.lit (Value.int IntKind.i64 (8 : Int))], [F.lit (Value.int IntKind.i64 (127 : Int))]]) (fun i24 i25 => Fn20 m r4 i25 ([[F.lit (Value.int IntKind.i64 (0 : Int))], [F.lit (Value.int IntKind.i64 (1 : Int))], [F.lit (Value.int IntKind.i64 (255 : Int))], [F.lit (Value.int IntKind.i64 (256 : Int))], [F.lit (Value.int IntKind.i64 (65535 : Int))]]) (fun i26 i27 => Fn20 m r4 i27 ([[F.lit (Value.int IntKind.i64 (0 : Int))], [F.lit (Value.int IntKind.i64 (160 : Int))], [F.lit (Value.int IntKind.i64 (4294967295 : Int))], [F.lit (Value.int IntKind.i64 (2147483648 : Int))]]) (fun i28 i29 => Fn20 m r4 i29 ([[F.lit (Value.int IntKind.i64 (0 : Int))], [F.lit (Value.int IntKind.i64 (7 : Int))], [F.lit (Value.int IntKind.i64 (4294967295 : Int))]]) (fun i30 i31 => Fn39 m r4 i31 ((2 : Int)) (fun b39 i40 => Fn21 m r4 i40 ((0 : Int)) ((5 : Int)) (fun i49 i50 => Lp58_0 m (fun r72 i73 i74 => k i24 i26 i28 i30 b39 r72 i74) ((0 : Int)) ((0 : Int)) ((0 : Int)) ((0 : Int)) false rows0 i24 i26 i28 i30 b39 i49 r4 m rows0 ((0 : Int)) i50))))))
def brFn58 (m : Nat) (T : Tbl) (R : Type) (vs : List V) (k : V → List V → Option R) : Option R := match vs with
  | [V.obj [V.f (F.lst [LT.int IntKind.i64] r4), V.f (F.lit (Value.int IntKind.i64 i5))]] => Fn58 m r4 i5 (fun i75 i76 i77 i78 b79 r80 i81 => k (V.agg [V.f (F.lit (Value.int IntKind.i64 i75)), V.f (F.lit (Value.int IntKind.i64 i76)), V.f (F.lit (Value.int IntKind.i64 i77)), V.f (F.lit (Value.int IntKind.i64 i78)), V.f (F.lit (Value.bool b79)), V.f (F.lst [LT.int IntKind.u8] r80)]) [V.obj [V.f (F.lst [LT.int IntKind.i64] r4), V.f (F.lit (Value.int IntKind.i64 i81))]])
  | _ => T R 58 vs k
set_option maxRecDepth 100000 in
theorem evFn58 (m : Nat) (R : Type) (r4 : Abs.Rows) (i5 : Int) (k : V → List V → Option R) : runK Try.prog H (T5 m) (L1 m) 58 [V.obj [V.f (F.lst [LT.int IntKind.i64] r4), V.f (F.lit (Value.int IntKind.i64 i5))]] k = Fn58 (m + 1) r4 i5 (fun i75 i76 i77 i78 b79 r80 i81 => k (V.agg [V.f (F.lit (Value.int IntKind.i64 i75)), V.f (F.lit (Value.int IntKind.i64 i76)), V.f (F.lit (Value.int IntKind.i64 i77)), V.f (F.lit (Value.int IntKind.i64 i78)), V.f (F.lit (Value.bool b79)), V.f (F.lst [LT.int IntKind.u8] r80)]) [V.obj [V.f (F.lst [LT.int IntKind.i64] r4), V.f (F.lit (Value.int IntKind.i64 i81))]]) := by kernel_rfl
def T6 (m : Nat) : Tbl := addT 58 (brFn58 m (T5 m)) (T5 m)
theorem okT6 (m : Nat) : TblOk Try.prog (T6 m) := addT_ok (okT5 m) fun R vs k x h => by
  unfold brFn58 at h
  split at h
  · cases m with
    | zero => cases h
    | succ m => exact runK_some (okT5 m) hM (okL1 m) ((evFn58 m R _ _ k).trans h)
  · exact okT5 m R 58 _ k x h

/-- (*hookflash/flashmake.Stream).Odd -/
def Fn60 {R : Type} (m : Nat) : Abs.Rows → Int → Int → Int → (Int → Int → Option R) → Option R := match m with
  | 0 => fun _ _ _ _ _ => none
  | m + 1 => fun r93 i94 i95 i96 k =>
  Fn39 m r93 i94 ((12 : Int)) (fun b97 i98 => bif b97 then (Fn20 m r93 i98 ([[F.lit (Value.int IntKind.i64 (IntKind.wrap IntKind.i64 (i95 - (1 : Int))))], [F.lit (Value.int IntKind.i64 (IntKind.wrap IntKind.i64 (i96 + (1 : Int))))], [F.lit (Value.int IntKind.i64 i95)], [F.lit (Value.int IntKind.i64 i96)], [F.lit (Value.int IntKind.i64 (-1099511627776 : Int))], [F.lit (Value.int IntKind.i64 (1099511627776 : Int))]]) (fun i99 i100 => k i99 i100)) else
  (Fn21 m r93 i98 i95 i96 (fun i101 i102 => k i101 i102)))
def brFn60 (m : Nat) (T : Tbl) (R : Type) (vs : List V) (k : V → List V → Option R) : Option R := match vs with
  | [V.obj [V.f (F.lst [LT.int IntKind.i64] r93), V.f (F.lit (Value.int IntKind.i64 i94))], V.f (F.lit (Value.int IntKind.i64 i95)), V.f (F.lit (Value.int IntKind.i64 i96))] => Fn60 m r93 i94 i95 i96 (fun i103 i104 => k (V.f (F.lit (Value.int IntKind.i64 i103))) [V.obj [V.f (F.lst [LT.int IntKind.i64] r93), V.f (F.lit (Value.int IntKind.i64 i104))], V.undef, V.undef])
  | _ => T R 60 vs k
set_option maxRecDepth 100000 in
theorem evFn60 (m : Nat) (R : Type) (r93 : Abs.Rows) (i94 : Int) (i95 : Int) (i96 : Int) (k : V → List V → Option R) : runK Try.prog H (T6 m) (L1 m) 60 [V.obj [V.f (F.lst [LT.int IntKind.i64] r93), V.f (F.lit (Value.int IntKind.i64 i94))], V.f (F.lit (Value.int IntKind.i64 i95)), V.f (F.lit (Value.int IntKind.i64 i96))] k = Fn60 (m + 1) r93 i94 i95 i96 (fun i103 i104 => k (V.f (F.lit (Value.int IntKind.i64 i103))) [V.obj [V.f (F.lst [LT.int IntKind.i64] r93), V.f (F.lit (Value.int IntKind.i64 i104))], V.undef, V.undef]) := by kernel_rfl
def T7 (m : Nat) : Tbl := addT 60 (brFn60 m (T6 m)) (T6 m)
theorem okT7 (m : Nat) : TblOk Try.prog (T7 m) := addT_ok (okT6 m) fun R vs k x h => by
  unfold brFn60 at h
  split at h
  · cases m with
    | zero => cases h
    | succ m => exact runK_some (okT6 m) hM (okL1 m) ((evFn60 m R _ _ _ _ k).trans h)
  · exact okT6 m R 60 _ k x h

/-- (*hookflash/flashmake.Stream).Packet -/
def Fn9 {R : Type} (m : Nat) : Abs.Rows → Int → (Int → Int → Int → Int → Bool → Abs.Rows → Int → Option R) → Option R := match m with
  | 0 => fun _ _ _ => none
  | m + 1 => fun r2 i3 k =>
  Fn58 m r2 i3 (fun i82 i83 i84 i85 b86 r87 i88 => Fn39 m r2 i88 ((12 : Int)) (fun b89 i90 => bif b89 then (Fn59 m r2 i90 ((5 : Int)) (fun i91 i92 => bif i91 == (0 : Int) then (Fn60 m r2 i92 ((0 : Int)) ((127 : Int)) (fun i105 i106 => k i105 i83 i84 i85 b86 r87 i106)) else
  (bif i91 == (1 : Int) then (Fn60 m r2 i92 ((0 : Int)) ((65535 : Int)) (fun i107 i108 => k i82 i107 i84 i85 b86 r87 i108)) else
  (bif i91 == (2 : Int) then (Fn60 m r2 i92 ((0 : Int)) ((4294967295 : Int)) (fun i109 i110 => k i82 i83 i109 i85 b86 r87 i110)) else
  (bif i91 == (3 : Int) then (Fn60 m r2 i92 ((0 : Int)) ((4294967295 : Int)) (fun i111 i112 => k i82 i83 i84 i111 b86 r87 i112)) else
  (Fn20 m r2 i92 ([[F.lit (Value.int IntKind.i64 (1000 : Int))], [F.lit (Value.int IntKind.i64 (1001 : Int))]]) (fun i113 i114 => bif decide ((0 : Int) ≤ i113 ∧ i113 ≤ i113 ∧ i113 ≤ (↑rowMax : Int)) then (k i82 i83 i84 i85 b86 (List.replicate (Int.toNat i113) [F.lit (Value.int IntKind.u8 (0 : Int))]) i114) else
  (none)))))))) else
  (k i82 i83 i84 i85 b86 r87 i90)))
def brFn9 (m : Nat) (T : Tbl) (R : Type) (vs : List V) (k : V → List V → Option R) : Option R := match vs with
  | [V.obj [V.f (F.lst [LT.int IntKind.i64] r2), V.f (F.lit (Value.int IntKind.i64 i3))]] => Fn9 m r2 i3 (fun i115 i116 i117 i118 b119 r120 i121 => k (V.agg [V.f (F.lit (Value.int IntKind.i64 i115)), V.f (F.lit (Value.int IntKind.i64 i116)), V.f (F.lit (Value.int IntKind.i64 i117)), V.f (F.lit (Value.int IntKind.i64 i118)), V.f (F.lit (Value.bool b119)), V.f (F.lst [LT.int IntKind.u8] r120)]) [V.obj [V.f (F.lst [LT.int IntKind.i64] r2), V.f (F.lit (Value.int IntKind.i64 i121))]])
  | _ => T R 9 vs k
set_option maxRecDepth 100000 in
theorem evFn9 (m : Nat) (R : Type) (r2 : Abs.Rows) (i3 : Int) (k : V → List V → Option R) : runK Try.prog H (T7 m) (L1 m) 9 [V.obj [V.f (F.lst [LT.int IntKind.i64] r2), V.f (F.lit (Value.int IntKind.i64 i3))]] k = Fn9 (m + 1) r2 i3 (fun i115 i116 i117 i118 b119 r120 i121 => k (V.agg [V.f (F.lit (Value.int IntKind.i64 i115)), V.f (F.lit (Value.int IntKind.i64 i116)), V.f (F.lit (Value.int IntKind.i64 i117)), V.f (F.lit (Value.int IntKind.i64 i118)), V.f (F.lit (Value.bool b119)), V.f (F.lst [LT.int IntKind.u8] r120)]) [V.obj [V.f (F.lst [LT.int IntKind.i64] r2), V.f (F.lit (Value.int IntKind.i64 i121))]]) := by kernel_rfl
def T8 (m : Nat) : Tbl := addT 9 (brFn9 m (T7 m)) (T7 m)
theorem okT8 (m : Nat) : TblOk Try.prog (T8 m) := addT_ok (okT7 m) fun R vs k x h => by
  unfold brFn9 at h
  split at h
  · cases m with
    | zero => cases h
    | succ m => exact runK_some (okT7 m) hM (okL1 m) ((evFn9 m R _ _ k).trans h)
  · exact okT7 m R 9 _ k x h

/-- a round of a loop of hookflash/flashref2.PacketBytes -/
def Lp13_1_step {R : Type} (m : Nat) (kx0 : Abs.Rows → Int → Option R) (i154 : Int) (i155 : Int) (i156 : Int) (i157 : Int) (b158 : Bool) (r159 : Abs.Rows) (i161 : Int) (i162 : Int) (r164 : Abs.Rows) (i165 : Int) (i166 : Int) (i167 : Int) (REC : Abs.Rows → Int → Option R) (r160 : Abs.Rows) (i163 : Int) : Option R :=
  bif decide (i163 ≥ (0 : Int)) then (bif decide ((0 : Int) ≤ IntKind.wrap IntKind.i64 ((8 : Int) * i163)) then (bif decide (List.length r160 + List.length [[F.lit (Value.int IntKind.u8 (IntKind.wrap IntKind.u8 (Int.fdiv i161 ((2 : Int) ^ min (Int.toNat (IntKind.wrap IntKind.i64 ((8 : Int) * i163))) (64 : Nat)))))]] ≤ rowMax) then (REC (r160 ++ [[F.lit (Value.int IntKind.u8 (IntKind.wrap IntKind.u8 (Int.fdiv i161 ((2 : Int) ^ min (Int.toNat (IntKind.wrap IntKind.i64 ((8 : Int) * i163))) (64 : Nat)))))]]) (IntKind.wrap IntKind.i64 (i163 - (1 : Int)))) else
  (none)) else
  (none)) else
  (kx0 r160 i163)
def Lp13_1 {R : Type} (m : Nat) (kx0 : Abs.Rows → Int → Option R) (i154 : Int) (i155 : Int) (i156 : Int) (i157 : Int) (b158 : Bool) (r159 : Abs.Rows) (i161 : Int) (i162 : Int) (r164 : Abs.Rows) (i165 : Int) (i166 : Int) (i167 : Int) : Nat → Abs.Rows → Int → Option R
  | 0, _, _ => none
  | n + 1, r160, i163 => Lp13_1_step m kx0 i154 i155 i156 i157 b158 r159 i161 i162 r164 i165 i166 i167 (Lp13_1 m kx0 i154 i155 i156 i157 b158 r159 i161 i162 r164 i165 i166 i167 n) r160 i163
def ELp13_1 (m : Nat) (R : Type) : Nat → List V → (Ex → List V → Option R) → Option R
  | 0, _, _ => none
  | n + 1, vs, k => match vs with
    | [V.obj [V.f (F.lit (Value.int IntKind.i64 i154)), V.f (F.lit (Value.int IntKind.i64 i155)), V.f (F.lit (Value.int IntKind.i64 i156)), V.f (F.lit (Value.int IntKind.i64 i157)), V.f (F.lit (Value.bool b158)), V.f (F.lst [LT.int IntKind.u8] r159)], V.own [LT.int IntKind.u8] r160, V.obj [V.f (F.lit (Value.int IntKind.i64 i161)), V.f (F.lit (Value.int IntKind.i64 i162))], V.f (F.lit (Value.int IntKind.i64 i163)), V.undef, V.own [LT.int IntKind.i64, LT.int IntKind.i64] r164, V.f (F.lit (Value.int IntKind.i64 i165)), V.f (F.lit (Value.int IntKind.i64 i166)), V.f (F.lit (Value.int IntKind.i64 i167)), V.undef] => Lp13_1_step m (fun r168 i169 => k (Ex.exit (2 : Nat)) [V.obj [V.f (F.lit (Value.int IntKind.i64 i154)), V.f (F.lit (Value.int IntKind.i64 i155)), V.f (F.lit (Value.int IntKind.i64 i156)), V.f (F.lit (Value.int IntKind.i64 i157)), V.f (F.lit (Value.bool b158)), V.f (F.lst [LT.int IntKind.u8] r159)], V.own [LT.int IntKind.u8] r168, V.obj [V.f (F.lit (Value.int IntKind.i64 i161)), V.f (F.lit (Value.int IntKind.i64 i162))], V.f (F.lit (Value.int IntKind.i64 i169)), V.undef, V.own [LT.int IntKind.i64, LT.int IntKind.i64] r164, V.f (F.lit (Value.int IntKind.i64 i165)), V.f (F.lit (Value.int IntKind.i64 i166)), V.f (F.lit (Value.int IntKind.i64 i167)), V.undef]) i154 i155 i156 i157 b158 r159 i161 i162 r164 i165 i166 i167 (fun r160 i163 => ELp13_1 m R n [V.obj [V.f (F.lit (Value.int IntKind.i64 i154)), V.f (F.lit (Value.int IntKind.i64 i155)), V.f (F.lit (Value.int IntKind.i64 i156)), V.f (F.lit (Value.int IntKind.i64 i157)), V.f (F.lit (Value.bool b158)), V.f (F.lst [LT.int IntKind.u8] r159)], V.own [LT.int IntKind.u8] r160, V.obj [V.f (F.lit (Value.int IntKind.i64 i161)), V.f (F.lit (Value.int IntKind.i64 i162))], V.f (F.lit (Value.int IntKind.i64 i163)), V.undef, V.own [LT.int IntKind.i64, LT.int IntKind.i64] r164, V.f (F.lit (Value.int IntKind.i64 i165)), V.f (F.lit (Value.int IntKind.i64 i166)), V.f (F.lit (Value.int IntKind.i64 i167)), V.undef] k) r160 i163
    | _ => none
def brLp13_1 (m : Nat) (L : LTbl) (R : Type) (vs : List V) (k : Ex → List V → Option R) : Option R := match vs with
  | [V.obj [V.f (F.lit (Value.int IntKind.i64 i154)), V.f (F.lit (Value.int IntKind.i64 i155)), V.f (F.lit (Value.int IntKind.i64 i156)), V.f (F.lit (Value.int IntKind.i64 i157)), V.f (F.lit (Value.bool b158)), V.f (F.lst [LT.int IntKind.u8] r159)], V.own [LT.int IntKind.u8] r160, V.obj [V.f (F.lit (Value.int IntKind.i64 i161)), V.f (F.lit (Value.int IntKind.i64 i162))], V.f (F.lit (Value.int IntKind.i64 i163)), V.undef, V.own [LT.int IntKind.i64, LT.int IntKind.i64] r164, V.f (F.lit (Value.int IntKind.i64 i165)), V.f (F.lit (Value.int IntKind.i64 i166)), V.f (F.lit (Value.int IntKind.i64 i167)), V.undef] => Lp13_1 m (fun r168 i169 => k (Ex.exit (2 : Nat)) [V.obj [V.f (F.lit (Value.int IntKind.i64 i154)), V.f (F.lit (Value.int IntKind.i64 i155)), V.f (F.lit (Value.int IntKind.i64 i156)), V.f (F.lit (Value.int IntKind.i64 i157)), V.f (F.lit (Value.bool b158)), V.f (F.lst [LT.int IntKind.u8] r159)], V.own [LT.int IntKind.u8] r168, V.obj [V.f (F.lit (Value.int IntKind.i64 i161)), V.f (F.lit (Value.int IntKind.i64 i162))], V.f (F.lit (Value.int IntKind.i64 i169)), V.undef, V.own [LT.int IntKind.i64, LT.int IntKind.i64] r164, V.f (F.lit (Value.int IntKind.i64 i165)), V.f (F.lit (Value.int IntKind.i64 i166)), V.f (F.lit (Value.int IntKind.i64 i167)), V.undef]) i154 i155 i156 i157 b158 r159 i161 i162 r164 i165 i166 i167 m r160 i163
  | _ => L R 13 1 vs k
set_option maxRecDepth 100000 in
theorem stLp13_1 (m n : Nat) (R : Type) (i154 : Int) (i155 : Int) (i156 : Int) (i157 : Int) (b158 : Bool) (r159 : Abs.Rows) (r160 : Abs.Rows) (i161 : Int) (i162 : Int) (i163 : Int) (r164 : Abs.Rows) (i165 : Int) (i166 : Int) (i167 : Int) (k : Ex → List V → Option R) : codeK Try.prog H (T8 m) 13 (L1 m) 2 (loopBody Try.prog 13 1) (mkEnv [1, 3, 5, 6, 10, 27, 28, 29, 35, 54] [V.obj [V.f (F.lit (Value.int IntKind.i64 i154)), V.f (F.lit (Value.int IntKind.i64 i155)), V.f (F.lit (Value.int IntKind.i64 i156)), V.f (F.lit (Value.int IntKind.i64 i157)), V.f (F.lit (Value.bool b158)), V.f (F.lst [LT.int IntKind.u8] r159)], V.own [LT.int IntKind.u8] r160, V.obj [V.f (F.lit (Value.int IntKind.i64 i161)), V.f (F.lit (Value.int IntKind.i64 i162))], V.f (F.lit (Value.int IntKind.i64 i163)), V.undef, V.own [LT.int IntKind.i64, LT.int IntKind.i64] r164, V.f (F.lit (Value.int IntKind.i64 i165)), V.f (F.lit (Value.int IntKind.i64 i166)), V.f (F.lit (Value.int IntKind.i64 i167)), V.undef] 0 (H.len 13)) (fun e env' => match e with | .normal => ELp13_1 m R n (vals [1, 3, 5, 6, 10, 27, 28, 29, 35, 54] env') k | e => k e (vals [1, 3, 5, 6, 10, 27, 28, 29, 35, 54] env')) = Lp13_1_step m (fun r168 i169 => k (Ex.exit (2 : Nat)) [V.obj [V.f (F.lit (Value.int IntKind.i64 i154)), V.f (F.lit (Value.int IntKind.i64 i155)), V.f (F.lit (Value.int IntKind.i64 i156)), V.f (F.lit (Value.int IntKind.i64 i157)), V.f (F.lit (Value.bool b158)), V.f (F.lst [LT.int IntKind.u8] r159)], V.own [LT.int IntKind.u8] r168, V.obj [V.f (F.lit (Value.int IntKind.i64 i161)), V.f (F.lit (Value.int IntKind.i64 i162))], V.f (F.lit (Value.int IntKind.i64 i169)), V.undef, V.own [LT.int IntKind.i64, LT.int IntKind.i64] r164, V.f (F.lit (Value.int IntKind.i64 i165)), V.f (F.lit (Value.int IntKind.i64 i166)), V.f (F.lit (Value.int IntKind.i64 i167)), V.undef]) i154 i155 i156 i157 b158 r159 i161 i162 r164 i165 i166 i167 (fun r160 i163 => ELp13_1 m R n [V.obj [V.f (F.lit (Value.int IntKind.i64 i154)), V.f (F.lit (Value.int IntKind.i64 i155)), V.f (F.lit (Value.int IntKind.i64 i156)), V.f (F.lit (Value.int IntKind.i64 i157)), V.f (F.lit (Value.bool b158)), V.f (F.lst [LT.int IntKind.u8] r159)], V.own [LT.int IntKind.u8] r160, V.obj [V.f (F.lit (Value.int IntKind.i64 i161)), V.f (F.lit (Value.int IntKind.i64 i162))], V.f (F.lit (Value.int IntKind.i64 i163)), V.undef, V.own [LT.int IntKind.i64, LT.int IntKind.i64] r164, V.f (F.lit (Value.int IntKind.i64 i165)), V.f (F.lit (Value.int IntKind.i64 i166)), V.f (F.lit (Value.int IntKind.i64 i167)), V.undef] k) r160 i163 := by kernel_rfl
theorem eqLp13_1 (m : Nat) (R : Type) (i154 : Int) (i155 : Int) (i156 : Int) (i157 : Int) (b158 : Bool) (r159 : Abs.Rows) (i161 : Int) (i162 : Int) (r164 : Abs.Rows) (i165 : Int) (i166 : Int) (i167 : Int) (k : Ex → List V → Option R) : ∀ (n : Nat) (r160 : Abs.Rows) (i163 : Int), ELp13_1 m R n [V.obj [V.f (F.lit (Value.int IntKind.i64 i154)), V.f (F.lit (Value.int IntKind.i64 i155)), V.f (F.lit (Value.int IntKind.i64 i156)), V.f (F.lit (Value.int IntKind.i64 i157)), V.f (F.lit (Value.bool b158)), V.f (F.lst [LT.int IntKind.u8] r159)], V.own [LT.int IntKind.u8] r160, V.obj [V.f (F.lit (Value.int IntKind.i64 i161)), V.f (F.lit (Value.int IntKind.i64 i162))], V.f (F.lit (Value.int IntKind.i64 i163)), V.undef, V.own [LT.int IntKind.i64, LT.int IntKind.i64] r164, V.f (F.lit (Value.int IntKind.i64 i165)), V.f (F.lit (Value.int IntKind.i64 i166)), V.f (F.lit (Value.int IntKind.i64 i167)), V.undef] k = Lp13_1 m (fun r168 i169 => k (Ex.exit (2 : Nat)) [V.obj [V.f (F.lit (Value.int IntKind.i64 i154)), V.f (F.lit (Value.int IntKind.i64 i155)), V.f (F.lit (Value.int IntKind.i64 i156)), V.f (F.lit (Value.int IntKind.i64 i157)), V.f (F.lit (Value.bool b158)), V.f (F.lst [LT.int IntKind.u8] r159)], V.own [LT.int IntKind.u8] r168, V.obj [V.f (F.lit (Value.int IntKind.i64 i161)), V.f (F.lit (Value.int IntKind.i64 i162))], V.f (F.lit (Value.int IntKind.i64 i169)), V.undef, V.own [LT.int IntKind.i64, LT.int IntKind.i64] r164, V.f (F.lit (Value.int IntKind.i64 i165)), V.f (F.lit (Value.int IntKind.i64 i166)), V.f (F.lit (Value.int IntKind.i64 i167)), V.undef]) i154 i155 i156 i157 b158 r159 i161 i162 r164 i165 i166 i167 n r160 i163
  | 0, _, _ => rfl
  | n + 1, r160, i163 => by
    simp only [ELp13_1, Lp13_1]
    congr 1
    funext r160 i163
    exact eqLp13_1 m R i154 i155 i156 i157 b158 r159 i161 i162 r164 i165 i166 i167 k n r160 i163
def L2 (m : Nat) : LTbl := addB 13 1 (brLp13_1 m (L1 m)) (L1 m)
theorem okL2 (m : Nat) : LTOk Try.prog H (L2 m) := addB_ok (okT8 m) hM (okL1 m) (l := [1, 3, 5, 6, 10, 27, 28, 29, 35, 54]) (by kernel_rfl) (by kernel_rfl) m (fun R n vs k => ELp13_1 m R n vs k) (fun R vs k => rfl) (fun R n vs k x h => by
      simp only [ELp13_1] at h
      split at h
      · exact (stLp13_1 m n R _ _ _ _ _ _ _ _ _ _ _ _ _ _ k).trans h
      · cases h) fun R vs k x h => by
    unfold brLp13_1 at h
    split at h
    · exact .inl ((eqLp13_1 m R _ _ _ _ _ _ _ _ _ _ _ _ k m _ _).trans h)
    · exact .inr h

/-- a round of a loop of hookflash/flashref2.PacketBytes -/
def Lp13_0_step {R : Type} (m : Nat) (kx0 : Abs.Rows → Int → Option R) (i144 : Int) (i145 : Int) (i146 : Int) (i147 : Int) (b148 : Bool) (r149 : Abs.Rows) (r151 : Abs.Rows) (i152 : Int) (REC : Abs.Rows → Int → Option R) (r150 : Abs.Rows) (i153 : Int) : Option R :=
  bif decide (i153 < i152) then (bif decide ((0 : Int) ≤ i153 ∧ i153 < (↑(List.length r151) : Int)) then (Lp13_1 m (fun r170 i171 => REC r170 (IntKind.wrap IntKind.i64 (i153 + (1 : Int)))) i144 i145 i146 i147 b148 r149 (F.toInt (List.headD (Abs.rowAt r151 (Int.toNat i153)) default)) (F.toInt (List.headD (List.tail (Abs.rowAt r151 (Int.toNat i153))) default)) r151 i152 i153 (IntKind.wrap IntKind.i64 (F.toInt (List.headD (List.tail (Abs.rowAt r151 (Int.toNat i153))) default) - (1 : Int))) m r150 (IntKind.wrap IntKind.i64 (F.toInt (List.headD (List.tail (Abs.rowAt r151 (Int.toNat i153))) default) - (1 : Int)))) else
  (none)) else
  (kx0 r150 i153)
def Lp13_0 {R : Type} (m : Nat) (kx0 : Abs.Rows → Int → Option R) (i144 : Int) (i145 : Int) (i146 : Int) (i147 : Int) (b148 : Bool) (r149 : Abs.Rows) (r151 : Abs.Rows) (i152 : Int) : Nat → Abs.Rows → Int → Option R
  | 0, _, _ => none
  | n + 1, r150, i153 => Lp13_0_step m kx0 i144 i145 i146 i147 b148 r149 r151 i152 (Lp13_0 m kx0 i144 i145 i146 i147 b148 r149 r151 i152 n) r150 i153
def ELp13_0 (m : Nat) (R : Type) : Nat → List V → (Ex → List V → Option R) → Option R
  | 0, _, _ => none
  | n + 1, vs, k => match vs with
    | [V.obj [V.f (F.lit (Value.int IntKind.i64 i144)), V.f (F.lit (Value.int IntKind.i64 i145)), V.f (F.lit (Value.int IntKind.i64 i146)), V.f (F.lit (Value.int IntKind.i64 i147)), V.f (F.lit (Value.bool b148)), V.f (F.lst [LT.int IntKind.u8] r149)], V.own [LT.int IntKind.u8] r150, V.undef, V.own [LT.int IntKind.i64, LT.int IntKind.i64] r151, V.f (F.lit (Value.int IntKind.i64 i152)), V.f (F.lit (Value.int IntKind.i64 i153)), V.undef] => Lp13_0_step m (fun r172 i173 => k (Ex.exit (0 : Nat)) [V.obj [V.f (F.lit (Value.int IntKind.i64 i144)), V.f (F.lit (Value.int IntKind.i64 i145)), V.f (F.lit (Value.int IntKind.i64 i146)), V.f (F.lit (Value.int IntKind.i64 i147)), V.f (F.lit (Value.bool b148)), V.f (F.lst [LT.int IntKind.u8] r149)], V.own [LT.int IntKind.u8] r172, V.undef, V.own [LT.int IntKind.i64, LT.int IntKind.i64] r151, V.f (F.lit (Value.int IntKind.i64 i152)), V.f (F.lit (Value.int IntKind.i64 i173)), V.undef]) i144 i145 i146 i147 b148 r149 r151 i152 (fun r150 i153 => ELp13_0 m R n [V.obj [V.f (F.lit (Value.int IntKind.i64 i144)), V.f (F.lit (Value.int IntKind.i64 i145)), V.f (F.lit (Value.int IntKind.i64 i146)), V.f (F.lit (Value.int IntKind.i64 i147)), V.f (F.lit (Value.bool b148)), V.f (F.lst [LT.int IntKind.u8] r149)], V.own [LT.int IntKind.u8] r150, V.undef, V.own [LT.int IntKind.i64, LT.int IntKind.i64] r151, V.f (F.lit (Value.int IntKind.i64 i152)), V.f (F.lit (Value.int IntKind.i64 i153)), V.undef] k) r150 i153
    | _ => none
def brLp13_0 (m : Nat) (L : LTbl) (R : Type) (vs : List V) (k : Ex → List V → Option R) : Option R := match vs with
  | [V.obj [V.f (F.lit (Value.int IntKind.i64 i144)), V.f (F.lit (Value.int IntKind.i64 i145)), V.f (F.lit (Value.int IntKind.i64 i146)), V.f (F.lit (Value.int IntKind.i64 i147)), V.f (F.lit (Value.bool b148)), V.f (F.lst [LT.int IntKind.u8] r149)], V.own [LT.int IntKind.u8] r150, V.undef, V.own [LT.int IntKind.i64, LT.int IntKind.i64] r151, V.f (F.lit (Value.int IntKind.i64 i152)), V.f (F.lit (Value.int IntKind.i64 i153)), V.undef] => Lp13_0 m (fun r172 i173 => k (Ex.exit (0 : Nat)) [V.obj [V.f (F.lit (Value.int IntKind.i64 i144)), V.f (F.lit (Value.int IntKind.i64 i145)), V.f (F.lit (Value.int IntKind.i64 i146)), V.f (F.lit (Value.int IntKind.i64 i147)), V.f (F.lit (Value.bool b148)), V.f (F.lst [LT.int IntKind.u8] r149)], V.own [LT.int IntKind.u8] r172, V.undef, V.own [LT.int IntKind.i64, LT.int IntKind.i64] r151, V.f (F.lit (Value.int IntKind.i64 i152)), V.f (F.lit (Value.int IntKind.i64 i173)), V.undef]) i144 i145 i146 i147 b148 r149 r151 i152 m r150 i153
  | _ => L R 13 0 vs k
set_option maxRecDepth 100000 in
theorem stLp13_0 (m n : Nat) (R : Type) (i144 : Int) (i145 : Int) (i146 : Int) (i147 : Int) (b148 : Bool) (r149 : Abs.Rows) (r150 : Abs.Rows) (r151 : Abs.Rows) (i152 : Int) (i153 : Int) (k : Ex → List V → Option R) : codeK Try.prog H (T8 m) 13 (L2 m) 1 (loopBody Try.prog 13 0) (mkEnv [1, 3, 10, 27, 28, 29, 54] [V.obj [V.f (F.lit (Value.int IntKind.i64 i144)), V.f (F.lit (Value.int IntKind.i64 i145)), V.f (F.lit (Value.int IntKind.i64 i146)), V.f (F.lit (Value.int IntKind.i64 i147)), V.f (F.lit (Value.bool b148)), V.f (F.lst [LT.int IntKind.u8] r149)], V.own [LT.int IntKind.u8] r150, V.undef, V.own [LT.int IntKind.i64, LT.int IntKind.i64] r151, V.f (F.lit (Value.int IntKind.i64 i152)), V.f (F.lit (Value.int IntKind.i64 i153)), V.undef] 0 (H.len 13)) (fun e env' => match e with | .normal => ELp13_0 m R n (vals [1, 3, 10, 27, 28, 29, 54] env') k | e => k e (vals [1, 3, 10, 27, 28, 29, 54] env')) = Lp13_0_step m (fun r172 i173 => k (Ex.exit (0 : Nat)) [V.obj [V.f (F.lit (Value.int IntKind.i64 i144)), V.f (F.lit (Value.int IntKind.i64 i145)), V.f (F.lit (Value.int IntKind.i64 i146)), V.f (F.lit (Value.int IntKind.i64 i147)), V.f (F.lit (Value.bool b148)), V.f (F.lst [LT.int IntKind.u8] r149)], V.own [LT.int IntKind.u8] r172, V.undef, V.own [LT.int IntKind.i64, LT.int IntKind.i64] r151, V.f (F.lit (Value.int IntKind.i64 i152)), V.f (F.lit (Value.int IntKind.i64 i173)), V.undef]) i144 i145 i146 i147 b148 r149 r151 i152 (fun r150 i153 => ELp13_0 m R n [V.obj [V.f (F.lit (Value.int IntKind.i64 i144)), V.f (F.lit (Value.int IntKind.i64 i145)), V.f (F.lit (Value.int IntKind.i64 i146)), V.f (F.lit (Value.int IntKind.i64 i147)), V.f (F.lit (Value.bool b148)), V.f (F.lst [LT.int IntKind.u8] r149)], V.own [LT.int IntKind.u8] r150, V.undef, V.own [LT.int IntKind.i64, LT.int IntKind.i64] r151, V.f (F.lit (Value.int IntKind.i64 i152)), V.f (F.lit (Value.int IntKind.i64 i153)), V.undef] k) r150 i153 := by kernel_rfl
theorem eqLp13_0 (m : Nat) (R : Type) (i144 : Int) (i145 : Int) (i146 : Int) (i147 : Int) (b148 : Bool) (r149 : Abs.Rows) (r151 : Abs.Rows) (i152 : Int) (k : Ex → List V → Option R) : ∀ (n : Nat) (r150 : Abs.Rows) (i153 : Int), ELp13_0 m R n [V.obj [V.f (F.lit (Value.int IntKind.i64 i144)), V.f (F.lit (Value.int IntKind.i64 i145)), V.f (F.lit (Value.int IntKind.i64 i146)), V.f (F.lit (Value.int IntKind.i64 i147)), V.f (F.lit (Value.bool b148)), V.f (F.lst [LT.int IntKind.u8] r149)], V.own [LT.int IntKind.u8] r150, V.undef, V.own [LT.int IntKind.i64, LT.int IntKind.i64] r151, V.f (F.lit (Value.int IntKind.i64 i152)), V.f (F.lit (Value.int IntKind.i64 i153)), V.undef] k = Lp13_0 m (fun r172 i173 => k (Ex.exit (0 : Nat)) [V.obj [V.f (F.lit (Value.int IntKind.i64 i144)), V.f (F.lit (Value.int IntKind.i64 i145)), V.f (F.lit (Value.int IntKind.i64 i146)), V.f (F.lit (Value.int IntKind.i64 i147)), V.f (F.lit (Value.bool b148)), V.f (F.lst [LT.int IntKind.u8] r149)], V.own [LT.int IntKind.u8] r172, V.undef, V.own [LT.int IntKind.i64, LT.int IntKind.i64] r151, V.f (F.lit (Value.int IntKind.i64 i152)), V.f (F.lit (Value.int IntKind.i64 i173)), V.undef]) i144 i145 i146 i147 b148 r149 r151 i152 n r150 i153
  | 0, _, _ => rfl
  | n + 1, r150, i153 => by
    simp only [ELp13_0, Lp13_0]
    congr 1
    funext r150 i153
    exact eqLp13_0 m R i144 i145 i146 i147 b148 r149 r151 i152 k n r150 i153
def L3 (m : Nat) : LTbl := addB 13 0 (brLp13_0 m (L2 m)) (L2 m)
theorem okL3 (m : Nat) : LTOk Try.prog H (L3 m) := addB_ok (okT8 m) hM (okL2 m) (l := [1, 3, 10, 27, 28, 29, 54]) (by kernel_rfl) (by kernel_rfl) m (fun R n vs k => ELp13_0 m R n vs k) (fun R vs k => rfl) (fun R n vs k x h => by
      simp only [ELp13_0] at h
      split at h
      · exact (stLp13_0 m n R _ _ _ _ _ _ _ _ _ _ k).trans h
      · cases h) fun R vs k x h => by
    unfold brLp13_0 at h
    split at h
    · exact .inl ((eqLp13_0 m R _ _ _ _ _ _ _ _ k m _ _).trans h)
    · exact .inr h

/-- hookflash/flashref2.PacketBytes -/
def Fn13 {R : Type} (m : Nat) : Int → Int → Int → Int → Bool → Abs.Rows → (Abs.Rows → Option R) → Option R := match m with
  | 0 => fun _ _ _ _ _ _ _ => none
  | m + 1 => fun i138 i139 i140 i141 b142 r143 k =>
  bif b142 then (Lp13_0 m (fun r174 i175 => bif decide (List.length r174 + List.length r143 ≤ rowMax) then (k (r174 ++ r143)) else
  (none)) i138 i139 i140 i141 b142 r143 ([[F.lit (Value.int IntKind.i64 i139), F.lit (Value.int IntKind.i64 (2 : Int))], [F.lit (Value.int IntKind.i64 i140), F.lit (Value.int IntKind.i64 (4 : Int))], [F.lit (Value.int IntKind.i64 i141), F.lit (Value.int IntKind.i64 (4 : Int))]]) ((↑(List.length [[F.lit (Value.int IntKind.i64 i139), F.lit (Value.int IntKind.i64 (2 : Int))], [F.lit (Value.int IntKind.i64 i140), F.lit (Value.int IntKind.i64 (4 : Int))], [F.lit (Value.int IntKind.i64 i141), F.lit (Value.int IntKind.i64 (4 : Int))]]) : Int)) m ([[F.lit (Value.int IntKind.u8 (128 : Int))], [F.lit (Value.int IntKind.u8 (IntKind.wrap IntKind.u8 (F.toInt (List.headD (Abs.rowAt [[F.lit (Value.int IntKind.u8 (128 : Int))], [F.lit (Value.int IntKind.u8 (IntKind.wrap IntKind.u8 i138))]] (Int.toNat (1 : Int))) default) + (128 : Int))))]]) ((0 : Int))) else
  (Lp13_0 m (fun r176 i177 => bif decide (List.length r176 + List.length r143 ≤ rowMax) then (k (r176 ++ r143)) else
  (none)) i138 i139 i140 i141 b142 r143 ([[F.lit (Value.int IntKind.i64 i139), F.lit (Value.int IntKind.i64 (2 : Int))], [F.lit (Value.int IntKind.i64 i140), F.lit (Value.int IntKind.i64 (4 : Int))], [F.lit (Value.int IntKind.i64 i141), F.lit (Value.int IntKind.i64 (4 : Int))]]) ((↑(List.length [[F.lit (Value.int IntKind.i64 i139), F.lit (Value.int IntKind.i64 (2 : Int))], [F.lit (Value.int IntKind.i64 i140), F.lit (Value.int IntKind.i64 (4 : Int))], [F.lit (Value.int IntKind.i64 i141), F.lit (Value.int IntKind.i64 (4 : Int))]]) : Int)) m ([[F.lit (Value.int IntKind.u8 (128 : Int))], [F.lit (Value.int IntKind.u8 (IntKind.wrap IntKind.u8 i138))]]) ((0 : Int)))
def brFn13 (m : Nat) (T : Tbl) (R : Type) (vs : List V) (k : V → List V → Option R) : Option R := match vs with
  | [V.agg [V.f (F.lit (Value.int IntKind.i64 i138)), V.f (F.lit (Value.int IntKind.i64 i139)), V.f (F.lit (Value.int IntKind.i64 i140)), V.f (F.lit (Value.int IntKind.i64 i141)), V.f (F.lit (Value.bool b142)), V.f (F.lst [LT.int IntKind.u8] r143)]] => Fn13 m i138 i139 i140 i141 b142 r143 (fun r178 => k (V.own [LT.int IntKind.u8] r178) [V.undef])
  | _ => T R 13 vs k
set_option maxRecDepth 100000 in
theorem evFn13 (m : Nat) (R : Type) (i138 : Int) (i139 : Int) (i140 : Int) (i141 : Int) (b142 : Bool) (r143 : Abs.Rows) (k : V → List V → Option R) : runK Try.prog H (T8 m) (L3 m) 13 [V.agg [V.f (F.lit (Value.int IntKind.i64 i138)), V.f (F.lit (Value.int IntKind.i64 i139)), V.f (F.lit (Value.int IntKind.i64 i140)), V.f (F.lit (Value.int IntKind.i64 i141)), V.f (F.lit (Value.bool b142)), V.f (F.lst [LT.int IntKind.u8] r143)]] k = Fn13 (m + 1) i138 i139 i140 i141 b142 r143 (fun r178 => k (V.own [LT.int IntKind.u8] r178) [V.undef]) := by kernel_rfl
def T9 (m : Nat) : Tbl := addT 13 (brFn13 m (T8 m)) (T8 m)
theorem okT9 (m : Nat) : TblOk Try.prog (T9 m) := addT_ok (okT8 m) fun R vs k x h => by
  unfold brFn13 at h
  split at h
  · cases m with
    | zero => cases h
    | succ m => exact runK_some (okT8 m) hM (okL3 m) ((evFn13 m R _ _ _ _ _ _ k).trans h)
  · exact okT8 m R 13 _ k x h

/-- a round of a loop of (*hookflash/flashmake.Stream).Bytes -/
def Lp61_0_step {R : Type} (m : Nat) (kx0 : Abs.Rows → Int → Int → Option R) (kx1 : Abs.Rows → Int → Int → Option R) (r187 : Abs.Rows) (i189 : Int) (r191 : Abs.Rows) (REC : Abs.Rows → Int → Int → Option R) (r188 : Abs.Rows) (i190 : Int) (i192 : Int) : Option R :=
  bif decide (i190 < i189) then (bif (↑(List.length r188) : Int) == (0 : Int) then (Fn59 m r191 i192 ((256 : Int)) (fun i193 i194 => bif decide (List.length r188 + List.length [[F.lit (Value.int IntKind.u8 (IntKind.wrap IntKind.u8 i193))]] ≤ rowMax) then (kx0 (r188 ++ [[F.lit (Value.int IntKind.u8 (IntKind.wrap IntKind.u8 i193))]]) i190 i194) else
  (none))) else
  (Fn59 m r191 i192 ((↑(List.length r188) : Int)) (fun i195 i196 => Fn59 m r191 i196 ((4 : Int)) (fun i197 i198 => bif i197 == (0 : Int) then (bif decide ((0 : Int) ≤ i195 ∧ i195 ≤ (↑(List.length r188) : Int)) then (bif decide ((0 : Int) ≤ IntKind.wrap IntKind.i64 (i195 + (1 : Int)) ∧ IntKind.wrap IntKind.i64 (i195 + (1 : Int)) ≤ (↑(List.length r188) : Int)) then (bif decide (List.length (List.take (Int.toNat i195 - (0 : Nat)) (List.drop (0 : Nat) r188)) + List.length (List.take (List.length r188 - Int.toNat (IntKind.wrap IntKind.i64 (i195 + (1 : Int)))) (List.drop (Int.toNat (IntKind.wrap IntKind.i64 (i195 + (1 : Int)))) r188)) ≤ rowMax) then (REC (List.take (Int.toNat i195 - (0 : Nat)) (List.drop (0 : Nat) r188) ++ List.take (List.length r188 - Int.toNat (IntKind.wrap IntKind.i64 (i195 + (1 : Int)))) (List.drop (Int.toNat (IntKind.wrap IntKind.i64 (i195 + (1 : Int)))) r188)) (IntKind.wrap IntKind.i64 (i190 + (1 : Int))) i198) else
  (none)) else
  (none)) else
  (none)) else
  (bif i197 == (1 : Int) then (bif decide ((0 : Int) ≤ IntKind.wrap IntKind.i64 (i195 + (1 : Int)) ∧ IntKind.wrap IntKind.i64 (i195 + (1 : Int)) ≤ (↑(List.length r188) : Int)) then (bif decide ((0 : Int) ≤ i195 ∧ i195 ≤ (↑(List.length r188) : Int)) then (bif decide (List.length (List.take (Int.toNat (IntKind.wrap IntKind.i64 (i195 + (1 : Int))) - (0 : Nat)) (List.drop (0 : Nat) r188)) + List.length (List.take (List.length r188 - Int.toNat i195) (List.drop (Int.toNat i195) r188)) ≤ rowMax) then (REC (List.take (Int.toNat (IntKind.wrap IntKind.i64 (i195 + (1 : Int))) - (0 : Nat)) (List.drop (0 : Nat) r188) ++ List.take (List.length r188 - Int.toNat i195) (List.drop (Int.toNat i195) r188)) (IntKind.wrap IntKind.i64 (i190 + (1 : Int))) i198) else
  (none)) else
  (none)) else
  (none)) else
  (bif i197 == (2 : Int) then (bif decide ((0 : Int) ≤ i195 ∧ i195 ≤ (↑(List.length r188) : Int)) then (REC (List.take (Int.toNat i195 - (0 : Nat)) (List.drop (0 : Nat) r188)) (IntKind.wrap IntKind.i64 (i190 + (1 : Int))) i198) else
  (none)) else
  (bif decide ((0 : Int) ≤ i195 ∧ i195 < (↑(List.length r188) : Int)) then (Fn59 m r191 i198 ((8 : Int)) (fun i199 i200 => bif decide ((0 : Int) ≤ i199) then (bif decide ((0 : Int) ≤ i195 ∧ i195 < (↑(List.length r188) : Int)) then (REC (List.set r188 (Int.toNat i195) [F.lit (Value.int IntKind.u8 (bitsOp IntKind.u8 (BitVec.ofInt (8 : Nat) (F.toInt (List.headD (Abs.rowAt r188 (Int.toNat i195)) default)) ^^^ BitVec.ofInt (8 : Nat) (IntKind.wrap IntKind.u8 ((1 : Int) * (2 : Int) ^ min (Int.toNat i199) (8 : Nat))))))]) (IntKind.wrap IntKind.i64 (i190 + (1 : Int))) i200) else
  (none)) else
  (none))) else
  (none)))))))) else
  (kx1 r188 i190 i192)
def Lp61_0 {R : Type} (m : Nat) (kx0 : Abs.Rows → Int → Int → Option R) (kx1 : Abs.Rows → Int → Int → Option R) (r187 : Abs.Rows) (i189 : Int) (r191 : Abs.Rows) : Nat → Abs.Rows → Int → Int → Option R
  | 0, _, _, _ => none
  | n + 1, r188, i190, i192 => Lp61_0_step m kx0 kx1 r187 i189 r191 (Lp61_0 m kx0 kx1 r187 i189 r191 n) r188 i190 i192
def ELp61_0 (m : Nat) (R : Type) : Nat → List V → (Ex → List V → Option R) → Option R
  | 0, _, _ => none
  | n + 1, vs, k => match vs with
    | [V.ref (64 : Nat) (0 : Nat), V.own [LT.int IntKind.u8] r187, V.own [LT.int IntKind.u8] r188, V.undef, V.f (F.lit (Value.int IntKind.i64 i189)), V.f (F.lit (Value.int IntKind.i64 i190)), V.obj [V.f (F.lst [LT.int IntKind.i64] r191), V.f (F.lit (Value.int IntKind.i64 i192))], V.undef] => Lp61_0_step m (fun r201 i202 i203 => k Ex.ret [V.ref (64 : Nat) (0 : Nat), V.own [LT.int IntKind.u8] r201, V.undef, V.undef, V.f (F.lit (Value.int IntKind.i64 i189)), V.f (F.lit (Value.int IntKind.i64 i202)), V.obj [V.f (F.lst [LT.int IntKind.i64] r191), V.f (F.lit (Value.int IntKind.i64 i203))], V.undef]) (fun r204 i205 i206 => k (Ex.exit (0 : Nat)) [V.ref (64 : Nat) (0 : Nat), V.own [LT.int IntKind.u8] r187, V.own [LT.int IntKind.u8] r204, V.undef, V.f (F.lit (Value.int IntKind.i64 i189)), V.f (F.lit (Value.int IntKind.i64 i205)), V.obj [V.f (F.lst [LT.int IntKind.i64] r191), V.f (F.lit (Value.int IntKind.i64 i206))], V.undef]) r187 i189 r191 (fun r188 i190 i192 => ELp61_0 m R n [V.ref (64 : Nat) (0 : Nat), V.own [LT.int IntKind.u8] r187, V.own [LT.int IntKind.u8] r188, V.undef, V.f (F.lit (Value.int IntKind.i64 i189)), V.f (F.lit (Value.int IntKind.i64 i190)), V.obj [V.f (F.lst [LT.int IntKind.i64] r191), V.f (F.lit (Value.int IntKind.i64 i192))], V.undef] k) r188 i190 i192
    | _ => none
def brLp61_0 (m : Nat) (L : LTbl) (R : Type) (vs : List V) (k : Ex → List V → Option R) : Option R := match vs with
  | [V.ref (64 : Nat) (0 : Nat), V.own [LT.int IntKind.u8] r187, V.own [LT.int IntKind.u8] r188, V.undef, V.f (F.lit (Value.int IntKind.i64 i189)), V.f (F.lit (Value.int IntKind.i64 i190)), V.obj [V.f (F.lst [LT.int IntKind.i64] r191), V.f (F.lit (Value.int IntKind.i64 i192))], V.undef] => Lp61_0 m (fun r201 i202 i203 => k Ex.ret [V.ref (64 : Nat) (0 : Nat), V.own [LT.int IntKind.u8] r201, V.undef, V.undef, V.f (F.lit (Value.int IntKind.i64 i189)), V.f (F.lit (Value.int IntKind.i64 i202)), V.obj [V.f (F.lst [LT.int IntKind.i64] r191), V.f (F.lit (Value.int IntKind.i64 i203))], V.undef]) (fun r204 i205 i206 => k (Ex.exit (0 : Nat)) [V.ref (64 : Nat) (0 : Nat), V.own [LT.int IntKind.u8] r187, V.own [LT.int IntKind.u8] r204, V.undef, V.f (F.lit (Value.int IntKind.i64 i189)), V.f (F.lit (Value.int IntKind.i64 i205)), V.obj [V.f (F.lst [LT.int IntKind.i64] r191), V.f (F.lit (Value.int IntKind.i64 i206))], V.undef]) r187 i189 r191 m r188 i190 i192
  | _ => L R 61 0 vs k
set_option maxRecDepth 100000 in
theorem stLp61_0 (m n : Nat) (R : Type) (r187 : Abs.Rows) (r188 : Abs.Rows) (i189 : Int) (i190 : Int) (r191 : Abs.Rows) (i192 : Int) (k : Ex → List V → Option R) : codeK Try.prog H (T9 m) 61 (L3 m) 1 (loopBody Try.prog 61 0) (mkEnv [0, 4, 5, 8, 10, 11, 64, 65] [V.ref (64 : Nat) (0 : Nat), V.own [LT.int IntKind.u8] r187, V.own [LT.int IntKind.u8] r188, V.undef, V.f (F.lit (Value.int IntKind.i64 i189)), V.f (F.lit (Value.int IntKind.i64 i190)), V.obj [V.f (F.lst [LT.int IntKind.i64] r191), V.f (F.lit (Value.int IntKind.i64 i192))], V.undef] 0 (H.len 61)) (fun e env' => match e with | .normal => ELp61_0 m R n (vals [0, 4, 5, 8, 10, 11, 64, 65] env') k | e => k e (vals [0, 4, 5, 8, 10, 11, 64, 65] env')) = Lp61_0_step m (fun r201 i202 i203 => k Ex.ret [V.ref (64 : Nat) (0 : Nat), V.own [LT.int IntKind.u8] r201, V.undef, V.undef, V.f (F.lit (Value.int IntKind.i64 i189)), V.f (F.lit (Value.int IntKind.i64 i202)), V.obj [V.f (F.lst [LT.int IntKind.i64] r191), V.f (F.lit (Value.int IntKind.i64 i203))], V.undef]) (fun r204 i205 i206 => k (Ex.exit (0 : Nat)) [V.ref (64 : Nat) (0 : Nat), V.own [LT.int IntKind.u8] r187, V.own [LT.int IntKind.u8] r204, V.undef, V.f (F.lit (Value.int IntKind.i64 i189)), V.f (F.lit (Value.int IntKind.i64 i205)), V.obj [V.f (F.lst [LT.int IntKind.i64] r191), V.f (F.lit (Value.int IntKind.i64 i206))], V.undef]) r187 i189 r191 (fun r188 i190 i192 => ELp61_0 m R n [V.ref (64 : Nat) (0 : Nat), V.own [LT.int IntKind.u8] r187, V.own [LT.int IntKind.u8] r188, V.undef, V.f (F.lit (Value.int IntKind.i64 i189)), V.f (F.lit (Value.int IntKind.i64 i190)), V.obj [V.f (F.lst [LT.int IntKind.i64] r191), V.f (F.lit (Value.int IntKind.i64 i192))], V.undef] k) r188 i190 i192 := by kernel_rfl
theorem eqLp61_0 (m : Nat) (R : Type) (r187 : Abs.Rows) (i189 : Int) (r191 : Abs.Rows) (k : Ex → List V → Option R) : ∀ (n : Nat) (r188 : Abs.Rows) (i190 : Int) (i192 : Int), ELp61_0 m R n [V.ref (64 : Nat) (0 : Nat), V.own [LT.int IntKind.u8] r187, V.own [LT.int IntKind.u8] r188, V.undef, V.f (F.lit (Value.int IntKind.i64 i189)), V.f (F.lit (Value.int IntKind.i64 i190)), V.obj [V.f (F.lst [LT.int IntKind.i64] r191), V.f (F.lit (Value.int IntKind.i64 i192))], V.undef] k = Lp61_0 m (fun r201 i202 i203 => k Ex.ret [V.ref (64 : Nat) (0 : Nat), V.own [LT.int IntKind.u8] r201, V.undef, V.undef, V.f (F.lit (Value.int IntKind.i64 i189)), V.f (F.lit (Value.int IntKind.i64 i202)), V.obj [V.f (F.lst [LT.int IntKind.i64] r191), V.f (F.lit (Value.int IntKind.i64 i203))], V.undef]) (fun r204 i205 i206 => k (Ex.exit (0 : Nat)) [V.ref (64 : Nat) (0 : Nat), V.own [LT.int IntKind.u8] r187, V.own [LT.int IntKind.u8] r204, V.undef, V.f (F.lit (Value.int IntKind.i64 i189)), V.f (F.lit (Value.int IntKind.i64 i205)), V.obj [V.f (F.lst [LT.int IntKind.i64] r191), V.f (F.lit (Value.int IntKind.i64 i206))], V.undef]) r187 i189 r191 n r188 i190 i192
  | 0, _, _, _ => rfl
  | n + 1, r188, i190, i192 => by
    simp only [ELp61_0, Lp61_0]
    congr 1
    funext r188 i190 i192
    exact eqLp61_0 m R r187 i189 r191 k n r188 i190 i192
def L4 (m : Nat) : LTbl := addB 61 0 (brLp61_0 m (L3 m)) (L3 m)
theorem okL4 (m : Nat) : LTOk Try.prog H (L4 m) := addB_ok (okT9 m) hM (okL3 m) (l := [0, 4, 5, 8, 10, 11, 64, 65]) (by kernel_rfl) (by kernel_rfl) m (fun R n vs k => ELp61_0 m R n vs k) (fun R vs k => rfl) (fun R n vs k x h => by
      simp only [ELp61_0] at h
      split at h
      · exact (stLp61_0 m n R _ _ _ _ _ _ k).trans h
      · cases h) fun R vs k x h => by
    unfold brLp61_0 at h
    split at h
    · exact .inl ((eqLp61_0 m R _ _ _ k m _ _ _).trans h)
    · exact .inr h

/-- (*hookflash/flashmake.Stream).Bytes -/
def Fn61 {R : Type} (m : Nat) : Abs.Rows → Int → Abs.Rows → (Abs.Rows → Int → Option R) → Option R := match m with
  | 0 => fun _ _ _ _ => none
  | m + 1 => fun r182 i183 r184 k =>
  bif decide (List.length rows0 + List.length r184 ≤ rowMax) then (Fn21 m r182 i183 ((1 : Int)) ((2 : Int)) (fun i185 i186 => Lp61_0 m (fun r207 i208 i209 => k r207 i209) (fun r210 i211 i212 => k r210 i212) rows0 i185 r182 m (rows0 ++ r184) ((0 : Int)) i186)) else
  (none)
def brFn61 (m : Nat) (T : Tbl) (R : Type) (vs : List V) (k : V → List V → Option R) : Option R := match vs with
  | [V.obj [V.f (F.lst [LT.int IntKind.i64] r182), V.f (F.lit (Value.int IntKind.i64 i183))], V.bor [LT.int IntKind.u8] r184] => Fn61 m r182 i183 r184 (fun r213 i214 => k (V.own [LT.int IntKind.u8] r213) [V.obj [V.f (F.lst [LT.int IntKind.i64] r182), V.f (F.lit (Value.int IntKind.i64 i214))], V.undef])
  | _ => T R 61 vs k
set_option maxRecDepth 100000 in
theorem evFn61 (m : Nat) (R : Type) (r182 : Abs.Rows) (i183 : Int) (r184 : Abs.Rows) (k : V → List V → Option R) : runK Try.prog H (T9 m) (L4 m) 61 [V.obj [V.f (F.lst [LT.int IntKind.i64] r182), V.f (F.lit (Value.int IntKind.i64 i183))], V.bor [LT.int IntKind.u8] r184] k = Fn61 (m + 1) r182 i183 r184 (fun r213 i214 => k (V.own [LT.int IntKind.u8] r213) [V.obj [V.f (F.lst [LT.int IntKind.i64] r182), V.f (F.lit (Value.int IntKind.i64 i214))], V.undef]) := by kernel_rfl
def T10 (m : Nat) : Tbl := addT 61 (brFn61 m (T9 m)) (T9 m)
theorem okT10 (m : Nat) : TblOk Try.prog (T10 m) := addT_ok (okT9 m) fun R vs k x h => by
  unfold brFn61 at h
  split at h
  · cases m with
    | zero => cases h
    | succ m => exact runK_some (okT9 m) hM (okL4 m) ((evFn61 m R _ _ _ k).trans h)
  · exact okT9 m R 61 _ k x h

/-- (*hookflash/flashmake.Stream).PacketBytes -/
def Fn10 {R : Type} (m : Nat) : Abs.Rows → Int → (Abs.Rows → Int → Option R) → Option R := match m with
  | 0 => fun _ _ _ => none
  | m + 1 => fun r129 i130 k =>
  Fn58 m r129 i130 (fun i131 i132 i133 i134 b135 r136 i137 => Fn13 m i131 i132 i133 i134 b135 r136 (fun r179 => Fn39 m r129 i137 ((3 : Int)) (fun b180 i181 => bif b180 then (Fn61 m r129 i181 r179 (fun r215 i216 => Fn39 m r129 i216 ((30 : Int)) (fun b217 i218 => bif b217 then (Fn20 m r129 i218 ([[F.lit (Value.int IntKind.i64 (10 : Int))], [F.lit (Value.int IntKind.i64 (11 : Int))], [F.lit (Value.int IntKind.i64 (1011 : Int))], [F.lit (Value.int IntKind.i64 (1012 : Int))]]) (fun i219 i220 => bif decide ((0 : Int) ≤ i219 ∧ i219 ≤ (↑rowMax : Int)) then (bif decide (List.length [[F.lit (Value.int IntKind.u8 (128 : Int))]] + List.length (List.replicate (Int.toNat i219) [F.lit (Value.int IntKind.u8 (0 : Int))]) ≤ rowMax) then (k ([[F.lit (Value.int IntKind.u8 (128 : Int))]] ++ List.replicate (Int.toNat i219) [F.lit (Value.int IntKind.u8 (0 : Int))]) i220) else
  (none)) else
  (none))) else
  (k r215 i218)))) else
  (Fn39 m r129 i181 ((30 : Int)) (fun b221 i222 => bif b221 then (Fn20 m r129 i222 ([[F.lit (Value.int IntKind.i64 (10 : Int))], [F.lit (Value.int IntKind.i64 (11 : Int))], [F.lit (Value.int IntKind.i64 (1011 : Int))], [F.lit (Value.int IntKind.i64 (1012 : Int))]]) (fun i223 i224 => bif decide ((0 : Int) ≤ i223 ∧ i223 ≤ (↑rowMax : Int)) then (bif decide (List.length [[F.lit (Value.int IntKind.u8 (128 : Int))]] + List.length (List.replicate (Int.toNat i223) [F.lit (Value.int IntKind.u8 (0 : Int))]) ≤ rowMax) then (k ([[F.lit (Value.int IntKind.u8 (128 : Int))]] ++ List.replicate (Int.toNat i223) [F.lit (Value.int IntKind.u8 (0 : Int))]) i224) else
  (none)) else
  (none))) else
  (k r179 i222))))))
def brFn10 (m : Nat) (T : Tbl) (R : Type) (vs : List V) (k : V → List V → Option R) : Option R := match vs with
  | [V.obj [V.f (F.lst [LT.int IntKind.i64] r129), V.f (F.lit (Value.int IntKind.i64 i130))]] => Fn10 m r129 i130 (fun r225 i226 => k (V.own [LT.int IntKind.u8] r225) [V.obj [V.f (F.lst [LT.int IntKind.i64] r129), V.f (F.lit (Value.int IntKind.i64 i226))]])
  | _ => T R 10 vs k
set_option maxRecDepth 100000 in
theorem evFn10 (m : Nat) (R : Type) (r129 : Abs.Rows) (i130 : Int) (k : V → List V → Option R) : runK Try.prog H (T10 m) (L4 m) 10 [V.obj [V.f (F.lst [LT.int IntKind.i64] r129), V.f (F.lit (Value.int IntKind.i64 i130))]] k = Fn10 (m + 1) r129 i130 (fun r225 i226 => k (V.own [LT.int IntKind.u8] r225) [V.obj [V.f (F.lst [LT.int IntKind.i64] r129), V.f (F.lit (Value.int IntKind.i64 i226))]]) := by kernel_rfl
def T11 (m : Nat) : Tbl := addT 10 (brFn10 m (T10 m)) (T10 m)
theorem okT11 (m : Nat) : TblOk Try.prog (T11 m) := addT_ok (okT10 m) fun R vs k x h => by
  unfold brFn10 at h
  split at h
  · cases m with
    | zero => cases h
    | succ m => exact runK_some (okT10 m) hM (okL4 m) ((evFn10 m R _ _ k).trans h)
  · exact okT10 m R 10 _ k x h

/-- hookflash/media.within -/
def Fn67 {R : Type} (m : Nat) : Int → Int → Int → (Bool → Option R) → Option R := match m with
  | 0 => fun _ _ _ _ => none
  | m + 1 => fun i241 i242 i243 k =>
  bif decide (i241 ≥ i242) then (k (decide (i241 ≤ i243))) else
  (k false)
def brFn67 (m : Nat) (T : Tbl) (R : Type) (vs : List V) (k : V → List V → Option R) : Option R := match vs with
  | [V.f (F.lit (Value.int IntKind.i64 i241)), V.f (F.lit (Value.int IntKind.i64 i242)), V.f (F.lit (Value.int IntKind.i64 i243))] => Fn67 m i241 i242 i243 (fun b244 => k (V.f (F.lit (Value.bool b244))) [V.undef, V.undef, V.undef])
  | _ => T R 67 vs k
set_option maxRecDepth 100000 in
theorem evFn67 (m : Nat) (R : Type) (i241 : Int) (i242 : Int) (i243 : Int) (k : V → List V → Option R) : runK Try.prog H (T11 m) (L4 m) 67 [V.f (F.lit (Value.int IntKind.i64 i241)), V.f (F.lit (Value.int IntKind.i64 i242)), V.f (F.lit (Value.int IntKind.i64 i243))] k = Fn67 (m + 1) i241 i242 i243 (fun b244 => k (V.f (F.lit (Value.bool b244))) [V.undef, V.undef, V.undef]) := by kernel_rfl
def T12 (m : Nat) : Tbl := addT 67 (brFn67 m (T11 m)) (T11 m)
theorem okT12 (m : Nat) : TblOk Try.prog (T12 m) := addT_ok (okT11 m) fun R vs k x h => by
  unfold brFn67 at h
  split at h
  · cases m with
    | zero => cases h
    | succ m => exact runK_some (okT11 m) hM (okL4 m) ((evFn67 m R _ _ _ k).trans h)
  · exact okT11 m R 67 _ k x h

/-- hookflash/media.CheckPacket -/
def Fn16 {R : Type} (m : Nat) : Int → Int → Int → Int → Bool → Abs.Rows → (Int → Option R) → Option R := match m with
  | 0 => fun _ _ _ _ _ _ _ => none
  | m + 1 => fun i235 i236 i237 i238 b239 r240 k =>
  Fn67 m i235 ((0 : Int)) ((127 : Int)) (fun b245 => bif !b245 then (k ((1 : Int))) else
  (Fn67 m i236 ((0 : Int)) ((65535 : Int)) (fun b246 => bif !b246 then (k ((1 : Int))) else
  (Fn67 m i237 ((0 : Int)) ((4294967295 : Int)) (fun b247 => bif !b247 then (k ((1 : Int))) else
  (Fn67 m i238 ((0 : Int)) ((4294967295 : Int)) (fun b248 => bif !b248 then (k ((1 : Int))) else
  (bif decide ((↑(List.length r240) : Int) > (1000 : Int)) then (k ((2 : Int))) else
  (k ((0 : Int)))))))))))
def brFn16 (m : Nat) (T : Tbl) (R : Type) (vs : List V) (k : V → List V → Option R) : Option R := match vs with
  | [V.agg [V.f (F.lit (Value.int IntKind.i64 i235)), V.f (F.lit (Value.int IntKind.i64 i236)), V.f (F.lit (Value.int IntKind.i64 i237)), V.f (F.lit (Value.int IntKind.i64 i238)), V.f (F.lit (Value.bool b239)), V.f (F.lst [LT.int IntKind.u8] r240)]] => Fn16 m i235 i236 i237 i238 b239 r240 (fun i249 => k (V.f (F.lit (Value.int IntKind.i64 i249))) [V.undef])
  | _ => T R 16 vs k
set_option maxRecDepth 100000 in
theorem evFn16 (m : Nat) (R : Type) (i235 : Int) (i236 : Int) (i237 : Int) (i238 : Int) (b239 : Bool) (r240 : Abs.Rows) (k : V → List V → Option R) : runK Try.prog H (T12 m) (L4 m) 16 [V.agg [V.f (F.lit (Value.int IntKind.i64 i235)), V.f (F.lit (Value.int IntKind.i64 i236)), V.f (F.lit (Value.int IntKind.i64 i237)), V.f (F.lit (Value.int IntKind.i64 i238)), V.f (F.lit (Value.bool b239)), V.f (F.lst [LT.int IntKind.u8] r240)]] k = Fn16 (m + 1) i235 i236 i237 i238 b239 r240 (fun i249 => k (V.f (F.lit (Value.int IntKind.i64 i249))) [V.undef]) := by kernel_rfl
def T13 (m : Nat) : Tbl := addT 16 (brFn16 m (T12 m)) (T12 m)
theorem okT13 (m : Nat) : TblOk Try.prog (T13 m) := addT_ok (okT12 m) fun R vs k x h => by
  unfold brFn16 at h
  split at h
  · cases m with
    | zero => cases h
    | succ m => exact runK_some (okT12 m) hM (okL4 m) ((evFn16 m R _ _ _ _ _ _ k).trans h)
  · exact okT12 m R 16 _ k x h

/-- a round of a loop of hookflash/media.put -/
def Lp62_0_step {R : Type} (m : Nat) (kx0 : Abs.Rows → Int → Option R) (i255 : Int) (i257 : Int) (REC : Abs.Rows → Int → Option R) (r254 : Abs.Rows) (i256 : Int) : Option R :=
  bif decide (i256 ≥ (0 : Int)) then (bif decide ((0 : Int) ≤ IntKind.wrap IntKind.i64 ((8 : Int) * i256)) then (bif decide (List.length r254 + List.length [[F.lit (Value.int IntKind.u8 (IntKind.wrap IntKind.u8 (Int.fdiv i255 ((2 : Int) ^ min (Int.toNat (IntKind.wrap IntKind.i64 ((8 : Int) * i256))) (64 : Nat)))))]] ≤ rowMax) then (REC (r254 ++ [[F.lit (Value.int IntKind.u8 (IntKind.wrap IntKind.u8 (Int.fdiv i255 ((2 : Int) ^ min (Int.toNat (IntKind.wrap IntKind.i64 ((8 : Int) * i256))) (64 : Nat)))))]]) (IntKind.wrap IntKind.i64 (i256 - (1 : Int)))) else
  (none)) else
  (none)) else
  (kx0 r254 i256)
def Lp62_0 {R : Type} (m : Nat) (kx0 : Abs.Rows → Int → Option R) (i255 : Int) (i257 : Int) : Nat → Abs.Rows → Int → Option R
  | 0, _, _ => none
  | n + 1, r254, i256 => Lp62_0_step m kx0 i255 i257 (Lp62_0 m kx0 i255 i257 n) r254 i256
def ELp62_0 (m : Nat) (R : Type) : Nat → List V → (Ex → List V → Option R) → Option R
  | 0, _, _ => none
  | n + 1, vs, k => match vs with
    | [V.own [LT.int IntKind.u8] r254, V.f (F.lit (Value.int IntKind.i64 i255)), V.f (F.lit (Value.int IntKind.i64 i256)), V.f (F.lit (Value.int IntKind.i64 i257)), V.undef, V.undef, V.undef] => Lp62_0_step m (fun r258 i259 => k (Ex.exit (0 : Nat)) [V.own [LT.int IntKind.u8] r258, V.f (F.lit (Value.int IntKind.i64 i255)), V.f (F.lit (Value.int IntKind.i64 i259)), V.f (F.lit (Value.int IntKind.i64 i257)), V.undef, V.undef, V.undef]) i255 i257 (fun r254 i256 => ELp62_0 m R n [V.own [LT.int IntKind.u8] r254, V.f (F.lit (Value.int IntKind.i64 i255)), V.f (F.lit (Value.int IntKind.i64 i256)), V.f (F.lit (Value.int IntKind.i64 i257)), V.undef, V.undef, V.undef] k) r254 i256
    | _ => none
def brLp62_0 (m : Nat) (L : LTbl) (R : Type) (vs : List V) (k : Ex → List V → Option R) : Option R := match vs with
  | [V.own [LT.int IntKind.u8] r254, V.f (F.lit (Value.int IntKind.i64 i255)), V.f (F.lit (Value.int IntKind.i64 i256)), V.f (F.lit (Value.int IntKind.i64 i257)), V.undef, V.undef, V.undef] => Lp62_0 m (fun r258 i259 => k (Ex.exit (0 : Nat)) [V.own [LT.int IntKind.u8] r258, V.f (F.lit (Value.int IntKind.i64 i255)), V.f (F.lit (Value.int IntKind.i64 i259)), V.f (F.lit (Value.int IntKind.i64 i257)), V.undef, V.undef, V.undef]) i255 i257 m r254 i256
  | _ => L R 62 0 vs k
set_option maxRecDepth 100000 in
theorem stLp62_0 (m n : Nat) (R : Type) (r254 : Abs.Rows) (i255 : Int) (i256 : Int) (i257 : Int) (k : Ex → List V → Option R) : codeK Try.prog H (T13 m) 62 (L4 m) 1 (loopBody Try.prog 62 0) (mkEnv [0, 1, 7, 9, 23, 24, 25] [V.own [LT.int IntKind.u8] r254, V.f (F.lit (Value.int IntKind.i64 i255)), V.f (F.lit (Value.int IntKind.i64 i256)), V.f (F.lit (Value.int IntKind.i64 i257)), V.undef, V.undef, V.undef] 0 (H.len 62)) (fun e env' => match e with | .normal => ELp62_0 m R n (vals [0, 1, 7, 9, 23, 24, 25] env') k | e => k e (vals [0, 1, 7, 9, 23, 24, 25] env')) = Lp62_0_step m (fun r258 i259 => k (Ex.exit (0 : Nat)) [V.own [LT.int IntKind.u8] r258, V.f (F.lit (Value.int IntKind.i64 i255)), V.f (F.lit (Value.int IntKind.i64 i259)), V.f (F.lit (Value.int IntKind.i64 i257)), V.undef, V.undef, V.undef]) i255 i257 (fun r254 i256 => ELp62_0 m R n [V.own [LT.int IntKind.u8] r254, V.f (F.lit (Value.int IntKind.i64 i255)), V.f (F.lit (Value.int IntKind.i64 i256)), V.f (F.lit (Value.int IntKind.i64 i257)), V.undef, V.undef, V.undef] k) r254 i256 := by kernel_rfl
theorem eqLp62_0 (m : Nat) (R : Type) (i255 : Int) (i257 : Int) (k : Ex → List V → Option R) : ∀ (n : Nat) (r254 : Abs.Rows) (i256 : Int), ELp62_0 m R n [V.own [LT.int IntKind.u8] r254, V.f (F.lit (Value.int IntKind.i64 i255)), V.f (F.lit (Value.int IntKind.i64 i256)), V.f (F.lit (Value.int IntKind.i64 i257)), V.undef, V.undef, V.undef] k = Lp62_0 m (fun r258 i259 => k (Ex.exit (0 : Nat)) [V.own [LT.int IntKind.u8] r258, V.f (F.lit (Value.int IntKind.i64 i255)), V.f (F.lit (Value.int IntKind.i64 i259)), V.f (F.lit (Value.int IntKind.i64 i257)), V.undef, V.undef, V.undef]) i255 i257 n r254 i256
  | 0, _, _ => rfl
  | n + 1, r254, i256 => by
    simp only [ELp62_0, Lp62_0]
    congr 1
    funext r254 i256
    exact eqLp62_0 m R i255 i257 k n r254 i256
def L5 (m : Nat) : LTbl := addB 62 0 (brLp62_0 m (L4 m)) (L4 m)
theorem okL5 (m : Nat) : LTOk Try.prog H (L5 m) := addB_ok (okT13 m) hM (okL4 m) (l := [0, 1, 7, 9, 23, 24, 25]) (by kernel_rfl) (by kernel_rfl) m (fun R n vs k => ELp62_0 m R n vs k) (fun R vs k => rfl) (fun R n vs k x h => by
      simp only [ELp62_0] at h
      split at h
      · exact (stLp62_0 m n R _ _ _ _ k).trans h
      · cases h) fun R vs k x h => by
    unfold brLp62_0 at h
    split at h
    · exact .inl ((eqLp62_0 m R _ _ k m _ _).trans h)
    · exact .inr h

/-- hookflash/media.put -/
def Fn62 {R : Type} (m : Nat) : Abs.Rows → Int → Int → (Abs.Rows → Option R) → Option R := match m with
  | 0 => fun _ _ _ _ => none
  | m + 1 => fun r251 i252 i253 k =>
  Lp62_0 m (fun r260 i261 => k r260) i252 (IntKind.wrap IntKind.i64 (i253 - (1 : Int))) m r251 (IntKind.wrap IntKind.i64 (i253 - (1 : Int)))
def brFn62 (m : Nat) (T : Tbl) (R : Type) (vs : List V) (k : V → List V → Option R) : Option R := match vs with
  | [V.own [LT.int IntKind.u8] r251, V.f (F.lit (Value.int IntKind.i64 i252)), V.f (F.lit (Value.int IntKind.i64 i253))] => Fn62 m r251 i252 i253 (fun r262 => k (V.own [LT.int IntKind.u8] r262) [V.undef, V.undef, V.undef])
  | _ => T R 62 vs k
set_option maxRecDepth 100000 in
theorem evFn62 (m : Nat) (R : Type) (r251 : Abs.Rows) (i252 : Int) (i253 : Int) (k : V → List V → Option R) : runK Try.prog H (T13 m) (L5 m) 62 [V.own [LT.int IntKind.u8] r251, V.f (F.lit (Value.int IntKind.i64 i252)), V.f (F.lit (Value.int IntKind.i64 i253))] k = Fn62 (m + 1) r251 i252 i253 (fun r262 => k (V.own [LT.int IntKind.u8] r262) [V.undef, V.undef, V.undef]) := by kernel_rfl
def T14 (m : Nat) : Tbl := addT 62 (brFn62 m (T13 m)) (T13 m)
theorem okT14 (m : Nat) : TblOk Try.prog (T14 m) := addT_ok (okT13 m) fun R vs k x h => by
  unfold brFn62 at h
  split at h
  · cases m with
    | zero => cases h
    | succ m => exact runK_some (okT13 m) hM (okL5 m) ((evFn62 m R _ _ _ k).trans h)
  · exact okT13 m R 62 _ k x h

/-- hookflash/media.Write -/
def Fn11 {R : Type} (m : Nat) : Int → Int → Int → Int → Bool → Abs.Rows → (Abs.Rows → Int → Option R) → Option R := match m with
  | 0 => fun _ _ _ _ _ _ _ => none
  | m + 1 => fun i229 i230 i231 i232 b233 r234 k =>
  Fn16 m i229 i230 i231 i232 b233 r234 (fun i250 => bif i250 != (0 : Int) then (k rows0 i250) else
  (bif b233 then (Fn62 m ([[F.lit (Value.int IntKind.u8 (128 : Int))], [F.lit (Value.int IntKind.u8 (IntKind.wrap IntKind.u8 (IntKind.wrap IntKind.i64 (i229 + (128 : Int)))))]]) i230 ((2 : Int)) (fun r263 => Fn62 m r263 i231 ((4 : Int)) (fun r264 => Fn62 m r264 i232 ((4 : Int)) (fun r265 => bif decide (List.length r265 + List.length r234 ≤ rowMax) then (k (r265 ++ r234) ((0 : Int))) else
  (none))))) else
  (Fn62 m ([[F.lit (Value.int IntKind.u8 (128 : Int))], [F.lit (Value.int IntKind.u8 (IntKind.wrap IntKind.u8 i229))]]) i230 ((2 : Int)) (fun r266 => Fn62 m r266 i231 ((4 : Int)) (fun r267 => Fn62 m r267 i232 ((4 : Int)) (fun r268 => bif decide (List.length r268 + List.length r234 ≤ rowMax) then (k (r268 ++ r234) ((0 : Int))) else
  (none)))))))
def brFn11 (m : Nat) (T : Tbl) (R : Type) (vs : List V) (k : V → List V → Option R) : Option R := match vs with
  | [V.agg [V.f (F.lit (Value.int IntKind.i64 i229)), V.f (F.lit (Value.int IntKind.i64 i230)), V.f (F.lit (Value.int IntKind.i64 i231)), V.f (F.lit (Value.int IntKind.i64 i232)), V.f (F.lit (Value.bool b233)), V.f (F.lst [LT.int IntKind.u8] r234)]] => Fn11 m i229 i230 i231 i232 b233 r234 (fun r269 i270 => k (V.tup [V.own [LT.int IntKind.u8] r269, V.f (F.lit (Value.int IntKind.i64 i270))]) [V.undef])
  | _ => T R 11 vs k
set_option maxRecDepth 100000 in
theorem evFn11 (m : Nat) (R : Type) (i229 : Int) (i230 : Int) (i231 : Int) (i232 : Int) (b233 : Bool) (r234 : Abs.Rows) (k : V → List V → Option R) : runK Try.prog H (T14 m) (L5 m) 11 [V.agg [V.f (F.lit (Value.int IntKind.i64 i229)), V.f (F.lit (Value.int IntKind.i64 i230)), V.f (F.lit (Value.int IntKind.i64 i231)), V.f (F.lit (Value.int IntKind.i64 i232)), V.f (F.lit (Value.bool b233)), V.f (F.lst [LT.int IntKind.u8] r234)]] k = Fn11 (m + 1) i229 i230 i231 i232 b233 r234 (fun r269 i270 => k (V.tup [V.own [LT.int IntKind.u8] r269, V.f (F.lit (Value.int IntKind.i64 i270))]) [V.undef]) := by kernel_rfl
def T15 (m : Nat) : Tbl := addT 11 (brFn11 m (T14 m)) (T14 m)
theorem okT15 (m : Nat) : TblOk Try.prog (T15 m) := addT_ok (okT14 m) fun R vs k x h => by
  unfold brFn11 at h
  split at h
  · cases m with
    | zero => cases h
    | succ m => exact runK_some (okT14 m) hM (okL5 m) ((evFn11 m R _ _ _ _ _ _ k).trans h)
  · exact okT14 m R 11 _ k x h

/-- hookflash/flashref2.in -/
def Fn63 {R : Type} (m : Nat) : Int → Int → Int → (Bool → Option R) → Option R := match m with
  | 0 => fun _ _ _ _ => none
  | m + 1 => fun i279 i280 i281 k =>
  bif decide (i280 ≤ i279) then (k (decide (i279 ≤ i281))) else
  (k false)
def brFn63 (m : Nat) (T : Tbl) (R : Type) (vs : List V) (k : V → List V → Option R) : Option R := match vs with
  | [V.f (F.lit (Value.int IntKind.i64 i279)), V.f (F.lit (Value.int IntKind.i64 i280)), V.f (F.lit (Value.int IntKind.i64 i281))] => Fn63 m i279 i280 i281 (fun b282 => k (V.f (F.lit (Value.bool b282))) [V.undef, V.undef, V.undef])
  | _ => T R 63 vs k
set_option maxRecDepth 100000 in
theorem evFn63 (m : Nat) (R : Type) (i279 : Int) (i280 : Int) (i281 : Int) (k : V → List V → Option R) : runK Try.prog H (T15 m) (L5 m) 63 [V.f (F.lit (Value.int IntKind.i64 i279)), V.f (F.lit (Value.int IntKind.i64 i280)), V.f (F.lit (Value.int IntKind.i64 i281))] k = Fn63 (m + 1) i279 i280 i281 (fun b282 => k (V.f (F.lit (Value.bool b282))) [V.undef, V.undef, V.undef]) := by kernel_rfl
def T16 (m : Nat) : Tbl := addT 63 (brFn63 m (T15 m)) (T15 m)
theorem okT16 (m : Nat) : TblOk Try.prog (T16 m) := addT_ok (okT15 m) fun R vs k x h => by
  unfold brFn63 at h
  split at h
  · cases m with
    | zero => cases h
    | succ m => exact runK_some (okT15 m) hM (okL5 m) ((evFn63 m R _ _ _ k).trans h)
  · exact okT15 m R 63 _ k x h

/-- hookflash/flashref2.PacketFault -/
def Fn12 {R : Type} (m : Nat) : Int → Int → Int → Int → Bool → Abs.Rows → (Int → Option R) → Option R := match m with
  | 0 => fun _ _ _ _ _ _ _ => none
  | m + 1 => fun i273 i274 i275 i276 b277 r278 k =>
  Fn63 m i273 ((0 : Int)) ((127 : Int)) (fun b283 => bif !b283 then (k ((1 : Int))) else
  (Fn63 m i274 ((0 : Int)) ((65535 : Int)) (fun b284 => bif !b284 then (k ((1 : Int))) else
  (Fn63 m i275 ((0 : Int)) ((4294967295 : Int)) (fun b285 => bif !b285 then (k ((1 : Int))) else
  (Fn63 m i276 ((0 : Int)) ((4294967295 : Int)) (fun b286 => bif !b286 then (k ((1 : Int))) else
  (bif decide ((↑(List.length r278) : Int) > (1000 : Int)) then (k ((2 : Int))) else
  (k ((0 : Int)))))))))))
def brFn12 (m : Nat) (T : Tbl) (R : Type) (vs : List V) (k : V → List V → Option R) : Option R := match vs with
  | [V.agg [V.f (F.lit (Value.int IntKind.i64 i273)), V.f (F.lit (Value.int IntKind.i64 i274)), V.f (F.lit (Value.int IntKind.i64 i275)), V.f (F.lit (Value.int IntKind.i64 i276)), V.f (F.lit (Value.bool b277)), V.f (F.lst [LT.int IntKind.u8] r278)]] => Fn12 m i273 i274 i275 i276 b277 r278 (fun i287 => k (V.f (F.lit (Value.int IntKind.i64 i287))) [V.undef])
  | _ => T R 12 vs k
set_option maxRecDepth 100000 in
theorem evFn12 (m : Nat) (R : Type) (i273 : Int) (i274 : Int) (i275 : Int) (i276 : Int) (b277 : Bool) (r278 : Abs.Rows) (k : V → List V → Option R) : runK Try.prog H (T16 m) (L5 m) 12 [V.agg [V.f (F.lit (Value.int IntKind.i64 i273)), V.f (F.lit (Value.int IntKind.i64 i274)), V.f (F.lit (Value.int IntKind.i64 i275)), V.f (F.lit (Value.int IntKind.i64 i276)), V.f (F.lit (Value.bool b277)), V.f (F.lst [LT.int IntKind.u8] r278)]] k = Fn12 (m + 1) i273 i274 i275 i276 b277 r278 (fun i287 => k (V.f (F.lit (Value.int IntKind.i64 i287))) [V.undef]) := by kernel_rfl
def T17 (m : Nat) : Tbl := addT 12 (brFn12 m (T16 m)) (T16 m)
theorem okT17 (m : Nat) : TblOk Try.prog (T17 m) := addT_ok (okT16 m) fun R vs k x h => by
  unfold brFn12 at h
  split at h
  · cases m with
    | zero => cases h
    | succ m => exact runK_some (okT16 m) hM (okL5 m) ((evFn12 m R _ _ _ _ _ _ k).trans h)
  · exact okT16 m R 12 _ k x h

/-- a round of a loop of hookflash/media.get -/
def Lp64_0_step {R : Type} (m : Nat) (kx0 : Int → Int → Option R) (r292 : Abs.Rows) (r294 : Abs.Rows) (i295 : Int) (REC : Int → Int → Option R) (i293 : Int) (i296 : Int) : Option R :=
  bif decide (i296 < i295) then (bif decide ((0 : Int) ≤ i296 ∧ i296 < (↑(List.length r294) : Int)) then (REC (bitsOp IntKind.i64 (BitVec.ofInt (64 : Nat) (IntKind.wrap IntKind.i64 (i293 * (2 : Int) ^ min (Int.toNat (8 : Int)) (64 : Nat))) ||| BitVec.ofInt (64 : Nat) (IntKind.wrap IntKind.i64 (F.toInt (List.headD (Abs.rowAt r294 (Int.toNat i296)) default))))) (IntKind.wrap IntKind.i64 (i296 + (1 : Int)))) else
  (none)) else
  (kx0 i293 i296)
def Lp64_0 {R : Type} (m : Nat) (kx0 : Int → Int → Option R) (r292 : Abs.Rows) (r294 : Abs.Rows) (i295 : Int) : Nat → Int → Int → Option R
  | 0, _, _ => none
  | n + 1, i293, i296 => Lp64_0_step m kx0 r292 r294 i295 (Lp64_0 m kx0 r292 r294 i295 n) i293 i296
def ELp64_0 (m : Nat) (R : Type) : Nat → List V → (Ex → List V → Option R) → Option R
  | 0, _, _ => none
  | n + 1, vs, k => match vs with
    | [V.bor [LT.int IntKind.u8] r292, V.f (F.lit (Value.int IntKind.i64 i293)), V.bor [LT.int IntKind.u8] r294, V.f (F.lit (Value.int IntKind.i64 i295)), V.f (F.lit (Value.int IntKind.i64 i296)), V.undef] => Lp64_0_step m (fun i297 i298 => k (Ex.exit (0 : Nat)) [V.bor [LT.int IntKind.u8] r292, V.f (F.lit (Value.int IntKind.i64 i297)), V.bor [LT.int IntKind.u8] r294, V.f (F.lit (Value.int IntKind.i64 i295)), V.f (F.lit (Value.int IntKind.i64 i298)), V.undef]) r292 r294 i295 (fun i293 i296 => ELp64_0 m R n [V.bor [LT.int IntKind.u8] r292, V.f (F.lit (Value.int IntKind.i64 i293)), V.bor [LT.int IntKind.u8] r294, V.f (F.lit (Value.int IntKind.i64 i295)), V.f (F.lit (Value.int IntKind.i64 i296)), V.undef] k) i293 i296
    | _ => none
def brLp64_0 (m : Nat) (L : LTbl) (R : Type) (vs : List V) (k : Ex → List V → Option R) : Option R := match vs with
  | [V.bor [LT.int IntKind.u8] r292, V.f (F.lit (Value.int IntKind.i64 i293)), V.bor [LT.int IntKind.u8] r294, V.f (F.lit (Value.int IntKind.i64 i295)), V.f (F.lit (Value.int IntKind.i64 i296)), V.undef] => Lp64_0 m (fun i297 i298 => k (Ex.exit (0 : Nat)) [V.bor [LT.int IntKind.u8] r292, V.f (F.lit (Value.int IntKind.i64 i297)), V.bor [LT.int IntKind.u8] r294, V.f (F.lit (Value.int IntKind.i64 i295)), V.f (F.lit (Value.int IntKind.i64 i298)), V.undef]) r292 r294 i295 m i293 i296
  | _ => L R 64 0 vs k
set_option maxRecDepth 100000 in
theorem stLp64_0 (m n : Nat) (R : Type) (r292 : Abs.Rows) (i293 : Int) (r294 : Abs.Rows) (i295 : Int) (i296 : Int) (k : Ex → List V → Option R) : codeK Try.prog H (T17 m) 64 (L5 m) 1 (loopBody Try.prog 64 0) (mkEnv [0, 3, 6, 7, 8, 19] [V.bor [LT.int IntKind.u8] r292, V.f (F.lit (Value.int IntKind.i64 i293)), V.bor [LT.int IntKind.u8] r294, V.f (F.lit (Value.int IntKind.i64 i295)), V.f (F.lit (Value.int IntKind.i64 i296)), V.undef] 0 (H.len 64)) (fun e env' => match e with | .normal => ELp64_0 m R n (vals [0, 3, 6, 7, 8, 19] env') k | e => k e (vals [0, 3, 6, 7, 8, 19] env')) = Lp64_0_step m (fun i297 i298 => k (Ex.exit (0 : Nat)) [V.bor [LT.int IntKind.u8] r292, V.f (F.lit (Value.int IntKind.i64 i297)), V.bor [LT.int IntKind.u8] r294, V.f (F.lit (Value.int IntKind.i64 i295)), V.f (F.lit (Value.int IntKind.i64 i298)), V.undef]) r292 r294 i295 (fun i293 i296 => ELp64_0 m R n [V.bor [LT.int IntKind.u8] r292, V.f (F.lit (Value.int IntKind.i64 i293)), V.bor [LT.int IntKind.u8] r294, V.f (F.lit (Value.int IntKind.i64 i295)), V.f (F.lit (Value.int IntKind.i64 i296)), V.undef] k) i293 i296 := by kernel_rfl
theorem eqLp64_0 (m : Nat) (R : Type) (r292 : Abs.Rows) (r294 : Abs.Rows) (i295 : Int) (k : Ex → List V → Option R) : ∀ (n : Nat) (i293 : Int) (i296 : Int), ELp64_0 m R n [V.bor [LT.int IntKind.u8] r292, V.f (F.lit (Value.int IntKind.i64 i293)), V.bor [LT.int IntKind.u8] r294, V.f (F.lit (Value.int IntKind.i64 i295)), V.f (F.lit (Value.int IntKind.i64 i296)), V.undef] k = Lp64_0 m (fun i297 i298 => k (Ex.exit (0 : Nat)) [V.bor [LT.int IntKind.u8] r292, V.f (F.lit (Value.int IntKind.i64 i297)), V.bor [LT.int IntKind.u8] r294, V.f (F.lit (Value.int IntKind.i64 i295)), V.f (F.lit (Value.int IntKind.i64 i298)), V.undef]) r292 r294 i295 n i293 i296
  | 0, _, _ => rfl
  | n + 1, i293, i296 => by
    simp only [ELp64_0, Lp64_0]
    congr 1
    funext i293 i296
    exact eqLp64_0 m R r292 r294 i295 k n i293 i296
def L6 (m : Nat) : LTbl := addB 64 0 (brLp64_0 m (L5 m)) (L5 m)
theorem okL6 (m : Nat) : LTOk Try.prog H (L6 m) := addB_ok (okT17 m) hM (okL5 m) (l := [0, 3, 6, 7, 8, 19]) (by kernel_rfl) (by kernel_rfl) m (fun R n vs k => ELp64_0 m R n vs k) (fun R vs k => rfl) (fun R n vs k x h => by
      simp only [ELp64_0] at h
      split at h
      · exact (stLp64_0 m n R _ _ _ _ _ k).trans h
      · cases h) fun R vs k x h => by
    unfold brLp64_0 at h
    split at h
    · exact .inl ((eqLp64_0 m R _ _ _ k m _ _).trans h)
    · exact .inr h

/-- hookflash/media.get -/
def Fn64 {R : Type} (m : Nat) : Abs.Rows → (Int → Option R) → Option R := match m with
  | 0 => fun _ _ => none
  | m + 1 => fun r291 k =>
  Lp64_0 m (fun i299 i300 => k i299) r291 r291 ((↑(List.length r291) : Int)) m ((0 : Int)) ((0 : Int))
def brFn64 (m : Nat) (T : Tbl) (R : Type) (vs : List V) (k : V → List V → Option R) : Option R := match vs with
  | [V.bor [LT.int IntKind.u8] r291] => Fn64 m r291 (fun i301 => k (V.f (F.lit (Value.int IntKind.i64 i301))) [V.undef])
  | _ => T R 64 vs k
set_option maxRecDepth 100000 in
theorem evFn64 (m : Nat) (R : Type) (r291 : Abs.Rows) (k : V → List V → Option R) : runK Try.prog H (T17 m) (L6 m) 64 [V.bor [LT.int IntKind.u8] r291] k = Fn64 (m + 1) r291 (fun i301 => k (V.f (F.lit (Value.int IntKind.i64 i301))) [V.undef]) := by kernel_rfl
def T18 (m : Nat) : Tbl := addT 64 (brFn64 m (T17 m)) (T17 m)
theorem okT18 (m : Nat) : TblOk Try.prog (T18 m) := addT_ok (okT17 m) fun R vs k x h => by
  unfold brFn64 at h
  split at h
  · cases m with
    | zero => cases h
    | succ m => exact runK_some (okT17 m) hM (okL6 m) ((evFn64 m R _ k).trans h)
  · exact okT17 m R 64 _ k x h

/-- hookflash/media.ReadPacket -/
def Fn14 {R : Type} (m : Nat) : Abs.Rows → (Int → Int → Int → Int → Bool → Abs.Rows → Int → Option R) → Option R := match m with
  | 0 => fun _ _ => none
  | m + 1 => fun r290 k =>
  bif decide ((↑(List.length r290) : Int) < (12 : Int)) then (k ((0 : Int)) ((0 : Int)) ((0 : Int)) ((0 : Int)) false rows0 ((3 : Int))) else
  (bif decide ((0 : Int) ≤ (0 : Int) ∧ (0 : Int) < (↑(List.length r290) : Int)) then (bif F.toInt (List.headD (Abs.rowAt r290 (Int.toNat (0 : Int))) default) != (128 : Int) then (k ((0 : Int)) ((0 : Int)) ((0 : Int)) ((0 : Int)) false rows0 ((3 : Int))) else
  (bif decide (IntKind.wrap IntKind.i64 ((↑(List.length r290) : Int) - (12 : Int)) > (1000 : Int)) then (k ((0 : Int)) ((0 : Int)) ((0 : Int)) ((0 : Int)) false rows0 ((2 : Int))) else
  (bif decide ((0 : Int) ≤ (1 : Int) ∧ (1 : Int) < (↑(List.length r290) : Int)) then (bif decide ((0 : Int) ≤ (1 : Int) ∧ (1 : Int) < (↑(List.length r290) : Int)) then (bif decide ((0 : Int) ≤ (4 : Int) ∧ (4 : Int) ≤ (↑(List.length r290) : Int)) then (Fn64 m (List.take (Int.toNat (4 : Int) - Int.toNat (2 : Int)) (List.drop (Int.toNat (2 : Int)) r290)) (fun i302 => bif decide ((0 : Int) ≤ (8 : Int) ∧ (8 : Int) ≤ (↑(List.length r290) : Int)) then (Fn64 m (List.take (Int.toNat (8 : Int) - Int.toNat (4 : Int)) (List.drop (Int.toNat (4 : Int)) r290)) (fun i303 => bif decide ((0 : Int) ≤ (12 : Int) ∧ (12 : Int) ≤ (↑(List.length r290) : Int)) then (Fn64 m (List.take (Int.toNat (12 : Int) - Int.toNat (8 : Int)) (List.drop (Int.toNat (8 : Int)) r290)) (fun i304 => bif decide ((0 : Int) ≤ (12 : Int) ∧ (12 : Int) ≤ (↑(List.length r290) : Int)) then (bif decide (List.length rows0 + List.length (List.take (List.length r290 - Int.toNat (12 : Int)) (List.drop (Int.toNat (12 : Int)) r290)) ≤ rowMax) then (k (IntKind.wrap IntKind.i64 (bitsOp IntKind.u8 (BitVec.ofInt (8 : Nat) (F.toInt (List.headD (Abs.rowAt r290 (Int.toNat (1 : Int))) default)) &&& BitVec.ofInt (8 : Nat) (127 : Int)))) i302 i303 i304 (decide (F.toInt (List.headD (Abs.rowAt r290 (Int.toNat (1 : Int))) default) ≥ (128 : Int))) (rows0 ++ List.take (List.length r290 - Int.toNat (12 : Int)) (List.drop (Int.toNat (12 : Int)) r290)) ((0 : Int))) else
  (none)) else
  (none))) else
  (none))) else
  (none))) else
  (none)) else
  (none)) else
  (none)))) else
  (none))
def brFn14 (m : Nat) (T : Tbl) (R : Type) (vs : List V) (k : V → List V → Option R) : Option R := match vs with
  | [V.bor [LT.int IntKind.u8] r290] => Fn14 m r290 (fun i305 i306 i307 i308 b309 r310 i311 => k (V.tup [V.agg [V.f (F.lit (Value.int IntKind.i64 i305)), V.f (F.lit (Value.int IntKind.i64 i306)), V.f (F.lit (Value.int IntKind.i64 i307)), V.f (F.lit (Value.int IntKind.i64 i308)), V.f (F.lit (Value.bool b309)), V.own [LT.int IntKind.u8] r310], V.f (F.lit (Value.int IntKind.i64 i311))]) [V.undef])
  | _ => T R 14 vs k
set_option maxRecDepth 100000 in
theorem evFn14 (m : Nat) (R : Type) (r290 : Abs.Rows) (k : V → List V → Option R) : runK Try.prog H (T18 m) (L6 m) 14 [V.bor [LT.int IntKind.u8] r290] k = Fn14 (m + 1) r290 (fun i305 i306 i307 i308 b309 r310 i311 => k (V.tup [V.agg [V.f (F.lit (Value.int IntKind.i64 i305)), V.f (F.lit (Value.int IntKind.i64 i306)), V.f (F.lit (Value.int IntKind.i64 i307)), V.f (F.lit (Value.int IntKind.i64 i308)), V.f (F.lit (Value.bool b309)), V.own [LT.int IntKind.u8] r310], V.f (F.lit (Value.int IntKind.i64 i311))]) [V.undef]) := by kernel_rfl
def T19 (m : Nat) : Tbl := addT 14 (brFn14 m (T18 m)) (T18 m)
theorem okT19 (m : Nat) : TblOk Try.prog (T19 m) := addT_ok (okT18 m) fun R vs k x h => by
  unfold brFn14 at h
  split at h
  · cases m with
    | zero => cases h
    | succ m => exact runK_some (okT18 m) hM (okL6 m) ((evFn14 m R _ k).trans h)
  · exact okT18 m R 14 _ k x h

/-- a round of a loop of hookflash/flashref2.PacketRead$1 -/
def Lp65_0_step {R : Type} (m : Nat) (kx0 : Int → Int → Option R) (r321 : Abs.Rows) (r323 : Abs.Rows) (i324 : Int) (REC : Int → Int → Option R) (i322 : Int) (i325 : Int) : Option R :=
  bif decide (i325 < i324) then (bif decide ((0 : Int) ≤ i325 ∧ i325 < (↑(List.length r323) : Int)) then (REC (IntKind.wrap IntKind.i64 (IntKind.wrap IntKind.i64 ((256 : Int) * i322) + IntKind.wrap IntKind.i64 (F.toInt (List.headD (Abs.rowAt r323 (Int.toNat i325)) default)))) (IntKind.wrap IntKind.i64 (i325 + (1 : Int)))) else
  (none)) else
  (kx0 i322 i325)
def Lp65_0 {R : Type} (m : Nat) (kx0 : Int → Int → Option R) (r321 : Abs.Rows) (r323 : Abs.Rows) (i324 : Int) : Nat → Int → Int → Option R
  | 0, _, _ => none
  | n + 1, i322, i325 => Lp65_0_step m kx0 r321 r323 i324 (Lp65_0 m kx0 r321 r323 i324 n) i322 i325
def ELp65_0 (m : Nat) (R : Type) : Nat → List V → (Ex → List V → Option R) → Option R
  | 0, _, _ => none
  | n + 1, vs, k => match vs with
    | [V.bor [LT.int IntKind.u8] r321, V.f (F.lit (Value.int IntKind.i64 i322)), V.bor [LT.int IntKind.u8] r323, V.f (F.lit (Value.int IntKind.i64 i324)), V.f (F.lit (Value.int IntKind.i64 i325)), V.undef] => Lp65_0_step m (fun i326 i327 => k (Ex.exit (0 : Nat)) [V.bor [LT.int IntKind.u8] r321, V.f (F.lit (Value.int IntKind.i64 i326)), V.bor [LT.int IntKind.u8] r323, V.f (F.lit (Value.int IntKind.i64 i324)), V.f (F.lit (Value.int IntKind.i64 i327)), V.undef]) r321 r323 i324 (fun i322 i325 => ELp65_0 m R n [V.bor [LT.int IntKind.u8] r321, V.f (F.lit (Value.int IntKind.i64 i322)), V.bor [LT.int IntKind.u8] r323, V.f (F.lit (Value.int IntKind.i64 i324)), V.f (F.lit (Value.int IntKind.i64 i325)), V.undef] k) i322 i325
    | _ => none
def brLp65_0 (m : Nat) (L : LTbl) (R : Type) (vs : List V) (k : Ex → List V → Option R) : Option R := match vs with
  | [V.bor [LT.int IntKind.u8] r321, V.f (F.lit (Value.int IntKind.i64 i322)), V.bor [LT.int IntKind.u8] r323, V.f (F.lit (Value.int IntKind.i64 i324)), V.f (F.lit (Value.int IntKind.i64 i325)), V.undef] => Lp65_0 m (fun i326 i327 => k (Ex.exit (0 : Nat)) [V.bor [LT.int IntKind.u8] r321, V.f (F.lit (Value.int IntKind.i64 i326)), V.bor [LT.int IntKind.u8] r323, V.f (F.lit (Value.int IntKind.i64 i324)), V.f (F.lit (Value.int IntKind.i64 i327)), V.undef]) r321 r323 i324 m i322 i325
  | _ => L R 65 0 vs k
set_option maxRecDepth 100000 in
theorem stLp65_0 (m n : Nat) (R : Type) (r321 : Abs.Rows) (i322 : Int) (r323 : Abs.Rows) (i324 : Int) (i325 : Int) (k : Ex → List V → Option R) : codeK Try.prog H (T19 m) 65 (L6 m) 1 (loopBody Try.prog 65 0) (mkEnv [0, 3, 6, 7, 8, 19] [V.bor [LT.int IntKind.u8] r321, V.f (F.lit (Value.int IntKind.i64 i322)), V.bor [LT.int IntKind.u8] r323, V.f (F.lit (Value.int IntKind.i64 i324)), V.f (F.lit (Value.int IntKind.i64 i325)), V.undef] 0 (H.len 65)) (fun e env' => match e with | .normal => ELp65_0 m R n (vals [0, 3, 6, 7, 8, 19] env') k | e => k e (vals [0, 3, 6, 7, 8, 19] env')) = Lp65_0_step m (fun i326 i327 => k (Ex.exit (0 : Nat)) [V.bor [LT.int IntKind.u8] r321, V.f (F.lit (Value.int IntKind.i64 i326)), V.bor [LT.int IntKind.u8] r323, V.f (F.lit (Value.int IntKind.i64 i324)), V.f (F.lit (Value.int IntKind.i64 i327)), V.undef]) r321 r323 i324 (fun i322 i325 => ELp65_0 m R n [V.bor [LT.int IntKind.u8] r321, V.f (F.lit (Value.int IntKind.i64 i322)), V.bor [LT.int IntKind.u8] r323, V.f (F.lit (Value.int IntKind.i64 i324)), V.f (F.lit (Value.int IntKind.i64 i325)), V.undef] k) i322 i325 := by kernel_rfl
theorem eqLp65_0 (m : Nat) (R : Type) (r321 : Abs.Rows) (r323 : Abs.Rows) (i324 : Int) (k : Ex → List V → Option R) : ∀ (n : Nat) (i322 : Int) (i325 : Int), ELp65_0 m R n [V.bor [LT.int IntKind.u8] r321, V.f (F.lit (Value.int IntKind.i64 i322)), V.bor [LT.int IntKind.u8] r323, V.f (F.lit (Value.int IntKind.i64 i324)), V.f (F.lit (Value.int IntKind.i64 i325)), V.undef] k = Lp65_0 m (fun i326 i327 => k (Ex.exit (0 : Nat)) [V.bor [LT.int IntKind.u8] r321, V.f (F.lit (Value.int IntKind.i64 i326)), V.bor [LT.int IntKind.u8] r323, V.f (F.lit (Value.int IntKind.i64 i324)), V.f (F.lit (Value.int IntKind.i64 i327)), V.undef]) r321 r323 i324 n i322 i325
  | 0, _, _ => rfl
  | n + 1, i322, i325 => by
    simp only [ELp65_0, Lp65_0]
    congr 1
    funext i322 i325
    exact eqLp65_0 m R r321 r323 i324 k n i322 i325
def L7 (m : Nat) : LTbl := addB 65 0 (brLp65_0 m (L6 m)) (L6 m)
theorem okL7 (m : Nat) : LTOk Try.prog H (L7 m) := addB_ok (okT19 m) hM (okL6 m) (l := [0, 3, 6, 7, 8, 19]) (by kernel_rfl) (by kernel_rfl) m (fun R n vs k => ELp65_0 m R n vs k) (fun R vs k => rfl) (fun R n vs k x h => by
      simp only [ELp65_0] at h
      split at h
      · exact (stLp65_0 m n R _ _ _ _ _ k).trans h
      · cases h) fun R vs k x h => by
    unfold brLp65_0 at h
    split at h
    · exact .inl ((eqLp65_0 m R _ _ _ k m _ _).trans h)
    · exact .inr h

/-- hookflash/flashref2.PacketRead$1 -/
def Fn65 {R : Type} (m : Nat) : Abs.Rows → (Int → Option R) → Option R := match m with
  | 0 => fun _ _ => none
  | m + 1 => fun r320 k =>
  Lp65_0 m (fun i328 i329 => k i328) r320 r320 ((↑(List.length r320) : Int)) m ((0 : Int)) ((0 : Int))
def brFn65 (m : Nat) (T : Tbl) (R : Type) (vs : List V) (k : V → List V → Option R) : Option R := match vs with
  | [V.bor [LT.int IntKind.u8] r320] => Fn65 m r320 (fun i330 => k (V.f (F.lit (Value.int IntKind.i64 i330))) [V.undef])
  | _ => T R 65 vs k
set_option maxRecDepth 100000 in
theorem evFn65 (m : Nat) (R : Type) (r320 : Abs.Rows) (k : V → List V → Option R) : runK Try.prog H (T19 m) (L7 m) 65 [V.bor [LT.int IntKind.u8] r320] k = Fn65 (m + 1) r320 (fun i330 => k (V.f (F.lit (Value.int IntKind.i64 i330))) [V.undef]) := by kernel_rfl
def T20 (m : Nat) : Tbl := addT 65 (brFn65 m (T19 m)) (T19 m)
theorem okT20 (m : Nat) : TblOk Try.prog (T20 m) := addT_ok (okT19 m) fun R vs k x h => by
  unfold brFn65 at h
  split at h
  · cases m with
    | zero => cases h
    | succ m => exact runK_some (okT19 m) hM (okL7 m) ((evFn65 m R _ k).trans h)
  · exact okT19 m R 65 _ k x h

/-- hookflash/flashref2.PacketRead -/
def Fn15 {R : Type} (m : Nat) : Abs.Rows → (Int → Int → Int → Int → Bool → Abs.Rows → Int → Option R) → Option R := match m with
  | 0 => fun _ _ => none
  | m + 1 => fun r319 k =>
  bif decide ((↑(List.length r319) : Int) < (12 : Int)) then (k ((0 : Int)) ((0 : Int)) ((0 : Int)) ((0 : Int)) false rows0 ((3 : Int))) else
  (bif decide ((0 : Int) ≤ (0 : Int) ∧ (0 : Int) < (↑(List.length r319) : Int)) then (bif F.toInt (List.headD (Abs.rowAt r319 (Int.toNat (0 : Int))) default) != (128 : Int) then (k ((0 : Int)) ((0 : Int)) ((0 : Int)) ((0 : Int)) false rows0 ((3 : Int))) else
  (bif decide (IntKind.wrap IntKind.i64 ((↑(List.length r319) : Int) - (12 : Int)) > (1000 : Int)) then (k ((0 : Int)) ((0 : Int)) ((0 : Int)) ((0 : Int)) false rows0 ((2 : Int))) else
  (bif decide ((0 : Int) ≤ (1 : Int) ∧ (1 : Int) < (↑(List.length r319) : Int)) then (bif decide ((0 : Int) ≤ (1 : Int) ∧ (1 : Int) < (↑(List.length r319) : Int)) then (bif decide ((0 : Int) ≤ (4 : Int) ∧ (4 : Int) ≤ (↑(List.length r319) : Int)) then (Fn65 m (List.take (Int.toNat (4 : Int) - Int.toNat (2 : Int)) (List.drop (Int.toNat (2 : Int)) r319)) (fun i331 => bif decide ((0 : Int) ≤ (8 : Int) ∧ (8 : Int) ≤ (↑(List.length r319) : Int)) then (Fn65 m (List.take (Int.toNat (8 : Int) - Int.toNat (4 : Int)) (List.drop (Int.toNat (4 : Int)) r319)) (fun i332 => bif decide ((0 : Int) ≤ (12 : Int) ∧ (12 : Int) ≤ (↑(List.length r319) : Int)) then (Fn65 m (List.take (Int.toNat (12 : Int) - Int.toNat (8 : Int)) (List.drop (Int.toNat (8 : Int)) r319)) (fun i333 => bif decide ((0 : Int) ≤ (12 : Int) ∧ (12 : Int) ≤ (↑(List.length r319) : Int)) then (bif lenOk (List.take (List.length r319 - Int.toNat (12 : Int)) (List.drop (Int.toNat (12 : Int)) r319)) then (k (IntKind.wrap IntKind.i64 (Int.tmod (F.toInt (List.headD (Abs.rowAt r319 (Int.toNat (1 : Int))) default)) (128 : Int))) i331 i332 i333 (decide (F.toInt (List.headD (Abs.rowAt r319 (Int.toNat (1 : Int))) default) ≥ (128 : Int))) (List.take (List.length r319 - Int.toNat (12 : Int)) (List.drop (Int.toNat (12 : Int)) r319)) ((0 : Int))) else
  (none)) else
  (none))) else
  (none))) else
  (none))) else
  (none)) else
  (none)) else
  (none)))) else
  (none))
def brFn15 (m : Nat) (T : Tbl) (R : Type) (vs : List V) (k : V → List V → Option R) : Option R := match vs with
  | [V.bor [LT.int IntKind.u8] r319] => Fn15 m r319 (fun i334 i335 i336 i337 b338 r339 i340 => k (V.tup [V.agg [V.f (F.lit (Value.int IntKind.i64 i334)), V.f (F.lit (Value.int IntKind.i64 i335)), V.f (F.lit (Value.int IntKind.i64 i336)), V.f (F.lit (Value.int IntKind.i64 i337)), V.f (F.lit (Value.bool b338)), V.own [LT.int IntKind.u8] r339], V.f (F.lit (Value.int IntKind.i64 i340))]) [V.undef])
  | _ => T R 15 vs k
set_option maxRecDepth 100000 in
theorem evFn15 (m : Nat) (R : Type) (r319 : Abs.Rows) (k : V → List V → Option R) : runK Try.prog H (T20 m) (L7 m) 15 [V.bor [LT.int IntKind.u8] r319] k = Fn15 (m + 1) r319 (fun i334 i335 i336 i337 b338 r339 i340 => k (V.tup [V.agg [V.f (F.lit (Value.int IntKind.i64 i334)), V.f (F.lit (Value.int IntKind.i64 i335)), V.f (F.lit (Value.int IntKind.i64 i336)), V.f (F.lit (Value.int IntKind.i64 i337)), V.f (F.lit (Value.bool b338)), V.own [LT.int IntKind.u8] r339], V.f (F.lit (Value.int IntKind.i64 i340))]) [V.undef]) := by kernel_rfl
def T21 (m : Nat) : Tbl := addT 15 (brFn15 m (T20 m)) (T20 m)
theorem okT21 (m : Nat) : TblOk Try.prog (T21 m) := addT_ok (okT20 m) fun R vs k x h => by
  unfold brFn15 at h
  split at h
  · cases m with
    | zero => cases h
    | succ m => exact runK_some (okT20 m) hM (okL7 m) ((evFn15 m R _ k).trans h)
  · exact okT20 m R 15 _ k x h

/-- a round of a loop of slices.Equal[[]byte,byte] -/
def Lp17_0_step {R : Type} (m : Nat) (kx0 : Bool → Int → Option R) (kx1 : Int → Option R) (r351 : Abs.Rows) (r352 : Abs.Rows) (b353 : Bool) (i354 : Int) (REC : Int → Option R) (i355 : Int) : Option R :=
  bif decide (i355 < i354) then (bif decide ((0 : Int) ≤ i355 ∧ i355 < (↑(List.length r351) : Int)) then (bif decide ((0 : Int) ≤ i355 ∧ i355 < (↑(List.length r352) : Int)) then (bif F.toInt (List.headD (Abs.rowAt r351 (Int.toNat i355)) default) != F.toInt (List.headD (Abs.rowAt r352 (Int.toNat i355)) default) then (kx0 false i355) else
  (REC (IntKind.wrap IntKind.i64 (i355 + (1 : Int))))) else
  (none)) else
  (none)) else
  (kx1 i355)
def Lp17_0 {R : Type} (m : Nat) (kx0 : Bool → Int → Option R) (kx1 : Int → Option R) (r351 : Abs.Rows) (r352 : Abs.Rows) (b353 : Bool) (i354 : Int) : Nat → Int → Option R
  | 0, _ => none
  | n + 1, i355 => Lp17_0_step m kx0 kx1 r351 r352 b353 i354 (Lp17_0 m kx0 kx1 r351 r352 b353 i354 n) i355
def ELp17_0 (m : Nat) (R : Type) : Nat → List V → (Ex → List V → Option R) → Option R
  | 0, _, _ => none
  | n + 1, vs, k => match vs with
    | [V.bor [LT.int IntKind.u8] r351, V.bor [LT.int IntKind.u8] r352, V.f (F.lit (Value.bool b353)), V.f (F.lit (Value.int IntKind.i64 i354)), V.f (F.lit (Value.int IntKind.i64 i355)), V.undef, V.undef] => Lp17_0_step m (fun b356 i357 => k Ex.ret [V.bor [LT.int IntKind.u8] r351, V.bor [LT.int IntKind.u8] r352, V.f (F.lit (Value.bool b356)), V.f (F.lit (Value.int IntKind.i64 i354)), V.f (F.lit (Value.int IntKind.i64 i357)), V.undef, V.undef]) (fun i358 => k (Ex.exit (0 : Nat)) [V.bor [LT.int IntKind.u8] r351, V.bor [LT.int IntKind.u8] r352, V.f (F.lit (Value.bool b353)), V.f (F.lit (Value.int IntKind.i64 i354)), V.f (F.lit (Value.int IntKind.i64 i358)), V.undef, V.undef]) r351 r352 b353 i354 (fun i355 => ELp17_0 m R n [V.bor [LT.int IntKind.u8] r351, V.bor [LT.int IntKind.u8] r352, V.f (F.lit (Value.bool b353)), V.f (F.lit (Value.int IntKind.i64 i354)), V.f (F.lit (Value.int IntKind.i64 i355)), V.undef, V.undef] k) i355
    | _ => none
def brLp17_0 (m : Nat) (L : LTbl) (R : Type) (vs : List V) (k : Ex → List V → Option R) : Option R := match vs with
  | [V.bor [LT.int IntKind.u8] r351, V.bor [LT.int IntKind.u8] r352, V.f (F.lit (Value.bool b353)), V.f (F.lit (Value.int IntKind.i64 i354)), V.f (F.lit (Value.int IntKind.i64 i355)), V.undef, V.undef] => Lp17_0 m (fun b356 i357 => k Ex.ret [V.bor [LT.int IntKind.u8] r351, V.bor [LT.int IntKind.u8] r352, V.f (F.lit (Value.bool b356)), V.f (F.lit (Value.int IntKind.i64 i354)), V.f (F.lit (Value.int IntKind.i64 i357)), V.undef, V.undef]) (fun i358 => k (Ex.exit (0 : Nat)) [V.bor [LT.int IntKind.u8] r351, V.bor [LT.int IntKind.u8] r352, V.f (F.lit (Value.bool b353)), V.f (F.lit (Value.int IntKind.i64 i354)), V.f (F.lit (Value.int IntKind.i64 i358)), V.undef, V.undef]) r351 r352 b353 i354 m i355
  | _ => L R 17 0 vs k
set_option maxRecDepth 100000 in
theorem stLp17_0 (m n : Nat) (R : Type) (r351 : Abs.Rows) (r352 : Abs.Rows) (b353 : Bool) (i354 : Int) (i355 : Int) (k : Ex → List V → Option R) : codeK Try.prog H (T21 m) 17 (L7 m) 1 (loopBody Try.prog 17 0) (mkEnv [0, 1, 4, 12, 13, 26, 27] [V.bor [LT.int IntKind.u8] r351, V.bor [LT.int IntKind.u8] r352, V.f (F.lit (Value.bool b353)), V.f (F.lit (Value.int IntKind.i64 i354)), V.f (F.lit (Value.int IntKind.i64 i355)), V.undef, V.undef] 0 (H.len 17)) (fun e env' => match e with | .normal => ELp17_0 m R n (vals [0, 1, 4, 12, 13, 26, 27] env') k | e => k e (vals [0, 1, 4, 12, 13, 26, 27] env')) = Lp17_0_step m (fun b356 i357 => k Ex.ret [V.bor [LT.int IntKind.u8] r351, V.bor [LT.int IntKind.u8] r352, V.f (F.lit (Value.bool b356)), V.f (F.lit (Value.int IntKind.i64 i354)), V.f (F.lit (Value.int IntKind.i64 i357)), V.undef, V.undef]) (fun i358 => k (Ex.exit (0 : Nat)) [V.bor [LT.int IntKind.u8] r351, V.bor [LT.int IntKind.u8] r352, V.f (F.lit (Value.bool b353)), V.f (F.lit (Value.int IntKind.i64 i354)), V.f (F.lit (Value.int IntKind.i64 i358)), V.undef, V.undef]) r351 r352 b353 i354 (fun i355 => ELp17_0 m R n [V.bor [LT.int IntKind.u8] r351, V.bor [LT.int IntKind.u8] r352, V.f (F.lit (Value.bool b353)), V.f (F.lit (Value.int IntKind.i64 i354)), V.f (F.lit (Value.int IntKind.i64 i355)), V.undef, V.undef] k) i355 := by kernel_rfl
theorem eqLp17_0 (m : Nat) (R : Type) (r351 : Abs.Rows) (r352 : Abs.Rows) (b353 : Bool) (i354 : Int) (k : Ex → List V → Option R) : ∀ (n : Nat) (i355 : Int), ELp17_0 m R n [V.bor [LT.int IntKind.u8] r351, V.bor [LT.int IntKind.u8] r352, V.f (F.lit (Value.bool b353)), V.f (F.lit (Value.int IntKind.i64 i354)), V.f (F.lit (Value.int IntKind.i64 i355)), V.undef, V.undef] k = Lp17_0 m (fun b356 i357 => k Ex.ret [V.bor [LT.int IntKind.u8] r351, V.bor [LT.int IntKind.u8] r352, V.f (F.lit (Value.bool b356)), V.f (F.lit (Value.int IntKind.i64 i354)), V.f (F.lit (Value.int IntKind.i64 i357)), V.undef, V.undef]) (fun i358 => k (Ex.exit (0 : Nat)) [V.bor [LT.int IntKind.u8] r351, V.bor [LT.int IntKind.u8] r352, V.f (F.lit (Value.bool b353)), V.f (F.lit (Value.int IntKind.i64 i354)), V.f (F.lit (Value.int IntKind.i64 i358)), V.undef, V.undef]) r351 r352 b353 i354 n i355
  | 0, _ => rfl
  | n + 1, i355 => by
    simp only [ELp17_0, Lp17_0]
    congr 1
    funext i355
    exact eqLp17_0 m R r351 r352 b353 i354 k n i355
def L8 (m : Nat) : LTbl := addB 17 0 (brLp17_0 m (L7 m)) (L7 m)
theorem okL8 (m : Nat) : LTOk Try.prog H (L8 m) := addB_ok (okT21 m) hM (okL7 m) (l := [0, 1, 4, 12, 13, 26, 27]) (by kernel_rfl) (by kernel_rfl) m (fun R n vs k => ELp17_0 m R n vs k) (fun R vs k => rfl) (fun R n vs k x h => by
      simp only [ELp17_0] at h
      split at h
      · exact (stLp17_0 m n R _ _ _ _ _ k).trans h
      · cases h) fun R vs k x h => by
    unfold brLp17_0 at h
    split at h
    · exact .inl ((eqLp17_0 m R _ _ _ _ k m _).trans h)
    · exact .inr h

/-- slices.Equal[[]byte,byte] -/
def Fn17 {R : Type} (m : Nat) : Abs.Rows → Abs.Rows → (Bool → Option R) → Option R := match m with
  | 0 => fun _ _ _ => none
  | m + 1 => fun r349 r350 k =>
  bif (↑(List.length r349) : Int) != (↑(List.length r350) : Int) then (k false) else
  (Lp17_0 m (fun b359 i360 => k b359) (fun i361 => k true) r349 r350 false ((↑(List.length r349) : Int)) m ((0 : Int)))
def brFn17 (m : Nat) (T : Tbl) (R : Type) (vs : List V) (k : V → List V → Option R) : Option R := match vs with
  | [V.bor [LT.int IntKind.u8] r349, V.bor [LT.int IntKind.u8] r350] => Fn17 m r349 r350 (fun b362 => k (V.f (F.lit (Value.bool b362))) [V.undef, V.undef])
  | _ => T R 17 vs k
set_option maxRecDepth 100000 in
theorem evFn17 (m : Nat) (R : Type) (r349 : Abs.Rows) (r350 : Abs.Rows) (k : V → List V → Option R) : runK Try.prog H (T21 m) (L8 m) 17 [V.bor [LT.int IntKind.u8] r349, V.bor [LT.int IntKind.u8] r350] k = Fn17 (m + 1) r349 r350 (fun b362 => k (V.f (F.lit (Value.bool b362))) [V.undef, V.undef]) := by kernel_rfl
def T22 (m : Nat) : Tbl := addT 17 (brFn17 m (T21 m)) (T21 m)
theorem okT22 (m : Nat) : TblOk Try.prog (T22 m) := addT_ok (okT21 m) fun R vs k x h => by
  unfold brFn17 at h
  split at h
  · cases m with
    | zero => cases h
    | succ m => exact runK_some (okT21 m) hM (okL8 m) ((evFn17 m R _ _ k).trans h)
  · exact okT21 m R 17 _ k x h

/-- hookflash/flashref2.SamePacket -/
def Fn18 {R : Type} (m : Nat) : Int → Int → Int → Int → Bool → Abs.Rows → Int → Int → Int → Int → Bool → Abs.Rows → (Bool → Option R) → Option R := match m with
  | 0 => fun _ _ _ _ _ _ _ _ _ _ _ _ _ => none
  | m + 1 => fun i364 i365 i366 i367 b368 r369 i370 i371 i372 i373 b374 r375 k =>
  bif i364 == i370 && (i365 == i371 && (i366 == i372 && (i367 == i373 && true))) then (bif b368 == b374 then (Fn17 m r369 r375 (fun b376 => k b376)) else
  (k false)) else
  (k false)
def brFn18 (m : Nat) (T : Tbl) (R : Type) (vs : List V) (k : V → List V → Option R) : Option R := match vs with
  | [V.agg [V.f (F.lit (Value.int IntKind.i64 i364)), V.f (F.lit (Value.int IntKind.i64 i365)), V.f (F.lit (Value.int IntKind.i64 i366)), V.f (F.lit (Value.int IntKind.i64 i367)), V.f (F.lit (Value.bool b368)), V.bor [LT.int IntKind.u8] r369], V.agg [V.f (F.lit (Value.int IntKind.i64 i370)), V.f (F.lit (Value.int IntKind.i64 i371)), V.f (F.lit (Value.int IntKind.i64 i372)), V.f (F.lit (Value.int IntKind.i64 i373)), V.f (F.lit (Value.bool b374)), V.bor [LT.int IntKind.u8] r375]] => Fn18 m i364 i365 i366 i367 b368 r369 i370 i371 i372 i373 b374 r375 (fun b377 => k (V.f (F.lit (Value.bool b377))) [V.undef, V.undef])
  | _ => T R 18 vs k
set_option maxRecDepth 100000 in
theorem evFn18 (m : Nat) (R : Type) (i364 : Int) (i365 : Int) (i366 : Int) (i367 : Int) (b368 : Bool) (r369 : Abs.Rows) (i370 : Int) (i371 : Int) (i372 : Int) (i373 : Int) (b374 : Bool) (r375 : Abs.Rows) (k : V → List V → Option R) : runK Try.prog H (T22 m) (L8 m) 18 [V.agg [V.f (F.lit (Value.int IntKind.i64 i364)), V.f (F.lit (Value.int IntKind.i64 i365)), V.f (F.lit (Value.int IntKind.i64 i366)), V.f (F.lit (Value.int IntKind.i64 i367)), V.f (F.lit (Value.bool b368)), V.bor [LT.int IntKind.u8] r369], V.agg [V.f (F.lit (Value.int IntKind.i64 i370)), V.f (F.lit (Value.int IntKind.i64 i371)), V.f (F.lit (Value.int IntKind.i64 i372)), V.f (F.lit (Value.int IntKind.i64 i373)), V.f (F.lit (Value.bool b374)), V.bor [LT.int IntKind.u8] r375]] k = Fn18 (m + 1) i364 i365 i366 i367 b368 r369 i370 i371 i372 i373 b374 r375 (fun b377 => k (V.f (F.lit (Value.bool b377))) [V.undef, V.undef]) := by kernel_rfl
def T23 (m : Nat) : Tbl := addT 18 (brFn18 m (T22 m)) (T22 m)
theorem okT23 (m : Nat) : TblOk Try.prog (T23 m) := addT_ok (okT22 m) fun R vs k x h => by
  unfold brFn18 at h
  split at h
  · cases m with
    | zero => cases h
    | succ m => exact runK_some (okT22 m) hM (okL8 m) ((evFn18 m R _ _ _ _ _ _ _ _ _ _ _ _ k).trans h)
  · exact okT22 m R 18 _ k x h

/-- hookflash/media.Expand -/
def Fn32 {R : Type} (m : Nat) : Int → (Int → Option R) → Option R := match m with
  | 0 => fun _ _ => none
  | m + 1 => fun i379 k =>
  bif decide ((0 : Int) ≤ Int.tmod (IntKind.wrap IntKind.i64 (Int.tdiv (IntKind.wrap IntKind.i64 ((255 : Int) - IntKind.wrap IntKind.i64 i379)) (16 : Int))) (8 : Int)) then (bif IntKind.wrap IntKind.i64 (Int.tdiv (IntKind.wrap IntKind.i64 ((255 : Int) - IntKind.wrap IntKind.i64 i379)) (128 : Int)) == (1 : Int) then (k (IntKind.wrap IntKind.i64 (IntKind.wrap IntKind.i64 ((0 : Int) - IntKind.wrap IntKind.i64 (IntKind.wrap IntKind.i64 (IntKind.wrap IntKind.i64 (IntKind.wrap IntKind.i64 (IntKind.wrap IntKind.i64 ((2 : Int) * Int.tmod (IntKind.wrap IntKind.i64 ((255 : Int) - IntKind.wrap IntKind.i64 i379)) (16 : Int)) + (33 : Int)) * (2 : Int) ^ min (Int.toNat (Int.tmod (IntKind.wrap IntKind.i64 (Int.tdiv (IntKind.wrap IntKind.i64 ((255 : Int) - IntKind.wrap IntKind.i64 i379)) (16 : Int))) (8 : Int))) (64 : Nat)) - (33 : Int)) * (4 : Int))) - (1 : Int)))) else
  (k (IntKind.wrap IntKind.i64 (IntKind.wrap IntKind.i64 (IntKind.wrap IntKind.i64 (IntKind.wrap IntKind.i64 (IntKind.wrap IntKind.i64 ((2 : Int) * Int.tmod (IntKind.wrap IntKind.i64 ((255 : Int) - IntKind.wrap IntKind.i64 i379)) (16 : Int)) + (33 : Int)) * (2 : Int) ^ min (Int.toNat (Int.tmod (IntKind.wrap IntKind.i64 (Int.tdiv (IntKind.wrap IntKind.i64 ((255 : Int) - IntKind.wrap IntKind.i64 i379)) (16 : Int))) (8 : Int))) (64 : Nat)) - (33 : Int)) * (4 : Int))))) else
  (none)
def brFn32 (m : Nat) (T : Tbl) (R : Type) (vs : List V) (k : V → List V → Option R) : Option R := match vs with
  | [V.f (F.lit (Value.int IntKind.u8 i379))] => Fn32 m i379 (fun i380 => k (V.f (F.lit (Value.int IntKind.i64 i380))) [V.undef])
  | _ => T R 32 vs k
set_option maxRecDepth 100000 in
theorem evFn32 (m : Nat) (R : Type) (i379 : Int) (k : V → List V → Option R) : runK Try.prog H (T23 m) (L8 m) 32 [V.f (F.lit (Value.int IntKind.u8 i379))] k = Fn32 (m + 1) i379 (fun i380 => k (V.f (F.lit (Value.int IntKind.i64 i380))) [V.undef]) := by kernel_rfl
def T24 (m : Nat) : Tbl := addT 32 (brFn32 m (T23 m)) (T23 m)
theorem okT24 (m : Nat) : TblOk Try.prog (T24 m) := addT_ok (okT23 m) fun R vs k x h => by
  unfold brFn32 at h
  split at h
  · cases m with
    | zero => cases h
    | succ m => exact runK_some (okT23 m) hM (okL8 m) ((evFn32 m R _ k).trans h)
  · exact okT23 m R 32 _ k x h

/-- hookflash/flashlaw2.sounded -/
def Fn19 {R : Type} (m : Nat) : (Bool → Option R) → Option R := match m with
  | 0 => fun _ => none
  | m + 1 => fun  k =>
  Fn32 m ((128 : Int)) (fun i381 => k (i381 == (32124 : Int)))
def brFn19 (m : Nat) (T : Tbl) (R : Type) (vs : List V) (k : V → List V → Option R) : Option R := match vs with
  | [] => Fn19 m  (fun b382 => k (V.f (F.lit (Value.bool b382))) [])
  | _ => T R 19 vs k
set_option maxRecDepth 100000 in
theorem evFn19 (m : Nat) (R : Type)  (k : V → List V → Option R) : runK Try.prog H (T24 m) (L8 m) 19 [] k = Fn19 (m + 1)  (fun b382 => k (V.f (F.lit (Value.bool b382))) []) := by kernel_rfl
def T25 (m : Nat) : Tbl := addT 19 (brFn19 m (T24 m)) (T24 m)
theorem okT25 (m : Nat) : TblOk Try.prog (T25 m) := addT_ok (okT24 m) fun R vs k x h => by
  unfold brFn19 at h
  split at h
  · cases m with
    | zero => cases h
    | succ m => exact runK_some (okT24 m) hM (okL8 m) ((evFn19 m R k).trans h)
  · exact okT24 m R 19 _ k x h

/-- hookflash/flashlaw2.PacketsWritten -/
def Fn3 {R : Type} (m : Nat) : Abs.Rows → (Bool → Option R) → Option R := match m with
  | 0 => fun _ _ => none
  | m + 1 => fun r1 k =>
  Fn9 m r1 ((0 : Int)) (fun i122 i123 i124 i125 b126 r127 i128 => Fn10 m r1 i128 (fun r227 i228 => Fn11 m i122 i123 i124 i125 b126 r127 (fun r271 i272 => Fn12 m i122 i123 i124 i125 b126 r127 (fun i288 => bif i288 == (0 : Int) then (Fn13 m i122 i123 i124 i125 b126 r127 (fun r289 => Fn14 m r227 (fun i312 i313 i314 i315 b316 r317 i318 => Fn15 m r227 (fun i341 i342 i343 i344 b345 r346 i347 => Fn16 m i122 i123 i124 i125 b126 r127 (fun i348 => bif i348 == i288 then (bif i272 == i288 then (Fn17 m r271 r289 (fun b363 => bif b363 then (Fn18 m i312 i313 i314 i315 b316 r317 i341 i342 i343 i344 b345 r346 (fun b378 => bif b378 then (bif i318 == i347 then (Fn19 m  (fun b383 => k b383)) else
  (k false)) else
  (k false))) else
  (k false))) else
  (k false)) else
  (k false)))))) else
  (Fn14 m r227 (fun i384 i385 i386 i387 b388 r389 i390 => Fn15 m r227 (fun i391 i392 i393 i394 b395 r396 i397 => Fn16 m i122 i123 i124 i125 b126 r127 (fun i398 => bif i398 == i288 then (bif i272 == i288 then (Fn17 m r271 rows0 (fun b399 => bif b399 then (Fn18 m i384 i385 i386 i387 b388 r389 i391 i392 i393 i394 b395 r396 (fun b400 => bif b400 then (bif i390 == i397 then (Fn19 m  (fun b401 => k b401)) else
  (k false)) else
  (k false))) else
  (k false))) else
  (k false)) else
  (k false)))))))))
def brFn3 (m : Nat) (T : Tbl) (R : Type) (vs : List V) (k : V → List V → Option R) : Option R := match vs with
  | [V.f (F.lst [LT.int IntKind.i64] r1)] => Fn3 m r1 (fun b402 => k (V.f (F.lit (Value.bool b402))) [V.undef])
  | _ => T R 3 vs k
set_option maxRecDepth 100000 in
theorem evFn3 (m : Nat) (R : Type) (r1 : Abs.Rows) (k : V → List V → Option R) : runK Try.prog H (T25 m) (L8 m) 3 [V.f (F.lst [LT.int IntKind.i64] r1)] k = Fn3 (m + 1) r1 (fun b402 => k (V.f (F.lit (Value.bool b402))) [V.undef]) := by kernel_rfl
def T26 (m : Nat) : Tbl := addT 3 (brFn3 m (T25 m)) (T25 m)
theorem okT26 (m : Nat) : TblOk Try.prog (T26 m) := addT_ok (okT25 m) fun R vs k x h => by
  unfold brFn3 at h
  split at h
  · cases m with
    | zero => cases h
    | succ m => exact runK_some (okT25 m) hM (okL8 m) ((evFn3 m R _ k).trans h)
  · exact okT25 m R 3 _ k x h

end Go.Proofs.Ytjhfbmhblpjigaa.Med
end
