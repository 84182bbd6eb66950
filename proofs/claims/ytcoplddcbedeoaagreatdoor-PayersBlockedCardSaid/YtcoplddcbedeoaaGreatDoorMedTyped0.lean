/- A part of the proofs of the seat YtcoplddcbedeoaaGreatDoor: no statement of the seat stands here. -/
import Derived.Test.YtcoplddcbedeoaaGreatDoorProg
import Derived.KernelRfl
import Derived.Test.YtcoplddcbedeoaaGreatDoorAbsC
import Derived.Test.YtcoplddcbedeoaaGreatDoorMedPre
section
set_option linter.unusedVariables false
set_option linter.unusedSimpArgs false
set_option linter.unusedSectionVars false
namespace Go.Proofs.YtcoplddcbedeoaaGreatDoor.Med
open Go Go.Abs Go.Proofs
set_option linter.unusedVariables false
set_option maxHeartbeats 8000000
set_option maxRecDepth 100000
theorem hM : Tryz.prog.follows .mixedOrders = true := by kernel_rfl
theorem idx175 (s : ByteArray) (c : Int) : FnOk Tryz.prog 175 [.f (.lit (.string s)), .f (.lit (.int .u8 c))] (vInt .i64 (idxByte s c)) [.undef, .undef] :=
 idx_ok (fn := Tryz.f175) Tryz.func175 (by kernel_rfl) (by kernel_rfl) (by kernel_rfl) (by kernel_rfl) s c
noncomputable def TC0 : Tbl := addT 88 (brCmp 88 noT) noT
theorem okTC0 : TblOk Tryz.prog TC0 := brCmp_ok noT_ok cmp88
noncomputable def TC1 : Tbl := addT 175 (brIdx 175 TC0) TC0
theorem okTC1 : TblOk Tryz.prog TC1 := brIdx_ok okTC0 idx175
noncomputable def TC2 : Tbl := addT 119 (brTrim 119 TC1) TC1
theorem okTC2 : TblOk Tryz.prog TC2 := brTrim_ok okTC1 trim119
abbrev J1 : List LT := [.int .i64]
abbrev J2 : List LT := [.str, .str, .str, .int .i64, .int .i64, .int .i64, .int .i64, .str]
abbrev J3 : List LT := [.str]
abbrev J4 : List LT := [.str, .str, .int .i64, .int .i64, .int .i64, .int .i64]
abbrev J5 : List LT := [.str, .int .i64, .int .i64, .int .i64, .int .i64]
abbrev J6 : List LT := [.str, .int .i64, .int .i64, .int .i64]
abbrev J7 : List LT := [.str, .lst [.str]]
abbrev J8 : List LT := [.mp false, .str, .bool]
abbrev J9 : List LT := [.str, .str, .int .i64, .int .i64]
abbrev J10 : List LT := [.mp false, .str, .str]
abbrev W1 : List V := [.undef, .undef]
abbrev W2 (a0 a1 : Int) : List V := [.f (.lit (.int .i64 a0)), .f (.lit (.int .i64 a1))]
noncomputable def T0 (_ : Nat) : Tbl := TC2
noncomputable def L0 (_ : Nat) : LTbl := noL
theorem okT0 (m : Nat) : TblOk Tryz.prog (T0 m) := okTC2
theorem okL0 (m : Nat) : LTOk Tryz.prog H (L0 m) := noL_ok
/-- - -/
noncomputable def Fn99 {R : Type} (m : Nat) : Int → Int → (Int → Option R) → Option R := match m with
 | 0 => fun _ _ _ => none
 | m + 1 => fun i9 i0 k =>
 bif decide (i0 < (1 : Int)) then (k ((0 : Int))) else
 (bif decide (i0 ≠ (0 : Int)) then (bif decide (Int.tmod i9 i0 < (0 : Int)) then (k (IntKind.wrap IntKind.i64 (Int.tmod i9 i0 + i0))) else
 (k (Int.tmod i9 i0))) else
 (none))
noncomputable def brFn99 (m : Nat) (T : Tbl) (R : Type) (vs : List V) (k : V → List V → Option R) : Option R := match vs with
 | [.f (.lit (.int .i64 i9)), .f (.lit (.int .i64 i0))] => Fn99 m i9 i0 (fun i1 => k (V.f (F.lit (Value.int IntKind.i64 i1))) W1)
 | _ => T R 99 vs k

theorem evFn99 (m : Nat) (R : Type) (i9 i0 : Int) (k : V → List V → Option R) : runK Tryz.prog H (T0 m) (L0 m) 99 (W2 i9 i0) k = Fn99 (m + 1) i9 i0 (fun i1 => k (V.f (F.lit (Value.int IntKind.i64 i1))) W1) := by kernel_rfl
noncomputable def T1 (m : Nat) : Tbl := addT 99 (brFn99 m (T0 m)) (T0 m)
theorem okT1 (m : Nat) : TblOk Tryz.prog (T1 m) := addT_ok (okT0 m) fun R vs k x h => by
 unfold brFn99 at h
 split at h
 ·cases m with
  | zero => cases h
  | succ m => exact runK_some (okT0 m) hM (okL0 m) ((evFn99 m R _ _ k).trans h)
 ·exact okT0 m R 99 _ k x h

abbrev W3 (a0 : Abs.Rows) (a1 : Int) : List V := [.obj [.f (.lst J1 a0), .f (.lit (.int .i64 a1))], .undef]
abbrev W4 (a0 : Abs.Rows) (a1 a2 : Int) : List V := [.obj [.f (.lst J1 a0), .f (.lit (.int .i64 a1))], .f (.lit (.int .i64 a2))]
/-- - -/
noncomputable def Fn46 {R : Type} (m : Nat) : Abs.Rows → Int → Int → (Int → Int → Option R) → Option R := match m with
 | 0 => fun _ _ _ _ => none
 | m + 1 => fun r6 i7 i8 k =>
 bif (↑(List.length r6) : Int) == (0 : Int) then (Fn99 m (IntKind.wrap IntKind.i64 (IntKind.wrap IntKind.i64 (i7 + (1 : Int)) * (7919 : Int))) i8 (fun i0 => k i0 (IntKind.wrap IntKind.i64 (i7 + (1 : Int))))) else
 (bif decide ((↑(List.length r6) : Int) ≠ (0 : Int)) then (bif decide ((↑(List.length r6) : Int) ≠ (0 : Int)) then (bif decide ((0 : Int) ≤ Int.tmod (IntKind.wrap IntKind.i64 (IntKind.wrap IntKind.i64 (i7 + (1 : Int)) - (1 : Int))) (↑(List.length r6) : Int) ∧ Int.tmod (IntKind.wrap IntKind.i64 (IntKind.wrap IntKind.i64 (i7 + (1 : Int)) - (1 : Int))) (↑(List.length r6) : Int) < (↑(List.length r6) : Int)) then (Fn99 m (fI r6 (Int.toNat (Int.tmod (IntKind.wrap IntKind.i64 (IntKind.wrap IntKind.i64 (i7 + (1 : Int)) - (1 : Int))) (↑(List.length r6) : Int))) (0 : Nat)) ((1073741824 : Int)) (fun i1 => Fn99 m (IntKind.wrap IntKind.i64 (i1 + IntKind.wrap IntKind.i64 (IntKind.wrap IntKind.i64 (Int.tdiv (IntKind.wrap IntKind.i64 (IntKind.wrap IntKind.i64 (i7 + (1 : Int)) - (1 : Int))) (↑(List.length r6) : Int)) * IntKind.wrap IntKind.i64 ((7919 : Int) + Int.tmod (IntKind.wrap IntKind.i64 (IntKind.wrap IntKind.i64 (i7 + (1 : Int)) - (1 : Int))) (↑(List.length r6) : Int))))) i8 (fun i2 => letV (IntKind.wrap IntKind.i64 (i1 + IntKind.wrap IntKind.i64 (IntKind.wrap IntKind.i64 (Int.tdiv (IntKind.wrap IntKind.i64 (IntKind.wrap IntKind.i64 (i7 + (1 : Int)) - (1 : Int))) (↑(List.length r6) : Int)) * IntKind.wrap IntKind.i64 ((7919 : Int) + Int.tmod (IntKind.wrap IntKind.i64 (IntKind.wrap IntKind.i64 (i7 + (1 : Int)) - (1 : Int))) (↑(List.length r6) : Int))))) (fun i3 => letV (IntKind.wrap IntKind.i64 (IntKind.wrap IntKind.i64 (Int.tdiv (IntKind.wrap IntKind.i64 (IntKind.wrap IntKind.i64 (i7 + (1 : Int)) - (1 : Int))) (↑(List.length r6) : Int)) * IntKind.wrap IntKind.i64 ((7919 : Int) + Int.tmod (IntKind.wrap IntKind.i64 (IntKind.wrap IntKind.i64 (i7 + (1 : Int)) - (1 : Int))) (↑(List.length r6) : Int)))) (fun i4 => k i2 (IntKind.wrap IntKind.i64 (i7 + (1 : Int)))))))) else
 (none)) else
 (none)) else
 (none))
noncomputable def brFn46 (m : Nat) (T : Tbl) (R : Type) (vs : List V) (k : V → List V → Option R) : Option R := match vs with
 | [.obj [.f (.lst [.int .i64] r6), .f (.lit (.int .i64 i7))], .f (.lit (.int .i64 i8))] => Fn46 m r6 i7 i8 (fun i5 i6 => k (V.f (F.lit (Value.int IntKind.i64 i5))) (W3 r6 i6))
 | _ => T R 46 vs k

theorem evFn46 (m : Nat) (R : Type) (r6 : Abs.Rows) (i7 i8 : Int) (k : V → List V → Option R) : runK Tryz.prog H (T1 m) (L0 m) 46 (W4 r6 i7 i8) k = Fn46 (m + 1) r6 i7 i8 (fun i5 i6 => k (V.f (F.lit (Value.int IntKind.i64 i5))) (W3 r6 i6)) := by kernel_rfl
noncomputable def T2 (m : Nat) : Tbl := addT 46 (brFn46 m (T1 m)) (T1 m)
theorem okT2 (m : Nat) : TblOk Tryz.prog (T2 m) := addT_ok (okT1 m) fun R vs k x h => by
 unfold brFn46 at h
 split at h
 ·cases m with
  | zero => cases h
  | succ m => exact runK_some (okT1 m) hM (okL0 m) ((evFn46 m R _ _ _ k).trans h)
 ·exact okT1 m R 46 _ k x h

abbrev W5 (a0 : Abs.Rows) (a1 : Int) : List V := [.obj [.f (.lst J1 a0), .f (.lit (.int .i64 a1))], .undef, .undef]
abbrev W6 (a0 : Abs.Rows) (a1 a2 a3 : Int) : List V := [.obj [.f (.lst J1 a0), .f (.lit (.int .i64 a1))], .f (.lit (.int .i64 a2)), .f (.lit (.int .i64 a3))]
/-- - -/
noncomputable def Fn8 {R : Type} (m : Nat) : Abs.Rows → Int → Int → Int → (Int → Int → Option R) → Option R := match m with
 | 0 => fun _ _ _ _ _ => none
 | m + 1 => fun r2 i3 i4 i5 k =>
 bif decide (i5 < i4) then (k i4 i3) else
 (Fn46 m r2 i3 (IntKind.wrap IntKind.i64 (IntKind.wrap IntKind.i64 (i5 - i4) + (1 : Int))) (fun i0 i1 => k (IntKind.wrap IntKind.i64 (i4 + i0)) i1))
noncomputable def brFn8 (m : Nat) (T : Tbl) (R : Type) (vs : List V) (k : V → List V → Option R) : Option R := match vs with
 | [.obj [.f (.lst [.int .i64] r2), .f (.lit (.int .i64 i3))], .f (.lit (.int .i64 i4)), .f (.lit (.int .i64 i5))] => Fn8 m r2 i3 i4 i5 (fun i2 i3 => k (V.f (F.lit (Value.int IntKind.i64 i2))) (W5 r2 i3))
 | _ => T R 8 vs k

theorem evFn8 (m : Nat) (R : Type) (r2 : Abs.Rows) (i3 i4 i5 : Int) (k : V → List V → Option R) : runK Tryz.prog H (T2 m) (L0 m) 8 (W6 r2 i3 i4 i5) k = Fn8 (m + 1) r2 i3 i4 i5 (fun i2 i3 => k (V.f (F.lit (Value.int IntKind.i64 i2))) (W5 r2 i3)) := by kernel_rfl
noncomputable def T3 (m : Nat) : Tbl := addT 8 (brFn8 m (T2 m)) (T2 m)
theorem okT3 (m : Nat) : TblOk Tryz.prog (T3 m) := addT_ok (okT2 m) fun R vs k x h => by
 unfold brFn8 at h
 split at h
 ·cases m with
  | zero => cases h
  | succ m => exact runK_some (okT2 m) hM (okL0 m) ((evFn8 m R _ _ _ _ k).trans h)
 ·exact okT2 m R 8 _ k x h

abbrev W7 (a0 : Abs.Rows) (a1 : Int) (a2 : Abs.Rows) : List V := [.obj [.f (.lst J1 a0), .f (.lit (.int .i64 a1))], .bor J1 a2]
/-- - -/
noncomputable def Fn9 {R : Type} (m : Nat) : Abs.Rows → Int → Abs.Rows → (Int → Int → Option R) → Option R := match m with
 | 0 => fun _ _ _ _ => none
 | m + 1 => fun r0 i1 r2 k =>
 Fn46 m r0 i1 ((↑(List.length r2) : Int)) (fun i3 i4 => bif decide ((0 : Int) ≤ i3 ∧ i3 < (↑(List.length r2) : Int)) then (k (fI r2 (Int.toNat i3) (0 : Nat)) i4) else
 (none))
noncomputable def brFn9 (m : Nat) (T : Tbl) (R : Type) (vs : List V) (k : V → List V → Option R) : Option R := match vs with
 | [.obj [.f (.lst [.int .i64] r0), .f (.lit (.int .i64 i1))], .bor [.int .i64] r2] => Fn9 m r0 i1 r2 (fun i5 i6 => k (V.f (F.lit (Value.int IntKind.i64 i5))) (W3 r0 i6))
 | _ => T R 9 vs k

theorem evFn9 (m : Nat) (R : Type) (r0 : Abs.Rows) (i1 : Int) (r2 : Abs.Rows) (k : V → List V → Option R) : runK Tryz.prog H (T3 m) (L0 m) 9 (W7 r0 i1 r2) k = Fn9 (m + 1) r0 i1 r2 (fun i5 i6 => k (V.f (F.lit (Value.int IntKind.i64 i5))) (W3 r0 i6)) := by kernel_rfl
noncomputable def T4 (m : Nat) : Tbl := addT 9 (brFn9 m (T3 m)) (T3 m)
theorem okT4 (m : Nat) : TblOk Tryz.prog (T4 m) := addT_ok (okT3 m) fun R vs k x h => by
 unfold brFn9 at h
 split at h
 ·cases m with
  | zero => cases h
  | succ m => exact runK_some (okT3 m) hM (okL0 m) ((evFn9 m R _ _ _ k).trans h)
 ·exact okT3 m R 9 _ k x h

/-- - -/
noncomputable def Fn44 {R : Type} (m : Nat) : Abs.Rows → Int → Int → (Bool → Int → Option R) → Option R := match m with
 | 0 => fun _ _ _ _ => none
 | m + 1 => fun r0 i1 i2 k =>
 Fn46 m r0 i1 i2 (fun i3 i4 => k (i3 == (0 : Int)) i4)
noncomputable def brFn44 (m : Nat) (T : Tbl) (R : Type) (vs : List V) (k : V → List V → Option R) : Option R := match vs with
 | [.obj [.f (.lst [.int .i64] r0), .f (.lit (.int .i64 i1))], .f (.lit (.int .i64 i2))] => Fn44 m r0 i1 i2 (fun b5 i6 => k (V.f (F.lit (Value.bool b5))) (W3 r0 i6))
 | _ => T R 44 vs k

theorem evFn44 (m : Nat) (R : Type) (r0 : Abs.Rows) (i1 i2 : Int) (k : V → List V → Option R) : runK Tryz.prog H (T4 m) (L0 m) 44 (W4 r0 i1 i2) k = Fn44 (m + 1) r0 i1 i2 (fun b5 i6 => k (V.f (F.lit (Value.bool b5))) (W3 r0 i6)) := by kernel_rfl
noncomputable def T5 (m : Nat) : Tbl := addT 44 (brFn44 m (T4 m)) (T4 m)
theorem okT5 (m : Nat) : TblOk Tryz.prog (T5 m) := addT_ok (okT4 m) fun R vs k x h => by
 unfold brFn44 at h
 split at h
 ·cases m with
  | zero => cases h
  | succ m => exact runK_some (okT4 m) hM (okL0 m) ((evFn44 m R _ _ _ k).trans h)
 ·exact okT4 m R 44 _ k x h

abbrev W8 (a0 : Abs.Rows) (a1 : Int) (a2 : Abs.Rows) : List V := [.obj [.f (.lst J1 a0), .f (.lit (.int .i64 a1))], .bor J3 a2]
/-- - -/
noncomputable def Fn32 {R : Type} (m : Nat) : Abs.Rows → Int → Abs.Rows → (ByteArray → Int → Option R) → Option R := match m with
 | 0 => fun _ _ _ _ => none
 | m + 1 => fun r0 i1 r2 k =>
 Fn46 m r0 i1 ((↑(List.length r2) : Int)) (fun i3 i4 => bif decide ((0 : Int) ≤ i3 ∧ i3 < (↑(List.length r2) : Int)) then (k (fS r2 (Int.toNat i3) (0 : Nat)) i4) else
 (none))
noncomputable def brFn32 (m : Nat) (T : Tbl) (R : Type) (vs : List V) (k : V → List V → Option R) : Option R := match vs with
 | [.obj [.f (.lst [.int .i64] r0), .f (.lit (.int .i64 i1))], .bor [.str] r2] => Fn32 m r0 i1 r2 (fun s5 i6 => k (V.f (F.lit (Value.string s5))) (W3 r0 i6))
 | _ => T R 32 vs k

theorem evFn32 (m : Nat) (R : Type) (r0 : Abs.Rows) (i1 : Int) (r2 : Abs.Rows) (k : V → List V → Option R) : runK Tryz.prog H (T5 m) (L0 m) 32 (W8 r0 i1 r2) k = Fn32 (m + 1) r0 i1 r2 (fun s5 i6 => k (V.f (F.lit (Value.string s5))) (W3 r0 i6)) := by kernel_rfl
noncomputable def T6 (m : Nat) : Tbl := addT 32 (brFn32 m (T5 m)) (T5 m)
theorem okT6 (m : Nat) : TblOk Tryz.prog (T6 m) := addT_ok (okT5 m) fun R vs k x h => by
 unfold brFn32 at h
 split at h
 ·cases m with
  | zero => cases h
  | succ m => exact runK_some (okT5 m) hM (okL0 m) ((evFn32 m R _ _ _ k).trans h)
 ·exact okT5 m R 32 _ k x h

abbrev W9 (a0 : Abs.Rows) (a1 : Int) (a2 a3 : Abs.Rows) (a4 : Int) (a5 a6 : Abs.Rows) (a7 a8 : Int) (a9 : Abs.Rows) (a10 : Int) : List V := [.ref 49 0, .obj [.own J4 a0, .f (.lit (.int .i64 a1)), .own J3 a2], .obj [.own J4 a3, .f (.lit (.int .i64 a4)), .f (.lst J3 a5)], .own J3 a6, .f (.lit (.int .i64 a7)), .f (.lit (.int .i64 a8)), .obj [.f (.lst J1 a9), .f (.lit (.int .i64 a10))]]
/-- - -/
noncomputable def Lp81_3_step {R : Type} (m : Nat) (kx0 : Abs.Rows → Int → Int → Option R) (r0 : Abs.Rows) (i1 : Int) (r2 : Abs.Rows) (i3 : Int) (r4 r5 : Abs.Rows) (i6 : Int) (r7 : Abs.Rows) (REC : Abs.Rows → Int → Int → Option R) (r8 : Abs.Rows) (i9 i10 : Int) : Option R :=
 bif decide (i9 < i6) then (bif decide ((0 : Int) ≤ i9 ∧ i9 < (↑(List.length r5) : Int)) then (Fn44 m r7 i10 ((3 : Int)) (fun b11 i12 => bif b11 then (REC r8 (IntKind.wrap IntKind.i64 (i9 + (1 : Int))) i12) else
 (Fn32 m r7 i12 ([[F.lit (Value.string { data := #[(104 : UInt8), (111 : UInt8), (109 : UInt8), (101 : UInt8)] })], [F.lit (Value.string { data := #[(110 : UInt8), (101 : UInt8), (97 : UInt8), (114 : UInt8)] })], [F.lit (Value.string { data := #[(102 : UInt8), (97 : UInt8), (114 : UInt8)] })]]) (fun s13 i14 => Fn9 m r7 i14 ([[F.lit (Value.int IntKind.i64 (0 : Int))], [F.lit (Value.int IntKind.i64 (0 : Int))], [F.lit (Value.int IntKind.i64 (1000 : Int))], [F.lit (Value.int IntKind.i64 (999 : Int))]]) (fun i15 i16 => Fn9 m r7 i16 ([[F.lit (Value.int IntKind.i64 (0 : Int))], [F.lit (Value.int IntKind.i64 (0 : Int))], [F.lit (Value.int IntKind.i64 (60000 : Int))]]) (fun i17 i18 => Fn9 m r7 i18 ([[F.lit (Value.int IntKind.i64 (1 : Int))], [F.lit (Value.int IntKind.i64 (1000 : Int))], [F.lit (Value.int IntKind.i64 (60000 : Int))]]) (fun i19 i20 => Fn9 m r7 i20 ([[F.lit (Value.int IntKind.i64 (0 : Int))], [F.lit (Value.int IntKind.i64 (1 : Int))], [F.lit (Value.int IntKind.i64 (10 : Int))], [F.lit (Value.int IntKind.i64 (500 : Int))]]) (fun i21 i22 => bif decide (List.length r8 + List.length [[F.lit (Value.string (fS r5 (Int.toNat i9) (0 : Nat))), F.lit (Value.string s13), F.lit (Value.int IntKind.i64 i15), F.lit (Value.int IntKind.i64 i17), F.lit (Value.int IntKind.i64 i19), F.lit (Value.int IntKind.i64 i21)]] ≤ rowMax) then (letV (r8 ++ [[F.lit (Value.string (fS r5 (Int.toNat i9) (0 : Nat))), F.lit (Value.string s13), F.lit (Value.int IntKind.i64 i15), F.lit (Value.int IntKind.i64 i17), F.lit (Value.int IntKind.i64 i19), F.lit (Value.int IntKind.i64 i21)]]) (fun r23 => REC r23 (IntKind.wrap IntKind.i64 (i9 + (1 : Int))) i22)) else
 (none))))))))) else
 (none)) else
 (kx0 r8 i9 i10)
noncomputable def Lp81_3 {R : Type} (m : Nat) (kx0 : Abs.Rows → Int → Int → Option R) (r0 : Abs.Rows) (i1 : Int) (r2 : Abs.Rows) (i3 : Int) (r4 r5 : Abs.Rows) (i6 : Int) (r7 : Abs.Rows) : Nat → Abs.Rows → Int → Int → Option R
 | 0, _, _, _ => none
 | n + 1, r8, i9, i10 => Lp81_3_step m kx0 r0 i1 r2 i3 r4 r5 i6 r7 (Lp81_3 m kx0 r0 i1 r2 i3 r4 r5 i6 r7 n) r8 i9 i10
noncomputable def ELp81_3 (m : Nat) (R : Type) : Nat → List V → (Ex → List V → Option R) → Option R
 | 0, _, _ => none
 | n + 1, vs, k => match vs with
  | [.ref 49 0, .obj [.own [.str, .str, .int .i64, .int .i64, .int .i64, .int .i64] r0, .f (.lit (.int .i64 i1)), .own [.str] r2], .obj [.own [.str, .str, .int .i64, .int .i64, .int .i64, .int .i64] r8, .f (.lit (.int .i64 i3)), .f (.lst [.str] r4)], .own [.str] r5, .f (.lit (.int .i64 i6)), .f (.lit (.int .i64 i9)), .obj [.f (.lst [.int .i64] r7), .f (.lit (.int .i64 i10))]] => Lp81_3_step m (fun r24 i25 i26 => k (Ex.exit (0 : Nat)) (W9 r0 i1 r2 r24 i3 r4 r5 i6 i25 r7 i26)) r0 i1 r2 i3 r4 r5 i6 r7 (fun r8 i9 i10 => ELp81_3 m R n (W9 r0 i1 r2 r8 i3 r4 r5 i6 i9 r7 i10) k) r8 i9 i10
  | _ => none
noncomputable def brLp81_3 (m : Nat) (L : LTbl) (R : Type) (vs : List V) (k : Ex → List V → Option R) : Option R := match vs with
 | [.ref 49 0, .obj [.own [.str, .str, .int .i64, .int .i64, .int .i64, .int .i64] r0, .f (.lit (.int .i64 i1)), .own [.str] r2], .obj [.own [.str, .str, .int .i64, .int .i64, .int .i64, .int .i64] r8, .f (.lit (.int .i64 i3)), .f (.lst [.str] r4)], .own [.str] r5, .f (.lit (.int .i64 i6)), .f (.lit (.int .i64 i9)), .obj [.f (.lst [.int .i64] r7), .f (.lit (.int .i64 i10))]] => Lp81_3 m (fun r24 i25 i26 => k (Ex.exit (0 : Nat)) (W9 r0 i1 r2 r24 i3 r4 r5 i6 i25 r7 i26)) r0 i1 r2 i3 r4 r5 i6 r7 m r8 i9 i10
 | _ => L R 81 3 vs k

theorem stLp81_3 (m n : Nat) (R : Type) (r0 : Abs.Rows) (i1 : Int) (r2 r8 : Abs.Rows) (i3 : Int) (r4 r5 : Abs.Rows) (i6 i9 : Int) (r7 : Abs.Rows) (i10 : Int) (k : Ex → List V → Option R) : codeK Tryz.prog H (T6 m) 81 (L0 m) 4 (loopBody Tryz.prog 81 3) (mkEnv [0, 2, 3, 17, 18, 19, 49] (W9 r0 i1 r2 r8 i3 r4 r5 i6 i9 r7 i10) 0 (H.len 81)) (fun e env' => match e with | .normal => ELp81_3 m R n (vals [0, 2, 3, 17, 18, 19, 49] env') k | e => k e (vals [0, 2, 3, 17, 18, 19, 49] env')) = Lp81_3_step m (fun r24 i25 i26 => k (Ex.exit (0 : Nat)) (W9 r0 i1 r2 r24 i3 r4 r5 i6 i25 r7 i26)) r0 i1 r2 i3 r4 r5 i6 r7 (fun r8 i9 i10 => ELp81_3 m R n (W9 r0 i1 r2 r8 i3 r4 r5 i6 i9 r7 i10) k) r8 i9 i10 := by kernel_rfl
theorem eqLp81_3 (m : Nat) (R : Type) (r0 : Abs.Rows) (i1 : Int) (r2 : Abs.Rows) (i3 : Int) (r4 r5 : Abs.Rows) (i6 : Int) (r7 : Abs.Rows) (k : Ex → List V → Option R) : ∀ (n : Nat) (r8 : Abs.Rows) (i9 i10 : Int), ELp81_3 m R n (W9 r0 i1 r2 r8 i3 r4 r5 i6 i9 r7 i10) k = Lp81_3 m (fun r24 i25 i26 => k (Ex.exit (0 : Nat)) (W9 r0 i1 r2 r24 i3 r4 r5 i6 i25 r7 i26)) r0 i1 r2 i3 r4 r5 i6 r7 n r8 i9 i10
 | 0, _, _, _ => rfl
 | n + 1, r8, i9, i10 => by
  simp only [ELp81_3, Lp81_3, W9]
  congr 1
  funext r8 i9 i10
  exact eqLp81_3 m R r0 i1 r2 i3 r4 r5 i6 r7 k n r8 i9 i10
noncomputable def L1 (m : Nat) : LTbl := addB 81 3 (brLp81_3 m (L0 m)) (L0 m)
theorem okL1 (m : Nat) : LTOk Tryz.prog H (L1 m) := addB_ok (okT6 m) hM (okL0 m) (l := [0, 2, 3, 17, 18, 19, 49]) (by kernel_rfl) (by kernel_rfl) m (fun R n vs k => ELp81_3 m R n vs k) (fun R vs k => rfl) (fun R n vs k x h => by
   simp only [ELp81_3] at h
   split at h
   ·exact (stLp81_3 m n R _ _ _ _ _ _ _ _ _ _ _ k).trans h
   ·cases h) fun R vs k x h => by
  unfold brLp81_3 at h
  split at h
  ·exact .inl ((eqLp81_3 m R _ _ _ _ _ _ _ _ k m _ _ _).trans h)
  ·exact .inr h

abbrev W10 (a0 : Abs.Rows) (a1 : Int) (a2 : Abs.Rows) : List V := [.own J4 a0, .f (.lit (.int .i64 a1)), .f (.lst J3 a2)]
abbrev W11 (a0 : Abs.Rows) (a1 : Int) : List V := [.obj [.f (.lst J1 a0), .f (.lit (.int .i64 a1))]]
/-- - -/
noncomputable def Fn81 {R : Type} (m : Nat) : Abs.Rows → Int → (Abs.Rows → Int → Abs.Rows → Int → Option R) → Option R := match m with
 | 0 => fun _ _ _ => none
 | m + 1 => fun r0 i1 k =>
 Fn9 m r0 i1 ([[F.lit (Value.int IntKind.i64 (0 : Int))], [F.lit (Value.int IntKind.i64 (0 : Int))], [F.lit (Value.int IntKind.i64 (60000 : Int))], [F.lit (Value.int IntKind.i64 (90000 : Int))]]) (fun i2 i3 => Fn46 m r0 i3 ((3 : Int)) (fun i4 i5 => bif decide ((0 : Int) ≤ i4 ∧ i4 < (↑(List.length [[F.lst [LT.str] rows0], [F.lst [LT.str] [[F.lit (Value.string { data := #[(104 : UInt8), (111 : UInt8), (109 : UInt8), (101 : UInt8)] })]]], [F.lst [LT.str] [[F.lit (Value.string { data := #[(104 : UInt8), (111 : UInt8), (109 : UInt8), (101 : UInt8)] })], [F.lit (Value.string { data := #[(110 : UInt8), (101 : UInt8), (97 : UInt8), (114 : UInt8)] })]]]]) : Int)) then (Lp81_3 m (fun r6 i7 i8 => k r6 i2 (fR [[F.lst [LT.str] rows0], [F.lst [LT.str] [[F.lit (Value.string { data := #[(104 : UInt8), (111 : UInt8), (109 : UInt8), (101 : UInt8)] })]]], [F.lst [LT.str] [[F.lit (Value.string { data := #[(104 : UInt8), (111 : UInt8), (109 : UInt8), (101 : UInt8)] })], [F.lit (Value.string { data := #[(110 : UInt8), (101 : UInt8), (97 : UInt8), (114 : UInt8)] })]]]] (Int.toNat i4) (0 : Nat)) i8) rows0 ((0 : Int)) rows0 i2 (fR [[F.lst [LT.str] rows0], [F.lst [LT.str] [[F.lit (Value.string { data := #[(104 : UInt8), (111 : UInt8), (109 : UInt8), (101 : UInt8)] })]]], [F.lst [LT.str] [[F.lit (Value.string { data := #[(104 : UInt8), (111 : UInt8), (109 : UInt8), (101 : UInt8)] })], [F.lit (Value.string { data := #[(110 : UInt8), (101 : UInt8), (97 : UInt8), (114 : UInt8)] })]]]] (Int.toNat i4) (0 : Nat)) ([[F.lit (Value.string { data := #[] })], [F.lit (Value.string { data := #[(43 : UInt8), (52 : UInt8)] })], [F.lit (Value.string { data := #[(43 : UInt8), (52 : UInt8), (57 : UInt8)] })], [F.lit (Value.string { data := #[(43 : UInt8), (52 : UInt8), (57 : UInt8), (51 : UInt8), (48 : UInt8)] })], [F.lit (Value.string { data := #[(43 : UInt8), (53 : UInt8)] })]]) ((↑(List.length [[F.lit (Value.string { data := #[] })], [F.lit (Value.string { data := #[(43 : UInt8), (52 : UInt8)] })], [F.lit (Value.string { data := #[(43 : UInt8), (52 : UInt8), (57 : UInt8)] })], [F.lit (Value.string { data := #[(43 : UInt8), (52 : UInt8), (57 : UInt8), (51 : UInt8), (48 : UInt8)] })], [F.lit (Value.string { data := #[(43 : UInt8), (53 : UInt8)] })]]) : Int)) r0 m rows0 ((0 : Int)) i5) else
 (none)))
noncomputable def brFn81 (m : Nat) (T : Tbl) (R : Type) (vs : List V) (k : V → List V → Option R) : Option R := match vs with
 | [.obj [.f (.lst [.int .i64] r0), .f (.lit (.int .i64 i1))]] => Fn81 m r0 i1 (fun r9 i10 r11 i12 => k (V.agg (W10 r9 i10 r11)) (W11 r0 i12))
 | _ => T R 81 vs k

theorem evFn81 (m : Nat) (R : Type) (r0 : Abs.Rows) (i1 : Int) (k : V → List V → Option R) : runK Tryz.prog H (T6 m) (L1 m) 81 (W11 r0 i1) k = Fn81 (m + 1) r0 i1 (fun r9 i10 r11 i12 => k (V.agg (W10 r9 i10 r11)) (W11 r0 i12)) := by kernel_rfl
noncomputable def T7 (m : Nat) : Tbl := addT 81 (brFn81 m (T6 m)) (T6 m)
theorem okT7 (m : Nat) : TblOk Tryz.prog (T7 m) := addT_ok (okT6 m) fun R vs k x h => by
 unfold brFn81 at h
 split at h
 ·cases m with
  | zero => cases h
  | succ m => exact runK_some (okT6 m) hM (okL1 m) ((evFn81 m R _ _ k).trans h)
 ·exact okT6 m R 81 _ k x h

/-- - -/
noncomputable def Fn65 {R : Type} (m : Nat) : Abs.Rows → Int → Int → Int → (Int → Int → Option R) → Option R := match m with
 | 0 => fun _ _ _ _ _ => none
 | m + 1 => fun r0 i1 i2 i3 k =>
 Fn44 m r0 i1 ((12 : Int)) (fun b4 i5 => bif b4 then (Fn9 m r0 i5 ([[F.lit (Value.int IntKind.i64 (IntKind.wrap IntKind.i64 (i2 - (1 : Int))))], [F.lit (Value.int IntKind.i64 (IntKind.wrap IntKind.i64 (i3 + (1 : Int))))], [F.lit (Value.int IntKind.i64 i2)], [F.lit (Value.int IntKind.i64 i3)], [F.lit (Value.int IntKind.i64 (-1099511627776 : Int))], [F.lit (Value.int IntKind.i64 (1099511627776 : Int))]]) (fun i6 i7 => k i6 i7)) else
 (Fn8 m r0 i5 i2 i3 (fun i8 i9 => k i8 i9)))
noncomputable def brFn65 (m : Nat) (T : Tbl) (R : Type) (vs : List V) (k : V → List V → Option R) : Option R := match vs with
 | [.obj [.f (.lst [.int .i64] r0), .f (.lit (.int .i64 i1))], .f (.lit (.int .i64 i2)), .f (.lit (.int .i64 i3))] => Fn65 m r0 i1 i2 i3 (fun i10 i11 => k (V.f (F.lit (Value.int IntKind.i64 i10))) (W5 r0 i11))
 | _ => T R 65 vs k

theorem evFn65 (m : Nat) (R : Type) (r0 : Abs.Rows) (i1 i2 i3 : Int) (k : V → List V → Option R) : runK Tryz.prog H (T7 m) (L1 m) 65 (W6 r0 i1 i2 i3) k = Fn65 (m + 1) r0 i1 i2 i3 (fun i10 i11 => k (V.f (F.lit (Value.int IntKind.i64 i10))) (W5 r0 i11)) := by kernel_rfl
noncomputable def T8 (m : Nat) : Tbl := addT 65 (brFn65 m (T7 m)) (T7 m)
theorem okT8 (m : Nat) : TblOk Tryz.prog (T8 m) := addT_ok (okT7 m) fun R vs k x h => by
 unfold brFn65 at h
 split at h
 ·cases m with
  | zero => cases h
  | succ m => exact runK_some (okT7 m) hM (okL1 m) ((evFn65 m R _ _ _ _ k).trans h)
 ·exact okT7 m R 65 _ k x h

/-- - -/
noncomputable def Fn37 {R : Type} (m : Nat) : Abs.Rows → Int → (Abs.Rows → Int → Abs.Rows → Int → Option R) → Option R := match m with
 | 0 => fun _ _ _ => none
 | m + 1 => fun r0 i1 k =>
 Fn81 m r0 i1 (fun r2 i3 r4 i5 => Fn44 m r0 i5 ((12 : Int)) (fun b6 i7 => bif b6 then (Fn46 m r0 i7 ((3 : Int)) (fun i8 i9 => bif i8 == (0 : Int) then (Fn65 m r0 i9 ((0 : Int)) ((100 : Int)) (fun i10 i11 => k r2 i10 r4 i11)) else
 (bif i8 == (1 : Int) then (Fn46 m r0 i9 ((3 : Int)) (fun i12 i13 => bif decide ((0 : Int) ≤ i12 ∧ i12 < (↑(List.length [[F.lst [LT.str] [[F.lit (Value.string { data := #[(110 : UInt8), (101 : UInt8), (97 : UInt8), (114 : UInt8)] })], [F.lit (Value.string { data := #[(104 : UInt8), (111 : UInt8), (109 : UInt8), (101 : UInt8)] })]]], [F.lst [LT.str] [[F.lit (Value.string { data := #[] })]]], [F.lst [LT.str] [[F.lit (Value.string { data := #[(97 : UInt8)] })], [F.lit (Value.string { data := #[(97 : UInt8)] })]]]]) : Int)) then (k r2 i3 (fR [[F.lst [LT.str] [[F.lit (Value.string { data := #[(110 : UInt8), (101 : UInt8), (97 : UInt8), (114 : UInt8)] })], [F.lit (Value.string { data := #[(104 : UInt8), (111 : UInt8), (109 : UInt8), (101 : UInt8)] })]]], [F.lst [LT.str] [[F.lit (Value.string { data := #[] })]]], [F.lst [LT.str] [[F.lit (Value.string { data := #[(97 : UInt8)] })], [F.lit (Value.string { data := #[(97 : UInt8)] })]]]] (Int.toNat i12) (0 : Nat)) i13) else
 (none))) else
 (Fn32 m r0 i9 ([[F.lit (Value.string { data := #[(43 : UInt8), (57 : UInt8)] })], [F.lit (Value.string { data := #[(57 : UInt8)] })], [F.lit (Value.string { data := #[(43 : UInt8)] })], [F.lit (Value.string { data := #[(43 : UInt8), (49 : UInt8), (97 : UInt8)] })]]) (fun s14 i15 => Fn32 m r0 i15 ([[F.lit (Value.string { data := #[(102 : UInt8), (97 : UInt8), (114 : UInt8)] })], [F.lit (Value.string { data := #[] })]]) (fun s16 i17 => Fn65 m r0 i17 ((0 : Int)) ((1000 : Int)) (fun i18 i19 => Fn65 m r0 i19 ((0 : Int)) ((100 : Int)) (fun i20 i21 => Fn65 m r0 i21 ((1 : Int)) ((100 : Int)) (fun i22 i23 => Fn65 m r0 i23 ((0 : Int)) ((1000000 : Int)) (fun i24 i25 => bif decide (List.length r2 + List.length [[F.lit (Value.string s14), F.lit (Value.string s16), F.lit (Value.int IntKind.i64 i18), F.lit (Value.int IntKind.i64 i20), F.lit (Value.int IntKind.i64 i22), F.lit (Value.int IntKind.i64 i24)]] ≤ rowMax) then (letV (r2 ++ [[F.lit (Value.string s14), F.lit (Value.string s16), F.lit (Value.int IntKind.i64 i18), F.lit (Value.int IntKind.i64 i20), F.lit (Value.int IntKind.i64 i22), F.lit (Value.int IntKind.i64 i24)]]) (fun r26 => k r26 i3 r4 i25)) else
 (none))))))))))) else
 (k r2 i3 r4 i7)))
noncomputable def brFn37 (m : Nat) (T : Tbl) (R : Type) (vs : List V) (k : V → List V → Option R) : Option R := match vs with
 | [.obj [.f (.lst [.int .i64] r0), .f (.lit (.int .i64 i1))]] => Fn37 m r0 i1 (fun r27 i28 r29 i30 => k (V.agg (W10 r27 i28 r29)) (W11 r0 i30))
 | _ => T R 37 vs k

theorem evFn37 (m : Nat) (R : Type) (r0 : Abs.Rows) (i1 : Int) (k : V → List V → Option R) : runK Tryz.prog H (T8 m) (L1 m) 37 (W11 r0 i1) k = Fn37 (m + 1) r0 i1 (fun r27 i28 r29 i30 => k (V.agg (W10 r27 i28 r29)) (W11 r0 i30)) := by kernel_rfl
noncomputable def T9 (m : Nat) : Tbl := addT 37 (brFn37 m (T8 m)) (T8 m)
theorem okT9 (m : Nat) : TblOk Tryz.prog (T9 m) := addT_ok (okT8 m) fun R vs k x h => by
 unfold brFn37 at h
 split at h
 ·cases m with
  | zero => cases h
  | succ m => exact runK_some (okT8 m) hM (okL1 m) ((evFn37 m R _ _ k).trans h)
 ·exact okT8 m R 37 _ k x h

/-- - -/
noncomputable def Fn109 {R : Type} (m : Nat) : Abs.Rows → Int → (Abs.Rows → Int → Option R) → Option R := match m with
 | 0 => fun _ _ _ => none
 | m + 1 => fun r0 i1 k =>
 Fn9 m r0 i1 ([[F.lit (Value.int IntKind.i64 (1 : Int))], [F.lit (Value.int IntKind.i64 (2 : Int))], [F.lit (Value.int IntKind.i64 (3 : Int))], [F.lit (Value.int IntKind.i64 (3 : Int))]]) (fun i2 i3 => bif decide ((0 : Int) ≤ i2 ∧ i2 ≤ (↑(List.length [[F.lit (Value.string { data := #[(97 : UInt8), (110 : UInt8), (110 : UInt8)] }), F.lst [LT.str] [[F.lit (Value.string { data := #[(43 : UInt8), (49 : UInt8), (50 : UInt8), (48 : UInt8), (48 : UInt8)] })], [F.lit (Value.string { data := #[(43 : UInt8), (49 : UInt8), (50 : UInt8), (48 : UInt8), (50 : UInt8)] })]]], [F.lit (Value.string { data := #[(98 : UInt8), (111 : UInt8), (98 : UInt8)] }), F.lst [LT.str] [[F.lit (Value.string { data := #[(43 : UInt8), (49 : UInt8), (50 : UInt8), (48 : UInt8), (49 : UInt8)] })]]], [F.lit (Value.string { data := #[(99 : UInt8), (105 : UInt8), (100 : UInt8)] }), F.lst [LT.str] rows0]]) : Int)) then (k (List.take (Int.toNat i2 - (0 : Nat)) [[F.lit (Value.string { data := #[(97 : UInt8), (110 : UInt8), (110 : UInt8)] }), F.lst [LT.str] [[F.lit (Value.string { data := #[(43 : UInt8), (49 : UInt8), (50 : UInt8), (48 : UInt8), (48 : UInt8)] })], [F.lit (Value.string { data := #[(43 : UInt8), (49 : UInt8), (50 : UInt8), (48 : UInt8), (50 : UInt8)] })]]], [F.lit (Value.string { data := #[(98 : UInt8), (111 : UInt8), (98 : UInt8)] }), F.lst [LT.str] [[F.lit (Value.string { data := #[(43 : UInt8), (49 : UInt8), (50 : UInt8), (48 : UInt8), (49 : UInt8)] })]]], [F.lit (Value.string { data := #[(99 : UInt8), (105 : UInt8), (100 : UInt8)] }), F.lst [LT.str] rows0]]) i3) else
 (none))
noncomputable def brFn109 (m : Nat) (T : Tbl) (R : Type) (vs : List V) (k : V → List V → Option R) : Option R := match vs with
 | [.obj [.f (.lst [.int .i64] r0), .f (.lit (.int .i64 i1))]] => Fn109 m r0 i1 (fun r4 i5 => k (V.own [LT.str, LT.lst [LT.str]] r4) (W11 r0 i5))
 | _ => T R 109 vs k

theorem evFn109 (m : Nat) (R : Type) (r0 : Abs.Rows) (i1 : Int) (k : V → List V → Option R) : runK Tryz.prog H (T9 m) (L1 m) 109 (W11 r0 i1) k = Fn109 (m + 1) r0 i1 (fun r4 i5 => k (V.own [LT.str, LT.lst [LT.str]] r4) (W11 r0 i5)) := by kernel_rfl
noncomputable def T10 (m : Nat) : Tbl := addT 109 (brFn109 m (T9 m)) (T9 m)
theorem okT10 (m : Nat) : TblOk Tryz.prog (T10 m) := addT_ok (okT9 m) fun R vs k x h => by
 unfold brFn109 at h
 split at h
 ·cases m with
  | zero => cases h
  | succ m => exact runK_some (okT9 m) hM (okL1 m) ((evFn109 m R _ _ k).trans h)
 ·exact okT9 m R 109 _ k x h

/-- - -/
noncomputable def Fn52 {R : Type} (m : Nat) : Abs.Rows → Int → (Abs.Rows → Int → Option R) → Option R := match m with
 | 0 => fun _ _ _ => none
 | m + 1 => fun r0 i1 k =>
 Fn109 m r0 i1 (fun r2 i3 => Fn44 m r0 i3 ((12 : Int)) (fun b4 i5 => bif b4 then (Fn32 m r0 i5 ([[F.lit (Value.string { data := #[] })], [F.lit (Value.string { data := #[(97 : UInt8), (110 : UInt8), (110 : UInt8)] })], [F.lit (Value.string { data := #[(122 : UInt8), (101 : UInt8), (100 : UInt8)] })]]) (fun s6 i7 => Fn32 m r0 i7 ([[F.lit (Value.string { data := #[(43 : UInt8), (49 : UInt8), (50 : UInt8), (48 : UInt8), (48 : UInt8)] })], [F.lit (Value.string { data := #[(43 : UInt8), (49 : UInt8), (50 : UInt8), (48 : UInt8)] })], [F.lit (Value.string { data := #[(49 : UInt8), (50 : UInt8), (48 : UInt8), (49 : UInt8)] })], [F.lit (Value.string { data := #[(43 : UInt8), (48 : UInt8), (49 : UInt8), (50 : UInt8), (51 : UInt8)] })], [F.lit (Value.string { data := #[(43 : UInt8), (57 : UInt8), (57 : UInt8), (57 : UInt8), (57 : UInt8)] })]]) (fun s8 i9 => bif decide (List.length r2 + List.length [[F.lit (Value.string s6), F.lst [LT.str] [[F.lit (Value.string s8)]]]] ≤ rowMax) then (letV (r2 ++ [[F.lit (Value.string s6), F.lst [LT.str] [[F.lit (Value.string s8)]]]]) (fun r10 => k r10 i9)) else
 (none)))) else
 (k r2 i5)))
noncomputable def brFn52 (m : Nat) (T : Tbl) (R : Type) (vs : List V) (k : V → List V → Option R) : Option R := match vs with
 | [.obj [.f (.lst [.int .i64] r0), .f (.lit (.int .i64 i1))]] => Fn52 m r0 i1 (fun r11 i12 => k (V.own [LT.str, LT.lst [LT.str]] r11) (W11 r0 i12))
 | _ => T R 52 vs k

theorem evFn52 (m : Nat) (R : Type) (r0 : Abs.Rows) (i1 : Int) (k : V → List V → Option R) : runK Tryz.prog H (T10 m) (L1 m) 52 (W11 r0 i1) k = Fn52 (m + 1) r0 i1 (fun r11 i12 => k (V.own [LT.str, LT.lst [LT.str]] r11) (W11 r0 i12)) := by kernel_rfl
noncomputable def T11 (m : Nat) : Tbl := addT 52 (brFn52 m (T10 m)) (T10 m)
theorem okT11 (m : Nat) : TblOk Tryz.prog (T11 m) := addT_ok (okT10 m) fun R vs k x h => by
 unfold brFn52 at h
 split at h
 ·cases m with
  | zero => cases h
  | succ m => exact runK_some (okT10 m) hM (okL1 m) ((evFn52 m R _ _ k).trans h)
 ·exact okT10 m R 52 _ k x h

abbrev W12 (a0 a1 a2 : ByteArray) (a3 a4 a5 a6 : Int) (a7 : ByteArray) (a8 : Abs.Rows) : List V := [.agg [.f (.lit (.string a0)), .f (.lit (.string a1)), .f (.lit (.string a2)), .f (.lit (.int .i64 a3)), .f (.lit (.int .i64 a4)), .f (.lit (.int .i64 a5)), .f (.lit (.int .i64 a6)), .f (.lit (.string a7))], .iref J2 a8 0 0]
/-- - -/
noncomputable def Fn97 {R : Type} (m : Nat) : ByteArray → ByteArray → ByteArray → Int → Int → Int → Int → ByteArray → ByteArray → ByteArray → ByteArray → Int → Int → Int → Int → ByteArray → (Bool → Option R) → Option R := match m with
 | 0 => fun _ _ _ _ _ _ _ _ _ _ _ _ _ _ _ _ _ => none
 | m + 1 => fun s0 s1 s2 i3 i4 i5 i6 s7 s8 s9 s10 i11 i12 i13 i14 s15 k =>
 k (ByteArray.toList s0 == ByteArray.toList s8)
noncomputable def brFn97 (m : Nat) (T : Tbl) (R : Type) (vs : List V) (k : V → List V → Option R) : Option R := match vs with
 | [.agg [.f (.lit (.string s0)), .f (.lit (.string s1)), .f (.lit (.string s2)), .f (.lit (.int .i64 i3)), .f (.lit (.int .i64 i4)), .f (.lit (.int .i64 i5)), .f (.lit (.int .i64 i6)), .f (.lit (.string s7))], .iref [.str, .str, .str, .int .i64, .int .i64, .int .i64, .int .i64, .str] [[F.lit (Value.string s8), F.lit (Value.string s9), F.lit (Value.string s10), F.lit (Value.int IntKind.i64 i11), F.lit (Value.int IntKind.i64 i12), F.lit (Value.int IntKind.i64 i13), F.lit (Value.int IntKind.i64 i14), F.lit (Value.string s15)]] 0 0] => Fn97 m s0 s1 s2 i3 i4 i5 i6 s7 s8 s9 s10 i11 i12 i13 i14 s15 (fun b16 => k (V.f (F.lit (Value.bool b16))) W1)
 | _ => T R 97 vs k

theorem evFn97 (m : Nat) (R : Type) (s0 s1 s2 : ByteArray) (i3 i4 i5 i6 : Int) (s7 s8 s9 s10 : ByteArray) (i11 i12 i13 i14 : Int) (s15 : ByteArray) (k : V → List V → Option R) : runK Tryz.prog H (T11 m) (L1 m) 97 (W12 s0 s1 s2 i3 i4 i5 i6 s7 [[F.lit (Value.string s8), F.lit (Value.string s9), F.lit (Value.string s10), F.lit (Value.int IntKind.i64 i11), F.lit (Value.int IntKind.i64 i12), F.lit (Value.int IntKind.i64 i13), F.lit (Value.int IntKind.i64 i14), F.lit (Value.string s15)]]) k = Fn97 (m + 1) s0 s1 s2 i3 i4 i5 i6 s7 s8 s9 s10 i11 i12 i13 i14 s15 (fun b16 => k (V.f (F.lit (Value.bool b16))) W1) := by kernel_rfl
noncomputable def T12 (m : Nat) : Tbl := addT 97 (brFn97 m (T11 m)) (T11 m)
theorem okT12 (m : Nat) : TblOk Tryz.prog (T12 m) := addT_ok (okT11 m) fun R vs k x h => by
 unfold brFn97 at h
 split at h
 ·cases m with
  | zero => cases h
  | succ m => exact runK_some (okT11 m) hM (okL1 m) ((evFn97 m R _ _ _ _ _ _ _ _ _ _ _ _ _ _ _ _ k).trans h)
 ·exact okT11 m R 97 _ k x h

abbrev W13 (a0 a1 : Abs.Rows) (a2 a3 a4 : Int) : List V := [.bor J2 a0, .clos 97 [.iref J2 a1 0 0], .f (.lit (.int .i64 a2)), .f (.lit (.int .i64 a3)), .f (.lit (.int .i64 a4)), .undef, .undef]
/-- - -/
noncomputable def Lp61_2_step {R : Type} (m : Nat) (kx0 : Int → Int → Option R) (kx1 : Int → Option R) (r0 : Abs.Rows) (s1 s2 s3 : ByteArray) (i4 i5 i6 i7 : Int) (s8 : ByteArray) (i9 i10 : Int) (REC : Int → Option R) (i11 : Int) : Option R :=
 bif decide (i11 < i10) then (bif decide ((0 : Int) ≤ i11 ∧ i11 < (↑(List.length r0) : Int)) then (Fn97 m (fS r0 (Int.toNat i11) (0 : Nat)) (fS r0 (Int.toNat i11) (1 : Nat)) (fS r0 (Int.toNat i11) (2 : Nat)) (fI r0 (Int.toNat i11) (3 : Nat)) (fI r0 (Int.toNat i11) (4 : Nat)) (fI r0 (Int.toNat i11) (5 : Nat)) (fI r0 (Int.toNat i11) (6 : Nat)) (fS r0 (Int.toNat i11) (7 : Nat)) s1 s2 s3 i4 i5 i6 i7 s8 (fun b12 => bif b12 then (kx0 i11 i11) else
 (REC (IntKind.wrap IntKind.i64 (i11 + (1 : Int)))))) else
 (none)) else
 (kx1 i11)
noncomputable def Lp61_2 {R : Type} (m : Nat) (kx0 : Int → Int → Option R) (kx1 : Int → Option R) (r0 : Abs.Rows) (s1 s2 s3 : ByteArray) (i4 i5 i6 i7 : Int) (s8 : ByteArray) (i9 i10 : Int) : Nat → Int → Option R
 | 0, _ => none
 | n + 1, i11 => Lp61_2_step m kx0 kx1 r0 s1 s2 s3 i4 i5 i6 i7 s8 i9 i10 (Lp61_2 m kx0 kx1 r0 s1 s2 s3 i4 i5 i6 i7 s8 i9 i10 n) i11
noncomputable def ELp61_2 (m : Nat) (R : Type) : Nat → List V → (Ex → List V → Option R) → Option R
 | 0, _, _ => none
 | n + 1, vs, k => match vs with
  | [.bor [.str, .str, .str, .int .i64, .int .i64, .int .i64, .int .i64, .str] r0, .clos 97 [.iref [.str, .str, .str, .int .i64, .int .i64, .int .i64, .int .i64, .str] [[F.lit (Value.string s1), F.lit (Value.string s2), F.lit (Value.string s3), F.lit (Value.int IntKind.i64 i4), F.lit (Value.int IntKind.i64 i5), F.lit (Value.int IntKind.i64 i6), F.lit (Value.int IntKind.i64 i7), F.lit (Value.string s8)]] 0 0], .f (.lit (.int .i64 i9)), .f (.lit (.int .i64 i10)), .f (.lit (.int .i64 i11)), .undef, .undef] => Lp61_2_step m (fun i13 i14 => k Ex.ret (W13 r0 [[F.lit (Value.string s1), F.lit (Value.string s2), F.lit (Value.string s3), F.lit (Value.int IntKind.i64 i4), F.lit (Value.int IntKind.i64 i5), F.lit (Value.int IntKind.i64 i6), F.lit (Value.int IntKind.i64 i7), F.lit (Value.string s8)]] i13 i10 i14)) (fun i15 => k (Ex.exit (0 : Nat)) (W13 r0 [[F.lit (Value.string s1), F.lit (Value.string s2), F.lit (Value.string s3), F.lit (Value.int IntKind.i64 i4), F.lit (Value.int IntKind.i64 i5), F.lit (Value.int IntKind.i64 i6), F.lit (Value.int IntKind.i64 i7), F.lit (Value.string s8)]] i9 i10 i15)) r0 s1 s2 s3 i4 i5 i6 i7 s8 i9 i10 (fun i11 => ELp61_2 m R n (W13 r0 [[F.lit (Value.string s1), F.lit (Value.string s2), F.lit (Value.string s3), F.lit (Value.int IntKind.i64 i4), F.lit (Value.int IntKind.i64 i5), F.lit (Value.int IntKind.i64 i6), F.lit (Value.int IntKind.i64 i7), F.lit (Value.string s8)]] i9 i10 i11) k) i11
  | _ => none
noncomputable def brLp61_2 (m : Nat) (L : LTbl) (R : Type) (vs : List V) (k : Ex → List V → Option R) : Option R := match vs with
 | [.bor [.str, .str, .str, .int .i64, .int .i64, .int .i64, .int .i64, .str] r0, .clos 97 [.iref [.str, .str, .str, .int .i64, .int .i64, .int .i64, .int .i64, .str] [[F.lit (Value.string s1), F.lit (Value.string s2), F.lit (Value.string s3), F.lit (Value.int IntKind.i64 i4), F.lit (Value.int IntKind.i64 i5), F.lit (Value.int IntKind.i64 i6), F.lit (Value.int IntKind.i64 i7), F.lit (Value.string s8)]] 0 0], .f (.lit (.int .i64 i9)), .f (.lit (.int .i64 i10)), .f (.lit (.int .i64 i11)), .undef, .undef] => Lp61_2 m (fun i13 i14 => k Ex.ret (W13 r0 [[F.lit (Value.string s1), F.lit (Value.string s2), F.lit (Value.string s3), F.lit (Value.int IntKind.i64 i4), F.lit (Value.int IntKind.i64 i5), F.lit (Value.int IntKind.i64 i6), F.lit (Value.int IntKind.i64 i7), F.lit (Value.string s8)]] i13 i10 i14)) (fun i15 => k (Ex.exit (0 : Nat)) (W13 r0 [[F.lit (Value.string s1), F.lit (Value.string s2), F.lit (Value.string s3), F.lit (Value.int IntKind.i64 i4), F.lit (Value.int IntKind.i64 i5), F.lit (Value.int IntKind.i64 i6), F.lit (Value.int IntKind.i64 i7), F.lit (Value.string s8)]] i9 i10 i15)) r0 s1 s2 s3 i4 i5 i6 i7 s8 i9 i10 m i11
 | _ => L R 61 2 vs k

theorem stLp61_2 (m n : Nat) (R : Type) (r0 : Abs.Rows) (s1 s2 s3 : ByteArray) (i4 i5 i6 i7 : Int) (s8 : ByteArray) (i9 i10 i11 : Int) (k : Ex → List V → Option R) : codeK Tryz.prog H (T12 m) 61 (L1 m) 3 (loopBody Tryz.prog 61 2) (mkEnv [0, 1, 4, 7, 8, 19, 20] (W13 r0 [[F.lit (Value.string s1), F.lit (Value.string s2), F.lit (Value.string s3), F.lit (Value.int IntKind.i64 i4), F.lit (Value.int IntKind.i64 i5), F.lit (Value.int IntKind.i64 i6), F.lit (Value.int IntKind.i64 i7), F.lit (Value.string s8)]] i9 i10 i11) 0 (H.len 61)) (fun e env' => match e with | .normal => ELp61_2 m R n (vals [0, 1, 4, 7, 8, 19, 20] env') k | e => k e (vals [0, 1, 4, 7, 8, 19, 20] env')) = Lp61_2_step m (fun i13 i14 => k Ex.ret (W13 r0 [[F.lit (Value.string s1), F.lit (Value.string s2), F.lit (Value.string s3), F.lit (Value.int IntKind.i64 i4), F.lit (Value.int IntKind.i64 i5), F.lit (Value.int IntKind.i64 i6), F.lit (Value.int IntKind.i64 i7), F.lit (Value.string s8)]] i13 i10 i14)) (fun i15 => k (Ex.exit (0 : Nat)) (W13 r0 [[F.lit (Value.string s1), F.lit (Value.string s2), F.lit (Value.string s3), F.lit (Value.int IntKind.i64 i4), F.lit (Value.int IntKind.i64 i5), F.lit (Value.int IntKind.i64 i6), F.lit (Value.int IntKind.i64 i7), F.lit (Value.string s8)]] i9 i10 i15)) r0 s1 s2 s3 i4 i5 i6 i7 s8 i9 i10 (fun i11 => ELp61_2 m R n (W13 r0 [[F.lit (Value.string s1), F.lit (Value.string s2), F.lit (Value.string s3), F.lit (Value.int IntKind.i64 i4), F.lit (Value.int IntKind.i64 i5), F.lit (Value.int IntKind.i64 i6), F.lit (Value.int IntKind.i64 i7), F.lit (Value.string s8)]] i9 i10 i11) k) i11 := by kernel_rfl
theorem eqLp61_2 (m : Nat) (R : Type) (r0 : Abs.Rows) (s1 s2 s3 : ByteArray) (i4 i5 i6 i7 : Int) (s8 : ByteArray) (i9 i10 : Int) (k : Ex → List V → Option R) : ∀ (n : Nat) (i11 : Int), ELp61_2 m R n (W13 r0 [[F.lit (Value.string s1), F.lit (Value.string s2), F.lit (Value.string s3), F.lit (Value.int IntKind.i64 i4), F.lit (Value.int IntKind.i64 i5), F.lit (Value.int IntKind.i64 i6), F.lit (Value.int IntKind.i64 i7), F.lit (Value.string s8)]] i9 i10 i11) k = Lp61_2 m (fun i13 i14 => k Ex.ret (W13 r0 [[F.lit (Value.string s1), F.lit (Value.string s2), F.lit (Value.string s3), F.lit (Value.int IntKind.i64 i4), F.lit (Value.int IntKind.i64 i5), F.lit (Value.int IntKind.i64 i6), F.lit (Value.int IntKind.i64 i7), F.lit (Value.string s8)]] i13 i10 i14)) (fun i15 => k (Ex.exit (0 : Nat)) (W13 r0 [[F.lit (Value.string s1), F.lit (Value.string s2), F.lit (Value.string s3), F.lit (Value.int IntKind.i64 i4), F.lit (Value.int IntKind.i64 i5), F.lit (Value.int IntKind.i64 i6), F.lit (Value.int IntKind.i64 i7), F.lit (Value.string s8)]] i9 i10 i15)) r0 s1 s2 s3 i4 i5 i6 i7 s8 i9 i10 n i11
 | 0, _ => rfl
 | n + 1, i11 => by
  simp only [ELp61_2, Lp61_2, W13]
  congr 1
  funext i11
  exact eqLp61_2 m R r0 s1 s2 s3 i4 i5 i6 i7 s8 i9 i10 k n i11
noncomputable def L2 (m : Nat) : LTbl := addB 61 2 (brLp61_2 m (L1 m)) (L1 m)
theorem okL2 (m : Nat) : LTOk Tryz.prog H (L2 m) := addB_ok (okT12 m) hM (okL1 m) (l := [0, 1, 4, 7, 8, 19, 20]) (by kernel_rfl) (by kernel_rfl) m (fun R n vs k => ELp61_2 m R n vs k) (fun R vs k => rfl) (fun R n vs k x h => by
   simp only [ELp61_2] at h
   split at h
   ·exact (stLp61_2 m n R _ _ _ _ _ _ _ _ _ _ _ _ k).trans h
   ·cases h) fun R vs k x h => by
  unfold brLp61_2 at h
  split at h
  ·exact .inl ((eqLp61_2 m R _ _ _ _ _ _ _ _ _ _ _ k m _).trans h)
  ·exact .inr h

abbrev W14 (a0 a1 : Abs.Rows) : List V := [.bor J2 a0, .clos 97 [.iref J2 a1 0 0]]
/-- - -/
noncomputable def Fn61 {R : Type} (m : Nat) : Abs.Rows → ByteArray → ByteArray → ByteArray → Int → Int → Int → Int → ByteArray → (Int → Option R) → Option R := match m with
 | 0 => fun _ _ _ _ _ _ _ _ _ _ => none
 | m + 1 => fun r0 s1 s2 s3 i4 i5 i6 i7 s8 k =>
 Lp61_2 m (fun i9 i10 => k i9) (fun i11 => k ((-1 : Int))) r0 s1 s2 s3 i4 i5 i6 i7 s8 ((0 : Int)) ((↑(List.length r0) : Int)) m ((0 : Int))
noncomputable def brFn61 (m : Nat) (T : Tbl) (R : Type) (vs : List V) (k : V → List V → Option R) : Option R := match vs with
 | [.bor [.str, .str, .str, .int .i64, .int .i64, .int .i64, .int .i64, .str] r0, .clos 97 [.iref [.str, .str, .str, .int .i64, .int .i64, .int .i64, .int .i64, .str] [[F.lit (Value.string s1), F.lit (Value.string s2), F.lit (Value.string s3), F.lit (Value.int IntKind.i64 i4), F.lit (Value.int IntKind.i64 i5), F.lit (Value.int IntKind.i64 i6), F.lit (Value.int IntKind.i64 i7), F.lit (Value.string s8)]] 0 0]] => Fn61 m r0 s1 s2 s3 i4 i5 i6 i7 s8 (fun i12 => k (V.f (F.lit (Value.int IntKind.i64 i12))) W1)
 | _ => T R 61 vs k

theorem evFn61 (m : Nat) (R : Type) (r0 : Abs.Rows) (s1 s2 s3 : ByteArray) (i4 i5 i6 i7 : Int) (s8 : ByteArray) (k : V → List V → Option R) : runK Tryz.prog H (T12 m) (L2 m) 61 (W14 r0 [[F.lit (Value.string s1), F.lit (Value.string s2), F.lit (Value.string s3), F.lit (Value.int IntKind.i64 i4), F.lit (Value.int IntKind.i64 i5), F.lit (Value.int IntKind.i64 i6), F.lit (Value.int IntKind.i64 i7), F.lit (Value.string s8)]]) k = Fn61 (m + 1) r0 s1 s2 s3 i4 i5 i6 i7 s8 (fun i12 => k (V.f (F.lit (Value.int IntKind.i64 i12))) W1) := by kernel_rfl
noncomputable def T13 (m : Nat) : Tbl := addT 61 (brFn61 m (T12 m)) (T12 m)
theorem okT13 (m : Nat) : TblOk Tryz.prog (T13 m) := addT_ok (okT12 m) fun R vs k x h => by
 unfold brFn61 at h
 split at h
 ·cases m with
  | zero => cases h
  | succ m => exact runK_some (okT12 m) hM (okL2 m) ((evFn61 m R _ _ _ _ _ _ _ _ _ k).trans h)
 ·exact okT12 m R 61 _ k x h

/-- - -/
noncomputable def Fn96 {R : Type} (m : Nat) : Abs.Rows → ByteArray → ByteArray → ByteArray → Int → Int → Int → Int → ByteArray → (Bool → Option R) → Option R := match m with
 | 0 => fun _ _ _ _ _ _ _ _ _ _ => none
 | m + 1 => fun r0 s1 s2 s3 i4 i5 i6 i7 s8 k =>
 Fn61 m r0 s1 s2 s3 i4 i5 i6 i7 s8 (fun i9 => k (decide (i9 ≥ (0 : Int))))
noncomputable def brFn96 (m : Nat) (T : Tbl) (R : Type) (vs : List V) (k : V → List V → Option R) : Option R := match vs with
 | [.bor [.str, .str, .str, .int .i64, .int .i64, .int .i64, .int .i64, .str] r0, .clos 97 [.iref [.str, .str, .str, .int .i64, .int .i64, .int .i64, .int .i64, .str] [[F.lit (Value.string s1), F.lit (Value.string s2), F.lit (Value.string s3), F.lit (Value.int IntKind.i64 i4), F.lit (Value.int IntKind.i64 i5), F.lit (Value.int IntKind.i64 i6), F.lit (Value.int IntKind.i64 i7), F.lit (Value.string s8)]] 0 0]] => Fn96 m r0 s1 s2 s3 i4 i5 i6 i7 s8 (fun b10 => k (V.f (F.lit (Value.bool b10))) W1)
 | _ => T R 96 vs k

theorem evFn96 (m : Nat) (R : Type) (r0 : Abs.Rows) (s1 s2 s3 : ByteArray) (i4 i5 i6 i7 : Int) (s8 : ByteArray) (k : V → List V → Option R) : runK Tryz.prog H (T13 m) (L2 m) 96 (W14 r0 [[F.lit (Value.string s1), F.lit (Value.string s2), F.lit (Value.string s3), F.lit (Value.int IntKind.i64 i4), F.lit (Value.int IntKind.i64 i5), F.lit (Value.int IntKind.i64 i6), F.lit (Value.int IntKind.i64 i7), F.lit (Value.string s8)]]) k = Fn96 (m + 1) r0 s1 s2 s3 i4 i5 i6 i7 s8 (fun b10 => k (V.f (F.lit (Value.bool b10))) W1) := by kernel_rfl
noncomputable def T14 (m : Nat) : Tbl := addT 96 (brFn96 m (T13 m)) (T13 m)
theorem okT14 (m : Nat) : TblOk Tryz.prog (T14 m) := addT_ok (okT13 m) fun R vs k x h => by
 unfold brFn96 at h
 split at h
 ·cases m with
  | zero => cases h
  | succ m => exact runK_some (okT13 m) hM (okL2 m) ((evFn96 m R _ _ _ _ _ _ _ _ _ k).trans h)
 ·exact okT13 m R 96 _ k x h

abbrev W15 (a0 : Abs.Rows) (a1 : Int) (a2 a3 a4 : ByteArray) (a5 a6 a7 a8 : Int) (a9 : ByteArray) (a10 a11 : Int) (a12 : Abs.Rows) (a13 : Int) : List V := [.ref 104 0, .own J2 a0, .f (.lit (.int .i64 a1)), .obj [.f (.lit (.string a2)), .f (.lit (.string a3)), .f (.lit (.string a4)), .f (.lit (.int .i64 a5)), .f (.lit (.int .i64 a6)), .f (.lit (.int .i64 a7)), .f (.lit (.int .i64 a8)), .f (.lit (.string a9))], .f (.lit (.int .i64 a10)), .f (.lit (.int .i64 a11)), .undef, .obj [.f (.lst J1 a12), .f (.lit (.int .i64 a13))], .undef]
/-- - -/
noncomputable def Jn43_17 {R : Type} (m : Nat) (kx0 : Abs.Rows → Int → Option R) (r0 : Abs.Rows) (i1 : Int) (s2 s3 s4 : ByteArray) (i5 i6 i7 i8 : Int) (s9 : ByteArray) (i10 i11 : Int) (r12 : Abs.Rows) (i13 : Int) : Option R :=
 Fn44 m r12 i13 ((80 : Int)) (fun b14 i15 => bif b14 then (bif decide (List.length r0 + List.length [[F.lit (Value.string s2), F.lit (Value.string s3), F.lit (Value.string s4), F.lit (Value.int IntKind.i64 i5), F.lit (Value.int IntKind.i64 i6), F.lit (Value.int IntKind.i64 i7), F.lit (Value.int IntKind.i64 i8), F.lit (Value.string s9)]] ≤ rowMax) then (letV (r0 ++ [[F.lit (Value.string s2), F.lit (Value.string s3), F.lit (Value.string s4), F.lit (Value.int IntKind.i64 i5), F.lit (Value.int IntKind.i64 i6), F.lit (Value.int IntKind.i64 i7), F.lit (Value.int IntKind.i64 i8), F.lit (Value.string s9)]]) (fun r16 => kx0 r16 i15)) else
 (none)) else
 (Fn96 m r0 s2 s3 s4 i5 i6 i7 i8 s9 (fun b17 => bif !b17 then (bif decide (List.length r0 + List.length [[F.lit (Value.string s2), F.lit (Value.string s3), F.lit (Value.string s4), F.lit (Value.int IntKind.i64 i5), F.lit (Value.int IntKind.i64 i6), F.lit (Value.int IntKind.i64 i7), F.lit (Value.int IntKind.i64 i8), F.lit (Value.string s9)]] ≤ rowMax) then (letV (r0 ++ [[F.lit (Value.string s2), F.lit (Value.string s3), F.lit (Value.string s4), F.lit (Value.int IntKind.i64 i5), F.lit (Value.int IntKind.i64 i6), F.lit (Value.int IntKind.i64 i7), F.lit (Value.int IntKind.i64 i8), F.lit (Value.string s9)]]) (fun r18 => kx0 r18 i15)) else
 (none)) else
 (kx0 r0 i15))))
noncomputable def brJn43_17 (m : Nat) (L : LTbl) (R : Type) (vs : List V) (k : Ex → List V → Option R) : Option R := match vs with
 | [.ref 104 0, .own [.str, .str, .str, .int .i64, .int .i64, .int .i64, .int .i64, .str] r0, .f (.lit (.int .i64 i1)), .obj [.f (.lit (.string s2)), .f (.lit (.string s3)), .f (.lit (.string s4)), .f (.lit (.int .i64 i5)), .f (.lit (.int .i64 i6)), .f (.lit (.int .i64 i7)), .f (.lit (.int .i64 i8)), .f (.lit (.string s9))], .f (.lit (.int .i64 i10)), .f (.lit (.int .i64 i11)), .undef, .obj [.f (.lst [.int .i64] r12), .f (.lit (.int .i64 i13))], .undef] => Jn43_17 m (fun r19 i20 => k Ex.normal (W15 r19 i1 s2 s3 s4 i5 i6 i7 i8 s9 i10 i11 r12 i20)) r0 i1 s2 s3 s4 i5 i6 i7 i8 s9 i10 i11 r12 i13
 | _ => L R 43 17 vs k

theorem evJn43_17 (m : Nat) (R : Type) (r0 : Abs.Rows) (i1 : Int) (s2 s3 s4 : ByteArray) (i5 i6 i7 i8 : Int) (s9 : ByteArray) (i10 i11 : Int) (r12 : Abs.Rows) (i13 : Int) (k : Ex → List V → Option R) : codeK Tryz.prog H (T14 m) 43 (L2 m) 18 (loopBody Tryz.prog 43 17) (mkEnv [0, 5, 6, 8, 9, 10, 99, 104, 105] (W15 r0 i1 s2 s3 s4 i5 i6 i7 i8 s9 i10 i11 r12 i13) 0 (H.len 43)) (fun e env' => k e (vals [0, 5, 6, 8, 9, 10, 99, 104, 105] env')) = Jn43_17 m (fun r19 i20 => k Ex.normal (W15 r19 i1 s2 s3 s4 i5 i6 i7 i8 s9 i10 i11 r12 i20)) r0 i1 s2 s3 s4 i5 i6 i7 i8 s9 i10 i11 r12 i13 := by kernel_rfl
noncomputable def L3 (m : Nat) : LTbl := addJ 43 17 (brJn43_17 m (L2 m)) (L2 m)
theorem okL3 (m : Nat) : LTOk Tryz.prog H (L3 m) := addJ_ok (okT14 m) hM (okL2 m) (l := [0, 5, 6, 8, 9, 10, 99, 104, 105]) (by kernel_rfl) (by kernel_rfl) fun R vs k x h => by
  unfold brJn43_17 at h
  split at h
  ·exact .inl ((evJn43_17 m R _ _ _ _ _ _ _ _ _ _ _ _ _ _ k).trans h)
  ·exact .inr h

/-- - -/
noncomputable def Fn95 {R : Type} (m : Nat) : Abs.Rows → Int → (ByteArray → Int → Option R) → Option R := match m with
 | 0 => fun _ _ _ => none
 | m + 1 => fun r0 i1 k =>
 Fn44 m r0 i1 ((25 : Int)) (fun b2 i3 => bif b2 then (Fn32 m r0 i3 ([[F.lit (Value.string { data := #[] })], [F.lit (Value.string { data := #[(43 : UInt8), (49 : UInt8), (50 : UInt8), (51 : UInt8)] })], [F.lit (Value.string { data := #[(43 : UInt8), (48 : UInt8), (49 : UInt8), (50 : UInt8), (51 : UInt8)] })], [F.lit (Value.string { data := #[(49 : UInt8), (50 : UInt8), (51 : UInt8), (52 : UInt8)] })], [F.lit (Value.string { data := #[(43 : UInt8), (49 : UInt8), (50 : UInt8), (51 : UInt8), (52 : UInt8), (53 : UInt8), (54 : UInt8), (55 : UInt8), (56 : UInt8), (57 : UInt8), (48 : UInt8), (49 : UInt8), (50 : UInt8), (51 : UInt8), (52 : UInt8), (53 : UInt8), (54 : UInt8)] })], [F.lit (Value.string { data := #[(43 : UInt8), (49 : UInt8), (50 : UInt8), (97 : UInt8), (52 : UInt8)] })]]) (fun s4 i5 => k s4 i5)) else
 (Fn32 m r0 i3 ([[F.lit (Value.string { data := #[(43 : UInt8), (49 : UInt8), (50 : UInt8), (48 : UInt8), (48 : UInt8)] })], [F.lit (Value.string { data := #[(43 : UInt8), (49 : UInt8), (50 : UInt8), (48 : UInt8), (48 : UInt8)] })], [F.lit (Value.string { data := #[(43 : UInt8), (49 : UInt8), (50 : UInt8), (48 : UInt8), (49 : UInt8)] })], [F.lit (Value.string { data := #[(43 : UInt8), (49 : UInt8), (50 : UInt8), (48 : UInt8), (50 : UInt8)] })], [F.lit (Value.string { data := #[(43 : UInt8), (57 : UInt8), (57 : UInt8), (57 : UInt8), (57 : UInt8)] })], [F.lit (Value.string { data := #[(43 : UInt8), (52 : UInt8), (51 : UInt8), (49 : UInt8), (50 : UInt8)] })], [F.lit (Value.string { data := #[(43 : UInt8), (52 : UInt8), (57 : UInt8), (51 : UInt8), (48 : UInt8), (49 : UInt8)] })], [F.lit (Value.string { data := #[(43 : UInt8), (52 : UInt8), (57 : UInt8), (51 : UInt8), (48 : UInt8), (50 : UInt8)] })], [F.lit (Value.string { data := #[(43 : UInt8), (53 : UInt8), (53 : UInt8), (49 : UInt8), (50 : UInt8)] })]]) (fun s6 i7 => k s6 i7)))
noncomputable def brFn95 (m : Nat) (T : Tbl) (R : Type) (vs : List V) (k : V → List V → Option R) : Option R := match vs with
 | [.obj [.f (.lst [.int .i64] r0), .f (.lit (.int .i64 i1))]] => Fn95 m r0 i1 (fun s8 i9 => k (V.f (F.lit (Value.string s8))) (W11 r0 i9))
 | _ => T R 95 vs k

theorem evFn95 (m : Nat) (R : Type) (r0 : Abs.Rows) (i1 : Int) (k : V → List V → Option R) : runK Tryz.prog H (T14 m) (L3 m) 95 (W11 r0 i1) k = Fn95 (m + 1) r0 i1 (fun s8 i9 => k (V.f (F.lit (Value.string s8))) (W11 r0 i9)) := by kernel_rfl
noncomputable def T15 (m : Nat) : Tbl := addT 95 (brFn95 m (T14 m)) (T14 m)
theorem okT15 (m : Nat) : TblOk Tryz.prog (T15 m) := addT_ok (okT14 m) fun R vs k x h => by
 unfold brFn95 at h
 split at h
 ·cases m with
  | zero => cases h
  | succ m => exact runK_some (okT14 m) hM (okL3 m) ((evFn95 m R _ _ k).trans h)
 ·exact okT14 m R 95 _ k x h

/-- - -/
noncomputable def Jn43_11 {R : Type} (m : Nat) (kx0 : Abs.Rows → ByteArray → ByteArray → ByteArray → Int → Int → Int → Int → ByteArray → Int → Option R) (r0 : Abs.Rows) (i1 : Int) (s2 s3 s4 : ByteArray) (i5 i6 i7 i8 : Int) (s9 : ByteArray) (i10 i11 : Int) (r12 : Abs.Rows) (i13 : Int) : Option R :=
 Fn44 m r12 i13 ((80 : Int)) (fun b14 i15 => bif b14 then (Fn46 m r12 i15 ((4 : Int)) (fun i16 i17 => bif i16 == (0 : Int) then (Fn32 m r12 i17 ([[F.lit (Value.string { data := #[] })], [F.lit (Value.string { data := #[(65 : UInt8)] })], [F.lit (Value.string { data := #[(114 : UInt8), (97 : UInt8)] })]]) (fun s18 i19 => Jn43_17 m (fun r20 i21 => kx0 r20 s18 s3 s4 i5 i6 i7 i8 s9 i21) r0 i1 s18 s3 s4 i5 i6 i7 i8 s9 i10 i11 r12 i19)) else
 (bif i16 == (1 : Int) then (Fn95 m r12 i17 (fun s22 i23 => Fn95 m r12 i23 (fun s24 i25 => Jn43_17 m (fun r26 i27 => kx0 r26 s2 s22 s24 i5 i6 i7 i8 s9 i27) r0 i1 s2 s22 s24 i5 i6 i7 i8 s9 i10 i11 r12 i25))) else
 (bif i16 == (2 : Int) then (Fn65 m r12 i17 ((0 : Int)) ((100 : Int)) (fun i28 i29 => Fn65 m r12 i29 ((1 : Int)) ((4 : Int)) (fun i30 i31 => Jn43_17 m (fun r32 i33 => kx0 r32 s2 s3 s4 i5 i6 i28 i30 s9 i33) r0 i1 s2 s3 s4 i5 i6 i28 i30 s9 i10 i11 r12 i31))) else
 (Fn65 m r12 i17 ((0 : Int)) ((100 : Int)) (fun i34 i35 => Fn65 m r12 i35 ((0 : Int)) ((100 : Int)) (fun i36 i37 => Fn32 m r12 i37 ([[F.lit (Value.string { data := #[] })], [F.lit (Value.string { data := #[(65 : UInt8)] })]]) (fun s38 i39 => Jn43_17 m (fun r40 i41 => kx0 r40 s2 s3 s4 i34 i36 i7 i8 s38 i41) r0 i1 s2 s3 s4 i34 i36 i7 i8 s38 i10 i11 r12 i39)))))))) else
 (Jn43_17 m (fun r42 i43 => kx0 r42 s2 s3 s4 i5 i6 i7 i8 s9 i43) r0 i1 s2 s3 s4 i5 i6 i7 i8 s9 i10 i11 r12 i15))
noncomputable def brJn43_11 (m : Nat) (L : LTbl) (R : Type) (vs : List V) (k : Ex → List V → Option R) : Option R := match vs with
 | [.ref 104 0, .own [.str, .str, .str, .int .i64, .int .i64, .int .i64, .int .i64, .str] r0, .f (.lit (.int .i64 i1)), .obj [.f (.lit (.string s2)), .f (.lit (.string s3)), .f (.lit (.string s4)), .f (.lit (.int .i64 i5)), .f (.lit (.int .i64 i6)), .f (.lit (.int .i64 i7)), .f (.lit (.int .i64 i8)), .f (.lit (.string s9))], .f (.lit (.int .i64 i10)), .f (.lit (.int .i64 i11)), .undef, .obj [.f (.lst [.int .i64] r12), .f (.lit (.int .i64 i13))], .undef] => Jn43_11 m (fun r44 s45 s46 s47 i48 i49 i50 i51 s52 i53 => k Ex.normal (W15 r44 i1 s45 s46 s47 i48 i49 i50 i51 s52 i10 i11 r12 i53)) r0 i1 s2 s3 s4 i5 i6 i7 i8 s9 i10 i11 r12 i13
 | _ => L R 43 11 vs k

theorem evJn43_11 (m : Nat) (R : Type) (r0 : Abs.Rows) (i1 : Int) (s2 s3 s4 : ByteArray) (i5 i6 i7 i8 : Int) (s9 : ByteArray) (i10 i11 : Int) (r12 : Abs.Rows) (i13 : Int) (k : Ex → List V → Option R) : codeK Tryz.prog H (T15 m) 43 (L3 m) 12 (loopBody Tryz.prog 43 11) (mkEnv [0, 5, 6, 8, 9, 10, 99, 104, 105] (W15 r0 i1 s2 s3 s4 i5 i6 i7 i8 s9 i10 i11 r12 i13) 0 (H.len 43)) (fun e env' => k e (vals [0, 5, 6, 8, 9, 10, 99, 104, 105] env')) = Jn43_11 m (fun r44 s45 s46 s47 i48 i49 i50 i51 s52 i53 => k Ex.normal (W15 r44 i1 s45 s46 s47 i48 i49 i50 i51 s52 i10 i11 r12 i53)) r0 i1 s2 s3 s4 i5 i6 i7 i8 s9 i10 i11 r12 i13 := by kernel_rfl
noncomputable def L4 (m : Nat) : LTbl := addJ 43 11 (brJn43_11 m (L3 m)) (L3 m)
theorem okL4 (m : Nat) : LTOk Tryz.prog H (L4 m) := addJ_ok (okT15 m) hM (okL3 m) (l := [0, 5, 6, 8, 9, 10, 99, 104, 105]) (by kernel_rfl) (by kernel_rfl) fun R vs k x h => by
  unfold brJn43_11 at h
  split at h
  ·exact .inl ((evJn43_11 m R _ _ _ _ _ _ _ _ _ _ _ _ _ _ k).trans h)
  ·exact .inr h

abbrev W16 (a0 : Abs.Rows) (a1 a2 a3 : Int) (a4 : Abs.Rows) (a5 : Int) : List V := [.ref 104 0, .own J2 a0, .f (.lit (.int .i64 a1)), .f (.lit (.int .i64 a2)), .f (.lit (.int .i64 a3)), .obj [.f (.lst J1 a4), .f (.lit (.int .i64 a5))], .undef]
abbrev K1Lp43_4 {R : Type} (k : Ex → List V → Option R) (i0 : Int) (r1 : Abs.Rows) : Abs.Rows → Int → Int → Int → Option R := fun r2 i3 i4 i5 => k (Ex.exit (0 : Nat)) (W16 r2 i3 i0 i4 r1 i5)
/-- - -/
noncomputable def Lp43_4_step {R : Type} (m : Nat) (kx0 : Abs.Rows → Int → Int → Int → Option R) (i0 : Int) (r1 : Abs.Rows) (REC : Abs.Rows → Int → Int → Int → Option R) (r6 : Abs.Rows) (i7 i8 i9 : Int) : Option R :=
 bif decide (i8 < i0) then (Fn9 m r1 i9 ([[F.lit (Value.int IntKind.i64 (0 : Int))], [F.lit (Value.int IntKind.i64 (10 : Int))], [F.lit (Value.int IntKind.i64 (100 : Int))], [F.lit (Value.int IntKind.i64 (1000 : Int))], [F.lit (Value.int IntKind.i64 (60000 : Int))], [F.lit (Value.int IntKind.i64 (1296000000 : Int))]]) (fun i10 i11 => Fn46 m r1 i11 ((3 : Int)) (fun i12 i13 => bif decide (ByteArray.size { data := #[(114 : UInt8)] } + ByteArray.size (Utf8.encode (IntKind.wrap IntKind.i32 (IntKind.wrap IntKind.i64 ((97 : Int) + Int.tmod (IntKind.wrap IntKind.i64 (IntKind.wrap IntKind.i64 (i8 * (7 : Int)) + i12)) (26 : Int))))) ≤ strMax) then (letV ({ data := #[(114 : UInt8)] } ++ Utf8.encode (IntKind.wrap IntKind.i32 (IntKind.wrap IntKind.i64 ((97 : Int) + Int.tmod (IntKind.wrap IntKind.i64 (IntKind.wrap IntKind.i64 (i8 * (7 : Int)) + i12)) (26 : Int))))) (fun s14 => Fn32 m r1 i13 ([[F.lit (Value.string { data := #[(43 : UInt8), (49 : UInt8), (50 : UInt8), (48 : UInt8), (48 : UInt8)] })], [F.lit (Value.string { data := #[(43 : UInt8), (49 : UInt8), (50 : UInt8), (48 : UInt8), (48 : UInt8)] })], [F.lit (Value.string { data := #[(43 : UInt8), (49 : UInt8), (50 : UInt8), (48 : UInt8), (49 : UInt8)] })], [F.lit (Value.string { data := #[(43 : UInt8), (49 : UInt8), (50 : UInt8), (48 : UInt8), (50 : UInt8)] })], [F.lit (Value.string { data := #[(43 : UInt8), (57 : UInt8), (57 : UInt8), (57 : UInt8), (57 : UInt8)] })]]) (fun s15 i16 => Fn32 m r1 i16 ([[F.lit (Value.string { data := #[(43 : UInt8), (52 : UInt8), (51 : UInt8), (49 : UInt8), (50 : UInt8)] })], [F.lit (Value.string { data := #[(43 : UInt8), (52 : UInt8), (57 : UInt8), (51 : UInt8), (48 : UInt8), (49 : UInt8)] })], [F.lit (Value.string { data := #[(43 : UInt8), (52 : UInt8), (57 : UInt8), (51 : UInt8), (48 : UInt8), (50 : UInt8)] })], [F.lit (Value.string { data := #[(43 : UInt8), (53 : UInt8), (53 : UInt8), (49 : UInt8), (50 : UInt8)] })], [F.lit (Value.string { data := #[(43 : UInt8), (49 : UInt8), (50 : UInt8), (48 : UInt8), (48 : UInt8)] })]]) (fun s17 i18 => Fn9 m r1 i18 ([[F.lit (Value.int IntKind.i64 (0 : Int))], [F.lit (Value.int IntKind.i64 (5000 : Int))]]) (fun i19 i20 => Fn9 m r1 i20 ([[F.lit (Value.int IntKind.i64 (1 : Int))], [F.lit (Value.int IntKind.i64 (1 : Int))], [F.lit (Value.int IntKind.i64 (1 : Int))], [F.lit (Value.int IntKind.i64 (2 : Int))], [F.lit (Value.int IntKind.i64 (3 : Int))], [F.lit (Value.int IntKind.i64 (4 : Int))]]) (fun i21 i22 => Fn32 m r1 i22 ([[F.lit (Value.string { data := #[] })], [F.lit (Value.string { data := #[(119 : UInt8), (101 : UInt8), (115 : UInt8), (116 : UInt8)] })]]) (fun s23 i24 => bif i21 == (1 : Int) then (Fn9 m r1 i24 ([[F.lit (Value.int IntKind.i64 (1 : Int))], [F.lit (Value.int IntKind.i64 (5000 : Int))], [F.lit (Value.int IntKind.i64 (60000 : Int))], [F.lit (Value.int IntKind.i64 (60001 : Int))], [F.lit (Value.int IntKind.i64 (61500 : Int))], [F.lit (Value.int IntKind.i64 (90000 : Int))]]) (fun i25 i26 => Jn43_11 m (fun r27 s28 s29 s30 i31 i32 i33 i34 s35 i36 => REC r27 (IntKind.wrap IntKind.i64 (i7 + i10)) (IntKind.wrap IntKind.i64 (i8 + (1 : Int))) i36) r6 (IntKind.wrap IntKind.i64 (i7 + i10)) s14 s15 s17 (IntKind.wrap IntKind.i64 (i7 + i10)) i19 i25 i21 s23 i0 i8 r1 i26)) else
 (Jn43_11 m (fun r37 s38 s39 s40 i41 i42 i43 i44 s45 i46 => REC r37 (IntKind.wrap IntKind.i64 (i7 + i10)) (IntKind.wrap IntKind.i64 (i8 + (1 : Int))) i46) r6 (IntKind.wrap IntKind.i64 (i7 + i10)) s14 s15 s17 (IntKind.wrap IntKind.i64 (i7 + i10)) i19 ((0 : Int)) i21 s23 i0 i8 r1 i24)))))))) else
 (none)))) else
 (kx0 r6 i7 i8 i9)
noncomputable def Lp43_4 {R : Type} (m : Nat) (kx0 : Abs.Rows → Int → Int → Int → Option R) (i0 : Int) (r1 : Abs.Rows) : Nat → Abs.Rows → Int → Int → Int → Option R
 | 0, _, _, _, _ => none
 | n + 1, r6, i7, i8, i9 => Lp43_4_step m kx0 i0 r1 (Lp43_4 m kx0 i0 r1 n) r6 i7 i8 i9
noncomputable def ELp43_4 (m : Nat) (R : Type) : Nat → List V → (Ex → List V → Option R) → Option R
 | 0, _, _ => none
 | n + 1, vs, k => match vs with
  | [.ref 104 0, .own [.str, .str, .str, .int .i64, .int .i64, .int .i64, .int .i64, .str] r6, .f (.lit (.int .i64 i7)), .f (.lit (.int .i64 i0)), .f (.lit (.int .i64 i8)), .obj [.f (.lst [.int .i64] r1), .f (.lit (.int .i64 i9))], .undef] => Lp43_4_step m (K1Lp43_4 k i0 r1) i0 r1 (fun r6 i7 i8 i9 => ELp43_4 m R n (W16 r6 i7 i0 i8 r1 i9) k) r6 i7 i8 i9
  | _ => none
noncomputable def brLp43_4 (m : Nat) (L : LTbl) (R : Type) (vs : List V) (k : Ex → List V → Option R) : Option R := match vs with
 | [.ref 104 0, .own [.str, .str, .str, .int .i64, .int .i64, .int .i64, .int .i64, .str] r6, .f (.lit (.int .i64 i7)), .f (.lit (.int .i64 i0)), .f (.lit (.int .i64 i8)), .obj [.f (.lst [.int .i64] r1), .f (.lit (.int .i64 i9))], .undef] => Lp43_4 m (K1Lp43_4 k i0 r1) i0 r1 m r6 i7 i8 i9
 | _ => L R 43 4 vs k

theorem stLp43_4 (m n : Nat) (R : Type) (r6 : Abs.Rows) (i7 i0 i8 : Int) (r1 : Abs.Rows) (i9 : Int) (k : Ex → List V → Option R) : codeK Tryz.prog H (T15 m) 43 (L4 m) 5 (loopBody Tryz.prog 43 4) (mkEnv [0, 5, 6, 9, 10, 104, 105] (W16 r6 i7 i0 i8 r1 i9) 0 (H.len 43)) (fun e env' => match e with | .normal => ELp43_4 m R n (vals [0, 5, 6, 9, 10, 104, 105] env') k | e => k e (vals [0, 5, 6, 9, 10, 104, 105] env')) = Lp43_4_step m (K1Lp43_4 k i0 r1) i0 r1 (fun r6 i7 i8 i9 => ELp43_4 m R n (W16 r6 i7 i0 i8 r1 i9) k) r6 i7 i8 i9 := by kernel_rfl
theorem eqLp43_4 (m : Nat) (R : Type) (i0 : Int) (r1 : Abs.Rows) (k : Ex → List V → Option R) : ∀ (n : Nat) (r6 : Abs.Rows) (i7 i8 i9 : Int), ELp43_4 m R n (W16 r6 i7 i0 i8 r1 i9) k = Lp43_4 m (K1Lp43_4 k i0 r1) i0 r1 n r6 i7 i8 i9
 | 0, _, _, _, _ => rfl
 | n + 1, r6, i7, i8, i9 => by
  simp only [ELp43_4, Lp43_4, W16]
  congr 1
  funext r6 i7 i8 i9
  exact eqLp43_4 m R i0 r1 k n r6 i7 i8 i9
noncomputable def L5 (m : Nat) : LTbl := addB 43 4 (brLp43_4 m (L4 m)) (L4 m)
theorem okL5 (m : Nat) : LTOk Tryz.prog H (L5 m) := addB_ok (okT15 m) hM (okL4 m) (l := [0, 5, 6, 9, 10, 104, 105]) (by kernel_rfl) (by kernel_rfl) m (fun R n vs k => ELp43_4 m R n vs k) (fun R vs k => rfl) (fun R n vs k x h => by
   simp only [ELp43_4] at h
   split at h
   ·exact (stLp43_4 m n R _ _ _ _ _ _ k).trans h
   ·cases h) fun R vs k x h => by
  unfold brLp43_4 at h
  split at h
  ·exact .inl ((eqLp43_4 m R _ _ k m _ _ _ _).trans h)
  ·exact .inr h

abbrev W17 : List V := [.undef]
abbrev W18 (a0 : Int) : List V := [.f (.lit (.int .i64 a0))]
/-- - -/
noncomputable def Fn94 {R : Type} (m : Nat) : Int → (Int → Option R) → Option R := match m with
 | 0 => fun _ _ => none
 | m + 1 => fun i0 k =>
 bif decide (i0 < (0 : Int)) then (k ((-1 : Int))) else
 (bif decide (i0 > (0 : Int)) then (k ((1 : Int))) else
 (k ((0 : Int))))
noncomputable def brFn94 (m : Nat) (T : Tbl) (R : Type) (vs : List V) (k : V → List V → Option R) : Option R := match vs with
 | [.f (.lit (.int .i64 i0))] => Fn94 m i0 (fun i1 => k (V.f (F.lit (Value.int IntKind.i64 i1))) W17)
 | _ => T R 94 vs k

theorem evFn94 (m : Nat) (R : Type) (i0 : Int) (k : V → List V → Option R) : runK Tryz.prog H (T15 m) (L5 m) 94 (W18 i0) k = Fn94 (m + 1) i0 (fun i1 => k (V.f (F.lit (Value.int IntKind.i64 i1))) W17) := by kernel_rfl
noncomputable def T16 (m : Nat) : Tbl := addT 94 (brFn94 m (T15 m)) (T15 m)
theorem okT16 (m : Nat) : TblOk Tryz.prog (T16 m) := addT_ok (okT15 m) fun R vs k x h => by
 unfold brFn94 at h
 split at h
 ·cases m with
  | zero => cases h
  | succ m => exact runK_some (okT15 m) hM (okL5 m) ((evFn94 m R _ k).trans h)
 ·exact okT15 m R 94 _ k x h

abbrev W19 (a0 a1 a2 : ByteArray) (a3 a4 a5 a6 : Int) (a7 a8 a9 a10 : ByteArray) (a11 a12 a13 a14 : Int) (a15 : ByteArray) : List V := [.agg [.f (.lit (.string a0)), .f (.lit (.string a1)), .f (.lit (.string a2)), .f (.lit (.int .i64 a3)), .f (.lit (.int .i64 a4)), .f (.lit (.int .i64 a5)), .f (.lit (.int .i64 a6)), .f (.lit (.string a7))], .agg [.f (.lit (.string a8)), .f (.lit (.string a9)), .f (.lit (.string a10)), .f (.lit (.int .i64 a11)), .f (.lit (.int .i64 a12)), .f (.lit (.int .i64 a13)), .f (.lit (.int .i64 a14)), .f (.lit (.string a15))]]
/-- - -/
noncomputable def Fn73 {R : Type} (m : Nat) : ByteArray → ByteArray → ByteArray → Int → Int → Int → Int → ByteArray → ByteArray → ByteArray → ByteArray → Int → Int → Int → Int → ByteArray → (Int → Option R) → Option R := match m with
 | 0 => fun _ _ _ _ _ _ _ _ _ _ _ _ _ _ _ _ _ => none
 | m + 1 => fun s0 s1 s2 i3 i4 i5 i6 s7 s8 s9 s10 i11 i12 i13 i14 s15 k =>
 bif i3 != i11 then (Fn94 m (IntKind.wrap IntKind.i64 (i3 - i11)) (fun i16 => k i16)) else
 (k (cmpB s0 s8))
noncomputable def brFn73 (m : Nat) (T : Tbl) (R : Type) (vs : List V) (k : V → List V → Option R) : Option R := match vs with
 | [.agg [.f (.lit (.string s0)), .f (.lit (.string s1)), .f (.lit (.string s2)), .f (.lit (.int .i64 i3)), .f (.lit (.int .i64 i4)), .f (.lit (.int .i64 i5)), .f (.lit (.int .i64 i6)), .f (.lit (.string s7))], .agg [.f (.lit (.string s8)), .f (.lit (.string s9)), .f (.lit (.string s10)), .f (.lit (.int .i64 i11)), .f (.lit (.int .i64 i12)), .f (.lit (.int .i64 i13)), .f (.lit (.int .i64 i14)), .f (.lit (.string s15))]] => Fn73 m s0 s1 s2 i3 i4 i5 i6 s7 s8 s9 s10 i11 i12 i13 i14 s15 (fun i17 => k (V.f (F.lit (Value.int IntKind.i64 i17))) W1)
 | _ => T R 73 vs k

theorem evFn73 (m : Nat) (R : Type) (s0 s1 s2 : ByteArray) (i3 i4 i5 i6 : Int) (s7 s8 s9 s10 : ByteArray) (i11 i12 i13 i14 : Int) (s15 : ByteArray) (k : V → List V → Option R) : runK Tryz.prog H (T16 m) (L5 m) 73 (W19 s0 s1 s2 i3 i4 i5 i6 s7 s8 s9 s10 i11 i12 i13 i14 s15) k = Fn73 (m + 1) s0 s1 s2 i3 i4 i5 i6 s7 s8 s9 s10 i11 i12 i13 i14 s15 (fun i17 => k (V.f (F.lit (Value.int IntKind.i64 i17))) W1) := by kernel_rfl
noncomputable def T17 (m : Nat) : Tbl := addT 73 (brFn73 m (T16 m)) (T16 m)
theorem okT17 (m : Nat) : TblOk Tryz.prog (T17 m) := addT_ok (okT16 m) fun R vs k x h => by
 unfold brFn73 at h
 split at h
 ·cases m with
  | zero => cases h
  | succ m => exact runK_some (okT16 m) hM (okL5 m) ((evFn73 m R _ _ _ _ _ _ _ _ _ _ _ _ _ _ _ _ k).trans h)
 ·exact okT16 m R 73 _ k x h

abbrev W20 (a0 : Nat) (a1 a2 a3 a4 : Int) (a5 : Abs.Rows) : List V := [.lent { slot := (53 : Nat), leaf := none } 8 a0, .f (.lit (.int .i64 a1)), .f (.lit (.int .i64 a2)), .clos 73 [], .f (.lit (.int .i64 a3)), .f (.lit (.int .i64 a4)), .own J2 a5, .undef, .undef, .undef]
/-- - -/
noncomputable def Jn155_7 {R : Type} (m : Nat) (kx0 : Int → Abs.Rows → Option R) (n0 : Nat) (i1 i2 i3 i4 : Int) (r5 : Abs.Rows) : Option R :=
 bif decide ((0 : Int) ≤ IntKind.wrap IntKind.i64 (i4 - (1 : Int)) ∧ IntKind.wrap IntKind.i64 (i4 - (1 : Int)) < (↑n0 : Int)) then (bif decide ((0 : Int) ≤ i4 ∧ i4 < (↑n0 : Int)) then (bif decide ((0 : Int) ≤ i4 ∧ i4 < (↑n0 : Int)) then (bif decide ((0 : Int) ≤ IntKind.wrap IntKind.i64 (i4 - (1 : Int)) ∧ IntKind.wrap IntKind.i64 (i4 - (1 : Int)) < (↑n0 : Int)) then (letV (stR [LT.str, LT.str, LT.str, LT.int IntKind.i64, LT.int IntKind.i64, LT.int IntKind.i64, LT.int IntKind.i64, LT.str] r5 (Int.toNat i4) (0 : Nat) [F.lit (Value.string (fS r5 (Int.toNat (IntKind.wrap IntKind.i64 (i4 - (1 : Int)))) (0 : Nat))), F.lit (Value.string (fS r5 (Int.toNat (IntKind.wrap IntKind.i64 (i4 - (1 : Int)))) (1 : Nat))), F.lit (Value.string (fS r5 (Int.toNat (IntKind.wrap IntKind.i64 (i4 - (1 : Int)))) (2 : Nat))), F.lit (Value.int IntKind.i64 (fI r5 (Int.toNat (IntKind.wrap IntKind.i64 (i4 - (1 : Int)))) (3 : Nat))), F.lit (Value.int IntKind.i64 (fI r5 (Int.toNat (IntKind.wrap IntKind.i64 (i4 - (1 : Int)))) (4 : Nat))), F.lit (Value.int IntKind.i64 (fI r5 (Int.toNat (IntKind.wrap IntKind.i64 (i4 - (1 : Int)))) (5 : Nat))), F.lit (Value.int IntKind.i64 (fI r5 (Int.toNat (IntKind.wrap IntKind.i64 (i4 - (1 : Int)))) (6 : Nat))), F.lit (Value.string (fS r5 (Int.toNat (IntKind.wrap IntKind.i64 (i4 - (1 : Int)))) (7 : Nat)))]) (fun r6 => kx0 (IntKind.wrap IntKind.i64 (i4 - (1 : Int))) (stR [LT.str, LT.str, LT.str, LT.int IntKind.i64, LT.int IntKind.i64, LT.int IntKind.i64, LT.int IntKind.i64, LT.str] r6 (Int.toNat (IntKind.wrap IntKind.i64 (i4 - (1 : Int)))) (0 : Nat) [F.lit (Value.string (fS r5 (Int.toNat i4) (0 : Nat))), F.lit (Value.string (fS r5 (Int.toNat i4) (1 : Nat))), F.lit (Value.string (fS r5 (Int.toNat i4) (2 : Nat))), F.lit (Value.int IntKind.i64 (fI r5 (Int.toNat i4) (3 : Nat))), F.lit (Value.int IntKind.i64 (fI r5 (Int.toNat i4) (4 : Nat))), F.lit (Value.int IntKind.i64 (fI r5 (Int.toNat i4) (5 : Nat))), F.lit (Value.int IntKind.i64 (fI r5 (Int.toNat i4) (6 : Nat))), F.lit (Value.string (fS r5 (Int.toNat i4) (7 : Nat)))]))) else
 (none)) else
 (none)) else
 (none)) else
 (none)
noncomputable def brJn155_7 (m : Nat) (L : LTbl) (R : Type) (vs : List V) (k : Ex → List V → Option R) : Option R := match vs with
 | [.lent { slot := (53 : Nat), leaf := none } 8 n0, .f (.lit (.int .i64 i1)), .f (.lit (.int .i64 i2)), .clos 73 [], .f (.lit (.int .i64 i3)), .f (.lit (.int .i64 i4)), .own [.str, .str, .str, .int .i64, .int .i64, .int .i64, .int .i64, .str] r5, .undef, .undef, .undef] => Jn155_7 m (fun i7 r8 => k Ex.normal (W20 n0 i1 i2 i3 i7 r8)) n0 i1 i2 i3 i4 r5
 | _ => L R 155 7 vs k

theorem evJn155_7 (m : Nat) (R : Type) (n0 : Nat) (i1 i2 i3 i4 : Int) (r5 : Abs.Rows) (k : Ex → List V → Option R) : codeK Tryz.prog H (T17 m) 155 (L5 m) 8 (loopBody Tryz.prog 155 7) (mkEnv [0, 1, 2, 3, 8, 9, 53, 54, 55, 56] (W20 n0 i1 i2 i3 i4 r5) 0 (H.len 155)) (fun e env' => k e (vals [0, 1, 2, 3, 8, 9, 53, 54, 55, 56] env')) = Jn155_7 m (fun i7 r8 => k Ex.normal (W20 n0 i1 i2 i3 i7 r8)) n0 i1 i2 i3 i4 r5 := by kernel_rfl
noncomputable def L6 (m : Nat) : LTbl := addJ 155 7 (brJn155_7 m (L5 m)) (L5 m)
theorem okL6 (m : Nat) : LTOk Tryz.prog H (L6 m) := addJ_ok (okT17 m) hM (okL5 m) (l := [0, 1, 2, 3, 8, 9, 53, 54, 55, 56]) (by kernel_rfl) (by kernel_rfl) fun R vs k x h => by
  unfold brJn155_7 at h
  split at h
  ·exact .inl ((evJn155_7 m R _ _ _ _ _ _ k).trans h)
  ·exact .inr h

/-- - -/
noncomputable def Lp155_5_step {R : Type} (m : Nat) (kx0 : Int → Abs.Rows → Option R) (n0 : Nat) (i1 i2 i3 : Int) (REC : Int → Abs.Rows → Option R) (i4 : Int) (r5 : Abs.Rows) : Option R :=
 bif decide (i4 > i1) then (bif decide ((0 : Int) ≤ i4 ∧ i4 < (↑n0 : Int)) then (bif decide ((0 : Int) ≤ IntKind.wrap IntKind.i64 (i4 - (1 : Int)) ∧ IntKind.wrap IntKind.i64 (i4 - (1 : Int)) < (↑n0 : Int)) then (Fn73 m (fS r5 (Int.toNat i4) (0 : Nat)) (fS r5 (Int.toNat i4) (1 : Nat)) (fS r5 (Int.toNat i4) (2 : Nat)) (fI r5 (Int.toNat i4) (3 : Nat)) (fI r5 (Int.toNat i4) (4 : Nat)) (fI r5 (Int.toNat i4) (5 : Nat)) (fI r5 (Int.toNat i4) (6 : Nat)) (fS r5 (Int.toNat i4) (7 : Nat)) (fS r5 (Int.toNat (IntKind.wrap IntKind.i64 (i4 - (1 : Int)))) (0 : Nat)) (fS r5 (Int.toNat (IntKind.wrap IntKind.i64 (i4 - (1 : Int)))) (1 : Nat)) (fS r5 (Int.toNat (IntKind.wrap IntKind.i64 (i4 - (1 : Int)))) (2 : Nat)) (fI r5 (Int.toNat (IntKind.wrap IntKind.i64 (i4 - (1 : Int)))) (3 : Nat)) (fI r5 (Int.toNat (IntKind.wrap IntKind.i64 (i4 - (1 : Int)))) (4 : Nat)) (fI r5 (Int.toNat (IntKind.wrap IntKind.i64 (i4 - (1 : Int)))) (5 : Nat)) (fI r5 (Int.toNat (IntKind.wrap IntKind.i64 (i4 - (1 : Int)))) (6 : Nat)) (fS r5 (Int.toNat (IntKind.wrap IntKind.i64 (i4 - (1 : Int)))) (7 : Nat)) (fun i6 => bif decide (i6 < (0 : Int)) then (Jn155_7 m (fun i7 r8 => REC i7 r8) n0 i1 i2 i3 i4 r5) else
 (kx0 i4 r5))) else
 (none)) else
 (none)) else
 (kx0 i4 r5)
noncomputable def Lp155_5 {R : Type} (m : Nat) (kx0 : Int → Abs.Rows → Option R) (n0 : Nat) (i1 i2 i3 : Int) : Nat → Int → Abs.Rows → Option R
 | 0, _, _ => none
 | n + 1, i4, r5 => Lp155_5_step m kx0 n0 i1 i2 i3 (Lp155_5 m kx0 n0 i1 i2 i3 n) i4 r5
noncomputable def ELp155_5 (m : Nat) (R : Type) : Nat → List V → (Ex → List V → Option R) → Option R
 | 0, _, _ => none
 | n + 1, vs, k => match vs with
  | [.lent { slot := (53 : Nat), leaf := none } 8 n0, .f (.lit (.int .i64 i1)), .f (.lit (.int .i64 i2)), .clos 73 [], .f (.lit (.int .i64 i3)), .f (.lit (.int .i64 i4)), .own [.str, .str, .str, .int .i64, .int .i64, .int .i64, .int .i64, .str] r5, .undef, .undef, .undef] => Lp155_5_step m (fun i9 r10 => k (Ex.exit (2 : Nat)) (W20 n0 i1 i2 i3 i9 r10)) n0 i1 i2 i3 (fun i4 r5 => ELp155_5 m R n (W20 n0 i1 i2 i3 i4 r5) k) i4 r5
  | _ => none
noncomputable def brLp155_5 (m : Nat) (L : LTbl) (R : Type) (vs : List V) (k : Ex → List V → Option R) : Option R := match vs with
 | [.lent { slot := (53 : Nat), leaf := none } 8 n0, .f (.lit (.int .i64 i1)), .f (.lit (.int .i64 i2)), .clos 73 [], .f (.lit (.int .i64 i3)), .f (.lit (.int .i64 i4)), .own [.str, .str, .str, .int .i64, .int .i64, .int .i64, .int .i64, .str] r5, .undef, .undef, .undef] => Lp155_5 m (fun i9 r10 => k (Ex.exit (2 : Nat)) (W20 n0 i1 i2 i3 i9 r10)) n0 i1 i2 i3 m i4 r5
 | _ => L R 155 5 vs k

theorem stLp155_5 (m n : Nat) (R : Type) (n0 : Nat) (i1 i2 i3 i4 : Int) (r5 : Abs.Rows) (k : Ex → List V → Option R) : codeK Tryz.prog H (T17 m) 155 (L6 m) 6 (loopBody Tryz.prog 155 5) (mkEnv [0, 1, 2, 3, 8, 9, 53, 54, 55, 56] (W20 n0 i1 i2 i3 i4 r5) 0 (H.len 155)) (fun e env' => match e with | .normal => ELp155_5 m R n (vals [0, 1, 2, 3, 8, 9, 53, 54, 55, 56] env') k | e => k e (vals [0, 1, 2, 3, 8, 9, 53, 54, 55, 56] env')) = Lp155_5_step m (fun i9 r10 => k (Ex.exit (2 : Nat)) (W20 n0 i1 i2 i3 i9 r10)) n0 i1 i2 i3 (fun i4 r5 => ELp155_5 m R n (W20 n0 i1 i2 i3 i4 r5) k) i4 r5 := by kernel_rfl
theorem eqLp155_5 (m : Nat) (R : Type) (n0 : Nat) (i1 i2 i3 : Int) (k : Ex → List V → Option R) : ∀ (n : Nat) (i4 : Int) (r5 : Abs.Rows), ELp155_5 m R n (W20 n0 i1 i2 i3 i4 r5) k = Lp155_5 m (fun i9 r10 => k (Ex.exit (2 : Nat)) (W20 n0 i1 i2 i3 i9 r10)) n0 i1 i2 i3 n i4 r5
 | 0, _, _ => rfl
 | n + 1, i4, r5 => by
  simp only [ELp155_5, Lp155_5, W20]
  congr 1
  funext i4 r5
  exact eqLp155_5 m R n0 i1 i2 i3 k n i4 r5
noncomputable def L7 (m : Nat) : LTbl := addB 155 5 (brLp155_5 m (L6 m)) (L6 m)
theorem okL7 (m : Nat) : LTOk Tryz.prog H (L7 m) := addB_ok (okT17 m) hM (okL6 m) (l := [0, 1, 2, 3, 8, 9, 53, 54, 55, 56]) (by kernel_rfl) (by kernel_rfl) m (fun R n vs k => ELp155_5 m R n vs k) (fun R vs k => rfl) (fun R n vs k x h => by
   simp only [ELp155_5] at h
   split at h
   ·exact (stLp155_5 m n R _ _ _ _ _ _ k).trans h
   ·cases h) fun R vs k x h => by
  unfold brLp155_5 at h
  split at h
  ·exact .inl ((eqLp155_5 m R _ _ _ _ k m _ _).trans h)
  ·exact .inr h

abbrev W21 (a0 : Nat) (a1 a2 a3 : Int) (a4 : Abs.Rows) : List V := [.lent { slot := (53 : Nat), leaf := none } 8 a0, .f (.lit (.int .i64 a1)), .f (.lit (.int .i64 a2)), .clos 73 [], .f (.lit (.int .i64 a3)), .own J2 a4, .undef, .undef, .undef]
/-- - -/
noncomputable def Lp155_1_step {R : Type} (m : Nat) (kx0 : Int → Abs.Rows → Option R) (n0 : Nat) (i1 i2 : Int) (REC : Int → Abs.Rows → Option R) (i3 : Int) (r4 : Abs.Rows) : Option R :=
 bif decide (i3 < i2) then (Lp155_5 m (fun i5 r6 => REC (IntKind.wrap IntKind.i64 (i3 + (1 : Int))) r6) n0 i1 i2 i3 m i3 r4) else
 (kx0 i3 r4)
noncomputable def Lp155_1 {R : Type} (m : Nat) (kx0 : Int → Abs.Rows → Option R) (n0 : Nat) (i1 i2 : Int) : Nat → Int → Abs.Rows → Option R
 | 0, _, _ => none
 | n + 1, i3, r4 => Lp155_1_step m kx0 n0 i1 i2 (Lp155_1 m kx0 n0 i1 i2 n) i3 r4
noncomputable def ELp155_1 (m : Nat) (R : Type) : Nat → List V → (Ex → List V → Option R) → Option R
 | 0, _, _ => none
 | n + 1, vs, k => match vs with
  | [.lent { slot := (53 : Nat), leaf := none } 8 n0, .f (.lit (.int .i64 i1)), .f (.lit (.int .i64 i2)), .clos 73 [], .f (.lit (.int .i64 i3)), .own [.str, .str, .str, .int .i64, .int .i64, .int .i64, .int .i64, .str] r4, .undef, .undef, .undef] => Lp155_1_step m (fun i7 r8 => k (Ex.exit (0 : Nat)) (W21 n0 i1 i2 i7 r8)) n0 i1 i2 (fun i3 r4 => ELp155_1 m R n (W21 n0 i1 i2 i3 r4) k) i3 r4
  | _ => none
noncomputable def brLp155_1 (m : Nat) (L : LTbl) (R : Type) (vs : List V) (k : Ex → List V → Option R) : Option R := match vs with
 | [.lent { slot := (53 : Nat), leaf := none } 8 n0, .f (.lit (.int .i64 i1)), .f (.lit (.int .i64 i2)), .clos 73 [], .f (.lit (.int .i64 i3)), .own [.str, .str, .str, .int .i64, .int .i64, .int .i64, .int .i64, .str] r4, .undef, .undef, .undef] => Lp155_1 m (fun i7 r8 => k (Ex.exit (0 : Nat)) (W21 n0 i1 i2 i7 r8)) n0 i1 i2 m i3 r4
 | _ => L R 155 1 vs k

theorem stLp155_1 (m n : Nat) (R : Type) (n0 : Nat) (i1 i2 i3 : Int) (r4 : Abs.Rows) (k : Ex → List V → Option R) : codeK Tryz.prog H (T17 m) 155 (L7 m) 2 (loopBody Tryz.prog 155 1) (mkEnv [0, 1, 2, 3, 8, 53, 54, 55, 56] (W21 n0 i1 i2 i3 r4) 0 (H.len 155)) (fun e env' => match e with | .normal => ELp155_1 m R n (vals [0, 1, 2, 3, 8, 53, 54, 55, 56] env') k | e => k e (vals [0, 1, 2, 3, 8, 53, 54, 55, 56] env')) = Lp155_1_step m (fun i7 r8 => k (Ex.exit (0 : Nat)) (W21 n0 i1 i2 i7 r8)) n0 i1 i2 (fun i3 r4 => ELp155_1 m R n (W21 n0 i1 i2 i3 r4) k) i3 r4 := by kernel_rfl
theorem eqLp155_1 (m : Nat) (R : Type) (n0 : Nat) (i1 i2 : Int) (k : Ex → List V → Option R) : ∀ (n : Nat) (i3 : Int) (r4 : Abs.Rows), ELp155_1 m R n (W21 n0 i1 i2 i3 r4) k = Lp155_1 m (fun i7 r8 => k (Ex.exit (0 : Nat)) (W21 n0 i1 i2 i7 r8)) n0 i1 i2 n i3 r4
 | 0, _, _ => rfl
 | n + 1, i3, r4 => by
  simp only [ELp155_1, Lp155_1, W21]
  congr 1
  funext i3 r4
  exact eqLp155_1 m R n0 i1 i2 k n i3 r4
noncomputable def L8 (m : Nat) : LTbl := addB 155 1 (brLp155_1 m (L7 m)) (L7 m)
theorem okL8 (m : Nat) : LTOk Tryz.prog H (L8 m) := addB_ok (okT17 m) hM (okL7 m) (l := [0, 1, 2, 3, 8, 53, 54, 55, 56]) (by kernel_rfl) (by kernel_rfl) m (fun R n vs k => ELp155_1 m R n vs k) (fun R vs k => rfl) (fun R n vs k x h => by
   simp only [ELp155_1] at h
   split at h
   ·exact (stLp155_1 m n R _ _ _ _ _ k).trans h
   ·cases h) fun R vs k x h => by
  unfold brLp155_1 at h
  split at h
  ·exact .inl ((eqLp155_1 m R _ _ _ k m _ _).trans h)
  ·exact .inr h

abbrev W22 (a0 : Abs.Rows) : List V := [.own J2 a0, .undef, .undef, .undef]
abbrev W23 (a0 : Abs.Rows) (a1 a2 : Int) : List V := [.own J2 a0, .f (.lit (.int .i64 a1)), .f (.lit (.int .i64 a2)), .clos 73 []]
/-- - -/
noncomputable def Fn155 {R : Type} (m : Nat) : Abs.Rows → Int → Int → (Abs.Rows → Option R) → Option R := match m with
 | 0 => fun _ _ _ _ => none
 | m + 1 => fun r0 i1 i2 k =>
 Lp155_1 m (fun i3 r4 => k r4) (List.length r0) i1 i2 m (IntKind.wrap IntKind.i64 (i1 + (1 : Int))) r0
noncomputable def brFn155 (m : Nat) (T : Tbl) (R : Type) (vs : List V) (k : V → List V → Option R) : Option R := match vs with
 | [.own [.str, .str, .str, .int .i64, .int .i64, .int .i64, .int .i64, .str] r0, .f (.lit (.int .i64 i1)), .f (.lit (.int .i64 i2)), .clos 73 []] => Fn155 m r0 i1 i2 (fun r5 => k (V.tup []) (W22 r5))
 | _ => T R 155 vs k

theorem evFn155 (m : Nat) (R : Type) (r0 : Abs.Rows) (i1 i2 : Int) (k : V → List V → Option R) : runK Tryz.prog H (T17 m) (L8 m) 155 (W23 r0 i1 i2) k = Fn155 (m + 1) r0 i1 i2 (fun r5 => k (V.tup []) (W22 r5)) := by kernel_rfl
noncomputable def T18 (m : Nat) : Tbl := addT 155 (brFn155 m (T17 m)) (T17 m)
theorem okT18 (m : Nat) : TblOk Tryz.prog (T18 m) := addT_ok (okT17 m) fun R vs k x h => by
 unfold brFn155 at h
 split at h
 ·cases m with
  | zero => cases h
  | succ m => exact runK_some (okT17 m) hM (okL8 m) ((evFn155 m R _ _ _ k).trans h)
 ·exact okT17 m R 155 _ k x h

abbrev W24 (a0 : Nat) (a1 a2 a3 a4 : Int) (a5 : Abs.Rows) : List V := [.lent { slot := (63 : Nat), leaf := none } 8 a0, .f (.lit (.int .i64 a1)), .clos 73 [], .f (.lit (.int .i64 a2)), .f (.lit (.int .i64 a3)), .f (.lit (.int .i64 a4)), .own J2 a5, .undef, .undef]
/-- - -/
noncomputable def Lp128_2_step {R : Type} (m : Nat) (kx0 : Int → Int → Abs.Rows → Option R) (n0 : Nat) (i1 i2 : Int) (REC : Int → Int → Abs.Rows → Option R) (i3 i4 : Int) (r5 : Abs.Rows) : Option R :=
 bif decide (i4 ≤ i1) then (Fn155 m r5 i3 i4 (fun r6 => REC i4 (IntKind.wrap IntKind.i64 (i4 + i2)) r6)) else
 (kx0 i3 i4 r5)
noncomputable def Lp128_2 {R : Type} (m : Nat) (kx0 : Int → Int → Abs.Rows → Option R) (n0 : Nat) (i1 i2 : Int) : Nat → Int → Int → Abs.Rows → Option R
 | 0, _, _, _ => none
 | n + 1, i3, i4, r5 => Lp128_2_step m kx0 n0 i1 i2 (Lp128_2 m kx0 n0 i1 i2 n) i3 i4 r5
noncomputable def ELp128_2 (m : Nat) (R : Type) : Nat → List V → (Ex → List V → Option R) → Option R
 | 0, _, _ => none
 | n + 1, vs, k => match vs with
  | [.lent { slot := (63 : Nat), leaf := none } 8 n0, .f (.lit (.int .i64 i1)), .clos 73 [], .f (.lit (.int .i64 i2)), .f (.lit (.int .i64 i3)), .f (.lit (.int .i64 i4)), .own [.str, .str, .str, .int .i64, .int .i64, .int .i64, .int .i64, .str] r5, .undef, .undef] => Lp128_2_step m (fun i7 i8 r9 => k (Ex.exit (0 : Nat)) (W24 n0 i1 i2 i7 i8 r9)) n0 i1 i2 (fun i3 i4 r5 => ELp128_2 m R n (W24 n0 i1 i2 i3 i4 r5) k) i3 i4 r5
  | _ => none
noncomputable def brLp128_2 (m : Nat) (L : LTbl) (R : Type) (vs : List V) (k : Ex → List V → Option R) : Option R := match vs with
 | [.lent { slot := (63 : Nat), leaf := none } 8 n0, .f (.lit (.int .i64 i1)), .clos 73 [], .f (.lit (.int .i64 i2)), .f (.lit (.int .i64 i3)), .f (.lit (.int .i64 i4)), .own [.str, .str, .str, .int .i64, .int .i64, .int .i64, .int .i64, .str] r5, .undef, .undef] => Lp128_2 m (fun i7 i8 r9 => k (Ex.exit (0 : Nat)) (W24 n0 i1 i2 i7 i8 r9)) n0 i1 i2 m i3 i4 r5
 | _ => L R 128 2 vs k

theorem stLp128_2 (m n : Nat) (R : Type) (n0 : Nat) (i1 i2 i3 i4 : Int) (r5 : Abs.Rows) (k : Ex → List V → Option R) : codeK Tryz.prog H (T18 m) 128 (L8 m) 3 (loopBody Tryz.prog 128 2) (mkEnv [0, 1, 2, 6, 7, 8, 63, 64, 65] (W24 n0 i1 i2 i3 i4 r5) 0 (H.len 128)) (fun e env' => match e with | .normal => ELp128_2 m R n (vals [0, 1, 2, 6, 7, 8, 63, 64, 65] env') k | e => k e (vals [0, 1, 2, 6, 7, 8, 63, 64, 65] env')) = Lp128_2_step m (fun i7 i8 r9 => k (Ex.exit (0 : Nat)) (W24 n0 i1 i2 i7 i8 r9)) n0 i1 i2 (fun i3 i4 r5 => ELp128_2 m R n (W24 n0 i1 i2 i3 i4 r5) k) i3 i4 r5 := by kernel_rfl
theorem eqLp128_2 (m : Nat) (R : Type) (n0 : Nat) (i1 i2 : Int) (k : Ex → List V → Option R) : ∀ (n : Nat) (i3 i4 : Int) (r5 : Abs.Rows), ELp128_2 m R n (W24 n0 i1 i2 i3 i4 r5) k = Lp128_2 m (fun i7 i8 r9 => k (Ex.exit (0 : Nat)) (W24 n0 i1 i2 i7 i8 r9)) n0 i1 i2 n i3 i4 r5
 | 0, _, _, _ => rfl
 | n + 1, i3, i4, r5 => by
  simp only [ELp128_2, Lp128_2, W24]
  congr 1
  funext i3 i4 r5
  exact eqLp128_2 m R n0 i1 i2 k n i3 i4 r5
noncomputable def L9 (m : Nat) : LTbl := addB 128 2 (brLp128_2 m (L8 m)) (L8 m)
theorem okL9 (m : Nat) : LTOk Tryz.prog H (L9 m) := addB_ok (okT18 m) hM (okL8 m) (l := [0, 1, 2, 6, 7, 8, 63, 64, 65]) (by kernel_rfl) (by kernel_rfl) m (fun R n vs k => ELp128_2 m R n vs k) (fun R vs k => rfl) (fun R n vs k x h => by
   simp only [ELp128_2] at h
   split at h
   ·exact (stLp128_2 m n R _ _ _ _ _ _ k).trans h
   ·cases h) fun R vs k x h => by
  unfold brLp128_2 at h
  split at h
  ·exact .inl ((eqLp128_2 m R _ _ _ k m _ _ _).trans h)
  ·exact .inr h

/-- - -/
noncomputable def Lp128_13_step {R : Type} (m : Nat) (kx0 : Option R) (n0 : Nat) (i1 i2 i3 i4 : Int) (r5 : Abs.Rows) (REC : Option R)  : Option R :=
 bif decide (i4 ≤ i1) then (none) else
 (kx0 )
noncomputable def Lp128_13 {R : Type} (m : Nat) (kx0 : Option R) (n0 : Nat) (i1 i2 i3 i4 : Int) (r5 : Abs.Rows) : Nat → Option R
 | 0 => none
 | n + 1 => Lp128_13_step m kx0 n0 i1 i2 i3 i4 r5 (Lp128_13 m kx0 n0 i1 i2 i3 i4 r5 n) 
noncomputable def ELp128_13 (m : Nat) (R : Type) : Nat → List V → (Ex → List V → Option R) → Option R
 | 0, _, _ => none
 | n + 1, vs, k => match vs with
  | [.lent { slot := (63 : Nat), leaf := none } 8 n0, .f (.lit (.int .i64 i1)), .clos 73 [], .f (.lit (.int .i64 i2)), .f (.lit (.int .i64 i3)), .f (.lit (.int .i64 i4)), .own [.str, .str, .str, .int .i64, .int .i64, .int .i64, .int .i64, .str] r5, .undef, .undef] => Lp128_13_step m (k (Ex.exit (4 : Nat)) (W24 n0 i1 i2 i3 i4 r5)) n0 i1 i2 i3 i4 r5 (ELp128_13 m R n (W24 n0 i1 i2 i3 i4 r5) k) 
  | _ => none
noncomputable def brLp128_13 (m : Nat) (L : LTbl) (R : Type) (vs : List V) (k : Ex → List V → Option R) : Option R := match vs with
 | [.lent { slot := (63 : Nat), leaf := none } 8 n0, .f (.lit (.int .i64 i1)), .clos 73 [], .f (.lit (.int .i64 i2)), .f (.lit (.int .i64 i3)), .f (.lit (.int .i64 i4)), .own [.str, .str, .str, .int .i64, .int .i64, .int .i64, .int .i64, .str] r5, .undef, .undef] => Lp128_13 m (k (Ex.exit (4 : Nat)) (W24 n0 i1 i2 i3 i4 r5)) n0 i1 i2 i3 i4 r5 m 
 | _ => L R 128 13 vs k

theorem stLp128_13 (m n : Nat) (R : Type) (n0 : Nat) (i1 i2 i3 i4 : Int) (r5 : Abs.Rows) (k : Ex → List V → Option R) : codeK Tryz.prog H (T18 m) 128 (L9 m) 14 (loopBody Tryz.prog 128 13) (mkEnv [0, 1, 2, 6, 7, 8, 63, 64, 65] (W24 n0 i1 i2 i3 i4 r5) 0 (H.len 128)) (fun e env' => match e with | .normal => ELp128_13 m R n (vals [0, 1, 2, 6, 7, 8, 63, 64, 65] env') k | e => k e (vals [0, 1, 2, 6, 7, 8, 63, 64, 65] env')) = Lp128_13_step m (k (Ex.exit (4 : Nat)) (W24 n0 i1 i2 i3 i4 r5)) n0 i1 i2 i3 i4 r5 (ELp128_13 m R n (W24 n0 i1 i2 i3 i4 r5) k)  := by kernel_rfl
theorem eqLp128_13 (m : Nat) (R : Type) (n0 : Nat) (i1 i2 i3 i4 : Int) (r5 : Abs.Rows) (k : Ex → List V → Option R) : ∀ (n : Nat) , ELp128_13 m R n (W24 n0 i1 i2 i3 i4 r5) k = Lp128_13 m (k (Ex.exit (4 : Nat)) (W24 n0 i1 i2 i3 i4 r5)) n0 i1 i2 i3 i4 r5 n 
 | 0 => rfl
 | n + 1 => by
  simp only [ELp128_13, Lp128_13, W24]
  congr 1
  funext 
  exact eqLp128_13 m R n0 i1 i2 i3 i4 r5 k n 
noncomputable def L10 (m : Nat) : LTbl := addB 128 13 (brLp128_13 m (L9 m)) (L9 m)
theorem okL10 (m : Nat) : LTOk Tryz.prog H (L10 m) := addB_ok (okT18 m) hM (okL9 m) (l := [0, 1, 2, 6, 7, 8, 63, 64, 65]) (by kernel_rfl) (by kernel_rfl) m (fun R n vs k => ELp128_13 m R n vs k) (fun R vs k => rfl) (fun R n vs k x h => by
   simp only [ELp128_13] at h
   split at h
   ·exact (stLp128_13 m n R _ _ _ _ _ _ k).trans h
   ·cases h) fun R vs k x h => by
  unfold brLp128_13 at h
  split at h
  ·exact .inl ((eqLp128_13 m R _ _ _ _ _ _ k m).trans h)
  ·exact .inr h

abbrev W25 (a0 : Nat) (a1 a2 : Int) (a3 : Abs.Rows) : List V := [.lent { slot := (63 : Nat), leaf := none } 8 a0, .f (.lit (.int .i64 a1)), .clos 73 [], .f (.lit (.int .i64 a2)), .own J2 a3, .undef, .undef]
/-- - -/
noncomputable def Lp128_9_step {R : Type} (m : Nat) (kx0 : Int → Option R) (n0 : Nat) (i1 : Int) (r2 : Abs.Rows) (REC : Int → Option R) (i3 : Int) : Option R :=
 bif decide (i3 < i1) then (Lp128_13 m (bif decide (IntKind.wrap IntKind.i64 ((0 : Int) + i3) < i1) then (none) else
 (REC (IntKind.wrap IntKind.i64 (i3 * (2 : Int))))) n0 i1 i3 ((0 : Int)) (IntKind.wrap IntKind.i64 ((2 : Int) * i3)) r2 m ) else
 (kx0 i3)
noncomputable def Lp128_9 {R : Type} (m : Nat) (kx0 : Int → Option R) (n0 : Nat) (i1 : Int) (r2 : Abs.Rows) : Nat → Int → Option R
 | 0, _ => none
 | n + 1, i3 => Lp128_9_step m kx0 n0 i1 r2 (Lp128_9 m kx0 n0 i1 r2 n) i3
noncomputable def ELp128_9 (m : Nat) (R : Type) : Nat → List V → (Ex → List V → Option R) → Option R
 | 0, _, _ => none
 | n + 1, vs, k => match vs with
  | [.lent { slot := (63 : Nat), leaf := none } 8 n0, .f (.lit (.int .i64 i1)), .clos 73 [], .f (.lit (.int .i64 i3)), .own [.str, .str, .str, .int .i64, .int .i64, .int .i64, .int .i64, .str] r2, .undef, .undef] => Lp128_9_step m (fun i4 => k (Ex.exit (2 : Nat)) (W25 n0 i1 i4 r2)) n0 i1 r2 (fun i3 => ELp128_9 m R n (W25 n0 i1 i3 r2) k) i3
  | _ => none
noncomputable def brLp128_9 (m : Nat) (L : LTbl) (R : Type) (vs : List V) (k : Ex → List V → Option R) : Option R := match vs with
 | [.lent { slot := (63 : Nat), leaf := none } 8 n0, .f (.lit (.int .i64 i1)), .clos 73 [], .f (.lit (.int .i64 i3)), .own [.str, .str, .str, .int .i64, .int .i64, .int .i64, .int .i64, .str] r2, .undef, .undef] => Lp128_9 m (fun i4 => k (Ex.exit (2 : Nat)) (W25 n0 i1 i4 r2)) n0 i1 r2 m i3
 | _ => L R 128 9 vs k

theorem stLp128_9 (m n : Nat) (R : Type) (n0 : Nat) (i1 i3 : Int) (r2 : Abs.Rows) (k : Ex → List V → Option R) : codeK Tryz.prog H (T18 m) 128 (L10 m) 10 (loopBody Tryz.prog 128 9) (mkEnv [0, 1, 2, 6, 63, 64, 65] (W25 n0 i1 i3 r2) 0 (H.len 128)) (fun e env' => match e with | .normal => ELp128_9 m R n (vals [0, 1, 2, 6, 63, 64, 65] env') k | e => k e (vals [0, 1, 2, 6, 63, 64, 65] env')) = Lp128_9_step m (fun i4 => k (Ex.exit (2 : Nat)) (W25 n0 i1 i4 r2)) n0 i1 r2 (fun i3 => ELp128_9 m R n (W25 n0 i1 i3 r2) k) i3 := by kernel_rfl
theorem eqLp128_9 (m : Nat) (R : Type) (n0 : Nat) (i1 : Int) (r2 : Abs.Rows) (k : Ex → List V → Option R) : ∀ (n : Nat) (i3 : Int), ELp128_9 m R n (W25 n0 i1 i3 r2) k = Lp128_9 m (fun i4 => k (Ex.exit (2 : Nat)) (W25 n0 i1 i4 r2)) n0 i1 r2 n i3
 | 0, _ => rfl
 | n + 1, i3 => by
  simp only [ELp128_9, Lp128_9, W25]
  congr 1
  funext i3
  exact eqLp128_9 m R n0 i1 r2 k n i3
noncomputable def L11 (m : Nat) : LTbl := addB 128 9 (brLp128_9 m (L10 m)) (L10 m)
theorem okL11 (m : Nat) : LTOk Tryz.prog H (L11 m) := addB_ok (okT18 m) hM (okL10 m) (l := [0, 1, 2, 6, 63, 64, 65]) (by kernel_rfl) (by kernel_rfl) m (fun R n vs k => ELp128_9 m R n vs k) (fun R vs k => rfl) (fun R n vs k x h => by
   simp only [ELp128_9] at h
   split at h
   ·exact (stLp128_9 m n R _ _ _ _ k).trans h
   ·cases h) fun R vs k x h => by
  unfold brLp128_9 at h
  split at h
  ·exact .inl ((eqLp128_9 m R _ _ _ k m _).trans h)
  ·exact .inr h

abbrev W26 (a0 : Abs.Rows) : List V := [.own J2 a0, .undef, .undef]
abbrev W27 (a0 : Abs.Rows) (a1 : Int) : List V := [.own J2 a0, .f (.lit (.int .i64 a1)), .clos 73 []]
/-- - -/
noncomputable def Fn128 {R : Type} (m : Nat) : Abs.Rows → Int → (Abs.Rows → Option R) → Option R := match m with
 | 0 => fun _ _ _ => none
 | m + 1 => fun r0 i1 k =>
 Lp128_2 m (fun i2 i3 r4 => Fn155 m r4 i2 i1 (fun r5 => Lp128_9 m (fun i6 => k r5) (List.length r0) i1 r5 m ((20 : Int)))) (List.length r0) i1 ((20 : Int)) m ((0 : Int)) ((20 : Int)) r0
noncomputable def brFn128 (m : Nat) (T : Tbl) (R : Type) (vs : List V) (k : V → List V → Option R) : Option R := match vs with
 | [.own [.str, .str, .str, .int .i64, .int .i64, .int .i64, .int .i64, .str] r0, .f (.lit (.int .i64 i1)), .clos 73 []] => Fn128 m r0 i1 (fun r7 => k (V.tup []) (W26 r7))
 | _ => T R 128 vs k

theorem evFn128 (m : Nat) (R : Type) (r0 : Abs.Rows) (i1 : Int) (k : V → List V → Option R) : runK Tryz.prog H (T18 m) (L11 m) 128 (W27 r0 i1) k = Fn128 (m + 1) r0 i1 (fun r7 => k (V.tup []) (W26 r7)) := by kernel_rfl
noncomputable def T19 (m : Nat) : Tbl := addT 128 (brFn128 m (T18 m)) (T18 m)
theorem okT19 (m : Nat) : TblOk Tryz.prog (T19 m) := addT_ok (okT18 m) fun R vs k x h => by
 unfold brFn128 at h
 split at h
 ·cases m with
  | zero => cases h
  | succ m => exact runK_some (okT18 m) hM (okL11 m) ((evFn128 m R _ _ k).trans h)
 ·exact okT18 m R 128 _ k x h

abbrev W28 (a0 : Abs.Rows) : List V := [.own J2 a0, .undef]
abbrev W29 (a0 : Abs.Rows) : List V := [.own J2 a0, .clos 73 []]
/-- - -/
noncomputable def Fn98 {R : Type} (m : Nat) : Abs.Rows → (Abs.Rows → Option R) → Option R := match m with
 | 0 => fun _ _ => none
 | m + 1 => fun r0 k =>
 Fn128 m r0 ((↑(List.length r0) : Int)) (fun r1 => k r1)
noncomputable def brFn98 (m : Nat) (T : Tbl) (R : Type) (vs : List V) (k : V → List V → Option R) : Option R := match vs with
 | [.own [.str, .str, .str, .int .i64, .int .i64, .int .i64, .int .i64, .str] r0, .clos 73 []] => Fn98 m r0 (fun r2 => k (V.tup []) (W28 r2))
 | _ => T R 98 vs k

theorem evFn98 (m : Nat) (R : Type) (r0 : Abs.Rows) (k : V → List V → Option R) : runK Tryz.prog H (T19 m) (L11 m) 98 (W29 r0) k = Fn98 (m + 1) r0 (fun r2 => k (V.tup []) (W28 r2)) := by kernel_rfl
noncomputable def T20 (m : Nat) : Tbl := addT 98 (brFn98 m (T19 m)) (T19 m)
theorem okT20 (m : Nat) : TblOk Tryz.prog (T20 m) := addT_ok (okT19 m) fun R vs k x h => by
 unfold brFn98 at h
 split at h
 ·cases m with
  | zero => cases h
  | succ m => exact runK_some (okT19 m) hM (okL11 m) ((evFn98 m R _ k).trans h)
 ·exact okT19 m R 98 _ k x h

/-- - -/
noncomputable def Fn43 {R : Type} (m : Nat) : Abs.Rows → Int → Int → (Abs.Rows → Int → Option R) → Option R := match m with
 | 0 => fun _ _ _ _ => none
 | m + 1 => fun r0 i1 i2 k =>
 Lp43_4 m (fun r3 i4 i5 i6 => Fn98 m r3 (fun r7 => k r7 i6)) i2 r0 m rows0 ((0 : Int)) ((0 : Int)) i1
noncomputable def brFn43 (m : Nat) (T : Tbl) (R : Type) (vs : List V) (k : V → List V → Option R) : Option R := match vs with
 | [.obj [.f (.lst [.int .i64] r0), .f (.lit (.int .i64 i1))], .f (.lit (.int .i64 i2))] => Fn43 m r0 i1 i2 (fun r8 i9 => k (V.own [LT.str, LT.str, LT.str, LT.int IntKind.i64, LT.int IntKind.i64, LT.int IntKind.i64, LT.int IntKind.i64, LT.str] r8) (W3 r0 i9))
 | _ => T R 43 vs k

theorem evFn43 (m : Nat) (R : Type) (r0 : Abs.Rows) (i1 i2 : Int) (k : V → List V → Option R) : runK Tryz.prog H (T20 m) (L11 m) 43 (W4 r0 i1 i2) k = Fn43 (m + 1) r0 i1 i2 (fun r8 i9 => k (V.own [LT.str, LT.str, LT.str, LT.int IntKind.i64, LT.int IntKind.i64, LT.int IntKind.i64, LT.int IntKind.i64, LT.str] r8) (W3 r0 i9)) := by kernel_rfl
noncomputable def T21 (m : Nat) : Tbl := addT 43 (brFn43 m (T20 m)) (T20 m)
theorem okT21 (m : Nat) : TblOk Tryz.prog (T21 m) := addT_ok (okT20 m) fun R vs k x h => by
 unfold brFn43 at h
 split at h
 ·cases m with
  | zero => cases h
  | succ m => exact runK_some (okT20 m) hM (okL11 m) ((evFn43 m R _ _ _ k).trans h)
 ·exact okT20 m R 43 _ k x h

abbrev W30 (a0 a1 : ByteArray) : List V := [.f (.lit (.string a0)), .f (.lit (.string a1))]
/-- - -/
noncomputable def Fn134 {R : Type} (m : Nat) : ByteArray → ByteArray → (Bool → Option R) → Option R := match m with
 | 0 => fun _ _ _ => none
 | m + 1 => fun s0 s1 k =>
 bif decide ((↑(ByteArray.size s0) : Int) ≥ (↑(ByteArray.size s1) : Int)) then (bif decide ((0 : Int) ≤ (↑(ByteArray.size s1) : Int) ∧ (↑(ByteArray.size s1) : Int) ≤ (↑(ByteArray.size s0) : Int)) then (k (ByteArray.toList (ByteArray.extract s0 (0 : Nat) (Int.toNat (↑(ByteArray.size s1) : Int))) == ByteArray.toList s1)) else
 (none)) else
 (k false)
noncomputable def brFn134 (m : Nat) (T : Tbl) (R : Type) (vs : List V) (k : V → List V → Option R) : Option R := match vs with
 | [.f (.lit (.string s0)), .f (.lit (.string s1))] => Fn134 m s0 s1 (fun b2 => k (V.f (F.lit (Value.bool b2))) W1)
 | _ => T R 134 vs k

theorem evFn134 (m : Nat) (R : Type) (s0 s1 : ByteArray) (k : V → List V → Option R) : runK Tryz.prog H (T21 m) (L11 m) 134 (W30 s0 s1) k = Fn134 (m + 1) s0 s1 (fun b2 => k (V.f (F.lit (Value.bool b2))) W1) := by kernel_rfl
noncomputable def T22 (m : Nat) : Tbl := addT 134 (brFn134 m (T21 m)) (T21 m)
theorem okT22 (m : Nat) : TblOk Tryz.prog (T22 m) := addT_ok (okT21 m) fun R vs k x h => by
 unfold brFn134 at h
 split at h
 ·cases m with
  | zero => cases h
  | succ m => exact runK_some (okT21 m) hM (okL11 m) ((evFn134 m R _ _ k).trans h)
 ·exact okT21 m R 134 _ k x h

abbrev W31 (a0 : ByteArray) (a1 : Bool) : List V := [.f (.lit (.string a0)), .f (.lit (.bool a1))]
/-- - -/
noncomputable def Fn117 {R : Type} (m : Nat) : ByteArray → ByteArray → (ByteArray → Bool → Option R) → Option R := match m with
 | 0 => fun _ _ _ => none
 | m + 1 => fun s0 s1 k =>
 Fn134 m s0 s1 (fun b2 => bif !b2 then (k s0 false) else
 (bif decide ((0 : Int) ≤ (↑(ByteArray.size s1) : Int) ∧ (↑(ByteArray.size s1) : Int) ≤ (↑(ByteArray.size s0) : Int)) then (k (ByteArray.extract s0 (Int.toNat (↑(ByteArray.size s1) : Int)) (ByteArray.size s0)) true) else
 (none)))
noncomputable def brFn117 (m : Nat) (T : Tbl) (R : Type) (vs : List V) (k : V → List V → Option R) : Option R := match vs with
 | [.f (.lit (.string s0)), .f (.lit (.string s1))] => Fn117 m s0 s1 (fun s3 b4 => k (V.tup (W31 s3 b4)) W1)
 | _ => T R 117 vs k

theorem evFn117 (m : Nat) (R : Type) (s0 s1 : ByteArray) (k : V → List V → Option R) : runK Tryz.prog H (T22 m) (L11 m) 117 (W30 s0 s1) k = Fn117 (m + 1) s0 s1 (fun s3 b4 => k (V.tup (W31 s3 b4)) W1) := by kernel_rfl
noncomputable def T23 (m : Nat) : Tbl := addT 117 (brFn117 m (T22 m)) (T22 m)
theorem okT23 (m : Nat) : TblOk Tryz.prog (T23 m) := addT_ok (okT22 m) fun R vs k x h => by
 unfold brFn117 at h
 split at h
 ·cases m with
  | zero => cases h
  | succ m => exact runK_some (okT22 m) hM (okL11 m) ((evFn117 m R _ _ k).trans h)
 ·exact okT22 m R 117 _ k x h

/-- - -/
noncomputable def Fn68 {R : Type} (m : Nat) : ByteArray → ByteArray → (ByteArray → Bool → Option R) → Option R := match m with
 | 0 => fun _ _ _ => none
 | m + 1 => fun s0 s1 k =>
 Fn117 m s0 s1 (fun s2 b3 => k s2 b3)
noncomputable def brFn68 (m : Nat) (T : Tbl) (R : Type) (vs : List V) (k : V → List V → Option R) : Option R := match vs with
 | [.f (.lit (.string s0)), .f (.lit (.string s1))] => Fn68 m s0 s1 (fun s4 b5 => k (V.tup (W31 s4 b5)) W1)
 | _ => T R 68 vs k

theorem evFn68 (m : Nat) (R : Type) (s0 s1 : ByteArray) (k : V → List V → Option R) : runK Tryz.prog H (T23 m) (L11 m) 68 (W30 s0 s1) k = Fn68 (m + 1) s0 s1 (fun s4 b5 => k (V.tup (W31 s4 b5)) W1) := by kernel_rfl
noncomputable def T24 (m : Nat) : Tbl := addT 68 (brFn68 m (T23 m)) (T23 m)
theorem okT24 (m : Nat) : TblOk Tryz.prog (T24 m) := addT_ok (okT23 m) fun R vs k x h => by
 unfold brFn68 at h
 split at h
 ·cases m with
  | zero => cases h
  | succ m => exact runK_some (okT23 m) hM (okL11 m) ((evFn68 m R _ _ k).trans h)
 ·exact okT23 m R 68 _ k x h

abbrev W32 : List V := [.undef, .undef, .undef]
abbrev W33 (a0 a1 a2 : Int) : List V := [.f (.lit (.int .i64 a0)), .f (.lit (.int .i64 a1)), .f (.lit (.int .i64 a2))]
/-- - -/
noncomputable def Fn70 {R : Type} (m : Nat) : Int → Int → Int → (Bool → Option R) → Option R := match m with
 | 0 => fun _ _ _ _ => none
 | m + 1 => fun i0 i1 i2 k =>
 bif decide (i1 ≤ i0) then (k (decide (i0 ≤ i2))) else
 (k false)
noncomputable def brFn70 (m : Nat) (T : Tbl) (R : Type) (vs : List V) (k : V → List V → Option R) : Option R := match vs with
 | [.f (.lit (.int .i64 i0)), .f (.lit (.int .i64 i1)), .f (.lit (.int .i64 i2))] => Fn70 m i0 i1 i2 (fun b3 => k (V.f (F.lit (Value.bool b3))) W32)
 | _ => T R 70 vs k

theorem evFn70 (m : Nat) (R : Type) (i0 i1 i2 : Int) (k : V → List V → Option R) : runK Tryz.prog H (T24 m) (L11 m) 70 (W33 i0 i1 i2) k = Fn70 (m + 1) i0 i1 i2 (fun b3 => k (V.f (F.lit (Value.bool b3))) W32) := by kernel_rfl
noncomputable def T25 (m : Nat) : Tbl := addT 70 (brFn70 m (T24 m)) (T24 m)
theorem okT25 (m : Nat) : TblOk Tryz.prog (T25 m) := addT_ok (okT24 m) fun R vs k x h => by
 unfold brFn70 at h
 split at h
 ·cases m with
  | zero => cases h
  | succ m => exact runK_some (okT24 m) hM (okL11 m) ((evFn70 m R _ _ _ k).trans h)
 ·exact okT24 m R 70 _ k x h

abbrev W34 (a0 : ByteArray) (a1 : Int) : List V := [.f (.lit (.string a0)), .f (.lit (.int .u8 a1))]
/-- - -/
noncomputable def Fn135 {R : Type} (m : Nat) : ByteArray → Int → (Int → Option R) → Option R := match m with
 | 0 => fun _ _ _ => none
 | m + 1 => fun s0 i1 k =>
 k (idxByte s0 i1)
noncomputable def brFn135 (m : Nat) (T : Tbl) (R : Type) (vs : List V) (k : V → List V → Option R) : Option R := match vs with
 | [.f (.lit (.string s0)), .f (.lit (.int .u8 i1))] => Fn135 m s0 i1 (fun i2 => k (V.f (F.lit (Value.int IntKind.i64 i2))) W1)
 | _ => T R 135 vs k

theorem evFn135 (m : Nat) (R : Type) (s0 : ByteArray) (i1 : Int) (k : V → List V → Option R) : runK Tryz.prog H (T25 m) (L11 m) 135 (W34 s0 i1) k = Fn135 (m + 1) s0 i1 (fun i2 => k (V.f (F.lit (Value.int IntKind.i64 i2))) W1) := by kernel_rfl
noncomputable def T26 (m : Nat) : Tbl := addT 135 (brFn135 m (T25 m)) (T25 m)
theorem okT26 (m : Nat) : TblOk Tryz.prog (T26 m) := addT_ok (okT25 m) fun R vs k x h => by
 unfold brFn135 at h
 split at h
 ·cases m with
  | zero => cases h
  | succ m => exact runK_some (okT25 m) hM (okL11 m) ((evFn135 m R _ _ k).trans h)
 ·exact okT25 m R 135 _ k x h

/-- - -/
noncomputable def Fn118 {R : Type} (m : Nat) : ByteArray → Int → (Int → Option R) → Option R := match m with
 | 0 => fun _ _ _ => none
 | m + 1 => fun s0 i1 k =>
 Fn135 m s0 i1 (fun i2 => k i2)
noncomputable def brFn118 (m : Nat) (T : Tbl) (R : Type) (vs : List V) (k : V → List V → Option R) : Option R := match vs with
 | [.f (.lit (.string s0)), .f (.lit (.int .u8 i1))] => Fn118 m s0 i1 (fun i3 => k (V.f (F.lit (Value.int IntKind.i64 i3))) W1)
 | _ => T R 118 vs k

theorem evFn118 (m : Nat) (R : Type) (s0 : ByteArray) (i1 : Int) (k : V → List V → Option R) : runK Tryz.prog H (T26 m) (L11 m) 118 (W34 s0 i1) k = Fn118 (m + 1) s0 i1 (fun i3 => k (V.f (F.lit (Value.int IntKind.i64 i3))) W1) := by kernel_rfl
noncomputable def T27 (m : Nat) : Tbl := addT 118 (brFn118 m (T26 m)) (T26 m)
theorem okT27 (m : Nat) : TblOk Tryz.prog (T27 m) := addT_ok (okT26 m) fun R vs k x h => by
 unfold brFn118 at h
 split at h
 ·cases m with
  | zero => cases h
  | succ m => exact runK_some (okT26 m) hM (okL11 m) ((evFn118 m R _ _ k).trans h)
 ·exact okT26 m R 118 _ k x h

abbrev W35 (a0 a1 : ByteArray) (a2 : Bool) (a3 a4 : Int) : List V := [.f (.lit (.string a0)), .f (.lit (.string a1)), .f (.lit (.bool a2)), .f (.lit (.int .i64 a3)), .f (.lit (.int .i64 a4)), .undef, .undef]
/-- - -/
noncomputable def Lp69_2_step {R : Type} (m : Nat) (kx0 : Bool → Int → Option R) (kx1 : Int → Option R) (s0 s1 : ByteArray) (b2 : Bool) (i3 : Int) (REC : Int → Option R) (i4 : Int) : Option R :=
 bif decide (i4 < i3) then (bif decide ((0 : Int) ≤ i4 ∧ i4 < (↑(ByteArray.size s0) : Int)) then (Fn118 m s1 ((↑(UInt8.toNat (Array.getD (ByteArray.data s0) (Int.toNat i4) (0 : UInt8))) : Int)) (fun i5 => bif decide (i5 < (0 : Int)) then (kx0 false i4) else
 (REC (IntKind.wrap IntKind.i64 (i4 + (1 : Int)))))) else
 (none)) else
 (kx1 i4)
noncomputable def Lp69_2 {R : Type} (m : Nat) (kx0 : Bool → Int → Option R) (kx1 : Int → Option R) (s0 s1 : ByteArray) (b2 : Bool) (i3 : Int) : Nat → Int → Option R
 | 0, _ => none
 | n + 1, i4 => Lp69_2_step m kx0 kx1 s0 s1 b2 i3 (Lp69_2 m kx0 kx1 s0 s1 b2 i3 n) i4
noncomputable def ELp69_2 (m : Nat) (R : Type) : Nat → List V → (Ex → List V → Option R) → Option R
 | 0, _, _ => none
 | n + 1, vs, k => match vs with
  | [.f (.lit (.string s0)), .f (.lit (.string s1)), .f (.lit (.bool b2)), .f (.lit (.int .i64 i3)), .f (.lit (.int .i64 i4)), .undef, .undef] => Lp69_2_step m (fun b6 i7 => k Ex.ret (W35 s0 s1 b6 i3 i7)) (fun i8 => k (Ex.exit (0 : Nat)) (W35 s0 s1 b2 i3 i8)) s0 s1 b2 i3 (fun i4 => ELp69_2 m R n (W35 s0 s1 b2 i3 i4) k) i4
  | _ => none
noncomputable def brLp69_2 (m : Nat) (L : LTbl) (R : Type) (vs : List V) (k : Ex → List V → Option R) : Option R := match vs with
 | [.f (.lit (.string s0)), .f (.lit (.string s1)), .f (.lit (.bool b2)), .f (.lit (.int .i64 i3)), .f (.lit (.int .i64 i4)), .undef, .undef] => Lp69_2 m (fun b6 i7 => k Ex.ret (W35 s0 s1 b6 i3 i7)) (fun i8 => k (Ex.exit (0 : Nat)) (W35 s0 s1 b2 i3 i8)) s0 s1 b2 i3 m i4
 | _ => L R 69 2 vs k

theorem stLp69_2 (m n : Nat) (R : Type) (s0 s1 : ByteArray) (b2 : Bool) (i3 i4 : Int) (k : Ex → List V → Option R) : codeK Tryz.prog H (T27 m) 69 (L11 m) 3 (loopBody Tryz.prog 69 2) (mkEnv [0, 1, 4, 7, 8, 18, 19] (W35 s0 s1 b2 i3 i4) 0 (H.len 69)) (fun e env' => match e with | .normal => ELp69_2 m R n (vals [0, 1, 4, 7, 8, 18, 19] env') k | e => k e (vals [0, 1, 4, 7, 8, 18, 19] env')) = Lp69_2_step m (fun b6 i7 => k Ex.ret (W35 s0 s1 b6 i3 i7)) (fun i8 => k (Ex.exit (0 : Nat)) (W35 s0 s1 b2 i3 i8)) s0 s1 b2 i3 (fun i4 => ELp69_2 m R n (W35 s0 s1 b2 i3 i4) k) i4 := by kernel_rfl
theorem eqLp69_2 (m : Nat) (R : Type) (s0 s1 : ByteArray) (b2 : Bool) (i3 : Int) (k : Ex → List V → Option R) : ∀ (n : Nat) (i4 : Int), ELp69_2 m R n (W35 s0 s1 b2 i3 i4) k = Lp69_2 m (fun b6 i7 => k Ex.ret (W35 s0 s1 b6 i3 i7)) (fun i8 => k (Ex.exit (0 : Nat)) (W35 s0 s1 b2 i3 i8)) s0 s1 b2 i3 n i4
 | 0, _ => rfl
 | n + 1, i4 => by
  simp only [ELp69_2, Lp69_2, W35]
  congr 1
  funext i4
  exact eqLp69_2 m R s0 s1 b2 i3 k n i4
noncomputable def L12 (m : Nat) : LTbl := addB 69 2 (brLp69_2 m (L11 m)) (L11 m)
theorem okL12 (m : Nat) : LTOk Tryz.prog H (L12 m) := addB_ok (okT27 m) hM (okL11 m) (l := [0, 1, 4, 7, 8, 18, 19]) (by kernel_rfl) (by kernel_rfl) m (fun R n vs k => ELp69_2 m R n vs k) (fun R vs k => rfl) (fun R n vs k x h => by
   simp only [ELp69_2] at h
   split at h
   ·exact (stLp69_2 m n R _ _ _ _ _ k).trans h
   ·cases h) fun R vs k x h => by
  unfold brLp69_2 at h
  split at h
  ·exact .inl ((eqLp69_2 m R _ _ _ _ k m _).trans h)
  ·exact .inr h

/-- - -/
noncomputable def Fn69 {R : Type} (m : Nat) : ByteArray → ByteArray → (Bool → Option R) → Option R := match m with
 | 0 => fun _ _ _ => none
 | m + 1 => fun s0 s1 k =>
 Lp69_2 m (fun b2 i3 => k b2) (fun i4 => k true) s0 s1 false ((↑(ByteArray.size s0) : Int)) m ((0 : Int))
noncomputable def brFn69 (m : Nat) (T : Tbl) (R : Type) (vs : List V) (k : V → List V → Option R) : Option R := match vs with
 | [.f (.lit (.string s0)), .f (.lit (.string s1))] => Fn69 m s0 s1 (fun b5 => k (V.f (F.lit (Value.bool b5))) W1)
 | _ => T R 69 vs k

theorem evFn69 (m : Nat) (R : Type) (s0 s1 : ByteArray) (k : V → List V → Option R) : runK Tryz.prog H (T27 m) (L12 m) 69 (W30 s0 s1) k = Fn69 (m + 1) s0 s1 (fun b5 => k (V.f (F.lit (Value.bool b5))) W1) := by kernel_rfl
noncomputable def T28 (m : Nat) : Tbl := addT 69 (brFn69 m (T27 m)) (T27 m)
theorem okT28 (m : Nat) : TblOk Tryz.prog (T28 m) := addT_ok (okT27 m) fun R vs k x h => by
 unfold brFn69 at h
 split at h
 ·cases m with
  | zero => cases h
  | succ m => exact runK_some (okT27 m) hM (okL12 m) ((evFn69 m R _ _ k).trans h)
 ·exact okT27 m R 69 _ k x h

abbrev W36 (a0 : ByteArray) : List V := [.f (.lit (.string a0))]
/-- - -/
noncomputable def Fn34 {R : Type} (m : Nat) : ByteArray → (Bool → Option R) → Option R := match m with
 | 0 => fun _ _ => none
 | m + 1 => fun s0 k =>
 Fn70 m ((↑(ByteArray.size s0) : Int)) ((1 : Int)) ((40 : Int)) (fun b1 => bif b1 then (bif decide ((0 : Int) ≤ (1 : Int) ∧ (1 : Int) ≤ (↑(ByteArray.size s0) : Int)) then (Fn69 m (ByteArray.extract s0 (0 : Nat) (Int.toNat (1 : Int))) ({ data := #[(97 : UInt8), (98 : UInt8), (99 : UInt8), (100 : UInt8), (101 : UInt8), (102 : UInt8), (103 : UInt8), (104 : UInt8), (105 : UInt8), (106 : UInt8), (107 : UInt8), (108 : UInt8), (109 : UInt8), (110 : UInt8), (111 : UInt8), (112 : UInt8), (113 : UInt8), (114 : UInt8), (115 : UInt8), (116 : UInt8), (117 : UInt8), (118 : UInt8), (119 : UInt8), (120 : UInt8), (121 : UInt8), (122 : UInt8)] }) (fun b2 => bif b2 then (Fn69 m s0 ({ data := #[(97 : UInt8), (98 : UInt8), (99 : UInt8), (100 : UInt8), (101 : UInt8), (102 : UInt8), (103 : UInt8), (104 : UInt8), (105 : UInt8), (106 : UInt8), (107 : UInt8), (108 : UInt8), (109 : UInt8), (110 : UInt8), (111 : UInt8), (112 : UInt8), (113 : UInt8), (114 : UInt8), (115 : UInt8), (116 : UInt8), (117 : UInt8), (118 : UInt8), (119 : UInt8), (120 : UInt8), (121 : UInt8), (122 : UInt8), (48 : UInt8), (49 : UInt8), (50 : UInt8), (51 : UInt8), (52 : UInt8), (53 : UInt8), (54 : UInt8), (55 : UInt8), (56 : UInt8), (57 : UInt8), (45 : UInt8), (95 : UInt8)] }) (fun b3 => k b3)) else
 (k false))) else
 (none)) else
 (k false))
noncomputable def brFn34 (m : Nat) (T : Tbl) (R : Type) (vs : List V) (k : V → List V → Option R) : Option R := match vs with
 | [.f (.lit (.string s0))] => Fn34 m s0 (fun b4 => k (V.f (F.lit (Value.bool b4))) W17)
 | _ => T R 34 vs k

theorem evFn34 (m : Nat) (R : Type) (s0 : ByteArray) (k : V → List V → Option R) : runK Tryz.prog H (T28 m) (L12 m) 34 (W36 s0) k = Fn34 (m + 1) s0 (fun b4 => k (V.f (F.lit (Value.bool b4))) W17) := by kernel_rfl
noncomputable def T29 (m : Nat) : Tbl := addT 34 (brFn34 m (T28 m)) (T28 m)
theorem okT29 (m : Nat) : TblOk Tryz.prog (T29 m) := addT_ok (okT28 m) fun R vs k x h => by
 unfold brFn34 at h
 split at h
 ·cases m with
  | zero => cases h
  | succ m => exact runK_some (okT28 m) hM (okL12 m) ((evFn34 m R _ k).trans h)
 ·exact okT28 m R 34 _ k x h

abbrev W37 (a0 : Abs.Rows) (a1 : Int) (a2 : Abs.Rows) (a3 a4 : Int) (a5 a6 : ByteArray) (a7 a8 a9 a10 : Int) (a11 : Abs.Rows) (a12 a13 : Int) (a14 : Bool) : List V := [.obj [.f (.lst J4 a0), .f (.lit (.int .i64 a1)), .f (.lst J3 a2)], .f (.lit (.int .i64 a3)), .f (.lit (.int .i64 a4)), .obj [.f (.lit (.string a5)), .f (.lit (.string a6)), .f (.lit (.int .i64 a7)), .f (.lit (.int .i64 a8)), .f (.lit (.int .i64 a9)), .f (.lit (.int .i64 a10))], .ref 1 0, .f (.lst J4 a11), .f (.lit (.int .i64 a12)), .f (.lit (.int .i64 a13)), .f (.lit (.bool a14)), .undef]
/-- - -/
noncomputable def Jn25_14 {R : Type} (m : Nat) (kx0 : Int → Bool → Option R) (kx1 : Bool → Option R) (r0 : Abs.Rows) (i1 : Int) (r2 : Abs.Rows) (i3 i4 : Int) (s5 s6 : ByteArray) (i7 i8 i9 i10 : Int) (r11 : Abs.Rows) (i12 i13 : Int) (b14 : Bool) : Option R :=
 bif b14 then (kx0 ((1 : Int)) true) else
 (bif decide (i4 > (0 : Int)) then (bif decide ((0 : Int) ≤ IntKind.wrap IntKind.i64 (i4 - (1 : Int)) ∧ IntKind.wrap IntKind.i64 (i4 - (1 : Int)) < (↑(List.length r0) : Int)) then (bif Op.bytesLess (ByteArray.toList s5) (ByteArray.toList (fS r0 (Int.toNat (IntKind.wrap IntKind.i64 (i4 - (1 : Int)))) (0 : Nat))) || ByteArray.toList s5 == ByteArray.toList (fS r0 (Int.toNat (IntKind.wrap IntKind.i64 (i4 - (1 : Int)))) (0 : Nat)) then (kx0 ((7 : Int)) false) else
 (kx1 false)) else
 (none)) else
 (kx1 false))
noncomputable def brJn25_14 (m : Nat) (L : LTbl) (R : Type) (vs : List V) (k : Ex → List V → Option R) : Option R := match vs with
 | [.obj [.f (.lst [.str, .str, .int .i64, .int .i64, .int .i64, .int .i64] r0), .f (.lit (.int .i64 i1)), .f (.lst [.str] r2)], .f (.lit (.int .i64 i3)), .f (.lit (.int .i64 i4)), .obj [.f (.lit (.string s5)), .f (.lit (.string s6)), .f (.lit (.int .i64 i7)), .f (.lit (.int .i64 i8)), .f (.lit (.int .i64 i9)), .f (.lit (.int .i64 i10))], .ref 1 0, .f (.lst [.str, .str, .int .i64, .int .i64, .int .i64, .int .i64] r11), .f (.lit (.int .i64 i12)), .f (.lit (.int .i64 i13)), .f (.lit (.bool b14)), .undef] => Jn25_14 m (fun i15 b16 => k Ex.ret (W37 r0 i1 r2 i15 i4 s5 s6 i7 i8 i9 i10 r11 i12 i13 b16)) (fun b17 => k Ex.normal (W37 r0 i1 r2 i3 i4 s5 s6 i7 i8 i9 i10 r11 i12 i13 b17)) r0 i1 r2 i3 i4 s5 s6 i7 i8 i9 i10 r11 i12 i13 b14
 | _ => L R 25 14 vs k

theorem evJn25_14 (m : Nat) (R : Type) (r0 : Abs.Rows) (i1 : Int) (r2 : Abs.Rows) (i3 i4 : Int) (s5 s6 : ByteArray) (i7 i8 i9 i10 : Int) (r11 : Abs.Rows) (i12 i13 : Int) (b14 : Bool) (k : Ex → List V → Option R) : codeK Tryz.prog H (T29 m) 25 (L12 m) 15 (loopBody Tryz.prog 25 14) (mkEnv [1, 2, 3, 4, 13, 14, 15, 16, 50, 123] (W37 r0 i1 r2 i3 i4 s5 s6 i7 i8 i9 i10 r11 i12 i13 b14) 0 (H.len 25)) (fun e env' => k e (vals [1, 2, 3, 4, 13, 14, 15, 16, 50, 123] env')) = Jn25_14 m (fun i15 b16 => k Ex.ret (W37 r0 i1 r2 i15 i4 s5 s6 i7 i8 i9 i10 r11 i12 i13 b16)) (fun b17 => k Ex.normal (W37 r0 i1 r2 i3 i4 s5 s6 i7 i8 i9 i10 r11 i12 i13 b17)) r0 i1 r2 i3 i4 s5 s6 i7 i8 i9 i10 r11 i12 i13 b14 := by kernel_rfl
noncomputable def L13 (m : Nat) : LTbl := addJ 25 14 (brJn25_14 m (L12 m)) (L12 m)
theorem okL13 (m : Nat) : LTOk Tryz.prog H (L13 m) := addJ_ok (okT29 m) hM (okL12 m) (l := [1, 2, 3, 4, 13, 14, 15, 16, 50, 123]) (by kernel_rfl) (by kernel_rfl) fun R vs k x h => by
  unfold brJn25_14 at h
  split at h
  ·exact .inl ((evJn25_14 m R _ _ _ _ _ _ _ _ _ _ _ _ _ _ _ k).trans h)
  ·exact .inr h

abbrev W38 (a0 : Abs.Rows) (a1 : Int) (a2 : Abs.Rows) (a3 a4 : Int) (a5 a6 : ByteArray) (a7 a8 a9 a10 : Int) (a11 : Abs.Rows) (a12 a13 : Int) : List V := [.obj [.f (.lst J4 a0), .f (.lit (.int .i64 a1)), .f (.lst J3 a2)], .f (.lit (.int .i64 a3)), .f (.lit (.int .i64 a4)), .obj [.f (.lit (.string a5)), .f (.lit (.string a6)), .f (.lit (.int .i64 a7)), .f (.lit (.int .i64 a8)), .f (.lit (.int .i64 a9)), .f (.lit (.int .i64 a10))], .ref 1 0, .f (.lst J4 a11), .f (.lit (.int .i64 a12)), .f (.lit (.int .i64 a13)), .undef, .undef]
/-- - -/
noncomputable def Jn25_10 {R : Type} (m : Nat) (kx0 : Int → Bool → Option R) (kx1 : Int → Option R) (kx2 : Option R) (r0 : Abs.Rows) (i1 : Int) (r2 : Abs.Rows) (i3 i4 : Int) (s5 s6 : ByteArray) (i7 i8 i9 i10 : Int) (r11 : Abs.Rows) (i12 i13 : Int) (b14 : Bool) : Option R :=
 bif b14 then (kx0 ((3 : Int)) true) else
 (Fn34 m s6 (fun b15 => bif !b15 then (kx0 ((5 : Int)) false) else
 (Fn70 m i7 ((0 : Int)) ((1000000 : Int)) (fun b16 => bif !b16 then (Jn25_14 m (fun i17 b18 => kx1 i17) (fun b19 => kx2 ) r0 i1 r2 i3 i4 s5 s6 i7 i8 i9 i10 r11 i12 i13 true) else
 (Fn70 m i10 ((0 : Int)) ((1000000 : Int)) (fun b20 => bif !b20 then (Jn25_14 m (fun i21 b22 => kx1 i21) (fun b23 => kx2 ) r0 i1 r2 i3 i4 s5 s6 i7 i8 i9 i10 r11 i12 i13 true) else
 (Fn70 m i8 ((0 : Int)) ((86400000 : Int)) (fun b24 => bif !b24 then (Jn25_14 m (fun i25 b26 => kx1 i25) (fun b27 => kx2 ) r0 i1 r2 i3 i4 s5 s6 i7 i8 i9 i10 r11 i12 i13 true) else
 (Fn70 m i9 ((1 : Int)) ((86400000 : Int)) (fun b28 => Jn25_14 m (fun i29 b30 => kx1 i29) (fun b31 => kx2 ) r0 i1 r2 i3 i4 s5 s6 i7 i8 i9 i10 r11 i12 i13 (!b28)))))))))))
noncomputable def brJn25_10 (m : Nat) (L : LTbl) (R : Type) (vs : List V) (k : Ex → List V → Option R) : Option R := match vs with
 | [.obj [.f (.lst [.str, .str, .int .i64, .int .i64, .int .i64, .int .i64] r0), .f (.lit (.int .i64 i1)), .f (.lst [.str] r2)], .f (.lit (.int .i64 i3)), .f (.lit (.int .i64 i4)), .obj [.f (.lit (.string s5)), .f (.lit (.string s6)), .f (.lit (.int .i64 i7)), .f (.lit (.int .i64 i8)), .f (.lit (.int .i64 i9)), .f (.lit (.int .i64 i10))], .ref 1 0, .f (.lst [.str, .str, .int .i64, .int .i64, .int .i64, .int .i64] r11), .f (.lit (.int .i64 i12)), .f (.lit (.int .i64 i13)), .f (.lit (.bool b14)), .undef] => Jn25_10 m (fun i32 b33 => k Ex.ret (W37 r0 i1 r2 i32 i4 s5 s6 i7 i8 i9 i10 r11 i12 i13 b33)) (fun i34 => k Ex.ret (W38 r0 i1 r2 i34 i4 s5 s6 i7 i8 i9 i10 r11 i12 i13)) (k Ex.normal (W38 r0 i1 r2 i3 i4 s5 s6 i7 i8 i9 i10 r11 i12 i13)) r0 i1 r2 i3 i4 s5 s6 i7 i8 i9 i10 r11 i12 i13 b14
 | _ => L R 25 10 vs k

theorem evJn25_10 (m : Nat) (R : Type) (r0 : Abs.Rows) (i1 : Int) (r2 : Abs.Rows) (i3 i4 : Int) (s5 s6 : ByteArray) (i7 i8 i9 i10 : Int) (r11 : Abs.Rows) (i12 i13 : Int) (b14 : Bool) (k : Ex → List V → Option R) : codeK Tryz.prog H (T29 m) 25 (L13 m) 11 (loopBody Tryz.prog 25 10) (mkEnv [1, 2, 3, 4, 13, 14, 15, 16, 27, 123] (W37 r0 i1 r2 i3 i4 s5 s6 i7 i8 i9 i10 r11 i12 i13 b14) 0 (H.len 25)) (fun e env' => k e (vals [1, 2, 3, 4, 13, 14, 15, 16, 27, 123] env')) = Jn25_10 m (fun i32 b33 => k Ex.ret (W37 r0 i1 r2 i32 i4 s5 s6 i7 i8 i9 i10 r11 i12 i13 b33)) (fun i34 => k Ex.ret (W38 r0 i1 r2 i34 i4 s5 s6 i7 i8 i9 i10 r11 i12 i13)) (k Ex.normal (W38 r0 i1 r2 i3 i4 s5 s6 i7 i8 i9 i10 r11 i12 i13)) r0 i1 r2 i3 i4 s5 s6 i7 i8 i9 i10 r11 i12 i13 b14 := by kernel_rfl
noncomputable def L14 (m : Nat) : LTbl := addJ 25 10 (brJn25_10 m (L13 m)) (L13 m)
theorem okL14 (m : Nat) : LTOk Tryz.prog H (L14 m) := addJ_ok (okT29 m) hM (okL13 m) (l := [1, 2, 3, 4, 13, 14, 15, 16, 27, 123]) (by kernel_rfl) (by kernel_rfl) fun R vs k x h => by
  unfold brJn25_10 at h
  split at h
  ·exact .inl ((evJn25_10 m R _ _ _ _ _ _ _ _ _ _ _ _ _ _ _ k).trans h)
  ·exact .inr h

abbrev W39 (a0 : Abs.Rows) (a1 : Int) (a2 : Abs.Rows) (a3 : Int) (a4 : Abs.Rows) (a5 a6 : Int) : List V := [.obj [.f (.lst J4 a0), .f (.lit (.int .i64 a1)), .f (.lst J3 a2)], .f (.lit (.int .i64 a3)), .ref 1 0, .f (.lst J4 a4), .f (.lit (.int .i64 a5)), .f (.lit (.int .i64 a6)), .undef]
/-- - -/
noncomputable def Lp25_5_step {R : Type} (m : Nat) (kx0 : Int → Int → Option R) (kx1 : Int → Option R) (r0 : Abs.Rows) (i1 : Int) (r2 : Abs.Rows) (i3 : Int) (r4 : Abs.Rows) (i5 : Int) (REC : Int → Option R) (i6 : Int) : Option R :=
 bif decide (i6 < i5) then (bif decide ((0 : Int) ≤ i6 ∧ i6 < (↑(List.length r4) : Int)) then (Fn68 m (fS r4 (Int.toNat i6) (0 : Nat)) ({ data := #[(43 : UInt8)] }) (fun s7 b8 => bif !ByteArray.toList (fS r4 (Int.toNat i6) (0 : Nat)) == ByteArray.toList { data := #[] } then (bif !b8 then (Jn25_10 m (fun i9 b10 => kx0 i9 i6) (fun i11 => kx0 i11 i6) (REC (IntKind.wrap IntKind.i64 (i6 + (1 : Int)))) r0 i1 r2 i3 i6 (fS r4 (Int.toNat i6) (0 : Nat)) (fS r4 (Int.toNat i6) (1 : Nat)) (fI r4 (Int.toNat i6) (2 : Nat)) (fI r4 (Int.toNat i6) (3 : Nat)) (fI r4 (Int.toNat i6) (4 : Nat)) (fI r4 (Int.toNat i6) (5 : Nat)) r4 i5 i6 true) else
 (bif decide ((↑(ByteArray.size s7) : Int) > (15 : Int)) then (Jn25_10 m (fun i12 b13 => kx0 i12 i6) (fun i14 => kx0 i14 i6) (REC (IntKind.wrap IntKind.i64 (i6 + (1 : Int)))) r0 i1 r2 i3 i6 (fS r4 (Int.toNat i6) (0 : Nat)) (fS r4 (Int.toNat i6) (1 : Nat)) (fI r4 (Int.toNat i6) (2 : Nat)) (fI r4 (Int.toNat i6) (3 : Nat)) (fI r4 (Int.toNat i6) (4 : Nat)) (fI r4 (Int.toNat i6) (5 : Nat)) r4 i5 i6 true) else
 (Fn69 m s7 ({ data := #[(48 : UInt8), (49 : UInt8), (50 : UInt8), (51 : UInt8), (52 : UInt8), (53 : UInt8), (54 : UInt8), (55 : UInt8), (56 : UInt8), (57 : UInt8)] }) (fun b15 => Jn25_10 m (fun i16 b17 => kx0 i16 i6) (fun i18 => kx0 i18 i6) (REC (IntKind.wrap IntKind.i64 (i6 + (1 : Int)))) r0 i1 r2 i3 i6 (fS r4 (Int.toNat i6) (0 : Nat)) (fS r4 (Int.toNat i6) (1 : Nat)) (fI r4 (Int.toNat i6) (2 : Nat)) (fI r4 (Int.toNat i6) (3 : Nat)) (fI r4 (Int.toNat i6) (4 : Nat)) (fI r4 (Int.toNat i6) (5 : Nat)) r4 i5 i6 (!b15))))) else
 (Jn25_10 m (fun i19 b20 => kx0 i19 i6) (fun i21 => kx0 i21 i6) (REC (IntKind.wrap IntKind.i64 (i6 + (1 : Int)))) r0 i1 r2 i3 i6 (fS r4 (Int.toNat i6) (0 : Nat)) (fS r4 (Int.toNat i6) (1 : Nat)) (fI r4 (Int.toNat i6) (2 : Nat)) (fI r4 (Int.toNat i6) (3 : Nat)) (fI r4 (Int.toNat i6) (4 : Nat)) (fI r4 (Int.toNat i6) (5 : Nat)) r4 i5 i6 false))) else
 (none)) else
 (kx1 i6)
noncomputable def Lp25_5 {R : Type} (m : Nat) (kx0 : Int → Int → Option R) (kx1 : Int → Option R) (r0 : Abs.Rows) (i1 : Int) (r2 : Abs.Rows) (i3 : Int) (r4 : Abs.Rows) (i5 : Int) : Nat → Int → Option R
 | 0, _ => none
 | n + 1, i6 => Lp25_5_step m kx0 kx1 r0 i1 r2 i3 r4 i5 (Lp25_5 m kx0 kx1 r0 i1 r2 i3 r4 i5 n) i6
noncomputable def ELp25_5 (m : Nat) (R : Type) : Nat → List V → (Ex → List V → Option R) → Option R
 | 0, _, _ => none
 | n + 1, vs, k => match vs with
  | [.obj [.f (.lst [.str, .str, .int .i64, .int .i64, .int .i64, .int .i64] r0), .f (.lit (.int .i64 i1)), .f (.lst [.str] r2)], .f (.lit (.int .i64 i3)), .ref 1 0, .f (.lst [.str, .str, .int .i64, .int .i64, .int .i64, .int .i64] r4), .f (.lit (.int .i64 i5)), .f (.lit (.int .i64 i6)), .undef] => Lp25_5_step m (fun i22 i23 => k Ex.ret (W39 r0 i1 r2 i22 r4 i5 i23)) (fun i24 => k (Ex.exit (0 : Nat)) (W39 r0 i1 r2 i3 r4 i5 i24)) r0 i1 r2 i3 r4 i5 (fun i6 => ELp25_5 m R n (W39 r0 i1 r2 i3 r4 i5 i6) k) i6
  | _ => none
noncomputable def brLp25_5 (m : Nat) (L : LTbl) (R : Type) (vs : List V) (k : Ex → List V → Option R) : Option R := match vs with
 | [.obj [.f (.lst [.str, .str, .int .i64, .int .i64, .int .i64, .int .i64] r0), .f (.lit (.int .i64 i1)), .f (.lst [.str] r2)], .f (.lit (.int .i64 i3)), .ref 1 0, .f (.lst [.str, .str, .int .i64, .int .i64, .int .i64, .int .i64] r4), .f (.lit (.int .i64 i5)), .f (.lit (.int .i64 i6)), .undef] => Lp25_5 m (fun i22 i23 => k Ex.ret (W39 r0 i1 r2 i22 r4 i5 i23)) (fun i24 => k (Ex.exit (0 : Nat)) (W39 r0 i1 r2 i3 r4 i5 i24)) r0 i1 r2 i3 r4 i5 m i6
 | _ => L R 25 5 vs k

theorem stLp25_5 (m n : Nat) (R : Type) (r0 : Abs.Rows) (i1 : Int) (r2 : Abs.Rows) (i3 : Int) (r4 : Abs.Rows) (i5 i6 : Int) (k : Ex → List V → Option R) : codeK Tryz.prog H (T29 m) 25 (L14 m) 6 (loopBody Tryz.prog 25 5) (mkEnv [1, 2, 13, 14, 15, 16, 123] (W39 r0 i1 r2 i3 r4 i5 i6) 0 (H.len 25)) (fun e env' => match e with | .normal => ELp25_5 m R n (vals [1, 2, 13, 14, 15, 16, 123] env') k | e => k e (vals [1, 2, 13, 14, 15, 16, 123] env')) = Lp25_5_step m (fun i22 i23 => k Ex.ret (W39 r0 i1 r2 i22 r4 i5 i23)) (fun i24 => k (Ex.exit (0 : Nat)) (W39 r0 i1 r2 i3 r4 i5 i24)) r0 i1 r2 i3 r4 i5 (fun i6 => ELp25_5 m R n (W39 r0 i1 r2 i3 r4 i5 i6) k) i6 := by kernel_rfl
theorem eqLp25_5 (m : Nat) (R : Type) (r0 : Abs.Rows) (i1 : Int) (r2 : Abs.Rows) (i3 : Int) (r4 : Abs.Rows) (i5 : Int) (k : Ex → List V → Option R) : ∀ (n : Nat) (i6 : Int), ELp25_5 m R n (W39 r0 i1 r2 i3 r4 i5 i6) k = Lp25_5 m (fun i22 i23 => k Ex.ret (W39 r0 i1 r2 i22 r4 i5 i23)) (fun i24 => k (Ex.exit (0 : Nat)) (W39 r0 i1 r2 i3 r4 i5 i24)) r0 i1 r2 i3 r4 i5 n i6
 | 0, _ => rfl
 | n + 1, i6 => by
  simp only [ELp25_5, Lp25_5, W39]
  congr 1
  funext i6
  exact eqLp25_5 m R r0 i1 r2 i3 r4 i5 k n i6
noncomputable def L15 (m : Nat) : LTbl := addB 25 5 (brLp25_5 m (L14 m)) (L14 m)
theorem okL15 (m : Nat) : LTOk Tryz.prog H (L15 m) := addB_ok (okT29 m) hM (okL14 m) (l := [1, 2, 13, 14, 15, 16, 123]) (by kernel_rfl) (by kernel_rfl) m (fun R n vs k => ELp25_5 m R n vs k) (fun R vs k => rfl) (fun R n vs k x h => by
   simp only [ELp25_5] at h
   split at h
   ·exact (stLp25_5 m n R _ _ _ _ _ _ _ k).trans h
   ·cases h) fun R vs k x h => by
  unfold brLp25_5 at h
  split at h
  ·exact .inl ((eqLp25_5 m R _ _ _ _ _ _ k m _).trans h)
  ·exact .inr h

abbrev W40 (a0 : Abs.Rows) (a1 : Int) (a2 : Abs.Rows) (a3 : Int) (a4 : Abs.Rows) (a5 a6 : Int) : List V := [.obj [.f (.lst J4 a0), .f (.lit (.int .i64 a1)), .f (.lst J3 a2)], .f (.lit (.int .i64 a3)), .ref 1 2, .f (.lst J3 a4), .f (.lit (.int .i64 a5)), .f (.lit (.int .i64 a6)), .undef]
/-- - -/
noncomputable def Lp25_26_step {R : Type} (m : Nat) (kx0 : Int → Int → Option R) (kx1 : Int → Option R) (r0 : Abs.Rows) (i1 : Int) (r2 : Abs.Rows) (i3 : Int) (r4 : Abs.Rows) (i5 : Int) (REC : Int → Option R) (i6 : Int) : Option R :=
 bif decide (i6 < i5) then (bif decide ((0 : Int) ≤ i6 ∧ i6 < (↑(List.length r4) : Int)) then (Fn34 m (fS r4 (Int.toNat i6) (0 : Nat)) (fun b7 => bif !b7 then (kx0 ((5 : Int)) i6) else
 (bif decide (i6 > (0 : Int)) then (bif decide ((0 : Int) ≤ IntKind.wrap IntKind.i64 (i6 - (1 : Int)) ∧ IntKind.wrap IntKind.i64 (i6 - (1 : Int)) < (↑(List.length r2) : Int)) then (bif Op.bytesLess (ByteArray.toList (fS r4 (Int.toNat i6) (0 : Nat))) (ByteArray.toList (fS r2 (Int.toNat (IntKind.wrap IntKind.i64 (i6 - (1 : Int)))) (0 : Nat))) || ByteArray.toList (fS r4 (Int.toNat i6) (0 : Nat)) == ByteArray.toList (fS r2 (Int.toNat (IntKind.wrap IntKind.i64 (i6 - (1 : Int)))) (0 : Nat)) then (kx0 ((7 : Int)) i6) else
 (REC (IntKind.wrap IntKind.i64 (i6 + (1 : Int))))) else
 (none)) else
 (REC (IntKind.wrap IntKind.i64 (i6 + (1 : Int))))))) else
 (none)) else
 (kx1 i6)
noncomputable def Lp25_26 {R : Type} (m : Nat) (kx0 : Int → Int → Option R) (kx1 : Int → Option R) (r0 : Abs.Rows) (i1 : Int) (r2 : Abs.Rows) (i3 : Int) (r4 : Abs.Rows) (i5 : Int) : Nat → Int → Option R
 | 0, _ => none
 | n + 1, i6 => Lp25_26_step m kx0 kx1 r0 i1 r2 i3 r4 i5 (Lp25_26 m kx0 kx1 r0 i1 r2 i3 r4 i5 n) i6
noncomputable def ELp25_26 (m : Nat) (R : Type) : Nat → List V → (Ex → List V → Option R) → Option R
 | 0, _, _ => none
 | n + 1, vs, k => match vs with
  | [.obj [.f (.lst [.str, .str, .int .i64, .int .i64, .int .i64, .int .i64] r0), .f (.lit (.int .i64 i1)), .f (.lst [.str] r2)], .f (.lit (.int .i64 i3)), .ref 1 2, .f (.lst [.str] r4), .f (.lit (.int .i64 i5)), .f (.lit (.int .i64 i6)), .undef] => Lp25_26_step m (fun i8 i9 => k Ex.ret (W40 r0 i1 r2 i8 r4 i5 i9)) (fun i10 => k (Ex.exit (4 : Nat)) (W40 r0 i1 r2 i3 r4 i5 i10)) r0 i1 r2 i3 r4 i5 (fun i6 => ELp25_26 m R n (W40 r0 i1 r2 i3 r4 i5 i6) k) i6
  | _ => none
noncomputable def brLp25_26 (m : Nat) (L : LTbl) (R : Type) (vs : List V) (k : Ex → List V → Option R) : Option R := match vs with
 | [.obj [.f (.lst [.str, .str, .int .i64, .int .i64, .int .i64, .int .i64] r0), .f (.lit (.int .i64 i1)), .f (.lst [.str] r2)], .f (.lit (.int .i64 i3)), .ref 1 2, .f (.lst [.str] r4), .f (.lit (.int .i64 i5)), .f (.lit (.int .i64 i6)), .undef] => Lp25_26 m (fun i8 i9 => k Ex.ret (W40 r0 i1 r2 i8 r4 i5 i9)) (fun i10 => k (Ex.exit (4 : Nat)) (W40 r0 i1 r2 i3 r4 i5 i10)) r0 i1 r2 i3 r4 i5 m i6
 | _ => L R 25 26 vs k

theorem stLp25_26 (m n : Nat) (R : Type) (r0 : Abs.Rows) (i1 : Int) (r2 : Abs.Rows) (i3 : Int) (r4 : Abs.Rows) (i5 i6 : Int) (k : Ex → List V → Option R) : codeK Tryz.prog H (T29 m) 25 (L15 m) 27 (loopBody Tryz.prog 25 26) (mkEnv [1, 2, 99, 100, 101, 102, 123] (W40 r0 i1 r2 i3 r4 i5 i6) 0 (H.len 25)) (fun e env' => match e with | .normal => ELp25_26 m R n (vals [1, 2, 99, 100, 101, 102, 123] env') k | e => k e (vals [1, 2, 99, 100, 101, 102, 123] env')) = Lp25_26_step m (fun i8 i9 => k Ex.ret (W40 r0 i1 r2 i8 r4 i5 i9)) (fun i10 => k (Ex.exit (4 : Nat)) (W40 r0 i1 r2 i3 r4 i5 i10)) r0 i1 r2 i3 r4 i5 (fun i6 => ELp25_26 m R n (W40 r0 i1 r2 i3 r4 i5 i6) k) i6 := by kernel_rfl
theorem eqLp25_26 (m : Nat) (R : Type) (r0 : Abs.Rows) (i1 : Int) (r2 : Abs.Rows) (i3 : Int) (r4 : Abs.Rows) (i5 : Int) (k : Ex → List V → Option R) : ∀ (n : Nat) (i6 : Int), ELp25_26 m R n (W40 r0 i1 r2 i3 r4 i5 i6) k = Lp25_26 m (fun i8 i9 => k Ex.ret (W40 r0 i1 r2 i8 r4 i5 i9)) (fun i10 => k (Ex.exit (4 : Nat)) (W40 r0 i1 r2 i3 r4 i5 i10)) r0 i1 r2 i3 r4 i5 n i6
 | 0, _ => rfl
 | n + 1, i6 => by
  simp only [ELp25_26, Lp25_26, W40]
  congr 1
  funext i6
  exact eqLp25_26 m R r0 i1 r2 i3 r4 i5 k n i6
noncomputable def L16 (m : Nat) : LTbl := addB 25 26 (brLp25_26 m (L15 m)) (L15 m)
theorem okL16 (m : Nat) : LTOk Tryz.prog H (L16 m) := addB_ok (okT29 m) hM (okL15 m) (l := [1, 2, 99, 100, 101, 102, 123]) (by kernel_rfl) (by kernel_rfl) m (fun R n vs k => ELp25_26 m R n vs k) (fun R vs k => rfl) (fun R n vs k x h => by
   simp only [ELp25_26] at h
   split at h
   ·exact (stLp25_26 m n R _ _ _ _ _ _ _ k).trans h
   ·cases h) fun R vs k x h => by
  unfold brLp25_26 at h
  split at h
  ·exact .inl ((eqLp25_26 m R _ _ _ _ _ _ k m _).trans h)
  ·exact .inr h

abbrev W41 (a0 : Abs.Rows) (a1 : Int) (a2 : Abs.Rows) : List V := [.agg [.f (.lst J4 a0), .f (.lit (.int .i64 a1)), .f (.lst J3 a2)]]
/-- - -/
noncomputable def Fn25 {R : Type} (m : Nat) : Abs.Rows → Int → Abs.Rows → (Int → Option R) → Option R := match m with
 | 0 => fun _ _ _ _ => none
 | m + 1 => fun r0 i1 r2 k =>
 bif decide ((↑(List.length r0) : Int) > (200 : Int)) then (k ((2 : Int))) else
 (Lp25_5 m (fun i3 i4 => k i3) (fun i5 => Fn70 m i1 ((0 : Int)) ((2592000000 : Int)) (fun b6 => bif !b6 then (k ((1 : Int))) else
 (bif decide ((↑(List.length r2) : Int) > (200 : Int)) then (k ((2 : Int))) else
 (Lp25_26 m (fun i7 i8 => k i7) (fun i9 => k ((0 : Int))) r0 i1 r2 ((0 : Int)) r2 ((↑(List.length r2) : Int)) m ((0 : Int)))))) r0 i1 r2 ((0 : Int)) r0 ((↑(List.length r0) : Int)) m ((0 : Int)))
noncomputable def brFn25 (m : Nat) (T : Tbl) (R : Type) (vs : List V) (k : V → List V → Option R) : Option R := match vs with
 | [.agg [.f (.lst [.str, .str, .int .i64, .int .i64, .int .i64, .int .i64] r0), .f (.lit (.int .i64 i1)), .f (.lst [.str] r2)]] => Fn25 m r0 i1 r2 (fun i10 => k (V.f (F.lit (Value.int IntKind.i64 i10))) W17)
 | _ => T R 25 vs k

theorem evFn25 (m : Nat) (R : Type) (r0 : Abs.Rows) (i1 : Int) (r2 : Abs.Rows) (k : V → List V → Option R) : runK Tryz.prog H (T29 m) (L16 m) 25 (W41 r0 i1 r2) k = Fn25 (m + 1) r0 i1 r2 (fun i10 => k (V.f (F.lit (Value.int IntKind.i64 i10))) W17) := by kernel_rfl
noncomputable def T30 (m : Nat) : Tbl := addT 25 (brFn25 m (T29 m)) (T29 m)
theorem okT30 (m : Nat) : TblOk Tryz.prog (T30 m) := addT_ok (okT29 m) fun R vs k x h => by
 unfold brFn25 at h
 split at h
 ·cases m with
  | zero => cases h
  | succ m => exact runK_some (okT29 m) hM (okL16 m) ((evFn25 m R _ _ _ k).trans h)
 ·exact okT29 m R 25 _ k x h

/-- - -/
noncomputable def Fn71 {R : Type} (m : Nat) : ByteArray → (Bool → Option R) → Option R := match m with
 | 0 => fun _ _ => none
 | m + 1 => fun s0 k =>
 Fn68 m s0 ({ data := #[(43 : UInt8)] }) (fun s1 b2 => bif b2 then (Fn70 m ((↑(ByteArray.size s1) : Int)) ((4 : Int)) ((15 : Int)) (fun b3 => bif b3 then (Fn69 m s1 ({ data := #[(48 : UInt8), (49 : UInt8), (50 : UInt8), (51 : UInt8), (52 : UInt8), (53 : UInt8), (54 : UInt8), (55 : UInt8), (56 : UInt8), (57 : UInt8)] }) (fun b4 => bif b4 then (bif decide ((0 : Int) ≤ (0 : Int) ∧ (0 : Int) < (↑(ByteArray.size s1) : Int)) then (k ((↑(UInt8.toNat (Array.getD (ByteArray.data s1) (Int.toNat (0 : Int)) (0 : UInt8))) : Int) != (48 : Int))) else
 (none)) else
 (k false))) else
 (k false))) else
 (k false))
noncomputable def brFn71 (m : Nat) (T : Tbl) (R : Type) (vs : List V) (k : V → List V → Option R) : Option R := match vs with
 | [.f (.lit (.string s0))] => Fn71 m s0 (fun b5 => k (V.f (F.lit (Value.bool b5))) W17)
 | _ => T R 71 vs k

theorem evFn71 (m : Nat) (R : Type) (s0 : ByteArray) (k : V → List V → Option R) : runK Tryz.prog H (T30 m) (L16 m) 71 (W36 s0) k = Fn71 (m + 1) s0 (fun b5 => k (V.f (F.lit (Value.bool b5))) W17) := by kernel_rfl
noncomputable def T31 (m : Nat) : Tbl := addT 71 (brFn71 m (T30 m)) (T30 m)
theorem okT31 (m : Nat) : TblOk Tryz.prog (T31 m) := addT_ok (okT30 m) fun R vs k x h => by
 unfold brFn71 at h
 split at h
 ·cases m with
  | zero => cases h
  | succ m => exact runK_some (okT30 m) hM (okL16 m) ((evFn71 m R _ k).trans h)
 ·exact okT30 m R 71 _ k x h

abbrev W42 (a0 : Abs.Rows) (a1 : Int) (a2 : Abs.Rows) (a3 a4 : ByteArray) (a5 a6 : Abs.Rows) (a7 a8 : Int) (a9 : Abs.Rows) (a10 a11 : Int) : List V := [.bor J7 a0, .f (.lit (.int .i64 a1)), .own J8 a2, .f (.lit (.string a3)), .obj [.f (.lit (.string a4)), .f (.lst J3 a5)], .undef, .bor J7 a6, .f (.lit (.int .i64 a7)), .f (.lit (.int .i64 a8)), .ref 6 1, .f (.lst J3 a9), .f (.lit (.int .i64 a10)), .f (.lit (.int .i64 a11)), .undef]
/-- - -/
noncomputable def Lp26_20_step {R : Type} (m : Nat) (kx0 : Int → Abs.Rows → Int → Option R) (kx1 : Abs.Rows → Int → Option R) (r0 : Abs.Rows) (i1 : Int) (s2 s3 : ByteArray) (r4 r5 : Abs.Rows) (i6 i7 : Int) (r8 : Abs.Rows) (i9 : Int) (REC : Abs.Rows → Int → Option R) (r10 : Abs.Rows) (i11 : Int) : Option R :=
 bif decide (i11 < i9) then (bif decide ((0 : Int) ≤ i11 ∧ i11 < (↑(List.length r8) : Int)) then (Fn71 m (fS r8 (Int.toNat i11) (0 : Nat)) (fun b12 => bif !b12 then (kx0 ((3 : Int)) r10 i11) else
 (bif F.toBool (List.headD (mRow (F.lit (Value.string (fS r8 (Int.toNat i11) (0 : Nat)))) [F.lit (Value.bool false)] r10) default) then (kx0 ((6 : Int)) r10 i11) else
 (bif decide (List.length r10 < rowMax) then (REC (mPut (F.lit (Value.string (fS r8 (Int.toNat i11) (0 : Nat)))) [F.lit (Value.bool true)] r10) (IntKind.wrap IntKind.i64 (i11 + (1 : Int)))) else
 (none))))) else
 (none)) else
 (kx1 r10 i11)
noncomputable def Lp26_20 {R : Type} (m : Nat) (kx0 : Int → Abs.Rows → Int → Option R) (kx1 : Abs.Rows → Int → Option R) (r0 : Abs.Rows) (i1 : Int) (s2 s3 : ByteArray) (r4 r5 : Abs.Rows) (i6 i7 : Int) (r8 : Abs.Rows) (i9 : Int) : Nat → Abs.Rows → Int → Option R
 | 0, _, _ => none
 | n + 1, r10, i11 => Lp26_20_step m kx0 kx1 r0 i1 s2 s3 r4 r5 i6 i7 r8 i9 (Lp26_20 m kx0 kx1 r0 i1 s2 s3 r4 r5 i6 i7 r8 i9 n) r10 i11
noncomputable def ELp26_20 (m : Nat) (R : Type) : Nat → List V → (Ex → List V → Option R) → Option R
 | 0, _, _ => none
 | n + 1, vs, k => match vs with
  | [.bor [.str, .lst [.str]] r0, .f (.lit (.int .i64 i1)), .own [.mp false, .str, .bool] r10, .f (.lit (.string s2)), .obj [.f (.lit (.string s3)), .f (.lst [.str] r4)], .undef, .bor [.str, .lst [.str]] r5, .f (.lit (.int .i64 i6)), .f (.lit (.int .i64 i7)), .ref 6 1, .f (.lst [.str] r8), .f (.lit (.int .i64 i9)), .f (.lit (.int .i64 i11)), .undef] => Lp26_20_step m (fun i13 r14 i15 => k Ex.ret (W42 r0 i13 r14 s2 s3 r4 r5 i6 i7 r8 i9 i15)) (fun r16 i17 => k (Ex.exit (3 : Nat)) (W42 r0 i1 r16 s2 s3 r4 r5 i6 i7 r8 i9 i17)) r0 i1 s2 s3 r4 r5 i6 i7 r8 i9 (fun r10 i11 => ELp26_20 m R n (W42 r0 i1 r10 s2 s3 r4 r5 i6 i7 r8 i9 i11) k) r10 i11
  | _ => none
noncomputable def brLp26_20 (m : Nat) (L : LTbl) (R : Type) (vs : List V) (k : Ex → List V → Option R) : Option R := match vs with
 | [.bor [.str, .lst [.str]] r0, .f (.lit (.int .i64 i1)), .own [.mp false, .str, .bool] r10, .f (.lit (.string s2)), .obj [.f (.lit (.string s3)), .f (.lst [.str] r4)], .undef, .bor [.str, .lst [.str]] r5, .f (.lit (.int .i64 i6)), .f (.lit (.int .i64 i7)), .ref 6 1, .f (.lst [.str] r8), .f (.lit (.int .i64 i9)), .f (.lit (.int .i64 i11)), .undef] => Lp26_20 m (fun i13 r14 i15 => k Ex.ret (W42 r0 i13 r14 s2 s3 r4 r5 i6 i7 r8 i9 i15)) (fun r16 i17 => k (Ex.exit (3 : Nat)) (W42 r0 i1 r16 s2 s3 r4 r5 i6 i7 r8 i9 i17)) r0 i1 s2 s3 r4 r5 i6 i7 r8 i9 m r10 i11
 | _ => L R 26 20 vs k

theorem stLp26_20 (m n : Nat) (R : Type) (r0 : Abs.Rows) (i1 : Int) (r10 : Abs.Rows) (s2 s3 : ByteArray) (r4 r5 : Abs.Rows) (i6 i7 : Int) (r8 : Abs.Rows) (i9 i11 : Int) (k : Ex → List V → Option R) : codeK Tryz.prog H (T31 m) 26 (L16 m) 21 (loopBody Tryz.prog 26 20) (mkEnv [0, 2, 3, 4, 6, 12, 13, 14, 15, 36, 37, 38, 39, 53] (W42 r0 i1 r10 s2 s3 r4 r5 i6 i7 r8 i9 i11) 0 (H.len 26)) (fun e env' => match e with | .normal => ELp26_20 m R n (vals [0, 2, 3, 4, 6, 12, 13, 14, 15, 36, 37, 38, 39, 53] env') k | e => k e (vals [0, 2, 3, 4, 6, 12, 13, 14, 15, 36, 37, 38, 39, 53] env')) = Lp26_20_step m (fun i13 r14 i15 => k Ex.ret (W42 r0 i13 r14 s2 s3 r4 r5 i6 i7 r8 i9 i15)) (fun r16 i17 => k (Ex.exit (3 : Nat)) (W42 r0 i1 r16 s2 s3 r4 r5 i6 i7 r8 i9 i17)) r0 i1 s2 s3 r4 r5 i6 i7 r8 i9 (fun r10 i11 => ELp26_20 m R n (W42 r0 i1 r10 s2 s3 r4 r5 i6 i7 r8 i9 i11) k) r10 i11 := by kernel_rfl
theorem eqLp26_20 (m : Nat) (R : Type) (r0 : Abs.Rows) (i1 : Int) (s2 s3 : ByteArray) (r4 r5 : Abs.Rows) (i6 i7 : Int) (r8 : Abs.Rows) (i9 : Int) (k : Ex → List V → Option R) : ∀ (n : Nat) (r10 : Abs.Rows) (i11 : Int), ELp26_20 m R n (W42 r0 i1 r10 s2 s3 r4 r5 i6 i7 r8 i9 i11) k = Lp26_20 m (fun i13 r14 i15 => k Ex.ret (W42 r0 i13 r14 s2 s3 r4 r5 i6 i7 r8 i9 i15)) (fun r16 i17 => k (Ex.exit (3 : Nat)) (W42 r0 i1 r16 s2 s3 r4 r5 i6 i7 r8 i9 i17)) r0 i1 s2 s3 r4 r5 i6 i7 r8 i9 n r10 i11
 | 0, _, _ => rfl
 | n + 1, r10, i11 => by
  simp only [ELp26_20, Lp26_20, W42]
  congr 1
  funext r10 i11
  exact eqLp26_20 m R r0 i1 s2 s3 r4 r5 i6 i7 r8 i9 k n r10 i11
noncomputable def L17 (m : Nat) : LTbl := addB 26 20 (brLp26_20 m (L16 m)) (L16 m)
theorem okL17 (m : Nat) : LTOk Tryz.prog H (L17 m) := addB_ok (okT31 m) hM (okL16 m) (l := [0, 2, 3, 4, 6, 12, 13, 14, 15, 36, 37, 38, 39, 53]) (by kernel_rfl) (by kernel_rfl) m (fun R n vs k => ELp26_20 m R n vs k) (fun R vs k => rfl) (fun R n vs k x h => by
   simp only [ELp26_20] at h
   split at h
   ·exact (stLp26_20 m n R _ _ _ _ _ _ _ _ _ _ _ _ k).trans h
   ·cases h) fun R vs k x h => by
  unfold brLp26_20 at h
  split at h
  ·exact .inl ((eqLp26_20 m R _ _ _ _ _ _ _ _ _ _ k m _ _).trans h)
  ·exact .inr h

abbrev W43 (a0 : Abs.Rows) (a1 : Int) (a2 : Abs.Rows) (a3 : ByteArray) (a4 : Abs.Rows) (a5 a6 : Int) : List V := [.bor J7 a0, .f (.lit (.int .i64 a1)), .own J8 a2, .f (.lit (.string a3)), .undef, .bor J7 a4, .f (.lit (.int .i64 a5)), .f (.lit (.int .i64 a6)), .undef]
/-- - -/
noncomputable def Lp26_7_step {R : Type} (m : Nat) (kx0 : Int → Abs.Rows → ByteArray → Int → Option R) (kx1 : Abs.Rows → ByteArray → Int → Option R) (r0 : Abs.Rows) (i1 : Int) (r2 : Abs.Rows) (i3 : Int) (REC : Abs.Rows → ByteArray → Int → Option R) (r4 : Abs.Rows) (s5 : ByteArray) (i6 : Int) : Option R :=
 bif decide (i6 < i3) then (bif decide ((0 : Int) ≤ i6 ∧ i6 < (↑(List.length r2) : Int)) then (Fn34 m (fS r2 (Int.toNat i6) (0 : Nat)) (fun b7 => bif !b7 then (kx0 ((5 : Int)) r4 s5 i6) else
 (bif Op.bytesLess (ByteArray.toList (fS r2 (Int.toNat i6) (0 : Nat))) (ByteArray.toList s5) || ByteArray.toList (fS r2 (Int.toNat i6) (0 : Nat)) == ByteArray.toList s5 then (kx0 ((7 : Int)) r4 s5 i6) else
 (bif decide ((↑(List.length (fR r2 (Int.toNat i6) (1 : Nat))) : Int) > (500 : Int)) then (kx0 ((2 : Int)) r4 s5 i6) else
 (Lp26_20 m (fun i8 r9 i10 => kx0 i8 r9 (fS r2 (Int.toNat i6) (0 : Nat)) i6) (fun r11 i12 => REC r11 (fS r2 (Int.toNat i6) (0 : Nat)) (IntKind.wrap IntKind.i64 (i6 + (1 : Int)))) r0 i1 (fS r2 (Int.toNat i6) (0 : Nat)) (fS r2 (Int.toNat i6) (0 : Nat)) (fR r2 (Int.toNat i6) (1 : Nat)) r2 i3 i6 (fR r2 (Int.toNat i6) (1 : Nat)) ((↑(List.length (fR r2 (Int.toNat i6) (1 : Nat))) : Int)) m r4 ((0 : Int))))))) else
 (none)) else
 (kx1 r4 s5 i6)
noncomputable def Lp26_7 {R : Type} (m : Nat) (kx0 : Int → Abs.Rows → ByteArray → Int → Option R) (kx1 : Abs.Rows → ByteArray → Int → Option R) (r0 : Abs.Rows) (i1 : Int) (r2 : Abs.Rows) (i3 : Int) : Nat → Abs.Rows → ByteArray → Int → Option R
 | 0, _, _, _ => none
 | n + 1, r4, s5, i6 => Lp26_7_step m kx0 kx1 r0 i1 r2 i3 (Lp26_7 m kx0 kx1 r0 i1 r2 i3 n) r4 s5 i6
noncomputable def ELp26_7 (m : Nat) (R : Type) : Nat → List V → (Ex → List V → Option R) → Option R
 | 0, _, _ => none
 | n + 1, vs, k => match vs with
  | [.bor [.str, .lst [.str]] r0, .f (.lit (.int .i64 i1)), .own [.mp false, .str, .bool] r4, .f (.lit (.string s5)), .undef, .bor [.str, .lst [.str]] r2, .f (.lit (.int .i64 i3)), .f (.lit (.int .i64 i6)), .undef] => Lp26_7_step m (fun i13 r14 s15 i16 => k Ex.ret (W43 r0 i13 r14 s15 r2 i3 i16)) (fun r17 s18 i19 => k (Ex.exit (0 : Nat)) (W43 r0 i1 r17 s18 r2 i3 i19)) r0 i1 r2 i3 (fun r4 s5 i6 => ELp26_7 m R n (W43 r0 i1 r4 s5 r2 i3 i6) k) r4 s5 i6
  | _ => none
noncomputable def brLp26_7 (m : Nat) (L : LTbl) (R : Type) (vs : List V) (k : Ex → List V → Option R) : Option R := match vs with
 | [.bor [.str, .lst [.str]] r0, .f (.lit (.int .i64 i1)), .own [.mp false, .str, .bool] r4, .f (.lit (.string s5)), .undef, .bor [.str, .lst [.str]] r2, .f (.lit (.int .i64 i3)), .f (.lit (.int .i64 i6)), .undef] => Lp26_7 m (fun i13 r14 s15 i16 => k Ex.ret (W43 r0 i13 r14 s15 r2 i3 i16)) (fun r17 s18 i19 => k (Ex.exit (0 : Nat)) (W43 r0 i1 r17 s18 r2 i3 i19)) r0 i1 r2 i3 m r4 s5 i6
 | _ => L R 26 7 vs k

theorem stLp26_7 (m n : Nat) (R : Type) (r0 : Abs.Rows) (i1 : Int) (r4 : Abs.Rows) (s5 : ByteArray) (r2 : Abs.Rows) (i3 i6 : Int) (k : Ex → List V → Option R) : codeK Tryz.prog H (T31 m) 26 (L17 m) 8 (loopBody Tryz.prog 26 7) (mkEnv [0, 2, 3, 4, 12, 13, 14, 15, 53] (W43 r0 i1 r4 s5 r2 i3 i6) 0 (H.len 26)) (fun e env' => match e with | .normal => ELp26_7 m R n (vals [0, 2, 3, 4, 12, 13, 14, 15, 53] env') k | e => k e (vals [0, 2, 3, 4, 12, 13, 14, 15, 53] env')) = Lp26_7_step m (fun i13 r14 s15 i16 => k Ex.ret (W43 r0 i13 r14 s15 r2 i3 i16)) (fun r17 s18 i19 => k (Ex.exit (0 : Nat)) (W43 r0 i1 r17 s18 r2 i3 i19)) r0 i1 r2 i3 (fun r4 s5 i6 => ELp26_7 m R n (W43 r0 i1 r4 s5 r2 i3 i6) k) r4 s5 i6 := by kernel_rfl
theorem eqLp26_7 (m : Nat) (R : Type) (r0 : Abs.Rows) (i1 : Int) (r2 : Abs.Rows) (i3 : Int) (k : Ex → List V → Option R) : ∀ (n : Nat) (r4 : Abs.Rows) (s5 : ByteArray) (i6 : Int), ELp26_7 m R n (W43 r0 i1 r4 s5 r2 i3 i6) k = Lp26_7 m (fun i13 r14 s15 i16 => k Ex.ret (W43 r0 i13 r14 s15 r2 i3 i16)) (fun r17 s18 i19 => k (Ex.exit (0 : Nat)) (W43 r0 i1 r17 s18 r2 i3 i19)) r0 i1 r2 i3 n r4 s5 i6
 | 0, _, _, _ => rfl
 | n + 1, r4, s5, i6 => by
  simp only [ELp26_7, Lp26_7, W43]
  congr 1
  funext r4 s5 i6
  exact eqLp26_7 m R r0 i1 r2 i3 k n r4 s5 i6
noncomputable def L18 (m : Nat) : LTbl := addB 26 7 (brLp26_7 m (L17 m)) (L17 m)
theorem okL18 (m : Nat) : LTOk Tryz.prog H (L18 m) := addB_ok (okT31 m) hM (okL17 m) (l := [0, 2, 3, 4, 12, 13, 14, 15, 53]) (by kernel_rfl) (by kernel_rfl) m (fun R n vs k => ELp26_7 m R n vs k) (fun R vs k => rfl) (fun R n vs k x h => by
   simp only [ELp26_7] at h
   split at h
   ·exact (stLp26_7 m n R _ _ _ _ _ _ _ k).trans h
   ·cases h) fun R vs k x h => by
  unfold brLp26_7 at h
  split at h
  ·exact .inl ((eqLp26_7 m R _ _ _ _ k m _ _ _).trans h)
  ·exact .inr h

abbrev W44 (a0 : Abs.Rows) : List V := [.bor J7 a0]
/-- - -/
noncomputable def Fn26 {R : Type} (m : Nat) : Abs.Rows → (Int → Option R) → Option R := match m with
 | 0 => fun _ _ => none
 | m + 1 => fun r0 k =>
 bif decide ((↑(List.length r0) : Int) > (500 : Int)) then (k ((2 : Int))) else
 (Lp26_7 m (fun i1 r2 s3 i4 => k i1) (fun r5 s6 i7 => k ((0 : Int))) r0 ((0 : Int)) r0 ((↑(List.length r0) : Int)) m rows0 ({ data := #[] }) ((0 : Int)))
noncomputable def brFn26 (m : Nat) (T : Tbl) (R : Type) (vs : List V) (k : V → List V → Option R) : Option R := match vs with
 | [.bor [.str, .lst [.str]] r0] => Fn26 m r0 (fun i8 => k (V.f (F.lit (Value.int IntKind.i64 i8))) W17)
 | _ => T R 26 vs k

theorem evFn26 (m : Nat) (R : Type) (r0 : Abs.Rows) (k : V → List V → Option R) : runK Tryz.prog H (T31 m) (L18 m) 26 (W44 r0) k = Fn26 (m + 1) r0 (fun i8 => k (V.f (F.lit (Value.int IntKind.i64 i8))) W17) := by kernel_rfl
noncomputable def T32 (m : Nat) : Tbl := addT 26 (brFn26 m (T31 m)) (T31 m)
theorem okT32 (m : Nat) : TblOk Tryz.prog (T32 m) := addT_ok (okT31 m) fun R vs k x h => by
 unfold brFn26 at h
 split at h
 ·cases m with
  | zero => cases h
  | succ m => exact runK_some (okT31 m) hM (okL18 m) ((evFn26 m R _ k).trans h)
 ·exact okT31 m R 26 _ k x h

/-- - -/
noncomputable def Fn72 {R : Type} (m : Nat) : Int → (Bool → Option R) → Option R := match m with
 | 0 => fun _ _ => none
 | m + 1 => fun i0 k =>
 Fn70 m i0 ((0 : Int)) ((345686399999 : Int)) (fun b1 => k b1)
noncomputable def brFn72 (m : Nat) (T : Tbl) (R : Type) (vs : List V) (k : V → List V → Option R) : Option R := match vs with
 | [.f (.lit (.int .i64 i0))] => Fn72 m i0 (fun b2 => k (V.f (F.lit (Value.bool b2))) W17)
 | _ => T R 72 vs k

theorem evFn72 (m : Nat) (R : Type) (i0 : Int) (k : V → List V → Option R) : runK Tryz.prog H (T32 m) (L18 m) 72 (W18 i0) k = Fn72 (m + 1) i0 (fun b2 => k (V.f (F.lit (Value.bool b2))) W17) := by kernel_rfl
noncomputable def T33 (m : Nat) : Tbl := addT 72 (brFn72 m (T32 m)) (T32 m)
theorem okT33 (m : Nat) : TblOk Tryz.prog (T33 m) := addT_ok (okT32 m) fun R vs k x h => by
 unfold brFn72 at h
 split at h
 ·cases m with
  | zero => cases h
  | succ m => exact runK_some (okT32 m) hM (okL18 m) ((evFn72 m R _ k).trans h)
 ·exact okT32 m R 72 _ k x h

abbrev W45 (a0 : Abs.Rows) (a1 a2 : Int) (a3 a4 a5 : ByteArray) (a6 a7 a8 a9 : Int) (a10 : ByteArray) (a11 : Abs.Rows) (a12 a13 : Int) (a14 : Bool) : List V := [.bor J2 a0, .f (.lit (.int .i64 a1)), .f (.lit (.int .i64 a2)), .obj [.f (.lit (.string a3)), .f (.lit (.string a4)), .f (.lit (.string a5)), .f (.lit (.int .i64 a6)), .f (.lit (.int .i64 a7)), .f (.lit (.int .i64 a8)), .f (.lit (.int .i64 a9)), .f (.lit (.string a10))], .bor J2 a11, .f (.lit (.int .i64 a12)), .f (.lit (.int .i64 a13)), .f (.lit (.bool a14)), .undef]
/-- - -/
noncomputable def Jn28_19 {R : Type} (m : Nat) (kx0 : Int → Bool → Option R) (kx1 : Bool → Option R) (r0 : Abs.Rows) (i1 i2 : Int) (s3 s4 s5 : ByteArray) (i6 i7 i8 i9 : Int) (s10 : ByteArray) (r11 : Abs.Rows) (i12 i13 : Int) (b14 : Bool) : Option R :=
 bif b14 then (kx0 ((5 : Int)) true) else
 (bif decide (i2 > (0 : Int)) then (bif decide ((0 : Int) ≤ IntKind.wrap IntKind.i64 (i2 - (1 : Int)) ∧ IntKind.wrap IntKind.i64 (i2 - (1 : Int)) < (↑(List.length r0) : Int)) then (Fn73 m (fS r0 (Int.toNat (IntKind.wrap IntKind.i64 (i2 - (1 : Int)))) (0 : Nat)) (fS r0 (Int.toNat (IntKind.wrap IntKind.i64 (i2 - (1 : Int)))) (1 : Nat)) (fS r0 (Int.toNat (IntKind.wrap IntKind.i64 (i2 - (1 : Int)))) (2 : Nat)) (fI r0 (Int.toNat (IntKind.wrap IntKind.i64 (i2 - (1 : Int)))) (3 : Nat)) (fI r0 (Int.toNat (IntKind.wrap IntKind.i64 (i2 - (1 : Int)))) (4 : Nat)) (fI r0 (Int.toNat (IntKind.wrap IntKind.i64 (i2 - (1 : Int)))) (5 : Nat)) (fI r0 (Int.toNat (IntKind.wrap IntKind.i64 (i2 - (1 : Int)))) (6 : Nat)) (fS r0 (Int.toNat (IntKind.wrap IntKind.i64 (i2 - (1 : Int)))) (7 : Nat)) s3 s4 s5 i6 i7 i8 i9 s10 (fun i15 => bif decide (i15 ≥ (0 : Int)) then (kx0 ((7 : Int)) false) else
 (kx1 false))) else
 (none)) else
 (kx1 false))
noncomputable def brJn28_19 (m : Nat) (L : LTbl) (R : Type) (vs : List V) (k : Ex → List V → Option R) : Option R := match vs with
 | [.bor [.str, .str, .str, .int .i64, .int .i64, .int .i64, .int .i64, .str] r0, .f (.lit (.int .i64 i1)), .f (.lit (.int .i64 i2)), .obj [.f (.lit (.string s3)), .f (.lit (.string s4)), .f (.lit (.string s5)), .f (.lit (.int .i64 i6)), .f (.lit (.int .i64 i7)), .f (.lit (.int .i64 i8)), .f (.lit (.int .i64 i9)), .f (.lit (.string s10))], .bor [.str, .str, .str, .int .i64, .int .i64, .int .i64, .int .i64, .str] r11, .f (.lit (.int .i64 i12)), .f (.lit (.int .i64 i13)), .f (.lit (.bool b14)), .undef] => Jn28_19 m (fun i16 b17 => k Ex.ret (W45 r0 i16 i2 s3 s4 s5 i6 i7 i8 i9 s10 r11 i12 i13 b17)) (fun b18 => k Ex.normal (W45 r0 i1 i2 s3 s4 s5 i6 i7 i8 i9 s10 r11 i12 i13 b18)) r0 i1 i2 s3 s4 s5 i6 i7 i8 i9 s10 r11 i12 i13 b14
 | _ => L R 28 19 vs k

theorem evJn28_19 (m : Nat) (R : Type) (r0 : Abs.Rows) (i1 i2 : Int) (s3 s4 s5 : ByteArray) (i6 i7 i8 i9 : Int) (s10 : ByteArray) (r11 : Abs.Rows) (i12 i13 : Int) (b14 : Bool) (k : Ex → List V → Option R) : codeK Tryz.prog H (T33 m) 28 (L18 m) 20 (loopBody Tryz.prog 28 19) (mkEnv [0, 2, 3, 4, 11, 12, 13, 64, 104] (W45 r0 i1 i2 s3 s4 s5 i6 i7 i8 i9 s10 r11 i12 i13 b14) 0 (H.len 28)) (fun e env' => k e (vals [0, 2, 3, 4, 11, 12, 13, 64, 104] env')) = Jn28_19 m (fun i16 b17 => k Ex.ret (W45 r0 i16 i2 s3 s4 s5 i6 i7 i8 i9 s10 r11 i12 i13 b17)) (fun b18 => k Ex.normal (W45 r0 i1 i2 s3 s4 s5 i6 i7 i8 i9 s10 r11 i12 i13 b18)) r0 i1 i2 s3 s4 s5 i6 i7 i8 i9 s10 r11 i12 i13 b14 := by kernel_rfl
noncomputable def L19 (m : Nat) : LTbl := addJ 28 19 (brJn28_19 m (L18 m)) (L18 m)
theorem okL19 (m : Nat) : LTOk Tryz.prog H (L19 m) := addJ_ok (okT33 m) hM (okL18 m) (l := [0, 2, 3, 4, 11, 12, 13, 64, 104]) (by kernel_rfl) (by kernel_rfl) fun R vs k x h => by
  unfold brJn28_19 at h
  split at h
  ·exact .inl ((evJn28_19 m R _ _ _ _ _ _ _ _ _ _ _ _ _ _ _ k).trans h)
  ·exact .inr h

abbrev W46 (a0 : Abs.Rows) (a1 a2 : Int) (a3 a4 a5 : ByteArray) (a6 a7 a8 a9 : Int) (a10 : ByteArray) (a11 : Abs.Rows) (a12 a13 : Int) : List V := [.bor J2 a0, .f (.lit (.int .i64 a1)), .f (.lit (.int .i64 a2)), .obj [.f (.lit (.string a3)), .f (.lit (.string a4)), .f (.lit (.string a5)), .f (.lit (.int .i64 a6)), .f (.lit (.int .i64 a7)), .f (.lit (.int .i64 a8)), .f (.lit (.int .i64 a9)), .f (.lit (.string a10))], .bor J2 a11, .f (.lit (.int .i64 a12)), .f (.lit (.int .i64 a13)), .undef, .undef]
/-- - -/
noncomputable def Jn28_13 {R : Type} (m : Nat) (kx0 : Int → Bool → Option R) (kx1 : Int → Option R) (kx2 : Option R) (r0 : Abs.Rows) (i1 i2 : Int) (s3 s4 s5 : ByteArray) (i6 i7 i8 i9 : Int) (s10 : ByteArray) (r11 : Abs.Rows) (i12 i13 : Int) (b14 : Bool) : Option R :=
 bif b14 then (kx0 ((1 : Int)) true) else
 (Fn70 m i9 ((1 : Int)) ((4 : Int)) (fun b15 => bif !b15 then (kx0 ((4 : Int)) false) else
 (bif !(i9 == (1 : Int)) == decide (i8 > (0 : Int)) then (kx0 ((3 : Int)) false) else
 (bif !ByteArray.toList s10 == ByteArray.toList { data := #[] } then (Fn34 m s10 (fun b16 => Jn28_19 m (fun i17 b18 => kx1 i17) (fun b19 => kx2 ) r0 i1 i2 s3 s4 s5 i6 i7 i8 i9 s10 r11 i12 i13 (!b16))) else
 (Jn28_19 m (fun i20 b21 => kx1 i20) (fun b22 => kx2 ) r0 i1 i2 s3 s4 s5 i6 i7 i8 i9 s10 r11 i12 i13 false)))))
noncomputable def brJn28_13 (m : Nat) (L : LTbl) (R : Type) (vs : List V) (k : Ex → List V → Option R) : Option R := match vs with
 | [.bor [.str, .str, .str, .int .i64, .int .i64, .int .i64, .int .i64, .str] r0, .f (.lit (.int .i64 i1)), .f (.lit (.int .i64 i2)), .obj [.f (.lit (.string s3)), .f (.lit (.string s4)), .f (.lit (.string s5)), .f (.lit (.int .i64 i6)), .f (.lit (.int .i64 i7)), .f (.lit (.int .i64 i8)), .f (.lit (.int .i64 i9)), .f (.lit (.string s10))], .bor [.str, .str, .str, .int .i64, .int .i64, .int .i64, .int .i64, .str] r11, .f (.lit (.int .i64 i12)), .f (.lit (.int .i64 i13)), .f (.lit (.bool b14)), .undef] => Jn28_13 m (fun i23 b24 => k Ex.ret (W45 r0 i23 i2 s3 s4 s5 i6 i7 i8 i9 s10 r11 i12 i13 b24)) (fun i25 => k Ex.ret (W46 r0 i25 i2 s3 s4 s5 i6 i7 i8 i9 s10 r11 i12 i13)) (k Ex.normal (W46 r0 i1 i2 s3 s4 s5 i6 i7 i8 i9 s10 r11 i12 i13)) r0 i1 i2 s3 s4 s5 i6 i7 i8 i9 s10 r11 i12 i13 b14
 | _ => L R 28 13 vs k

theorem evJn28_13 (m : Nat) (R : Type) (r0 : Abs.Rows) (i1 i2 : Int) (s3 s4 s5 : ByteArray) (i6 i7 i8 i9 : Int) (s10 : ByteArray) (r11 : Abs.Rows) (i12 i13 : Int) (b14 : Bool) (k : Ex → List V → Option R) : codeK Tryz.prog H (T33 m) 28 (L19 m) 14 (loopBody Tryz.prog 28 13) (mkEnv [0, 2, 3, 4, 11, 12, 13, 34, 104] (W45 r0 i1 i2 s3 s4 s5 i6 i7 i8 i9 s10 r11 i12 i13 b14) 0 (H.len 28)) (fun e env' => k e (vals [0, 2, 3, 4, 11, 12, 13, 34, 104] env')) = Jn28_13 m (fun i23 b24 => k Ex.ret (W45 r0 i23 i2 s3 s4 s5 i6 i7 i8 i9 s10 r11 i12 i13 b24)) (fun i25 => k Ex.ret (W46 r0 i25 i2 s3 s4 s5 i6 i7 i8 i9 s10 r11 i12 i13)) (k Ex.normal (W46 r0 i1 i2 s3 s4 s5 i6 i7 i8 i9 s10 r11 i12 i13)) r0 i1 i2 s3 s4 s5 i6 i7 i8 i9 s10 r11 i12 i13 b14 := by kernel_rfl
noncomputable def L20 (m : Nat) : LTbl := addJ 28 13 (brJn28_13 m (L19 m)) (L19 m)
theorem okL20 (m : Nat) : LTOk Tryz.prog H (L20 m) := addJ_ok (okT33 m) hM (okL19 m) (l := [0, 2, 3, 4, 11, 12, 13, 34, 104]) (by kernel_rfl) (by kernel_rfl) fun R vs k x h => by
  unfold brJn28_13 at h
  split at h
  ·exact .inl ((evJn28_13 m R _ _ _ _ _ _ _ _ _ _ _ _ _ _ _ k).trans h)
  ·exact .inr h

/-- - -/
noncomputable def Jn28_11 {R : Type} (m : Nat) (kx0 : Int → Bool → Option R) (kx1 : Int → Option R) (kx2 : Option R) (r0 : Abs.Rows) (i1 i2 : Int) (s3 s4 s5 : ByteArray) (i6 i7 i8 i9 : Int) (s10 : ByteArray) (r11 : Abs.Rows) (i12 i13 : Int) (b14 : Bool) : Option R :=
 bif b14 then (kx0 ((3 : Int)) true) else
 (Fn72 m i6 (fun b15 => bif !b15 then (Jn28_13 m (fun i16 b17 => kx1 i16) (fun i18 => kx1 i18) (kx2 ) r0 i1 i2 s3 s4 s5 i6 i7 i8 i9 s10 r11 i12 i13 true) else
 (Fn70 m i7 ((0 : Int)) ((86400000 : Int)) (fun b19 => bif !b19 then (Jn28_13 m (fun i20 b21 => kx1 i20) (fun i22 => kx1 i22) (kx2 ) r0 i1 i2 s3 s4 s5 i6 i7 i8 i9 s10 r11 i12 i13 true) else
 (Fn70 m i8 ((0 : Int)) ((86400000 : Int)) (fun b23 => Jn28_13 m (fun i24 b25 => kx1 i24) (fun i26 => kx1 i26) (kx2 ) r0 i1 i2 s3 s4 s5 i6 i7 i8 i9 s10 r11 i12 i13 (!b23)))))))
noncomputable def brJn28_11 (m : Nat) (L : LTbl) (R : Type) (vs : List V) (k : Ex → List V → Option R) : Option R := match vs with
 | [.bor [.str, .str, .str, .int .i64, .int .i64, .int .i64, .int .i64, .str] r0, .f (.lit (.int .i64 i1)), .f (.lit (.int .i64 i2)), .obj [.f (.lit (.string s3)), .f (.lit (.string s4)), .f (.lit (.string s5)), .f (.lit (.int .i64 i6)), .f (.lit (.int .i64 i7)), .f (.lit (.int .i64 i8)), .f (.lit (.int .i64 i9)), .f (.lit (.string s10))], .bor [.str, .str, .str, .int .i64, .int .i64, .int .i64, .int .i64, .str] r11, .f (.lit (.int .i64 i12)), .f (.lit (.int .i64 i13)), .f (.lit (.bool b14)), .undef] => Jn28_11 m (fun i27 b28 => k Ex.ret (W45 r0 i27 i2 s3 s4 s5 i6 i7 i8 i9 s10 r11 i12 i13 b28)) (fun i29 => k Ex.ret (W46 r0 i29 i2 s3 s4 s5 i6 i7 i8 i9 s10 r11 i12 i13)) (k Ex.normal (W46 r0 i1 i2 s3 s4 s5 i6 i7 i8 i9 s10 r11 i12 i13)) r0 i1 i2 s3 s4 s5 i6 i7 i8 i9 s10 r11 i12 i13 b14
 | _ => L R 28 11 vs k

theorem evJn28_11 (m : Nat) (R : Type) (r0 : Abs.Rows) (i1 i2 : Int) (s3 s4 s5 : ByteArray) (i6 i7 i8 i9 : Int) (s10 : ByteArray) (r11 : Abs.Rows) (i12 i13 : Int) (b14 : Bool) (k : Ex → List V → Option R) : codeK Tryz.prog H (T33 m) 28 (L20 m) 12 (loopBody Tryz.prog 28 11) (mkEnv [0, 2, 3, 4, 11, 12, 13, 23, 104] (W45 r0 i1 i2 s3 s4 s5 i6 i7 i8 i9 s10 r11 i12 i13 b14) 0 (H.len 28)) (fun e env' => k e (vals [0, 2, 3, 4, 11, 12, 13, 23, 104] env')) = Jn28_11 m (fun i27 b28 => k Ex.ret (W45 r0 i27 i2 s3 s4 s5 i6 i7 i8 i9 s10 r11 i12 i13 b28)) (fun i29 => k Ex.ret (W46 r0 i29 i2 s3 s4 s5 i6 i7 i8 i9 s10 r11 i12 i13)) (k Ex.normal (W46 r0 i1 i2 s3 s4 s5 i6 i7 i8 i9 s10 r11 i12 i13)) r0 i1 i2 s3 s4 s5 i6 i7 i8 i9 s10 r11 i12 i13 b14 := by kernel_rfl
noncomputable def L21 (m : Nat) : LTbl := addJ 28 11 (brJn28_11 m (L20 m)) (L20 m)
theorem okL21 (m : Nat) : LTOk Tryz.prog H (L21 m) := addJ_ok (okT33 m) hM (okL20 m) (l := [0, 2, 3, 4, 11, 12, 13, 23, 104]) (by kernel_rfl) (by kernel_rfl) fun R vs k x h => by
  unfold brJn28_11 at h
  split at h
  ·exact .inl ((evJn28_11 m R _ _ _ _ _ _ _ _ _ _ _ _ _ _ _ k).trans h)
  ·exact .inr h

abbrev W47 (a0 : Abs.Rows) (a1 : Int) (a2 : Abs.Rows) (a3 a4 : Int) : List V := [.bor J2 a0, .f (.lit (.int .i64 a1)), .bor J2 a2, .f (.lit (.int .i64 a3)), .f (.lit (.int .i64 a4)), .undef]
/-- - -/
noncomputable def Lp28_5_step {R : Type} (m : Nat) (kx0 : Int → Int → Option R) (kx1 : Int → Option R) (r0 : Abs.Rows) (i1 : Int) (r2 : Abs.Rows) (i3 : Int) (REC : Int → Option R) (i4 : Int) : Option R :=
 bif decide (i4 < i3) then (bif decide ((0 : Int) ≤ i4 ∧ i4 < (↑(List.length r2) : Int)) then (Fn34 m (fS r2 (Int.toNat i4) (0 : Nat)) (fun b5 => bif !b5 then (kx0 ((5 : Int)) i4) else
 (Fn71 m (fS r2 (Int.toNat i4) (1 : Nat)) (fun b6 => bif !b6 then (Jn28_11 m (fun i7 b8 => kx0 i7 i4) (fun i9 => kx0 i9 i4) (REC (IntKind.wrap IntKind.i64 (i4 + (1 : Int)))) r0 i1 i4 (fS r2 (Int.toNat i4) (0 : Nat)) (fS r2 (Int.toNat i4) (1 : Nat)) (fS r2 (Int.toNat i4) (2 : Nat)) (fI r2 (Int.toNat i4) (3 : Nat)) (fI r2 (Int.toNat i4) (4 : Nat)) (fI r2 (Int.toNat i4) (5 : Nat)) (fI r2 (Int.toNat i4) (6 : Nat)) (fS r2 (Int.toNat i4) (7 : Nat)) r2 i3 i4 true) else
 (Fn71 m (fS r2 (Int.toNat i4) (2 : Nat)) (fun b10 => Jn28_11 m (fun i11 b12 => kx0 i11 i4) (fun i13 => kx0 i13 i4) (REC (IntKind.wrap IntKind.i64 (i4 + (1 : Int)))) r0 i1 i4 (fS r2 (Int.toNat i4) (0 : Nat)) (fS r2 (Int.toNat i4) (1 : Nat)) (fS r2 (Int.toNat i4) (2 : Nat)) (fI r2 (Int.toNat i4) (3 : Nat)) (fI r2 (Int.toNat i4) (4 : Nat)) (fI r2 (Int.toNat i4) (5 : Nat)) (fI r2 (Int.toNat i4) (6 : Nat)) (fS r2 (Int.toNat i4) (7 : Nat)) r2 i3 i4 (!b10))))))) else
 (none)) else
 (kx1 i4)
noncomputable def Lp28_5 {R : Type} (m : Nat) (kx0 : Int → Int → Option R) (kx1 : Int → Option R) (r0 : Abs.Rows) (i1 : Int) (r2 : Abs.Rows) (i3 : Int) : Nat → Int → Option R
 | 0, _ => none
 | n + 1, i4 => Lp28_5_step m kx0 kx1 r0 i1 r2 i3 (Lp28_5 m kx0 kx1 r0 i1 r2 i3 n) i4
noncomputable def ELp28_5 (m : Nat) (R : Type) : Nat → List V → (Ex → List V → Option R) → Option R
 | 0, _, _ => none
 | n + 1, vs, k => match vs with
  | [.bor [.str, .str, .str, .int .i64, .int .i64, .int .i64, .int .i64, .str] r0, .f (.lit (.int .i64 i1)), .bor [.str, .str, .str, .int .i64, .int .i64, .int .i64, .int .i64, .str] r2, .f (.lit (.int .i64 i3)), .f (.lit (.int .i64 i4)), .undef] => Lp28_5_step m (fun i14 i15 => k Ex.ret (W47 r0 i14 r2 i3 i15)) (fun i16 => k (Ex.exit (0 : Nat)) (W47 r0 i1 r2 i3 i16)) r0 i1 r2 i3 (fun i4 => ELp28_5 m R n (W47 r0 i1 r2 i3 i4) k) i4
  | _ => none
noncomputable def brLp28_5 (m : Nat) (L : LTbl) (R : Type) (vs : List V) (k : Ex → List V → Option R) : Option R := match vs with
 | [.bor [.str, .str, .str, .int .i64, .int .i64, .int .i64, .int .i64, .str] r0, .f (.lit (.int .i64 i1)), .bor [.str, .str, .str, .int .i64, .int .i64, .int .i64, .int .i64, .str] r2, .f (.lit (.int .i64 i3)), .f (.lit (.int .i64 i4)), .undef] => Lp28_5 m (fun i14 i15 => k Ex.ret (W47 r0 i14 r2 i3 i15)) (fun i16 => k (Ex.exit (0 : Nat)) (W47 r0 i1 r2 i3 i16)) r0 i1 r2 i3 m i4
 | _ => L R 28 5 vs k

theorem stLp28_5 (m n : Nat) (R : Type) (r0 : Abs.Rows) (i1 : Int) (r2 : Abs.Rows) (i3 i4 : Int) (k : Ex → List V → Option R) : codeK Tryz.prog H (T33 m) 28 (L21 m) 6 (loopBody Tryz.prog 28 5) (mkEnv [0, 2, 11, 12, 13, 104] (W47 r0 i1 r2 i3 i4) 0 (H.len 28)) (fun e env' => match e with | .normal => ELp28_5 m R n (vals [0, 2, 11, 12, 13, 104] env') k | e => k e (vals [0, 2, 11, 12, 13, 104] env')) = Lp28_5_step m (fun i14 i15 => k Ex.ret (W47 r0 i14 r2 i3 i15)) (fun i16 => k (Ex.exit (0 : Nat)) (W47 r0 i1 r2 i3 i16)) r0 i1 r2 i3 (fun i4 => ELp28_5 m R n (W47 r0 i1 r2 i3 i4) k) i4 := by kernel_rfl
theorem eqLp28_5 (m : Nat) (R : Type) (r0 : Abs.Rows) (i1 : Int) (r2 : Abs.Rows) (i3 : Int) (k : Ex → List V → Option R) : ∀ (n : Nat) (i4 : Int), ELp28_5 m R n (W47 r0 i1 r2 i3 i4) k = Lp28_5 m (fun i14 i15 => k Ex.ret (W47 r0 i14 r2 i3 i15)) (fun i16 => k (Ex.exit (0 : Nat)) (W47 r0 i1 r2 i3 i16)) r0 i1 r2 i3 n i4
 | 0, _ => rfl
 | n + 1, i4 => by
  simp only [ELp28_5, Lp28_5, W47]
  congr 1
  funext i4
  exact eqLp28_5 m R r0 i1 r2 i3 k n i4
noncomputable def L22 (m : Nat) : LTbl := addB 28 5 (brLp28_5 m (L21 m)) (L21 m)
theorem okL22 (m : Nat) : LTOk Tryz.prog H (L22 m) := addB_ok (okT33 m) hM (okL21 m) (l := [0, 2, 11, 12, 13, 104]) (by kernel_rfl) (by kernel_rfl) m (fun R n vs k => ELp28_5 m R n vs k) (fun R vs k => rfl) (fun R n vs k x h => by
   simp only [ELp28_5] at h
   split at h
   ·exact (stLp28_5 m n R _ _ _ _ _ k).trans h
   ·cases h) fun R vs k x h => by
  unfold brLp28_5 at h
  split at h
  ·exact .inl ((eqLp28_5 m R _ _ _ _ k m _).trans h)
  ·exact .inr h

abbrev W48 (a0 a1 a2 : Abs.Rows) (a3 a4 : Int) : List V := [.bor J2 a0, .own J8 a1, .undef, .bor J2 a2, .f (.lit (.int .i64 a3)), .f (.lit (.int .i64 a4)), .undef]
/-- - -/
noncomputable def Lp28_27_step {R : Type} (m : Nat) (kx0 : Abs.Rows → Int → Option R) (r0 r1 : Abs.Rows) (i2 : Int) (REC : Abs.Rows → Int → Option R) (r3 : Abs.Rows) (i4 : Int) : Option R :=
 bif decide (i4 < i2) then (bif decide ((0 : Int) ≤ i4 ∧ i4 < (↑(List.length r1) : Int)) then (bif decide (List.length r3 < rowMax) then (REC (mPut (F.lit (Value.string (fS r1 (Int.toNat i4) (0 : Nat)))) [F.lit (Value.bool true)] r3) (IntKind.wrap IntKind.i64 (i4 + (1 : Int)))) else
 (none)) else
 (none)) else
 (kx0 r3 i4)
noncomputable def Lp28_27 {R : Type} (m : Nat) (kx0 : Abs.Rows → Int → Option R) (r0 r1 : Abs.Rows) (i2 : Int) : Nat → Abs.Rows → Int → Option R
 | 0, _, _ => none
 | n + 1, r3, i4 => Lp28_27_step m kx0 r0 r1 i2 (Lp28_27 m kx0 r0 r1 i2 n) r3 i4
noncomputable def ELp28_27 (m : Nat) (R : Type) : Nat → List V → (Ex → List V → Option R) → Option R
 | 0, _, _ => none
 | n + 1, vs, k => match vs with
  | [.bor [.str, .str, .str, .int .i64, .int .i64, .int .i64, .int .i64, .str] r0, .own [.mp false, .str, .bool] r3, .undef, .bor [.str, .str, .str, .int .i64, .int .i64, .int .i64, .int .i64, .str] r1, .f (.lit (.int .i64 i2)), .f (.lit (.int .i64 i4)), .undef] => Lp28_27_step m (fun r5 i6 => k (Ex.exit (3 : Nat)) (W48 r0 r5 r1 i2 i6)) r0 r1 i2 (fun r3 i4 => ELp28_27 m R n (W48 r0 r3 r1 i2 i4) k) r3 i4
  | _ => none
noncomputable def brLp28_27 (m : Nat) (L : LTbl) (R : Type) (vs : List V) (k : Ex → List V → Option R) : Option R := match vs with
 | [.bor [.str, .str, .str, .int .i64, .int .i64, .int .i64, .int .i64, .str] r0, .own [.mp false, .str, .bool] r3, .undef, .bor [.str, .str, .str, .int .i64, .int .i64, .int .i64, .int .i64, .str] r1, .f (.lit (.int .i64 i2)), .f (.lit (.int .i64 i4)), .undef] => Lp28_27 m (fun r5 i6 => k (Ex.exit (3 : Nat)) (W48 r0 r5 r1 i2 i6)) r0 r1 i2 m r3 i4
 | _ => L R 28 27 vs k

theorem stLp28_27 (m n : Nat) (R : Type) (r0 r3 r1 : Abs.Rows) (i2 i4 : Int) (k : Ex → List V → Option R) : codeK Tryz.prog H (T33 m) 28 (L22 m) 28 (loopBody Tryz.prog 28 27) (mkEnv [0, 5, 88, 89, 90, 91, 104] (W48 r0 r3 r1 i2 i4) 0 (H.len 28)) (fun e env' => match e with | .normal => ELp28_27 m R n (vals [0, 5, 88, 89, 90, 91, 104] env') k | e => k e (vals [0, 5, 88, 89, 90, 91, 104] env')) = Lp28_27_step m (fun r5 i6 => k (Ex.exit (3 : Nat)) (W48 r0 r5 r1 i2 i6)) r0 r1 i2 (fun r3 i4 => ELp28_27 m R n (W48 r0 r3 r1 i2 i4) k) r3 i4 := by kernel_rfl
theorem eqLp28_27 (m : Nat) (R : Type) (r0 r1 : Abs.Rows) (i2 : Int) (k : Ex → List V → Option R) : ∀ (n : Nat) (r3 : Abs.Rows) (i4 : Int), ELp28_27 m R n (W48 r0 r3 r1 i2 i4) k = Lp28_27 m (fun r5 i6 => k (Ex.exit (3 : Nat)) (W48 r0 r5 r1 i2 i6)) r0 r1 i2 n r3 i4
 | 0, _, _ => rfl
 | n + 1, r3, i4 => by
  simp only [ELp28_27, Lp28_27, W48]
  congr 1
  funext r3 i4
  exact eqLp28_27 m R r0 r1 i2 k n r3 i4
noncomputable def L23 (m : Nat) : LTbl := addB 28 27 (brLp28_27 m (L22 m)) (L22 m)
theorem okL23 (m : Nat) : LTOk Tryz.prog H (L23 m) := addB_ok (okT33 m) hM (okL22 m) (l := [0, 5, 88, 89, 90, 91, 104]) (by kernel_rfl) (by kernel_rfl) m (fun R n vs k => ELp28_27 m R n vs k) (fun R vs k => rfl) (fun R n vs k x h => by
   simp only [ELp28_27] at h
   split at h
   ·exact (stLp28_27 m n R _ _ _ _ _ k).trans h
   ·cases h) fun R vs k x h => by
  unfold brLp28_27 at h
  split at h
  ·exact .inl ((eqLp28_27 m R _ _ _ k m _ _).trans h)
  ·exact .inr h

abbrev W49 (a0 : Abs.Rows) : List V := [.bor J2 a0]
/-- - -/
noncomputable def Fn28 {R : Type} (m : Nat) : Abs.Rows → (Int → Option R) → Option R := match m with
 | 0 => fun _ _ => none
 | m + 1 => fun r0 k =>
 bif decide ((↑(List.length r0) : Int) > (3000 : Int)) then (k ((2 : Int))) else
 (Lp28_5 m (fun i1 i2 => k i1) (fun i3 => Lp28_27 m (fun r4 i5 => bif decide ((↑(List.length r4) : Int) < (↑(List.length r0) : Int)) then (k ((6 : Int))) else
 (k ((0 : Int)))) r0 r0 ((↑(List.length r0) : Int)) m rows0 ((0 : Int))) r0 ((0 : Int)) r0 ((↑(List.length r0) : Int)) m ((0 : Int)))
noncomputable def brFn28 (m : Nat) (T : Tbl) (R : Type) (vs : List V) (k : V → List V → Option R) : Option R := match vs with
 | [.bor [.str, .str, .str, .int .i64, .int .i64, .int .i64, .int .i64, .str] r0] => Fn28 m r0 (fun i6 => k (V.f (F.lit (Value.int IntKind.i64 i6))) W17)
 | _ => T R 28 vs k

theorem evFn28 (m : Nat) (R : Type) (r0 : Abs.Rows) (k : V → List V → Option R) : runK Tryz.prog H (T33 m) (L23 m) 28 (W49 r0) k = Fn28 (m + 1) r0 (fun i6 => k (V.f (F.lit (Value.int IntKind.i64 i6))) W17) := by kernel_rfl
noncomputable def T34 (m : Nat) : Tbl := addT 28 (brFn28 m (T33 m)) (T33 m)
theorem okT34 (m : Nat) : TblOk Tryz.prog (T34 m) := addT_ok (okT33 m) fun R vs k x h => by
 unfold brFn28 at h
 split at h
 ·cases m with
  | zero => cases h
  | succ m => exact runK_some (okT33 m) hM (okL23 m) ((evFn28 m R _ k).trans h)
 ·exact okT33 m R 28 _ k x h

abbrev W50 (a0 : Abs.Rows) (a1 : Int) (a2 : Abs.Rows) (a3 a4 : Int) : List V := [.bor J1 a0, .f (.lit (.int .i64 a1)), .bor J1 a2, .f (.lit (.int .i64 a3)), .f (.lit (.int .i64 a4)), .undef]
/-- - -/
noncomputable def Lp13_2_step {R : Type} (m : Nat) (kx0 : Int → Int → Option R) (kx1 : Int → Option R) (r0 : Abs.Rows) (i1 : Int) (r2 : Abs.Rows) (i3 : Int) (REC : Int → Option R) (i4 : Int) : Option R :=
 bif decide (i4 < i3) then (bif decide ((0 : Int) ≤ i4 ∧ i4 < (↑(List.length r2) : Int)) then (bif fI r2 (Int.toNat i4) (0 : Nat) != (0 : Int) then (kx0 (fI r2 (Int.toNat i4) (0 : Nat)) i4) else
 (REC (IntKind.wrap IntKind.i64 (i4 + (1 : Int))))) else
 (none)) else
 (kx1 i4)
noncomputable def Lp13_2 {R : Type} (m : Nat) (kx0 : Int → Int → Option R) (kx1 : Int → Option R) (r0 : Abs.Rows) (i1 : Int) (r2 : Abs.Rows) (i3 : Int) : Nat → Int → Option R
 | 0, _ => none
 | n + 1, i4 => Lp13_2_step m kx0 kx1 r0 i1 r2 i3 (Lp13_2 m kx0 kx1 r0 i1 r2 i3 n) i4
noncomputable def ELp13_2 (m : Nat) (R : Type) : Nat → List V → (Ex → List V → Option R) → Option R
 | 0, _, _ => none
 | n + 1, vs, k => match vs with
  | [.bor [.int .i64] r0, .f (.lit (.int .i64 i1)), .bor [.int .i64] r2, .f (.lit (.int .i64 i3)), .f (.lit (.int .i64 i4)), .undef] => Lp13_2_step m (fun i5 i6 => k Ex.ret (W50 r0 i5 r2 i3 i6)) (fun i7 => k (Ex.exit (0 : Nat)) (W50 r0 i1 r2 i3 i7)) r0 i1 r2 i3 (fun i4 => ELp13_2 m R n (W50 r0 i1 r2 i3 i4) k) i4
  | _ => none
noncomputable def brLp13_2 (m : Nat) (L : LTbl) (R : Type) (vs : List V) (k : Ex → List V → Option R) : Option R := match vs with
 | [.bor [.int .i64] r0, .f (.lit (.int .i64 i1)), .bor [.int .i64] r2, .f (.lit (.int .i64 i3)), .f (.lit (.int .i64 i4)), .undef] => Lp13_2 m (fun i5 i6 => k Ex.ret (W50 r0 i5 r2 i3 i6)) (fun i7 => k (Ex.exit (0 : Nat)) (W50 r0 i1 r2 i3 i7)) r0 i1 r2 i3 m i4
 | _ => L R 13 2 vs k

theorem stLp13_2 (m n : Nat) (R : Type) (r0 : Abs.Rows) (i1 : Int) (r2 : Abs.Rows) (i3 i4 : Int) (k : Ex → List V → Option R) : codeK Tryz.prog H (T34 m) 13 (L23 m) 3 (loopBody Tryz.prog 13 2) (mkEnv [0, 2, 5, 6, 7, 15] (W50 r0 i1 r2 i3 i4) 0 (H.len 13)) (fun e env' => match e with | .normal => ELp13_2 m R n (vals [0, 2, 5, 6, 7, 15] env') k | e => k e (vals [0, 2, 5, 6, 7, 15] env')) = Lp13_2_step m (fun i5 i6 => k Ex.ret (W50 r0 i5 r2 i3 i6)) (fun i7 => k (Ex.exit (0 : Nat)) (W50 r0 i1 r2 i3 i7)) r0 i1 r2 i3 (fun i4 => ELp13_2 m R n (W50 r0 i1 r2 i3 i4) k) i4 := by kernel_rfl
theorem eqLp13_2 (m : Nat) (R : Type) (r0 : Abs.Rows) (i1 : Int) (r2 : Abs.Rows) (i3 : Int) (k : Ex → List V → Option R) : ∀ (n : Nat) (i4 : Int), ELp13_2 m R n (W50 r0 i1 r2 i3 i4) k = Lp13_2 m (fun i5 i6 => k Ex.ret (W50 r0 i5 r2 i3 i6)) (fun i7 => k (Ex.exit (0 : Nat)) (W50 r0 i1 r2 i3 i7)) r0 i1 r2 i3 n i4
 | 0, _ => rfl
 | n + 1, i4 => by
  simp only [ELp13_2, Lp13_2, W50]
  congr 1
  funext i4
  exact eqLp13_2 m R r0 i1 r2 i3 k n i4
noncomputable def L24 (m : Nat) : LTbl := addB 13 2 (brLp13_2 m (L23 m)) (L23 m)
theorem okL24 (m : Nat) : LTOk Tryz.prog H (L24 m) := addB_ok (okT34 m) hM (okL23 m) (l := [0, 2, 5, 6, 7, 15]) (by kernel_rfl) (by kernel_rfl) m (fun R n vs k => ELp13_2 m R n vs k) (fun R vs k => rfl) (fun R n vs k x h => by
   simp only [ELp13_2] at h
   split at h
   ·exact (stLp13_2 m n R _ _ _ _ _ k).trans h
   ·cases h) fun R vs k x h => by
  unfold brLp13_2 at h
  split at h
  ·exact .inl ((eqLp13_2 m R _ _ _ _ k m _).trans h)
  ·exact .inr h

abbrev W51 (a0 : Abs.Rows) : List V := [.bor J1 a0]
/-- - -/
noncomputable def Fn13 {R : Type} (m : Nat) : Abs.Rows → (Int → Option R) → Option R := match m with
 | 0 => fun _ _ => none
 | m + 1 => fun r0 k =>
 Lp13_2 m (fun i1 i2 => k i1) (fun i3 => k ((0 : Int))) r0 ((0 : Int)) r0 ((↑(List.length r0) : Int)) m ((0 : Int))
noncomputable def brFn13 (m : Nat) (T : Tbl) (R : Type) (vs : List V) (k : V → List V → Option R) : Option R := match vs with
 | [.bor [.int .i64] r0] => Fn13 m r0 (fun i4 => k (V.f (F.lit (Value.int IntKind.i64 i4))) W17)
 | _ => T R 13 vs k

theorem evFn13 (m : Nat) (R : Type) (r0 : Abs.Rows) (k : V → List V → Option R) : runK Tryz.prog H (T34 m) (L24 m) 13 (W51 r0) k = Fn13 (m + 1) r0 (fun i4 => k (V.f (F.lit (Value.int IntKind.i64 i4))) W17) := by kernel_rfl
noncomputable def T35 (m : Nat) : Tbl := addT 13 (brFn13 m (T34 m)) (T34 m)
theorem okT35 (m : Nat) : TblOk Tryz.prog (T35 m) := addT_ok (okT34 m) fun R vs k x h => by
 unfold brFn13 at h
 split at h
 ·cases m with
  | zero => cases h
  | succ m => exact runK_some (okT34 m) hM (okL24 m) ((evFn13 m R _ k).trans h)
 ·exact okT34 m R 13 _ k x h

abbrev W52 (a0 : Abs.Rows) (a1 : Int) (a2 a3 a4 : Abs.Rows) (a5 : Int) : List V := [.agg [.f (.lst J4 a0), .f (.lit (.int .i64 a1)), .f (.lst J3 a2)], .own J7 a3, .own J2 a4, .f (.lit (.int .i64 a5))]
/-- - -/
noncomputable def Fn7 {R : Type} (m : Nat) : Abs.Rows → Int → Int → (Abs.Rows → Int → Abs.Rows → Abs.Rows → Abs.Rows → Int → Int → Option R) → Option R := match m with
 | 0 => fun _ _ _ _ => none
 | m + 1 => fun r0 i1 i2 k =>
 Fn37 m r0 i1 (fun r3 i4 r5 i6 => Fn52 m r0 i6 (fun r7 i8 => Fn43 m r0 i8 i2 (fun r9 i10 => Fn25 m r3 i4 r5 (fun i11 => Fn26 m r7 (fun i12 => Fn28 m r9 (fun i13 => Fn13 m ([[F.lit (Value.int IntKind.i64 i11)], [F.lit (Value.int IntKind.i64 i12)], [F.lit (Value.int IntKind.i64 i13)]]) (fun i14 => k r3 i4 r5 r7 r9 i14 i10)))))))
noncomputable def brFn7 (m : Nat) (T : Tbl) (R : Type) (vs : List V) (k : V → List V → Option R) : Option R := match vs with
 | [.obj [.f (.lst [.int .i64] r0), .f (.lit (.int .i64 i1))], .f (.lit (.int .i64 i2))] => Fn7 m r0 i1 i2 (fun r15 i16 r17 r18 r19 i20 i21 => k (V.tup (W52 r15 i16 r17 r18 r19 i20)) (W3 r0 i21))
 | _ => T R 7 vs k

theorem evFn7 (m : Nat) (R : Type) (r0 : Abs.Rows) (i1 i2 : Int) (k : V → List V → Option R) : runK Tryz.prog H (T35 m) (L24 m) 7 (W4 r0 i1 i2) k = Fn7 (m + 1) r0 i1 i2 (fun r15 i16 r17 r18 r19 i20 i21 => k (V.tup (W52 r15 i16 r17 r18 r19 i20)) (W3 r0 i21)) := by kernel_rfl
noncomputable def T36 (m : Nat) : Tbl := addT 7 (brFn7 m (T35 m)) (T35 m)
theorem okT36 (m : Nat) : TblOk Tryz.prog (T36 m) := addT_ok (okT35 m) fun R vs k x h => by
 unfold brFn7 at h
 split at h
 ·cases m with
  | zero => cases h
  | succ m => exact runK_some (okT35 m) hM (okL24 m) ((evFn7 m R _ _ _ k).trans h)
 ·exact okT35 m R 7 _ k x h

abbrev W53 (a0 a1 : Abs.Rows) (a2 a3 : Int) (a4 : Abs.Rows) (a5 : Int) : List V := [.ref 33 0, .own J5 a0, .own J3 a1, .f (.lit (.int .i64 a2)), .f (.lit (.int .i64 a3)), .obj [.f (.lst J1 a4), .f (.lit (.int .i64 a5))]]
/-- - -/
noncomputable def Lp64_3_step {R : Type} (m : Nat) (kx0 : Abs.Rows → Int → Int → Option R) (r0 : Abs.Rows) (i1 : Int) (r2 : Abs.Rows) (REC : Abs.Rows → Int → Int → Option R) (r3 : Abs.Rows) (i4 i5 : Int) : Option R :=
 bif decide (i4 < i1) then (bif decide ((0 : Int) ≤ i4 ∧ i4 < (↑(List.length r0) : Int)) then (Fn44 m r2 i5 ((2 : Int)) (fun b6 i7 => bif b6 then (Fn9 m r2 i7 ([[F.lit (Value.int IntKind.i64 (100 : Int))], [F.lit (Value.int IntKind.i64 (1000 : Int))], [F.lit (Value.int IntKind.i64 (60000 : Int))], [F.lit (Value.int IntKind.i64 (2592000000 : Int))]]) (fun i8 i9 => Fn9 m r2 i9 ([[F.lit (Value.int IntKind.i64 (0 : Int))], [F.lit (Value.int IntKind.i64 (1 : Int))], [F.lit (Value.int IntKind.i64 (2 : Int))], [F.lit (Value.int IntKind.i64 (3000 : Int))]]) (fun i10 i11 => Fn9 m r2 i11 ([[F.lit (Value.int IntKind.i64 (0 : Int))], [F.lit (Value.int IntKind.i64 (1 : Int))], [F.lit (Value.int IntKind.i64 (2 : Int))], [F.lit (Value.int IntKind.i64 (1000 : Int))]]) (fun i12 i13 => Fn9 m r2 i13 ([[F.lit (Value.int IntKind.i64 (50 : Int))], [F.lit (Value.int IntKind.i64 (1000 : Int))], [F.lit (Value.int IntKind.i64 (100000 : Int))]]) (fun i14 i15 => bif decide (List.length r3 + List.length [[F.lit (Value.string (fS r0 (Int.toNat i4) (0 : Nat))), F.lit (Value.int IntKind.i64 i8), F.lit (Value.int IntKind.i64 i10), F.lit (Value.int IntKind.i64 i12), F.lit (Value.int IntKind.i64 i14)]] ≤ rowMax) then (letV (r3 ++ [[F.lit (Value.string (fS r0 (Int.toNat i4) (0 : Nat))), F.lit (Value.int IntKind.i64 i8), F.lit (Value.int IntKind.i64 i10), F.lit (Value.int IntKind.i64 i12), F.lit (Value.int IntKind.i64 i14)]]) (fun r16 => REC r16 (IntKind.wrap IntKind.i64 (i4 + (1 : Int))) i15)) else
 (none)))))) else
 (REC r3 (IntKind.wrap IntKind.i64 (i4 + (1 : Int))) i7))) else
 (none)) else
 (kx0 r3 i4 i5)
noncomputable def Lp64_3 {R : Type} (m : Nat) (kx0 : Abs.Rows → Int → Int → Option R) (r0 : Abs.Rows) (i1 : Int) (r2 : Abs.Rows) : Nat → Abs.Rows → Int → Int → Option R
 | 0, _, _, _ => none
 | n + 1, r3, i4, i5 => Lp64_3_step m kx0 r0 i1 r2 (Lp64_3 m kx0 r0 i1 r2 n) r3 i4 i5
noncomputable def ELp64_3 (m : Nat) (R : Type) : Nat → List V → (Ex → List V → Option R) → Option R
 | 0, _, _ => none
 | n + 1, vs, k => match vs with
  | [.ref 33 0, .own [.str, .int .i64, .int .i64, .int .i64, .int .i64] r3, .own [.str] r0, .f (.lit (.int .i64 i1)), .f (.lit (.int .i64 i4)), .obj [.f (.lst [.int .i64] r2), .f (.lit (.int .i64 i5))]] => Lp64_3_step m (fun r17 i18 i19 => k (Ex.exit (0 : Nat)) (W53 r17 r0 i1 i18 r2 i19)) r0 i1 r2 (fun r3 i4 i5 => ELp64_3 m R n (W53 r3 r0 i1 i4 r2 i5) k) r3 i4 i5
  | _ => none
noncomputable def brLp64_3 (m : Nat) (L : LTbl) (R : Type) (vs : List V) (k : Ex → List V → Option R) : Option R := match vs with
 | [.ref 33 0, .own [.str, .int .i64, .int .i64, .int .i64, .int .i64] r3, .own [.str] r0, .f (.lit (.int .i64 i1)), .f (.lit (.int .i64 i4)), .obj [.f (.lst [.int .i64] r2), .f (.lit (.int .i64 i5))]] => Lp64_3 m (fun r17 i18 i19 => k (Ex.exit (0 : Nat)) (W53 r17 r0 i1 i18 r2 i19)) r0 i1 r2 m r3 i4 i5
 | _ => L R 64 3 vs k

theorem stLp64_3 (m n : Nat) (R : Type) (r3 r0 : Abs.Rows) (i1 i4 : Int) (r2 : Abs.Rows) (i5 : Int) (k : Ex → List V → Option R) : codeK Tryz.prog H (T36 m) 64 (L24 m) 4 (loopBody Tryz.prog 64 3) (mkEnv [0, 3, 6, 7, 8, 33] (W53 r3 r0 i1 i4 r2 i5) 0 (H.len 64)) (fun e env' => match e with | .normal => ELp64_3 m R n (vals [0, 3, 6, 7, 8, 33] env') k | e => k e (vals [0, 3, 6, 7, 8, 33] env')) = Lp64_3_step m (fun r17 i18 i19 => k (Ex.exit (0 : Nat)) (W53 r17 r0 i1 i18 r2 i19)) r0 i1 r2 (fun r3 i4 i5 => ELp64_3 m R n (W53 r3 r0 i1 i4 r2 i5) k) r3 i4 i5 := by kernel_rfl
theorem eqLp64_3 (m : Nat) (R : Type) (r0 : Abs.Rows) (i1 : Int) (r2 : Abs.Rows) (k : Ex → List V → Option R) : ∀ (n : Nat) (r3 : Abs.Rows) (i4 i5 : Int), ELp64_3 m R n (W53 r3 r0 i1 i4 r2 i5) k = Lp64_3 m (fun r17 i18 i19 => k (Ex.exit (0 : Nat)) (W53 r17 r0 i1 i18 r2 i19)) r0 i1 r2 n r3 i4 i5
 | 0, _, _, _ => rfl
 | n + 1, r3, i4, i5 => by
  simp only [ELp64_3, Lp64_3, W53]
  congr 1
  funext r3 i4 i5
  exact eqLp64_3 m R r0 i1 r2 k n r3 i4 i5
noncomputable def L25 (m : Nat) : LTbl := addB 64 3 (brLp64_3 m (L24 m)) (L24 m)
theorem okL25 (m : Nat) : LTOk Tryz.prog H (L25 m) := addB_ok (okT36 m) hM (okL24 m) (l := [0, 3, 6, 7, 8, 33]) (by kernel_rfl) (by kernel_rfl) m (fun R n vs k => ELp64_3 m R n vs k) (fun R vs k => rfl) (fun R n vs k x h => by
   simp only [ELp64_3] at h
   split at h
   ·exact (stLp64_3 m n R _ _ _ _ _ _ k).trans h
   ·cases h) fun R vs k x h => by
  unfold brLp64_3 at h
  split at h
  ·exact .inl ((eqLp64_3 m R _ _ _ k m _ _ _).trans h)
  ·exact .inr h

/-- - -/
noncomputable def Fn64 {R : Type} (m : Nat) : Abs.Rows → Int → (Abs.Rows → Int → Option R) → Option R := match m with
 | 0 => fun _ _ _ => none
 | m + 1 => fun r0 i1 k =>
 Lp64_3 m (fun r2 i3 i4 => k r2 i4) ([[F.lit (Value.string { data := #[] })], [F.lit (Value.string { data := #[(102 : UInt8), (97 : UInt8), (114 : UInt8)] })], [F.lit (Value.string { data := #[(104 : UInt8), (111 : UInt8), (109 : UInt8), (101 : UInt8)] })], [F.lit (Value.string { data := #[(110 : UInt8), (101 : UInt8), (97 : UInt8), (114 : UInt8)] })]]) ((↑(List.length [[F.lit (Value.string { data := #[] })], [F.lit (Value.string { data := #[(102 : UInt8), (97 : UInt8), (114 : UInt8)] })], [F.lit (Value.string { data := #[(104 : UInt8), (111 : UInt8), (109 : UInt8), (101 : UInt8)] })], [F.lit (Value.string { data := #[(110 : UInt8), (101 : UInt8), (97 : UInt8), (114 : UInt8)] })]]) : Int)) r0 m rows0 ((0 : Int)) i1
noncomputable def brFn64 (m : Nat) (T : Tbl) (R : Type) (vs : List V) (k : V → List V → Option R) : Option R := match vs with
 | [.obj [.f (.lst [.int .i64] r0), .f (.lit (.int .i64 i1))]] => Fn64 m r0 i1 (fun r5 i6 => k (V.own [LT.str, LT.int IntKind.i64, LT.int IntKind.i64, LT.int IntKind.i64, LT.int IntKind.i64] r5) (W11 r0 i6))
 | _ => T R 64 vs k

theorem evFn64 (m : Nat) (R : Type) (r0 : Abs.Rows) (i1 : Int) (k : V → List V → Option R) : runK Tryz.prog H (T36 m) (L25 m) 64 (W11 r0 i1) k = Fn64 (m + 1) r0 i1 (fun r5 i6 => k (V.own [LT.str, LT.int IntKind.i64, LT.int IntKind.i64, LT.int IntKind.i64, LT.int IntKind.i64] r5) (W11 r0 i6)) := by kernel_rfl
noncomputable def T37 (m : Nat) : Tbl := addT 64 (brFn64 m (T36 m)) (T36 m)
theorem okT37 (m : Nat) : TblOk Tryz.prog (T37 m) := addT_ok (okT36 m) fun R vs k x h => by
 unfold brFn64 at h
 split at h
 ·cases m with
  | zero => cases h
  | succ m => exact runK_some (okT36 m) hM (okL25 m) ((evFn64 m R _ _ k).trans h)
 ·exact okT36 m R 64 _ k x h

/-- - -/
noncomputable def Fn22 {R : Type} (m : Nat) : Abs.Rows → Int → (Abs.Rows → Int → Option R) → Option R := match m with
 | 0 => fun _ _ _ => none
 | m + 1 => fun r0 i1 k =>
 Fn64 m r0 i1 (fun r2 i3 => Fn44 m r0 i3 ((12 : Int)) (fun b4 i5 => bif b4 then (Fn32 m r0 i5 ([[F.lit (Value.string { data := #[] })], [F.lit (Value.string { data := #[(65 : UInt8)] })], [F.lit (Value.string { data := #[(122 : UInt8), (122 : UInt8)] })]]) (fun s6 i7 => Fn65 m r0 i7 ((1 : Int)) ((100 : Int)) (fun i8 i9 => Fn65 m r0 i9 ((0 : Int)) ((10 : Int)) (fun i10 i11 => Fn65 m r0 i11 ((0 : Int)) ((10 : Int)) (fun i12 i13 => Fn65 m r0 i13 ((1 : Int)) ((10 : Int)) (fun i14 i15 => bif decide (List.length r2 + List.length [[F.lit (Value.string s6), F.lit (Value.int IntKind.i64 i8), F.lit (Value.int IntKind.i64 i10), F.lit (Value.int IntKind.i64 i12), F.lit (Value.int IntKind.i64 i14)]] ≤ rowMax) then (letV (r2 ++ [[F.lit (Value.string s6), F.lit (Value.int IntKind.i64 i8), F.lit (Value.int IntKind.i64 i10), F.lit (Value.int IntKind.i64 i12), F.lit (Value.int IntKind.i64 i14)]]) (fun r16 => k r16 i15)) else
 (none))))))) else
 (k r2 i5)))
noncomputable def brFn22 (m : Nat) (T : Tbl) (R : Type) (vs : List V) (k : V → List V → Option R) : Option R := match vs with
 | [.obj [.f (.lst [.int .i64] r0), .f (.lit (.int .i64 i1))]] => Fn22 m r0 i1 (fun r17 i18 => k (V.own [LT.str, LT.int IntKind.i64, LT.int IntKind.i64, LT.int IntKind.i64, LT.int IntKind.i64] r17) (W11 r0 i18))
 | _ => T R 22 vs k

theorem evFn22 (m : Nat) (R : Type) (r0 : Abs.Rows) (i1 : Int) (k : V → List V → Option R) : runK Tryz.prog H (T37 m) (L25 m) 22 (W11 r0 i1) k = Fn22 (m + 1) r0 i1 (fun r17 i18 => k (V.own [LT.str, LT.int IntKind.i64, LT.int IntKind.i64, LT.int IntKind.i64, LT.int IntKind.i64] r17) (W11 r0 i18)) := by kernel_rfl
noncomputable def T38 (m : Nat) : Tbl := addT 22 (brFn22 m (T37 m)) (T37 m)
theorem okT38 (m : Nat) : TblOk Tryz.prog (T38 m) := addT_ok (okT37 m) fun R vs k x h => by
 unfold brFn22 at h
 split at h
 ·cases m with
  | zero => cases h
  | succ m => exact runK_some (okT37 m) hM (okL25 m) ((evFn22 m R _ _ k).trans h)
 ·exact okT37 m R 22 _ k x h

/-- - -/
noncomputable def Fn122 {R : Type} (m : Nat) : ByteArray → (Bool → Option R) → Option R := match m with
 | 0 => fun _ _ => none
 | m + 1 => fun s0 k =>
 Fn68 m s0 ({ data := #[(43 : UInt8)] }) (fun s1 b2 => bif ByteArray.toList s0 == ByteArray.toList { data := #[] } then (k true) else
 (bif b2 then (bif decide ((↑(ByteArray.size s1) : Int) ≤ (15 : Int)) then (bif trimOk s1 { data := #[(48 : UInt8), (49 : UInt8), (50 : UInt8), (51 : UInt8), (52 : UInt8), (53 : UInt8), (54 : UInt8), (55 : UInt8), (56 : UInt8), (57 : UInt8)] } then (k (ByteArray.toList (trimB s1 { data := #[(48 : UInt8), (49 : UInt8), (50 : UInt8), (51 : UInt8), (52 : UInt8), (53 : UInt8), (54 : UInt8), (55 : UInt8), (56 : UInt8), (57 : UInt8)] }) == ByteArray.toList { data := #[] })) else
 (none)) else
 (k false)) else
 (k false)))
noncomputable def brFn122 (m : Nat) (T : Tbl) (R : Type) (vs : List V) (k : V → List V → Option R) : Option R := match vs with
 | [.f (.lit (.string s0))] => Fn122 m s0 (fun b3 => k (V.f (F.lit (Value.bool b3))) W17)
 | _ => T R 122 vs k

theorem evFn122 (m : Nat) (R : Type) (s0 : ByteArray) (k : V → List V → Option R) : runK Tryz.prog H (T38 m) (L25 m) 122 (W36 s0) k = Fn122 (m + 1) s0 (fun b3 => k (V.f (F.lit (Value.bool b3))) W17) := by kernel_rfl
noncomputable def T39 (m : Nat) : Tbl := addT 122 (brFn122 m (T38 m)) (T38 m)
theorem okT39 (m : Nat) : TblOk Tryz.prog (T39 m) := addT_ok (okT38 m) fun R vs k x h => by
 unfold brFn122 at h
 split at h
 ·cases m with
  | zero => cases h
  | succ m => exact runK_some (okT38 m) hM (okL25 m) ((evFn122 m R _ k).trans h)
 ·exact okT38 m R 122 _ k x h

/-- - -/
noncomputable def Fn74 {R : Type} (m : Nat) : ByteArray → (Bool → Option R) → Option R := match m with
 | 0 => fun _ _ => none
 | m + 1 => fun s0 k =>
 bif decide ((↑(ByteArray.size s0) : Int) ≥ (1 : Int)) then (bif decide ((↑(ByteArray.size s0) : Int) ≤ (40 : Int)) then (bif decide ((0 : Int) ≤ (0 : Int) ∧ (0 : Int) < (↑(ByteArray.size s0) : Int)) then (bif decide ((↑(UInt8.toNat (Array.getD (ByteArray.data s0) (Int.toNat (0 : Int)) (0 : UInt8))) : Int) ≥ (97 : Int)) then (bif decide ((0 : Int) ≤ (0 : Int) ∧ (0 : Int) < (↑(ByteArray.size s0) : Int)) then (bif decide ((↑(UInt8.toNat (Array.getD (ByteArray.data s0) (Int.toNat (0 : Int)) (0 : UInt8))) : Int) ≤ (122 : Int)) then (bif trimOk s0 { data := #[(97 : UInt8), (98 : UInt8), (99 : UInt8), (100 : UInt8), (101 : UInt8), (102 : UInt8), (103 : UInt8), (104 : UInt8), (105 : UInt8), (106 : UInt8), (107 : UInt8), (108 : UInt8), (109 : UInt8), (110 : UInt8), (111 : UInt8), (112 : UInt8), (113 : UInt8), (114 : UInt8), (115 : UInt8), (116 : UInt8), (117 : UInt8), (118 : UInt8), (119 : UInt8), (120 : UInt8), (121 : UInt8), (122 : UInt8), (48 : UInt8), (49 : UInt8), (50 : UInt8), (51 : UInt8), (52 : UInt8), (53 : UInt8), (54 : UInt8), (55 : UInt8), (56 : UInt8), (57 : UInt8), (45 : UInt8), (95 : UInt8)] } then (k (ByteArray.toList (trimB s0 { data := #[(97 : UInt8), (98 : UInt8), (99 : UInt8), (100 : UInt8), (101 : UInt8), (102 : UInt8), (103 : UInt8), (104 : UInt8), (105 : UInt8), (106 : UInt8), (107 : UInt8), (108 : UInt8), (109 : UInt8), (110 : UInt8), (111 : UInt8), (112 : UInt8), (113 : UInt8), (114 : UInt8), (115 : UInt8), (116 : UInt8), (117 : UInt8), (118 : UInt8), (119 : UInt8), (120 : UInt8), (121 : UInt8), (122 : UInt8), (48 : UInt8), (49 : UInt8), (50 : UInt8), (51 : UInt8), (52 : UInt8), (53 : UInt8), (54 : UInt8), (55 : UInt8), (56 : UInt8), (57 : UInt8), (45 : UInt8), (95 : UInt8)] }) == ByteArray.toList { data := #[] })) else
 (none)) else
 (k false)) else
 (none)) else
 (k false)) else
 (none)) else
 (k false)) else
 (k false)
noncomputable def brFn74 (m : Nat) (T : Tbl) (R : Type) (vs : List V) (k : V → List V → Option R) : Option R := match vs with
 | [.f (.lit (.string s0))] => Fn74 m s0 (fun b1 => k (V.f (F.lit (Value.bool b1))) W17)
 | _ => T R 74 vs k

theorem evFn74 (m : Nat) (R : Type) (s0 : ByteArray) (k : V → List V → Option R) : runK Tryz.prog H (T39 m) (L25 m) 74 (W36 s0) k = Fn74 (m + 1) s0 (fun b1 => k (V.f (F.lit (Value.bool b1))) W17) := by kernel_rfl
noncomputable def T40 (m : Nat) : Tbl := addT 74 (brFn74 m (T39 m)) (T39 m)
theorem okT40 (m : Nat) : TblOk Tryz.prog (T40 m) := addT_ok (okT39 m) fun R vs k x h => by
 unfold brFn74 at h
 split at h
 ·cases m with
  | zero => cases h
  | succ m => exact runK_some (okT39 m) hM (okL25 m) ((evFn74 m R _ k).trans h)
 ·exact okT39 m R 74 _ k x h

/-- - -/
noncomputable def Fn75 {R : Type} (m : Nat) : Int → Int → Int → (Bool → Option R) → Option R := match m with
 | 0 => fun _ _ _ _ => none
 | m + 1 => fun i0 i1 i2 k =>
 bif decide (i0 ≥ i1) then (k (decide (i0 ≤ i2))) else
 (k false)
noncomputable def brFn75 (m : Nat) (T : Tbl) (R : Type) (vs : List V) (k : V → List V → Option R) : Option R := match vs with
 | [.f (.lit (.int .i64 i0)), .f (.lit (.int .i64 i1)), .f (.lit (.int .i64 i2))] => Fn75 m i0 i1 i2 (fun b3 => k (V.f (F.lit (Value.bool b3))) W32)
 | _ => T R 75 vs k

theorem evFn75 (m : Nat) (R : Type) (i0 i1 i2 : Int) (k : V → List V → Option R) : runK Tryz.prog H (T40 m) (L25 m) 75 (W33 i0 i1 i2) k = Fn75 (m + 1) i0 i1 i2 (fun b3 => k (V.f (F.lit (Value.bool b3))) W32) := by kernel_rfl
noncomputable def T41 (m : Nat) : Tbl := addT 75 (brFn75 m (T40 m)) (T40 m)
theorem okT41 (m : Nat) : TblOk Tryz.prog (T41 m) := addT_ok (okT40 m) fun R vs k x h => by
 unfold brFn75 at h
 split at h
 ·cases m with
  | zero => cases h
  | succ m => exact runK_some (okT40 m) hM (okL25 m) ((evFn75 m R _ _ _ k).trans h)
 ·exact okT40 m R 75 _ k x h

/-- - -/
noncomputable def Jn82_13 {R : Type} (m : Nat) (kx0 : Int → Bool → Option R) (kx1 : Bool → Option R) (r0 : Abs.Rows) (i1 : Int) (r2 : Abs.Rows) (i3 i4 : Int) (s5 s6 : ByteArray) (i7 i8 i9 i10 : Int) (r11 : Abs.Rows) (i12 i13 : Int) (b14 : Bool) : Option R :=
 bif b14 then (kx0 ((1 : Int)) true) else
 (bif decide (i4 > (0 : Int)) then (bif decide ((0 : Int) ≤ IntKind.wrap IntKind.i64 (i4 - (1 : Int)) ∧ IntKind.wrap IntKind.i64 (i4 - (1 : Int)) < (↑(List.length r0) : Int)) then (bif Op.bytesLess (ByteArray.toList s5) (ByteArray.toList (fS r0 (Int.toNat (IntKind.wrap IntKind.i64 (i4 - (1 : Int)))) (0 : Nat))) || ByteArray.toList s5 == ByteArray.toList (fS r0 (Int.toNat (IntKind.wrap IntKind.i64 (i4 - (1 : Int)))) (0 : Nat)) then (kx0 ((7 : Int)) false) else
 (kx1 false)) else
 (none)) else
 (kx1 false))
noncomputable def brJn82_13 (m : Nat) (L : LTbl) (R : Type) (vs : List V) (k : Ex → List V → Option R) : Option R := match vs with
 | [.obj [.f (.lst [.str, .str, .int .i64, .int .i64, .int .i64, .int .i64] r0), .f (.lit (.int .i64 i1)), .f (.lst [.str] r2)], .f (.lit (.int .i64 i3)), .f (.lit (.int .i64 i4)), .obj [.f (.lit (.string s5)), .f (.lit (.string s6)), .f (.lit (.int .i64 i7)), .f (.lit (.int .i64 i8)), .f (.lit (.int .i64 i9)), .f (.lit (.int .i64 i10))], .ref 1 0, .f (.lst [.str, .str, .int .i64, .int .i64, .int .i64, .int .i64] r11), .f (.lit (.int .i64 i12)), .f (.lit (.int .i64 i13)), .f (.lit (.bool b14)), .undef] => Jn82_13 m (fun i15 b16 => k Ex.ret (W37 r0 i1 r2 i15 i4 s5 s6 i7 i8 i9 i10 r11 i12 i13 b16)) (fun b17 => k Ex.normal (W37 r0 i1 r2 i3 i4 s5 s6 i7 i8 i9 i10 r11 i12 i13 b17)) r0 i1 r2 i3 i4 s5 s6 i7 i8 i9 i10 r11 i12 i13 b14
 | _ => L R 82 13 vs k

theorem evJn82_13 (m : Nat) (R : Type) (r0 : Abs.Rows) (i1 : Int) (r2 : Abs.Rows) (i3 i4 : Int) (s5 s6 : ByteArray) (i7 i8 i9 i10 : Int) (r11 : Abs.Rows) (i12 i13 : Int) (b14 : Bool) (k : Ex → List V → Option R) : codeK Tryz.prog H (T41 m) 82 (L25 m) 14 (loopBody Tryz.prog 82 13) (mkEnv [1, 2, 3, 4, 11, 12, 13, 14, 29, 100] (W37 r0 i1 r2 i3 i4 s5 s6 i7 i8 i9 i10 r11 i12 i13 b14) 0 (H.len 82)) (fun e env' => k e (vals [1, 2, 3, 4, 11, 12, 13, 14, 29, 100] env')) = Jn82_13 m (fun i15 b16 => k Ex.ret (W37 r0 i1 r2 i15 i4 s5 s6 i7 i8 i9 i10 r11 i12 i13 b16)) (fun b17 => k Ex.normal (W37 r0 i1 r2 i3 i4 s5 s6 i7 i8 i9 i10 r11 i12 i13 b17)) r0 i1 r2 i3 i4 s5 s6 i7 i8 i9 i10 r11 i12 i13 b14 := by kernel_rfl
noncomputable def L26 (m : Nat) : LTbl := addJ 82 13 (brJn82_13 m (L25 m)) (L25 m)
theorem okL26 (m : Nat) : LTOk Tryz.prog H (L26 m) := addJ_ok (okT41 m) hM (okL25 m) (l := [1, 2, 3, 4, 11, 12, 13, 14, 29, 100]) (by kernel_rfl) (by kernel_rfl) fun R vs k x h => by
  unfold brJn82_13 at h
  split at h
  ·exact .inl ((evJn82_13 m R _ _ _ _ _ _ _ _ _ _ _ _ _ _ _ k).trans h)
  ·exact .inr h

/-- - -/
noncomputable def Lp82_5_step {R : Type} (m : Nat) (kx0 : Int → Int → Option R) (kx1 : Int → Option R) (r0 : Abs.Rows) (i1 : Int) (r2 : Abs.Rows) (i3 : Int) (r4 : Abs.Rows) (i5 : Int) (REC : Int → Option R) (i6 : Int) : Option R :=
 bif decide (i6 < i5) then (bif decide ((0 : Int) ≤ i6 ∧ i6 < (↑(List.length r4) : Int)) then (Fn122 m (fS r4 (Int.toNat i6) (0 : Nat)) (fun b7 => bif !b7 then (kx0 ((3 : Int)) i6) else
 (Fn74 m (fS r4 (Int.toNat i6) (1 : Nat)) (fun b8 => bif !b8 then (kx0 ((5 : Int)) i6) else
 (Fn75 m (fI r4 (Int.toNat i6) (2 : Nat)) ((0 : Int)) ((1000000 : Int)) (fun b9 => bif !b9 then (Jn82_13 m (fun i10 b11 => kx0 i10 i6) (fun b12 => REC (IntKind.wrap IntKind.i64 (i6 + (1 : Int)))) r0 i1 r2 i3 i6 (fS r4 (Int.toNat i6) (0 : Nat)) (fS r4 (Int.toNat i6) (1 : Nat)) (fI r4 (Int.toNat i6) (2 : Nat)) (fI r4 (Int.toNat i6) (3 : Nat)) (fI r4 (Int.toNat i6) (4 : Nat)) (fI r4 (Int.toNat i6) (5 : Nat)) r4 i5 i6 true) else
 (Fn75 m (fI r4 (Int.toNat i6) (5 : Nat)) ((0 : Int)) ((1000000 : Int)) (fun b13 => bif !b13 then (Jn82_13 m (fun i14 b15 => kx0 i14 i6) (fun b16 => REC (IntKind.wrap IntKind.i64 (i6 + (1 : Int)))) r0 i1 r2 i3 i6 (fS r4 (Int.toNat i6) (0 : Nat)) (fS r4 (Int.toNat i6) (1 : Nat)) (fI r4 (Int.toNat i6) (2 : Nat)) (fI r4 (Int.toNat i6) (3 : Nat)) (fI r4 (Int.toNat i6) (4 : Nat)) (fI r4 (Int.toNat i6) (5 : Nat)) r4 i5 i6 true) else
 (Fn75 m (fI r4 (Int.toNat i6) (3 : Nat)) ((0 : Int)) ((86400000 : Int)) (fun b17 => bif !b17 then (Jn82_13 m (fun i18 b19 => kx0 i18 i6) (fun b20 => REC (IntKind.wrap IntKind.i64 (i6 + (1 : Int)))) r0 i1 r2 i3 i6 (fS r4 (Int.toNat i6) (0 : Nat)) (fS r4 (Int.toNat i6) (1 : Nat)) (fI r4 (Int.toNat i6) (2 : Nat)) (fI r4 (Int.toNat i6) (3 : Nat)) (fI r4 (Int.toNat i6) (4 : Nat)) (fI r4 (Int.toNat i6) (5 : Nat)) r4 i5 i6 true) else
 (Fn75 m (fI r4 (Int.toNat i6) (4 : Nat)) ((1 : Int)) ((86400000 : Int)) (fun b21 => Jn82_13 m (fun i22 b23 => kx0 i22 i6) (fun b24 => REC (IntKind.wrap IntKind.i64 (i6 + (1 : Int)))) r0 i1 r2 i3 i6 (fS r4 (Int.toNat i6) (0 : Nat)) (fS r4 (Int.toNat i6) (1 : Nat)) (fI r4 (Int.toNat i6) (2 : Nat)) (fI r4 (Int.toNat i6) (3 : Nat)) (fI r4 (Int.toNat i6) (4 : Nat)) (fI r4 (Int.toNat i6) (5 : Nat)) r4 i5 i6 (!b21))))))))))))) else
 (none)) else
 (kx1 i6)
noncomputable def Lp82_5 {R : Type} (m : Nat) (kx0 : Int → Int → Option R) (kx1 : Int → Option R) (r0 : Abs.Rows) (i1 : Int) (r2 : Abs.Rows) (i3 : Int) (r4 : Abs.Rows) (i5 : Int) : Nat → Int → Option R
 | 0, _ => none
 | n + 1, i6 => Lp82_5_step m kx0 kx1 r0 i1 r2 i3 r4 i5 (Lp82_5 m kx0 kx1 r0 i1 r2 i3 r4 i5 n) i6
noncomputable def ELp82_5 (m : Nat) (R : Type) : Nat → List V → (Ex → List V → Option R) → Option R
 | 0, _, _ => none
 | n + 1, vs, k => match vs with
  | [.obj [.f (.lst [.str, .str, .int .i64, .int .i64, .int .i64, .int .i64] r0), .f (.lit (.int .i64 i1)), .f (.lst [.str] r2)], .f (.lit (.int .i64 i3)), .ref 1 0, .f (.lst [.str, .str, .int .i64, .int .i64, .int .i64, .int .i64] r4), .f (.lit (.int .i64 i5)), .f (.lit (.int .i64 i6)), .undef] => Lp82_5_step m (fun i25 i26 => k Ex.ret (W39 r0 i1 r2 i25 r4 i5 i26)) (fun i27 => k (Ex.exit (0 : Nat)) (W39 r0 i1 r2 i3 r4 i5 i27)) r0 i1 r2 i3 r4 i5 (fun i6 => ELp82_5 m R n (W39 r0 i1 r2 i3 r4 i5 i6) k) i6
  | _ => none
noncomputable def brLp82_5 (m : Nat) (L : LTbl) (R : Type) (vs : List V) (k : Ex → List V → Option R) : Option R := match vs with
 | [.obj [.f (.lst [.str, .str, .int .i64, .int .i64, .int .i64, .int .i64] r0), .f (.lit (.int .i64 i1)), .f (.lst [.str] r2)], .f (.lit (.int .i64 i3)), .ref 1 0, .f (.lst [.str, .str, .int .i64, .int .i64, .int .i64, .int .i64] r4), .f (.lit (.int .i64 i5)), .f (.lit (.int .i64 i6)), .undef] => Lp82_5 m (fun i25 i26 => k Ex.ret (W39 r0 i1 r2 i25 r4 i5 i26)) (fun i27 => k (Ex.exit (0 : Nat)) (W39 r0 i1 r2 i3 r4 i5 i27)) r0 i1 r2 i3 r4 i5 m i6
 | _ => L R 82 5 vs k

theorem stLp82_5 (m n : Nat) (R : Type) (r0 : Abs.Rows) (i1 : Int) (r2 : Abs.Rows) (i3 : Int) (r4 : Abs.Rows) (i5 i6 : Int) (k : Ex → List V → Option R) : codeK Tryz.prog H (T41 m) 82 (L26 m) 6 (loopBody Tryz.prog 82 5) (mkEnv [1, 2, 11, 12, 13, 14, 100] (W39 r0 i1 r2 i3 r4 i5 i6) 0 (H.len 82)) (fun e env' => match e with | .normal => ELp82_5 m R n (vals [1, 2, 11, 12, 13, 14, 100] env') k | e => k e (vals [1, 2, 11, 12, 13, 14, 100] env')) = Lp82_5_step m (fun i25 i26 => k Ex.ret (W39 r0 i1 r2 i25 r4 i5 i26)) (fun i27 => k (Ex.exit (0 : Nat)) (W39 r0 i1 r2 i3 r4 i5 i27)) r0 i1 r2 i3 r4 i5 (fun i6 => ELp82_5 m R n (W39 r0 i1 r2 i3 r4 i5 i6) k) i6 := by kernel_rfl
theorem eqLp82_5 (m : Nat) (R : Type) (r0 : Abs.Rows) (i1 : Int) (r2 : Abs.Rows) (i3 : Int) (r4 : Abs.Rows) (i5 : Int) (k : Ex → List V → Option R) : ∀ (n : Nat) (i6 : Int), ELp82_5 m R n (W39 r0 i1 r2 i3 r4 i5 i6) k = Lp82_5 m (fun i25 i26 => k Ex.ret (W39 r0 i1 r2 i25 r4 i5 i26)) (fun i27 => k (Ex.exit (0 : Nat)) (W39 r0 i1 r2 i3 r4 i5 i27)) r0 i1 r2 i3 r4 i5 n i6
 | 0, _ => rfl
 | n + 1, i6 => by
  simp only [ELp82_5, Lp82_5, W39]
  congr 1
  funext i6
  exact eqLp82_5 m R r0 i1 r2 i3 r4 i5 k n i6
noncomputable def L27 (m : Nat) : LTbl := addB 82 5 (brLp82_5 m (L26 m)) (L26 m)
theorem okL27 (m : Nat) : LTOk Tryz.prog H (L27 m) := addB_ok (okT41 m) hM (okL26 m) (l := [1, 2, 11, 12, 13, 14, 100]) (by kernel_rfl) (by kernel_rfl) m (fun R n vs k => ELp82_5 m R n vs k) (fun R vs k => rfl) (fun R n vs k x h => by
   simp only [ELp82_5] at h
   split at h
   ·exact (stLp82_5 m n R _ _ _ _ _ _ _ k).trans h
   ·cases h) fun R vs k x h => by
  unfold brLp82_5 at h
  split at h
  ·exact .inl ((eqLp82_5 m R _ _ _ _ _ _ k m _).trans h)
  ·exact .inr h

/-- - -/
noncomputable def Lp82_26_step {R : Type} (m : Nat) (kx0 : Int → Int → Option R) (kx1 : Int → Option R) (r0 : Abs.Rows) (i1 : Int) (r2 : Abs.Rows) (i3 : Int) (r4 : Abs.Rows) (i5 : Int) (REC : Int → Option R) (i6 : Int) : Option R :=
 bif decide (i6 < i5) then (bif decide ((0 : Int) ≤ i6 ∧ i6 < (↑(List.length r4) : Int)) then (Fn74 m (fS r4 (Int.toNat i6) (0 : Nat)) (fun b7 => bif !b7 then (kx0 ((5 : Int)) i6) else
 (bif decide (i6 > (0 : Int)) then (bif decide ((0 : Int) ≤ IntKind.wrap IntKind.i64 (i6 - (1 : Int)) ∧ IntKind.wrap IntKind.i64 (i6 - (1 : Int)) < (↑(List.length r2) : Int)) then (bif Op.bytesLess (ByteArray.toList (fS r4 (Int.toNat i6) (0 : Nat))) (ByteArray.toList (fS r2 (Int.toNat (IntKind.wrap IntKind.i64 (i6 - (1 : Int)))) (0 : Nat))) || ByteArray.toList (fS r4 (Int.toNat i6) (0 : Nat)) == ByteArray.toList (fS r2 (Int.toNat (IntKind.wrap IntKind.i64 (i6 - (1 : Int)))) (0 : Nat)) then (kx0 ((7 : Int)) i6) else
 (REC (IntKind.wrap IntKind.i64 (i6 + (1 : Int))))) else
 (none)) else
 (REC (IntKind.wrap IntKind.i64 (i6 + (1 : Int))))))) else
 (none)) else
 (kx1 i6)
noncomputable def Lp82_26 {R : Type} (m : Nat) (kx0 : Int → Int → Option R) (kx1 : Int → Option R) (r0 : Abs.Rows) (i1 : Int) (r2 : Abs.Rows) (i3 : Int) (r4 : Abs.Rows) (i5 : Int) : Nat → Int → Option R
 | 0, _ => none
 | n + 1, i6 => Lp82_26_step m kx0 kx1 r0 i1 r2 i3 r4 i5 (Lp82_26 m kx0 kx1 r0 i1 r2 i3 r4 i5 n) i6
noncomputable def ELp82_26 (m : Nat) (R : Type) : Nat → List V → (Ex → List V → Option R) → Option R
 | 0, _, _ => none
 | n + 1, vs, k => match vs with
  | [.obj [.f (.lst [.str, .str, .int .i64, .int .i64, .int .i64, .int .i64] r0), .f (.lit (.int .i64 i1)), .f (.lst [.str] r2)], .f (.lit (.int .i64 i3)), .ref 1 2, .f (.lst [.str] r4), .f (.lit (.int .i64 i5)), .f (.lit (.int .i64 i6)), .undef] => Lp82_26_step m (fun i8 i9 => k Ex.ret (W40 r0 i1 r2 i8 r4 i5 i9)) (fun i10 => k (Ex.exit (3 : Nat)) (W40 r0 i1 r2 i3 r4 i5 i10)) r0 i1 r2 i3 r4 i5 (fun i6 => ELp82_26 m R n (W40 r0 i1 r2 i3 r4 i5 i6) k) i6
  | _ => none
noncomputable def brLp82_26 (m : Nat) (L : LTbl) (R : Type) (vs : List V) (k : Ex → List V → Option R) : Option R := match vs with
 | [.obj [.f (.lst [.str, .str, .int .i64, .int .i64, .int .i64, .int .i64] r0), .f (.lit (.int .i64 i1)), .f (.lst [.str] r2)], .f (.lit (.int .i64 i3)), .ref 1 2, .f (.lst [.str] r4), .f (.lit (.int .i64 i5)), .f (.lit (.int .i64 i6)), .undef] => Lp82_26 m (fun i8 i9 => k Ex.ret (W40 r0 i1 r2 i8 r4 i5 i9)) (fun i10 => k (Ex.exit (3 : Nat)) (W40 r0 i1 r2 i3 r4 i5 i10)) r0 i1 r2 i3 r4 i5 m i6
 | _ => L R 82 26 vs k

theorem stLp82_26 (m n : Nat) (R : Type) (r0 : Abs.Rows) (i1 : Int) (r2 : Abs.Rows) (i3 : Int) (r4 : Abs.Rows) (i5 i6 : Int) (k : Ex → List V → Option R) : codeK Tryz.prog H (T41 m) 82 (L27 m) 27 (loopBody Tryz.prog 82 26) (mkEnv [1, 2, 76, 77, 78, 79, 100] (W40 r0 i1 r2 i3 r4 i5 i6) 0 (H.len 82)) (fun e env' => match e with | .normal => ELp82_26 m R n (vals [1, 2, 76, 77, 78, 79, 100] env') k | e => k e (vals [1, 2, 76, 77, 78, 79, 100] env')) = Lp82_26_step m (fun i8 i9 => k Ex.ret (W40 r0 i1 r2 i8 r4 i5 i9)) (fun i10 => k (Ex.exit (3 : Nat)) (W40 r0 i1 r2 i3 r4 i5 i10)) r0 i1 r2 i3 r4 i5 (fun i6 => ELp82_26 m R n (W40 r0 i1 r2 i3 r4 i5 i6) k) i6 := by kernel_rfl
theorem eqLp82_26 (m : Nat) (R : Type) (r0 : Abs.Rows) (i1 : Int) (r2 : Abs.Rows) (i3 : Int) (r4 : Abs.Rows) (i5 : Int) (k : Ex → List V → Option R) : ∀ (n : Nat) (i6 : Int), ELp82_26 m R n (W40 r0 i1 r2 i3 r4 i5 i6) k = Lp82_26 m (fun i8 i9 => k Ex.ret (W40 r0 i1 r2 i8 r4 i5 i9)) (fun i10 => k (Ex.exit (3 : Nat)) (W40 r0 i1 r2 i3 r4 i5 i10)) r0 i1 r2 i3 r4 i5 n i6
 | 0, _ => rfl
 | n + 1, i6 => by
  simp only [ELp82_26, Lp82_26, W40]
  congr 1
  funext i6
  exact eqLp82_26 m R r0 i1 r2 i3 r4 i5 k n i6
noncomputable def L28 (m : Nat) : LTbl := addB 82 26 (brLp82_26 m (L27 m)) (L27 m)
theorem okL28 (m : Nat) : LTOk Tryz.prog H (L28 m) := addB_ok (okT41 m) hM (okL27 m) (l := [1, 2, 76, 77, 78, 79, 100]) (by kernel_rfl) (by kernel_rfl) m (fun R n vs k => ELp82_26 m R n vs k) (fun R vs k => rfl) (fun R n vs k x h => by
   simp only [ELp82_26] at h
   split at h
   ·exact (stLp82_26 m n R _ _ _ _ _ _ _ k).trans h
   ·cases h) fun R vs k x h => by
  unfold brLp82_26 at h
  split at h
  ·exact .inl ((eqLp82_26 m R _ _ _ _ _ _ k m _).trans h)
  ·exact .inr h

/-- - -/
noncomputable def Fn82 {R : Type} (m : Nat) : Abs.Rows → Int → Abs.Rows → (Int → Option R) → Option R := match m with
 | 0 => fun _ _ _ _ => none
 | m + 1 => fun r0 i1 r2 k =>
 bif decide ((↑(List.length r0) : Int) > (200 : Int)) then (k ((2 : Int))) else
 (Lp82_5 m (fun i3 i4 => k i3) (fun i5 => Fn75 m i1 ((0 : Int)) ((2592000000 : Int)) (fun b6 => bif !b6 then (k ((1 : Int))) else
 (bif decide ((↑(List.length r2) : Int) > (200 : Int)) then (k ((2 : Int))) else
 (Lp82_26 m (fun i7 i8 => k i7) (fun i9 => k ((0 : Int))) r0 i1 r2 ((0 : Int)) r2 ((↑(List.length r2) : Int)) m ((0 : Int)))))) r0 i1 r2 ((0 : Int)) r0 ((↑(List.length r0) : Int)) m ((0 : Int)))
noncomputable def brFn82 (m : Nat) (T : Tbl) (R : Type) (vs : List V) (k : V → List V → Option R) : Option R := match vs with
 | [.agg [.f (.lst [.str, .str, .int .i64, .int .i64, .int .i64, .int .i64] r0), .f (.lit (.int .i64 i1)), .f (.lst [.str] r2)]] => Fn82 m r0 i1 r2 (fun i10 => k (V.f (F.lit (Value.int IntKind.i64 i10))) W17)
 | _ => T R 82 vs k

theorem evFn82 (m : Nat) (R : Type) (r0 : Abs.Rows) (i1 : Int) (r2 : Abs.Rows) (k : V → List V → Option R) : runK Tryz.prog H (T41 m) (L28 m) 82 (W41 r0 i1 r2) k = Fn82 (m + 1) r0 i1 r2 (fun i10 => k (V.f (F.lit (Value.int IntKind.i64 i10))) W17) := by kernel_rfl
noncomputable def T42 (m : Nat) : Tbl := addT 82 (brFn82 m (T41 m)) (T41 m)
theorem okT42 (m : Nat) : TblOk Tryz.prog (T42 m) := addT_ok (okT41 m) fun R vs k x h => by
 unfold brFn82 at h
 split at h
 ·cases m with
  | zero => cases h
  | succ m => exact runK_some (okT41 m) hM (okL28 m) ((evFn82 m R _ _ _ k).trans h)
 ·exact okT41 m R 82 _ k x h

abbrev W54 (a0 : Abs.Rows) (a1 : Int) (a2 : Abs.Rows) (a3 : ByteArray) (a4 a5 : Abs.Rows) (a6 a7 : Int) (a8 : Bool) : List V := [.bor J7 a0, .f (.lit (.int .i64 a1)), .own J8 a2, .obj [.f (.lit (.string a3)), .f (.lst J3 a4)], .undef, .bor J7 a5, .f (.lit (.int .i64 a6)), .f (.lit (.int .i64 a7)), .f (.lit (.bool a8)), .undef]
/-- - -/
noncomputable def Jn111_12 {R : Type} (m : Nat) (kx0 : Int → Bool → Option R) (kx1 : Bool → Option R) (r0 : Abs.Rows) (i1 : Int) (r2 : Abs.Rows) (s3 : ByteArray) (r4 r5 : Abs.Rows) (i6 i7 : Int) (b8 : Bool) : Option R :=
 bif b8 then (kx0 ((7 : Int)) true) else
 (bif decide ((↑(List.length r4) : Int) > (500 : Int)) then (kx0 ((2 : Int)) false) else
 (kx1 false))
noncomputable def brJn111_12 (m : Nat) (L : LTbl) (R : Type) (vs : List V) (k : Ex → List V → Option R) : Option R := match vs with
 | [.bor [.str, .lst [.str]] r0, .f (.lit (.int .i64 i1)), .own [.mp false, .str, .bool] r2, .obj [.f (.lit (.string s3)), .f (.lst [.str] r4)], .undef, .bor [.str, .lst [.str]] r5, .f (.lit (.int .i64 i6)), .f (.lit (.int .i64 i7)), .f (.lit (.bool b8)), .undef] => Jn111_12 m (fun i9 b10 => k Ex.ret (W54 r0 i9 r2 s3 r4 r5 i6 i7 b10)) (fun b11 => k Ex.normal (W54 r0 i1 r2 s3 r4 r5 i6 i7 b11)) r0 i1 r2 s3 r4 r5 i6 i7 b8
 | _ => L R 111 12 vs k

theorem evJn111_12 (m : Nat) (R : Type) (r0 : Abs.Rows) (i1 : Int) (r2 : Abs.Rows) (s3 : ByteArray) (r4 r5 : Abs.Rows) (i6 i7 : Int) (b8 : Bool) (k : Ex → List V → Option R) : codeK Tryz.prog H (T42 m) 111 (L28 m) 13 (loopBody Tryz.prog 111 12) (mkEnv [0, 2, 3, 5, 11, 12, 13, 14, 24, 60] (W54 r0 i1 r2 s3 r4 r5 i6 i7 b8) 0 (H.len 111)) (fun e env' => k e (vals [0, 2, 3, 5, 11, 12, 13, 14, 24, 60] env')) = Jn111_12 m (fun i9 b10 => k Ex.ret (W54 r0 i9 r2 s3 r4 r5 i6 i7 b10)) (fun b11 => k Ex.normal (W54 r0 i1 r2 s3 r4 r5 i6 i7 b11)) r0 i1 r2 s3 r4 r5 i6 i7 b8 := by kernel_rfl
noncomputable def L29 (m : Nat) : LTbl := addJ 111 12 (brJn111_12 m (L28 m)) (L28 m)
theorem okL29 (m : Nat) : LTOk Tryz.prog H (L29 m) := addJ_ok (okT42 m) hM (okL28 m) (l := [0, 2, 3, 5, 11, 12, 13, 14, 24, 60]) (by kernel_rfl) (by kernel_rfl) fun R vs k x h => by
  unfold brJn111_12 at h
  split at h
  ·exact .inl ((evJn111_12 m R _ _ _ _ _ _ _ _ _ k).trans h)
  ·exact .inr h

/-- - -/
noncomputable def Fn173 {R : Type} (m : Nat) : ByteArray → (Bool → Option R) → Option R := match m with
 | 0 => fun _ _ => none
 | m + 1 => fun s0 k =>
 bif trimOk s0 { data := #[(48 : UInt8), (49 : UInt8), (50 : UInt8), (51 : UInt8), (52 : UInt8), (53 : UInt8), (54 : UInt8), (55 : UInt8), (56 : UInt8), (57 : UInt8)] } then (k (ByteArray.toList (trimB s0 { data := #[(48 : UInt8), (49 : UInt8), (50 : UInt8), (51 : UInt8), (52 : UInt8), (53 : UInt8), (54 : UInt8), (55 : UInt8), (56 : UInt8), (57 : UInt8)] }) == ByteArray.toList { data := #[] })) else
 (none)
noncomputable def brFn173 (m : Nat) (T : Tbl) (R : Type) (vs : List V) (k : V → List V → Option R) : Option R := match vs with
 | [.f (.lit (.string s0))] => Fn173 m s0 (fun b1 => k (V.f (F.lit (Value.bool b1))) W17)
 | _ => T R 173 vs k

theorem evFn173 (m : Nat) (R : Type) (s0 : ByteArray) (k : V → List V → Option R) : runK Tryz.prog H (T42 m) (L29 m) 173 (W36 s0) k = Fn173 (m + 1) s0 (fun b1 => k (V.f (F.lit (Value.bool b1))) W17) := by kernel_rfl
noncomputable def T43 (m : Nat) : Tbl := addT 173 (brFn173 m (T42 m)) (T42 m)
theorem okT43 (m : Nat) : TblOk Tryz.prog (T43 m) := addT_ok (okT42 m) fun R vs k x h => by
 unfold brFn173 at h
 split at h
 ·cases m with
  | zero => cases h
  | succ m => exact runK_some (okT42 m) hM (okL29 m) ((evFn173 m R _ k).trans h)
 ·exact okT42 m R 173 _ k x h

abbrev W55 (a0 : ByteArray) (a1 a2 : Int) : List V := [.f (.lit (.string a0)), .f (.lit (.int .i64 a1)), .f (.lit (.int .i64 a2))]
/-- - -/
noncomputable def Fn131 {R : Type} (m : Nat) : ByteArray → Int → Int → (Bool → Option R) → Option R := match m with
 | 0 => fun _ _ _ _ => none
 | m + 1 => fun s0 i1 i2 k =>
 bif decide ((↑(ByteArray.size s0) : Int) ≥ i1) then (bif decide ((↑(ByteArray.size s0) : Int) ≤ i2) then (Fn173 m s0 (fun b3 => k b3)) else
 (k false)) else
 (k false)
noncomputable def brFn131 (m : Nat) (T : Tbl) (R : Type) (vs : List V) (k : V → List V → Option R) : Option R := match vs with
 | [.f (.lit (.string s0)), .f (.lit (.int .i64 i1)), .f (.lit (.int .i64 i2))] => Fn131 m s0 i1 i2 (fun b4 => k (V.f (F.lit (Value.bool b4))) W32)
 | _ => T R 131 vs k

theorem evFn131 (m : Nat) (R : Type) (s0 : ByteArray) (i1 i2 : Int) (k : V → List V → Option R) : runK Tryz.prog H (T43 m) (L29 m) 131 (W55 s0 i1 i2) k = Fn131 (m + 1) s0 i1 i2 (fun b4 => k (V.f (F.lit (Value.bool b4))) W32) := by kernel_rfl
noncomputable def T44 (m : Nat) : Tbl := addT 131 (brFn131 m (T43 m)) (T43 m)
theorem okT44 (m : Nat) : TblOk Tryz.prog (T44 m) := addT_ok (okT43 m) fun R vs k x h => by
 unfold brFn131 at h
 split at h
 ·cases m with
  | zero => cases h
  | succ m => exact runK_some (okT43 m) hM (okL29 m) ((evFn131 m R _ _ _ k).trans h)
 ·exact okT43 m R 131 _ k x h

/-- - -/
noncomputable def Fn104 {R : Type} (m : Nat) : ByteArray → (Bool → Option R) → Option R := match m with
 | 0 => fun _ _ => none
 | m + 1 => fun s0 k =>
 Fn68 m s0 ({ data := #[(43 : UInt8)] }) (fun s1 b2 => bif b2 then (Fn131 m s1 ((4 : Int)) ((15 : Int)) (fun b3 => bif b3 then (bif decide ((0 : Int) ≤ (0 : Int) ∧ (0 : Int) < (↑(ByteArray.size s1) : Int)) then (k ((↑(UInt8.toNat (Array.getD (ByteArray.data s1) (Int.toNat (0 : Int)) (0 : UInt8))) : Int) != (48 : Int))) else
 (none)) else
 (k false))) else
 (k false))
noncomputable def brFn104 (m : Nat) (T : Tbl) (R : Type) (vs : List V) (k : V → List V → Option R) : Option R := match vs with
 | [.f (.lit (.string s0))] => Fn104 m s0 (fun b4 => k (V.f (F.lit (Value.bool b4))) W17)
 | _ => T R 104 vs k

theorem evFn104 (m : Nat) (R : Type) (s0 : ByteArray) (k : V → List V → Option R) : runK Tryz.prog H (T44 m) (L29 m) 104 (W36 s0) k = Fn104 (m + 1) s0 (fun b4 => k (V.f (F.lit (Value.bool b4))) W17) := by kernel_rfl
noncomputable def T45 (m : Nat) : Tbl := addT 104 (brFn104 m (T44 m)) (T44 m)
theorem okT45 (m : Nat) : TblOk Tryz.prog (T45 m) := addT_ok (okT44 m) fun R vs k x h => by
 unfold brFn104 at h
 split at h
 ·cases m with
  | zero => cases h
  | succ m => exact runK_some (okT44 m) hM (okL29 m) ((evFn104 m R _ k).trans h)
 ·exact okT44 m R 104 _ k x h

abbrev W56 (a0 : Abs.Rows) (a1 : Int) (a2 : Abs.Rows) (a3 : ByteArray) (a4 a5 : Abs.Rows) (a6 a7 : Int) (a8 : Abs.Rows) (a9 a10 : Int) : List V := [.bor J7 a0, .f (.lit (.int .i64 a1)), .own J8 a2, .obj [.f (.lit (.string a3)), .f (.lst J3 a4)], .undef, .bor J7 a5, .f (.lit (.int .i64 a6)), .f (.lit (.int .i64 a7)), .ref 5 1, .f (.lst J3 a8), .f (.lit (.int .i64 a9)), .f (.lit (.int .i64 a10)), .undef]
/-- - -/
noncomputable def Lp111_18_step {R : Type} (m : Nat) (kx0 : Int → Abs.Rows → Int → Option R) (kx1 : Abs.Rows → Int → Option R) (r0 : Abs.Rows) (i1 : Int) (s2 : ByteArray) (r3 r4 : Abs.Rows) (i5 i6 : Int) (r7 : Abs.Rows) (i8 : Int) (REC : Abs.Rows → Int → Option R) (r9 : Abs.Rows) (i10 : Int) : Option R :=
 bif decide (i10 < i8) then (bif decide ((0 : Int) ≤ i10 ∧ i10 < (↑(List.length r7) : Int)) then (Fn104 m (fS r7 (Int.toNat i10) (0 : Nat)) (fun b11 => bif !b11 then (kx0 ((3 : Int)) r9 i10) else
 (bif F.toBool (List.headD (mRow (F.lit (Value.string (fS r7 (Int.toNat i10) (0 : Nat)))) [F.lit (Value.bool false)] r9) default) then (kx0 ((6 : Int)) r9 i10) else
 (bif decide (List.length r9 < rowMax) then (REC (mPut (F.lit (Value.string (fS r7 (Int.toNat i10) (0 : Nat)))) [F.lit (Value.bool true)] r9) (IntKind.wrap IntKind.i64 (i10 + (1 : Int)))) else
 (none))))) else
 (none)) else
 (kx1 r9 i10)
noncomputable def Lp111_18 {R : Type} (m : Nat) (kx0 : Int → Abs.Rows → Int → Option R) (kx1 : Abs.Rows → Int → Option R) (r0 : Abs.Rows) (i1 : Int) (s2 : ByteArray) (r3 r4 : Abs.Rows) (i5 i6 : Int) (r7 : Abs.Rows) (i8 : Int) : Nat → Abs.Rows → Int → Option R
 | 0, _, _ => none
 | n + 1, r9, i10 => Lp111_18_step m kx0 kx1 r0 i1 s2 r3 r4 i5 i6 r7 i8 (Lp111_18 m kx0 kx1 r0 i1 s2 r3 r4 i5 i6 r7 i8 n) r9 i10
noncomputable def ELp111_18 (m : Nat) (R : Type) : Nat → List V → (Ex → List V → Option R) → Option R
 | 0, _, _ => none
 | n + 1, vs, k => match vs with
  | [.bor [.str, .lst [.str]] r0, .f (.lit (.int .i64 i1)), .own [.mp false, .str, .bool] r9, .obj [.f (.lit (.string s2)), .f (.lst [.str] r3)], .undef, .bor [.str, .lst [.str]] r4, .f (.lit (.int .i64 i5)), .f (.lit (.int .i64 i6)), .ref 5 1, .f (.lst [.str] r7), .f (.lit (.int .i64 i8)), .f (.lit (.int .i64 i10)), .undef] => Lp111_18_step m (fun i12 r13 i14 => k Ex.ret (W56 r0 i12 r13 s2 r3 r4 i5 i6 r7 i8 i14)) (fun r15 i16 => k (Ex.exit (3 : Nat)) (W56 r0 i1 r15 s2 r3 r4 i5 i6 r7 i8 i16)) r0 i1 s2 r3 r4 i5 i6 r7 i8 (fun r9 i10 => ELp111_18 m R n (W56 r0 i1 r9 s2 r3 r4 i5 i6 r7 i8 i10) k) r9 i10
  | _ => none
noncomputable def brLp111_18 (m : Nat) (L : LTbl) (R : Type) (vs : List V) (k : Ex → List V → Option R) : Option R := match vs with
 | [.bor [.str, .lst [.str]] r0, .f (.lit (.int .i64 i1)), .own [.mp false, .str, .bool] r9, .obj [.f (.lit (.string s2)), .f (.lst [.str] r3)], .undef, .bor [.str, .lst [.str]] r4, .f (.lit (.int .i64 i5)), .f (.lit (.int .i64 i6)), .ref 5 1, .f (.lst [.str] r7), .f (.lit (.int .i64 i8)), .f (.lit (.int .i64 i10)), .undef] => Lp111_18 m (fun i12 r13 i14 => k Ex.ret (W56 r0 i12 r13 s2 r3 r4 i5 i6 r7 i8 i14)) (fun r15 i16 => k (Ex.exit (3 : Nat)) (W56 r0 i1 r15 s2 r3 r4 i5 i6 r7 i8 i16)) r0 i1 s2 r3 r4 i5 i6 r7 i8 m r9 i10
 | _ => L R 111 18 vs k

theorem stLp111_18 (m n : Nat) (R : Type) (r0 : Abs.Rows) (i1 : Int) (r9 : Abs.Rows) (s2 : ByteArray) (r3 r4 : Abs.Rows) (i5 i6 : Int) (r7 : Abs.Rows) (i8 i10 : Int) (k : Ex → List V → Option R) : codeK Tryz.prog H (T45 m) 111 (L29 m) 19 (loopBody Tryz.prog 111 18) (mkEnv [0, 2, 3, 5, 11, 12, 13, 14, 43, 44, 45, 46, 60] (W56 r0 i1 r9 s2 r3 r4 i5 i6 r7 i8 i10) 0 (H.len 111)) (fun e env' => match e with | .normal => ELp111_18 m R n (vals [0, 2, 3, 5, 11, 12, 13, 14, 43, 44, 45, 46, 60] env') k | e => k e (vals [0, 2, 3, 5, 11, 12, 13, 14, 43, 44, 45, 46, 60] env')) = Lp111_18_step m (fun i12 r13 i14 => k Ex.ret (W56 r0 i12 r13 s2 r3 r4 i5 i6 r7 i8 i14)) (fun r15 i16 => k (Ex.exit (3 : Nat)) (W56 r0 i1 r15 s2 r3 r4 i5 i6 r7 i8 i16)) r0 i1 s2 r3 r4 i5 i6 r7 i8 (fun r9 i10 => ELp111_18 m R n (W56 r0 i1 r9 s2 r3 r4 i5 i6 r7 i8 i10) k) r9 i10 := by kernel_rfl
theorem eqLp111_18 (m : Nat) (R : Type) (r0 : Abs.Rows) (i1 : Int) (s2 : ByteArray) (r3 r4 : Abs.Rows) (i5 i6 : Int) (r7 : Abs.Rows) (i8 : Int) (k : Ex → List V → Option R) : ∀ (n : Nat) (r9 : Abs.Rows) (i10 : Int), ELp111_18 m R n (W56 r0 i1 r9 s2 r3 r4 i5 i6 r7 i8 i10) k = Lp111_18 m (fun i12 r13 i14 => k Ex.ret (W56 r0 i12 r13 s2 r3 r4 i5 i6 r7 i8 i14)) (fun r15 i16 => k (Ex.exit (3 : Nat)) (W56 r0 i1 r15 s2 r3 r4 i5 i6 r7 i8 i16)) r0 i1 s2 r3 r4 i5 i6 r7 i8 n r9 i10
 | 0, _, _ => rfl
 | n + 1, r9, i10 => by
  simp only [ELp111_18, Lp111_18, W56]
  congr 1
  funext r9 i10
  exact eqLp111_18 m R r0 i1 s2 r3 r4 i5 i6 r7 i8 k n r9 i10
noncomputable def L30 (m : Nat) : LTbl := addB 111 18 (brLp111_18 m (L29 m)) (L29 m)
theorem okL30 (m : Nat) : LTOk Tryz.prog H (L30 m) := addB_ok (okT45 m) hM (okL29 m) (l := [0, 2, 3, 5, 11, 12, 13, 14, 43, 44, 45, 46, 60]) (by kernel_rfl) (by kernel_rfl) m (fun R n vs k => ELp111_18 m R n vs k) (fun R vs k => rfl) (fun R n vs k x h => by
   simp only [ELp111_18] at h
   split at h
   ·exact (stLp111_18 m n R _ _ _ _ _ _ _ _ _ _ _ k).trans h
   ·cases h) fun R vs k x h => by
  unfold brLp111_18 at h
  split at h
  ·exact .inl ((eqLp111_18 m R _ _ _ _ _ _ _ _ _ k m _ _).trans h)
  ·exact .inr h

abbrev W57 (a0 : Abs.Rows) (a1 : Int) (a2 : Abs.Rows) (a3 : ByteArray) (a4 a5 : Abs.Rows) (a6 a7 : Int) : List V := [.bor J7 a0, .f (.lit (.int .i64 a1)), .own J8 a2, .obj [.f (.lit (.string a3)), .f (.lst J3 a4)], .undef, .bor J7 a5, .f (.lit (.int .i64 a6)), .f (.lit (.int .i64 a7)), .undef]
/-- - -/
noncomputable def Jn111_16 {R : Type} (m : Nat) (kx0 : Int → Abs.Rows → Option R) (kx1 : Abs.Rows → Option R) (r0 : Abs.Rows) (i1 : Int) (r2 : Abs.Rows) (s3 : ByteArray) (r4 r5 : Abs.Rows) (i6 i7 : Int) : Option R :=
 Lp111_18 m (fun i8 r9 i10 => kx0 i8 r9) (fun r11 i12 => kx1 r11) r0 i1 s3 r4 r5 i6 i7 r4 ((↑(List.length r4) : Int)) m r2 ((0 : Int))
noncomputable def brJn111_16 (m : Nat) (L : LTbl) (R : Type) (vs : List V) (k : Ex → List V → Option R) : Option R := match vs with
 | [.bor [.str, .lst [.str]] r0, .f (.lit (.int .i64 i1)), .own [.mp false, .str, .bool] r2, .obj [.f (.lit (.string s3)), .f (.lst [.str] r4)], .undef, .bor [.str, .lst [.str]] r5, .f (.lit (.int .i64 i6)), .f (.lit (.int .i64 i7)), .undef] => Jn111_16 m (fun i13 r14 => k Ex.ret (W57 r0 i13 r14 s3 r4 r5 i6 i7)) (fun r15 => k Ex.normal (W57 r0 i1 r15 s3 r4 r5 i6 i7)) r0 i1 r2 s3 r4 r5 i6 i7
 | _ => L R 111 16 vs k

theorem evJn111_16 (m : Nat) (R : Type) (r0 : Abs.Rows) (i1 : Int) (r2 : Abs.Rows) (s3 : ByteArray) (r4 r5 : Abs.Rows) (i6 i7 : Int) (k : Ex → List V → Option R) : codeK Tryz.prog H (T45 m) 111 (L30 m) 17 (loopBody Tryz.prog 111 16) (mkEnv [0, 2, 3, 5, 11, 12, 13, 14, 60] (W57 r0 i1 r2 s3 r4 r5 i6 i7) 0 (H.len 111)) (fun e env' => k e (vals [0, 2, 3, 5, 11, 12, 13, 14, 60] env')) = Jn111_16 m (fun i13 r14 => k Ex.ret (W57 r0 i13 r14 s3 r4 r5 i6 i7)) (fun r15 => k Ex.normal (W57 r0 i1 r15 s3 r4 r5 i6 i7)) r0 i1 r2 s3 r4 r5 i6 i7 := by kernel_rfl
noncomputable def L31 (m : Nat) : LTbl := addJ 111 16 (brJn111_16 m (L30 m)) (L30 m)
theorem okL31 (m : Nat) : LTOk Tryz.prog H (L31 m) := addJ_ok (okT45 m) hM (okL30 m) (l := [0, 2, 3, 5, 11, 12, 13, 14, 60]) (by kernel_rfl) (by kernel_rfl) fun R vs k x h => by
  unfold brJn111_16 at h
  split at h
  ·exact .inl ((evJn111_16 m R _ _ _ _ _ _ _ _ k).trans h)
  ·exact .inr h

abbrev W58 (a0 : Abs.Rows) (a1 : Int) (a2 a3 : Abs.Rows) (a4 a5 : Int) : List V := [.bor J7 a0, .f (.lit (.int .i64 a1)), .own J8 a2, .undef, .bor J7 a3, .f (.lit (.int .i64 a4)), .f (.lit (.int .i64 a5)), .undef]
/-- - -/
noncomputable def Lp111_6_step {R : Type} (m : Nat) (kx0 : Int → Abs.Rows → Int → Option R) (kx1 : Abs.Rows → Int → Option R) (r0 : Abs.Rows) (i1 : Int) (r2 : Abs.Rows) (i3 : Int) (REC : Abs.Rows → Int → Option R) (r4 : Abs.Rows) (i5 : Int) : Option R :=
 bif decide (i5 < i3) then (bif decide ((0 : Int) ≤ i5 ∧ i5 < (↑(List.length r2) : Int)) then (Fn74 m (fS r2 (Int.toNat i5) (0 : Nat)) (fun b6 => bif !b6 then (kx0 ((5 : Int)) r4 i5) else
 (bif decide (i5 > (0 : Int)) then (bif decide ((0 : Int) ≤ IntKind.wrap IntKind.i64 (i5 - (1 : Int)) ∧ IntKind.wrap IntKind.i64 (i5 - (1 : Int)) < (↑(List.length r0) : Int)) then (Jn111_12 m (fun i7 b8 => kx0 i7 r4 i5) (fun b9 => Jn111_16 m (fun i10 r11 => kx0 i10 r11 i5) (fun r12 => REC r12 (IntKind.wrap IntKind.i64 (i5 + (1 : Int)))) r0 i1 r4 (fS r2 (Int.toNat i5) (0 : Nat)) (fR r2 (Int.toNat i5) (1 : Nat)) r2 i3 i5) r0 i1 r4 (fS r2 (Int.toNat i5) (0 : Nat)) (fR r2 (Int.toNat i5) (1 : Nat)) r2 i3 i5 (Op.bytesLess (ByteArray.toList (fS r2 (Int.toNat i5) (0 : Nat))) (ByteArray.toList (fS r0 (Int.toNat (IntKind.wrap IntKind.i64 (i5 - (1 : Int)))) (0 : Nat))) || ByteArray.toList (fS r2 (Int.toNat i5) (0 : Nat)) == ByteArray.toList (fS r0 (Int.toNat (IntKind.wrap IntKind.i64 (i5 - (1 : Int)))) (0 : Nat)))) else
 (none)) else
 (Jn111_12 m (fun i13 b14 => kx0 i13 r4 i5) (fun b15 => Jn111_16 m (fun i16 r17 => kx0 i16 r17 i5) (fun r18 => REC r18 (IntKind.wrap IntKind.i64 (i5 + (1 : Int)))) r0 i1 r4 (fS r2 (Int.toNat i5) (0 : Nat)) (fR r2 (Int.toNat i5) (1 : Nat)) r2 i3 i5) r0 i1 r4 (fS r2 (Int.toNat i5) (0 : Nat)) (fR r2 (Int.toNat i5) (1 : Nat)) r2 i3 i5 false)))) else
 (none)) else
 (kx1 r4 i5)
noncomputable def Lp111_6 {R : Type} (m : Nat) (kx0 : Int → Abs.Rows → Int → Option R) (kx1 : Abs.Rows → Int → Option R) (r0 : Abs.Rows) (i1 : Int) (r2 : Abs.Rows) (i3 : Int) : Nat → Abs.Rows → Int → Option R
 | 0, _, _ => none
 | n + 1, r4, i5 => Lp111_6_step m kx0 kx1 r0 i1 r2 i3 (Lp111_6 m kx0 kx1 r0 i1 r2 i3 n) r4 i5
noncomputable def ELp111_6 (m : Nat) (R : Type) : Nat → List V → (Ex → List V → Option R) → Option R
 | 0, _, _ => none
 | n + 1, vs, k => match vs with
  | [.bor [.str, .lst [.str]] r0, .f (.lit (.int .i64 i1)), .own [.mp false, .str, .bool] r4, .undef, .bor [.str, .lst [.str]] r2, .f (.lit (.int .i64 i3)), .f (.lit (.int .i64 i5)), .undef] => Lp111_6_step m (fun i19 r20 i21 => k Ex.ret (W58 r0 i19 r20 r2 i3 i21)) (fun r22 i23 => k (Ex.exit (0 : Nat)) (W58 r0 i1 r22 r2 i3 i23)) r0 i1 r2 i3 (fun r4 i5 => ELp111_6 m R n (W58 r0 i1 r4 r2 i3 i5) k) r4 i5
  | _ => none
noncomputable def brLp111_6 (m : Nat) (L : LTbl) (R : Type) (vs : List V) (k : Ex → List V → Option R) : Option R := match vs with
 | [.bor [.str, .lst [.str]] r0, .f (.lit (.int .i64 i1)), .own [.mp false, .str, .bool] r4, .undef, .bor [.str, .lst [.str]] r2, .f (.lit (.int .i64 i3)), .f (.lit (.int .i64 i5)), .undef] => Lp111_6 m (fun i19 r20 i21 => k Ex.ret (W58 r0 i19 r20 r2 i3 i21)) (fun r22 i23 => k (Ex.exit (0 : Nat)) (W58 r0 i1 r22 r2 i3 i23)) r0 i1 r2 i3 m r4 i5
 | _ => L R 111 6 vs k

theorem stLp111_6 (m n : Nat) (R : Type) (r0 : Abs.Rows) (i1 : Int) (r4 r2 : Abs.Rows) (i3 i5 : Int) (k : Ex → List V → Option R) : codeK Tryz.prog H (T45 m) 111 (L31 m) 7 (loopBody Tryz.prog 111 6) (mkEnv [0, 2, 3, 11, 12, 13, 14, 60] (W58 r0 i1 r4 r2 i3 i5) 0 (H.len 111)) (fun e env' => match e with | .normal => ELp111_6 m R n (vals [0, 2, 3, 11, 12, 13, 14, 60] env') k | e => k e (vals [0, 2, 3, 11, 12, 13, 14, 60] env')) = Lp111_6_step m (fun i19 r20 i21 => k Ex.ret (W58 r0 i19 r20 r2 i3 i21)) (fun r22 i23 => k (Ex.exit (0 : Nat)) (W58 r0 i1 r22 r2 i3 i23)) r0 i1 r2 i3 (fun r4 i5 => ELp111_6 m R n (W58 r0 i1 r4 r2 i3 i5) k) r4 i5 := by kernel_rfl
theorem eqLp111_6 (m : Nat) (R : Type) (r0 : Abs.Rows) (i1 : Int) (r2 : Abs.Rows) (i3 : Int) (k : Ex → List V → Option R) : ∀ (n : Nat) (r4 : Abs.Rows) (i5 : Int), ELp111_6 m R n (W58 r0 i1 r4 r2 i3 i5) k = Lp111_6 m (fun i19 r20 i21 => k Ex.ret (W58 r0 i19 r20 r2 i3 i21)) (fun r22 i23 => k (Ex.exit (0 : Nat)) (W58 r0 i1 r22 r2 i3 i23)) r0 i1 r2 i3 n r4 i5
 | 0, _, _ => rfl
 | n + 1, r4, i5 => by
  simp only [ELp111_6, Lp111_6, W58]
  congr 1
  funext r4 i5
  exact eqLp111_6 m R r0 i1 r2 i3 k n r4 i5
noncomputable def L32 (m : Nat) : LTbl := addB 111 6 (brLp111_6 m (L31 m)) (L31 m)
theorem okL32 (m : Nat) : LTOk Tryz.prog H (L32 m) := addB_ok (okT45 m) hM (okL31 m) (l := [0, 2, 3, 11, 12, 13, 14, 60]) (by kernel_rfl) (by kernel_rfl) m (fun R n vs k => ELp111_6 m R n vs k) (fun R vs k => rfl) (fun R n vs k x h => by
   simp only [ELp111_6] at h
   split at h
   ·exact (stLp111_6 m n R _ _ _ _ _ _ k).trans h
   ·cases h) fun R vs k x h => by
  unfold brLp111_6 at h
  split at h
  ·exact .inl ((eqLp111_6 m R _ _ _ _ k m _ _).trans h)
  ·exact .inr h

/-- - -/
noncomputable def Fn111 {R : Type} (m : Nat) : Abs.Rows → (Int → Option R) → Option R := match m with
 | 0 => fun _ _ => none
 | m + 1 => fun r0 k =>
 bif decide ((↑(List.length r0) : Int) > (500 : Int)) then (k ((2 : Int))) else
 (Lp111_6 m (fun i1 r2 i3 => k i1) (fun r4 i5 => k ((0 : Int))) r0 ((0 : Int)) r0 ((↑(List.length r0) : Int)) m rows0 ((0 : Int)))
noncomputable def brFn111 (m : Nat) (T : Tbl) (R : Type) (vs : List V) (k : V → List V → Option R) : Option R := match vs with
 | [.bor [.str, .lst [.str]] r0] => Fn111 m r0 (fun i6 => k (V.f (F.lit (Value.int IntKind.i64 i6))) W17)
 | _ => T R 111 vs k

theorem evFn111 (m : Nat) (R : Type) (r0 : Abs.Rows) (k : V → List V → Option R) : runK Tryz.prog H (T45 m) (L32 m) 111 (W44 r0) k = Fn111 (m + 1) r0 (fun i6 => k (V.f (F.lit (Value.int IntKind.i64 i6))) W17) := by kernel_rfl
noncomputable def T46 (m : Nat) : Tbl := addT 111 (brFn111 m (T45 m)) (T45 m)
theorem okT46 (m : Nat) : TblOk Tryz.prog (T46 m) := addT_ok (okT45 m) fun R vs k x h => by
 unfold brFn111 at h
 split at h
 ·cases m with
  | zero => cases h
  | succ m => exact runK_some (okT45 m) hM (okL32 m) ((evFn111 m R _ k).trans h)
 ·exact okT45 m R 111 _ k x h

abbrev W59 (a0 : Abs.Rows) (a1 a2 : Int) (a3 : ByteArray) (a4 a5 a6 a7 : Int) (a8 : Abs.Rows) (a9 a10 : Int) (a11 : Bool) : List V := [.f (.lst J5 a0), .f (.lit (.int .i64 a1)), .f (.lit (.int .i64 a2)), .obj [.f (.lit (.string a3)), .f (.lit (.int .i64 a4)), .f (.lit (.int .i64 a5)), .f (.lit (.int .i64 a6)), .f (.lit (.int .i64 a7))], .f (.lst J5 a8), .f (.lit (.int .i64 a9)), .f (.lit (.int .i64 a10)), .f (.lit (.bool a11)), .undef]
/-- - -/
noncomputable def Jn29_11 {R : Type} (m : Nat) (kx0 : Int → Bool → Option R) (kx1 : Bool → Option R) (r0 : Abs.Rows) (i1 i2 : Int) (s3 : ByteArray) (i4 i5 i6 i7 : Int) (r8 : Abs.Rows) (i9 i10 : Int) (b11 : Bool) : Option R :=
 bif b11 then (kx0 ((1 : Int)) true) else
 (bif decide (i2 > (0 : Int)) then (bif decide ((0 : Int) ≤ IntKind.wrap IntKind.i64 (i2 - (1 : Int)) ∧ IntKind.wrap IntKind.i64 (i2 - (1 : Int)) < (↑(List.length r0) : Int)) then (bif Op.bytesLess (ByteArray.toList s3) (ByteArray.toList (fS r0 (Int.toNat (IntKind.wrap IntKind.i64 (i2 - (1 : Int)))) (0 : Nat))) then (kx0 ((7 : Int)) false) else
 (kx1 false)) else
 (none)) else
 (kx1 false))
noncomputable def brJn29_11 (m : Nat) (L : LTbl) (R : Type) (vs : List V) (k : Ex → List V → Option R) : Option R := match vs with
 | [.f (.lst [.str, .int .i64, .int .i64, .int .i64, .int .i64] r0), .f (.lit (.int .i64 i1)), .f (.lit (.int .i64 i2)), .obj [.f (.lit (.string s3)), .f (.lit (.int .i64 i4)), .f (.lit (.int .i64 i5)), .f (.lit (.int .i64 i6)), .f (.lit (.int .i64 i7))], .f (.lst [.str, .int .i64, .int .i64, .int .i64, .int .i64] r8), .f (.lit (.int .i64 i9)), .f (.lit (.int .i64 i10)), .f (.lit (.bool b11)), .undef] => Jn29_11 m (fun i12 b13 => k Ex.ret (W59 r0 i12 i2 s3 i4 i5 i6 i7 r8 i9 i10 b13)) (fun b14 => k Ex.normal (W59 r0 i1 i2 s3 i4 i5 i6 i7 r8 i9 i10 b14)) r0 i1 i2 s3 i4 i5 i6 i7 r8 i9 i10 b11
 | _ => L R 29 11 vs k

theorem evJn29_11 (m : Nat) (R : Type) (r0 : Abs.Rows) (i1 i2 : Int) (s3 : ByteArray) (i4 i5 i6 i7 : Int) (r8 : Abs.Rows) (i9 i10 : Int) (b11 : Bool) (k : Ex → List V → Option R) : codeK Tryz.prog H (T46 m) 29 (L32 m) 12 (loopBody Tryz.prog 29 11) (mkEnv [0, 2, 3, 4, 8, 9, 10, 25, 63] (W59 r0 i1 i2 s3 i4 i5 i6 i7 r8 i9 i10 b11) 0 (H.len 29)) (fun e env' => k e (vals [0, 2, 3, 4, 8, 9, 10, 25, 63] env')) = Jn29_11 m (fun i12 b13 => k Ex.ret (W59 r0 i12 i2 s3 i4 i5 i6 i7 r8 i9 i10 b13)) (fun b14 => k Ex.normal (W59 r0 i1 i2 s3 i4 i5 i6 i7 r8 i9 i10 b14)) r0 i1 i2 s3 i4 i5 i6 i7 r8 i9 i10 b11 := by kernel_rfl
noncomputable def L33 (m : Nat) : LTbl := addJ 29 11 (brJn29_11 m (L32 m)) (L32 m)
theorem okL33 (m : Nat) : LTOk Tryz.prog H (L33 m) := addJ_ok (okT46 m) hM (okL32 m) (l := [0, 2, 3, 4, 8, 9, 10, 25, 63]) (by kernel_rfl) (by kernel_rfl) fun R vs k x h => by
  unfold brJn29_11 at h
  split at h
  ·exact .inl ((evJn29_11 m R _ _ _ _ _ _ _ _ _ _ _ _ k).trans h)
  ·exact .inr h

abbrev W60 (a0 : Abs.Rows) (a1 a2 : Int) (a3 : ByteArray) (a4 a5 a6 a7 : Int) (a8 : Abs.Rows) (a9 a10 : Int) : List V := [.f (.lst J5 a0), .f (.lit (.int .i64 a1)), .f (.lit (.int .i64 a2)), .obj [.f (.lit (.string a3)), .f (.lit (.int .i64 a4)), .f (.lit (.int .i64 a5)), .f (.lit (.int .i64 a6)), .f (.lit (.int .i64 a7))], .f (.lst J5 a8), .f (.lit (.int .i64 a9)), .f (.lit (.int .i64 a10)), .undef, .undef]
/-- - -/
noncomputable def Jn29_9 {R : Type} (m : Nat) (kx0 : Int → Bool → Option R) (kx1 : Int → Option R) (kx2 : Option R) (r0 : Abs.Rows) (i1 i2 : Int) (s3 : ByteArray) (i4 i5 i6 i7 : Int) (r8 : Abs.Rows) (i9 i10 : Int) (b11 : Bool) : Option R :=
 bif b11 then (kx0 ((5 : Int)) true) else
 (Fn75 m i4 ((1 : Int)) ((2592000000 : Int)) (fun b12 => bif !b12 then (Jn29_11 m (fun i13 b14 => kx1 i13) (fun b15 => kx2 ) r0 i1 i2 s3 i4 i5 i6 i7 r8 i9 i10 true) else
 (Fn75 m i7 ((1 : Int)) ((2592000000 : Int)) (fun b16 => bif !b16 then (Jn29_11 m (fun i17 b18 => kx1 i17) (fun b19 => kx2 ) r0 i1 i2 s3 i4 i5 i6 i7 r8 i9 i10 true) else
 (Fn75 m i5 ((0 : Int)) ((3000 : Int)) (fun b20 => bif !b20 then (Jn29_11 m (fun i21 b22 => kx1 i21) (fun b23 => kx2 ) r0 i1 i2 s3 i4 i5 i6 i7 r8 i9 i10 true) else
 (Fn75 m i6 ((0 : Int)) ((1000000000000 : Int)) (fun b24 => Jn29_11 m (fun i25 b26 => kx1 i25) (fun b27 => kx2 ) r0 i1 i2 s3 i4 i5 i6 i7 r8 i9 i10 (!b24)))))))))
noncomputable def brJn29_9 (m : Nat) (L : LTbl) (R : Type) (vs : List V) (k : Ex → List V → Option R) : Option R := match vs with
 | [.f (.lst [.str, .int .i64, .int .i64, .int .i64, .int .i64] r0), .f (.lit (.int .i64 i1)), .f (.lit (.int .i64 i2)), .obj [.f (.lit (.string s3)), .f (.lit (.int .i64 i4)), .f (.lit (.int .i64 i5)), .f (.lit (.int .i64 i6)), .f (.lit (.int .i64 i7))], .f (.lst [.str, .int .i64, .int .i64, .int .i64, .int .i64] r8), .f (.lit (.int .i64 i9)), .f (.lit (.int .i64 i10)), .f (.lit (.bool b11)), .undef] => Jn29_9 m (fun i28 b29 => k Ex.ret (W59 r0 i28 i2 s3 i4 i5 i6 i7 r8 i9 i10 b29)) (fun i30 => k Ex.ret (W60 r0 i30 i2 s3 i4 i5 i6 i7 r8 i9 i10)) (k Ex.normal (W60 r0 i1 i2 s3 i4 i5 i6 i7 r8 i9 i10)) r0 i1 i2 s3 i4 i5 i6 i7 r8 i9 i10 b11
 | _ => L R 29 9 vs k

theorem evJn29_9 (m : Nat) (R : Type) (r0 : Abs.Rows) (i1 i2 : Int) (s3 : ByteArray) (i4 i5 i6 i7 : Int) (r8 : Abs.Rows) (i9 i10 : Int) (b11 : Bool) (k : Ex → List V → Option R) : codeK Tryz.prog H (T46 m) 29 (L33 m) 10 (loopBody Tryz.prog 29 9) (mkEnv [0, 2, 3, 4, 8, 9, 10, 15, 63] (W59 r0 i1 i2 s3 i4 i5 i6 i7 r8 i9 i10 b11) 0 (H.len 29)) (fun e env' => k e (vals [0, 2, 3, 4, 8, 9, 10, 15, 63] env')) = Jn29_9 m (fun i28 b29 => k Ex.ret (W59 r0 i28 i2 s3 i4 i5 i6 i7 r8 i9 i10 b29)) (fun i30 => k Ex.ret (W60 r0 i30 i2 s3 i4 i5 i6 i7 r8 i9 i10)) (k Ex.normal (W60 r0 i1 i2 s3 i4 i5 i6 i7 r8 i9 i10)) r0 i1 i2 s3 i4 i5 i6 i7 r8 i9 i10 b11 := by kernel_rfl
noncomputable def L34 (m : Nat) : LTbl := addJ 29 9 (brJn29_9 m (L33 m)) (L33 m)
theorem okL34 (m : Nat) : LTOk Tryz.prog H (L34 m) := addJ_ok (okT46 m) hM (okL33 m) (l := [0, 2, 3, 4, 8, 9, 10, 15, 63]) (by kernel_rfl) (by kernel_rfl) fun R vs k x h => by
  unfold brJn29_9 at h
  split at h
  ·exact .inl ((evJn29_9 m R _ _ _ _ _ _ _ _ _ _ _ _ k).trans h)
  ·exact .inr h

abbrev W61 (a0 : Abs.Rows) (a1 : Int) (a2 : Abs.Rows) (a3 a4 : Int) : List V := [.f (.lst J5 a0), .f (.lit (.int .i64 a1)), .f (.lst J5 a2), .f (.lit (.int .i64 a3)), .f (.lit (.int .i64 a4)), .undef]
/-- - -/
noncomputable def Lp29_5_step {R : Type} (m : Nat) (kx0 : Int → Int → Option R) (kx1 : Int → Option R) (r0 : Abs.Rows) (i1 : Int) (r2 : Abs.Rows) (i3 : Int) (REC : Int → Option R) (i4 : Int) : Option R :=
 bif decide (i4 < i3) then (bif decide ((0 : Int) ≤ i4 ∧ i4 < (↑(List.length r2) : Int)) then (bif !ByteArray.toList (fS r2 (Int.toNat i4) (0 : Nat)) == ByteArray.toList { data := #[] } then (Fn74 m (fS r2 (Int.toNat i4) (0 : Nat)) (fun b5 => Jn29_9 m (fun i6 b7 => kx0 i6 i4) (fun i8 => kx0 i8 i4) (REC (IntKind.wrap IntKind.i64 (i4 + (1 : Int)))) r0 i1 i4 (fS r2 (Int.toNat i4) (0 : Nat)) (fI r2 (Int.toNat i4) (1 : Nat)) (fI r2 (Int.toNat i4) (2 : Nat)) (fI r2 (Int.toNat i4) (3 : Nat)) (fI r2 (Int.toNat i4) (4 : Nat)) r2 i3 i4 (!b5))) else
 (Jn29_9 m (fun i9 b10 => kx0 i9 i4) (fun i11 => kx0 i11 i4) (REC (IntKind.wrap IntKind.i64 (i4 + (1 : Int)))) r0 i1 i4 (fS r2 (Int.toNat i4) (0 : Nat)) (fI r2 (Int.toNat i4) (1 : Nat)) (fI r2 (Int.toNat i4) (2 : Nat)) (fI r2 (Int.toNat i4) (3 : Nat)) (fI r2 (Int.toNat i4) (4 : Nat)) r2 i3 i4 false)) else
 (none)) else
 (kx1 i4)
noncomputable def Lp29_5 {R : Type} (m : Nat) (kx0 : Int → Int → Option R) (kx1 : Int → Option R) (r0 : Abs.Rows) (i1 : Int) (r2 : Abs.Rows) (i3 : Int) : Nat → Int → Option R
 | 0, _ => none
 | n + 1, i4 => Lp29_5_step m kx0 kx1 r0 i1 r2 i3 (Lp29_5 m kx0 kx1 r0 i1 r2 i3 n) i4
noncomputable def ELp29_5 (m : Nat) (R : Type) : Nat → List V → (Ex → List V → Option R) → Option R
 | 0, _, _ => none
 | n + 1, vs, k => match vs with
  | [.f (.lst [.str, .int .i64, .int .i64, .int .i64, .int .i64] r0), .f (.lit (.int .i64 i1)), .f (.lst [.str, .int .i64, .int .i64, .int .i64, .int .i64] r2), .f (.lit (.int .i64 i3)), .f (.lit (.int .i64 i4)), .undef] => Lp29_5_step m (fun i12 i13 => k Ex.ret (W61 r0 i12 r2 i3 i13)) (fun i14 => k (Ex.exit (0 : Nat)) (W61 r0 i1 r2 i3 i14)) r0 i1 r2 i3 (fun i4 => ELp29_5 m R n (W61 r0 i1 r2 i3 i4) k) i4
  | _ => none
noncomputable def brLp29_5 (m : Nat) (L : LTbl) (R : Type) (vs : List V) (k : Ex → List V → Option R) : Option R := match vs with
 | [.f (.lst [.str, .int .i64, .int .i64, .int .i64, .int .i64] r0), .f (.lit (.int .i64 i1)), .f (.lst [.str, .int .i64, .int .i64, .int .i64, .int .i64] r2), .f (.lit (.int .i64 i3)), .f (.lit (.int .i64 i4)), .undef] => Lp29_5 m (fun i12 i13 => k Ex.ret (W61 r0 i12 r2 i3 i13)) (fun i14 => k (Ex.exit (0 : Nat)) (W61 r0 i1 r2 i3 i14)) r0 i1 r2 i3 m i4
 | _ => L R 29 5 vs k

theorem stLp29_5 (m n : Nat) (R : Type) (r0 : Abs.Rows) (i1 : Int) (r2 : Abs.Rows) (i3 i4 : Int) (k : Ex → List V → Option R) : codeK Tryz.prog H (T46 m) 29 (L34 m) 6 (loopBody Tryz.prog 29 5) (mkEnv [0, 2, 8, 9, 10, 63] (W61 r0 i1 r2 i3 i4) 0 (H.len 29)) (fun e env' => match e with | .normal => ELp29_5 m R n (vals [0, 2, 8, 9, 10, 63] env') k | e => k e (vals [0, 2, 8, 9, 10, 63] env')) = Lp29_5_step m (fun i12 i13 => k Ex.ret (W61 r0 i12 r2 i3 i13)) (fun i14 => k (Ex.exit (0 : Nat)) (W61 r0 i1 r2 i3 i14)) r0 i1 r2 i3 (fun i4 => ELp29_5 m R n (W61 r0 i1 r2 i3 i4) k) i4 := by kernel_rfl
theorem eqLp29_5 (m : Nat) (R : Type) (r0 : Abs.Rows) (i1 : Int) (r2 : Abs.Rows) (i3 : Int) (k : Ex → List V → Option R) : ∀ (n : Nat) (i4 : Int), ELp29_5 m R n (W61 r0 i1 r2 i3 i4) k = Lp29_5 m (fun i12 i13 => k Ex.ret (W61 r0 i12 r2 i3 i13)) (fun i14 => k (Ex.exit (0 : Nat)) (W61 r0 i1 r2 i3 i14)) r0 i1 r2 i3 n i4
 | 0, _ => rfl
 | n + 1, i4 => by
  simp only [ELp29_5, Lp29_5, W61]
  congr 1
  funext i4
  exact eqLp29_5 m R r0 i1 r2 i3 k n i4
noncomputable def L35 (m : Nat) : LTbl := addB 29 5 (brLp29_5 m (L34 m)) (L34 m)
theorem okL35 (m : Nat) : LTOk Tryz.prog H (L35 m) := addB_ok (okT46 m) hM (okL34 m) (l := [0, 2, 8, 9, 10, 63]) (by kernel_rfl) (by kernel_rfl) m (fun R n vs k => ELp29_5 m R n vs k) (fun R vs k => rfl) (fun R n vs k x h => by
   simp only [ELp29_5] at h
   split at h
   ·exact (stLp29_5 m n R _ _ _ _ _ k).trans h
   ·cases h) fun R vs k x h => by
  unfold brLp29_5 at h
  split at h
  ·exact .inl ((eqLp29_5 m R _ _ _ _ k m _).trans h)
  ·exact .inr h

abbrev W62 (a0 : Abs.Rows) : List V := [.f (.lst J5 a0)]
/-- - -/
noncomputable def Fn29 {R : Type} (m : Nat) : Abs.Rows → (Int → Option R) → Option R := match m with
 | 0 => fun _ _ => none
 | m + 1 => fun r0 k =>
 bif decide ((↑(List.length r0) : Int) > (50 : Int)) then (k ((2 : Int))) else
 (Lp29_5 m (fun i1 i2 => k i1) (fun i3 => k ((0 : Int))) r0 ((0 : Int)) r0 ((↑(List.length r0) : Int)) m ((0 : Int)))
noncomputable def brFn29 (m : Nat) (T : Tbl) (R : Type) (vs : List V) (k : V → List V → Option R) : Option R := match vs with
 | [.f (.lst [.str, .int .i64, .int .i64, .int .i64, .int .i64] r0)] => Fn29 m r0 (fun i4 => k (V.f (F.lit (Value.int IntKind.i64 i4))) W17)
 | _ => T R 29 vs k

theorem evFn29 (m : Nat) (R : Type) (r0 : Abs.Rows) (k : V → List V → Option R) : runK Tryz.prog H (T46 m) (L35 m) 29 (W62 r0) k = Fn29 (m + 1) r0 (fun i4 => k (V.f (F.lit (Value.int IntKind.i64 i4))) W17) := by kernel_rfl
noncomputable def T47 (m : Nat) : Tbl := addT 29 (brFn29 m (T46 m)) (T46 m)
theorem okT47 (m : Nat) : TblOk Tryz.prog (T47 m) := addT_ok (okT46 m) fun R vs k x h => by
 unfold brFn29 at h
 split at h
 ·cases m with
  | zero => cases h
  | succ m => exact runK_some (okT46 m) hM (okL35 m) ((evFn29 m R _ k).trans h)
 ·exact okT46 m R 29 _ k x h

/-- - -/
noncomputable def Fn77 {R : Type} (m : Nat) : Int → (Bool → Option R) → Option R := match m with
 | 0 => fun _ _ => none
 | m + 1 => fun i0 k =>
 bif decide (i0 ≥ (0 : Int)) then (k (decide (i0 < (345686400000 : Int)))) else
 (k false)
noncomputable def brFn77 (m : Nat) (T : Tbl) (R : Type) (vs : List V) (k : V → List V → Option R) : Option R := match vs with
 | [.f (.lit (.int .i64 i0))] => Fn77 m i0 (fun b1 => k (V.f (F.lit (Value.bool b1))) W17)
 | _ => T R 77 vs k

theorem evFn77 (m : Nat) (R : Type) (i0 : Int) (k : V → List V → Option R) : runK Tryz.prog H (T47 m) (L35 m) 77 (W18 i0) k = Fn77 (m + 1) i0 (fun b1 => k (V.f (F.lit (Value.bool b1))) W17) := by kernel_rfl
noncomputable def T48 (m : Nat) : Tbl := addT 77 (brFn77 m (T47 m)) (T47 m)
theorem okT48 (m : Nat) : TblOk Tryz.prog (T48 m) := addT_ok (okT47 m) fun R vs k x h => by
 unfold brFn77 at h
 split at h
 ·cases m with
  | zero => cases h
  | succ m => exact runK_some (okT47 m) hM (okL35 m) ((evFn77 m R _ k).trans h)
 ·exact okT47 m R 77 _ k x h

/-- - -/
noncomputable def Fn126 {R : Type} (m : Nat) : Int → (Bool → Option R) → Option R := match m with
 | 0 => fun _ _ => none
 | m + 1 => fun i0 k =>
 k (i0 != i0)
noncomputable def brFn126 (m : Nat) (T : Tbl) (R : Type) (vs : List V) (k : V → List V → Option R) : Option R := match vs with
 | [.f (.lit (.int .i64 i0))] => Fn126 m i0 (fun b1 => k (V.f (F.lit (Value.bool b1))) W17)
 | _ => T R 126 vs k

theorem evFn126 (m : Nat) (R : Type) (i0 : Int) (k : V → List V → Option R) : runK Tryz.prog H (T48 m) (L35 m) 126 (W18 i0) k = Fn126 (m + 1) i0 (fun b1 => k (V.f (F.lit (Value.bool b1))) W17) := by kernel_rfl
noncomputable def T49 (m : Nat) : Tbl := addT 126 (brFn126 m (T48 m)) (T48 m)
theorem okT49 (m : Nat) : TblOk Tryz.prog (T49 m) := addT_ok (okT48 m) fun R vs k x h => by
 unfold brFn126 at h
 split at h
 ·cases m with
  | zero => cases h
  | succ m => exact runK_some (okT48 m) hM (okL35 m) ((evFn126 m R _ k).trans h)
 ·exact okT48 m R 126 _ k x h

/-- - -/
noncomputable def Fn87 {R : Type} (m : Nat) : Int → Int → (Int → Option R) → Option R := match m with
 | 0 => fun _ _ _ => none
 | m + 1 => fun i0 i1 k =>
 Fn126 m i0 (fun b2 => Fn126 m i1 (fun b3 => bif b2 then (bif b3 then (k ((0 : Int))) else
 (k ((-1 : Int)))) else
 (bif b3 then (k ((1 : Int))) else
 (bif decide (i0 < i1) then (k ((-1 : Int))) else
 (bif decide (i0 > i1) then (k ((1 : Int))) else
 (k ((0 : Int))))))))
noncomputable def brFn87 (m : Nat) (T : Tbl) (R : Type) (vs : List V) (k : V → List V → Option R) : Option R := match vs with
 | [.f (.lit (.int .i64 i0)), .f (.lit (.int .i64 i1))] => Fn87 m i0 i1 (fun i4 => k (V.f (F.lit (Value.int IntKind.i64 i4))) W1)
 | _ => T R 87 vs k

theorem evFn87 (m : Nat) (R : Type) (i0 i1 : Int) (k : V → List V → Option R) : runK Tryz.prog H (T49 m) (L35 m) 87 (W2 i0 i1) k = Fn87 (m + 1) i0 i1 (fun i4 => k (V.f (F.lit (Value.int IntKind.i64 i4))) W1) := by kernel_rfl
noncomputable def T50 (m : Nat) : Tbl := addT 87 (brFn87 m (T49 m)) (T49 m)
theorem okT50 (m : Nat) : TblOk Tryz.prog (T50 m) := addT_ok (okT49 m) fun R vs k x h => by
 unfold brFn87 at h
 split at h
 ·cases m with
  | zero => cases h
  | succ m => exact runK_some (okT49 m) hM (okL35 m) ((evFn87 m R _ _ k).trans h)
 ·exact okT49 m R 87 _ k x h

abbrev W63 (a0 : Abs.Rows) (a1 a2 : Int) (a3 : Abs.Rows) (a4 a5 : Int) : List V := [.bor J1 a0, .f (.lit (.int .i64 a1)), .f (.lit (.int .i64 a2)), .bor J1 a3, .f (.lit (.int .i64 a4)), .f (.lit (.int .i64 a5)), .undef]
/-- - -/
noncomputable def Lp86_3_step {R : Type} (m : Nat) (kx0 : Int → Int → Option R) (kx1 : Int → Option R) (r0 : Abs.Rows) (i1 i2 : Int) (r3 : Abs.Rows) (i4 : Int) (REC : Int → Option R) (i5 : Int) : Option R :=
 bif decide (i5 < i4) then (bif decide ((0 : Int) ≤ i5 ∧ i5 < (↑(List.length r3) : Int)) then (bif fI r3 (Int.toNat i5) (0 : Nat) != i2 then (kx0 (fI r3 (Int.toNat i5) (0 : Nat)) i5) else
 (REC (IntKind.wrap IntKind.i64 (i5 + (1 : Int))))) else
 (none)) else
 (kx1 i5)
noncomputable def Lp86_3 {R : Type} (m : Nat) (kx0 : Int → Int → Option R) (kx1 : Int → Option R) (r0 : Abs.Rows) (i1 i2 : Int) (r3 : Abs.Rows) (i4 : Int) : Nat → Int → Option R
 | 0, _ => none
 | n + 1, i5 => Lp86_3_step m kx0 kx1 r0 i1 i2 r3 i4 (Lp86_3 m kx0 kx1 r0 i1 i2 r3 i4 n) i5
noncomputable def ELp86_3 (m : Nat) (R : Type) : Nat → List V → (Ex → List V → Option R) → Option R
 | 0, _, _ => none
 | n + 1, vs, k => match vs with
  | [.bor [.int .i64] r0, .f (.lit (.int .i64 i1)), .f (.lit (.int .i64 i2)), .bor [.int .i64] r3, .f (.lit (.int .i64 i4)), .f (.lit (.int .i64 i5)), .undef] => Lp86_3_step m (fun i6 i7 => k Ex.ret (W63 r0 i6 i2 r3 i4 i7)) (fun i8 => k (Ex.exit (0 : Nat)) (W63 r0 i1 i2 r3 i4 i8)) r0 i1 i2 r3 i4 (fun i5 => ELp86_3 m R n (W63 r0 i1 i2 r3 i4 i5) k) i5
  | _ => none
noncomputable def brLp86_3 (m : Nat) (L : LTbl) (R : Type) (vs : List V) (k : Ex → List V → Option R) : Option R := match vs with
 | [.bor [.int .i64] r0, .f (.lit (.int .i64 i1)), .f (.lit (.int .i64 i2)), .bor [.int .i64] r3, .f (.lit (.int .i64 i4)), .f (.lit (.int .i64 i5)), .undef] => Lp86_3 m (fun i6 i7 => k Ex.ret (W63 r0 i6 i2 r3 i4 i7)) (fun i8 => k (Ex.exit (0 : Nat)) (W63 r0 i1 i2 r3 i4 i8)) r0 i1 i2 r3 i4 m i5
 | _ => L R 86 3 vs k

theorem stLp86_3 (m n : Nat) (R : Type) (r0 : Abs.Rows) (i1 i2 : Int) (r3 : Abs.Rows) (i4 i5 : Int) (k : Ex → List V → Option R) : codeK Tryz.prog H (T50 m) 86 (L35 m) 4 (loopBody Tryz.prog 86 3) (mkEnv [0, 2, 3, 6, 7, 8, 18] (W63 r0 i1 i2 r3 i4 i5) 0 (H.len 86)) (fun e env' => match e with | .normal => ELp86_3 m R n (vals [0, 2, 3, 6, 7, 8, 18] env') k | e => k e (vals [0, 2, 3, 6, 7, 8, 18] env')) = Lp86_3_step m (fun i6 i7 => k Ex.ret (W63 r0 i6 i2 r3 i4 i7)) (fun i8 => k (Ex.exit (0 : Nat)) (W63 r0 i1 i2 r3 i4 i8)) r0 i1 i2 r3 i4 (fun i5 => ELp86_3 m R n (W63 r0 i1 i2 r3 i4 i5) k) i5 := by kernel_rfl
theorem eqLp86_3 (m : Nat) (R : Type) (r0 : Abs.Rows) (i1 i2 : Int) (r3 : Abs.Rows) (i4 : Int) (k : Ex → List V → Option R) : ∀ (n : Nat) (i5 : Int), ELp86_3 m R n (W63 r0 i1 i2 r3 i4 i5) k = Lp86_3 m (fun i6 i7 => k Ex.ret (W63 r0 i6 i2 r3 i4 i7)) (fun i8 => k (Ex.exit (0 : Nat)) (W63 r0 i1 i2 r3 i4 i8)) r0 i1 i2 r3 i4 n i5
 | 0, _ => rfl
 | n + 1, i5 => by
  simp only [ELp86_3, Lp86_3, W63]
  congr 1
  funext i5
  exact eqLp86_3 m R r0 i1 i2 r3 i4 k n i5
noncomputable def L36 (m : Nat) : LTbl := addB 86 3 (brLp86_3 m (L35 m)) (L35 m)
theorem okL36 (m : Nat) : LTOk Tryz.prog H (L36 m) := addB_ok (okT50 m) hM (okL35 m) (l := [0, 2, 3, 6, 7, 8, 18]) (by kernel_rfl) (by kernel_rfl) m (fun R n vs k => ELp86_3 m R n vs k) (fun R vs k => rfl) (fun R n vs k x h => by
   simp only [ELp86_3] at h
   split at h
   ·exact (stLp86_3 m n R _ _ _ _ _ _ k).trans h
   ·cases h) fun R vs k x h => by
  unfold brLp86_3 at h
  split at h
  ·exact .inl ((eqLp86_3 m R _ _ _ _ _ k m _).trans h)
  ·exact .inr h

/-- - -/
noncomputable def Fn86 {R : Type} (m : Nat) : Abs.Rows → (Int → Option R) → Option R := match m with
 | 0 => fun _ _ => none
 | m + 1 => fun r0 k =>
 Lp86_3 m (fun i1 i2 => k i1) (fun i3 => k ((0 : Int))) r0 ((0 : Int)) ((0 : Int)) r0 ((↑(List.length r0) : Int)) m ((0 : Int))
noncomputable def brFn86 (m : Nat) (T : Tbl) (R : Type) (vs : List V) (k : V → List V → Option R) : Option R := match vs with
 | [.bor [.int .i64] r0] => Fn86 m r0 (fun i4 => k (V.f (F.lit (Value.int IntKind.i64 i4))) W17)
 | _ => T R 86 vs k

theorem evFn86 (m : Nat) (R : Type) (r0 : Abs.Rows) (k : V → List V → Option R) : runK Tryz.prog H (T50 m) (L36 m) 86 (W51 r0) k = Fn86 (m + 1) r0 (fun i4 => k (V.f (F.lit (Value.int IntKind.i64 i4))) W17) := by kernel_rfl
noncomputable def T51 (m : Nat) : Tbl := addT 86 (brFn86 m (T50 m)) (T50 m)
theorem okT51 (m : Nat) : TblOk Tryz.prog (T51 m) := addT_ok (okT50 m) fun R vs k x h => by
 unfold brFn86 at h
 split at h
 ·cases m with
  | zero => cases h
  | succ m => exact runK_some (okT50 m) hM (okL36 m) ((evFn86 m R _ k).trans h)
 ·exact okT50 m R 86 _ k x h

/-- - -/
noncomputable def Fn102 {R : Type} (m : Nat) : ByteArray → ByteArray → ByteArray → Int → Int → Int → Int → ByteArray → ByteArray → ByteArray → ByteArray → Int → Int → Int → Int → ByteArray → (Int → Option R) → Option R := match m with
 | 0 => fun _ _ _ _ _ _ _ _ _ _ _ _ _ _ _ _ _ => none
 | m + 1 => fun s0 s1 s2 i3 i4 i5 i6 s7 s8 s9 s10 i11 i12 i13 i14 s15 k =>
 Fn87 m i3 i11 (fun i16 => Fn86 m ([[F.lit (Value.int IntKind.i64 i16)], [F.lit (Value.int IntKind.i64 (cmpB s0 s8))]]) (fun i17 => k i17))
noncomputable def brFn102 (m : Nat) (T : Tbl) (R : Type) (vs : List V) (k : V → List V → Option R) : Option R := match vs with
 | [.agg [.f (.lit (.string s0)), .f (.lit (.string s1)), .f (.lit (.string s2)), .f (.lit (.int .i64 i3)), .f (.lit (.int .i64 i4)), .f (.lit (.int .i64 i5)), .f (.lit (.int .i64 i6)), .f (.lit (.string s7))], .agg [.f (.lit (.string s8)), .f (.lit (.string s9)), .f (.lit (.string s10)), .f (.lit (.int .i64 i11)), .f (.lit (.int .i64 i12)), .f (.lit (.int .i64 i13)), .f (.lit (.int .i64 i14)), .f (.lit (.string s15))]] => Fn102 m s0 s1 s2 i3 i4 i5 i6 s7 s8 s9 s10 i11 i12 i13 i14 s15 (fun i18 => k (V.f (F.lit (Value.int IntKind.i64 i18))) W1)
 | _ => T R 102 vs k

theorem evFn102 (m : Nat) (R : Type) (s0 s1 s2 : ByteArray) (i3 i4 i5 i6 : Int) (s7 s8 s9 s10 : ByteArray) (i11 i12 i13 i14 : Int) (s15 : ByteArray) (k : V → List V → Option R) : runK Tryz.prog H (T51 m) (L36 m) 102 (W19 s0 s1 s2 i3 i4 i5 i6 s7 s8 s9 s10 i11 i12 i13 i14 s15) k = Fn102 (m + 1) s0 s1 s2 i3 i4 i5 i6 s7 s8 s9 s10 i11 i12 i13 i14 s15 (fun i18 => k (V.f (F.lit (Value.int IntKind.i64 i18))) W1) := by kernel_rfl
noncomputable def T52 (m : Nat) : Tbl := addT 102 (brFn102 m (T51 m)) (T51 m)
theorem okT52 (m : Nat) : TblOk Tryz.prog (T52 m) := addT_ok (okT51 m) fun R vs k x h => by
 unfold brFn102 at h
 split at h
 ·cases m with
  | zero => cases h
  | succ m => exact runK_some (okT51 m) hM (okL36 m) ((evFn102 m R _ _ _ _ _ _ _ _ _ _ _ _ _ _ _ _ k).trans h)
 ·exact okT51 m R 102 _ k x h

abbrev W64 (a0 : Abs.Rows) (a1 : Int) (a2 : Abs.Rows) (a3 : Bool) (a4 : Int) (a5 a6 a7 : ByteArray) (a8 a9 a10 a11 : Int) (a12 : ByteArray) (a13 : Abs.Rows) (a14 a15 : Int) (a16 : Bool) : List V := [.bor J2 a0, .f (.lit (.int .i64 a1)), .own J8 a2, .f (.lit (.bool a3)), .f (.lit (.int .i64 a4)), .obj [.f (.lit (.string a5)), .f (.lit (.string a6)), .f (.lit (.string a7)), .f (.lit (.int .i64 a8)), .f (.lit (.int .i64 a9)), .f (.lit (.int .i64 a10)), .f (.lit (.int .i64 a11)), .f (.lit (.string a12))], .undef, .bor J2 a13, .f (.lit (.int .i64 a14)), .f (.lit (.int .i64 a15)), .f (.lit (.bool a16)), .undef]
/-- - -/
noncomputable def Jn48_21 {R : Type} (m : Nat) (kx0 : Int → Bool → Option R) (kx1 : Bool → Option R) (r0 : Abs.Rows) (i1 : Int) (r2 : Abs.Rows) (b3 : Bool) (i4 : Int) (s5 s6 s7 : ByteArray) (i8 i9 i10 i11 : Int) (s12 : ByteArray) (r13 : Abs.Rows) (i14 i15 : Int) (b16 : Bool) : Option R :=
 bif b16 then (kx0 ((5 : Int)) true) else
 (bif decide (i4 > (0 : Int)) then (bif decide ((0 : Int) ≤ IntKind.wrap IntKind.i64 (i4 - (1 : Int)) ∧ IntKind.wrap IntKind.i64 (i4 - (1 : Int)) < (↑(List.length r0) : Int)) then (Fn102 m (fS r0 (Int.toNat (IntKind.wrap IntKind.i64 (i4 - (1 : Int)))) (0 : Nat)) (fS r0 (Int.toNat (IntKind.wrap IntKind.i64 (i4 - (1 : Int)))) (1 : Nat)) (fS r0 (Int.toNat (IntKind.wrap IntKind.i64 (i4 - (1 : Int)))) (2 : Nat)) (fI r0 (Int.toNat (IntKind.wrap IntKind.i64 (i4 - (1 : Int)))) (3 : Nat)) (fI r0 (Int.toNat (IntKind.wrap IntKind.i64 (i4 - (1 : Int)))) (4 : Nat)) (fI r0 (Int.toNat (IntKind.wrap IntKind.i64 (i4 - (1 : Int)))) (5 : Nat)) (fI r0 (Int.toNat (IntKind.wrap IntKind.i64 (i4 - (1 : Int)))) (6 : Nat)) (fS r0 (Int.toNat (IntKind.wrap IntKind.i64 (i4 - (1 : Int)))) (7 : Nat)) s5 s6 s7 i8 i9 i10 i11 s12 (fun i17 => bif decide (i17 ≥ (0 : Int)) then (kx0 ((7 : Int)) false) else
 (kx1 false))) else
 (none)) else
 (kx1 false))
noncomputable def brJn48_21 (m : Nat) (L : LTbl) (R : Type) (vs : List V) (k : Ex → List V → Option R) : Option R := match vs with
 | [.bor [.str, .str, .str, .int .i64, .int .i64, .int .i64, .int .i64, .str] r0, .f (.lit (.int .i64 i1)), .own [.mp false, .str, .bool] r2, .f (.lit (.bool b3)), .f (.lit (.int .i64 i4)), .obj [.f (.lit (.string s5)), .f (.lit (.string s6)), .f (.lit (.string s7)), .f (.lit (.int .i64 i8)), .f (.lit (.int .i64 i9)), .f (.lit (.int .i64 i10)), .f (.lit (.int .i64 i11)), .f (.lit (.string s12))], .undef, .bor [.str, .str, .str, .int .i64, .int .i64, .int .i64, .int .i64, .str] r13, .f (.lit (.int .i64 i14)), .f (.lit (.int .i64 i15)), .f (.lit (.bool b16)), .undef] => Jn48_21 m (fun i18 b19 => k Ex.ret (W64 r0 i18 r2 b3 i4 s5 s6 s7 i8 i9 i10 i11 s12 r13 i14 i15 b19)) (fun b20 => k Ex.normal (W64 r0 i1 r2 b3 i4 s5 s6 s7 i8 i9 i10 i11 s12 r13 i14 i15 b20)) r0 i1 r2 b3 i4 s5 s6 s7 i8 i9 i10 i11 s12 r13 i14 i15 b16
 | _ => L R 48 21 vs k

theorem evJn48_21 (m : Nat) (R : Type) (r0 : Abs.Rows) (i1 : Int) (r2 : Abs.Rows) (b3 : Bool) (i4 : Int) (s5 s6 s7 : ByteArray) (i8 i9 i10 i11 : Int) (s12 : ByteArray) (r13 : Abs.Rows) (i14 i15 : Int) (b16 : Bool) (k : Ex → List V → Option R) : codeK Tryz.prog H (T52 m) 48 (L36 m) 22 (loopBody Tryz.prog 48 21) (mkEnv [0, 2, 3, 4, 5, 6, 10, 11, 12, 13, 64, 99] (W64 r0 i1 r2 b3 i4 s5 s6 s7 i8 i9 i10 i11 s12 r13 i14 i15 b16) 0 (H.len 48)) (fun e env' => k e (vals [0, 2, 3, 4, 5, 6, 10, 11, 12, 13, 64, 99] env')) = Jn48_21 m (fun i18 b19 => k Ex.ret (W64 r0 i18 r2 b3 i4 s5 s6 s7 i8 i9 i10 i11 s12 r13 i14 i15 b19)) (fun b20 => k Ex.normal (W64 r0 i1 r2 b3 i4 s5 s6 s7 i8 i9 i10 i11 s12 r13 i14 i15 b20)) r0 i1 r2 b3 i4 s5 s6 s7 i8 i9 i10 i11 s12 r13 i14 i15 b16 := by kernel_rfl
noncomputable def L37 (m : Nat) : LTbl := addJ 48 21 (brJn48_21 m (L36 m)) (L36 m)
theorem okL37 (m : Nat) : LTOk Tryz.prog H (L37 m) := addJ_ok (okT52 m) hM (okL36 m) (l := [0, 2, 3, 4, 5, 6, 10, 11, 12, 13, 64, 99]) (by kernel_rfl) (by kernel_rfl) fun R vs k x h => by
  unfold brJn48_21 at h
  split at h
  ·exact .inl ((evJn48_21 m R _ _ _ _ _ _ _ _ _ _ _ _ _ _ _ _ _ k).trans h)
  ·exact .inr h

abbrev W65 (a0 : Abs.Rows) (a1 : Int) (a2 : Abs.Rows) (a3 : Bool) (a4 : Int) (a5 a6 a7 : ByteArray) (a8 a9 a10 a11 : Int) (a12 : ByteArray) (a13 : Abs.Rows) (a14 a15 : Int) : List V := [.bor J2 a0, .f (.lit (.int .i64 a1)), .own J8 a2, .f (.lit (.bool a3)), .f (.lit (.int .i64 a4)), .obj [.f (.lit (.string a5)), .f (.lit (.string a6)), .f (.lit (.string a7)), .f (.lit (.int .i64 a8)), .f (.lit (.int .i64 a9)), .f (.lit (.int .i64 a10)), .f (.lit (.int .i64 a11)), .f (.lit (.string a12))], .undef, .bor J2 a13, .f (.lit (.int .i64 a14)), .f (.lit (.int .i64 a15)), .undef, .undef]
/-- - -/
noncomputable def Jn48_15 {R : Type} (m : Nat) (kx0 : Int → Bool → Option R) (kx1 : Int → Option R) (kx2 : Option R) (r0 : Abs.Rows) (i1 : Int) (r2 : Abs.Rows) (b3 : Bool) (i4 : Int) (s5 s6 s7 : ByteArray) (i8 i9 i10 i11 : Int) (s12 : ByteArray) (r13 : Abs.Rows) (i14 i15 : Int) (b16 : Bool) : Option R :=
 bif b16 then (kx0 ((1 : Int)) true) else
 (Fn75 m i11 ((1 : Int)) ((4 : Int)) (fun b17 => bif !b17 then (kx0 ((4 : Int)) false) else
 (bif !(i11 == (1 : Int)) == decide (i10 > (0 : Int)) then (kx0 ((3 : Int)) false) else
 (bif !ByteArray.toList s12 == ByteArray.toList { data := #[] } then (Fn74 m s12 (fun b18 => Jn48_21 m (fun i19 b20 => kx1 i19) (fun b21 => kx2 ) r0 i1 r2 b3 i4 s5 s6 s7 i8 i9 i10 i11 s12 r13 i14 i15 (!b18))) else
 (Jn48_21 m (fun i22 b23 => kx1 i22) (fun b24 => kx2 ) r0 i1 r2 b3 i4 s5 s6 s7 i8 i9 i10 i11 s12 r13 i14 i15 false)))))
noncomputable def brJn48_15 (m : Nat) (L : LTbl) (R : Type) (vs : List V) (k : Ex → List V → Option R) : Option R := match vs with
 | [.bor [.str, .str, .str, .int .i64, .int .i64, .int .i64, .int .i64, .str] r0, .f (.lit (.int .i64 i1)), .own [.mp false, .str, .bool] r2, .f (.lit (.bool b3)), .f (.lit (.int .i64 i4)), .obj [.f (.lit (.string s5)), .f (.lit (.string s6)), .f (.lit (.string s7)), .f (.lit (.int .i64 i8)), .f (.lit (.int .i64 i9)), .f (.lit (.int .i64 i10)), .f (.lit (.int .i64 i11)), .f (.lit (.string s12))], .undef, .bor [.str, .str, .str, .int .i64, .int .i64, .int .i64, .int .i64, .str] r13, .f (.lit (.int .i64 i14)), .f (.lit (.int .i64 i15)), .f (.lit (.bool b16)), .undef] => Jn48_15 m (fun i25 b26 => k Ex.ret (W64 r0 i25 r2 b3 i4 s5 s6 s7 i8 i9 i10 i11 s12 r13 i14 i15 b26)) (fun i27 => k Ex.ret (W65 r0 i27 r2 b3 i4 s5 s6 s7 i8 i9 i10 i11 s12 r13 i14 i15)) (k Ex.normal (W65 r0 i1 r2 b3 i4 s5 s6 s7 i8 i9 i10 i11 s12 r13 i14 i15)) r0 i1 r2 b3 i4 s5 s6 s7 i8 i9 i10 i11 s12 r13 i14 i15 b16
 | _ => L R 48 15 vs k

theorem evJn48_15 (m : Nat) (R : Type) (r0 : Abs.Rows) (i1 : Int) (r2 : Abs.Rows) (b3 : Bool) (i4 : Int) (s5 s6 s7 : ByteArray) (i8 i9 i10 i11 : Int) (s12 : ByteArray) (r13 : Abs.Rows) (i14 i15 : Int) (b16 : Bool) (k : Ex → List V → Option R) : codeK Tryz.prog H (T52 m) 48 (L37 m) 16 (loopBody Tryz.prog 48 15) (mkEnv [0, 2, 3, 4, 5, 6, 10, 11, 12, 13, 34, 99] (W64 r0 i1 r2 b3 i4 s5 s6 s7 i8 i9 i10 i11 s12 r13 i14 i15 b16) 0 (H.len 48)) (fun e env' => k e (vals [0, 2, 3, 4, 5, 6, 10, 11, 12, 13, 34, 99] env')) = Jn48_15 m (fun i25 b26 => k Ex.ret (W64 r0 i25 r2 b3 i4 s5 s6 s7 i8 i9 i10 i11 s12 r13 i14 i15 b26)) (fun i27 => k Ex.ret (W65 r0 i27 r2 b3 i4 s5 s6 s7 i8 i9 i10 i11 s12 r13 i14 i15)) (k Ex.normal (W65 r0 i1 r2 b3 i4 s5 s6 s7 i8 i9 i10 i11 s12 r13 i14 i15)) r0 i1 r2 b3 i4 s5 s6 s7 i8 i9 i10 i11 s12 r13 i14 i15 b16 := by kernel_rfl
noncomputable def L38 (m : Nat) : LTbl := addJ 48 15 (brJn48_15 m (L37 m)) (L37 m)
theorem okL38 (m : Nat) : LTOk Tryz.prog H (L38 m) := addJ_ok (okT52 m) hM (okL37 m) (l := [0, 2, 3, 4, 5, 6, 10, 11, 12, 13, 34, 99]) (by kernel_rfl) (by kernel_rfl) fun R vs k x h => by
  unfold brJn48_15 at h
  split at h
  ·exact .inl ((evJn48_15 m R _ _ _ _ _ _ _ _ _ _ _ _ _ _ _ _ _ k).trans h)
  ·exact .inr h


end Go.Proofs.YtcoplddcbedeoaaGreatDoor.Med
end
