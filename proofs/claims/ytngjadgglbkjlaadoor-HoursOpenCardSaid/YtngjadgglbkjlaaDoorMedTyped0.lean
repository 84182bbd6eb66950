/- A part of the proofs of the seat YtngjadgglbkjlaaDoor: no statement of the seat stands here. -/
import Derived.Test.YtngjadgglbkjlaaDoorProg
import Derived.KernelRfl
import Derived.Test.YtngjadgglbkjlaaDoorAbsD
import Derived.Test.YtngjadgglbkjlaaDoorMedPre
section
set_option linter.unusedVariables false
set_option linter.unusedSimpArgs false
set_option linter.unusedSectionVars false
namespace Go.Proofs.YtngjadgglbkjlaaDoor.Med
open Go Go.Abs Go.Proofs
set_option linter.unusedVariables false
set_option maxHeartbeats 8000000
set_option maxRecDepth 100000
theorem hM : Tryd.prog.follows .mixedOrders = true := by kernel_rfl
theorem idx103 (s : ByteArray) (c : Int) : FnOk Tryd.prog 103 [.f (.lit (.string s)), .f (.lit (.int .u8 c))] (vInt .i64 (idxByte s c)) [.undef, .undef] :=
 idx_ok (fn := Tryd.f103) Tryd.func103 (by kernel_rfl) (by kernel_rfl) (by kernel_rfl) (by kernel_rfl) s c
noncomputable def TC0 : Tbl := addT 103 (brIdx 103 noT) noT
theorem okTC0 : TblOk Tryd.prog TC0 := brIdx_ok noT_ok idx103
noncomputable def TC1 : Tbl := addT 84 (brTrim 84 TC0) TC0
theorem okTC1 : TblOk Tryd.prog TC1 := brTrim_ok okTC0 trim84
noncomputable def TC2 : Tbl := addT 66 (brSort 66 TC1) TC1
theorem okTC2 : TblOk Tryd.prog TC2 := brSort_ok okTC1 sort66
noncomputable def TC3 : Tbl := addT 67 (brComp 67 TC2) TC2
theorem okTC3 : TblOk Tryd.prog TC3 := brComp_ok okTC2 comp67
abbrev W1 : List V := [.undef, .undef]
abbrev W2 (a0 a1 : Int) : List V := [.f (.lit (.int .i64 a0)), .f (.lit (.int .i64 a1))]
noncomputable def T0 (_ : Nat) : Tbl := TC3
noncomputable def L0 (_ : Nat) : LTbl := noL
theorem okT0 (m : Nat) : TblOk Tryd.prog (T0 m) := okTC3
theorem okL0 (m : Nat) : LTOk Tryd.prog H (L0 m) := noL_ok
/-- - -/
noncomputable def Fn60 {R : Type} (m : Nat) : Int → Int → (Int → Option R) → Option R := match m with
 | 0 => fun _ _ _ => none
 | m + 1 => fun i0 i1 k =>
 bif decide (i1 < (1 : Int)) then (k ((0 : Int))) else
 (bif decide (i1 ≠ (0 : Int)) then (bif decide (Int.tmod i0 i1 < (0 : Int)) then (k (IntKind.wrap IntKind.i64 (Int.tmod i0 i1 + i1))) else
 (k (Int.tmod i0 i1))) else
 (none))
noncomputable def brFn60 (m : Nat) (T : Tbl) (R : Type) (vs : List V) (k : V → List V → Option R) : Option R := match vs with
 | [.f (.lit (.int .i64 i0)), .f (.lit (.int .i64 i1))] => Fn60 m i0 i1 (fun i2 => k (V.f (F.lit (Value.int IntKind.i64 i2))) W1)
 | _ => T R 60 vs k
set_option maxRecDepth 100000 in
theorem evFn60 (m : Nat) (R : Type) (i0 i1 : Int) (k : V → List V → Option R) : runK Tryd.prog H (T0 m) (L0 m) 60 (W2 i0 i1) k = Fn60 (m + 1) i0 i1 (fun i2 => k (V.f (F.lit (Value.int IntKind.i64 i2))) W1) := by kernel_rfl
noncomputable def T1 (m : Nat) : Tbl := addT 60 (brFn60 m (T0 m)) (T0 m)
theorem okT1 (m : Nat) : TblOk Tryd.prog (T1 m) := addT_ok (okT0 m) fun R vs k x h => by
 unfold brFn60 at h
 split at h
 ·cases m with
  | zero => cases h
  | succ m => exact runK_some (okT0 m) hM (okL0 m) ((evFn60 m R _ _ k).trans h)
 ·exact okT0 m R 60 _ k x h

abbrev W3 (a0 : Abs.Rows) (a1 : Int) : List V := [.obj [.f (.lst [.int .i64] a0), .f (.lit (.int .i64 a1))], .undef]
abbrev W4 (a0 : Abs.Rows) (a1 a2 : Int) : List V := [.obj [.f (.lst [.int .i64] a0), .f (.lit (.int .i64 a1))], .f (.lit (.int .i64 a2))]
/-- - -/
noncomputable def Fn25 {R : Type} (m : Nat) : Abs.Rows → Int → Int → (Int → Int → Option R) → Option R := match m with
 | 0 => fun _ _ _ _ => none
 | m + 1 => fun r0 i1 i2 k =>
 bif (↑(List.length r0) : Int) == (0 : Int) then (Fn60 m (IntKind.wrap IntKind.i64 (IntKind.wrap IntKind.i64 (i1 + (1 : Int)) * (7919 : Int))) i2 (fun i3 => k i3 (IntKind.wrap IntKind.i64 (i1 + (1 : Int))))) else
 (bif decide ((↑(List.length r0) : Int) ≠ (0 : Int)) then (bif decide ((↑(List.length r0) : Int) ≠ (0 : Int)) then (bif decide ((0 : Int) ≤ Int.tmod (IntKind.wrap IntKind.i64 (IntKind.wrap IntKind.i64 (i1 + (1 : Int)) - (1 : Int))) (↑(List.length r0) : Int) ∧ Int.tmod (IntKind.wrap IntKind.i64 (IntKind.wrap IntKind.i64 (i1 + (1 : Int)) - (1 : Int))) (↑(List.length r0) : Int) < (↑(List.length r0) : Int)) then (Fn60 m (fI r0 (Int.toNat (Int.tmod (IntKind.wrap IntKind.i64 (IntKind.wrap IntKind.i64 (i1 + (1 : Int)) - (1 : Int))) (↑(List.length r0) : Int))) (0 : Nat)) ((1073741824 : Int)) (fun i4 => Fn60 m (IntKind.wrap IntKind.i64 (i4 + IntKind.wrap IntKind.i64 (IntKind.wrap IntKind.i64 (Int.tdiv (IntKind.wrap IntKind.i64 (IntKind.wrap IntKind.i64 (i1 + (1 : Int)) - (1 : Int))) (↑(List.length r0) : Int)) * IntKind.wrap IntKind.i64 ((7919 : Int) + Int.tmod (IntKind.wrap IntKind.i64 (IntKind.wrap IntKind.i64 (i1 + (1 : Int)) - (1 : Int))) (↑(List.length r0) : Int))))) i2 (fun i5 => letV (IntKind.wrap IntKind.i64 (i4 + IntKind.wrap IntKind.i64 (IntKind.wrap IntKind.i64 (Int.tdiv (IntKind.wrap IntKind.i64 (IntKind.wrap IntKind.i64 (i1 + (1 : Int)) - (1 : Int))) (↑(List.length r0) : Int)) * IntKind.wrap IntKind.i64 ((7919 : Int) + Int.tmod (IntKind.wrap IntKind.i64 (IntKind.wrap IntKind.i64 (i1 + (1 : Int)) - (1 : Int))) (↑(List.length r0) : Int))))) (fun i6 => letV (IntKind.wrap IntKind.i64 (IntKind.wrap IntKind.i64 (Int.tdiv (IntKind.wrap IntKind.i64 (IntKind.wrap IntKind.i64 (i1 + (1 : Int)) - (1 : Int))) (↑(List.length r0) : Int)) * IntKind.wrap IntKind.i64 ((7919 : Int) + Int.tmod (IntKind.wrap IntKind.i64 (IntKind.wrap IntKind.i64 (i1 + (1 : Int)) - (1 : Int))) (↑(List.length r0) : Int)))) (fun i7 => k i5 (IntKind.wrap IntKind.i64 (i1 + (1 : Int)))))))) else
 (none)) else
 (none)) else
 (none))
noncomputable def brFn25 (m : Nat) (T : Tbl) (R : Type) (vs : List V) (k : V → List V → Option R) : Option R := match vs with
 | [.obj [.f (.lst [.int .i64] r0), .f (.lit (.int .i64 i1))], .f (.lit (.int .i64 i2))] => Fn25 m r0 i1 i2 (fun i8 i9 => k (V.f (F.lit (Value.int IntKind.i64 i8))) (W3 r0 i9))
 | _ => T R 25 vs k
set_option maxRecDepth 100000 in
theorem evFn25 (m : Nat) (R : Type) (r0 : Abs.Rows) (i1 i2 : Int) (k : V → List V → Option R) : runK Tryd.prog H (T1 m) (L0 m) 25 (W4 r0 i1 i2) k = Fn25 (m + 1) r0 i1 i2 (fun i8 i9 => k (V.f (F.lit (Value.int IntKind.i64 i8))) (W3 r0 i9)) := by kernel_rfl
noncomputable def T2 (m : Nat) : Tbl := addT 25 (brFn25 m (T1 m)) (T1 m)
theorem okT2 (m : Nat) : TblOk Tryd.prog (T2 m) := addT_ok (okT1 m) fun R vs k x h => by
 unfold brFn25 at h
 split at h
 ·cases m with
  | zero => cases h
  | succ m => exact runK_some (okT1 m) hM (okL0 m) ((evFn25 m R _ _ _ k).trans h)
 ·exact okT1 m R 25 _ k x h

abbrev W5 (a0 : Abs.Rows) (a1 : Int) (a2 : Abs.Rows) : List V := [.obj [.f (.lst [.int .i64] a0), .f (.lit (.int .i64 a1))], .bor [.int .i64] a2]
/-- - -/
noncomputable def Fn37 {R : Type} (m : Nat) : Abs.Rows → Int → Abs.Rows → (Int → Int → Option R) → Option R := match m with
 | 0 => fun _ _ _ _ => none
 | m + 1 => fun r0 i1 r2 k =>
 Fn25 m r0 i1 ((↑(List.length r2) : Int)) (fun i3 i4 => bif decide ((0 : Int) ≤ i3 ∧ i3 < (↑(List.length r2) : Int)) then (k (fI r2 (Int.toNat i3) (0 : Nat)) i4) else
 (none))
noncomputable def brFn37 (m : Nat) (T : Tbl) (R : Type) (vs : List V) (k : V → List V → Option R) : Option R := match vs with
 | [.obj [.f (.lst [.int .i64] r0), .f (.lit (.int .i64 i1))], .bor [.int .i64] r2] => Fn37 m r0 i1 r2 (fun i5 i6 => k (V.f (F.lit (Value.int IntKind.i64 i5))) (W3 r0 i6))
 | _ => T R 37 vs k
set_option maxRecDepth 100000 in
theorem evFn37 (m : Nat) (R : Type) (r0 : Abs.Rows) (i1 : Int) (r2 : Abs.Rows) (k : V → List V → Option R) : runK Tryd.prog H (T2 m) (L0 m) 37 (W5 r0 i1 r2) k = Fn37 (m + 1) r0 i1 r2 (fun i5 i6 => k (V.f (F.lit (Value.int IntKind.i64 i5))) (W3 r0 i6)) := by kernel_rfl
noncomputable def T3 (m : Nat) : Tbl := addT 37 (brFn37 m (T2 m)) (T2 m)
theorem okT3 (m : Nat) : TblOk Tryd.prog (T3 m) := addT_ok (okT2 m) fun R vs k x h => by
 unfold brFn37 at h
 split at h
 ·cases m with
  | zero => cases h
  | succ m => exact runK_some (okT2 m) hM (okL0 m) ((evFn37 m R _ _ _ k).trans h)
 ·exact okT2 m R 37 _ k x h

abbrev W6 (a0 : Abs.Rows) (a1 : Int) : List V := [.obj [.f (.lst [.int .i64] a0), .f (.lit (.int .i64 a1))], .undef, .undef]
abbrev W7 (a0 : Abs.Rows) (a1 a2 a3 : Int) : List V := [.obj [.f (.lst [.int .i64] a0), .f (.lit (.int .i64 a1))], .f (.lit (.int .i64 a2)), .f (.lit (.int .i64 a3))]
/-- - -/
noncomputable def Fn72 {R : Type} (m : Nat) : Abs.Rows → Int → Int → Int → (Int → Int → Option R) → Option R := match m with
 | 0 => fun _ _ _ _ _ => none
 | m + 1 => fun r0 i1 i2 i3 k =>
 bif decide (i3 < i2) then (k i2 i1) else
 (Fn25 m r0 i1 (IntKind.wrap IntKind.i64 (IntKind.wrap IntKind.i64 (i3 - i2) + (1 : Int))) (fun i4 i5 => k (IntKind.wrap IntKind.i64 (i2 + i4)) i5))
noncomputable def brFn72 (m : Nat) (T : Tbl) (R : Type) (vs : List V) (k : V → List V → Option R) : Option R := match vs with
 | [.obj [.f (.lst [.int .i64] r0), .f (.lit (.int .i64 i1))], .f (.lit (.int .i64 i2)), .f (.lit (.int .i64 i3))] => Fn72 m r0 i1 i2 i3 (fun i6 i7 => k (V.f (F.lit (Value.int IntKind.i64 i6))) (W6 r0 i7))
 | _ => T R 72 vs k
set_option maxRecDepth 100000 in
theorem evFn72 (m : Nat) (R : Type) (r0 : Abs.Rows) (i1 i2 i3 : Int) (k : V → List V → Option R) : runK Tryd.prog H (T3 m) (L0 m) 72 (W7 r0 i1 i2 i3) k = Fn72 (m + 1) r0 i1 i2 i3 (fun i6 i7 => k (V.f (F.lit (Value.int IntKind.i64 i6))) (W6 r0 i7)) := by kernel_rfl
noncomputable def T4 (m : Nat) : Tbl := addT 72 (brFn72 m (T3 m)) (T3 m)
theorem okT4 (m : Nat) : TblOk Tryd.prog (T4 m) := addT_ok (okT3 m) fun R vs k x h => by
 unfold brFn72 at h
 split at h
 ·cases m with
  | zero => cases h
  | succ m => exact runK_some (okT3 m) hM (okL0 m) ((evFn72 m R _ _ _ _ k).trans h)
 ·exact okT3 m R 72 _ k x h

abbrev W8 (a0 : Abs.Rows) (a1 : ByteArray) (a2 : Int) (a3 a4 a5 : Abs.Rows) (a6 a7 a8 a9 : Int) (a10 : Abs.Rows) (a11 : Int) : List V := [.ref 79 0, .own [.nx none [2, 3], .str, .int .i64, .lst [.int .i64, .int .i64, .int .i64], .lst [.int .i64, .int .i64, .int .i64]] a0, .obj [.f (.lit (.string a1)), .f (.lit (.int .i64 a2)), .own [.int .i64, .int .i64, .int .i64] a3, .own [.int .i64, .int .i64, .int .i64] a4], .own [.str] a5, .f (.lit (.int .i64 a6)), .f (.lit (.int .i64 a7)), .f (.lit (.int .i64 a8)), .f (.lit (.int .i64 a9)), .obj [.f (.lst [.int .i64] a10), .f (.lit (.int .i64 a11))]]
/-- - -/
noncomputable def Lp54_9_step {R : Type} (m : Nat) (kx0 : Abs.Rows → Int → Int → Option R) (r0 : Abs.Rows) (s1 : ByteArray) (i2 : Int) (r3 r4 : Abs.Rows) (i5 i6 i7 : Int) (r8 : Abs.Rows) (REC : Abs.Rows → Int → Int → Option R) (r9 : Abs.Rows) (i10 i11 : Int) : Option R :=
 bif decide (i10 < i7) then (Fn37 m r8 i11 ([[F.lit (Value.int IntKind.i64 (0 : Int))], [F.lit (Value.int IntKind.i64 (60 : Int))], [F.lit (Value.int IntKind.i64 (540 : Int))], [F.lit (Value.int IntKind.i64 (720 : Int))]]) (fun i12 i13 => Fn37 m r8 i13 ([[F.lit (Value.int IntKind.i64 (127 : Int))], [F.lit (Value.int IntKind.i64 (31 : Int))], [F.lit (Value.int IntKind.i64 (1 : Int))], [F.lit (Value.int IntKind.i64 (64 : Int))], [F.lit (Value.int IntKind.i64 (32 : Int))], [F.lit (Value.int IntKind.i64 (5 : Int))]]) (fun i14 i15 => Fn37 m r8 i15 ([[F.lit (Value.int IntKind.i64 (1 : Int))], [F.lit (Value.int IntKind.i64 (60 : Int))], [F.lit (Value.int IntKind.i64 (300 : Int))], [F.lit (Value.int IntKind.i64 (720 : Int))]]) (fun i16 i17 => bif decide (List.length r9 + List.length [[F.lit (Value.int IntKind.i64 i14), F.lit (Value.int IntKind.i64 i12), F.lit (Value.int IntKind.i64 (IntKind.wrap IntKind.i64 (i12 + i16)))]] ≤ rowMax) then (letV (r9 ++ [[F.lit (Value.int IntKind.i64 i14), F.lit (Value.int IntKind.i64 i12), F.lit (Value.int IntKind.i64 (IntKind.wrap IntKind.i64 (i12 + i16)))]]) (fun r18 => REC r18 (IntKind.wrap IntKind.i64 (i10 + (1 : Int))) i17)) else
 (none))))) else
 (kx0 r9 i10 i11)
noncomputable def Lp54_9 {R : Type} (m : Nat) (kx0 : Abs.Rows → Int → Int → Option R) (r0 : Abs.Rows) (s1 : ByteArray) (i2 : Int) (r3 r4 : Abs.Rows) (i5 i6 i7 : Int) (r8 : Abs.Rows) : Nat → Abs.Rows → Int → Int → Option R
 | 0, _, _, _ => none
 | n + 1, r9, i10, i11 => Lp54_9_step m kx0 r0 s1 i2 r3 r4 i5 i6 i7 r8 (Lp54_9 m kx0 r0 s1 i2 r3 r4 i5 i6 i7 r8 n) r9 i10 i11
noncomputable def ELp54_9 (m : Nat) (R : Type) : Nat → List V → (Ex → List V → Option R) → Option R
 | 0, _, _ => none
 | n + 1, vs, k => match vs with
  | [.ref 79 0, .own [.nx none [2, 3], .str, .int .i64, .lst [.int .i64, .int .i64, .int .i64], .lst [.int .i64, .int .i64, .int .i64]] r0, .obj [.f (.lit (.string s1)), .f (.lit (.int .i64 i2)), .own [.int .i64, .int .i64, .int .i64] r9, .own [.int .i64, .int .i64, .int .i64] r3], .own [.str] r4, .f (.lit (.int .i64 i5)), .f (.lit (.int .i64 i6)), .f (.lit (.int .i64 i7)), .f (.lit (.int .i64 i10)), .obj [.f (.lst [.int .i64] r8), .f (.lit (.int .i64 i11))]] => Lp54_9_step m (fun r19 i20 i21 => k (Ex.exit (2 : Nat)) (W8 r0 s1 i2 r19 r3 r4 i5 i6 i7 i20 r8 i21)) r0 s1 i2 r3 r4 i5 i6 i7 r8 (fun r9 i10 i11 => ELp54_9 m R n (W8 r0 s1 i2 r9 r3 r4 i5 i6 i7 i10 r8 i11) k) r9 i10 i11
  | _ => none
noncomputable def brLp54_9 (m : Nat) (L : LTbl) (R : Type) (vs : List V) (k : Ex → List V → Option R) : Option R := match vs with
 | [.ref 79 0, .own [.nx none [2, 3], .str, .int .i64, .lst [.int .i64, .int .i64, .int .i64], .lst [.int .i64, .int .i64, .int .i64]] r0, .obj [.f (.lit (.string s1)), .f (.lit (.int .i64 i2)), .own [.int .i64, .int .i64, .int .i64] r9, .own [.int .i64, .int .i64, .int .i64] r3], .own [.str] r4, .f (.lit (.int .i64 i5)), .f (.lit (.int .i64 i6)), .f (.lit (.int .i64 i7)), .f (.lit (.int .i64 i10)), .obj [.f (.lst [.int .i64] r8), .f (.lit (.int .i64 i11))]] => Lp54_9 m (fun r19 i20 i21 => k (Ex.exit (2 : Nat)) (W8 r0 s1 i2 r19 r3 r4 i5 i6 i7 i20 r8 i21)) r0 s1 i2 r3 r4 i5 i6 i7 r8 m r9 i10 i11
 | _ => L R 54 9 vs k
set_option maxRecDepth 100000 in
theorem stLp54_9 (m n : Nat) (R : Type) (r0 : Abs.Rows) (s1 : ByteArray) (i2 : Int) (r9 r3 r4 : Abs.Rows) (i5 i6 i7 i10 : Int) (r8 : Abs.Rows) (i11 : Int) (k : Ex → List V → Option R) : codeK Tryd.prog H (T4 m) 54 (L0 m) 10 (loopBody Tryd.prog 54 9) (mkEnv [0, 3, 6, 11, 12, 13, 23, 24, 79] (W8 r0 s1 i2 r9 r3 r4 i5 i6 i7 i10 r8 i11) 0 (H.len 54)) (fun e env' => match e with | .normal => ELp54_9 m R n (vals [0, 3, 6, 11, 12, 13, 23, 24, 79] env') k | e => k e (vals [0, 3, 6, 11, 12, 13, 23, 24, 79] env')) = Lp54_9_step m (fun r19 i20 i21 => k (Ex.exit (2 : Nat)) (W8 r0 s1 i2 r19 r3 r4 i5 i6 i7 i20 r8 i21)) r0 s1 i2 r3 r4 i5 i6 i7 r8 (fun r9 i10 i11 => ELp54_9 m R n (W8 r0 s1 i2 r9 r3 r4 i5 i6 i7 i10 r8 i11) k) r9 i10 i11 := by kernel_rfl
theorem eqLp54_9 (m : Nat) (R : Type) (r0 : Abs.Rows) (s1 : ByteArray) (i2 : Int) (r3 r4 : Abs.Rows) (i5 i6 i7 : Int) (r8 : Abs.Rows) (k : Ex → List V → Option R) : ∀ (n : Nat) (r9 : Abs.Rows) (i10 i11 : Int), ELp54_9 m R n (W8 r0 s1 i2 r9 r3 r4 i5 i6 i7 i10 r8 i11) k = Lp54_9 m (fun r19 i20 i21 => k (Ex.exit (2 : Nat)) (W8 r0 s1 i2 r19 r3 r4 i5 i6 i7 i20 r8 i21)) r0 s1 i2 r3 r4 i5 i6 i7 r8 n r9 i10 i11
 | 0, _, _, _ => rfl
 | n + 1, r9, i10, i11 => by
  simp only [ELp54_9, Lp54_9, W8]
  congr 1
  funext r9 i10 i11
  exact eqLp54_9 m R r0 s1 i2 r3 r4 i5 i6 i7 r8 k n r9 i10 i11
noncomputable def L1 (m : Nat) : LTbl := addB 54 9 (brLp54_9 m (L0 m)) (L0 m)
theorem okL1 (m : Nat) : LTOk Tryd.prog H (L1 m) := addB_ok (okT4 m) hM (okL0 m) (l := [0, 3, 6, 11, 12, 13, 23, 24, 79]) (by kernel_rfl) (by kernel_rfl) m (fun R n vs k => ELp54_9 m R n vs k) (fun R vs k => rfl) (fun R n vs k x h => by
   simp only [ELp54_9] at h
   split at h
   ·exact (stLp54_9 m n R _ _ _ _ _ _ _ _ _ _ _ _ k).trans h
   ·cases h) fun R vs k x h => by
  unfold brLp54_9 at h
  split at h
  ·exact .inl ((eqLp54_9 m R _ _ _ _ _ _ _ _ _ k m _ _ _).trans h)
  ·exact .inr h

/-- - -/
noncomputable def Fn34 {R : Type} (m : Nat) : Abs.Rows → Int → Int → (Bool → Int → Option R) → Option R := match m with
 | 0 => fun _ _ _ _ => none
 | m + 1 => fun r0 i1 i2 k =>
 Fn25 m r0 i1 i2 (fun i3 i4 => k (i3 == (0 : Int)) i4)
noncomputable def brFn34 (m : Nat) (T : Tbl) (R : Type) (vs : List V) (k : V → List V → Option R) : Option R := match vs with
 | [.obj [.f (.lst [.int .i64] r0), .f (.lit (.int .i64 i1))], .f (.lit (.int .i64 i2))] => Fn34 m r0 i1 i2 (fun b5 i6 => k (V.f (F.lit (Value.bool b5))) (W3 r0 i6))
 | _ => T R 34 vs k
set_option maxRecDepth 100000 in
theorem evFn34 (m : Nat) (R : Type) (r0 : Abs.Rows) (i1 i2 : Int) (k : V → List V → Option R) : runK Tryd.prog H (T4 m) (L1 m) 34 (W4 r0 i1 i2) k = Fn34 (m + 1) r0 i1 i2 (fun b5 i6 => k (V.f (F.lit (Value.bool b5))) (W3 r0 i6)) := by kernel_rfl
noncomputable def T5 (m : Nat) : Tbl := addT 34 (brFn34 m (T4 m)) (T4 m)
theorem okT5 (m : Nat) : TblOk Tryd.prog (T5 m) := addT_ok (okT4 m) fun R vs k x h => by
 unfold brFn34 at h
 split at h
 ·cases m with
  | zero => cases h
  | succ m => exact runK_some (okT4 m) hM (okL1 m) ((evFn34 m R _ _ _ k).trans h)
 ·exact okT4 m R 34 _ k x h

abbrev W9 (a0 : Abs.Rows) (a1 : ByteArray) (a2 : Int) (a3 a4 a5 : Abs.Rows) (a6 a7 : Int) (a8 : Abs.Rows) (a9 a10 : Int) (a11 : Abs.Rows) (a12 : Int) : List V := [.ref 79 0, .own [.nx none [2, 3], .str, .int .i64, .lst [.int .i64, .int .i64, .int .i64], .lst [.int .i64, .int .i64, .int .i64]] a0, .obj [.f (.lit (.string a1)), .f (.lit (.int .i64 a2)), .own [.int .i64, .int .i64, .int .i64] a3, .own [.int .i64, .int .i64, .int .i64] a4], .own [.str] a5, .f (.lit (.int .i64 a6)), .f (.lit (.int .i64 a7)), .own [.int .i64] a8, .f (.lit (.int .i64 a9)), .f (.lit (.int .i64 a10)), .obj [.f (.lst [.int .i64] a11), .f (.lit (.int .i64 a12))]]
/-- - -/
noncomputable def Lp54_16_step {R : Type} (m : Nat) (kx0 : Abs.Rows → Int → Int → Option R) (r0 : Abs.Rows) (s1 : ByteArray) (i2 : Int) (r3 r4 : Abs.Rows) (i5 i6 : Int) (r7 : Abs.Rows) (i8 : Int) (r9 : Abs.Rows) (REC : Abs.Rows → Int → Int → Option R) (r10 : Abs.Rows) (i11 i12 : Int) : Option R :=
 bif decide (i11 < i8) then (bif decide ((0 : Int) ≤ i11 ∧ i11 < (↑(List.length r7) : Int)) then (Fn34 m r9 i12 ((3 : Int)) (fun b13 i14 => bif !b13 then (REC r10 (IntKind.wrap IntKind.i64 (i11 + (1 : Int))) i14) else
 (Fn34 m r9 i14 ((2 : Int)) (fun b15 i16 => bif b15 then (Fn37 m r9 i16 ([[F.lit (Value.int IntKind.i64 (0 : Int))], [F.lit (Value.int IntKind.i64 (540 : Int))]]) (fun i17 i18 => Fn37 m r9 i18 ([[F.lit (Value.int IntKind.i64 (600 : Int))], [F.lit (Value.int IntKind.i64 (1440 : Int))]]) (fun i19 i20 => bif decide (List.length r10 + List.length [[F.lit (Value.int IntKind.i64 (fI r7 (Int.toNat i11) (0 : Nat))), F.lit (Value.int IntKind.i64 i17), F.lit (Value.int IntKind.i64 i19)]] ≤ rowMax) then (letV (r10 ++ [[F.lit (Value.int IntKind.i64 (fI r7 (Int.toNat i11) (0 : Nat))), F.lit (Value.int IntKind.i64 i17), F.lit (Value.int IntKind.i64 i19)]]) (fun r21 => REC r21 (IntKind.wrap IntKind.i64 (i11 + (1 : Int))) i20)) else
 (none)))) else
 (bif decide (List.length r10 + List.length [[F.lit (Value.int IntKind.i64 (fI r7 (Int.toNat i11) (0 : Nat))), F.lit (Value.int IntKind.i64 (0 : Int)), F.lit (Value.int IntKind.i64 (0 : Int))]] ≤ rowMax) then (letV (r10 ++ [[F.lit (Value.int IntKind.i64 (fI r7 (Int.toNat i11) (0 : Nat))), F.lit (Value.int IntKind.i64 (0 : Int)), F.lit (Value.int IntKind.i64 (0 : Int))]]) (fun r22 => REC r22 (IntKind.wrap IntKind.i64 (i11 + (1 : Int))) i16)) else
 (none)))))) else
 (none)) else
 (kx0 r10 i11 i12)
noncomputable def Lp54_16 {R : Type} (m : Nat) (kx0 : Abs.Rows → Int → Int → Option R) (r0 : Abs.Rows) (s1 : ByteArray) (i2 : Int) (r3 r4 : Abs.Rows) (i5 i6 : Int) (r7 : Abs.Rows) (i8 : Int) (r9 : Abs.Rows) : Nat → Abs.Rows → Int → Int → Option R
 | 0, _, _, _ => none
 | n + 1, r10, i11, i12 => Lp54_16_step m kx0 r0 s1 i2 r3 r4 i5 i6 r7 i8 r9 (Lp54_16 m kx0 r0 s1 i2 r3 r4 i5 i6 r7 i8 r9 n) r10 i11 i12
noncomputable def ELp54_16 (m : Nat) (R : Type) : Nat → List V → (Ex → List V → Option R) → Option R
 | 0, _, _ => none
 | n + 1, vs, k => match vs with
  | [.ref 79 0, .own [.nx none [2, 3], .str, .int .i64, .lst [.int .i64, .int .i64, .int .i64], .lst [.int .i64, .int .i64, .int .i64]] r0, .obj [.f (.lit (.string s1)), .f (.lit (.int .i64 i2)), .own [.int .i64, .int .i64, .int .i64] r3, .own [.int .i64, .int .i64, .int .i64] r10], .own [.str] r4, .f (.lit (.int .i64 i5)), .f (.lit (.int .i64 i6)), .own [.int .i64] r7, .f (.lit (.int .i64 i8)), .f (.lit (.int .i64 i11)), .obj [.f (.lst [.int .i64] r9), .f (.lit (.int .i64 i12))]] => Lp54_16_step m (fun r23 i24 i25 => k (Ex.exit (4 : Nat)) (W9 r0 s1 i2 r3 r23 r4 i5 i6 r7 i8 i24 r9 i25)) r0 s1 i2 r3 r4 i5 i6 r7 i8 r9 (fun r10 i11 i12 => ELp54_16 m R n (W9 r0 s1 i2 r3 r10 r4 i5 i6 r7 i8 i11 r9 i12) k) r10 i11 i12
  | _ => none
noncomputable def brLp54_16 (m : Nat) (L : LTbl) (R : Type) (vs : List V) (k : Ex → List V → Option R) : Option R := match vs with
 | [.ref 79 0, .own [.nx none [2, 3], .str, .int .i64, .lst [.int .i64, .int .i64, .int .i64], .lst [.int .i64, .int .i64, .int .i64]] r0, .obj [.f (.lit (.string s1)), .f (.lit (.int .i64 i2)), .own [.int .i64, .int .i64, .int .i64] r3, .own [.int .i64, .int .i64, .int .i64] r10], .own [.str] r4, .f (.lit (.int .i64 i5)), .f (.lit (.int .i64 i6)), .own [.int .i64] r7, .f (.lit (.int .i64 i8)), .f (.lit (.int .i64 i11)), .obj [.f (.lst [.int .i64] r9), .f (.lit (.int .i64 i12))]] => Lp54_16 m (fun r23 i24 i25 => k (Ex.exit (4 : Nat)) (W9 r0 s1 i2 r3 r23 r4 i5 i6 r7 i8 i24 r9 i25)) r0 s1 i2 r3 r4 i5 i6 r7 i8 r9 m r10 i11 i12
 | _ => L R 54 16 vs k
set_option maxRecDepth 100000 in
theorem stLp54_16 (m n : Nat) (R : Type) (r0 : Abs.Rows) (s1 : ByteArray) (i2 : Int) (r3 r10 r4 : Abs.Rows) (i5 i6 : Int) (r7 : Abs.Rows) (i8 i11 : Int) (r9 : Abs.Rows) (i12 : Int) (k : Ex → List V → Option R) : codeK Tryd.prog H (T5 m) 54 (L1 m) 17 (loopBody Tryd.prog 54 16) (mkEnv [0, 3, 6, 11, 12, 13, 45, 46, 47, 79] (W9 r0 s1 i2 r3 r10 r4 i5 i6 r7 i8 i11 r9 i12) 0 (H.len 54)) (fun e env' => match e with | .normal => ELp54_16 m R n (vals [0, 3, 6, 11, 12, 13, 45, 46, 47, 79] env') k | e => k e (vals [0, 3, 6, 11, 12, 13, 45, 46, 47, 79] env')) = Lp54_16_step m (fun r23 i24 i25 => k (Ex.exit (4 : Nat)) (W9 r0 s1 i2 r3 r23 r4 i5 i6 r7 i8 i24 r9 i25)) r0 s1 i2 r3 r4 i5 i6 r7 i8 r9 (fun r10 i11 i12 => ELp54_16 m R n (W9 r0 s1 i2 r3 r10 r4 i5 i6 r7 i8 i11 r9 i12) k) r10 i11 i12 := by kernel_rfl
theorem eqLp54_16 (m : Nat) (R : Type) (r0 : Abs.Rows) (s1 : ByteArray) (i2 : Int) (r3 r4 : Abs.Rows) (i5 i6 : Int) (r7 : Abs.Rows) (i8 : Int) (r9 : Abs.Rows) (k : Ex → List V → Option R) : ∀ (n : Nat) (r10 : Abs.Rows) (i11 i12 : Int), ELp54_16 m R n (W9 r0 s1 i2 r3 r10 r4 i5 i6 r7 i8 i11 r9 i12) k = Lp54_16 m (fun r23 i24 i25 => k (Ex.exit (4 : Nat)) (W9 r0 s1 i2 r3 r23 r4 i5 i6 r7 i8 i24 r9 i25)) r0 s1 i2 r3 r4 i5 i6 r7 i8 r9 n r10 i11 i12
 | 0, _, _, _ => rfl
 | n + 1, r10, i11, i12 => by
  simp only [ELp54_16, Lp54_16, W9]
  congr 1
  funext r10 i11 i12
  exact eqLp54_16 m R r0 s1 i2 r3 r4 i5 i6 r7 i8 r9 k n r10 i11 i12
noncomputable def L2 (m : Nat) : LTbl := addB 54 16 (brLp54_16 m (L1 m)) (L1 m)
theorem okL2 (m : Nat) : LTOk Tryd.prog H (L2 m) := addB_ok (okT5 m) hM (okL1 m) (l := [0, 3, 6, 11, 12, 13, 45, 46, 47, 79]) (by kernel_rfl) (by kernel_rfl) m (fun R n vs k => ELp54_16 m R n vs k) (fun R vs k => rfl) (fun R n vs k x h => by
   simp only [ELp54_16] at h
   split at h
   ·exact (stLp54_16 m n R _ _ _ _ _ _ _ _ _ _ _ _ _ k).trans h
   ·cases h) fun R vs k x h => by
  unfold brLp54_16 at h
  split at h
  ·exact .inl ((eqLp54_16 m R _ _ _ _ _ _ _ _ _ _ k m _ _ _).trans h)
  ·exact .inr h

abbrev W10 (a0 a1 : Abs.Rows) (a2 a3 : Int) (a4 : Abs.Rows) (a5 : Int) : List V := [.ref 79 0, .own [.nx none [2, 3], .str, .int .i64, .lst [.int .i64, .int .i64, .int .i64], .lst [.int .i64, .int .i64, .int .i64]] a0, .own [.str] a1, .f (.lit (.int .i64 a2)), .f (.lit (.int .i64 a3)), .obj [.f (.lst [.int .i64] a4), .f (.lit (.int .i64 a5))]]
abbrev K1Lp54_3 {R : Type} (k : Ex → List V → Option R) (r0 : Abs.Rows) (i1 : Int) (r2 : Abs.Rows) : Abs.Rows → Int → Int → Option R := fun r3 i4 i5 => k (Ex.exit (0 : Nat)) (W10 r3 r0 i1 i4 r2 i5)
/-- - -/
noncomputable def Lp54_3_step {R : Type} (m : Nat) (kx0 : Abs.Rows → Int → Int → Option R) (r0 : Abs.Rows) (i1 : Int) (r2 : Abs.Rows) (REC : Abs.Rows → Int → Int → Option R) (r6 : Abs.Rows) (i7 i8 : Int) : Option R :=
 bif decide (i7 < i1) then (bif decide ((0 : Int) ≤ i7 ∧ i7 < (↑(List.length r0) : Int)) then (Fn37 m r2 i8 ([[F.lit (Value.int IntKind.i64 (0 : Int))], [F.lit (Value.int IntKind.i64 (0 : Int))], [F.lit (Value.int IntKind.i64 (60 : Int))], [F.lit (Value.int IntKind.i64 (-90 : Int))], [F.lit (Value.int IntKind.i64 (1440 : Int))]]) (fun i9 i10 => Fn72 m r2 i10 ((0 : Int)) ((2 : Int)) (fun i11 i12 => Lp54_9 m (fun r13 i14 i15 => Lp54_16 m (fun r16 i17 i18 => bif decide (List.length r6 + List.length [[F.lit (Value.string (fS r0 (Int.toNat i7) (0 : Nat))), F.lit (Value.int IntKind.i64 i9), F.lst [LT.int IntKind.i64, LT.int IntKind.i64, LT.int IntKind.i64] r13, F.lst [LT.int IntKind.i64, LT.int IntKind.i64, LT.int IntKind.i64] r16]] ≤ rowMax) then (letV (r6 ++ [[F.lit (Value.string (fS r0 (Int.toNat i7) (0 : Nat))), F.lit (Value.int IntKind.i64 i9), F.lst [LT.int IntKind.i64, LT.int IntKind.i64, LT.int IntKind.i64] r13, F.lst [LT.int IntKind.i64, LT.int IntKind.i64, LT.int IntKind.i64] r16]]) (fun r19 => REC r19 (IntKind.wrap IntKind.i64 (i7 + (1 : Int))) i18)) else
 (none)) r6 (fS r0 (Int.toNat i7) (0 : Nat)) i9 r13 r0 i1 i7 ([[F.lit (Value.int IntKind.i64 (0 : Int))], [F.lit (Value.int IntKind.i64 (2 : Int))], [F.lit (Value.int IntKind.i64 (3 : Int))]]) ((↑(List.length [[F.lit (Value.int IntKind.i64 (0 : Int))], [F.lit (Value.int IntKind.i64 (2 : Int))], [F.lit (Value.int IntKind.i64 (3 : Int))]]) : Int)) r2 m rows0 ((0 : Int)) i15) r6 (fS r0 (Int.toNat i7) (0 : Nat)) i9 rows0 r0 i1 i7 i11 r2 m rows0 ((0 : Int)) i12))) else
 (none)) else
 (kx0 r6 i7 i8)
noncomputable def Lp54_3 {R : Type} (m : Nat) (kx0 : Abs.Rows → Int → Int → Option R) (r0 : Abs.Rows) (i1 : Int) (r2 : Abs.Rows) : Nat → Abs.Rows → Int → Int → Option R
 | 0, _, _, _ => none
 | n + 1, r6, i7, i8 => Lp54_3_step m kx0 r0 i1 r2 (Lp54_3 m kx0 r0 i1 r2 n) r6 i7 i8
noncomputable def ELp54_3 (m : Nat) (R : Type) : Nat → List V → (Ex → List V → Option R) → Option R
 | 0, _, _ => none
 | n + 1, vs, k => match vs with
  | [.ref 79 0, .own [.nx none [2, 3], .str, .int .i64, .lst [.int .i64, .int .i64, .int .i64], .lst [.int .i64, .int .i64, .int .i64]] r6, .own [.str] r0, .f (.lit (.int .i64 i1)), .f (.lit (.int .i64 i7)), .obj [.f (.lst [.int .i64] r2), .f (.lit (.int .i64 i8))]] => Lp54_3_step m (K1Lp54_3 k r0 i1 r2) r0 i1 r2 (fun r6 i7 i8 => ELp54_3 m R n (W10 r6 r0 i1 i7 r2 i8) k) r6 i7 i8
  | _ => none
noncomputable def brLp54_3 (m : Nat) (L : LTbl) (R : Type) (vs : List V) (k : Ex → List V → Option R) : Option R := match vs with
 | [.ref 79 0, .own [.nx none [2, 3], .str, .int .i64, .lst [.int .i64, .int .i64, .int .i64], .lst [.int .i64, .int .i64, .int .i64]] r6, .own [.str] r0, .f (.lit (.int .i64 i1)), .f (.lit (.int .i64 i7)), .obj [.f (.lst [.int .i64] r2), .f (.lit (.int .i64 i8))]] => Lp54_3 m (K1Lp54_3 k r0 i1 r2) r0 i1 r2 m r6 i7 i8
 | _ => L R 54 3 vs k
set_option maxRecDepth 100000 in
theorem stLp54_3 (m n : Nat) (R : Type) (r6 r0 : Abs.Rows) (i1 i7 : Int) (r2 : Abs.Rows) (i8 : Int) (k : Ex → List V → Option R) : codeK Tryd.prog H (T5 m) 54 (L2 m) 4 (loopBody Tryd.prog 54 3) (mkEnv [0, 3, 11, 12, 13, 79] (W10 r6 r0 i1 i7 r2 i8) 0 (H.len 54)) (fun e env' => match e with | .normal => ELp54_3 m R n (vals [0, 3, 11, 12, 13, 79] env') k | e => k e (vals [0, 3, 11, 12, 13, 79] env')) = Lp54_3_step m (K1Lp54_3 k r0 i1 r2) r0 i1 r2 (fun r6 i7 i8 => ELp54_3 m R n (W10 r6 r0 i1 i7 r2 i8) k) r6 i7 i8 := by kernel_rfl
theorem eqLp54_3 (m : Nat) (R : Type) (r0 : Abs.Rows) (i1 : Int) (r2 : Abs.Rows) (k : Ex → List V → Option R) : ∀ (n : Nat) (r6 : Abs.Rows) (i7 i8 : Int), ELp54_3 m R n (W10 r6 r0 i1 i7 r2 i8) k = Lp54_3 m (K1Lp54_3 k r0 i1 r2) r0 i1 r2 n r6 i7 i8
 | 0, _, _, _ => rfl
 | n + 1, r6, i7, i8 => by
  simp only [ELp54_3, Lp54_3, W10]
  congr 1
  funext r6 i7 i8
  exact eqLp54_3 m R r0 i1 r2 k n r6 i7 i8
noncomputable def L3 (m : Nat) : LTbl := addB 54 3 (brLp54_3 m (L2 m)) (L2 m)
theorem okL3 (m : Nat) : LTOk Tryd.prog H (L3 m) := addB_ok (okT5 m) hM (okL2 m) (l := [0, 3, 11, 12, 13, 79]) (by kernel_rfl) (by kernel_rfl) m (fun R n vs k => ELp54_3 m R n vs k) (fun R vs k => rfl) (fun R n vs k x h => by
   simp only [ELp54_3] at h
   split at h
   ·exact (stLp54_3 m n R _ _ _ _ _ _ k).trans h
   ·cases h) fun R vs k x h => by
  unfold brLp54_3 at h
  split at h
  ·exact .inl ((eqLp54_3 m R _ _ _ k m _ _ _).trans h)
  ·exact .inr h

abbrev W11 (a0 : Abs.Rows) (a1 : Int) : List V := [.obj [.f (.lst [.int .i64] a0), .f (.lit (.int .i64 a1))]]
/-- - -/
noncomputable def Fn54 {R : Type} (m : Nat) : Abs.Rows → Int → (Abs.Rows → Int → Option R) → Option R := match m with
 | 0 => fun _ _ _ => none
 | m + 1 => fun r0 i1 k =>
 Lp54_3 m (fun r2 i3 i4 => k r2 i4) ([[F.lit (Value.string { data := #[(104 : UInt8), (97 : UInt8)] })], [F.lit (Value.string { data := #[(104 : UInt8), (98 : UInt8)] })]]) ((↑(List.length [[F.lit (Value.string { data := #[(104 : UInt8), (97 : UInt8)] })], [F.lit (Value.string { data := #[(104 : UInt8), (98 : UInt8)] })]]) : Int)) r0 m rows0 ((0 : Int)) i1
noncomputable def brFn54 (m : Nat) (T : Tbl) (R : Type) (vs : List V) (k : V → List V → Option R) : Option R := match vs with
 | [.obj [.f (.lst [.int .i64] r0), .f (.lit (.int .i64 i1))]] => Fn54 m r0 i1 (fun r5 i6 => k (V.own [LT.nx none [(2 : Nat), (3 : Nat)], LT.str, LT.int IntKind.i64, LT.lst [LT.int IntKind.i64, LT.int IntKind.i64, LT.int IntKind.i64], LT.lst [LT.int IntKind.i64, LT.int IntKind.i64, LT.int IntKind.i64]] r5) (W11 r0 i6))
 | _ => T R 54 vs k
set_option maxRecDepth 100000 in
theorem evFn54 (m : Nat) (R : Type) (r0 : Abs.Rows) (i1 : Int) (k : V → List V → Option R) : runK Tryd.prog H (T5 m) (L3 m) 54 (W11 r0 i1) k = Fn54 (m + 1) r0 i1 (fun r5 i6 => k (V.own [LT.nx none [(2 : Nat), (3 : Nat)], LT.str, LT.int IntKind.i64, LT.lst [LT.int IntKind.i64, LT.int IntKind.i64, LT.int IntKind.i64], LT.lst [LT.int IntKind.i64, LT.int IntKind.i64, LT.int IntKind.i64]] r5) (W11 r0 i6)) := by kernel_rfl
noncomputable def T6 (m : Nat) : Tbl := addT 54 (brFn54 m (T5 m)) (T5 m)
theorem okT6 (m : Nat) : TblOk Tryd.prog (T6 m) := addT_ok (okT5 m) fun R vs k x h => by
 unfold brFn54 at h
 split at h
 ·cases m with
  | zero => cases h
  | succ m => exact runK_some (okT5 m) hM (okL3 m) ((evFn54 m R _ _ k).trans h)
 ·exact okT5 m R 54 _ k x h

abbrev W12 (a0 : Abs.Rows) (a1 : Int) (a2 : Abs.Rows) : List V := [.obj [.f (.lst [.int .i64] a0), .f (.lit (.int .i64 a1))], .bor [.str] a2]
/-- - -/
noncomputable def Fn35 {R : Type} (m : Nat) : Abs.Rows → Int → Abs.Rows → (ByteArray → Int → Option R) → Option R := match m with
 | 0 => fun _ _ _ _ => none
 | m + 1 => fun r0 i1 r2 k =>
 Fn25 m r0 i1 ((↑(List.length r2) : Int)) (fun i3 i4 => bif decide ((0 : Int) ≤ i3 ∧ i3 < (↑(List.length r2) : Int)) then (k (fS r2 (Int.toNat i3) (0 : Nat)) i4) else
 (none))
noncomputable def brFn35 (m : Nat) (T : Tbl) (R : Type) (vs : List V) (k : V → List V → Option R) : Option R := match vs with
 | [.obj [.f (.lst [.int .i64] r0), .f (.lit (.int .i64 i1))], .bor [.str] r2] => Fn35 m r0 i1 r2 (fun s5 i6 => k (V.f (F.lit (Value.string s5))) (W3 r0 i6))
 | _ => T R 35 vs k
set_option maxRecDepth 100000 in
theorem evFn35 (m : Nat) (R : Type) (r0 : Abs.Rows) (i1 : Int) (r2 : Abs.Rows) (k : V → List V → Option R) : runK Tryd.prog H (T6 m) (L3 m) 35 (W12 r0 i1 r2) k = Fn35 (m + 1) r0 i1 r2 (fun s5 i6 => k (V.f (F.lit (Value.string s5))) (W3 r0 i6)) := by kernel_rfl
noncomputable def T7 (m : Nat) : Tbl := addT 35 (brFn35 m (T6 m)) (T6 m)
theorem okT7 (m : Nat) : TblOk Tryd.prog (T7 m) := addT_ok (okT6 m) fun R vs k x h => by
 unfold brFn35 at h
 split at h
 ·cases m with
  | zero => cases h
  | succ m => exact runK_some (okT6 m) hM (okL3 m) ((evFn35 m R _ _ _ k).trans h)
 ·exact okT6 m R 35 _ k x h

/-- - -/
noncomputable def Fn55 {R : Type} (m : Nat) : Abs.Rows → Int → Int → Int → (Int → Int → Option R) → Option R := match m with
 | 0 => fun _ _ _ _ _ => none
 | m + 1 => fun r0 i1 i2 i3 k =>
 Fn34 m r0 i1 ((12 : Int)) (fun b4 i5 => bif b4 then (Fn37 m r0 i5 ([[F.lit (Value.int IntKind.i64 (IntKind.wrap IntKind.i64 (i2 - (1 : Int))))], [F.lit (Value.int IntKind.i64 (IntKind.wrap IntKind.i64 (i3 + (1 : Int))))], [F.lit (Value.int IntKind.i64 i2)], [F.lit (Value.int IntKind.i64 i3)], [F.lit (Value.int IntKind.i64 (-1099511627776 : Int))], [F.lit (Value.int IntKind.i64 (1099511627776 : Int))]]) (fun i6 i7 => k i6 i7)) else
 (Fn72 m r0 i5 i2 i3 (fun i8 i9 => k i8 i9)))
noncomputable def brFn55 (m : Nat) (T : Tbl) (R : Type) (vs : List V) (k : V → List V → Option R) : Option R := match vs with
 | [.obj [.f (.lst [.int .i64] r0), .f (.lit (.int .i64 i1))], .f (.lit (.int .i64 i2)), .f (.lit (.int .i64 i3))] => Fn55 m r0 i1 i2 i3 (fun i10 i11 => k (V.f (F.lit (Value.int IntKind.i64 i10))) (W6 r0 i11))
 | _ => T R 55 vs k
set_option maxRecDepth 100000 in
theorem evFn55 (m : Nat) (R : Type) (r0 : Abs.Rows) (i1 i2 i3 : Int) (k : V → List V → Option R) : runK Tryd.prog H (T7 m) (L3 m) 55 (W7 r0 i1 i2 i3) k = Fn55 (m + 1) r0 i1 i2 i3 (fun i10 i11 => k (V.f (F.lit (Value.int IntKind.i64 i10))) (W6 r0 i11)) := by kernel_rfl
noncomputable def T8 (m : Nat) : Tbl := addT 55 (brFn55 m (T7 m)) (T7 m)
theorem okT8 (m : Nat) : TblOk Tryd.prog (T8 m) := addT_ok (okT7 m) fun R vs k x h => by
 unfold brFn55 at h
 split at h
 ·cases m with
  | zero => cases h
  | succ m => exact runK_some (okT7 m) hM (okL3 m) ((evFn55 m R _ _ _ _ k).trans h)
 ·exact okT7 m R 55 _ k x h

/-- - -/
noncomputable def Fn20 {R : Type} (m : Nat) : Abs.Rows → Int → (Abs.Rows → Int → Option R) → Option R := match m with
 | 0 => fun _ _ _ => none
 | m + 1 => fun r0 i1 k =>
 Fn54 m r0 i1 (fun r2 i3 => Fn34 m r0 i3 ((10 : Int)) (fun b4 i5 => bif b4 then (Fn25 m r0 i5 ((2 : Int)) (fun i6 i7 => bif decide ((0 : Int) ≤ i6 ∧ i6 < (↑(List.length r2) : Int)) then (Fn25 m r0 i7 ((4 : Int)) (fun i8 i9 => bif i8 == (0 : Int) then (Fn35 m r0 i9 ([[F.lit (Value.string { data := #[] })], [F.lit (Value.string { data := #[(65 : UInt8)] })], [F.lit (Value.string { data := #[(104 : UInt8), (97 : UInt8)] })]]) (fun s10 i11 => k (stR [LT.str, LT.int IntKind.i64, LT.lst [LT.int IntKind.i64, LT.int IntKind.i64, LT.int IntKind.i64], LT.lst [LT.int IntKind.i64, LT.int IntKind.i64, LT.int IntKind.i64]] r2 (Int.toNat i6) ((0 : Nat) + (0 : Nat)) [F.lit (Value.string s10)]) i11)) else
 (bif i8 == (1 : Int) then (Fn55 m r0 i9 ((-1440 : Int)) ((1440 : Int)) (fun i12 i13 => k (stR [LT.str, LT.int IntKind.i64, LT.lst [LT.int IntKind.i64, LT.int IntKind.i64, LT.int IntKind.i64], LT.lst [LT.int IntKind.i64, LT.int IntKind.i64, LT.int IntKind.i64]] r2 (Int.toNat i6) ((0 : Nat) + (1 : Nat)) [F.lit (Value.int IntKind.i64 i12)]) i13)) else
 (bif i8 == (2 : Int) then (Fn55 m r0 i9 ((1 : Int)) ((127 : Int)) (fun i14 i15 => Fn55 m r0 i15 ((0 : Int)) ((1440 : Int)) (fun i16 i17 => Fn55 m r0 i17 ((0 : Int)) ((1440 : Int)) (fun i18 i19 => bif decide (List.length (fR r2 (Int.toNat i6) ((0 : Nat) + (2 : Nat))) + List.length [[F.lit (Value.int IntKind.i64 i14), F.lit (Value.int IntKind.i64 i16), F.lit (Value.int IntKind.i64 i18)]] ≤ rowMax) then (letV (fR r2 (Int.toNat i6) ((0 : Nat) + (2 : Nat)) ++ [[F.lit (Value.int IntKind.i64 i14), F.lit (Value.int IntKind.i64 i16), F.lit (Value.int IntKind.i64 i18)]]) (fun r20 => bif Nat.beq (Int.toNat i6) (Int.toNat i6) then (letV (stR [LT.str, LT.int IntKind.i64, LT.lst [LT.int IntKind.i64, LT.int IntKind.i64, LT.int IntKind.i64], LT.lst [LT.int IntKind.i64, LT.int IntKind.i64, LT.int IntKind.i64]] r2 (Int.toNat i6) ((0 : Nat) + (2 : Nat)) [F.lst [LT.int IntKind.i64, LT.int IntKind.i64, LT.int IntKind.i64] r20]) (fun r21 => k r21 i19)) else
 (none))) else
 (none))))) else
 (Fn55 m r0 i9 ((0 : Int)) ((4000 : Int)) (fun i22 i23 => Fn55 m r0 i23 ((0 : Int)) ((1440 : Int)) (fun i24 i25 => Fn55 m r0 i25 ((0 : Int)) ((1440 : Int)) (fun i26 i27 => bif decide (List.length (fR r2 (Int.toNat i6) ((0 : Nat) + (3 : Nat))) + List.length [[F.lit (Value.int IntKind.i64 i22), F.lit (Value.int IntKind.i64 i24), F.lit (Value.int IntKind.i64 i26)]] ≤ rowMax) then (letV (fR r2 (Int.toNat i6) ((0 : Nat) + (3 : Nat)) ++ [[F.lit (Value.int IntKind.i64 i22), F.lit (Value.int IntKind.i64 i24), F.lit (Value.int IntKind.i64 i26)]]) (fun r28 => bif Nat.beq (Int.toNat i6) (Int.toNat i6) then (letV (stR [LT.str, LT.int IntKind.i64, LT.lst [LT.int IntKind.i64, LT.int IntKind.i64, LT.int IntKind.i64], LT.lst [LT.int IntKind.i64, LT.int IntKind.i64, LT.int IntKind.i64]] r2 (Int.toNat i6) ((0 : Nat) + (3 : Nat)) [F.lst [LT.int IntKind.i64, LT.int IntKind.i64, LT.int IntKind.i64] r28]) (fun r29 => k r29 i27)) else
 (none))) else
 (none))))))))) else
 (none))) else
 (k r2 i5)))
noncomputable def brFn20 (m : Nat) (T : Tbl) (R : Type) (vs : List V) (k : V → List V → Option R) : Option R := match vs with
 | [.obj [.f (.lst [.int .i64] r0), .f (.lit (.int .i64 i1))]] => Fn20 m r0 i1 (fun r30 i31 => k (V.own [LT.str, LT.int IntKind.i64, LT.lst [LT.int IntKind.i64, LT.int IntKind.i64, LT.int IntKind.i64], LT.lst [LT.int IntKind.i64, LT.int IntKind.i64, LT.int IntKind.i64]] r30) (W11 r0 i31))
 | _ => T R 20 vs k
set_option maxRecDepth 100000 in
theorem evFn20 (m : Nat) (R : Type) (r0 : Abs.Rows) (i1 : Int) (k : V → List V → Option R) : runK Tryd.prog H (T8 m) (L3 m) 20 (W11 r0 i1) k = Fn20 (m + 1) r0 i1 (fun r30 i31 => k (V.own [LT.str, LT.int IntKind.i64, LT.lst [LT.int IntKind.i64, LT.int IntKind.i64, LT.int IntKind.i64], LT.lst [LT.int IntKind.i64, LT.int IntKind.i64, LT.int IntKind.i64]] r30) (W11 r0 i31)) := by kernel_rfl
noncomputable def T9 (m : Nat) : Tbl := addT 20 (brFn20 m (T8 m)) (T8 m)
theorem okT9 (m : Nat) : TblOk Tryd.prog (T9 m) := addT_ok (okT8 m) fun R vs k x h => by
 unfold brFn20 at h
 split at h
 ·cases m with
  | zero => cases h
  | succ m => exact runK_some (okT8 m) hM (okL3 m) ((evFn20 m R _ _ k).trans h)
 ·exact okT8 m R 20 _ k x h

/-- - -/
noncomputable def Fn21 {R : Type} (m : Nat) : Abs.Rows → Int → (Int → Int → Option R) → Option R := match m with
 | 0 => fun _ _ _ => none
 | m + 1 => fun r0 i1 k =>
 Fn37 m r0 i1 ([[F.lit (Value.int IntKind.i64 (0 : Int))], [F.lit (Value.int IntKind.i64 (0 : Int))], [F.lit (Value.int IntKind.i64 (1 : Int))], [F.lit (Value.int IntKind.i64 (2 : Int))], [F.lit (Value.int IntKind.i64 (3 : Int))], [F.lit (Value.int IntKind.i64 (5 : Int))], [F.lit (Value.int IntKind.i64 (6 : Int))]]) (fun i2 i3 => Fn37 m r0 i3 ([[F.lit (Value.int IntKind.i64 (0 : Int))], [F.lit (Value.int IntKind.i64 (60 : Int))], [F.lit (Value.int IntKind.i64 (540 : Int))], [F.lit (Value.int IntKind.i64 (600 : Int))], [F.lit (Value.int IntKind.i64 (720 : Int))], [F.lit (Value.int IntKind.i64 (840 : Int))], [F.lit (Value.int IntKind.i64 (1439 : Int))]]) (fun i4 i5 => Fn37 m r0 i5 ([[F.lit (Value.int IntKind.i64 (0 : Int))], [F.lit (Value.int IntKind.i64 (0 : Int))], [F.lit (Value.int IntKind.i64 (1 : Int))], [F.lit (Value.int IntKind.i64 (30000 : Int))], [F.lit (Value.int IntKind.i64 (-1 : Int))]]) (fun i6 i7 => k (IntKind.wrap IntKind.i64 (IntKind.wrap IntKind.i64 (IntKind.wrap IntKind.i64 (i2 * (86400000 : Int)) + IntKind.wrap IntKind.i64 (i4 * (60000 : Int))) + i6)) i7)))
noncomputable def brFn21 (m : Nat) (T : Tbl) (R : Type) (vs : List V) (k : V → List V → Option R) : Option R := match vs with
 | [.obj [.f (.lst [.int .i64] r0), .f (.lit (.int .i64 i1))]] => Fn21 m r0 i1 (fun i8 i9 => k (V.f (F.lit (Value.int IntKind.i64 i8))) (W11 r0 i9))
 | _ => T R 21 vs k
set_option maxRecDepth 100000 in
theorem evFn21 (m : Nat) (R : Type) (r0 : Abs.Rows) (i1 : Int) (k : V → List V → Option R) : runK Tryd.prog H (T9 m) (L3 m) 21 (W11 r0 i1) k = Fn21 (m + 1) r0 i1 (fun i8 i9 => k (V.f (F.lit (Value.int IntKind.i64 i8))) (W11 r0 i9)) := by kernel_rfl
noncomputable def T10 (m : Nat) : Tbl := addT 21 (brFn21 m (T9 m)) (T9 m)
theorem okT10 (m : Nat) : TblOk Tryd.prog (T10 m) := addT_ok (okT9 m) fun R vs k x h => by
 unfold brFn21 at h
 split at h
 ·cases m with
  | zero => cases h
  | succ m => exact runK_some (okT9 m) hM (okL3 m) ((evFn21 m R _ _ k).trans h)
 ·exact okT9 m R 21 _ k x h

abbrev W13 (a0 a1 a2 a3 : Int) (a4 : Abs.Rows) (a5 : Int) : List V := [.ref 31 0, .obj [.f (.lit (.int .i64 a0)), .f (.lit (.int .i64 a1))], .obj [.f (.lit (.int .i64 a2)), .f (.lit (.int .i64 a3))], .obj [.f (.lst [.int .i64] a4), .f (.lit (.int .i64 a5))]]
/-- - -/
noncomputable def Jn22_3 {R : Type} (m : Nat) (kx0 : Int → Int → Int → Int → Int → Option R) (i0 i1 i2 i3 : Int) (r4 : Abs.Rows) (i5 : Int) : Option R :=
 Fn34 m r4 i5 ((20 : Int)) (fun b6 i7 => bif b6 then (Fn55 m r4 i7 ((0 : Int)) ((100 : Int)) (fun i8 i9 => Fn37 m r4 i9 ([[F.lit (Value.int IntKind.i64 (345686400000 : Int))], [F.lit (Value.int IntKind.i64 (345686400001 : Int))], [F.lit (Value.int IntKind.i64 (34646400000 : Int))], [F.lit (Value.int IntKind.i64 (34560000000 : Int))], [F.lit (Value.int IntKind.i64 (-1 : Int))]]) (fun i10 i11 => kx0 i8 i10 i8 i10 i11))) else
 (kx0 i2 i3 i2 i3 i7))
noncomputable def brJn22_3 (m : Nat) (L : LTbl) (R : Type) (vs : List V) (k : Ex → List V → Option R) : Option R := match vs with
 | [.ref 31 0, .obj [.f (.lit (.int .i64 i0)), .f (.lit (.int .i64 i1))], .obj [.f (.lit (.int .i64 i2)), .f (.lit (.int .i64 i3))], .obj [.f (.lst [.int .i64] r4), .f (.lit (.int .i64 i5))]] => Jn22_3 m (fun i12 i13 i14 i15 i16 => k Ex.ret (W13 i12 i13 i14 i15 r4 i16)) i0 i1 i2 i3 r4 i5
 | _ => L R 22 3 vs k
set_option maxRecDepth 100000 in
theorem evJn22_3 (m : Nat) (R : Type) (i0 i1 i2 i3 : Int) (r4 : Abs.Rows) (i5 : Int) (k : Ex → List V → Option R) : codeK Tryd.prog H (T10 m) 22 (L3 m) 4 (loopBody Tryd.prog 22 3) (mkEnv [0, 2, 3, 31] (W13 i0 i1 i2 i3 r4 i5) 0 (H.len 22)) (fun e env' => k e (vals [0, 2, 3, 31] env')) = Jn22_3 m (fun i12 i13 i14 i15 i16 => k Ex.ret (W13 i12 i13 i14 i15 r4 i16)) i0 i1 i2 i3 r4 i5 := by kernel_rfl
noncomputable def L4 (m : Nat) : LTbl := addJ 22 3 (brJn22_3 m (L3 m)) (L3 m)
theorem okL4 (m : Nat) : LTOk Tryd.prog H (L4 m) := addJ_ok (okT10 m) hM (okL3 m) (l := [0, 2, 3, 31]) (by kernel_rfl) (by kernel_rfl) fun R vs k x h => by
  unfold brJn22_3 at h
  split at h
  ·exact .inl ((evJn22_3 m R _ _ _ _ _ _ k).trans h)
  ·exact .inr h

/-- - -/
noncomputable def Fn22 {R : Type} (m : Nat) : Abs.Rows → Int → (Int → Int → Int → Option R) → Option R := match m with
 | 0 => fun _ _ _ => none
 | m + 1 => fun r0 i1 k =>
 Fn37 m r0 i1 ([[F.lit (Value.int IntKind.i64 (0 : Int))], [F.lit (Value.int IntKind.i64 (0 : Int))], [F.lit (Value.int IntKind.i64 (1 : Int))], [F.lit (Value.int IntKind.i64 (3600000 : Int))], [F.lit (Value.int IntKind.i64 (86400000 : Int))]]) (fun i2 i3 => Fn37 m r0 i3 ([[F.lit (Value.int IntKind.i64 (1 : Int))], [F.lit (Value.int IntKind.i64 (3600000 : Int))], [F.lit (Value.int IntKind.i64 (86400000 : Int))], [F.lit (Value.int IntKind.i64 (259200000 : Int))], [F.lit (Value.int IntKind.i64 (518400000 : Int))]]) (fun i4 i5 => bif decide (i2 > i4) then (Fn34 m r0 i5 ((3 : Int)) (fun b6 i7 => bif !b6 then (Jn22_3 m (fun i8 i9 i10 i11 i12 => k i8 i9 i12) ((0 : Int)) ((0 : Int)) ((0 : Int)) i4 r0 i7) else
 (Jn22_3 m (fun i13 i14 i15 i16 i17 => k i13 i14 i17) ((0 : Int)) ((0 : Int)) i2 i4 r0 i7))) else
 (Jn22_3 m (fun i18 i19 i20 i21 i22 => k i18 i19 i22) ((0 : Int)) ((0 : Int)) i2 i4 r0 i5)))
noncomputable def brFn22 (m : Nat) (T : Tbl) (R : Type) (vs : List V) (k : V → List V → Option R) : Option R := match vs with
 | [.obj [.f (.lst [.int .i64] r0), .f (.lit (.int .i64 i1))]] => Fn22 m r0 i1 (fun i23 i24 i25 => k (V.agg (W2 i23 i24)) (W11 r0 i25))
 | _ => T R 22 vs k
set_option maxRecDepth 100000 in
theorem evFn22 (m : Nat) (R : Type) (r0 : Abs.Rows) (i1 : Int) (k : V → List V → Option R) : runK Tryd.prog H (T10 m) (L4 m) 22 (W11 r0 i1) k = Fn22 (m + 1) r0 i1 (fun i23 i24 i25 => k (V.agg (W2 i23 i24)) (W11 r0 i25)) := by kernel_rfl
noncomputable def T11 (m : Nat) : Tbl := addT 22 (brFn22 m (T10 m)) (T10 m)
theorem okT11 (m : Nat) : TblOk Tryd.prog (T11 m) := addT_ok (okT10 m) fun R vs k x h => by
 unfold brFn22 at h
 split at h
 ·cases m with
  | zero => cases h
  | succ m => exact runK_some (okT10 m) hM (okL4 m) ((evFn22 m R _ _ k).trans h)
 ·exact okT10 m R 22 _ k x h

abbrev W14 : List V := [.undef]
abbrev W15 (a0 : ByteArray) : List V := [.f (.lit (.string a0))]
/-- - -/
noncomputable def Fn56 {R : Type} (m : Nat) : ByteArray → (Bool → Option R) → Option R := match m with
 | 0 => fun _ _ => none
 | m + 1 => fun s0 k =>
 bif decide ((↑(ByteArray.size s0) : Int) ≥ (1 : Int)) then (bif decide ((↑(ByteArray.size s0) : Int) ≤ (40 : Int)) then (bif decide ((0 : Int) ≤ (0 : Int) ∧ (0 : Int) < (↑(ByteArray.size s0) : Int)) then (bif decide ((↑(UInt8.toNat (Array.getD (ByteArray.data s0) (Int.toNat (0 : Int)) (0 : UInt8))) : Int) ≥ (97 : Int)) then (bif decide ((0 : Int) ≤ (0 : Int) ∧ (0 : Int) < (↑(ByteArray.size s0) : Int)) then (bif decide ((↑(UInt8.toNat (Array.getD (ByteArray.data s0) (Int.toNat (0 : Int)) (0 : UInt8))) : Int) ≤ (122 : Int)) then (bif trimOk s0 { data := #[(97 : UInt8), (98 : UInt8), (99 : UInt8), (100 : UInt8), (101 : UInt8), (102 : UInt8), (103 : UInt8), (104 : UInt8), (105 : UInt8), (106 : UInt8), (107 : UInt8), (108 : UInt8), (109 : UInt8), (110 : UInt8), (111 : UInt8), (112 : UInt8), (113 : UInt8), (114 : UInt8), (115 : UInt8), (116 : UInt8), (117 : UInt8), (118 : UInt8), (119 : UInt8), (120 : UInt8), (121 : UInt8), (122 : UInt8), (48 : UInt8), (49 : UInt8), (50 : UInt8), (51 : UInt8), (52 : UInt8), (53 : UInt8), (54 : UInt8), (55 : UInt8), (56 : UInt8), (57 : UInt8), (45 : UInt8), (95 : UInt8)] } then (k (ByteArray.toList (trimB s0 { data := #[(97 : UInt8), (98 : UInt8), (99 : UInt8), (100 : UInt8), (101 : UInt8), (102 : UInt8), (103 : UInt8), (104 : UInt8), (105 : UInt8), (106 : UInt8), (107 : UInt8), (108 : UInt8), (109 : UInt8), (110 : UInt8), (111 : UInt8), (112 : UInt8), (113 : UInt8), (114 : UInt8), (115 : UInt8), (116 : UInt8), (117 : UInt8), (118 : UInt8), (119 : UInt8), (120 : UInt8), (121 : UInt8), (122 : UInt8), (48 : UInt8), (49 : UInt8), (50 : UInt8), (51 : UInt8), (52 : UInt8), (53 : UInt8), (54 : UInt8), (55 : UInt8), (56 : UInt8), (57 : UInt8), (45 : UInt8), (95 : UInt8)] }) == ByteArray.toList { data := #[] })) else
 (none)) else
 (k false)) else
 (none)) else
 (k false)) else
 (none)) else
 (k false)) else
 (k false)
noncomputable def brFn56 (m : Nat) (T : Tbl) (R : Type) (vs : List V) (k : V → List V → Option R) : Option R := match vs with
 | [.f (.lit (.string s0))] => Fn56 m s0 (fun b1 => k (V.f (F.lit (Value.bool b1))) W14)
 | _ => T R 56 vs k
set_option maxRecDepth 100000 in
theorem evFn56 (m : Nat) (R : Type) (s0 : ByteArray) (k : V → List V → Option R) : runK Tryd.prog H (T11 m) (L4 m) 56 (W15 s0) k = Fn56 (m + 1) s0 (fun b1 => k (V.f (F.lit (Value.bool b1))) W14) := by kernel_rfl
noncomputable def T12 (m : Nat) : Tbl := addT 56 (brFn56 m (T11 m)) (T11 m)
theorem okT12 (m : Nat) : TblOk Tryd.prog (T12 m) := addT_ok (okT11 m) fun R vs k x h => by
 unfold brFn56 at h
 split at h
 ·cases m with
  | zero => cases h
  | succ m => exact runK_some (okT11 m) hM (okL4 m) ((evFn56 m R _ k).trans h)
 ·exact okT11 m R 56 _ k x h

abbrev W16 : List V := [.undef, .undef, .undef]
abbrev W17 (a0 a1 a2 : Int) : List V := [.f (.lit (.int .i64 a0)), .f (.lit (.int .i64 a1)), .f (.lit (.int .i64 a2))]
/-- - -/
noncomputable def Fn57 {R : Type} (m : Nat) : Int → Int → Int → (Bool → Option R) → Option R := match m with
 | 0 => fun _ _ _ _ => none
 | m + 1 => fun i0 i1 i2 k =>
 bif decide (i0 ≥ i1) then (k (decide (i0 ≤ i2))) else
 (k false)
noncomputable def brFn57 (m : Nat) (T : Tbl) (R : Type) (vs : List V) (k : V → List V → Option R) : Option R := match vs with
 | [.f (.lit (.int .i64 i0)), .f (.lit (.int .i64 i1)), .f (.lit (.int .i64 i2))] => Fn57 m i0 i1 i2 (fun b3 => k (V.f (F.lit (Value.bool b3))) W16)
 | _ => T R 57 vs k
set_option maxRecDepth 100000 in
theorem evFn57 (m : Nat) (R : Type) (i0 i1 i2 : Int) (k : V → List V → Option R) : runK Tryd.prog H (T12 m) (L4 m) 57 (W17 i0 i1 i2) k = Fn57 (m + 1) i0 i1 i2 (fun b3 => k (V.f (F.lit (Value.bool b3))) W16) := by kernel_rfl
noncomputable def T13 (m : Nat) : Tbl := addT 57 (brFn57 m (T12 m)) (T12 m)
theorem okT13 (m : Nat) : TblOk Tryd.prog (T13 m) := addT_ok (okT12 m) fun R vs k x h => by
 unfold brFn57 at h
 split at h
 ·cases m with
  | zero => cases h
  | succ m => exact runK_some (okT12 m) hM (okL4 m) ((evFn57 m R _ _ _ k).trans h)
 ·exact okT12 m R 57 _ k x h

abbrev W18 (a0 : Abs.Rows) (a1 : Int) (a2 : ByteArray) (a3 : Int) (a4 a5 a6 : Abs.Rows) (a7 a8 : Int) (a9 : Bool) : List V := [.bor [.str, .int .i64, .lst [.int .i64, .int .i64, .int .i64], .lst [.int .i64, .int .i64, .int .i64]] a0, .f (.lit (.int .i64 a1)), .obj [.f (.lit (.string a2)), .f (.lit (.int .i64 a3)), .f (.lst [.int .i64, .int .i64, .int .i64] a4), .f (.lst [.int .i64, .int .i64, .int .i64] a5)], .bor [.str, .int .i64, .lst [.int .i64, .int .i64, .int .i64], .lst [.int .i64, .int .i64, .int .i64]] a6, .f (.lit (.int .i64 a7)), .f (.lit (.int .i64 a8)), .f (.lit (.bool a9)), .undef]
/-- - -/
noncomputable def Jn23_11 {R : Type} (m : Nat) (kx0 : Int → Bool → Option R) (kx1 : Bool → Option R) (r0 : Abs.Rows) (i1 : Int) (s2 : ByteArray) (i3 : Int) (r4 r5 r6 : Abs.Rows) (i7 i8 : Int) (b9 : Bool) : Option R :=
 bif b9 then (kx0 ((7 : Int)) true) else
 (Fn57 m i3 ((-1440 : Int)) ((1440 : Int)) (fun b10 => bif !b10 then (kx0 ((1 : Int)) false) else
 (kx1 false)))
noncomputable def brJn23_11 (m : Nat) (L : LTbl) (R : Type) (vs : List V) (k : Ex → List V → Option R) : Option R := match vs with
 | [.bor [.str, .int .i64, .lst [.int .i64, .int .i64, .int .i64], .lst [.int .i64, .int .i64, .int .i64]] r0, .f (.lit (.int .i64 i1)), .obj [.f (.lit (.string s2)), .f (.lit (.int .i64 i3)), .f (.lst [.int .i64, .int .i64, .int .i64] r4), .f (.lst [.int .i64, .int .i64, .int .i64] r5)], .bor [.str, .int .i64, .lst [.int .i64, .int .i64, .int .i64], .lst [.int .i64, .int .i64, .int .i64]] r6, .f (.lit (.int .i64 i7)), .f (.lit (.int .i64 i8)), .f (.lit (.bool b9)), .undef] => Jn23_11 m (fun i11 b12 => k Ex.ret (W18 r0 i11 s2 i3 r4 r5 r6 i7 i8 b12)) (fun b13 => k Ex.normal (W18 r0 i1 s2 i3 r4 r5 r6 i7 i8 b13)) r0 i1 s2 i3 r4 r5 r6 i7 i8 b9
 | _ => L R 23 11 vs k
set_option maxRecDepth 100000 in
theorem evJn23_11 (m : Nat) (R : Type) (r0 : Abs.Rows) (i1 : Int) (s2 : ByteArray) (i3 : Int) (r4 r5 r6 : Abs.Rows) (i7 i8 : Int) (b9 : Bool) (k : Ex → List V → Option R) : codeK Tryd.prog H (T13 m) 23 (L4 m) 12 (loopBody Tryd.prog 23 11) (mkEnv [0, 2, 4, 9, 10, 11, 21, 46] (W18 r0 i1 s2 i3 r4 r5 r6 i7 i8 b9) 0 (H.len 23)) (fun e env' => k e (vals [0, 2, 4, 9, 10, 11, 21, 46] env')) = Jn23_11 m (fun i11 b12 => k Ex.ret (W18 r0 i11 s2 i3 r4 r5 r6 i7 i8 b12)) (fun b13 => k Ex.normal (W18 r0 i1 s2 i3 r4 r5 r6 i7 i8 b13)) r0 i1 s2 i3 r4 r5 r6 i7 i8 b9 := by kernel_rfl
noncomputable def L5 (m : Nat) : LTbl := addJ 23 11 (brJn23_11 m (L4 m)) (L4 m)
theorem okL5 (m : Nat) : LTOk Tryd.prog H (L5 m) := addJ_ok (okT13 m) hM (okL4 m) (l := [0, 2, 4, 9, 10, 11, 21, 46]) (by kernel_rfl) (by kernel_rfl) fun R vs k x h => by
  unfold brJn23_11 at h
  split at h
  ·exact .inl ((evJn23_11 m R _ _ _ _ _ _ _ _ _ _ k).trans h)
  ·exact .inr h

/-- - -/
noncomputable def Fn90 {R : Type} (m : Nat) : Int → Int → (Bool → Option R) → Option R := match m with
 | 0 => fun _ _ _ => none
 | m + 1 => fun i0 i1 k =>
 bif decide (i0 ≥ (0 : Int)) then (bif decide (i0 < i1) then (k (decide (i1 ≤ (1440 : Int)))) else
 (k false)) else
 (k false)
noncomputable def brFn90 (m : Nat) (T : Tbl) (R : Type) (vs : List V) (k : V → List V → Option R) : Option R := match vs with
 | [.f (.lit (.int .i64 i0)), .f (.lit (.int .i64 i1))] => Fn90 m i0 i1 (fun b2 => k (V.f (F.lit (Value.bool b2))) W1)
 | _ => T R 90 vs k
set_option maxRecDepth 100000 in
theorem evFn90 (m : Nat) (R : Type) (i0 i1 : Int) (k : V → List V → Option R) : runK Tryd.prog H (T13 m) (L5 m) 90 (W2 i0 i1) k = Fn90 (m + 1) i0 i1 (fun b2 => k (V.f (F.lit (Value.bool b2))) W1) := by kernel_rfl
noncomputable def T14 (m : Nat) : Tbl := addT 90 (brFn90 m (T13 m)) (T13 m)
theorem okT14 (m : Nat) : TblOk Tryd.prog (T14 m) := addT_ok (okT13 m) fun R vs k x h => by
 unfold brFn90 at h
 split at h
 ·cases m with
  | zero => cases h
  | succ m => exact runK_some (okT13 m) hM (okL5 m) ((evFn90 m R _ _ k).trans h)
 ·exact okT13 m R 90 _ k x h

abbrev W19 (a0 : ByteArray) (a1 : Int) (a2 a3 : Abs.Rows) (a4 : Int) (a5 : Abs.Rows) (a6 a7 : Int) : List V := [.obj [.f (.lit (.string a0)), .f (.lit (.int .i64 a1)), .f (.lst [.int .i64, .int .i64, .int .i64] a2), .f (.lst [.int .i64, .int .i64, .int .i64] a3)], .f (.lit (.int .i64 a4)), .ref 1 2, .f (.lst [.int .i64, .int .i64, .int .i64] a5), .f (.lit (.int .i64 a6)), .f (.lit (.int .i64 a7)), .undef]
/-- - -/
noncomputable def Lp58_5_step {R : Type} (m : Nat) (kx0 : Int → Int → Option R) (kx1 : Int → Option R) (s0 : ByteArray) (i1 : Int) (r2 r3 : Abs.Rows) (i4 : Int) (r5 : Abs.Rows) (i6 : Int) (REC : Int → Option R) (i7 : Int) : Option R :=
 bif decide (i7 < i6) then (bif decide ((0 : Int) ≤ i7 ∧ i7 < (↑(List.length r5) : Int)) then (Fn57 m (fI r5 (Int.toNat i7) (0 : Nat)) ((1 : Int)) ((127 : Int)) (fun b8 => bif !b8 then (kx0 ((1 : Int)) i7) else
 (Fn90 m (fI r5 (Int.toNat i7) (1 : Nat)) (fI r5 (Int.toNat i7) (2 : Nat)) (fun b9 => bif !b9 then (kx0 ((1 : Int)) i7) else
 (REC (IntKind.wrap IntKind.i64 (i7 + (1 : Int)))))))) else
 (none)) else
 (kx1 i7)
noncomputable def Lp58_5 {R : Type} (m : Nat) (kx0 : Int → Int → Option R) (kx1 : Int → Option R) (s0 : ByteArray) (i1 : Int) (r2 r3 : Abs.Rows) (i4 : Int) (r5 : Abs.Rows) (i6 : Int) : Nat → Int → Option R
 | 0, _ => none
 | n + 1, i7 => Lp58_5_step m kx0 kx1 s0 i1 r2 r3 i4 r5 i6 (Lp58_5 m kx0 kx1 s0 i1 r2 r3 i4 r5 i6 n) i7
noncomputable def ELp58_5 (m : Nat) (R : Type) : Nat → List V → (Ex → List V → Option R) → Option R
 | 0, _, _ => none
 | n + 1, vs, k => match vs with
  | [.obj [.f (.lit (.string s0)), .f (.lit (.int .i64 i1)), .f (.lst [.int .i64, .int .i64, .int .i64] r2), .f (.lst [.int .i64, .int .i64, .int .i64] r3)], .f (.lit (.int .i64 i4)), .ref 1 2, .f (.lst [.int .i64, .int .i64, .int .i64] r5), .f (.lit (.int .i64 i6)), .f (.lit (.int .i64 i7)), .undef] => Lp58_5_step m (fun i10 i11 => k Ex.ret (W19 s0 i1 r2 r3 i10 r5 i6 i11)) (fun i12 => k (Ex.exit (0 : Nat)) (W19 s0 i1 r2 r3 i4 r5 i6 i12)) s0 i1 r2 r3 i4 r5 i6 (fun i7 => ELp58_5 m R n (W19 s0 i1 r2 r3 i4 r5 i6 i7) k) i7
  | _ => none
noncomputable def brLp58_5 (m : Nat) (L : LTbl) (R : Type) (vs : List V) (k : Ex → List V → Option R) : Option R := match vs with
 | [.obj [.f (.lit (.string s0)), .f (.lit (.int .i64 i1)), .f (.lst [.int .i64, .int .i64, .int .i64] r2), .f (.lst [.int .i64, .int .i64, .int .i64] r3)], .f (.lit (.int .i64 i4)), .ref 1 2, .f (.lst [.int .i64, .int .i64, .int .i64] r5), .f (.lit (.int .i64 i6)), .f (.lit (.int .i64 i7)), .undef] => Lp58_5 m (fun i10 i11 => k Ex.ret (W19 s0 i1 r2 r3 i10 r5 i6 i11)) (fun i12 => k (Ex.exit (0 : Nat)) (W19 s0 i1 r2 r3 i4 r5 i6 i12)) s0 i1 r2 r3 i4 r5 i6 m i7
 | _ => L R 58 5 vs k
set_option maxRecDepth 100000 in
theorem stLp58_5 (m n : Nat) (R : Type) (s0 : ByteArray) (i1 : Int) (r2 r3 : Abs.Rows) (i4 : Int) (r5 : Abs.Rows) (i6 i7 : Int) (k : Ex → List V → Option R) : codeK Tryd.prog H (T14 m) 58 (L5 m) 6 (loopBody Tryd.prog 58 5) (mkEnv [1, 2, 11, 12, 13, 14, 80] (W19 s0 i1 r2 r3 i4 r5 i6 i7) 0 (H.len 58)) (fun e env' => match e with | .normal => ELp58_5 m R n (vals [1, 2, 11, 12, 13, 14, 80] env') k | e => k e (vals [1, 2, 11, 12, 13, 14, 80] env')) = Lp58_5_step m (fun i10 i11 => k Ex.ret (W19 s0 i1 r2 r3 i10 r5 i6 i11)) (fun i12 => k (Ex.exit (0 : Nat)) (W19 s0 i1 r2 r3 i4 r5 i6 i12)) s0 i1 r2 r3 i4 r5 i6 (fun i7 => ELp58_5 m R n (W19 s0 i1 r2 r3 i4 r5 i6 i7) k) i7 := by kernel_rfl
theorem eqLp58_5 (m : Nat) (R : Type) (s0 : ByteArray) (i1 : Int) (r2 r3 : Abs.Rows) (i4 : Int) (r5 : Abs.Rows) (i6 : Int) (k : Ex → List V → Option R) : ∀ (n : Nat) (i7 : Int), ELp58_5 m R n (W19 s0 i1 r2 r3 i4 r5 i6 i7) k = Lp58_5 m (fun i10 i11 => k Ex.ret (W19 s0 i1 r2 r3 i10 r5 i6 i11)) (fun i12 => k (Ex.exit (0 : Nat)) (W19 s0 i1 r2 r3 i4 r5 i6 i12)) s0 i1 r2 r3 i4 r5 i6 n i7
 | 0, _ => rfl
 | n + 1, i7 => by
  simp only [ELp58_5, Lp58_5, W19]
  congr 1
  funext i7
  exact eqLp58_5 m R s0 i1 r2 r3 i4 r5 i6 k n i7
noncomputable def L6 (m : Nat) : LTbl := addB 58 5 (brLp58_5 m (L5 m)) (L5 m)
theorem okL6 (m : Nat) : LTOk Tryd.prog H (L6 m) := addB_ok (okT14 m) hM (okL5 m) (l := [1, 2, 11, 12, 13, 14, 80]) (by kernel_rfl) (by kernel_rfl) m (fun R n vs k => ELp58_5 m R n vs k) (fun R vs k => rfl) (fun R n vs k x h => by
   simp only [ELp58_5] at h
   split at h
   ·exact (stLp58_5 m n R _ _ _ _ _ _ _ _ k).trans h
   ·cases h) fun R vs k x h => by
  unfold brLp58_5 at h
  split at h
  ·exact .inl ((eqLp58_5 m R _ _ _ _ _ _ _ k m _).trans h)
  ·exact .inr h

abbrev W20 (a0 : ByteArray) (a1 : Int) (a2 a3 : Abs.Rows) (a4 a5 a6 a7 a8 : Int) (a9 : Abs.Rows) (a10 a11 : Int) : List V := [.obj [.f (.lit (.string a0)), .f (.lit (.int .i64 a1)), .f (.lst [.int .i64, .int .i64, .int .i64] a2), .f (.lst [.int .i64, .int .i64, .int .i64] a3)], .f (.lit (.int .i64 a4)), .f (.lit (.int .i64 a5)), .obj [.f (.lit (.int .i64 a6)), .f (.lit (.int .i64 a7)), .f (.lit (.int .i64 a8))], .ref 1 3, .f (.lst [.int .i64, .int .i64, .int .i64] a9), .f (.lit (.int .i64 a10)), .f (.lit (.int .i64 a11)), .undef]
/-- - -/
noncomputable def Jn58_23 {R : Type} (m : Nat) (kx0 : Int → Option R) (kx1 : Option R) (s0 : ByteArray) (i1 : Int) (r2 r3 : Abs.Rows) (i4 i5 i6 i7 i8 : Int) (r9 : Abs.Rows) (i10 i11 : Int) : Option R :=
 bif decide (i5 > (0 : Int)) then (bif decide ((0 : Int) ≤ IntKind.wrap IntKind.i64 (i5 - (1 : Int)) ∧ IntKind.wrap IntKind.i64 (i5 - (1 : Int)) < (↑(List.length r3) : Int)) then (bif decide (i6 ≤ fI r3 (Int.toNat (IntKind.wrap IntKind.i64 (i5 - (1 : Int)))) (0 : Nat)) then (kx0 ((7 : Int))) else
 (kx1 )) else
 (none)) else
 (kx1 )
noncomputable def brJn58_23 (m : Nat) (L : LTbl) (R : Type) (vs : List V) (k : Ex → List V → Option R) : Option R := match vs with
 | [.obj [.f (.lit (.string s0)), .f (.lit (.int .i64 i1)), .f (.lst [.int .i64, .int .i64, .int .i64] r2), .f (.lst [.int .i64, .int .i64, .int .i64] r3)], .f (.lit (.int .i64 i4)), .f (.lit (.int .i64 i5)), .obj [.f (.lit (.int .i64 i6)), .f (.lit (.int .i64 i7)), .f (.lit (.int .i64 i8))], .ref 1 3, .f (.lst [.int .i64, .int .i64, .int .i64] r9), .f (.lit (.int .i64 i10)), .f (.lit (.int .i64 i11)), .undef] => Jn58_23 m (fun i12 => k Ex.ret (W20 s0 i1 r2 r3 i12 i5 i6 i7 i8 r9 i10 i11)) (k Ex.normal (W20 s0 i1 r2 r3 i4 i5 i6 i7 i8 r9 i10 i11)) s0 i1 r2 r3 i4 i5 i6 i7 i8 r9 i10 i11
 | _ => L R 58 23 vs k
set_option maxRecDepth 100000 in
theorem evJn58_23 (m : Nat) (R : Type) (s0 : ByteArray) (i1 : Int) (r2 r3 : Abs.Rows) (i4 i5 i6 i7 i8 : Int) (r9 : Abs.Rows) (i10 i11 : Int) (k : Ex → List V → Option R) : codeK Tryd.prog H (T14 m) 58 (L6 m) 24 (loopBody Tryd.prog 58 23) (mkEnv [1, 2, 5, 6, 35, 36, 37, 38, 80] (W20 s0 i1 r2 r3 i4 i5 i6 i7 i8 r9 i10 i11) 0 (H.len 58)) (fun e env' => k e (vals [1, 2, 5, 6, 35, 36, 37, 38, 80] env')) = Jn58_23 m (fun i12 => k Ex.ret (W20 s0 i1 r2 r3 i12 i5 i6 i7 i8 r9 i10 i11)) (k Ex.normal (W20 s0 i1 r2 r3 i4 i5 i6 i7 i8 r9 i10 i11)) s0 i1 r2 r3 i4 i5 i6 i7 i8 r9 i10 i11 := by kernel_rfl
noncomputable def L7 (m : Nat) : LTbl := addJ 58 23 (brJn58_23 m (L6 m)) (L6 m)
theorem okL7 (m : Nat) : LTOk Tryd.prog H (L7 m) := addJ_ok (okT14 m) hM (okL6 m) (l := [1, 2, 5, 6, 35, 36, 37, 38, 80]) (by kernel_rfl) (by kernel_rfl) fun R vs k x h => by
  unfold brJn58_23 at h
  split at h
  ·exact .inl ((evJn58_23 m R _ _ _ _ _ _ _ _ _ _ _ _ k).trans h)
  ·exact .inr h

abbrev W21 (a0 : ByteArray) (a1 : Int) (a2 a3 : Abs.Rows) (a4 : Int) (a5 : Abs.Rows) (a6 a7 : Int) : List V := [.obj [.f (.lit (.string a0)), .f (.lit (.int .i64 a1)), .f (.lst [.int .i64, .int .i64, .int .i64] a2), .f (.lst [.int .i64, .int .i64, .int .i64] a3)], .f (.lit (.int .i64 a4)), .ref 1 3, .f (.lst [.int .i64, .int .i64, .int .i64] a5), .f (.lit (.int .i64 a6)), .f (.lit (.int .i64 a7)), .undef]
/-- - -/
noncomputable def Lp58_17_step {R : Type} (m : Nat) (kx0 : Int → Int → Option R) (kx1 : Int → Option R) (s0 : ByteArray) (i1 : Int) (r2 r3 : Abs.Rows) (i4 : Int) (r5 : Abs.Rows) (i6 : Int) (REC : Int → Option R) (i7 : Int) : Option R :=
 bif decide (i7 < i6) then (bif decide ((0 : Int) ≤ i7 ∧ i7 < (↑(List.length r5) : Int)) then (Fn57 m (fI r5 (Int.toNat i7) (0 : Nat)) ((0 : Int)) ((4000 : Int)) (fun b8 => bif !b8 then (kx0 ((1 : Int)) i7) else
 (bif fI r5 (Int.toNat i7) (1 : Nat) != (0 : Int) then (Fn90 m (fI r5 (Int.toNat i7) (1 : Nat)) (fI r5 (Int.toNat i7) (2 : Nat)) (fun b9 => bif !b9 then (kx0 ((1 : Int)) i7) else
 (Jn58_23 m (fun i10 => kx0 i10 i7) (REC (IntKind.wrap IntKind.i64 (i7 + (1 : Int)))) s0 i1 r2 r3 i4 i7 (fI r5 (Int.toNat i7) (0 : Nat)) (fI r5 (Int.toNat i7) (1 : Nat)) (fI r5 (Int.toNat i7) (2 : Nat)) r5 i6 i7))) else
 (bif fI r5 (Int.toNat i7) (2 : Nat) != (0 : Int) then (Fn90 m (fI r5 (Int.toNat i7) (1 : Nat)) (fI r5 (Int.toNat i7) (2 : Nat)) (fun b11 => bif !b11 then (kx0 ((1 : Int)) i7) else
 (Jn58_23 m (fun i12 => kx0 i12 i7) (REC (IntKind.wrap IntKind.i64 (i7 + (1 : Int)))) s0 i1 r2 r3 i4 i7 (fI r5 (Int.toNat i7) (0 : Nat)) (fI r5 (Int.toNat i7) (1 : Nat)) (fI r5 (Int.toNat i7) (2 : Nat)) r5 i6 i7))) else
 (Jn58_23 m (fun i13 => kx0 i13 i7) (REC (IntKind.wrap IntKind.i64 (i7 + (1 : Int)))) s0 i1 r2 r3 i4 i7 (fI r5 (Int.toNat i7) (0 : Nat)) (fI r5 (Int.toNat i7) (1 : Nat)) (fI r5 (Int.toNat i7) (2 : Nat)) r5 i6 i7))))) else
 (none)) else
 (kx1 i7)
noncomputable def Lp58_17 {R : Type} (m : Nat) (kx0 : Int → Int → Option R) (kx1 : Int → Option R) (s0 : ByteArray) (i1 : Int) (r2 r3 : Abs.Rows) (i4 : Int) (r5 : Abs.Rows) (i6 : Int) : Nat → Int → Option R
 | 0, _ => none
 | n + 1, i7 => Lp58_17_step m kx0 kx1 s0 i1 r2 r3 i4 r5 i6 (Lp58_17 m kx0 kx1 s0 i1 r2 r3 i4 r5 i6 n) i7
noncomputable def ELp58_17 (m : Nat) (R : Type) : Nat → List V → (Ex → List V → Option R) → Option R
 | 0, _, _ => none
 | n + 1, vs, k => match vs with
  | [.obj [.f (.lit (.string s0)), .f (.lit (.int .i64 i1)), .f (.lst [.int .i64, .int .i64, .int .i64] r2), .f (.lst [.int .i64, .int .i64, .int .i64] r3)], .f (.lit (.int .i64 i4)), .ref 1 3, .f (.lst [.int .i64, .int .i64, .int .i64] r5), .f (.lit (.int .i64 i6)), .f (.lit (.int .i64 i7)), .undef] => Lp58_17_step m (fun i14 i15 => k Ex.ret (W21 s0 i1 r2 r3 i14 r5 i6 i15)) (fun i16 => k (Ex.exit (2 : Nat)) (W21 s0 i1 r2 r3 i4 r5 i6 i16)) s0 i1 r2 r3 i4 r5 i6 (fun i7 => ELp58_17 m R n (W21 s0 i1 r2 r3 i4 r5 i6 i7) k) i7
  | _ => none
noncomputable def brLp58_17 (m : Nat) (L : LTbl) (R : Type) (vs : List V) (k : Ex → List V → Option R) : Option R := match vs with
 | [.obj [.f (.lit (.string s0)), .f (.lit (.int .i64 i1)), .f (.lst [.int .i64, .int .i64, .int .i64] r2), .f (.lst [.int .i64, .int .i64, .int .i64] r3)], .f (.lit (.int .i64 i4)), .ref 1 3, .f (.lst [.int .i64, .int .i64, .int .i64] r5), .f (.lit (.int .i64 i6)), .f (.lit (.int .i64 i7)), .undef] => Lp58_17 m (fun i14 i15 => k Ex.ret (W21 s0 i1 r2 r3 i14 r5 i6 i15)) (fun i16 => k (Ex.exit (2 : Nat)) (W21 s0 i1 r2 r3 i4 r5 i6 i16)) s0 i1 r2 r3 i4 r5 i6 m i7
 | _ => L R 58 17 vs k
set_option maxRecDepth 100000 in
theorem stLp58_17 (m n : Nat) (R : Type) (s0 : ByteArray) (i1 : Int) (r2 r3 : Abs.Rows) (i4 : Int) (r5 : Abs.Rows) (i6 i7 : Int) (k : Ex → List V → Option R) : codeK Tryd.prog H (T14 m) 58 (L7 m) 18 (loopBody Tryd.prog 58 17) (mkEnv [1, 2, 35, 36, 37, 38, 80] (W21 s0 i1 r2 r3 i4 r5 i6 i7) 0 (H.len 58)) (fun e env' => match e with | .normal => ELp58_17 m R n (vals [1, 2, 35, 36, 37, 38, 80] env') k | e => k e (vals [1, 2, 35, 36, 37, 38, 80] env')) = Lp58_17_step m (fun i14 i15 => k Ex.ret (W21 s0 i1 r2 r3 i14 r5 i6 i15)) (fun i16 => k (Ex.exit (2 : Nat)) (W21 s0 i1 r2 r3 i4 r5 i6 i16)) s0 i1 r2 r3 i4 r5 i6 (fun i7 => ELp58_17 m R n (W21 s0 i1 r2 r3 i4 r5 i6 i7) k) i7 := by kernel_rfl
theorem eqLp58_17 (m : Nat) (R : Type) (s0 : ByteArray) (i1 : Int) (r2 r3 : Abs.Rows) (i4 : Int) (r5 : Abs.Rows) (i6 : Int) (k : Ex → List V → Option R) : ∀ (n : Nat) (i7 : Int), ELp58_17 m R n (W21 s0 i1 r2 r3 i4 r5 i6 i7) k = Lp58_17 m (fun i14 i15 => k Ex.ret (W21 s0 i1 r2 r3 i14 r5 i6 i15)) (fun i16 => k (Ex.exit (2 : Nat)) (W21 s0 i1 r2 r3 i4 r5 i6 i16)) s0 i1 r2 r3 i4 r5 i6 n i7
 | 0, _ => rfl
 | n + 1, i7 => by
  simp only [ELp58_17, Lp58_17, W21]
  congr 1
  funext i7
  exact eqLp58_17 m R s0 i1 r2 r3 i4 r5 i6 k n i7
noncomputable def L8 (m : Nat) : LTbl := addB 58 17 (brLp58_17 m (L7 m)) (L7 m)
theorem okL8 (m : Nat) : LTOk Tryd.prog H (L8 m) := addB_ok (okT14 m) hM (okL7 m) (l := [1, 2, 35, 36, 37, 38, 80]) (by kernel_rfl) (by kernel_rfl) m (fun R n vs k => ELp58_17 m R n vs k) (fun R vs k => rfl) (fun R n vs k x h => by
   simp only [ELp58_17] at h
   split at h
   ·exact (stLp58_17 m n R _ _ _ _ _ _ _ _ k).trans h
   ·cases h) fun R vs k x h => by
  unfold brLp58_17 at h
  split at h
  ·exact .inl ((eqLp58_17 m R _ _ _ _ _ _ _ k m _).trans h)
  ·exact .inr h

abbrev W22 (a0 : ByteArray) (a1 : Int) (a2 a3 : Abs.Rows) : List V := [.agg [.f (.lit (.string a0)), .f (.lit (.int .i64 a1)), .f (.lst [.int .i64, .int .i64, .int .i64] a2), .f (.lst [.int .i64, .int .i64, .int .i64] a3)]]
/-- - -/
noncomputable def Fn58 {R : Type} (m : Nat) : ByteArray → Int → Abs.Rows → Abs.Rows → (Int → Option R) → Option R := match m with
 | 0 => fun _ _ _ _ _ => none
 | m + 1 => fun s0 i1 r2 r3 k =>
 bif decide ((↑(List.length r2) : Int) > (50 : Int)) then (k ((2 : Int))) else
 (Lp58_5 m (fun i4 i5 => k i4) (fun i6 => bif decide ((↑(List.length r3) : Int) > (200 : Int)) then (k ((2 : Int))) else
 (Lp58_17 m (fun i7 i8 => k i7) (fun i9 => k ((0 : Int))) s0 i1 r2 r3 ((0 : Int)) r3 ((↑(List.length r3) : Int)) m ((0 : Int)))) s0 i1 r2 r3 ((0 : Int)) r2 ((↑(List.length r2) : Int)) m ((0 : Int)))
noncomputable def brFn58 (m : Nat) (T : Tbl) (R : Type) (vs : List V) (k : V → List V → Option R) : Option R := match vs with
 | [.agg [.f (.lit (.string s0)), .f (.lit (.int .i64 i1)), .f (.lst [.int .i64, .int .i64, .int .i64] r2), .f (.lst [.int .i64, .int .i64, .int .i64] r3)]] => Fn58 m s0 i1 r2 r3 (fun i10 => k (V.f (F.lit (Value.int IntKind.i64 i10))) W14)
 | _ => T R 58 vs k
set_option maxRecDepth 100000 in
theorem evFn58 (m : Nat) (R : Type) (s0 : ByteArray) (i1 : Int) (r2 r3 : Abs.Rows) (k : V → List V → Option R) : runK Tryd.prog H (T14 m) (L8 m) 58 (W22 s0 i1 r2 r3) k = Fn58 (m + 1) s0 i1 r2 r3 (fun i10 => k (V.f (F.lit (Value.int IntKind.i64 i10))) W14) := by kernel_rfl
noncomputable def T15 (m : Nat) : Tbl := addT 58 (brFn58 m (T14 m)) (T14 m)
theorem okT15 (m : Nat) : TblOk Tryd.prog (T15 m) := addT_ok (okT14 m) fun R vs k x h => by
 unfold brFn58 at h
 split at h
 ·cases m with
  | zero => cases h
  | succ m => exact runK_some (okT14 m) hM (okL8 m) ((evFn58 m R _ _ _ _ k).trans h)
 ·exact okT14 m R 58 _ k x h

abbrev W23 (a0 : Abs.Rows) (a1 : Int) (a2 : ByteArray) (a3 : Int) (a4 a5 a6 : Abs.Rows) (a7 a8 : Int) : List V := [.bor [.str, .int .i64, .lst [.int .i64, .int .i64, .int .i64], .lst [.int .i64, .int .i64, .int .i64]] a0, .f (.lit (.int .i64 a1)), .obj [.f (.lit (.string a2)), .f (.lit (.int .i64 a3)), .f (.lst [.int .i64, .int .i64, .int .i64] a4), .f (.lst [.int .i64, .int .i64, .int .i64] a5)], .bor [.str, .int .i64, .lst [.int .i64, .int .i64, .int .i64], .lst [.int .i64, .int .i64, .int .i64]] a6, .f (.lit (.int .i64 a7)), .f (.lit (.int .i64 a8)), .undef]
/-- - -/
noncomputable def Jn23_15 {R : Type} (m : Nat) (kx0 : Int → Option R) (kx1 : Option R) (r0 : Abs.Rows) (i1 : Int) (s2 : ByteArray) (i3 : Int) (r4 r5 r6 : Abs.Rows) (i7 i8 : Int) : Option R :=
 Fn58 m s2 i3 r4 r5 (fun i9 => bif i9 != (0 : Int) then (kx0 i9) else
 (kx1 ))
noncomputable def brJn23_15 (m : Nat) (L : LTbl) (R : Type) (vs : List V) (k : Ex → List V → Option R) : Option R := match vs with
 | [.bor [.str, .int .i64, .lst [.int .i64, .int .i64, .int .i64], .lst [.int .i64, .int .i64, .int .i64]] r0, .f (.lit (.int .i64 i1)), .obj [.f (.lit (.string s2)), .f (.lit (.int .i64 i3)), .f (.lst [.int .i64, .int .i64, .int .i64] r4), .f (.lst [.int .i64, .int .i64, .int .i64] r5)], .bor [.str, .int .i64, .lst [.int .i64, .int .i64, .int .i64], .lst [.int .i64, .int .i64, .int .i64]] r6, .f (.lit (.int .i64 i7)), .f (.lit (.int .i64 i8)), .undef] => Jn23_15 m (fun i10 => k Ex.ret (W23 r0 i10 s2 i3 r4 r5 r6 i7 i8)) (k Ex.normal (W23 r0 i1 s2 i3 r4 r5 r6 i7 i8)) r0 i1 s2 i3 r4 r5 r6 i7 i8
 | _ => L R 23 15 vs k
set_option maxRecDepth 100000 in
theorem evJn23_15 (m : Nat) (R : Type) (r0 : Abs.Rows) (i1 : Int) (s2 : ByteArray) (i3 : Int) (r4 r5 r6 : Abs.Rows) (i7 i8 : Int) (k : Ex → List V → Option R) : codeK Tryd.prog H (T15 m) 23 (L8 m) 16 (loopBody Tryd.prog 23 15) (mkEnv [0, 2, 4, 9, 10, 11, 46] (W23 r0 i1 s2 i3 r4 r5 r6 i7 i8) 0 (H.len 23)) (fun e env' => k e (vals [0, 2, 4, 9, 10, 11, 46] env')) = Jn23_15 m (fun i10 => k Ex.ret (W23 r0 i10 s2 i3 r4 r5 r6 i7 i8)) (k Ex.normal (W23 r0 i1 s2 i3 r4 r5 r6 i7 i8)) r0 i1 s2 i3 r4 r5 r6 i7 i8 := by kernel_rfl
noncomputable def L9 (m : Nat) : LTbl := addJ 23 15 (brJn23_15 m (L8 m)) (L8 m)
theorem okL9 (m : Nat) : LTOk Tryd.prog H (L9 m) := addJ_ok (okT15 m) hM (okL8 m) (l := [0, 2, 4, 9, 10, 11, 46]) (by kernel_rfl) (by kernel_rfl) fun R vs k x h => by
  unfold brJn23_15 at h
  split at h
  ·exact .inl ((evJn23_15 m R _ _ _ _ _ _ _ _ _ k).trans h)
  ·exact .inr h

abbrev W24 (a0 : Abs.Rows) (a1 : Int) (a2 : Abs.Rows) (a3 a4 : Int) : List V := [.bor [.str, .int .i64, .lst [.int .i64, .int .i64, .int .i64], .lst [.int .i64, .int .i64, .int .i64]] a0, .f (.lit (.int .i64 a1)), .bor [.str, .int .i64, .lst [.int .i64, .int .i64, .int .i64], .lst [.int .i64, .int .i64, .int .i64]] a2, .f (.lit (.int .i64 a3)), .f (.lit (.int .i64 a4)), .undef]
/-- - -/
noncomputable def Lp23_5_step {R : Type} (m : Nat) (kx0 : Int → Int → Option R) (kx1 : Int → Option R) (r0 : Abs.Rows) (i1 : Int) (r2 : Abs.Rows) (i3 : Int) (REC : Int → Option R) (i4 : Int) : Option R :=
 bif decide (i4 < i3) then (bif decide ((0 : Int) ≤ i4 ∧ i4 < (↑(List.length r2) : Int)) then (Fn56 m (fS r2 (Int.toNat i4) (0 : Nat)) (fun b5 => bif !b5 then (kx0 ((5 : Int)) i4) else
 (bif decide (i4 > (0 : Int)) then (bif decide ((0 : Int) ≤ IntKind.wrap IntKind.i64 (i4 - (1 : Int)) ∧ IntKind.wrap IntKind.i64 (i4 - (1 : Int)) < (↑(List.length r0) : Int)) then (Jn23_11 m (fun i6 b7 => kx0 i6 i4) (fun b8 => Jn23_15 m (fun i9 => kx0 i9 i4) (REC (IntKind.wrap IntKind.i64 (i4 + (1 : Int)))) r0 i1 (fS r2 (Int.toNat i4) (0 : Nat)) (fI r2 (Int.toNat i4) (1 : Nat)) (fR r2 (Int.toNat i4) (2 : Nat)) (fR r2 (Int.toNat i4) (3 : Nat)) r2 i3 i4) r0 i1 (fS r2 (Int.toNat i4) (0 : Nat)) (fI r2 (Int.toNat i4) (1 : Nat)) (fR r2 (Int.toNat i4) (2 : Nat)) (fR r2 (Int.toNat i4) (3 : Nat)) r2 i3 i4 (Op.bytesLess (ByteArray.toList (fS r2 (Int.toNat i4) (0 : Nat))) (ByteArray.toList (fS r0 (Int.toNat (IntKind.wrap IntKind.i64 (i4 - (1 : Int)))) (0 : Nat))) || ByteArray.toList (fS r2 (Int.toNat i4) (0 : Nat)) == ByteArray.toList (fS r0 (Int.toNat (IntKind.wrap IntKind.i64 (i4 - (1 : Int)))) (0 : Nat)))) else
 (none)) else
 (Jn23_11 m (fun i10 b11 => kx0 i10 i4) (fun b12 => Jn23_15 m (fun i13 => kx0 i13 i4) (REC (IntKind.wrap IntKind.i64 (i4 + (1 : Int)))) r0 i1 (fS r2 (Int.toNat i4) (0 : Nat)) (fI r2 (Int.toNat i4) (1 : Nat)) (fR r2 (Int.toNat i4) (2 : Nat)) (fR r2 (Int.toNat i4) (3 : Nat)) r2 i3 i4) r0 i1 (fS r2 (Int.toNat i4) (0 : Nat)) (fI r2 (Int.toNat i4) (1 : Nat)) (fR r2 (Int.toNat i4) (2 : Nat)) (fR r2 (Int.toNat i4) (3 : Nat)) r2 i3 i4 false)))) else
 (none)) else
 (kx1 i4)
noncomputable def Lp23_5 {R : Type} (m : Nat) (kx0 : Int → Int → Option R) (kx1 : Int → Option R) (r0 : Abs.Rows) (i1 : Int) (r2 : Abs.Rows) (i3 : Int) : Nat → Int → Option R
 | 0, _ => none
 | n + 1, i4 => Lp23_5_step m kx0 kx1 r0 i1 r2 i3 (Lp23_5 m kx0 kx1 r0 i1 r2 i3 n) i4
noncomputable def ELp23_5 (m : Nat) (R : Type) : Nat → List V → (Ex → List V → Option R) → Option R
 | 0, _, _ => none
 | n + 1, vs, k => match vs with
  | [.bor [.str, .int .i64, .lst [.int .i64, .int .i64, .int .i64], .lst [.int .i64, .int .i64, .int .i64]] r0, .f (.lit (.int .i64 i1)), .bor [.str, .int .i64, .lst [.int .i64, .int .i64, .int .i64], .lst [.int .i64, .int .i64, .int .i64]] r2, .f (.lit (.int .i64 i3)), .f (.lit (.int .i64 i4)), .undef] => Lp23_5_step m (fun i14 i15 => k Ex.ret (W24 r0 i14 r2 i3 i15)) (fun i16 => k (Ex.exit (0 : Nat)) (W24 r0 i1 r2 i3 i16)) r0 i1 r2 i3 (fun i4 => ELp23_5 m R n (W24 r0 i1 r2 i3 i4) k) i4
  | _ => none
noncomputable def brLp23_5 (m : Nat) (L : LTbl) (R : Type) (vs : List V) (k : Ex → List V → Option R) : Option R := match vs with
 | [.bor [.str, .int .i64, .lst [.int .i64, .int .i64, .int .i64], .lst [.int .i64, .int .i64, .int .i64]] r0, .f (.lit (.int .i64 i1)), .bor [.str, .int .i64, .lst [.int .i64, .int .i64, .int .i64], .lst [.int .i64, .int .i64, .int .i64]] r2, .f (.lit (.int .i64 i3)), .f (.lit (.int .i64 i4)), .undef] => Lp23_5 m (fun i14 i15 => k Ex.ret (W24 r0 i14 r2 i3 i15)) (fun i16 => k (Ex.exit (0 : Nat)) (W24 r0 i1 r2 i3 i16)) r0 i1 r2 i3 m i4
 | _ => L R 23 5 vs k
set_option maxRecDepth 100000 in
theorem stLp23_5 (m n : Nat) (R : Type) (r0 : Abs.Rows) (i1 : Int) (r2 : Abs.Rows) (i3 i4 : Int) (k : Ex → List V → Option R) : codeK Tryd.prog H (T15 m) 23 (L9 m) 6 (loopBody Tryd.prog 23 5) (mkEnv [0, 2, 9, 10, 11, 46] (W24 r0 i1 r2 i3 i4) 0 (H.len 23)) (fun e env' => match e with | .normal => ELp23_5 m R n (vals [0, 2, 9, 10, 11, 46] env') k | e => k e (vals [0, 2, 9, 10, 11, 46] env')) = Lp23_5_step m (fun i14 i15 => k Ex.ret (W24 r0 i14 r2 i3 i15)) (fun i16 => k (Ex.exit (0 : Nat)) (W24 r0 i1 r2 i3 i16)) r0 i1 r2 i3 (fun i4 => ELp23_5 m R n (W24 r0 i1 r2 i3 i4) k) i4 := by kernel_rfl
theorem eqLp23_5 (m : Nat) (R : Type) (r0 : Abs.Rows) (i1 : Int) (r2 : Abs.Rows) (i3 : Int) (k : Ex → List V → Option R) : ∀ (n : Nat) (i4 : Int), ELp23_5 m R n (W24 r0 i1 r2 i3 i4) k = Lp23_5 m (fun i14 i15 => k Ex.ret (W24 r0 i14 r2 i3 i15)) (fun i16 => k (Ex.exit (0 : Nat)) (W24 r0 i1 r2 i3 i16)) r0 i1 r2 i3 n i4
 | 0, _ => rfl
 | n + 1, i4 => by
  simp only [ELp23_5, Lp23_5, W24]
  congr 1
  funext i4
  exact eqLp23_5 m R r0 i1 r2 i3 k n i4
noncomputable def L10 (m : Nat) : LTbl := addB 23 5 (brLp23_5 m (L9 m)) (L9 m)
theorem okL10 (m : Nat) : LTOk Tryd.prog H (L10 m) := addB_ok (okT15 m) hM (okL9 m) (l := [0, 2, 9, 10, 11, 46]) (by kernel_rfl) (by kernel_rfl) m (fun R n vs k => ELp23_5 m R n vs k) (fun R vs k => rfl) (fun R n vs k x h => by
   simp only [ELp23_5] at h
   split at h
   ·exact (stLp23_5 m n R _ _ _ _ _ k).trans h
   ·cases h) fun R vs k x h => by
  unfold brLp23_5 at h
  split at h
  ·exact .inl ((eqLp23_5 m R _ _ _ _ k m _).trans h)
  ·exact .inr h

abbrev W25 (a0 : Abs.Rows) : List V := [.bor [.str, .int .i64, .lst [.int .i64, .int .i64, .int .i64], .lst [.int .i64, .int .i64, .int .i64]] a0]
/-- - -/
noncomputable def Fn23 {R : Type} (m : Nat) : Abs.Rows → (Int → Option R) → Option R := match m with
 | 0 => fun _ _ => none
 | m + 1 => fun r0 k =>
 bif decide ((↑(List.length r0) : Int) > (50 : Int)) then (k ((2 : Int))) else
 (Lp23_5 m (fun i1 i2 => k i1) (fun i3 => k ((0 : Int))) r0 ((0 : Int)) r0 ((↑(List.length r0) : Int)) m ((0 : Int)))
noncomputable def brFn23 (m : Nat) (T : Tbl) (R : Type) (vs : List V) (k : V → List V → Option R) : Option R := match vs with
 | [.bor [.str, .int .i64, .lst [.int .i64, .int .i64, .int .i64], .lst [.int .i64, .int .i64, .int .i64]] r0] => Fn23 m r0 (fun i4 => k (V.f (F.lit (Value.int IntKind.i64 i4))) W14)
 | _ => T R 23 vs k
set_option maxRecDepth 100000 in
theorem evFn23 (m : Nat) (R : Type) (r0 : Abs.Rows) (k : V → List V → Option R) : runK Tryd.prog H (T15 m) (L10 m) 23 (W25 r0) k = Fn23 (m + 1) r0 (fun i4 => k (V.f (F.lit (Value.int IntKind.i64 i4))) W14) := by kernel_rfl
noncomputable def T16 (m : Nat) : Tbl := addT 23 (brFn23 m (T15 m)) (T15 m)
theorem okT16 (m : Nat) : TblOk Tryd.prog (T16 m) := addT_ok (okT15 m) fun R vs k x h => by
 unfold brFn23 at h
 split at h
 ·cases m with
  | zero => cases h
  | succ m => exact runK_some (okT15 m) hM (okL10 m) ((evFn23 m R _ k).trans h)
 ·exact okT15 m R 23 _ k x h

/-- - -/
noncomputable def Fn48 {R : Type} (m : Nat) : Int → Int → Int → (Bool → Option R) → Option R := match m with
 | 0 => fun _ _ _ _ => none
 | m + 1 => fun i0 i1 i2 k =>
 bif decide (i1 ≤ i0) then (k (decide (i0 ≤ i2))) else
 (k false)
noncomputable def brFn48 (m : Nat) (T : Tbl) (R : Type) (vs : List V) (k : V → List V → Option R) : Option R := match vs with
 | [.f (.lit (.int .i64 i0)), .f (.lit (.int .i64 i1)), .f (.lit (.int .i64 i2))] => Fn48 m i0 i1 i2 (fun b3 => k (V.f (F.lit (Value.bool b3))) W16)
 | _ => T R 48 vs k
set_option maxRecDepth 100000 in
theorem evFn48 (m : Nat) (R : Type) (i0 i1 i2 : Int) (k : V → List V → Option R) : runK Tryd.prog H (T16 m) (L10 m) 48 (W17 i0 i1 i2) k = Fn48 (m + 1) i0 i1 i2 (fun b3 => k (V.f (F.lit (Value.bool b3))) W16) := by kernel_rfl
noncomputable def T17 (m : Nat) : Tbl := addT 48 (brFn48 m (T16 m)) (T16 m)
theorem okT17 (m : Nat) : TblOk Tryd.prog (T17 m) := addT_ok (okT16 m) fun R vs k x h => by
 unfold brFn48 at h
 split at h
 ·cases m with
  | zero => cases h
  | succ m => exact runK_some (okT16 m) hM (okL10 m) ((evFn48 m R _ _ _ k).trans h)
 ·exact okT16 m R 48 _ k x h

abbrev W26 (a0 : ByteArray) (a1 : Int) : List V := [.f (.lit (.string a0)), .f (.lit (.int .u8 a1))]
/-- - -/
noncomputable def Fn83 {R : Type} (m : Nat) : ByteArray → Int → (Int → Option R) → Option R := match m with
 | 0 => fun _ _ _ => none
 | m + 1 => fun s0 i1 k =>
 k (idxByte s0 i1)
noncomputable def brFn83 (m : Nat) (T : Tbl) (R : Type) (vs : List V) (k : V → List V → Option R) : Option R := match vs with
 | [.f (.lit (.string s0)), .f (.lit (.int .u8 i1))] => Fn83 m s0 i1 (fun i2 => k (V.f (F.lit (Value.int IntKind.i64 i2))) W1)
 | _ => T R 83 vs k
set_option maxRecDepth 100000 in
theorem evFn83 (m : Nat) (R : Type) (s0 : ByteArray) (i1 : Int) (k : V → List V → Option R) : runK Tryd.prog H (T17 m) (L10 m) 83 (W26 s0 i1) k = Fn83 (m + 1) s0 i1 (fun i2 => k (V.f (F.lit (Value.int IntKind.i64 i2))) W1) := by kernel_rfl
noncomputable def T18 (m : Nat) : Tbl := addT 83 (brFn83 m (T17 m)) (T17 m)
theorem okT18 (m : Nat) : TblOk Tryd.prog (T18 m) := addT_ok (okT17 m) fun R vs k x h => by
 unfold brFn83 at h
 split at h
 ·cases m with
  | zero => cases h
  | succ m => exact runK_some (okT17 m) hM (okL10 m) ((evFn83 m R _ _ k).trans h)
 ·exact okT17 m R 83 _ k x h

/-- - -/
noncomputable def Fn42 {R : Type} (m : Nat) : ByteArray → Int → (Int → Option R) → Option R := match m with
 | 0 => fun _ _ _ => none
 | m + 1 => fun s0 i1 k =>
 Fn83 m s0 i1 (fun i2 => k i2)
noncomputable def brFn42 (m : Nat) (T : Tbl) (R : Type) (vs : List V) (k : V → List V → Option R) : Option R := match vs with
 | [.f (.lit (.string s0)), .f (.lit (.int .u8 i1))] => Fn42 m s0 i1 (fun i3 => k (V.f (F.lit (Value.int IntKind.i64 i3))) W1)
 | _ => T R 42 vs k
set_option maxRecDepth 100000 in
theorem evFn42 (m : Nat) (R : Type) (s0 : ByteArray) (i1 : Int) (k : V → List V → Option R) : runK Tryd.prog H (T18 m) (L10 m) 42 (W26 s0 i1) k = Fn42 (m + 1) s0 i1 (fun i3 => k (V.f (F.lit (Value.int IntKind.i64 i3))) W1) := by kernel_rfl
noncomputable def T19 (m : Nat) : Tbl := addT 42 (brFn42 m (T18 m)) (T18 m)
theorem okT19 (m : Nat) : TblOk Tryd.prog (T19 m) := addT_ok (okT18 m) fun R vs k x h => by
 unfold brFn42 at h
 split at h
 ·cases m with
  | zero => cases h
  | succ m => exact runK_some (okT18 m) hM (okL10 m) ((evFn42 m R _ _ k).trans h)
 ·exact okT18 m R 42 _ k x h

abbrev W27 (a0 a1 : ByteArray) (a2 : Bool) (a3 a4 : Int) : List V := [.f (.lit (.string a0)), .f (.lit (.string a1)), .f (.lit (.bool a2)), .f (.lit (.int .i64 a3)), .f (.lit (.int .i64 a4)), .undef, .undef]
/-- - -/
noncomputable def Lp49_2_step {R : Type} (m : Nat) (kx0 : Bool → Int → Option R) (kx1 : Int → Option R) (s0 s1 : ByteArray) (b2 : Bool) (i3 : Int) (REC : Int → Option R) (i4 : Int) : Option R :=
 bif decide (i4 < i3) then (bif decide ((0 : Int) ≤ i4 ∧ i4 < (↑(ByteArray.size s0) : Int)) then (Fn42 m s1 ((↑(UInt8.toNat (Array.getD (ByteArray.data s0) (Int.toNat i4) (0 : UInt8))) : Int)) (fun i5 => bif decide (i5 < (0 : Int)) then (kx0 false i4) else
 (REC (IntKind.wrap IntKind.i64 (i4 + (1 : Int)))))) else
 (none)) else
 (kx1 i4)
noncomputable def Lp49_2 {R : Type} (m : Nat) (kx0 : Bool → Int → Option R) (kx1 : Int → Option R) (s0 s1 : ByteArray) (b2 : Bool) (i3 : Int) : Nat → Int → Option R
 | 0, _ => none
 | n + 1, i4 => Lp49_2_step m kx0 kx1 s0 s1 b2 i3 (Lp49_2 m kx0 kx1 s0 s1 b2 i3 n) i4
noncomputable def ELp49_2 (m : Nat) (R : Type) : Nat → List V → (Ex → List V → Option R) → Option R
 | 0, _, _ => none
 | n + 1, vs, k => match vs with
  | [.f (.lit (.string s0)), .f (.lit (.string s1)), .f (.lit (.bool b2)), .f (.lit (.int .i64 i3)), .f (.lit (.int .i64 i4)), .undef, .undef] => Lp49_2_step m (fun b6 i7 => k Ex.ret (W27 s0 s1 b6 i3 i7)) (fun i8 => k (Ex.exit (0 : Nat)) (W27 s0 s1 b2 i3 i8)) s0 s1 b2 i3 (fun i4 => ELp49_2 m R n (W27 s0 s1 b2 i3 i4) k) i4
  | _ => none
noncomputable def brLp49_2 (m : Nat) (L : LTbl) (R : Type) (vs : List V) (k : Ex → List V → Option R) : Option R := match vs with
 | [.f (.lit (.string s0)), .f (.lit (.string s1)), .f (.lit (.bool b2)), .f (.lit (.int .i64 i3)), .f (.lit (.int .i64 i4)), .undef, .undef] => Lp49_2 m (fun b6 i7 => k Ex.ret (W27 s0 s1 b6 i3 i7)) (fun i8 => k (Ex.exit (0 : Nat)) (W27 s0 s1 b2 i3 i8)) s0 s1 b2 i3 m i4
 | _ => L R 49 2 vs k
set_option maxRecDepth 100000 in
theorem stLp49_2 (m n : Nat) (R : Type) (s0 s1 : ByteArray) (b2 : Bool) (i3 i4 : Int) (k : Ex → List V → Option R) : codeK Tryd.prog H (T19 m) 49 (L10 m) 3 (loopBody Tryd.prog 49 2) (mkEnv [0, 1, 4, 7, 8, 18, 19] (W27 s0 s1 b2 i3 i4) 0 (H.len 49)) (fun e env' => match e with | .normal => ELp49_2 m R n (vals [0, 1, 4, 7, 8, 18, 19] env') k | e => k e (vals [0, 1, 4, 7, 8, 18, 19] env')) = Lp49_2_step m (fun b6 i7 => k Ex.ret (W27 s0 s1 b6 i3 i7)) (fun i8 => k (Ex.exit (0 : Nat)) (W27 s0 s1 b2 i3 i8)) s0 s1 b2 i3 (fun i4 => ELp49_2 m R n (W27 s0 s1 b2 i3 i4) k) i4 := by kernel_rfl
theorem eqLp49_2 (m : Nat) (R : Type) (s0 s1 : ByteArray) (b2 : Bool) (i3 : Int) (k : Ex → List V → Option R) : ∀ (n : Nat) (i4 : Int), ELp49_2 m R n (W27 s0 s1 b2 i3 i4) k = Lp49_2 m (fun b6 i7 => k Ex.ret (W27 s0 s1 b6 i3 i7)) (fun i8 => k (Ex.exit (0 : Nat)) (W27 s0 s1 b2 i3 i8)) s0 s1 b2 i3 n i4
 | 0, _ => rfl
 | n + 1, i4 => by
  simp only [ELp49_2, Lp49_2, W27]
  congr 1
  funext i4
  exact eqLp49_2 m R s0 s1 b2 i3 k n i4
noncomputable def L11 (m : Nat) : LTbl := addB 49 2 (brLp49_2 m (L10 m)) (L10 m)
theorem okL11 (m : Nat) : LTOk Tryd.prog H (L11 m) := addB_ok (okT19 m) hM (okL10 m) (l := [0, 1, 4, 7, 8, 18, 19]) (by kernel_rfl) (by kernel_rfl) m (fun R n vs k => ELp49_2 m R n vs k) (fun R vs k => rfl) (fun R n vs k x h => by
   simp only [ELp49_2] at h
   split at h
   ·exact (stLp49_2 m n R _ _ _ _ _ k).trans h
   ·cases h) fun R vs k x h => by
  unfold brLp49_2 at h
  split at h
  ·exact .inl ((eqLp49_2 m R _ _ _ _ k m _).trans h)
  ·exact .inr h

abbrev W28 (a0 a1 : ByteArray) : List V := [.f (.lit (.string a0)), .f (.lit (.string a1))]
/-- - -/
noncomputable def Fn49 {R : Type} (m : Nat) : ByteArray → ByteArray → (Bool → Option R) → Option R := match m with
 | 0 => fun _ _ _ => none
 | m + 1 => fun s0 s1 k =>
 Lp49_2 m (fun b2 i3 => k b2) (fun i4 => k true) s0 s1 false ((↑(ByteArray.size s0) : Int)) m ((0 : Int))
noncomputable def brFn49 (m : Nat) (T : Tbl) (R : Type) (vs : List V) (k : V → List V → Option R) : Option R := match vs with
 | [.f (.lit (.string s0)), .f (.lit (.string s1))] => Fn49 m s0 s1 (fun b5 => k (V.f (F.lit (Value.bool b5))) W1)
 | _ => T R 49 vs k
set_option maxRecDepth 100000 in
theorem evFn49 (m : Nat) (R : Type) (s0 s1 : ByteArray) (k : V → List V → Option R) : runK Tryd.prog H (T19 m) (L11 m) 49 (W28 s0 s1) k = Fn49 (m + 1) s0 s1 (fun b5 => k (V.f (F.lit (Value.bool b5))) W1) := by kernel_rfl
noncomputable def T20 (m : Nat) : Tbl := addT 49 (brFn49 m (T19 m)) (T19 m)
theorem okT20 (m : Nat) : TblOk Tryd.prog (T20 m) := addT_ok (okT19 m) fun R vs k x h => by
 unfold brFn49 at h
 split at h
 ·cases m with
  | zero => cases h
  | succ m => exact runK_some (okT19 m) hM (okL11 m) ((evFn49 m R _ _ k).trans h)
 ·exact okT19 m R 49 _ k x h

/-- - -/
noncomputable def Fn59 {R : Type} (m : Nat) : ByteArray → (Bool → Option R) → Option R := match m with
 | 0 => fun _ _ => none
 | m + 1 => fun s0 k =>
 Fn48 m ((↑(ByteArray.size s0) : Int)) ((1 : Int)) ((40 : Int)) (fun b1 => bif b1 then (bif decide ((0 : Int) ≤ (1 : Int) ∧ (1 : Int) ≤ (↑(ByteArray.size s0) : Int)) then (Fn49 m (ByteArray.extract s0 (0 : Nat) (Int.toNat (1 : Int))) ({ data := #[(97 : UInt8), (98 : UInt8), (99 : UInt8), (100 : UInt8), (101 : UInt8), (102 : UInt8), (103 : UInt8), (104 : UInt8), (105 : UInt8), (106 : UInt8), (107 : UInt8), (108 : UInt8), (109 : UInt8), (110 : UInt8), (111 : UInt8), (112 : UInt8), (113 : UInt8), (114 : UInt8), (115 : UInt8), (116 : UInt8), (117 : UInt8), (118 : UInt8), (119 : UInt8), (120 : UInt8), (121 : UInt8), (122 : UInt8)] }) (fun b2 => bif b2 then (Fn49 m s0 ({ data := #[(97 : UInt8), (98 : UInt8), (99 : UInt8), (100 : UInt8), (101 : UInt8), (102 : UInt8), (103 : UInt8), (104 : UInt8), (105 : UInt8), (106 : UInt8), (107 : UInt8), (108 : UInt8), (109 : UInt8), (110 : UInt8), (111 : UInt8), (112 : UInt8), (113 : UInt8), (114 : UInt8), (115 : UInt8), (116 : UInt8), (117 : UInt8), (118 : UInt8), (119 : UInt8), (120 : UInt8), (121 : UInt8), (122 : UInt8), (48 : UInt8), (49 : UInt8), (50 : UInt8), (51 : UInt8), (52 : UInt8), (53 : UInt8), (54 : UInt8), (55 : UInt8), (56 : UInt8), (57 : UInt8), (45 : UInt8), (95 : UInt8)] }) (fun b3 => k b3)) else
 (k false))) else
 (none)) else
 (k false))
noncomputable def brFn59 (m : Nat) (T : Tbl) (R : Type) (vs : List V) (k : V → List V → Option R) : Option R := match vs with
 | [.f (.lit (.string s0))] => Fn59 m s0 (fun b4 => k (V.f (F.lit (Value.bool b4))) W14)
 | _ => T R 59 vs k
set_option maxRecDepth 100000 in
theorem evFn59 (m : Nat) (R : Type) (s0 : ByteArray) (k : V → List V → Option R) : runK Tryd.prog H (T20 m) (L11 m) 59 (W15 s0) k = Fn59 (m + 1) s0 (fun b4 => k (V.f (F.lit (Value.bool b4))) W14) := by kernel_rfl
noncomputable def T21 (m : Nat) : Tbl := addT 59 (brFn59 m (T20 m)) (T20 m)
theorem okT21 (m : Nat) : TblOk Tryd.prog (T21 m) := addT_ok (okT20 m) fun R vs k x h => by
 unfold brFn59 at h
 split at h
 ·cases m with
  | zero => cases h
  | succ m => exact runK_some (okT20 m) hM (okL11 m) ((evFn59 m R _ k).trans h)
 ·exact okT20 m R 59 _ k x h

abbrev W29 (a0 : Abs.Rows) (a1 : Int) (a2 a3 : ByteArray) (a4 : Int) (a5 a6 a7 : Abs.Rows) (a8 a9 : Int) (a10 : Abs.Rows) (a11 a12 : Int) : List V := [.bor [.str, .int .i64, .lst [.int .i64, .int .i64, .int .i64], .lst [.int .i64, .int .i64, .int .i64]] a0, .f (.lit (.int .i64 a1)), .f (.lit (.string a2)), .obj [.f (.lit (.string a3)), .f (.lit (.int .i64 a4)), .f (.lst [.int .i64, .int .i64, .int .i64] a5), .f (.lst [.int .i64, .int .i64, .int .i64] a6)], .bor [.str, .int .i64, .lst [.int .i64, .int .i64, .int .i64], .lst [.int .i64, .int .i64, .int .i64]] a7, .f (.lit (.int .i64 a8)), .f (.lit (.int .i64 a9)), .ref 5 2, .f (.lst [.int .i64, .int .i64, .int .i64] a10), .f (.lit (.int .i64 a11)), .f (.lit (.int .i64 a12)), .undef]
/-- - -/
noncomputable def Lp24_21_step {R : Type} (m : Nat) (kx0 : Int → Int → Option R) (kx1 : Int → Option R) (r0 : Abs.Rows) (i1 : Int) (s2 s3 : ByteArray) (i4 : Int) (r5 r6 r7 : Abs.Rows) (i8 i9 : Int) (r10 : Abs.Rows) (i11 : Int) (REC : Int → Option R) (i12 : Int) : Option R :=
 bif decide (i12 < i11) then (bif decide ((0 : Int) ≤ i12 ∧ i12 < (↑(List.length r10) : Int)) then (Fn48 m (fI r10 (Int.toNat i12) (0 : Nat)) ((1 : Int)) ((127 : Int)) (fun b13 => bif !b13 then (kx0 ((1 : Int)) i12) else
 (bif decide (fI r10 (Int.toNat i12) (1 : Nat) < (0 : Int)) then (kx0 ((1 : Int)) i12) else
 (bif decide (fI r10 (Int.toNat i12) (1 : Nat) ≥ fI r10 (Int.toNat i12) (2 : Nat)) then (kx0 ((1 : Int)) i12) else
 (bif decide (fI r10 (Int.toNat i12) (2 : Nat) > (1440 : Int)) then (kx0 ((1 : Int)) i12) else
 (REC (IntKind.wrap IntKind.i64 (i12 + (1 : Int))))))))) else
 (none)) else
 (kx1 i12)
noncomputable def Lp24_21 {R : Type} (m : Nat) (kx0 : Int → Int → Option R) (kx1 : Int → Option R) (r0 : Abs.Rows) (i1 : Int) (s2 s3 : ByteArray) (i4 : Int) (r5 r6 r7 : Abs.Rows) (i8 i9 : Int) (r10 : Abs.Rows) (i11 : Int) : Nat → Int → Option R
 | 0, _ => none
 | n + 1, i12 => Lp24_21_step m kx0 kx1 r0 i1 s2 s3 i4 r5 r6 r7 i8 i9 r10 i11 (Lp24_21 m kx0 kx1 r0 i1 s2 s3 i4 r5 r6 r7 i8 i9 r10 i11 n) i12
noncomputable def ELp24_21 (m : Nat) (R : Type) : Nat → List V → (Ex → List V → Option R) → Option R
 | 0, _, _ => none
 | n + 1, vs, k => match vs with
  | [.bor [.str, .int .i64, .lst [.int .i64, .int .i64, .int .i64], .lst [.int .i64, .int .i64, .int .i64]] r0, .f (.lit (.int .i64 i1)), .f (.lit (.string s2)), .obj [.f (.lit (.string s3)), .f (.lit (.int .i64 i4)), .f (.lst [.int .i64, .int .i64, .int .i64] r5), .f (.lst [.int .i64, .int .i64, .int .i64] r6)], .bor [.str, .int .i64, .lst [.int .i64, .int .i64, .int .i64], .lst [.int .i64, .int .i64, .int .i64]] r7, .f (.lit (.int .i64 i8)), .f (.lit (.int .i64 i9)), .ref 5 2, .f (.lst [.int .i64, .int .i64, .int .i64] r10), .f (.lit (.int .i64 i11)), .f (.lit (.int .i64 i12)), .undef] => Lp24_21_step m (fun i14 i15 => k Ex.ret (W29 r0 i14 s2 s3 i4 r5 r6 r7 i8 i9 r10 i11 i15)) (fun i16 => k (Ex.exit (3 : Nat)) (W29 r0 i1 s2 s3 i4 r5 r6 r7 i8 i9 r10 i11 i16)) r0 i1 s2 s3 i4 r5 r6 r7 i8 i9 r10 i11 (fun i12 => ELp24_21 m R n (W29 r0 i1 s2 s3 i4 r5 r6 r7 i8 i9 r10 i11 i12) k) i12
  | _ => none
noncomputable def brLp24_21 (m : Nat) (L : LTbl) (R : Type) (vs : List V) (k : Ex → List V → Option R) : Option R := match vs with
 | [.bor [.str, .int .i64, .lst [.int .i64, .int .i64, .int .i64], .lst [.int .i64, .int .i64, .int .i64]] r0, .f (.lit (.int .i64 i1)), .f (.lit (.string s2)), .obj [.f (.lit (.string s3)), .f (.lit (.int .i64 i4)), .f (.lst [.int .i64, .int .i64, .int .i64] r5), .f (.lst [.int .i64, .int .i64, .int .i64] r6)], .bor [.str, .int .i64, .lst [.int .i64, .int .i64, .int .i64], .lst [.int .i64, .int .i64, .int .i64]] r7, .f (.lit (.int .i64 i8)), .f (.lit (.int .i64 i9)), .ref 5 2, .f (.lst [.int .i64, .int .i64, .int .i64] r10), .f (.lit (.int .i64 i11)), .f (.lit (.int .i64 i12)), .undef] => Lp24_21 m (fun i14 i15 => k Ex.ret (W29 r0 i14 s2 s3 i4 r5 r6 r7 i8 i9 r10 i11 i15)) (fun i16 => k (Ex.exit (3 : Nat)) (W29 r0 i1 s2 s3 i4 r5 r6 r7 i8 i9 r10 i11 i16)) r0 i1 s2 s3 i4 r5 r6 r7 i8 i9 r10 i11 m i12
 | _ => L R 24 21 vs k
set_option maxRecDepth 100000 in
theorem stLp24_21 (m n : Nat) (R : Type) (r0 : Abs.Rows) (i1 : Int) (s2 s3 : ByteArray) (i4 : Int) (r5 r6 r7 : Abs.Rows) (i8 i9 : Int) (r10 : Abs.Rows) (i11 i12 : Int) (k : Ex → List V → Option R) : codeK Tryd.prog H (T21 m) 24 (L11 m) 22 (loopBody Tryd.prog 24 21) (mkEnv [0, 2, 3, 5, 13, 14, 15, 41, 42, 43, 44, 129] (W29 r0 i1 s2 s3 i4 r5 r6 r7 i8 i9 r10 i11 i12) 0 (H.len 24)) (fun e env' => match e with | .normal => ELp24_21 m R n (vals [0, 2, 3, 5, 13, 14, 15, 41, 42, 43, 44, 129] env') k | e => k e (vals [0, 2, 3, 5, 13, 14, 15, 41, 42, 43, 44, 129] env')) = Lp24_21_step m (fun i14 i15 => k Ex.ret (W29 r0 i14 s2 s3 i4 r5 r6 r7 i8 i9 r10 i11 i15)) (fun i16 => k (Ex.exit (3 : Nat)) (W29 r0 i1 s2 s3 i4 r5 r6 r7 i8 i9 r10 i11 i16)) r0 i1 s2 s3 i4 r5 r6 r7 i8 i9 r10 i11 (fun i12 => ELp24_21 m R n (W29 r0 i1 s2 s3 i4 r5 r6 r7 i8 i9 r10 i11 i12) k) i12 := by kernel_rfl
theorem eqLp24_21 (m : Nat) (R : Type) (r0 : Abs.Rows) (i1 : Int) (s2 s3 : ByteArray) (i4 : Int) (r5 r6 r7 : Abs.Rows) (i8 i9 : Int) (r10 : Abs.Rows) (i11 : Int) (k : Ex → List V → Option R) : ∀ (n : Nat) (i12 : Int), ELp24_21 m R n (W29 r0 i1 s2 s3 i4 r5 r6 r7 i8 i9 r10 i11 i12) k = Lp24_21 m (fun i14 i15 => k Ex.ret (W29 r0 i14 s2 s3 i4 r5 r6 r7 i8 i9 r10 i11 i15)) (fun i16 => k (Ex.exit (3 : Nat)) (W29 r0 i1 s2 s3 i4 r5 r6 r7 i8 i9 r10 i11 i16)) r0 i1 s2 s3 i4 r5 r6 r7 i8 i9 r10 i11 n i12
 | 0, _ => rfl
 | n + 1, i12 => by
  simp only [ELp24_21, Lp24_21, W29]
  congr 1
  funext i12
  exact eqLp24_21 m R r0 i1 s2 s3 i4 r5 r6 r7 i8 i9 r10 i11 k n i12
noncomputable def L12 (m : Nat) : LTbl := addB 24 21 (brLp24_21 m (L11 m)) (L11 m)
theorem okL12 (m : Nat) : LTOk Tryd.prog H (L12 m) := addB_ok (okT21 m) hM (okL11 m) (l := [0, 2, 3, 5, 13, 14, 15, 41, 42, 43, 44, 129]) (by kernel_rfl) (by kernel_rfl) m (fun R n vs k => ELp24_21 m R n vs k) (fun R vs k => rfl) (fun R n vs k x h => by
   simp only [ELp24_21] at h
   split at h
   ·exact (stLp24_21 m n R _ _ _ _ _ _ _ _ _ _ _ _ _ k).trans h
   ·cases h) fun R vs k x h => by
  unfold brLp24_21 at h
  split at h
  ·exact .inl ((eqLp24_21 m R _ _ _ _ _ _ _ _ _ _ _ _ k m _).trans h)
  ·exact .inr h

abbrev W30 (a0 : Abs.Rows) (a1 : Int) (a2 a3 : ByteArray) (a4 : Int) (a5 a6 : Abs.Rows) (a7 a8 a9 a10 : Int) (a11 : Abs.Rows) (a12 a13 : Int) (a14 : Abs.Rows) (a15 a16 : Int) : List V := [.bor [.str, .int .i64, .lst [.int .i64, .int .i64, .int .i64], .lst [.int .i64, .int .i64, .int .i64]] a0, .f (.lit (.int .i64 a1)), .f (.lit (.string a2)), .obj [.f (.lit (.string a3)), .f (.lit (.int .i64 a4)), .f (.lst [.int .i64, .int .i64, .int .i64] a5), .f (.lst [.int .i64, .int .i64, .int .i64] a6)], .f (.lit (.int .i64 a7)), .obj [.f (.lit (.int .i64 a8)), .f (.lit (.int .i64 a9)), .f (.lit (.int .i64 a10))], .bor [.str, .int .i64, .lst [.int .i64, .int .i64, .int .i64], .lst [.int .i64, .int .i64, .int .i64]] a11, .f (.lit (.int .i64 a12)), .f (.lit (.int .i64 a13)), .ref 5 3, .f (.lst [.int .i64, .int .i64, .int .i64] a14), .f (.lit (.int .i64 a15)), .f (.lit (.int .i64 a16)), .undef]
/-- - -/
noncomputable def Jn24_39 {R : Type} (m : Nat) (kx0 : Int → Option R) (kx1 : Option R) (r0 : Abs.Rows) (i1 : Int) (s2 s3 : ByteArray) (i4 : Int) (r5 r6 : Abs.Rows) (i7 i8 i9 i10 : Int) (r11 : Abs.Rows) (i12 i13 : Int) (r14 : Abs.Rows) (i15 i16 : Int) : Option R :=
 bif decide (i7 > (0 : Int)) then (bif decide ((0 : Int) ≤ IntKind.wrap IntKind.i64 (i7 - (1 : Int)) ∧ IntKind.wrap IntKind.i64 (i7 - (1 : Int)) < (↑(List.length r6) : Int)) then (bif decide (i8 ≤ fI r6 (Int.toNat (IntKind.wrap IntKind.i64 (i7 - (1 : Int)))) (0 : Nat)) then (kx0 ((7 : Int))) else
 (kx1 )) else
 (none)) else
 (kx1 )
noncomputable def brJn24_39 (m : Nat) (L : LTbl) (R : Type) (vs : List V) (k : Ex → List V → Option R) : Option R := match vs with
 | [.bor [.str, .int .i64, .lst [.int .i64, .int .i64, .int .i64], .lst [.int .i64, .int .i64, .int .i64]] r0, .f (.lit (.int .i64 i1)), .f (.lit (.string s2)), .obj [.f (.lit (.string s3)), .f (.lit (.int .i64 i4)), .f (.lst [.int .i64, .int .i64, .int .i64] r5), .f (.lst [.int .i64, .int .i64, .int .i64] r6)], .f (.lit (.int .i64 i7)), .obj [.f (.lit (.int .i64 i8)), .f (.lit (.int .i64 i9)), .f (.lit (.int .i64 i10))], .bor [.str, .int .i64, .lst [.int .i64, .int .i64, .int .i64], .lst [.int .i64, .int .i64, .int .i64]] r11, .f (.lit (.int .i64 i12)), .f (.lit (.int .i64 i13)), .ref 5 3, .f (.lst [.int .i64, .int .i64, .int .i64] r14), .f (.lit (.int .i64 i15)), .f (.lit (.int .i64 i16)), .undef] => Jn24_39 m (fun i17 => k Ex.ret (W30 r0 i17 s2 s3 i4 r5 r6 i7 i8 i9 i10 r11 i12 i13 r14 i15 i16)) (k Ex.normal (W30 r0 i1 s2 s3 i4 r5 r6 i7 i8 i9 i10 r11 i12 i13 r14 i15 i16)) r0 i1 s2 s3 i4 r5 r6 i7 i8 i9 i10 r11 i12 i13 r14 i15 i16
 | _ => L R 24 39 vs k
set_option maxRecDepth 100000 in
theorem evJn24_39 (m : Nat) (R : Type) (r0 : Abs.Rows) (i1 : Int) (s2 s3 : ByteArray) (i4 : Int) (r5 r6 : Abs.Rows) (i7 i8 i9 i10 : Int) (r11 : Abs.Rows) (i12 i13 : Int) (r14 : Abs.Rows) (i15 i16 : Int) (k : Ex → List V → Option R) : codeK Tryd.prog H (T21 m) 24 (L12 m) 40 (loopBody Tryd.prog 24 39) (mkEnv [0, 2, 3, 5, 8, 9, 13, 14, 15, 74, 75, 76, 77, 129] (W30 r0 i1 s2 s3 i4 r5 r6 i7 i8 i9 i10 r11 i12 i13 r14 i15 i16) 0 (H.len 24)) (fun e env' => k e (vals [0, 2, 3, 5, 8, 9, 13, 14, 15, 74, 75, 76, 77, 129] env')) = Jn24_39 m (fun i17 => k Ex.ret (W30 r0 i17 s2 s3 i4 r5 r6 i7 i8 i9 i10 r11 i12 i13 r14 i15 i16)) (k Ex.normal (W30 r0 i1 s2 s3 i4 r5 r6 i7 i8 i9 i10 r11 i12 i13 r14 i15 i16)) r0 i1 s2 s3 i4 r5 r6 i7 i8 i9 i10 r11 i12 i13 r14 i15 i16 := by kernel_rfl
noncomputable def L13 (m : Nat) : LTbl := addJ 24 39 (brJn24_39 m (L12 m)) (L12 m)
theorem okL13 (m : Nat) : LTOk Tryd.prog H (L13 m) := addJ_ok (okT21 m) hM (okL12 m) (l := [0, 2, 3, 5, 8, 9, 13, 14, 15, 74, 75, 76, 77, 129]) (by kernel_rfl) (by kernel_rfl) fun R vs k x h => by
  unfold brJn24_39 at h
  split at h
  ·exact .inl ((evJn24_39 m R _ _ _ _ _ _ _ _ _ _ _ _ _ _ _ _ _ k).trans h)
  ·exact .inr h

abbrev W31 (a0 : Abs.Rows) (a1 : Int) (a2 a3 : ByteArray) (a4 : Int) (a5 a6 a7 : Abs.Rows) (a8 a9 : Int) (a10 : Abs.Rows) (a11 a12 : Int) : List V := [.bor [.str, .int .i64, .lst [.int .i64, .int .i64, .int .i64], .lst [.int .i64, .int .i64, .int .i64]] a0, .f (.lit (.int .i64 a1)), .f (.lit (.string a2)), .obj [.f (.lit (.string a3)), .f (.lit (.int .i64 a4)), .f (.lst [.int .i64, .int .i64, .int .i64] a5), .f (.lst [.int .i64, .int .i64, .int .i64] a6)], .bor [.str, .int .i64, .lst [.int .i64, .int .i64, .int .i64], .lst [.int .i64, .int .i64, .int .i64]] a7, .f (.lit (.int .i64 a8)), .f (.lit (.int .i64 a9)), .ref 5 3, .f (.lst [.int .i64, .int .i64, .int .i64] a10), .f (.lit (.int .i64 a11)), .f (.lit (.int .i64 a12)), .undef]
/-- - -/
noncomputable def Lp24_33_step {R : Type} (m : Nat) (kx0 : Int → Int → Option R) (kx1 : Int → Option R) (r0 : Abs.Rows) (i1 : Int) (s2 s3 : ByteArray) (i4 : Int) (r5 r6 r7 : Abs.Rows) (i8 i9 : Int) (r10 : Abs.Rows) (i11 : Int) (REC : Int → Option R) (i12 : Int) : Option R :=
 bif decide (i12 < i11) then (bif decide ((0 : Int) ≤ i12 ∧ i12 < (↑(List.length r10) : Int)) then (Fn48 m (fI r10 (Int.toNat i12) (0 : Nat)) ((0 : Int)) ((4000 : Int)) (fun b13 => bif !b13 then (kx0 ((1 : Int)) i12) else
 (bif fI r10 (Int.toNat i12) (1 : Nat) != (0 : Int) then (bif decide (fI r10 (Int.toNat i12) (1 : Nat) < (0 : Int)) then (kx0 ((1 : Int)) i12) else
 (bif decide (fI r10 (Int.toNat i12) (1 : Nat) ≥ fI r10 (Int.toNat i12) (2 : Nat)) then (kx0 ((1 : Int)) i12) else
 (bif decide (fI r10 (Int.toNat i12) (2 : Nat) > (1440 : Int)) then (kx0 ((1 : Int)) i12) else
 (Jn24_39 m (fun i14 => kx0 i14 i12) (REC (IntKind.wrap IntKind.i64 (i12 + (1 : Int)))) r0 i1 s2 s3 i4 r5 r6 i12 (fI r10 (Int.toNat i12) (0 : Nat)) (fI r10 (Int.toNat i12) (1 : Nat)) (fI r10 (Int.toNat i12) (2 : Nat)) r7 i8 i9 r10 i11 i12)))) else
 (bif fI r10 (Int.toNat i12) (2 : Nat) != (0 : Int) then (bif decide (fI r10 (Int.toNat i12) (1 : Nat) < (0 : Int)) then (kx0 ((1 : Int)) i12) else
 (bif decide (fI r10 (Int.toNat i12) (1 : Nat) ≥ fI r10 (Int.toNat i12) (2 : Nat)) then (kx0 ((1 : Int)) i12) else
 (bif decide (fI r10 (Int.toNat i12) (2 : Nat) > (1440 : Int)) then (kx0 ((1 : Int)) i12) else
 (Jn24_39 m (fun i15 => kx0 i15 i12) (REC (IntKind.wrap IntKind.i64 (i12 + (1 : Int)))) r0 i1 s2 s3 i4 r5 r6 i12 (fI r10 (Int.toNat i12) (0 : Nat)) (fI r10 (Int.toNat i12) (1 : Nat)) (fI r10 (Int.toNat i12) (2 : Nat)) r7 i8 i9 r10 i11 i12)))) else
 (Jn24_39 m (fun i16 => kx0 i16 i12) (REC (IntKind.wrap IntKind.i64 (i12 + (1 : Int)))) r0 i1 s2 s3 i4 r5 r6 i12 (fI r10 (Int.toNat i12) (0 : Nat)) (fI r10 (Int.toNat i12) (1 : Nat)) (fI r10 (Int.toNat i12) (2 : Nat)) r7 i8 i9 r10 i11 i12))))) else
 (none)) else
 (kx1 i12)
noncomputable def Lp24_33 {R : Type} (m : Nat) (kx0 : Int → Int → Option R) (kx1 : Int → Option R) (r0 : Abs.Rows) (i1 : Int) (s2 s3 : ByteArray) (i4 : Int) (r5 r6 r7 : Abs.Rows) (i8 i9 : Int) (r10 : Abs.Rows) (i11 : Int) : Nat → Int → Option R
 | 0, _ => none
 | n + 1, i12 => Lp24_33_step m kx0 kx1 r0 i1 s2 s3 i4 r5 r6 r7 i8 i9 r10 i11 (Lp24_33 m kx0 kx1 r0 i1 s2 s3 i4 r5 r6 r7 i8 i9 r10 i11 n) i12
noncomputable def ELp24_33 (m : Nat) (R : Type) : Nat → List V → (Ex → List V → Option R) → Option R
 | 0, _, _ => none
 | n + 1, vs, k => match vs with
  | [.bor [.str, .int .i64, .lst [.int .i64, .int .i64, .int .i64], .lst [.int .i64, .int .i64, .int .i64]] r0, .f (.lit (.int .i64 i1)), .f (.lit (.string s2)), .obj [.f (.lit (.string s3)), .f (.lit (.int .i64 i4)), .f (.lst [.int .i64, .int .i64, .int .i64] r5), .f (.lst [.int .i64, .int .i64, .int .i64] r6)], .bor [.str, .int .i64, .lst [.int .i64, .int .i64, .int .i64], .lst [.int .i64, .int .i64, .int .i64]] r7, .f (.lit (.int .i64 i8)), .f (.lit (.int .i64 i9)), .ref 5 3, .f (.lst [.int .i64, .int .i64, .int .i64] r10), .f (.lit (.int .i64 i11)), .f (.lit (.int .i64 i12)), .undef] => Lp24_33_step m (fun i17 i18 => k Ex.ret (W31 r0 i17 s2 s3 i4 r5 r6 r7 i8 i9 r10 i11 i18)) (fun i19 => k (Ex.exit (5 : Nat)) (W31 r0 i1 s2 s3 i4 r5 r6 r7 i8 i9 r10 i11 i19)) r0 i1 s2 s3 i4 r5 r6 r7 i8 i9 r10 i11 (fun i12 => ELp24_33 m R n (W31 r0 i1 s2 s3 i4 r5 r6 r7 i8 i9 r10 i11 i12) k) i12
  | _ => none
noncomputable def brLp24_33 (m : Nat) (L : LTbl) (R : Type) (vs : List V) (k : Ex → List V → Option R) : Option R := match vs with
 | [.bor [.str, .int .i64, .lst [.int .i64, .int .i64, .int .i64], .lst [.int .i64, .int .i64, .int .i64]] r0, .f (.lit (.int .i64 i1)), .f (.lit (.string s2)), .obj [.f (.lit (.string s3)), .f (.lit (.int .i64 i4)), .f (.lst [.int .i64, .int .i64, .int .i64] r5), .f (.lst [.int .i64, .int .i64, .int .i64] r6)], .bor [.str, .int .i64, .lst [.int .i64, .int .i64, .int .i64], .lst [.int .i64, .int .i64, .int .i64]] r7, .f (.lit (.int .i64 i8)), .f (.lit (.int .i64 i9)), .ref 5 3, .f (.lst [.int .i64, .int .i64, .int .i64] r10), .f (.lit (.int .i64 i11)), .f (.lit (.int .i64 i12)), .undef] => Lp24_33 m (fun i17 i18 => k Ex.ret (W31 r0 i17 s2 s3 i4 r5 r6 r7 i8 i9 r10 i11 i18)) (fun i19 => k (Ex.exit (5 : Nat)) (W31 r0 i1 s2 s3 i4 r5 r6 r7 i8 i9 r10 i11 i19)) r0 i1 s2 s3 i4 r5 r6 r7 i8 i9 r10 i11 m i12
 | _ => L R 24 33 vs k
set_option maxRecDepth 100000 in
theorem stLp24_33 (m n : Nat) (R : Type) (r0 : Abs.Rows) (i1 : Int) (s2 s3 : ByteArray) (i4 : Int) (r5 r6 r7 : Abs.Rows) (i8 i9 : Int) (r10 : Abs.Rows) (i11 i12 : Int) (k : Ex → List V → Option R) : codeK Tryd.prog H (T21 m) 24 (L13 m) 34 (loopBody Tryd.prog 24 33) (mkEnv [0, 2, 3, 5, 13, 14, 15, 74, 75, 76, 77, 129] (W31 r0 i1 s2 s3 i4 r5 r6 r7 i8 i9 r10 i11 i12) 0 (H.len 24)) (fun e env' => match e with | .normal => ELp24_33 m R n (vals [0, 2, 3, 5, 13, 14, 15, 74, 75, 76, 77, 129] env') k | e => k e (vals [0, 2, 3, 5, 13, 14, 15, 74, 75, 76, 77, 129] env')) = Lp24_33_step m (fun i17 i18 => k Ex.ret (W31 r0 i17 s2 s3 i4 r5 r6 r7 i8 i9 r10 i11 i18)) (fun i19 => k (Ex.exit (5 : Nat)) (W31 r0 i1 s2 s3 i4 r5 r6 r7 i8 i9 r10 i11 i19)) r0 i1 s2 s3 i4 r5 r6 r7 i8 i9 r10 i11 (fun i12 => ELp24_33 m R n (W31 r0 i1 s2 s3 i4 r5 r6 r7 i8 i9 r10 i11 i12) k) i12 := by kernel_rfl
theorem eqLp24_33 (m : Nat) (R : Type) (r0 : Abs.Rows) (i1 : Int) (s2 s3 : ByteArray) (i4 : Int) (r5 r6 r7 : Abs.Rows) (i8 i9 : Int) (r10 : Abs.Rows) (i11 : Int) (k : Ex → List V → Option R) : ∀ (n : Nat) (i12 : Int), ELp24_33 m R n (W31 r0 i1 s2 s3 i4 r5 r6 r7 i8 i9 r10 i11 i12) k = Lp24_33 m (fun i17 i18 => k Ex.ret (W31 r0 i17 s2 s3 i4 r5 r6 r7 i8 i9 r10 i11 i18)) (fun i19 => k (Ex.exit (5 : Nat)) (W31 r0 i1 s2 s3 i4 r5 r6 r7 i8 i9 r10 i11 i19)) r0 i1 s2 s3 i4 r5 r6 r7 i8 i9 r10 i11 n i12
 | 0, _ => rfl
 | n + 1, i12 => by
  simp only [ELp24_33, Lp24_33, W31]
  congr 1
  funext i12
  exact eqLp24_33 m R r0 i1 s2 s3 i4 r5 r6 r7 i8 i9 r10 i11 k n i12
noncomputable def L14 (m : Nat) : LTbl := addB 24 33 (brLp24_33 m (L13 m)) (L13 m)
theorem okL14 (m : Nat) : LTOk Tryd.prog H (L14 m) := addB_ok (okT21 m) hM (okL13 m) (l := [0, 2, 3, 5, 13, 14, 15, 74, 75, 76, 77, 129]) (by kernel_rfl) (by kernel_rfl) m (fun R n vs k => ELp24_33 m R n vs k) (fun R vs k => rfl) (fun R n vs k x h => by
   simp only [ELp24_33] at h
   split at h
   ·exact (stLp24_33 m n R _ _ _ _ _ _ _ _ _ _ _ _ _ k).trans h
   ·cases h) fun R vs k x h => by
  unfold brLp24_33 at h
  split at h
  ·exact .inl ((eqLp24_33 m R _ _ _ _ _ _ _ _ _ _ _ _ k m _).trans h)
  ·exact .inr h

abbrev W32 (a0 : Abs.Rows) (a1 : Int) (a2 : ByteArray) (a3 : Abs.Rows) (a4 a5 : Int) : List V := [.bor [.str, .int .i64, .lst [.int .i64, .int .i64, .int .i64], .lst [.int .i64, .int .i64, .int .i64]] a0, .f (.lit (.int .i64 a1)), .f (.lit (.string a2)), .bor [.str, .int .i64, .lst [.int .i64, .int .i64, .int .i64], .lst [.int .i64, .int .i64, .int .i64]] a3, .f (.lit (.int .i64 a4)), .f (.lit (.int .i64 a5)), .undef]
/-- - -/
noncomputable def Lp24_6_step {R : Type} (m : Nat) (kx0 : Int → ByteArray → Int → Option R) (kx1 : ByteArray → Int → Option R) (r0 : Abs.Rows) (i1 : Int) (r2 : Abs.Rows) (i3 : Int) (REC : ByteArray → Int → Option R) (s4 : ByteArray) (i5 : Int) : Option R :=
 bif decide (i5 < i3) then (bif decide ((0 : Int) ≤ i5 ∧ i5 < (↑(List.length r2) : Int)) then (Fn59 m (fS r2 (Int.toNat i5) (0 : Nat)) (fun b6 => bif !b6 then (kx0 ((5 : Int)) s4 i5) else
 (bif Op.bytesLess (ByteArray.toList (fS r2 (Int.toNat i5) (0 : Nat))) (ByteArray.toList s4) || ByteArray.toList (fS r2 (Int.toNat i5) (0 : Nat)) == ByteArray.toList s4 then (kx0 ((7 : Int)) s4 i5) else
 (Fn48 m (fI r2 (Int.toNat i5) (1 : Nat)) ((-1440 : Int)) ((1440 : Int)) (fun b7 => bif !b7 then (kx0 ((1 : Int)) s4 i5) else
 (bif decide ((↑(List.length (fR r2 (Int.toNat i5) (2 : Nat))) : Int) > (50 : Int)) then (kx0 ((2 : Int)) s4 i5) else
 (Lp24_21 m (fun i8 i9 => kx0 i8 (fS r2 (Int.toNat i5) (0 : Nat)) i5) (fun i10 => bif decide ((↑(List.length (fR r2 (Int.toNat i5) (3 : Nat))) : Int) > (200 : Int)) then (kx0 ((2 : Int)) (fS r2 (Int.toNat i5) (0 : Nat)) i5) else
 (Lp24_33 m (fun i11 i12 => kx0 i11 (fS r2 (Int.toNat i5) (0 : Nat)) i5) (fun i13 => REC (fS r2 (Int.toNat i5) (0 : Nat)) (IntKind.wrap IntKind.i64 (i5 + (1 : Int)))) r0 i1 (fS r2 (Int.toNat i5) (0 : Nat)) (fS r2 (Int.toNat i5) (0 : Nat)) (fI r2 (Int.toNat i5) (1 : Nat)) (fR r2 (Int.toNat i5) (2 : Nat)) (fR r2 (Int.toNat i5) (3 : Nat)) r2 i3 i5 (fR r2 (Int.toNat i5) (3 : Nat)) ((↑(List.length (fR r2 (Int.toNat i5) (3 : Nat))) : Int)) m ((0 : Int)))) r0 i1 (fS r2 (Int.toNat i5) (0 : Nat)) (fS r2 (Int.toNat i5) (0 : Nat)) (fI r2 (Int.toNat i5) (1 : Nat)) (fR r2 (Int.toNat i5) (2 : Nat)) (fR r2 (Int.toNat i5) (3 : Nat)) r2 i3 i5 (fR r2 (Int.toNat i5) (2 : Nat)) ((↑(List.length (fR r2 (Int.toNat i5) (2 : Nat))) : Int)) m ((0 : Int))))))))) else
 (none)) else
 (kx1 s4 i5)
noncomputable def Lp24_6 {R : Type} (m : Nat) (kx0 : Int → ByteArray → Int → Option R) (kx1 : ByteArray → Int → Option R) (r0 : Abs.Rows) (i1 : Int) (r2 : Abs.Rows) (i3 : Int) : Nat → ByteArray → Int → Option R
 | 0, _, _ => none
 | n + 1, s4, i5 => Lp24_6_step m kx0 kx1 r0 i1 r2 i3 (Lp24_6 m kx0 kx1 r0 i1 r2 i3 n) s4 i5
noncomputable def ELp24_6 (m : Nat) (R : Type) : Nat → List V → (Ex → List V → Option R) → Option R
 | 0, _, _ => none
 | n + 1, vs, k => match vs with
  | [.bor [.str, .int .i64, .lst [.int .i64, .int .i64, .int .i64], .lst [.int .i64, .int .i64, .int .i64]] r0, .f (.lit (.int .i64 i1)), .f (.lit (.string s4)), .bor [.str, .int .i64, .lst [.int .i64, .int .i64, .int .i64], .lst [.int .i64, .int .i64, .int .i64]] r2, .f (.lit (.int .i64 i3)), .f (.lit (.int .i64 i5)), .undef] => Lp24_6_step m (fun i14 s15 i16 => k Ex.ret (W32 r0 i14 s15 r2 i3 i16)) (fun s17 i18 => k (Ex.exit (0 : Nat)) (W32 r0 i1 s17 r2 i3 i18)) r0 i1 r2 i3 (fun s4 i5 => ELp24_6 m R n (W32 r0 i1 s4 r2 i3 i5) k) s4 i5
  | _ => none
noncomputable def brLp24_6 (m : Nat) (L : LTbl) (R : Type) (vs : List V) (k : Ex → List V → Option R) : Option R := match vs with
 | [.bor [.str, .int .i64, .lst [.int .i64, .int .i64, .int .i64], .lst [.int .i64, .int .i64, .int .i64]] r0, .f (.lit (.int .i64 i1)), .f (.lit (.string s4)), .bor [.str, .int .i64, .lst [.int .i64, .int .i64, .int .i64], .lst [.int .i64, .int .i64, .int .i64]] r2, .f (.lit (.int .i64 i3)), .f (.lit (.int .i64 i5)), .undef] => Lp24_6 m (fun i14 s15 i16 => k Ex.ret (W32 r0 i14 s15 r2 i3 i16)) (fun s17 i18 => k (Ex.exit (0 : Nat)) (W32 r0 i1 s17 r2 i3 i18)) r0 i1 r2 i3 m s4 i5
 | _ => L R 24 6 vs k
set_option maxRecDepth 100000 in
theorem stLp24_6 (m n : Nat) (R : Type) (r0 : Abs.Rows) (i1 : Int) (s4 : ByteArray) (r2 : Abs.Rows) (i3 i5 : Int) (k : Ex → List V → Option R) : codeK Tryd.prog H (T21 m) 24 (L14 m) 7 (loopBody Tryd.prog 24 6) (mkEnv [0, 2, 3, 13, 14, 15, 129] (W32 r0 i1 s4 r2 i3 i5) 0 (H.len 24)) (fun e env' => match e with | .normal => ELp24_6 m R n (vals [0, 2, 3, 13, 14, 15, 129] env') k | e => k e (vals [0, 2, 3, 13, 14, 15, 129] env')) = Lp24_6_step m (fun i14 s15 i16 => k Ex.ret (W32 r0 i14 s15 r2 i3 i16)) (fun s17 i18 => k (Ex.exit (0 : Nat)) (W32 r0 i1 s17 r2 i3 i18)) r0 i1 r2 i3 (fun s4 i5 => ELp24_6 m R n (W32 r0 i1 s4 r2 i3 i5) k) s4 i5 := by kernel_rfl
theorem eqLp24_6 (m : Nat) (R : Type) (r0 : Abs.Rows) (i1 : Int) (r2 : Abs.Rows) (i3 : Int) (k : Ex → List V → Option R) : ∀ (n : Nat) (s4 : ByteArray) (i5 : Int), ELp24_6 m R n (W32 r0 i1 s4 r2 i3 i5) k = Lp24_6 m (fun i14 s15 i16 => k Ex.ret (W32 r0 i14 s15 r2 i3 i16)) (fun s17 i18 => k (Ex.exit (0 : Nat)) (W32 r0 i1 s17 r2 i3 i18)) r0 i1 r2 i3 n s4 i5
 | 0, _, _ => rfl
 | n + 1, s4, i5 => by
  simp only [ELp24_6, Lp24_6, W32]
  congr 1
  funext s4 i5
  exact eqLp24_6 m R r0 i1 r2 i3 k n s4 i5
noncomputable def L15 (m : Nat) : LTbl := addB 24 6 (brLp24_6 m (L14 m)) (L14 m)
theorem okL15 (m : Nat) : LTOk Tryd.prog H (L15 m) := addB_ok (okT21 m) hM (okL14 m) (l := [0, 2, 3, 13, 14, 15, 129]) (by kernel_rfl) (by kernel_rfl) m (fun R n vs k => ELp24_6 m R n vs k) (fun R vs k => rfl) (fun R n vs k x h => by
   simp only [ELp24_6] at h
   split at h
   ·exact (stLp24_6 m n R _ _ _ _ _ _ k).trans h
   ·cases h) fun R vs k x h => by
  unfold brLp24_6 at h
  split at h
  ·exact .inl ((eqLp24_6 m R _ _ _ _ k m _ _).trans h)
  ·exact .inr h

/-- - -/
noncomputable def Fn24 {R : Type} (m : Nat) : Abs.Rows → (Int → Option R) → Option R := match m with
 | 0 => fun _ _ => none
 | m + 1 => fun r0 k =>
 bif decide ((↑(List.length r0) : Int) > (50 : Int)) then (k ((2 : Int))) else
 (Lp24_6 m (fun i1 s2 i3 => k i1) (fun s4 i5 => k ((0 : Int))) r0 ((0 : Int)) r0 ((↑(List.length r0) : Int)) m ({ data := #[] }) ((0 : Int)))
noncomputable def brFn24 (m : Nat) (T : Tbl) (R : Type) (vs : List V) (k : V → List V → Option R) : Option R := match vs with
 | [.bor [.str, .int .i64, .lst [.int .i64, .int .i64, .int .i64], .lst [.int .i64, .int .i64, .int .i64]] r0] => Fn24 m r0 (fun i6 => k (V.f (F.lit (Value.int IntKind.i64 i6))) W14)
 | _ => T R 24 vs k
set_option maxRecDepth 100000 in
theorem evFn24 (m : Nat) (R : Type) (r0 : Abs.Rows) (k : V → List V → Option R) : runK Tryd.prog H (T21 m) (L15 m) 24 (W25 r0) k = Fn24 (m + 1) r0 (fun i6 => k (V.f (F.lit (Value.int IntKind.i64 i6))) W14) := by kernel_rfl
noncomputable def T22 (m : Nat) : Tbl := addT 24 (brFn24 m (T21 m)) (T21 m)
theorem okT22 (m : Nat) : TblOk Tryd.prog (T22 m) := addT_ok (okT21 m) fun R vs k x h => by
 unfold brFn24 at h
 split at h
 ·cases m with
  | zero => cases h
  | succ m => exact runK_some (okT21 m) hM (okL15 m) ((evFn24 m R _ k).trans h)
 ·exact okT21 m R 24 _ k x h

abbrev W33 (a0 : Int) : List V := [.f (.lit (.int .i64 a0))]
/-- - -/
noncomputable def Fn61 {R : Type} (m : Nat) : Int → (Bool → Option R) → Option R := match m with
 | 0 => fun _ _ => none
 | m + 1 => fun i0 k =>
 bif decide (i0 ≥ (0 : Int)) then (k (decide (i0 < (345686400000 : Int)))) else
 (k false)
noncomputable def brFn61 (m : Nat) (T : Tbl) (R : Type) (vs : List V) (k : V → List V → Option R) : Option R := match vs with
 | [.f (.lit (.int .i64 i0))] => Fn61 m i0 (fun b1 => k (V.f (F.lit (Value.bool b1))) W14)
 | _ => T R 61 vs k
set_option maxRecDepth 100000 in
theorem evFn61 (m : Nat) (R : Type) (i0 : Int) (k : V → List V → Option R) : runK Tryd.prog H (T22 m) (L15 m) 61 (W33 i0) k = Fn61 (m + 1) i0 (fun b1 => k (V.f (F.lit (Value.bool b1))) W14) := by kernel_rfl
noncomputable def T23 (m : Nat) : Tbl := addT 61 (brFn61 m (T22 m)) (T22 m)
theorem okT23 (m : Nat) : TblOk Tryd.prog (T23 m) := addT_ok (okT22 m) fun R vs k x h => by
 unfold brFn61 at h
 split at h
 ·cases m with
  | zero => cases h
  | succ m => exact runK_some (okT22 m) hM (okL15 m) ((evFn61 m R _ k).trans h)
 ·exact okT22 m R 61 _ k x h

/-- - -/
noncomputable def Fn91 {R : Type} (m : Nat) : Int → Int → (Int → Option R) → Option R := match m with
 | 0 => fun _ _ _ => none
 | m + 1 => fun i0 i1 k =>
 bif decide (i1 ≠ (0 : Int)) then (bif decide (i1 ≠ (0 : Int)) then (bif decide (Int.tmod i0 i1 < (0 : Int)) then (k (IntKind.wrap IntKind.i64 (IntKind.wrap IntKind.i64 (Int.tdiv i0 i1) - (1 : Int)))) else
 (k (IntKind.wrap IntKind.i64 (Int.tdiv i0 i1)))) else
 (none)) else
 (none)
noncomputable def brFn91 (m : Nat) (T : Tbl) (R : Type) (vs : List V) (k : V → List V → Option R) : Option R := match vs with
 | [.f (.lit (.int .i64 i0)), .f (.lit (.int .i64 i1))] => Fn91 m i0 i1 (fun i2 => k (V.f (F.lit (Value.int IntKind.i64 i2))) W1)
 | _ => T R 91 vs k
set_option maxRecDepth 100000 in
theorem evFn91 (m : Nat) (R : Type) (i0 i1 : Int) (k : V → List V → Option R) : runK Tryd.prog H (T23 m) (L15 m) 91 (W2 i0 i1) k = Fn91 (m + 1) i0 i1 (fun i2 => k (V.f (F.lit (Value.int IntKind.i64 i2))) W1) := by kernel_rfl
noncomputable def T24 (m : Nat) : Tbl := addT 91 (brFn91 m (T23 m)) (T23 m)
theorem okT24 (m : Nat) : TblOk Tryd.prog (T24 m) := addT_ok (okT23 m) fun R vs k x h => by
 unfold brFn91 at h
 split at h
 ·cases m with
  | zero => cases h
  | succ m => exact runK_some (okT23 m) hM (okL15 m) ((evFn91 m R _ _ k).trans h)
 ·exact okT23 m R 91 _ k x h

abbrev W34 (a0 : ByteArray) (a1 : Int) (a2 a3 : Abs.Rows) (a4 : Bool) (a5 a6 : Int) (a7 : Abs.Rows) (a8 a9 : Int) : List V := [.obj [.f (.lit (.string a0)), .f (.lit (.int .i64 a1)), .f (.lst [.int .i64, .int .i64, .int .i64] a2), .f (.lst [.int .i64, .int .i64, .int .i64] a3)], .f (.lit (.bool a4)), .f (.lit (.int .i64 a5)), .f (.lit (.int .i64 a6)), .ref 2 3, .f (.lst [.int .i64, .int .i64, .int .i64] a7), .f (.lit (.int .i64 a8)), .f (.lit (.int .i64 a9)), .undef, .undef]
/-- - -/
noncomputable def Lp62_5_step {R : Type} (m : Nat) (kx0 : Bool → Int → Option R) (kx1 : Int → Option R) (s0 : ByteArray) (i1 : Int) (r2 r3 : Abs.Rows) (b4 : Bool) (i5 i6 : Int) (r7 : Abs.Rows) (i8 : Int) (REC : Int → Option R) (i9 : Int) : Option R :=
 bif decide (i9 < i8) then (bif decide ((0 : Int) ≤ i9 ∧ i9 < (↑(List.length r7) : Int)) then (bif fI r7 (Int.toNat i9) (0 : Nat) == i5 then (bif decide (i6 ≥ fI r7 (Int.toNat i9) (1 : Nat)) then (kx0 (decide (i6 < fI r7 (Int.toNat i9) (2 : Nat))) i9) else
 (kx0 false i9)) else
 (REC (IntKind.wrap IntKind.i64 (i9 + (1 : Int))))) else
 (none)) else
 (kx1 i9)
noncomputable def Lp62_5 {R : Type} (m : Nat) (kx0 : Bool → Int → Option R) (kx1 : Int → Option R) (s0 : ByteArray) (i1 : Int) (r2 r3 : Abs.Rows) (b4 : Bool) (i5 i6 : Int) (r7 : Abs.Rows) (i8 : Int) : Nat → Int → Option R
 | 0, _ => none
 | n + 1, i9 => Lp62_5_step m kx0 kx1 s0 i1 r2 r3 b4 i5 i6 r7 i8 (Lp62_5 m kx0 kx1 s0 i1 r2 r3 b4 i5 i6 r7 i8 n) i9
noncomputable def ELp62_5 (m : Nat) (R : Type) : Nat → List V → (Ex → List V → Option R) → Option R
 | 0, _, _ => none
 | n + 1, vs, k => match vs with
  | [.obj [.f (.lit (.string s0)), .f (.lit (.int .i64 i1)), .f (.lst [.int .i64, .int .i64, .int .i64] r2), .f (.lst [.int .i64, .int .i64, .int .i64] r3)], .f (.lit (.bool b4)), .f (.lit (.int .i64 i5)), .f (.lit (.int .i64 i6)), .ref 2 3, .f (.lst [.int .i64, .int .i64, .int .i64] r7), .f (.lit (.int .i64 i8)), .f (.lit (.int .i64 i9)), .undef, .undef] => Lp62_5_step m (fun b10 i11 => k Ex.ret (W34 s0 i1 r2 r3 b10 i5 i6 r7 i8 i11)) (fun i12 => k (Ex.exit (0 : Nat)) (W34 s0 i1 r2 r3 b4 i5 i6 r7 i8 i12)) s0 i1 r2 r3 b4 i5 i6 r7 i8 (fun i9 => ELp62_5 m R n (W34 s0 i1 r2 r3 b4 i5 i6 r7 i8 i9) k) i9
  | _ => none
noncomputable def brLp62_5 (m : Nat) (L : LTbl) (R : Type) (vs : List V) (k : Ex → List V → Option R) : Option R := match vs with
 | [.obj [.f (.lit (.string s0)), .f (.lit (.int .i64 i1)), .f (.lst [.int .i64, .int .i64, .int .i64] r2), .f (.lst [.int .i64, .int .i64, .int .i64] r3)], .f (.lit (.bool b4)), .f (.lit (.int .i64 i5)), .f (.lit (.int .i64 i6)), .ref 2 3, .f (.lst [.int .i64, .int .i64, .int .i64] r7), .f (.lit (.int .i64 i8)), .f (.lit (.int .i64 i9)), .undef, .undef] => Lp62_5 m (fun b10 i11 => k Ex.ret (W34 s0 i1 r2 r3 b10 i5 i6 r7 i8 i11)) (fun i12 => k (Ex.exit (0 : Nat)) (W34 s0 i1 r2 r3 b4 i5 i6 r7 i8 i12)) s0 i1 r2 r3 b4 i5 i6 r7 i8 m i9
 | _ => L R 62 5 vs k
set_option maxRecDepth 100000 in
theorem stLp62_5 (m n : Nat) (R : Type) (s0 : ByteArray) (i1 : Int) (r2 r3 : Abs.Rows) (b4 : Bool) (i5 i6 : Int) (r7 : Abs.Rows) (i8 i9 : Int) (k : Ex → List V → Option R) : codeK Tryd.prog H (T24 m) 62 (L15 m) 6 (loopBody Tryd.prog 62 5) (mkEnv [2, 4, 6, 7, 25, 26, 27, 28, 78, 79] (W34 s0 i1 r2 r3 b4 i5 i6 r7 i8 i9) 0 (H.len 62)) (fun e env' => match e with | .normal => ELp62_5 m R n (vals [2, 4, 6, 7, 25, 26, 27, 28, 78, 79] env') k | e => k e (vals [2, 4, 6, 7, 25, 26, 27, 28, 78, 79] env')) = Lp62_5_step m (fun b10 i11 => k Ex.ret (W34 s0 i1 r2 r3 b10 i5 i6 r7 i8 i11)) (fun i12 => k (Ex.exit (0 : Nat)) (W34 s0 i1 r2 r3 b4 i5 i6 r7 i8 i12)) s0 i1 r2 r3 b4 i5 i6 r7 i8 (fun i9 => ELp62_5 m R n (W34 s0 i1 r2 r3 b4 i5 i6 r7 i8 i9) k) i9 := by kernel_rfl
theorem eqLp62_5 (m : Nat) (R : Type) (s0 : ByteArray) (i1 : Int) (r2 r3 : Abs.Rows) (b4 : Bool) (i5 i6 : Int) (r7 : Abs.Rows) (i8 : Int) (k : Ex → List V → Option R) : ∀ (n : Nat) (i9 : Int), ELp62_5 m R n (W34 s0 i1 r2 r3 b4 i5 i6 r7 i8 i9) k = Lp62_5 m (fun b10 i11 => k Ex.ret (W34 s0 i1 r2 r3 b10 i5 i6 r7 i8 i11)) (fun i12 => k (Ex.exit (0 : Nat)) (W34 s0 i1 r2 r3 b4 i5 i6 r7 i8 i12)) s0 i1 r2 r3 b4 i5 i6 r7 i8 n i9
 | 0, _ => rfl
 | n + 1, i9 => by
  simp only [ELp62_5, Lp62_5, W34]
  congr 1
  funext i9
  exact eqLp62_5 m R s0 i1 r2 r3 b4 i5 i6 r7 i8 k n i9
noncomputable def L16 (m : Nat) : LTbl := addB 62 5 (brLp62_5 m (L15 m)) (L15 m)
theorem okL16 (m : Nat) : LTOk Tryd.prog H (L16 m) := addB_ok (okT24 m) hM (okL15 m) (l := [2, 4, 6, 7, 25, 26, 27, 28, 78, 79]) (by kernel_rfl) (by kernel_rfl) m (fun R n vs k => ELp62_5 m R n vs k) (fun R vs k => rfl) (fun R n vs k x h => by
   simp only [ELp62_5] at h
   split at h
   ·exact (stLp62_5 m n R _ _ _ _ _ _ _ _ _ _ k).trans h
   ·cases h) fun R vs k x h => by
  unfold brLp62_5 at h
  split at h
  ·exact .inl ((eqLp62_5 m R _ _ _ _ _ _ _ _ _ k m _).trans h)
  ·exact .inr h

abbrev W35 (a0 : ByteArray) (a1 : Int) (a2 a3 : Abs.Rows) (a4 : Bool) (a5 a6 : Int) (a7 : Abs.Rows) (a8 a9 : Int) : List V := [.obj [.f (.lit (.string a0)), .f (.lit (.int .i64 a1)), .f (.lst [.int .i64, .int .i64, .int .i64] a2), .f (.lst [.int .i64, .int .i64, .int .i64] a3)], .f (.lit (.bool a4)), .f (.lit (.int .i64 a5)), .f (.lit (.int .i64 a6)), .ref 2 2, .f (.lst [.int .i64, .int .i64, .int .i64] a7), .f (.lit (.int .i64 a8)), .f (.lit (.int .i64 a9)), .undef, .undef]
/-- - -/
noncomputable def Lp62_15_step {R : Type} (m : Nat) (kx0 : Bool → Int → Option R) (kx1 : Int → Option R) (s0 : ByteArray) (i1 : Int) (r2 r3 : Abs.Rows) (b4 : Bool) (i5 i6 : Int) (r7 : Abs.Rows) (i8 : Int) (REC : Int → Option R) (i9 : Int) : Option R :=
 bif decide (i9 < i8) then (bif decide ((0 : Int) ≤ i9 ∧ i9 < (↑(List.length r7) : Int)) then (bif decide ((0 : Int) ≤ i6) then (bif bitsOp IntKind.i64 (BitVec.ofInt (64 : Nat) (Int.fdiv (fI r7 (Int.toNat i9) (0 : Nat)) ((2 : Int) ^ min (Int.toNat i6) (64 : Nat))) &&& BitVec.ofInt (64 : Nat) (1 : Int)) != (0 : Int) then (bif decide (i5 ≥ fI r7 (Int.toNat i9) (1 : Nat)) then (bif decide (i5 < fI r7 (Int.toNat i9) (2 : Nat)) then (kx0 true i9) else
 (REC (IntKind.wrap IntKind.i64 (i9 + (1 : Int))))) else
 (REC (IntKind.wrap IntKind.i64 (i9 + (1 : Int))))) else
 (REC (IntKind.wrap IntKind.i64 (i9 + (1 : Int))))) else
 (none)) else
 (none)) else
 (kx1 i9)
noncomputable def Lp62_15 {R : Type} (m : Nat) (kx0 : Bool → Int → Option R) (kx1 : Int → Option R) (s0 : ByteArray) (i1 : Int) (r2 r3 : Abs.Rows) (b4 : Bool) (i5 i6 : Int) (r7 : Abs.Rows) (i8 : Int) : Nat → Int → Option R
 | 0, _ => none
 | n + 1, i9 => Lp62_15_step m kx0 kx1 s0 i1 r2 r3 b4 i5 i6 r7 i8 (Lp62_15 m kx0 kx1 s0 i1 r2 r3 b4 i5 i6 r7 i8 n) i9
noncomputable def ELp62_15 (m : Nat) (R : Type) : Nat → List V → (Ex → List V → Option R) → Option R
 | 0, _, _ => none
 | n + 1, vs, k => match vs with
  | [.obj [.f (.lit (.string s0)), .f (.lit (.int .i64 i1)), .f (.lst [.int .i64, .int .i64, .int .i64] r2), .f (.lst [.int .i64, .int .i64, .int .i64] r3)], .f (.lit (.bool b4)), .f (.lit (.int .i64 i5)), .f (.lit (.int .i64 i6)), .ref 2 2, .f (.lst [.int .i64, .int .i64, .int .i64] r7), .f (.lit (.int .i64 i8)), .f (.lit (.int .i64 i9)), .undef, .undef] => Lp62_15_step m (fun b10 i11 => k Ex.ret (W35 s0 i1 r2 r3 b10 i5 i6 r7 i8 i11)) (fun i12 => k (Ex.exit (2 : Nat)) (W35 s0 i1 r2 r3 b4 i5 i6 r7 i8 i12)) s0 i1 r2 r3 b4 i5 i6 r7 i8 (fun i9 => ELp62_15 m R n (W35 s0 i1 r2 r3 b4 i5 i6 r7 i8 i9) k) i9
  | _ => none
noncomputable def brLp62_15 (m : Nat) (L : LTbl) (R : Type) (vs : List V) (k : Ex → List V → Option R) : Option R := match vs with
 | [.obj [.f (.lit (.string s0)), .f (.lit (.int .i64 i1)), .f (.lst [.int .i64, .int .i64, .int .i64] r2), .f (.lst [.int .i64, .int .i64, .int .i64] r3)], .f (.lit (.bool b4)), .f (.lit (.int .i64 i5)), .f (.lit (.int .i64 i6)), .ref 2 2, .f (.lst [.int .i64, .int .i64, .int .i64] r7), .f (.lit (.int .i64 i8)), .f (.lit (.int .i64 i9)), .undef, .undef] => Lp62_15 m (fun b10 i11 => k Ex.ret (W35 s0 i1 r2 r3 b10 i5 i6 r7 i8 i11)) (fun i12 => k (Ex.exit (2 : Nat)) (W35 s0 i1 r2 r3 b4 i5 i6 r7 i8 i12)) s0 i1 r2 r3 b4 i5 i6 r7 i8 m i9
 | _ => L R 62 15 vs k
set_option maxRecDepth 100000 in
theorem stLp62_15 (m n : Nat) (R : Type) (s0 : ByteArray) (i1 : Int) (r2 r3 : Abs.Rows) (b4 : Bool) (i5 i6 : Int) (r7 : Abs.Rows) (i8 i9 : Int) (k : Ex → List V → Option R) : codeK Tryd.prog H (T24 m) 62 (L16 m) 16 (loopBody Tryd.prog 62 15) (mkEnv [2, 4, 7, 10, 52, 53, 54, 55, 78, 79] (W35 s0 i1 r2 r3 b4 i5 i6 r7 i8 i9) 0 (H.len 62)) (fun e env' => match e with | .normal => ELp62_15 m R n (vals [2, 4, 7, 10, 52, 53, 54, 55, 78, 79] env') k | e => k e (vals [2, 4, 7, 10, 52, 53, 54, 55, 78, 79] env')) = Lp62_15_step m (fun b10 i11 => k Ex.ret (W35 s0 i1 r2 r3 b10 i5 i6 r7 i8 i11)) (fun i12 => k (Ex.exit (2 : Nat)) (W35 s0 i1 r2 r3 b4 i5 i6 r7 i8 i12)) s0 i1 r2 r3 b4 i5 i6 r7 i8 (fun i9 => ELp62_15 m R n (W35 s0 i1 r2 r3 b4 i5 i6 r7 i8 i9) k) i9 := by kernel_rfl
theorem eqLp62_15 (m : Nat) (R : Type) (s0 : ByteArray) (i1 : Int) (r2 r3 : Abs.Rows) (b4 : Bool) (i5 i6 : Int) (r7 : Abs.Rows) (i8 : Int) (k : Ex → List V → Option R) : ∀ (n : Nat) (i9 : Int), ELp62_15 m R n (W35 s0 i1 r2 r3 b4 i5 i6 r7 i8 i9) k = Lp62_15 m (fun b10 i11 => k Ex.ret (W35 s0 i1 r2 r3 b10 i5 i6 r7 i8 i11)) (fun i12 => k (Ex.exit (2 : Nat)) (W35 s0 i1 r2 r3 b4 i5 i6 r7 i8 i12)) s0 i1 r2 r3 b4 i5 i6 r7 i8 n i9
 | 0, _ => rfl
 | n + 1, i9 => by
  simp only [ELp62_15, Lp62_15, W35]
  congr 1
  funext i9
  exact eqLp62_15 m R s0 i1 r2 r3 b4 i5 i6 r7 i8 k n i9
noncomputable def L17 (m : Nat) : LTbl := addB 62 15 (brLp62_15 m (L16 m)) (L16 m)
theorem okL17 (m : Nat) : LTOk Tryd.prog H (L17 m) := addB_ok (okT24 m) hM (okL16 m) (l := [2, 4, 7, 10, 52, 53, 54, 55, 78, 79]) (by kernel_rfl) (by kernel_rfl) m (fun R n vs k => ELp62_15 m R n vs k) (fun R vs k => rfl) (fun R n vs k x h => by
   simp only [ELp62_15] at h
   split at h
   ·exact (stLp62_15 m n R _ _ _ _ _ _ _ _ _ _ k).trans h
   ·cases h) fun R vs k x h => by
  unfold brLp62_15 at h
  split at h
  ·exact .inl ((eqLp62_15 m R _ _ _ _ _ _ _ _ _ k m _).trans h)
  ·exact .inr h

abbrev W36 (a0 : ByteArray) (a1 : Int) (a2 a3 : Abs.Rows) (a4 : Int) : List V := [.agg [.f (.lit (.string a0)), .f (.lit (.int .i64 a1)), .f (.lst [.int .i64, .int .i64, .int .i64] a2), .f (.lst [.int .i64, .int .i64, .int .i64] a3)], .f (.lit (.int .i64 a4))]
/-- - -/
noncomputable def Fn62 {R : Type} (m : Nat) : ByteArray → Int → Abs.Rows → Abs.Rows → Int → (Bool → Option R) → Option R := match m with
 | 0 => fun _ _ _ _ _ _ => none
 | m + 1 => fun s0 i1 r2 r3 i4 k =>
 Fn91 m (IntKind.wrap IntKind.i64 (i4 + IntKind.wrap IntKind.i64 (i1 * (60000 : Int)))) ((86400000 : Int)) (fun i5 => Lp62_5 m (fun b6 i7 => k b6) (fun i8 => Fn91 m i5 ((7 : Int)) (fun i9 => Lp62_15 m (fun b10 i11 => k b10) (fun i12 => k false) s0 i1 r2 r3 false (IntKind.wrap IntKind.i64 (Int.tdiv (IntKind.wrap IntKind.i64 (IntKind.wrap IntKind.i64 (i4 + IntKind.wrap IntKind.i64 (i1 * (60000 : Int))) - IntKind.wrap IntKind.i64 (i5 * (86400000 : Int)))) (60000 : Int))) (IntKind.wrap IntKind.i64 (i5 - IntKind.wrap IntKind.i64 ((7 : Int) * i9))) r2 ((↑(List.length r2) : Int)) m ((0 : Int)))) s0 i1 r2 r3 false i5 (IntKind.wrap IntKind.i64 (Int.tdiv (IntKind.wrap IntKind.i64 (IntKind.wrap IntKind.i64 (i4 + IntKind.wrap IntKind.i64 (i1 * (60000 : Int))) - IntKind.wrap IntKind.i64 (i5 * (86400000 : Int)))) (60000 : Int))) r3 ((↑(List.length r3) : Int)) m ((0 : Int)))
noncomputable def brFn62 (m : Nat) (T : Tbl) (R : Type) (vs : List V) (k : V → List V → Option R) : Option R := match vs with
 | [.agg [.f (.lit (.string s0)), .f (.lit (.int .i64 i1)), .f (.lst [.int .i64, .int .i64, .int .i64] r2), .f (.lst [.int .i64, .int .i64, .int .i64] r3)], .f (.lit (.int .i64 i4))] => Fn62 m s0 i1 r2 r3 i4 (fun b13 => k (V.f (F.lit (Value.bool b13))) W1)
 | _ => T R 62 vs k
set_option maxRecDepth 100000 in
theorem evFn62 (m : Nat) (R : Type) (s0 : ByteArray) (i1 : Int) (r2 r3 : Abs.Rows) (i4 : Int) (k : V → List V → Option R) : runK Tryd.prog H (T24 m) (L17 m) 62 (W36 s0 i1 r2 r3 i4) k = Fn62 (m + 1) s0 i1 r2 r3 i4 (fun b13 => k (V.f (F.lit (Value.bool b13))) W1) := by kernel_rfl
noncomputable def T25 (m : Nat) : Tbl := addT 62 (brFn62 m (T24 m)) (T24 m)
theorem okT25 (m : Nat) : TblOk Tryd.prog (T25 m) := addT_ok (okT24 m) fun R vs k x h => by
 unfold brFn62 at h
 split at h
 ·cases m with
  | zero => cases h
  | succ m => exact runK_some (okT24 m) hM (okL17 m) ((evFn62 m R _ _ _ _ _ k).trans h)
 ·exact okT24 m R 62 _ k x h

abbrev W37 (a0 : Bool) (a1 : Int) : List V := [.f (.lit (.bool a0)), .f (.lit (.int .i64 a1))]
/-- - -/
noncomputable def Fn26 {R : Type} (m : Nat) : ByteArray → Int → Abs.Rows → Abs.Rows → Int → (Bool → Int → Option R) → Option R := match m with
 | 0 => fun _ _ _ _ _ _ => none
 | m + 1 => fun s0 i1 r2 r3 i4 k =>
 Fn23 m ([[F.lit (Value.string s0), F.lit (Value.int IntKind.i64 i1), F.lst [LT.int IntKind.i64, LT.int IntKind.i64, LT.int IntKind.i64] r2, F.lst [LT.int IntKind.i64, LT.int IntKind.i64, LT.int IntKind.i64] r3]]) (fun i5 => bif i5 != (0 : Int) then (k false i5) else
 (Fn61 m i4 (fun b6 => bif !b6 then (k false ((1 : Int))) else
 (Fn62 m s0 i1 r2 r3 i4 (fun b7 => k b7 ((0 : Int)))))))
noncomputable def brFn26 (m : Nat) (T : Tbl) (R : Type) (vs : List V) (k : V → List V → Option R) : Option R := match vs with
 | [.agg [.f (.lit (.string s0)), .f (.lit (.int .i64 i1)), .f (.lst [.int .i64, .int .i64, .int .i64] r2), .f (.lst [.int .i64, .int .i64, .int .i64] r3)], .f (.lit (.int .i64 i4))] => Fn26 m s0 i1 r2 r3 i4 (fun b8 i9 => k (V.tup (W37 b8 i9)) W1)
 | _ => T R 26 vs k
set_option maxRecDepth 100000 in
theorem evFn26 (m : Nat) (R : Type) (s0 : ByteArray) (i1 : Int) (r2 r3 : Abs.Rows) (i4 : Int) (k : V → List V → Option R) : runK Tryd.prog H (T25 m) (L17 m) 26 (W36 s0 i1 r2 r3 i4) k = Fn26 (m + 1) s0 i1 r2 r3 i4 (fun b8 i9 => k (V.tup (W37 b8 i9)) W1) := by kernel_rfl
noncomputable def T26 (m : Nat) : Tbl := addT 26 (brFn26 m (T25 m)) (T25 m)
theorem okT26 (m : Nat) : TblOk Tryd.prog (T26 m) := addT_ok (okT25 m) fun R vs k x h => by
 unfold brFn26 at h
 split at h
 ·cases m with
  | zero => cases h
  | succ m => exact runK_some (okT25 m) hM (okL17 m) ((evFn26 m R _ _ _ _ _ k).trans h)
 ·exact okT25 m R 26 _ k x h

abbrev W38 (a0 a1 a2 : Int) : List V := [.obj [.f (.lit (.int .i64 a0)), .f (.lit (.int .i64 a1))], .f (.lit (.int .i64 a2)), .undef]
/-- - -/
noncomputable def Jn63_3 {R : Type} (m : Nat) (kx0 : Int → Option R) (i0 i1 i2 : Int) : Option R :=
 bif decide (IntKind.wrap IntKind.i64 (i1 - i0) > (34560000000 : Int)) then (kx0 ((2 : Int))) else
 (kx0 ((0 : Int)))
noncomputable def brJn63_3 (m : Nat) (L : LTbl) (R : Type) (vs : List V) (k : Ex → List V → Option R) : Option R := match vs with
 | [.obj [.f (.lit (.int .i64 i0)), .f (.lit (.int .i64 i1))], .f (.lit (.int .i64 i2)), .undef] => Jn63_3 m (fun i3 => k Ex.ret (W38 i0 i1 i3)) i0 i1 i2
 | _ => L R 63 3 vs k
set_option maxRecDepth 100000 in
theorem evJn63_3 (m : Nat) (R : Type) (i0 i1 i2 : Int) (k : Ex → List V → Option R) : codeK Tryd.prog H (T26 m) 63 (L17 m) 4 (loopBody Tryd.prog 63 3) (mkEnv [1, 2, 24] (W38 i0 i1 i2) 0 (H.len 63)) (fun e env' => k e (vals [1, 2, 24] env')) = Jn63_3 m (fun i3 => k Ex.ret (W38 i0 i1 i3)) i0 i1 i2 := by kernel_rfl
noncomputable def L18 (m : Nat) : LTbl := addJ 63 3 (brJn63_3 m (L17 m)) (L17 m)
theorem okL18 (m : Nat) : LTOk Tryd.prog H (L18 m) := addJ_ok (okT26 m) hM (okL17 m) (l := [1, 2, 24]) (by kernel_rfl) (by kernel_rfl) fun R vs k x h => by
  unfold brJn63_3 at h
  split at h
  ·exact .inl ((evJn63_3 m R _ _ _ k).trans h)
  ·exact .inr h

abbrev W39 (a0 a1 : Int) : List V := [.agg [.f (.lit (.int .i64 a0)), .f (.lit (.int .i64 a1))]]
/-- - -/
noncomputable def Fn63 {R : Type} (m : Nat) : Int → Int → (Int → Option R) → Option R := match m with
 | 0 => fun _ _ _ => none
 | m + 1 => fun i0 i1 k =>
 bif decide (i0 < (0 : Int)) then (k ((1 : Int))) else
 (bif decide (i0 > i1) then (k ((1 : Int))) else
 (bif decide (i1 > (345686400000 : Int)) then (k ((1 : Int))) else
 (Jn63_3 m (fun i2 => k i2) i0 i1 ((0 : Int)))))
noncomputable def brFn63 (m : Nat) (T : Tbl) (R : Type) (vs : List V) (k : V → List V → Option R) : Option R := match vs with
 | [.agg [.f (.lit (.int .i64 i0)), .f (.lit (.int .i64 i1))]] => Fn63 m i0 i1 (fun i3 => k (V.f (F.lit (Value.int IntKind.i64 i3))) W14)
 | _ => T R 63 vs k
set_option maxRecDepth 100000 in
theorem evFn63 (m : Nat) (R : Type) (i0 i1 : Int) (k : V → List V → Option R) : runK Tryd.prog H (T26 m) (L18 m) 63 (W39 i0 i1) k = Fn63 (m + 1) i0 i1 (fun i3 => k (V.f (F.lit (Value.int IntKind.i64 i3))) W14) := by kernel_rfl
noncomputable def T27 (m : Nat) : Tbl := addT 63 (brFn63 m (T26 m)) (T26 m)
theorem okT27 (m : Nat) : TblOk Tryd.prog (T27 m) := addT_ok (okT26 m) fun R vs k x h => by
 unfold brFn63 at h
 split at h
 ·cases m with
  | zero => cases h
  | succ m => exact runK_some (okT26 m) hM (okL18 m) ((evFn63 m R _ _ k).trans h)
 ·exact okT26 m R 63 _ k x h

abbrev W40 (a0 : ByteArray) (a1 : Int) (a2 a3 : Abs.Rows) (a4 a5 : Int) (a6 : Abs.Rows) (a7 : Bool) (a8 : Int) : List V := [.obj [.f (.lit (.string a0)), .f (.lit (.int .i64 a1)), .f (.lst [.int .i64, .int .i64, .int .i64] a2), .f (.lst [.int .i64, .int .i64, .int .i64] a3)], .obj [.f (.lit (.int .i64 a4)), .f (.lit (.int .i64 a5))], .own [.int .i64] a6, .f (.lit (.bool a7)), .f (.lit (.int .i64 a8)), .undef, .undef]
/-- - -/
noncomputable def Lp27_12_step {R : Type} (m : Nat) (kx0 : Abs.Rows → Bool → Int → Option R) (s0 : ByteArray) (i1 : Int) (r2 r3 : Abs.Rows) (i4 i5 : Int) (REC : Abs.Rows → Bool → Int → Option R) (r6 : Abs.Rows) (b7 : Bool) (i8 : Int) : Option R :=
 bif decide (i8 < i5) then (Fn62 m s0 i1 r2 r3 i8 (fun b9 => bif !b9 == b7 then (bif decide (List.length r6 + List.length [[F.lit (Value.int IntKind.i64 i8)]] ≤ rowMax) then (letV (r6 ++ [[F.lit (Value.int IntKind.i64 i8)]]) (fun r10 => REC r10 b9 (IntKind.wrap IntKind.i64 (i8 + IntKind.wrap IntKind.i64 ((60000 : Int) - Int.tmod i8 (60000 : Int)))))) else
 (none)) else
 (REC r6 b7 (IntKind.wrap IntKind.i64 (i8 + IntKind.wrap IntKind.i64 ((60000 : Int) - Int.tmod i8 (60000 : Int))))))) else
 (kx0 r6 b7 i8)
noncomputable def Lp27_12 {R : Type} (m : Nat) (kx0 : Abs.Rows → Bool → Int → Option R) (s0 : ByteArray) (i1 : Int) (r2 r3 : Abs.Rows) (i4 i5 : Int) : Nat → Abs.Rows → Bool → Int → Option R
 | 0, _, _, _ => none
 | n + 1, r6, b7, i8 => Lp27_12_step m kx0 s0 i1 r2 r3 i4 i5 (Lp27_12 m kx0 s0 i1 r2 r3 i4 i5 n) r6 b7 i8
noncomputable def ELp27_12 (m : Nat) (R : Type) : Nat → List V → (Ex → List V → Option R) → Option R
 | 0, _, _ => none
 | n + 1, vs, k => match vs with
  | [.obj [.f (.lit (.string s0)), .f (.lit (.int .i64 i1)), .f (.lst [.int .i64, .int .i64, .int .i64] r2), .f (.lst [.int .i64, .int .i64, .int .i64] r3)], .obj [.f (.lit (.int .i64 i4)), .f (.lit (.int .i64 i5))], .own [.int .i64] r6, .f (.lit (.bool b7)), .f (.lit (.int .i64 i8)), .undef, .undef] => Lp27_12_step m (fun r11 b12 i13 => k (Ex.exit (0 : Nat)) (W40 s0 i1 r2 r3 i4 i5 r11 b12 i13)) s0 i1 r2 r3 i4 i5 (fun r6 b7 i8 => ELp27_12 m R n (W40 s0 i1 r2 r3 i4 i5 r6 b7 i8) k) r6 b7 i8
  | _ => none
noncomputable def brLp27_12 (m : Nat) (L : LTbl) (R : Type) (vs : List V) (k : Ex → List V → Option R) : Option R := match vs with
 | [.obj [.f (.lit (.string s0)), .f (.lit (.int .i64 i1)), .f (.lst [.int .i64, .int .i64, .int .i64] r2), .f (.lst [.int .i64, .int .i64, .int .i64] r3)], .obj [.f (.lit (.int .i64 i4)), .f (.lit (.int .i64 i5))], .own [.int .i64] r6, .f (.lit (.bool b7)), .f (.lit (.int .i64 i8)), .undef, .undef] => Lp27_12 m (fun r11 b12 i13 => k (Ex.exit (0 : Nat)) (W40 s0 i1 r2 r3 i4 i5 r11 b12 i13)) s0 i1 r2 r3 i4 i5 m r6 b7 i8
 | _ => L R 27 12 vs k
set_option maxRecDepth 100000 in
theorem stLp27_12 (m n : Nat) (R : Type) (s0 : ByteArray) (i1 : Int) (r2 r3 : Abs.Rows) (i4 i5 : Int) (r6 : Abs.Rows) (b7 : Bool) (i8 : Int) (k : Ex → List V → Option R) : codeK Tryd.prog H (T27 m) 27 (L18 m) 13 (loopBody Tryd.prog 27 12) (mkEnv [2, 3, 8, 9, 10, 46, 47] (W40 s0 i1 r2 r3 i4 i5 r6 b7 i8) 0 (H.len 27)) (fun e env' => match e with | .normal => ELp27_12 m R n (vals [2, 3, 8, 9, 10, 46, 47] env') k | e => k e (vals [2, 3, 8, 9, 10, 46, 47] env')) = Lp27_12_step m (fun r11 b12 i13 => k (Ex.exit (0 : Nat)) (W40 s0 i1 r2 r3 i4 i5 r11 b12 i13)) s0 i1 r2 r3 i4 i5 (fun r6 b7 i8 => ELp27_12 m R n (W40 s0 i1 r2 r3 i4 i5 r6 b7 i8) k) r6 b7 i8 := by kernel_rfl
theorem eqLp27_12 (m : Nat) (R : Type) (s0 : ByteArray) (i1 : Int) (r2 r3 : Abs.Rows) (i4 i5 : Int) (k : Ex → List V → Option R) : ∀ (n : Nat) (r6 : Abs.Rows) (b7 : Bool) (i8 : Int), ELp27_12 m R n (W40 s0 i1 r2 r3 i4 i5 r6 b7 i8) k = Lp27_12 m (fun r11 b12 i13 => k (Ex.exit (0 : Nat)) (W40 s0 i1 r2 r3 i4 i5 r11 b12 i13)) s0 i1 r2 r3 i4 i5 n r6 b7 i8
 | 0, _, _, _ => rfl
 | n + 1, r6, b7, i8 => by
  simp only [ELp27_12, Lp27_12, W40]
  congr 1
  funext r6 b7 i8
  exact eqLp27_12 m R s0 i1 r2 r3 i4 i5 k n r6 b7 i8
noncomputable def L19 (m : Nat) : LTbl := addB 27 12 (brLp27_12 m (L18 m)) (L18 m)
theorem okL19 (m : Nat) : LTOk Tryd.prog H (L19 m) := addB_ok (okT27 m) hM (okL18 m) (l := [2, 3, 8, 9, 10, 46, 47]) (by kernel_rfl) (by kernel_rfl) m (fun R n vs k => ELp27_12 m R n vs k) (fun R vs k => rfl) (fun R n vs k x h => by
   simp only [ELp27_12] at h
   split at h
   ·exact (stLp27_12 m n R _ _ _ _ _ _ _ _ _ k).trans h
   ·cases h) fun R vs k x h => by
  unfold brLp27_12 at h
  split at h
  ·exact .inl ((eqLp27_12 m R _ _ _ _ _ _ k m _ _ _).trans h)
  ·exact .inr h

abbrev W41 (a0 : Abs.Rows) (a1 : Int) : List V := [.own [.int .i64] a0, .f (.lit (.int .i64 a1))]
abbrev W42 (a0 : ByteArray) (a1 : Int) (a2 a3 : Abs.Rows) (a4 a5 : Int) : List V := [.agg [.f (.lit (.string a0)), .f (.lit (.int .i64 a1)), .f (.lst [.int .i64, .int .i64, .int .i64] a2), .f (.lst [.int .i64, .int .i64, .int .i64] a3)], .agg [.f (.lit (.int .i64 a4)), .f (.lit (.int .i64 a5))]]
/-- - -/
noncomputable def Fn27 {R : Type} (m : Nat) : ByteArray → Int → Abs.Rows → Abs.Rows → Int → Int → (Abs.Rows → Int → Option R) → Option R := match m with
 | 0 => fun _ _ _ _ _ _ _ => none
 | m + 1 => fun s0 i1 r2 r3 i4 i5 k =>
 Fn23 m ([[F.lit (Value.string s0), F.lit (Value.int IntKind.i64 i1), F.lst [LT.int IntKind.i64, LT.int IntKind.i64, LT.int IntKind.i64] r2, F.lst [LT.int IntKind.i64, LT.int IntKind.i64, LT.int IntKind.i64] r3]]) (fun i6 => bif i6 != (0 : Int) then (k rows0 i6) else
 (Fn63 m i4 i5 (fun i7 => bif i7 != (0 : Int) then (k rows0 i7) else
 (Lp27_12 m (fun r8 b9 i10 => k r8 ((0 : Int))) s0 i1 r2 r3 i4 i5 m rows0 false i4))))
noncomputable def brFn27 (m : Nat) (T : Tbl) (R : Type) (vs : List V) (k : V → List V → Option R) : Option R := match vs with
 | [.agg [.f (.lit (.string s0)), .f (.lit (.int .i64 i1)), .f (.lst [.int .i64, .int .i64, .int .i64] r2), .f (.lst [.int .i64, .int .i64, .int .i64] r3)], .agg [.f (.lit (.int .i64 i4)), .f (.lit (.int .i64 i5))]] => Fn27 m s0 i1 r2 r3 i4 i5 (fun r11 i12 => k (V.tup (W41 r11 i12)) W1)
 | _ => T R 27 vs k
set_option maxRecDepth 100000 in
theorem evFn27 (m : Nat) (R : Type) (s0 : ByteArray) (i1 : Int) (r2 r3 : Abs.Rows) (i4 i5 : Int) (k : V → List V → Option R) : runK Tryd.prog H (T27 m) (L19 m) 27 (W42 s0 i1 r2 r3 i4 i5) k = Fn27 (m + 1) s0 i1 r2 r3 i4 i5 (fun r11 i12 => k (V.tup (W41 r11 i12)) W1) := by kernel_rfl
noncomputable def T28 (m : Nat) : Tbl := addT 27 (brFn27 m (T27 m)) (T27 m)
theorem okT28 (m : Nat) : TblOk Tryd.prog (T28 m) := addT_ok (okT27 m) fun R vs k x h => by
 unfold brFn27 at h
 split at h
 ·cases m with
  | zero => cases h
  | succ m => exact runK_some (okT27 m) hM (okL19 m) ((evFn27 m R _ _ _ _ _ _ k).trans h)
 ·exact okT27 m R 27 _ k x h

/-- - -/
noncomputable def Fn65 {R : Type} (m : Nat) : Int → (Bool → Option R) → Option R := match m with
 | 0 => fun _ _ => none
 | m + 1 => fun i0 k =>
 Fn48 m i0 ((0 : Int)) ((345686399999 : Int)) (fun b1 => k b1)
noncomputable def brFn65 (m : Nat) (T : Tbl) (R : Type) (vs : List V) (k : V → List V → Option R) : Option R := match vs with
 | [.f (.lit (.int .i64 i0))] => Fn65 m i0 (fun b2 => k (V.f (F.lit (Value.bool b2))) W14)
 | _ => T R 65 vs k
set_option maxRecDepth 100000 in
theorem evFn65 (m : Nat) (R : Type) (i0 : Int) (k : V → List V → Option R) : runK Tryd.prog H (T28 m) (L19 m) 65 (W33 i0) k = Fn65 (m + 1) i0 (fun b2 => k (V.f (F.lit (Value.bool b2))) W14) := by kernel_rfl
noncomputable def T29 (m : Nat) : Tbl := addT 65 (brFn65 m (T28 m)) (T28 m)
theorem okT29 (m : Nat) : TblOk Tryd.prog (T29 m) := addT_ok (okT28 m) fun R vs k x h => by
 unfold brFn65 at h
 split at h
 ·cases m with
  | zero => cases h
  | succ m => exact runK_some (okT28 m) hM (okL19 m) ((evFn65 m R _ k).trans h)
 ·exact okT28 m R 65 _ k x h

/-- - -/
noncomputable def Fn64 {R : Type} (m : Nat) : Bool → Int → (Int → Option R) → Option R := match m with
 | 0 => fun _ _ _ => none
 | m + 1 => fun b0 i1 k =>
 bif b0 then (k i1) else
 (k ((0 : Int)))
noncomputable def brFn64 (m : Nat) (T : Tbl) (R : Type) (vs : List V) (k : V → List V → Option R) : Option R := match vs with
 | [.f (.lit (.bool b0)), .f (.lit (.int .i64 i1))] => Fn64 m b0 i1 (fun i2 => k (V.f (F.lit (Value.int IntKind.i64 i2))) W1)
 | _ => T R 64 vs k
set_option maxRecDepth 100000 in
theorem evFn64 (m : Nat) (R : Type) (b0 : Bool) (i1 : Int) (k : V → List V → Option R) : runK Tryd.prog H (T29 m) (L19 m) 64 (W37 b0 i1) k = Fn64 (m + 1) b0 i1 (fun i2 => k (V.f (F.lit (Value.int IntKind.i64 i2))) W1) := by kernel_rfl
noncomputable def T30 (m : Nat) : Tbl := addT 64 (brFn64 m (T29 m)) (T29 m)
theorem okT30 (m : Nat) : TblOk Tryd.prog (T30 m) := addT_ok (okT29 m) fun R vs k x h => by
 unfold brFn64 at h
 split at h
 ·cases m with
  | zero => cases h
  | succ m => exact runK_some (okT29 m) hM (okL19 m) ((evFn64 m R _ _ k).trans h)
 ·exact okT29 m R 64 _ k x h

/-- - -/
noncomputable def Fn28 {R : Type} (m : Nat) : Int → (Int → Option R) → Option R := match m with
 | 0 => fun _ _ => none
 | m + 1 => fun i0 k =>
 Fn65 m i0 (fun b1 => Fn64 m (!b1) ((1 : Int)) (fun i2 => k i2))
noncomputable def brFn28 (m : Nat) (T : Tbl) (R : Type) (vs : List V) (k : V → List V → Option R) : Option R := match vs with
 | [.f (.lit (.int .i64 i0))] => Fn28 m i0 (fun i3 => k (V.f (F.lit (Value.int IntKind.i64 i3))) W14)
 | _ => T R 28 vs k
set_option maxRecDepth 100000 in
theorem evFn28 (m : Nat) (R : Type) (i0 : Int) (k : V → List V → Option R) : runK Tryd.prog H (T30 m) (L19 m) 28 (W33 i0) k = Fn28 (m + 1) i0 (fun i3 => k (V.f (F.lit (Value.int IntKind.i64 i3))) W14) := by kernel_rfl
noncomputable def T31 (m : Nat) : Tbl := addT 28 (brFn28 m (T30 m)) (T30 m)
theorem okT31 (m : Nat) : TblOk Tryd.prog (T31 m) := addT_ok (okT30 m) fun R vs k x h => by
 unfold brFn28 at h
 split at h
 ·cases m with
  | zero => cases h
  | succ m => exact runK_some (okT30 m) hM (okL19 m) ((evFn28 m R _ k).trans h)
 ·exact okT30 m R 28 _ k x h

abbrev W43 (a0 : Abs.Rows) (a1 : Int) (a2 : Abs.Rows) (a3 a4 : Int) : List V := [.bor [.int .i64] a0, .f (.lit (.int .i64 a1)), .bor [.int .i64] a2, .f (.lit (.int .i64 a3)), .f (.lit (.int .i64 a4)), .undef]
/-- - -/
noncomputable def Lp10_2_step {R : Type} (m : Nat) (kx0 : Int → Int → Option R) (kx1 : Int → Option R) (r0 : Abs.Rows) (i1 : Int) (r2 : Abs.Rows) (i3 : Int) (REC : Int → Option R) (i4 : Int) : Option R :=
 bif decide (i4 < i3) then (bif decide ((0 : Int) ≤ i4 ∧ i4 < (↑(List.length r2) : Int)) then (bif fI r2 (Int.toNat i4) (0 : Nat) != (0 : Int) then (kx0 (fI r2 (Int.toNat i4) (0 : Nat)) i4) else
 (REC (IntKind.wrap IntKind.i64 (i4 + (1 : Int))))) else
 (none)) else
 (kx1 i4)
noncomputable def Lp10_2 {R : Type} (m : Nat) (kx0 : Int → Int → Option R) (kx1 : Int → Option R) (r0 : Abs.Rows) (i1 : Int) (r2 : Abs.Rows) (i3 : Int) : Nat → Int → Option R
 | 0, _ => none
 | n + 1, i4 => Lp10_2_step m kx0 kx1 r0 i1 r2 i3 (Lp10_2 m kx0 kx1 r0 i1 r2 i3 n) i4
noncomputable def ELp10_2 (m : Nat) (R : Type) : Nat → List V → (Ex → List V → Option R) → Option R
 | 0, _, _ => none
 | n + 1, vs, k => match vs with
  | [.bor [.int .i64] r0, .f (.lit (.int .i64 i1)), .bor [.int .i64] r2, .f (.lit (.int .i64 i3)), .f (.lit (.int .i64 i4)), .undef] => Lp10_2_step m (fun i5 i6 => k Ex.ret (W43 r0 i5 r2 i3 i6)) (fun i7 => k (Ex.exit (0 : Nat)) (W43 r0 i1 r2 i3 i7)) r0 i1 r2 i3 (fun i4 => ELp10_2 m R n (W43 r0 i1 r2 i3 i4) k) i4
  | _ => none
noncomputable def brLp10_2 (m : Nat) (L : LTbl) (R : Type) (vs : List V) (k : Ex → List V → Option R) : Option R := match vs with
 | [.bor [.int .i64] r0, .f (.lit (.int .i64 i1)), .bor [.int .i64] r2, .f (.lit (.int .i64 i3)), .f (.lit (.int .i64 i4)), .undef] => Lp10_2 m (fun i5 i6 => k Ex.ret (W43 r0 i5 r2 i3 i6)) (fun i7 => k (Ex.exit (0 : Nat)) (W43 r0 i1 r2 i3 i7)) r0 i1 r2 i3 m i4
 | _ => L R 10 2 vs k
set_option maxRecDepth 100000 in
theorem stLp10_2 (m n : Nat) (R : Type) (r0 : Abs.Rows) (i1 : Int) (r2 : Abs.Rows) (i3 i4 : Int) (k : Ex → List V → Option R) : codeK Tryd.prog H (T31 m) 10 (L19 m) 3 (loopBody Tryd.prog 10 2) (mkEnv [0, 2, 5, 6, 7, 15] (W43 r0 i1 r2 i3 i4) 0 (H.len 10)) (fun e env' => match e with | .normal => ELp10_2 m R n (vals [0, 2, 5, 6, 7, 15] env') k | e => k e (vals [0, 2, 5, 6, 7, 15] env')) = Lp10_2_step m (fun i5 i6 => k Ex.ret (W43 r0 i5 r2 i3 i6)) (fun i7 => k (Ex.exit (0 : Nat)) (W43 r0 i1 r2 i3 i7)) r0 i1 r2 i3 (fun i4 => ELp10_2 m R n (W43 r0 i1 r2 i3 i4) k) i4 := by kernel_rfl
theorem eqLp10_2 (m : Nat) (R : Type) (r0 : Abs.Rows) (i1 : Int) (r2 : Abs.Rows) (i3 : Int) (k : Ex → List V → Option R) : ∀ (n : Nat) (i4 : Int), ELp10_2 m R n (W43 r0 i1 r2 i3 i4) k = Lp10_2 m (fun i5 i6 => k Ex.ret (W43 r0 i5 r2 i3 i6)) (fun i7 => k (Ex.exit (0 : Nat)) (W43 r0 i1 r2 i3 i7)) r0 i1 r2 i3 n i4
 | 0, _ => rfl
 | n + 1, i4 => by
  simp only [ELp10_2, Lp10_2, W43]
  congr 1
  funext i4
  exact eqLp10_2 m R r0 i1 r2 i3 k n i4
noncomputable def L20 (m : Nat) : LTbl := addB 10 2 (brLp10_2 m (L19 m)) (L19 m)
theorem okL20 (m : Nat) : LTOk Tryd.prog H (L20 m) := addB_ok (okT31 m) hM (okL19 m) (l := [0, 2, 5, 6, 7, 15]) (by kernel_rfl) (by kernel_rfl) m (fun R n vs k => ELp10_2 m R n vs k) (fun R vs k => rfl) (fun R n vs k x h => by
   simp only [ELp10_2] at h
   split at h
   ·exact (stLp10_2 m n R _ _ _ _ _ k).trans h
   ·cases h) fun R vs k x h => by
  unfold brLp10_2 at h
  split at h
  ·exact .inl ((eqLp10_2 m R _ _ _ _ k m _).trans h)
  ·exact .inr h

abbrev W44 (a0 : Abs.Rows) : List V := [.bor [.int .i64] a0]
/-- - -/
noncomputable def Fn10 {R : Type} (m : Nat) : Abs.Rows → (Int → Option R) → Option R := match m with
 | 0 => fun _ _ => none
 | m + 1 => fun r0 k =>
 Lp10_2 m (fun i1 i2 => k i1) (fun i3 => k ((0 : Int))) r0 ((0 : Int)) r0 ((↑(List.length r0) : Int)) m ((0 : Int))
noncomputable def brFn10 (m : Nat) (T : Tbl) (R : Type) (vs : List V) (k : V → List V → Option R) : Option R := match vs with
 | [.bor [.int .i64] r0] => Fn10 m r0 (fun i4 => k (V.f (F.lit (Value.int IntKind.i64 i4))) W14)
 | _ => T R 10 vs k
set_option maxRecDepth 100000 in
theorem evFn10 (m : Nat) (R : Type) (r0 : Abs.Rows) (k : V → List V → Option R) : runK Tryd.prog H (T31 m) (L20 m) 10 (W44 r0) k = Fn10 (m + 1) r0 (fun i4 => k (V.f (F.lit (Value.int IntKind.i64 i4))) W14) := by kernel_rfl
noncomputable def T32 (m : Nat) : Tbl := addT 10 (brFn10 m (T31 m)) (T31 m)
theorem okT32 (m : Nat) : TblOk Tryd.prog (T32 m) := addT_ok (okT31 m) fun R vs k x h => by
 unfold brFn10 at h
 split at h
 ·cases m with
  | zero => cases h
  | succ m => exact runK_some (okT31 m) hM (okL20 m) ((evFn10 m R _ k).trans h)
 ·exact okT31 m R 10 _ k x h

abbrev W45 (a0 a1 a2 a3 : Int) : List V := [.f (.lit (.int .i64 a0)), .obj [.f (.lit (.int .i64 a1)), .f (.lit (.int .i64 a2))], .f (.lit (.int .i64 a3)), .undef, .undef]
/-- - -/
noncomputable def Jn29_3 {R : Type} (m : Nat) (kx0 : Int → Option R) (i0 i1 i2 i3 : Int) : Option R :=
 bif decide (IntKind.wrap IntKind.i64 (i2 - i1) > IntKind.wrap IntKind.i64 (i0 * (86400000 : Int))) then (kx0 ((2 : Int))) else
 (kx0 ((0 : Int)))
noncomputable def brJn29_3 (m : Nat) (L : LTbl) (R : Type) (vs : List V) (k : Ex → List V → Option R) : Option R := match vs with
 | [.f (.lit (.int .i64 i0)), .obj [.f (.lit (.int .i64 i1)), .f (.lit (.int .i64 i2))], .f (.lit (.int .i64 i3)), .undef, .undef] => Jn29_3 m (fun i4 => k Ex.ret (W45 i0 i1 i2 i4)) i0 i1 i2 i3
 | _ => L R 29 3 vs k
set_option maxRecDepth 100000 in
theorem evJn29_3 (m : Nat) (R : Type) (i0 i1 i2 i3 : Int) (k : Ex → List V → Option R) : codeK Tryd.prog H (T32 m) 29 (L20 m) 4 (loopBody Tryd.prog 29 3) (mkEnv [1, 2, 4, 24, 25] (W45 i0 i1 i2 i3) 0 (H.len 29)) (fun e env' => k e (vals [1, 2, 4, 24, 25] env')) = Jn29_3 m (fun i4 => k Ex.ret (W45 i0 i1 i2 i4)) i0 i1 i2 i3 := by kernel_rfl
noncomputable def L21 (m : Nat) : LTbl := addJ 29 3 (brJn29_3 m (L20 m)) (L20 m)
theorem okL21 (m : Nat) : LTOk Tryd.prog H (L21 m) := addJ_ok (okT32 m) hM (okL20 m) (l := [1, 2, 4, 24, 25]) (by kernel_rfl) (by kernel_rfl) fun R vs k x h => by
  unfold brJn29_3 at h
  split at h
  ·exact .inl ((evJn29_3 m R _ _ _ _ k).trans h)
  ·exact .inr h

abbrev W46 (a0 a1 a2 : Int) : List V := [.agg [.f (.lit (.int .i64 a0)), .f (.lit (.int .i64 a1))], .f (.lit (.int .i64 a2))]
/-- - -/
noncomputable def Fn29 {R : Type} (m : Nat) : Int → Int → Int → (Int → Option R) → Option R := match m with
 | 0 => fun _ _ _ _ => none
 | m + 1 => fun i0 i1 i2 k =>
 Fn48 m i0 ((0 : Int)) i1 (fun b3 => bif !b3 then (k ((1 : Int))) else
 (bif decide (i1 > (345686400000 : Int)) then (k ((1 : Int))) else
 (Jn29_3 m (fun i4 => k i4) i2 i0 i1 ((0 : Int)))))
noncomputable def brFn29 (m : Nat) (T : Tbl) (R : Type) (vs : List V) (k : V → List V → Option R) : Option R := match vs with
 | [.agg [.f (.lit (.int .i64 i0)), .f (.lit (.int .i64 i1))], .f (.lit (.int .i64 i2))] => Fn29 m i0 i1 i2 (fun i5 => k (V.f (F.lit (Value.int IntKind.i64 i5))) W1)
 | _ => T R 29 vs k
set_option maxRecDepth 100000 in
theorem evFn29 (m : Nat) (R : Type) (i0 i1 i2 : Int) (k : V → List V → Option R) : runK Tryd.prog H (T32 m) (L21 m) 29 (W46 i0 i1 i2) k = Fn29 (m + 1) i0 i1 i2 (fun i5 => k (V.f (F.lit (Value.int IntKind.i64 i5))) W1) := by kernel_rfl
noncomputable def T33 (m : Nat) : Tbl := addT 29 (brFn29 m (T32 m)) (T32 m)
theorem okT33 (m : Nat) : TblOk Tryd.prog (T33 m) := addT_ok (okT32 m) fun R vs k x h => by
 unfold brFn29 at h
 split at h
 ·cases m with
  | zero => cases h
  | succ m => exact runK_some (okT32 m) hM (okL21 m) ((evFn29 m R _ _ _ k).trans h)
 ·exact okT32 m R 29 _ k x h

/-- - -/
noncomputable def Fn69 {R : Type} (m : Nat) : Int → Int → (Int → Option R) → Option R := match m with
 | 0 => fun _ _ _ => none
 | m + 1 => fun i0 i1 k =>
 bif decide (i1 ≠ (0 : Int)) then (bif decide (Int.tmod i0 i1 < (0 : Int)) then (bif decide (i1 ≠ (0 : Int)) then (k (IntKind.wrap IntKind.i64 (IntKind.wrap IntKind.i64 (Int.tdiv i0 i1) - (1 : Int)))) else
 (none)) else
 (bif decide (i1 ≠ (0 : Int)) then (k (IntKind.wrap IntKind.i64 (Int.tdiv i0 i1))) else
 (none))) else
 (none)
noncomputable def brFn69 (m : Nat) (T : Tbl) (R : Type) (vs : List V) (k : V → List V → Option R) : Option R := match vs with
 | [.f (.lit (.int .i64 i0)), .f (.lit (.int .i64 i1))] => Fn69 m i0 i1 (fun i2 => k (V.f (F.lit (Value.int IntKind.i64 i2))) W1)
 | _ => T R 69 vs k
set_option maxRecDepth 100000 in
theorem evFn69 (m : Nat) (R : Type) (i0 i1 : Int) (k : V → List V → Option R) : runK Tryd.prog H (T33 m) (L21 m) 69 (W2 i0 i1) k = Fn69 (m + 1) i0 i1 (fun i2 => k (V.f (F.lit (Value.int IntKind.i64 i2))) W1) := by kernel_rfl
noncomputable def T34 (m : Nat) : Tbl := addT 69 (brFn69 m (T33 m)) (T33 m)
theorem okT34 (m : Nat) : TblOk Tryd.prog (T34 m) := addT_ok (okT33 m) fun R vs k x h => by
 unfold brFn69 at h
 split at h
 ·cases m with
  | zero => cases h
  | succ m => exact runK_some (okT33 m) hM (okL21 m) ((evFn69 m R _ _ k).trans h)
 ·exact okT33 m R 69 _ k x h

/-- - -/
noncomputable def Fn68 {R : Type} (m : Nat) : Int → Int → (Int → Int → Option R) → Option R := match m with
 | 0 => fun _ _ _ => none
 | m + 1 => fun i0 i1 k =>
 Fn69 m (IntKind.wrap IntKind.i64 (i1 + IntKind.wrap IntKind.i64 (i0 * (60000 : Int)))) ((86400000 : Int)) (fun i2 => k i2 (IntKind.wrap IntKind.i64 (Int.tdiv (IntKind.wrap IntKind.i64 (IntKind.wrap IntKind.i64 (i1 + IntKind.wrap IntKind.i64 (i0 * (60000 : Int))) - IntKind.wrap IntKind.i64 (i2 * (86400000 : Int)))) (60000 : Int))))
noncomputable def brFn68 (m : Nat) (T : Tbl) (R : Type) (vs : List V) (k : V → List V → Option R) : Option R := match vs with
 | [.f (.lit (.int .i64 i0)), .f (.lit (.int .i64 i1))] => Fn68 m i0 i1 (fun i3 i4 => k (V.tup (W2 i3 i4)) W1)
 | _ => T R 68 vs k
set_option maxRecDepth 100000 in
theorem evFn68 (m : Nat) (R : Type) (i0 i1 : Int) (k : V → List V → Option R) : runK Tryd.prog H (T34 m) (L21 m) 68 (W2 i0 i1) k = Fn68 (m + 1) i0 i1 (fun i3 i4 => k (V.tup (W2 i3 i4)) W1) := by kernel_rfl
noncomputable def T35 (m : Nat) : Tbl := addT 68 (brFn68 m (T34 m)) (T34 m)
theorem okT35 (m : Nat) : TblOk Tryd.prog (T35 m) := addT_ok (okT34 m) fun R vs k x h => by
 unfold brFn68 at h
 split at h
 ·cases m with
  | zero => cases h
  | succ m => exact runK_some (okT34 m) hM (okL21 m) ((evFn68 m R _ _ k).trans h)
 ·exact okT34 m R 68 _ k x h

abbrev W47 (a0 : ByteArray) (a1 : Int) (a2 a3 : Abs.Rows) (a4 : Bool) (a5 a6 : Int) (a7 : Abs.Rows) (a8 a9 : Int) : List V := [.obj [.f (.lit (.string a0)), .f (.lit (.int .i64 a1)), .f (.lst [.int .i64, .int .i64, .int .i64] a2), .f (.lst [.int .i64, .int .i64, .int .i64] a3)], .f (.lit (.bool a4)), .f (.lit (.int .i64 a5)), .obj [.f (.lit (.int .i64 a6))], .ref 2 3, .f (.lst [.int .i64, .int .i64, .int .i64] a7), .f (.lit (.int .i64 a8)), .f (.lit (.int .i64 a9)), .undef, .undef]
/-- - -/
noncomputable def Lp31_3_step {R : Type} (m : Nat) (kx0 : Bool → Int → Option R) (kx1 : Int → Option R) (s0 : ByteArray) (i1 : Int) (r2 r3 : Abs.Rows) (b4 : Bool) (i5 i6 : Int) (r7 : Abs.Rows) (i8 : Int) (REC : Int → Option R) (i9 : Int) : Option R :=
 bif decide (i9 < i8) then (bif decide ((0 : Int) ≤ i9 ∧ i9 < (↑(List.length r7) : Int)) then (bif fI r7 (Int.toNat i9) (0 : Nat) == i5 then (Fn48 m i6 (fI r7 (Int.toNat i9) (1 : Nat)) (IntKind.wrap IntKind.i64 (fI r7 (Int.toNat i9) (2 : Nat) - (1 : Int))) (fun b10 => kx0 b10 i9)) else
 (REC (IntKind.wrap IntKind.i64 (i9 + (1 : Int))))) else
 (none)) else
 (kx1 i9)
noncomputable def Lp31_3 {R : Type} (m : Nat) (kx0 : Bool → Int → Option R) (kx1 : Int → Option R) (s0 : ByteArray) (i1 : Int) (r2 r3 : Abs.Rows) (b4 : Bool) (i5 i6 : Int) (r7 : Abs.Rows) (i8 : Int) : Nat → Int → Option R
 | 0, _ => none
 | n + 1, i9 => Lp31_3_step m kx0 kx1 s0 i1 r2 r3 b4 i5 i6 r7 i8 (Lp31_3 m kx0 kx1 s0 i1 r2 r3 b4 i5 i6 r7 i8 n) i9
noncomputable def ELp31_3 (m : Nat) (R : Type) : Nat → List V → (Ex → List V → Option R) → Option R
 | 0, _, _ => none
 | n + 1, vs, k => match vs with
  | [.obj [.f (.lit (.string s0)), .f (.lit (.int .i64 i1)), .f (.lst [.int .i64, .int .i64, .int .i64] r2), .f (.lst [.int .i64, .int .i64, .int .i64] r3)], .f (.lit (.bool b4)), .f (.lit (.int .i64 i5)), .obj [.f (.lit (.int .i64 i6))], .ref 2 3, .f (.lst [.int .i64, .int .i64, .int .i64] r7), .f (.lit (.int .i64 i8)), .f (.lit (.int .i64 i9)), .undef, .undef] => Lp31_3_step m (fun b11 i12 => k Ex.ret (W47 s0 i1 r2 r3 b11 i5 i6 r7 i8 i12)) (fun i13 => k (Ex.exit (0 : Nat)) (W47 s0 i1 r2 r3 b4 i5 i6 r7 i8 i13)) s0 i1 r2 r3 b4 i5 i6 r7 i8 (fun i9 => ELp31_3 m R n (W47 s0 i1 r2 r3 b4 i5 i6 r7 i8 i9) k) i9
  | _ => none
noncomputable def brLp31_3 (m : Nat) (L : LTbl) (R : Type) (vs : List V) (k : Ex → List V → Option R) : Option R := match vs with
 | [.obj [.f (.lit (.string s0)), .f (.lit (.int .i64 i1)), .f (.lst [.int .i64, .int .i64, .int .i64] r2), .f (.lst [.int .i64, .int .i64, .int .i64] r3)], .f (.lit (.bool b4)), .f (.lit (.int .i64 i5)), .obj [.f (.lit (.int .i64 i6))], .ref 2 3, .f (.lst [.int .i64, .int .i64, .int .i64] r7), .f (.lit (.int .i64 i8)), .f (.lit (.int .i64 i9)), .undef, .undef] => Lp31_3 m (fun b11 i12 => k Ex.ret (W47 s0 i1 r2 r3 b11 i5 i6 r7 i8 i12)) (fun i13 => k (Ex.exit (0 : Nat)) (W47 s0 i1 r2 r3 b4 i5 i6 r7 i8 i13)) s0 i1 r2 r3 b4 i5 i6 r7 i8 m i9
 | _ => L R 31 3 vs k
set_option maxRecDepth 100000 in
theorem stLp31_3 (m n : Nat) (R : Type) (s0 : ByteArray) (i1 : Int) (r2 r3 : Abs.Rows) (b4 : Bool) (i5 i6 : Int) (r7 : Abs.Rows) (i8 i9 : Int) (k : Ex → List V → Option R) : codeK Tryd.prog H (T35 m) 31 (L21 m) 4 (loopBody Tryd.prog 31 3) (mkEnv [2, 4, 5, 6, 17, 18, 19, 20, 45, 46] (W47 s0 i1 r2 r3 b4 i5 i6 r7 i8 i9) 0 (H.len 31)) (fun e env' => match e with | .normal => ELp31_3 m R n (vals [2, 4, 5, 6, 17, 18, 19, 20, 45, 46] env') k | e => k e (vals [2, 4, 5, 6, 17, 18, 19, 20, 45, 46] env')) = Lp31_3_step m (fun b11 i12 => k Ex.ret (W47 s0 i1 r2 r3 b11 i5 i6 r7 i8 i12)) (fun i13 => k (Ex.exit (0 : Nat)) (W47 s0 i1 r2 r3 b4 i5 i6 r7 i8 i13)) s0 i1 r2 r3 b4 i5 i6 r7 i8 (fun i9 => ELp31_3 m R n (W47 s0 i1 r2 r3 b4 i5 i6 r7 i8 i9) k) i9 := by kernel_rfl
theorem eqLp31_3 (m : Nat) (R : Type) (s0 : ByteArray) (i1 : Int) (r2 r3 : Abs.Rows) (b4 : Bool) (i5 i6 : Int) (r7 : Abs.Rows) (i8 : Int) (k : Ex → List V → Option R) : ∀ (n : Nat) (i9 : Int), ELp31_3 m R n (W47 s0 i1 r2 r3 b4 i5 i6 r7 i8 i9) k = Lp31_3 m (fun b11 i12 => k Ex.ret (W47 s0 i1 r2 r3 b11 i5 i6 r7 i8 i12)) (fun i13 => k (Ex.exit (0 : Nat)) (W47 s0 i1 r2 r3 b4 i5 i6 r7 i8 i13)) s0 i1 r2 r3 b4 i5 i6 r7 i8 n i9
 | 0, _ => rfl
 | n + 1, i9 => by
  simp only [ELp31_3, Lp31_3, W47]
  congr 1
  funext i9
  exact eqLp31_3 m R s0 i1 r2 r3 b4 i5 i6 r7 i8 k n i9
noncomputable def L22 (m : Nat) : LTbl := addB 31 3 (brLp31_3 m (L21 m)) (L21 m)
theorem okL22 (m : Nat) : LTOk Tryd.prog H (L22 m) := addB_ok (okT35 m) hM (okL21 m) (l := [2, 4, 5, 6, 17, 18, 19, 20, 45, 46]) (by kernel_rfl) (by kernel_rfl) m (fun R n vs k => ELp31_3 m R n vs k) (fun R vs k => rfl) (fun R n vs k x h => by
   simp only [ELp31_3] at h
   split at h
   ·exact (stLp31_3 m n R _ _ _ _ _ _ _ _ _ _ k).trans h
   ·cases h) fun R vs k x h => by
  unfold brLp31_3 at h
  split at h
  ·exact .inl ((eqLp31_3 m R _ _ _ _ _ _ _ _ _ k m _).trans h)
  ·exact .inr h

abbrev W48 (a0 a1 a2 : Int) (a3 a4 : Abs.Rows) : List V := [.agg [.f (.lit (.int .i64 a0)), .f (.lit (.int .i64 a1)), .f (.lit (.int .i64 a2))], .iref [.int .i64] a3 0 0, .iref [.int .i64] a4 0 0]
/-- - -/
noncomputable def Fn71 {R : Type} (m : Nat) : Int → Int → Int → Int → Int → (Bool → Option R) → Option R := match m with
 | 0 => fun _ _ _ _ _ _ => none
 | m + 1 => fun i0 i1 i2 i3 i4 k =>
 bif decide ((0 : Int) ≤ i3) then (bif bitsOp IntKind.i64 (BitVec.ofInt (64 : Nat) (Int.fdiv i0 ((2 : Int) ^ min (Int.toNat i3) (64 : Nat))) &&& BitVec.ofInt (64 : Nat) (1 : Int)) == (1 : Int) then (Fn48 m i4 i1 (IntKind.wrap IntKind.i64 (i2 - (1 : Int))) (fun b5 => k b5)) else
 (k false)) else
 (none)
noncomputable def brFn71 (m : Nat) (T : Tbl) (R : Type) (vs : List V) (k : V → List V → Option R) : Option R := match vs with
 | [.agg [.f (.lit (.int .i64 i0)), .f (.lit (.int .i64 i1)), .f (.lit (.int .i64 i2))], .iref [.int .i64] [[F.lit (Value.int IntKind.i64 i3)]] 0 0, .iref [.int .i64] [[F.lit (Value.int IntKind.i64 i4)]] 0 0] => Fn71 m i0 i1 i2 i3 i4 (fun b6 => k (V.f (F.lit (Value.bool b6))) W16)
 | _ => T R 71 vs k
set_option maxRecDepth 100000 in
theorem evFn71 (m : Nat) (R : Type) (i0 i1 i2 i3 i4 : Int) (k : V → List V → Option R) : runK Tryd.prog H (T35 m) (L22 m) 71 (W48 i0 i1 i2 [[F.lit (Value.int IntKind.i64 i3)]] [[F.lit (Value.int IntKind.i64 i4)]]) k = Fn71 (m + 1) i0 i1 i2 i3 i4 (fun b6 => k (V.f (F.lit (Value.bool b6))) W16) := by kernel_rfl
noncomputable def T36 (m : Nat) : Tbl := addT 71 (brFn71 m (T35 m)) (T35 m)
theorem okT36 (m : Nat) : TblOk Tryd.prog (T36 m) := addT_ok (okT35 m) fun R vs k x h => by
 unfold brFn71 at h
 split at h
 ·cases m with
  | zero => cases h
  | succ m => exact runK_some (okT35 m) hM (okL22 m) ((evFn71 m R _ _ _ _ _ k).trans h)
 ·exact okT35 m R 71 _ k x h

abbrev W49 (a0 a1 a2 : Abs.Rows) (a3 a4 a5 : Int) : List V := [.f (.lst [.int .i64, .int .i64, .int .i64] a0), .clos 71 [.iref [.int .i64] a1 0 0, .iref [.int .i64] a2 0 0], .f (.lit (.int .i64 a3)), .f (.lit (.int .i64 a4)), .f (.lit (.int .i64 a5)), .undef, .undef]
/-- - -/
noncomputable def Lp94_2_step {R : Type} (m : Nat) (kx0 : Int → Int → Option R) (kx1 : Int → Option R) (r0 : Abs.Rows) (i1 i2 i3 i4 : Int) (REC : Int → Option R) (i5 : Int) : Option R :=
 bif decide (i5 < i4) then (bif decide ((0 : Int) ≤ i5 ∧ i5 < (↑(List.length r0) : Int)) then (Fn71 m (fI r0 (Int.toNat i5) (0 : Nat)) (fI r0 (Int.toNat i5) (1 : Nat)) (fI r0 (Int.toNat i5) (2 : Nat)) i1 i2 (fun b6 => bif b6 then (kx0 i5 i5) else
 (REC (IntKind.wrap IntKind.i64 (i5 + (1 : Int)))))) else
 (none)) else
 (kx1 i5)
noncomputable def Lp94_2 {R : Type} (m : Nat) (kx0 : Int → Int → Option R) (kx1 : Int → Option R) (r0 : Abs.Rows) (i1 i2 i3 i4 : Int) : Nat → Int → Option R
 | 0, _ => none
 | n + 1, i5 => Lp94_2_step m kx0 kx1 r0 i1 i2 i3 i4 (Lp94_2 m kx0 kx1 r0 i1 i2 i3 i4 n) i5
noncomputable def ELp94_2 (m : Nat) (R : Type) : Nat → List V → (Ex → List V → Option R) → Option R
 | 0, _, _ => none
 | n + 1, vs, k => match vs with
  | [.f (.lst [.int .i64, .int .i64, .int .i64] r0), .clos 71 [.iref [.int .i64] [[F.lit (Value.int IntKind.i64 i1)]] 0 0, .iref [.int .i64] [[F.lit (Value.int IntKind.i64 i2)]] 0 0], .f (.lit (.int .i64 i3)), .f (.lit (.int .i64 i4)), .f (.lit (.int .i64 i5)), .undef, .undef] => Lp94_2_step m (fun i7 i8 => k Ex.ret (W49 r0 [[F.lit (Value.int IntKind.i64 i1)]] [[F.lit (Value.int IntKind.i64 i2)]] i7 i4 i8)) (fun i9 => k (Ex.exit (0 : Nat)) (W49 r0 [[F.lit (Value.int IntKind.i64 i1)]] [[F.lit (Value.int IntKind.i64 i2)]] i3 i4 i9)) r0 i1 i2 i3 i4 (fun i5 => ELp94_2 m R n (W49 r0 [[F.lit (Value.int IntKind.i64 i1)]] [[F.lit (Value.int IntKind.i64 i2)]] i3 i4 i5) k) i5
  | _ => none
noncomputable def brLp94_2 (m : Nat) (L : LTbl) (R : Type) (vs : List V) (k : Ex → List V → Option R) : Option R := match vs with
 | [.f (.lst [.int .i64, .int .i64, .int .i64] r0), .clos 71 [.iref [.int .i64] [[F.lit (Value.int IntKind.i64 i1)]] 0 0, .iref [.int .i64] [[F.lit (Value.int IntKind.i64 i2)]] 0 0], .f (.lit (.int .i64 i3)), .f (.lit (.int .i64 i4)), .f (.lit (.int .i64 i5)), .undef, .undef] => Lp94_2 m (fun i7 i8 => k Ex.ret (W49 r0 [[F.lit (Value.int IntKind.i64 i1)]] [[F.lit (Value.int IntKind.i64 i2)]] i7 i4 i8)) (fun i9 => k (Ex.exit (0 : Nat)) (W49 r0 [[F.lit (Value.int IntKind.i64 i1)]] [[F.lit (Value.int IntKind.i64 i2)]] i3 i4 i9)) r0 i1 i2 i3 i4 m i5
 | _ => L R 94 2 vs k
set_option maxRecDepth 100000 in
theorem stLp94_2 (m n : Nat) (R : Type) (r0 : Abs.Rows) (i1 i2 i3 i4 i5 : Int) (k : Ex → List V → Option R) : codeK Tryd.prog H (T36 m) 94 (L22 m) 3 (loopBody Tryd.prog 94 2) (mkEnv [0, 1, 4, 7, 8, 19, 20] (W49 r0 [[F.lit (Value.int IntKind.i64 i1)]] [[F.lit (Value.int IntKind.i64 i2)]] i3 i4 i5) 0 (H.len 94)) (fun e env' => match e with | .normal => ELp94_2 m R n (vals [0, 1, 4, 7, 8, 19, 20] env') k | e => k e (vals [0, 1, 4, 7, 8, 19, 20] env')) = Lp94_2_step m (fun i7 i8 => k Ex.ret (W49 r0 [[F.lit (Value.int IntKind.i64 i1)]] [[F.lit (Value.int IntKind.i64 i2)]] i7 i4 i8)) (fun i9 => k (Ex.exit (0 : Nat)) (W49 r0 [[F.lit (Value.int IntKind.i64 i1)]] [[F.lit (Value.int IntKind.i64 i2)]] i3 i4 i9)) r0 i1 i2 i3 i4 (fun i5 => ELp94_2 m R n (W49 r0 [[F.lit (Value.int IntKind.i64 i1)]] [[F.lit (Value.int IntKind.i64 i2)]] i3 i4 i5) k) i5 := by kernel_rfl
theorem eqLp94_2 (m : Nat) (R : Type) (r0 : Abs.Rows) (i1 i2 i3 i4 : Int) (k : Ex → List V → Option R) : ∀ (n : Nat) (i5 : Int), ELp94_2 m R n (W49 r0 [[F.lit (Value.int IntKind.i64 i1)]] [[F.lit (Value.int IntKind.i64 i2)]] i3 i4 i5) k = Lp94_2 m (fun i7 i8 => k Ex.ret (W49 r0 [[F.lit (Value.int IntKind.i64 i1)]] [[F.lit (Value.int IntKind.i64 i2)]] i7 i4 i8)) (fun i9 => k (Ex.exit (0 : Nat)) (W49 r0 [[F.lit (Value.int IntKind.i64 i1)]] [[F.lit (Value.int IntKind.i64 i2)]] i3 i4 i9)) r0 i1 i2 i3 i4 n i5
 | 0, _ => rfl
 | n + 1, i5 => by
  simp only [ELp94_2, Lp94_2, W49]
  congr 1
  funext i5
  exact eqLp94_2 m R r0 i1 i2 i3 i4 k n i5
noncomputable def L23 (m : Nat) : LTbl := addB 94 2 (brLp94_2 m (L22 m)) (L22 m)
theorem okL23 (m : Nat) : LTOk Tryd.prog H (L23 m) := addB_ok (okT36 m) hM (okL22 m) (l := [0, 1, 4, 7, 8, 19, 20]) (by kernel_rfl) (by kernel_rfl) m (fun R n vs k => ELp94_2 m R n vs k) (fun R vs k => rfl) (fun R n vs k x h => by
   simp only [ELp94_2] at h
   split at h
   ·exact (stLp94_2 m n R _ _ _ _ _ _ k).trans h
   ·cases h) fun R vs k x h => by
  unfold brLp94_2 at h
  split at h
  ·exact .inl ((eqLp94_2 m R _ _ _ _ _ k m _).trans h)
  ·exact .inr h

abbrev W50 (a0 a1 a2 : Abs.Rows) : List V := [.f (.lst [.int .i64, .int .i64, .int .i64] a0), .clos 71 [.iref [.int .i64] a1 0 0, .iref [.int .i64] a2 0 0]]
/-- - -/
noncomputable def Fn94 {R : Type} (m : Nat) : Abs.Rows → Int → Int → (Int → Option R) → Option R := match m with
 | 0 => fun _ _ _ _ => none
 | m + 1 => fun r0 i1 i2 k =>
 Lp94_2 m (fun i3 i4 => k i3) (fun i5 => k ((-1 : Int))) r0 i1 i2 ((0 : Int)) ((↑(List.length r0) : Int)) m ((0 : Int))
noncomputable def brFn94 (m : Nat) (T : Tbl) (R : Type) (vs : List V) (k : V → List V → Option R) : Option R := match vs with
 | [.f (.lst [.int .i64, .int .i64, .int .i64] r0), .clos 71 [.iref [.int .i64] [[F.lit (Value.int IntKind.i64 i1)]] 0 0, .iref [.int .i64] [[F.lit (Value.int IntKind.i64 i2)]] 0 0]] => Fn94 m r0 i1 i2 (fun i6 => k (V.f (F.lit (Value.int IntKind.i64 i6))) W1)
 | _ => T R 94 vs k
set_option maxRecDepth 100000 in
theorem evFn94 (m : Nat) (R : Type) (r0 : Abs.Rows) (i1 i2 : Int) (k : V → List V → Option R) : runK Tryd.prog H (T36 m) (L23 m) 94 (W50 r0 [[F.lit (Value.int IntKind.i64 i1)]] [[F.lit (Value.int IntKind.i64 i2)]]) k = Fn94 (m + 1) r0 i1 i2 (fun i6 => k (V.f (F.lit (Value.int IntKind.i64 i6))) W1) := by kernel_rfl
noncomputable def T37 (m : Nat) : Tbl := addT 94 (brFn94 m (T36 m)) (T36 m)
theorem okT37 (m : Nat) : TblOk Tryd.prog (T37 m) := addT_ok (okT36 m) fun R vs k x h => by
 unfold brFn94 at h
 split at h
 ·cases m with
  | zero => cases h
  | succ m => exact runK_some (okT36 m) hM (okL23 m) ((evFn94 m R _ _ _ k).trans h)
 ·exact okT36 m R 94 _ k x h

/-- - -/
noncomputable def Fn70 {R : Type} (m : Nat) : Abs.Rows → Int → Int → (Bool → Option R) → Option R := match m with
 | 0 => fun _ _ _ _ => none
 | m + 1 => fun r0 i1 i2 k =>
 Fn94 m r0 i1 i2 (fun i3 => k (decide (i3 ≥ (0 : Int))))
noncomputable def brFn70 (m : Nat) (T : Tbl) (R : Type) (vs : List V) (k : V → List V → Option R) : Option R := match vs with
 | [.f (.lst [.int .i64, .int .i64, .int .i64] r0), .clos 71 [.iref [.int .i64] [[F.lit (Value.int IntKind.i64 i1)]] 0 0, .iref [.int .i64] [[F.lit (Value.int IntKind.i64 i2)]] 0 0]] => Fn70 m r0 i1 i2 (fun b4 => k (V.f (F.lit (Value.bool b4))) W1)
 | _ => T R 70 vs k
set_option maxRecDepth 100000 in
theorem evFn70 (m : Nat) (R : Type) (r0 : Abs.Rows) (i1 i2 : Int) (k : V → List V → Option R) : runK Tryd.prog H (T37 m) (L23 m) 70 (W50 r0 [[F.lit (Value.int IntKind.i64 i1)]] [[F.lit (Value.int IntKind.i64 i2)]]) k = Fn70 (m + 1) r0 i1 i2 (fun b4 => k (V.f (F.lit (Value.bool b4))) W1) := by kernel_rfl
noncomputable def T38 (m : Nat) : Tbl := addT 70 (brFn70 m (T37 m)) (T37 m)
theorem okT38 (m : Nat) : TblOk Tryd.prog (T38 m) := addT_ok (okT37 m) fun R vs k x h => by
 unfold brFn70 at h
 split at h
 ·cases m with
  | zero => cases h
  | succ m => exact runK_some (okT37 m) hM (okL23 m) ((evFn70 m R _ _ _ k).trans h)
 ·exact okT37 m R 70 _ k x h

/-- - -/
noncomputable def Fn31 {R : Type} (m : Nat) : ByteArray → Int → Abs.Rows → Abs.Rows → Int → (Bool → Option R) → Option R := match m with
 | 0 => fun _ _ _ _ _ _ => none
 | m + 1 => fun s0 i1 r2 r3 i4 k =>
 Fn68 m i1 i4 (fun i5 i6 => Lp31_3 m (fun b7 i8 => k b7) (fun i9 => Fn69 m i5 ((7 : Int)) (fun i10 => Fn70 m r2 (IntKind.wrap IntKind.i64 (i5 - IntKind.wrap IntKind.i64 ((7 : Int) * i10))) i6 (fun b11 => k b11))) s0 i1 r2 r3 false i5 i6 r3 ((↑(List.length r3) : Int)) m ((0 : Int)))
noncomputable def brFn31 (m : Nat) (T : Tbl) (R : Type) (vs : List V) (k : V → List V → Option R) : Option R := match vs with
 | [.agg [.f (.lit (.string s0)), .f (.lit (.int .i64 i1)), .f (.lst [.int .i64, .int .i64, .int .i64] r2), .f (.lst [.int .i64, .int .i64, .int .i64] r3)], .f (.lit (.int .i64 i4))] => Fn31 m s0 i1 r2 r3 i4 (fun b12 => k (V.f (F.lit (Value.bool b12))) W1)
 | _ => T R 31 vs k
set_option maxRecDepth 100000 in
theorem evFn31 (m : Nat) (R : Type) (s0 : ByteArray) (i1 : Int) (r2 r3 : Abs.Rows) (i4 : Int) (k : V → List V → Option R) : runK Tryd.prog H (T38 m) (L23 m) 31 (W36 s0 i1 r2 r3 i4) k = Fn31 (m + 1) s0 i1 r2 r3 i4 (fun b12 => k (V.f (F.lit (Value.bool b12))) W1) := by kernel_rfl
noncomputable def T39 (m : Nat) : Tbl := addT 31 (brFn31 m (T38 m)) (T38 m)
theorem okT39 (m : Nat) : TblOk Tryd.prog (T39 m) := addT_ok (okT38 m) fun R vs k x h => by
 unfold brFn31 at h
 split at h
 ·cases m with
  | zero => cases h
  | succ m => exact runK_some (okT38 m) hM (okL23 m) ((evFn31 m R _ _ _ _ _ k).trans h)
 ·exact okT38 m R 31 _ k x h

abbrev W51 (a0 : ByteArray) (a1 : Int) (a2 a3 : Abs.Rows) (a4 a5 : Int) (a6 a7 a8 : Abs.Rows) (a9 a10 : Int) : List V := [.obj [.f (.lit (.string a0)), .f (.lit (.int .i64 a1)), .f (.lst [.int .i64, .int .i64, .int .i64] a2), .f (.lst [.int .i64, .int .i64, .int .i64] a3)], .obj [.f (.lit (.int .i64 a4)), .f (.lit (.int .i64 a5))], .own [.int .i64] a6, .own [.int .i64] a7, .undef, .ref 2 2, .f (.lst [.int .i64, .int .i64, .int .i64] a8), .f (.lit (.int .i64 a9)), .f (.lit (.int .i64 a10)), .undef, .undef]
/-- - -/
noncomputable def Lp30_6_step {R : Type} (m : Nat) (kx0 : Abs.Rows → Int → Option R) (s0 : ByteArray) (i1 : Int) (r2 r3 : Abs.Rows) (i4 i5 : Int) (r6 r7 : Abs.Rows) (i8 : Int) (REC : Abs.Rows → Int → Option R) (r9 : Abs.Rows) (i10 : Int) : Option R :=
 bif decide (i10 < i8) then (bif decide ((0 : Int) ≤ i10 ∧ i10 < (↑(List.length r7) : Int)) then (bif decide (List.length r9 + List.length [[F.lit (Value.int IntKind.i64 (fI r7 (Int.toNat i10) (1 : Nat)))], [F.lit (Value.int IntKind.i64 (fI r7 (Int.toNat i10) (2 : Nat)))]] ≤ rowMax) then (letV (r9 ++ [[F.lit (Value.int IntKind.i64 (fI r7 (Int.toNat i10) (1 : Nat)))], [F.lit (Value.int IntKind.i64 (fI r7 (Int.toNat i10) (2 : Nat)))]]) (fun r11 => REC r11 (IntKind.wrap IntKind.i64 (i10 + (1 : Int))))) else
 (none)) else
 (none)) else
 (kx0 r9 i10)
noncomputable def Lp30_6 {R : Type} (m : Nat) (kx0 : Abs.Rows → Int → Option R) (s0 : ByteArray) (i1 : Int) (r2 r3 : Abs.Rows) (i4 i5 : Int) (r6 r7 : Abs.Rows) (i8 : Int) : Nat → Abs.Rows → Int → Option R
 | 0, _, _ => none
 | n + 1, r9, i10 => Lp30_6_step m kx0 s0 i1 r2 r3 i4 i5 r6 r7 i8 (Lp30_6 m kx0 s0 i1 r2 r3 i4 i5 r6 r7 i8 n) r9 i10
noncomputable def ELp30_6 (m : Nat) (R : Type) : Nat → List V → (Ex → List V → Option R) → Option R
 | 0, _, _ => none
 | n + 1, vs, k => match vs with
  | [.obj [.f (.lit (.string s0)), .f (.lit (.int .i64 i1)), .f (.lst [.int .i64, .int .i64, .int .i64] r2), .f (.lst [.int .i64, .int .i64, .int .i64] r3)], .obj [.f (.lit (.int .i64 i4)), .f (.lit (.int .i64 i5))], .own [.int .i64] r6, .own [.int .i64] r9, .undef, .ref 2 2, .f (.lst [.int .i64, .int .i64, .int .i64] r7), .f (.lit (.int .i64 i8)), .f (.lit (.int .i64 i10)), .undef, .undef] => Lp30_6_step m (fun r12 i13 => k (Ex.exit (0 : Nat)) (W51 s0 i1 r2 r3 i4 i5 r6 r12 r7 i8 i13)) s0 i1 r2 r3 i4 i5 r6 r7 i8 (fun r9 i10 => ELp30_6 m R n (W51 s0 i1 r2 r3 i4 i5 r6 r9 r7 i8 i10) k) r9 i10
  | _ => none
noncomputable def brLp30_6 (m : Nat) (L : LTbl) (R : Type) (vs : List V) (k : Ex → List V → Option R) : Option R := match vs with
 | [.obj [.f (.lit (.string s0)), .f (.lit (.int .i64 i1)), .f (.lst [.int .i64, .int .i64, .int .i64] r2), .f (.lst [.int .i64, .int .i64, .int .i64] r3)], .obj [.f (.lit (.int .i64 i4)), .f (.lit (.int .i64 i5))], .own [.int .i64] r6, .own [.int .i64] r9, .undef, .ref 2 2, .f (.lst [.int .i64, .int .i64, .int .i64] r7), .f (.lit (.int .i64 i8)), .f (.lit (.int .i64 i10)), .undef, .undef] => Lp30_6 m (fun r12 i13 => k (Ex.exit (0 : Nat)) (W51 s0 i1 r2 r3 i4 i5 r6 r12 r7 i8 i13)) s0 i1 r2 r3 i4 i5 r6 r7 i8 m r9 i10
 | _ => L R 30 6 vs k
set_option maxRecDepth 100000 in
theorem stLp30_6 (m n : Nat) (R : Type) (s0 : ByteArray) (i1 : Int) (r2 r3 : Abs.Rows) (i4 i5 : Int) (r6 r9 r7 : Abs.Rows) (i8 i10 : Int) (k : Ex → List V → Option R) : codeK Tryd.prog H (T39 m) 30 (L23 m) 7 (loopBody Tryd.prog 30 6) (mkEnv [2, 3, 5, 6, 34, 35, 36, 37, 38, 138, 139] (W51 s0 i1 r2 r3 i4 i5 r6 r9 r7 i8 i10) 0 (H.len 30)) (fun e env' => match e with | .normal => ELp30_6 m R n (vals [2, 3, 5, 6, 34, 35, 36, 37, 38, 138, 139] env') k | e => k e (vals [2, 3, 5, 6, 34, 35, 36, 37, 38, 138, 139] env')) = Lp30_6_step m (fun r12 i13 => k (Ex.exit (0 : Nat)) (W51 s0 i1 r2 r3 i4 i5 r6 r12 r7 i8 i13)) s0 i1 r2 r3 i4 i5 r6 r7 i8 (fun r9 i10 => ELp30_6 m R n (W51 s0 i1 r2 r3 i4 i5 r6 r9 r7 i8 i10) k) r9 i10 := by kernel_rfl
theorem eqLp30_6 (m : Nat) (R : Type) (s0 : ByteArray) (i1 : Int) (r2 r3 : Abs.Rows) (i4 i5 : Int) (r6 r7 : Abs.Rows) (i8 : Int) (k : Ex → List V → Option R) : ∀ (n : Nat) (r9 : Abs.Rows) (i10 : Int), ELp30_6 m R n (W51 s0 i1 r2 r3 i4 i5 r6 r9 r7 i8 i10) k = Lp30_6 m (fun r12 i13 => k (Ex.exit (0 : Nat)) (W51 s0 i1 r2 r3 i4 i5 r6 r12 r7 i8 i13)) s0 i1 r2 r3 i4 i5 r6 r7 i8 n r9 i10
 | 0, _, _ => rfl
 | n + 1, r9, i10 => by
  simp only [ELp30_6, Lp30_6, W51]
  congr 1
  funext r9 i10
  exact eqLp30_6 m R s0 i1 r2 r3 i4 i5 r6 r7 i8 k n r9 i10
noncomputable def L24 (m : Nat) : LTbl := addB 30 6 (brLp30_6 m (L23 m)) (L23 m)
theorem okL24 (m : Nat) : LTOk Tryd.prog H (L24 m) := addB_ok (okT39 m) hM (okL23 m) (l := [2, 3, 5, 6, 34, 35, 36, 37, 38, 138, 139]) (by kernel_rfl) (by kernel_rfl) m (fun R n vs k => ELp30_6 m R n vs k) (fun R vs k => rfl) (fun R n vs k x h => by
   simp only [ELp30_6] at h
   split at h
   ·exact (stLp30_6 m n R _ _ _ _ _ _ _ _ _ _ _ k).trans h
   ·cases h) fun R vs k x h => by
  unfold brLp30_6 at h
  split at h
  ·exact .inl ((eqLp30_6 m R _ _ _ _ _ _ _ _ _ k m _ _).trans h)
  ·exact .inr h

abbrev W52 (a0 : ByteArray) (a1 : Int) (a2 a3 : Abs.Rows) (a4 a5 : Int) (a6 a7 a8 : Abs.Rows) (a9 a10 : Int) : List V := [.obj [.f (.lit (.string a0)), .f (.lit (.int .i64 a1)), .f (.lst [.int .i64, .int .i64, .int .i64] a2), .f (.lst [.int .i64, .int .i64, .int .i64] a3)], .obj [.f (.lit (.int .i64 a4)), .f (.lit (.int .i64 a5))], .own [.int .i64] a6, .own [.int .i64] a7, .undef, .undef, .ref 2 3, .f (.lst [.int .i64, .int .i64, .int .i64] a8), .f (.lit (.int .i64 a9)), .f (.lit (.int .i64 a10)), .undef, .undef]
/-- - -/
noncomputable def Lp30_13_step {R : Type} (m : Nat) (kx0 : Abs.Rows → Int → Option R) (s0 : ByteArray) (i1 : Int) (r2 r3 : Abs.Rows) (i4 i5 : Int) (r6 r7 : Abs.Rows) (i8 : Int) (REC : Abs.Rows → Int → Option R) (r9 : Abs.Rows) (i10 : Int) : Option R :=
 bif decide (i10 < i8) then (bif decide ((0 : Int) ≤ i10 ∧ i10 < (↑(List.length r7) : Int)) then (bif decide (List.length r9 + List.length [[F.lit (Value.int IntKind.i64 (fI r7 (Int.toNat i10) (1 : Nat)))], [F.lit (Value.int IntKind.i64 (fI r7 (Int.toNat i10) (2 : Nat)))]] ≤ rowMax) then (letV (r9 ++ [[F.lit (Value.int IntKind.i64 (fI r7 (Int.toNat i10) (1 : Nat)))], [F.lit (Value.int IntKind.i64 (fI r7 (Int.toNat i10) (2 : Nat)))]]) (fun r11 => REC r11 (IntKind.wrap IntKind.i64 (i10 + (1 : Int))))) else
 (none)) else
 (none)) else
 (kx0 r9 i10)
noncomputable def Lp30_13 {R : Type} (m : Nat) (kx0 : Abs.Rows → Int → Option R) (s0 : ByteArray) (i1 : Int) (r2 r3 : Abs.Rows) (i4 i5 : Int) (r6 r7 : Abs.Rows) (i8 : Int) : Nat → Abs.Rows → Int → Option R
 | 0, _, _ => none
 | n + 1, r9, i10 => Lp30_13_step m kx0 s0 i1 r2 r3 i4 i5 r6 r7 i8 (Lp30_13 m kx0 s0 i1 r2 r3 i4 i5 r6 r7 i8 n) r9 i10
noncomputable def ELp30_13 (m : Nat) (R : Type) : Nat → List V → (Ex → List V → Option R) → Option R
 | 0, _, _ => none
 | n + 1, vs, k => match vs with
  | [.obj [.f (.lit (.string s0)), .f (.lit (.int .i64 i1)), .f (.lst [.int .i64, .int .i64, .int .i64] r2), .f (.lst [.int .i64, .int .i64, .int .i64] r3)], .obj [.f (.lit (.int .i64 i4)), .f (.lit (.int .i64 i5))], .own [.int .i64] r6, .own [.int .i64] r9, .undef, .undef, .ref 2 3, .f (.lst [.int .i64, .int .i64, .int .i64] r7), .f (.lit (.int .i64 i8)), .f (.lit (.int .i64 i10)), .undef, .undef] => Lp30_13_step m (fun r12 i13 => k (Ex.exit (2 : Nat)) (W52 s0 i1 r2 r3 i4 i5 r6 r12 r7 i8 i13)) s0 i1 r2 r3 i4 i5 r6 r7 i8 (fun r9 i10 => ELp30_13 m R n (W52 s0 i1 r2 r3 i4 i5 r6 r9 r7 i8 i10) k) r9 i10
  | _ => none
noncomputable def brLp30_13 (m : Nat) (L : LTbl) (R : Type) (vs : List V) (k : Ex → List V → Option R) : Option R := match vs with
 | [.obj [.f (.lit (.string s0)), .f (.lit (.int .i64 i1)), .f (.lst [.int .i64, .int .i64, .int .i64] r2), .f (.lst [.int .i64, .int .i64, .int .i64] r3)], .obj [.f (.lit (.int .i64 i4)), .f (.lit (.int .i64 i5))], .own [.int .i64] r6, .own [.int .i64] r9, .undef, .undef, .ref 2 3, .f (.lst [.int .i64, .int .i64, .int .i64] r7), .f (.lit (.int .i64 i8)), .f (.lit (.int .i64 i10)), .undef, .undef] => Lp30_13 m (fun r12 i13 => k (Ex.exit (2 : Nat)) (W52 s0 i1 r2 r3 i4 i5 r6 r12 r7 i8 i13)) s0 i1 r2 r3 i4 i5 r6 r7 i8 m r9 i10
 | _ => L R 30 13 vs k
set_option maxRecDepth 100000 in
theorem stLp30_13 (m n : Nat) (R : Type) (s0 : ByteArray) (i1 : Int) (r2 r3 : Abs.Rows) (i4 i5 : Int) (r6 r9 r7 : Abs.Rows) (i8 i10 : Int) (k : Ex → List V → Option R) : codeK Tryd.prog H (T39 m) 30 (L24 m) 14 (loopBody Tryd.prog 30 13) (mkEnv [2, 3, 5, 6, 34, 48, 50, 51, 52, 53, 138, 139] (W52 s0 i1 r2 r3 i4 i5 r6 r9 r7 i8 i10) 0 (H.len 30)) (fun e env' => match e with | .normal => ELp30_13 m R n (vals [2, 3, 5, 6, 34, 48, 50, 51, 52, 53, 138, 139] env') k | e => k e (vals [2, 3, 5, 6, 34, 48, 50, 51, 52, 53, 138, 139] env')) = Lp30_13_step m (fun r12 i13 => k (Ex.exit (2 : Nat)) (W52 s0 i1 r2 r3 i4 i5 r6 r12 r7 i8 i13)) s0 i1 r2 r3 i4 i5 r6 r7 i8 (fun r9 i10 => ELp30_13 m R n (W52 s0 i1 r2 r3 i4 i5 r6 r9 r7 i8 i10) k) r9 i10 := by kernel_rfl
theorem eqLp30_13 (m : Nat) (R : Type) (s0 : ByteArray) (i1 : Int) (r2 r3 : Abs.Rows) (i4 i5 : Int) (r6 r7 : Abs.Rows) (i8 : Int) (k : Ex → List V → Option R) : ∀ (n : Nat) (r9 : Abs.Rows) (i10 : Int), ELp30_13 m R n (W52 s0 i1 r2 r3 i4 i5 r6 r9 r7 i8 i10) k = Lp30_13 m (fun r12 i13 => k (Ex.exit (2 : Nat)) (W52 s0 i1 r2 r3 i4 i5 r6 r12 r7 i8 i13)) s0 i1 r2 r3 i4 i5 r6 r7 i8 n r9 i10
 | 0, _, _ => rfl
 | n + 1, r9, i10 => by
  simp only [ELp30_13, Lp30_13, W52]
  congr 1
  funext r9 i10
  exact eqLp30_13 m R s0 i1 r2 r3 i4 i5 r6 r7 i8 k n r9 i10
noncomputable def L25 (m : Nat) : LTbl := addB 30 13 (brLp30_13 m (L24 m)) (L24 m)
theorem okL25 (m : Nat) : LTOk Tryd.prog H (L25 m) := addB_ok (okT39 m) hM (okL24 m) (l := [2, 3, 5, 6, 34, 48, 50, 51, 52, 53, 138, 139]) (by kernel_rfl) (by kernel_rfl) m (fun R n vs k => ELp30_13 m R n vs k) (fun R vs k => rfl) (fun R n vs k x h => by
   simp only [ELp30_13] at h
   split at h
   ·exact (stLp30_13 m n R _ _ _ _ _ _ _ _ _ _ _ k).trans h
   ·cases h) fun R vs k x h => by
  unfold brLp30_13 at h
  split at h
  ·exact .inl ((eqLp30_13 m R _ _ _ _ _ _ _ _ _ k m _ _).trans h)
  ·exact .inr h

abbrev W53 (a0 : ByteArray) (a1 : Int) (a2 a3 : Abs.Rows) (a4 a5 : Int) (a6 a7 : Abs.Rows) (a8 a9 : Int) (a10 : Nat) (a11 a12 : Int) : List V := [.obj [.f (.lit (.string a0)), .f (.lit (.int .i64 a1)), .f (.lst [.int .i64, .int .i64, .int .i64] a2), .f (.lst [.int .i64, .int .i64, .int .i64] a3)], .obj [.f (.lit (.int .i64 a4)), .f (.lit (.int .i64 a5))], .own [.int .i64] a6, .own [.int .i64] a7, .f (.lit (.int .i64 a8)), .f (.lit (.int .i64 a9)), .undef, .undef, .undef, .undef, .undef, .lent { slot := (6 : Nat), leaf := none } 1 a10, .f (.lit (.int .i64 a11)), .f (.lit (.int .i64 a12)), .undef, .undef]
/-- - -/
noncomputable def Lp30_29_step {R : Type} (m : Nat) (kx0 : Abs.Rows → Int → Option R) (s0 : ByteArray) (i1 : Int) (r2 r3 : Abs.Rows) (i4 i5 : Int) (r6 : Abs.Rows) (i7 i8 : Int) (n9 : Nat) (i10 : Int) (REC : Abs.Rows → Int → Option R) (r11 : Abs.Rows) (i12 : Int) : Option R :=
 bif decide (i12 < i10) then (bif decide ((0 : Int) ≤ i12 ∧ i12 < (↑n9 : Int)) then (bif decide (fI r6 (Int.toNat i12) (0 : Nat) < (1440 : Int)) then (bif decide (i4 < IntKind.wrap IntKind.i64 (IntKind.wrap IntKind.i64 (i8 * (86400000 : Int)) + IntKind.wrap IntKind.i64 (IntKind.wrap IntKind.i64 (fI r6 (Int.toNat i12) (0 : Nat) - i1) * (60000 : Int)))) then (bif decide (IntKind.wrap IntKind.i64 (IntKind.wrap IntKind.i64 (i8 * (86400000 : Int)) + IntKind.wrap IntKind.i64 (IntKind.wrap IntKind.i64 (fI r6 (Int.toNat i12) (0 : Nat) - i1) * (60000 : Int))) < i5) then (Fn31 m s0 i1 r2 r3 (IntKind.wrap IntKind.i64 (IntKind.wrap IntKind.i64 (i8 * (86400000 : Int)) + IntKind.wrap IntKind.i64 (IntKind.wrap IntKind.i64 (fI r6 (Int.toNat i12) (0 : Nat) - i1) * (60000 : Int)))) (fun b13 => Fn31 m s0 i1 r2 r3 (IntKind.wrap IntKind.i64 (IntKind.wrap IntKind.i64 (IntKind.wrap IntKind.i64 (i8 * (86400000 : Int)) + IntKind.wrap IntKind.i64 (IntKind.wrap IntKind.i64 (fI r6 (Int.toNat i12) (0 : Nat) - i1) * (60000 : Int))) - (1 : Int))) (fun b14 => bif !b13 == b14 then (bif decide (List.length r11 + List.length [[F.lit (Value.int IntKind.i64 (IntKind.wrap IntKind.i64 (IntKind.wrap IntKind.i64 (i8 * (86400000 : Int)) + IntKind.wrap IntKind.i64 (IntKind.wrap IntKind.i64 (fI r6 (Int.toNat i12) (0 : Nat) - i1) * (60000 : Int)))))]] ≤ rowMax) then (letV (r11 ++ [[F.lit (Value.int IntKind.i64 (IntKind.wrap IntKind.i64 (IntKind.wrap IntKind.i64 (i8 * (86400000 : Int)) + IntKind.wrap IntKind.i64 (IntKind.wrap IntKind.i64 (fI r6 (Int.toNat i12) (0 : Nat) - i1) * (60000 : Int)))))]]) (fun r15 => REC r15 (IntKind.wrap IntKind.i64 (i12 + (1 : Int))))) else
 (none)) else
 (REC r11 (IntKind.wrap IntKind.i64 (i12 + (1 : Int))))))) else
 (REC r11 (IntKind.wrap IntKind.i64 (i12 + (1 : Int))))) else
 (REC r11 (IntKind.wrap IntKind.i64 (i12 + (1 : Int))))) else
 (REC r11 (IntKind.wrap IntKind.i64 (i12 + (1 : Int))))) else
 (none)) else
 (kx0 r11 i12)
noncomputable def Lp30_29 {R : Type} (m : Nat) (kx0 : Abs.Rows → Int → Option R) (s0 : ByteArray) (i1 : Int) (r2 r3 : Abs.Rows) (i4 i5 : Int) (r6 : Abs.Rows) (i7 i8 : Int) (n9 : Nat) (i10 : Int) : Nat → Abs.Rows → Int → Option R
 | 0, _, _ => none
 | n + 1, r11, i12 => Lp30_29_step m kx0 s0 i1 r2 r3 i4 i5 r6 i7 i8 n9 i10 (Lp30_29 m kx0 s0 i1 r2 r3 i4 i5 r6 i7 i8 n9 i10 n) r11 i12
noncomputable def ELp30_29 (m : Nat) (R : Type) : Nat → List V → (Ex → List V → Option R) → Option R
 | 0, _, _ => none
 | n + 1, vs, k => match vs with
  | [.obj [.f (.lit (.string s0)), .f (.lit (.int .i64 i1)), .f (.lst [.int .i64, .int .i64, .int .i64] r2), .f (.lst [.int .i64, .int .i64, .int .i64] r3)], .obj [.f (.lit (.int .i64 i4)), .f (.lit (.int .i64 i5))], .own [.int .i64] r11, .own [.int .i64] r6, .f (.lit (.int .i64 i7)), .f (.lit (.int .i64 i8)), .undef, .undef, .undef, .undef, .undef, .lent { slot := (6 : Nat), leaf := none } 1 n9, .f (.lit (.int .i64 i10)), .f (.lit (.int .i64 i12)), .undef, .undef] => Lp30_29_step m (fun r16 i17 => k (Ex.exit (6 : Nat)) (W53 s0 i1 r2 r3 i4 i5 r16 r6 i7 i8 n9 i10 i17)) s0 i1 r2 r3 i4 i5 r6 i7 i8 n9 i10 (fun r11 i12 => ELp30_29 m R n (W53 s0 i1 r2 r3 i4 i5 r11 r6 i7 i8 n9 i10 i12) k) r11 i12
  | _ => none
noncomputable def brLp30_29 (m : Nat) (L : LTbl) (R : Type) (vs : List V) (k : Ex → List V → Option R) : Option R := match vs with
 | [.obj [.f (.lit (.string s0)), .f (.lit (.int .i64 i1)), .f (.lst [.int .i64, .int .i64, .int .i64] r2), .f (.lst [.int .i64, .int .i64, .int .i64] r3)], .obj [.f (.lit (.int .i64 i4)), .f (.lit (.int .i64 i5))], .own [.int .i64] r11, .own [.int .i64] r6, .f (.lit (.int .i64 i7)), .f (.lit (.int .i64 i8)), .undef, .undef, .undef, .undef, .undef, .lent { slot := (6 : Nat), leaf := none } 1 n9, .f (.lit (.int .i64 i10)), .f (.lit (.int .i64 i12)), .undef, .undef] => Lp30_29 m (fun r16 i17 => k (Ex.exit (6 : Nat)) (W53 s0 i1 r2 r3 i4 i5 r16 r6 i7 i8 n9 i10 i17)) s0 i1 r2 r3 i4 i5 r6 i7 i8 n9 i10 m r11 i12
 | _ => L R 30 29 vs k
set_option maxRecDepth 100000 in
theorem stLp30_29 (m n : Nat) (R : Type) (s0 : ByteArray) (i1 : Int) (r2 r3 : Abs.Rows) (i4 i5 : Int) (r11 r6 : Abs.Rows) (i7 i8 : Int) (n9 : Nat) (i10 i12 : Int) (k : Ex → List V → Option R) : codeK Tryd.prog H (T39 m) 30 (L25 m) 30 (loopBody Tryd.prog 30 29) (mkEnv [2, 3, 5, 6, 13, 15, 34, 48, 63, 67, 71, 94, 95, 96, 138, 139] (W53 s0 i1 r2 r3 i4 i5 r11 r6 i7 i8 n9 i10 i12) 0 (H.len 30)) (fun e env' => match e with | .normal => ELp30_29 m R n (vals [2, 3, 5, 6, 13, 15, 34, 48, 63, 67, 71, 94, 95, 96, 138, 139] env') k | e => k e (vals [2, 3, 5, 6, 13, 15, 34, 48, 63, 67, 71, 94, 95, 96, 138, 139] env')) = Lp30_29_step m (fun r16 i17 => k (Ex.exit (6 : Nat)) (W53 s0 i1 r2 r3 i4 i5 r16 r6 i7 i8 n9 i10 i17)) s0 i1 r2 r3 i4 i5 r6 i7 i8 n9 i10 (fun r11 i12 => ELp30_29 m R n (W53 s0 i1 r2 r3 i4 i5 r11 r6 i7 i8 n9 i10 i12) k) r11 i12 := by kernel_rfl
theorem eqLp30_29 (m : Nat) (R : Type) (s0 : ByteArray) (i1 : Int) (r2 r3 : Abs.Rows) (i4 i5 : Int) (r6 : Abs.Rows) (i7 i8 : Int) (n9 : Nat) (i10 : Int) (k : Ex → List V → Option R) : ∀ (n : Nat) (r11 : Abs.Rows) (i12 : Int), ELp30_29 m R n (W53 s0 i1 r2 r3 i4 i5 r11 r6 i7 i8 n9 i10 i12) k = Lp30_29 m (fun r16 i17 => k (Ex.exit (6 : Nat)) (W53 s0 i1 r2 r3 i4 i5 r16 r6 i7 i8 n9 i10 i17)) s0 i1 r2 r3 i4 i5 r6 i7 i8 n9 i10 n r11 i12
 | 0, _, _ => rfl
 | n + 1, r11, i12 => by
  simp only [ELp30_29, Lp30_29, W53]
  congr 1
  funext r11 i12
  exact eqLp30_29 m R s0 i1 r2 r3 i4 i5 r6 i7 i8 n9 i10 k n r11 i12
noncomputable def L26 (m : Nat) : LTbl := addB 30 29 (brLp30_29 m (L25 m)) (L25 m)
theorem okL26 (m : Nat) : LTOk Tryd.prog H (L26 m) := addB_ok (okT39 m) hM (okL25 m) (l := [2, 3, 5, 6, 13, 15, 34, 48, 63, 67, 71, 94, 95, 96, 138, 139]) (by kernel_rfl) (by kernel_rfl) m (fun R n vs k => ELp30_29 m R n vs k) (fun R vs k => rfl) (fun R n vs k x h => by
   simp only [ELp30_29] at h
   split at h
   ·exact (stLp30_29 m n R _ _ _ _ _ _ _ _ _ _ _ _ _ k).trans h
   ·cases h) fun R vs k x h => by
  unfold brLp30_29 at h
  split at h
  ·exact .inl ((eqLp30_29 m R _ _ _ _ _ _ _ _ _ _ _ k m _ _).trans h)
  ·exact .inr h

abbrev W54 (a0 : ByteArray) (a1 : Int) (a2 a3 : Abs.Rows) (a4 a5 : Int) (a6 a7 : Abs.Rows) (a8 a9 : Int) : List V := [.obj [.f (.lit (.string a0)), .f (.lit (.int .i64 a1)), .f (.lst [.int .i64, .int .i64, .int .i64] a2), .f (.lst [.int .i64, .int .i64, .int .i64] a3)], .obj [.f (.lit (.int .i64 a4)), .f (.lit (.int .i64 a5))], .own [.int .i64] a6, .own [.int .i64] a7, .f (.lit (.int .i64 a8)), .f (.lit (.int .i64 a9)), .undef, .undef, .undef, .undef, .undef, .undef, .undef]
/-- - -/
noncomputable def Lp30_25_step {R : Type} (m : Nat) (kx0 : Abs.Rows → Int → Option R) (s0 : ByteArray) (i1 : Int) (r2 r3 : Abs.Rows) (i4 i5 : Int) (r6 : Abs.Rows) (i7 : Int) (REC : Abs.Rows → Int → Option R) (r8 : Abs.Rows) (i9 : Int) : Option R :=
 bif decide (i9 ≤ i7) then (Lp30_29 m (fun r10 i11 => REC r10 (IntKind.wrap IntKind.i64 (i9 + (1 : Int)))) s0 i1 r2 r3 i4 i5 r6 i7 i9 (List.length r6) ((↑(List.length r6) : Int)) m r8 ((0 : Int))) else
 (kx0 r8 i9)
noncomputable def Lp30_25 {R : Type} (m : Nat) (kx0 : Abs.Rows → Int → Option R) (s0 : ByteArray) (i1 : Int) (r2 r3 : Abs.Rows) (i4 i5 : Int) (r6 : Abs.Rows) (i7 : Int) : Nat → Abs.Rows → Int → Option R
 | 0, _, _ => none
 | n + 1, r8, i9 => Lp30_25_step m kx0 s0 i1 r2 r3 i4 i5 r6 i7 (Lp30_25 m kx0 s0 i1 r2 r3 i4 i5 r6 i7 n) r8 i9
noncomputable def ELp30_25 (m : Nat) (R : Type) : Nat → List V → (Ex → List V → Option R) → Option R
 | 0, _, _ => none
 | n + 1, vs, k => match vs with
  | [.obj [.f (.lit (.string s0)), .f (.lit (.int .i64 i1)), .f (.lst [.int .i64, .int .i64, .int .i64] r2), .f (.lst [.int .i64, .int .i64, .int .i64] r3)], .obj [.f (.lit (.int .i64 i4)), .f (.lit (.int .i64 i5))], .own [.int .i64] r8, .own [.int .i64] r6, .f (.lit (.int .i64 i7)), .f (.lit (.int .i64 i9)), .undef, .undef, .undef, .undef, .undef, .undef, .undef] => Lp30_25_step m (fun r12 i13 => k (Ex.exit (4 : Nat)) (W54 s0 i1 r2 r3 i4 i5 r12 r6 i7 i13)) s0 i1 r2 r3 i4 i5 r6 i7 (fun r8 i9 => ELp30_25 m R n (W54 s0 i1 r2 r3 i4 i5 r8 r6 i7 i9) k) r8 i9
  | _ => none
noncomputable def brLp30_25 (m : Nat) (L : LTbl) (R : Type) (vs : List V) (k : Ex → List V → Option R) : Option R := match vs with
 | [.obj [.f (.lit (.string s0)), .f (.lit (.int .i64 i1)), .f (.lst [.int .i64, .int .i64, .int .i64] r2), .f (.lst [.int .i64, .int .i64, .int .i64] r3)], .obj [.f (.lit (.int .i64 i4)), .f (.lit (.int .i64 i5))], .own [.int .i64] r8, .own [.int .i64] r6, .f (.lit (.int .i64 i7)), .f (.lit (.int .i64 i9)), .undef, .undef, .undef, .undef, .undef, .undef, .undef] => Lp30_25 m (fun r12 i13 => k (Ex.exit (4 : Nat)) (W54 s0 i1 r2 r3 i4 i5 r12 r6 i7 i13)) s0 i1 r2 r3 i4 i5 r6 i7 m r8 i9
 | _ => L R 30 25 vs k
set_option maxRecDepth 100000 in
theorem stLp30_25 (m n : Nat) (R : Type) (s0 : ByteArray) (i1 : Int) (r2 r3 : Abs.Rows) (i4 i5 : Int) (r8 r6 : Abs.Rows) (i7 i9 : Int) (k : Ex → List V → Option R) : codeK Tryd.prog H (T39 m) 30 (L26 m) 26 (loopBody Tryd.prog 30 25) (mkEnv [2, 3, 5, 6, 13, 15, 34, 48, 63, 67, 71, 138, 139] (W54 s0 i1 r2 r3 i4 i5 r8 r6 i7 i9) 0 (H.len 30)) (fun e env' => match e with | .normal => ELp30_25 m R n (vals [2, 3, 5, 6, 13, 15, 34, 48, 63, 67, 71, 138, 139] env') k | e => k e (vals [2, 3, 5, 6, 13, 15, 34, 48, 63, 67, 71, 138, 139] env')) = Lp30_25_step m (fun r12 i13 => k (Ex.exit (4 : Nat)) (W54 s0 i1 r2 r3 i4 i5 r12 r6 i7 i13)) s0 i1 r2 r3 i4 i5 r6 i7 (fun r8 i9 => ELp30_25 m R n (W54 s0 i1 r2 r3 i4 i5 r8 r6 i7 i9) k) r8 i9 := by kernel_rfl
theorem eqLp30_25 (m : Nat) (R : Type) (s0 : ByteArray) (i1 : Int) (r2 r3 : Abs.Rows) (i4 i5 : Int) (r6 : Abs.Rows) (i7 : Int) (k : Ex → List V → Option R) : ∀ (n : Nat) (r8 : Abs.Rows) (i9 : Int), ELp30_25 m R n (W54 s0 i1 r2 r3 i4 i5 r8 r6 i7 i9) k = Lp30_25 m (fun r12 i13 => k (Ex.exit (4 : Nat)) (W54 s0 i1 r2 r3 i4 i5 r12 r6 i7 i13)) s0 i1 r2 r3 i4 i5 r6 i7 n r8 i9
 | 0, _, _ => rfl
 | n + 1, r8, i9 => by
  simp only [ELp30_25, Lp30_25, W54]
  congr 1
  funext r8 i9
  exact eqLp30_25 m R s0 i1 r2 r3 i4 i5 r6 i7 k n r8 i9
noncomputable def L27 (m : Nat) : LTbl := addB 30 25 (brLp30_25 m (L26 m)) (L26 m)
theorem okL27 (m : Nat) : LTOk Tryd.prog H (L27 m) := addB_ok (okT39 m) hM (okL26 m) (l := [2, 3, 5, 6, 13, 15, 34, 48, 63, 67, 71, 138, 139]) (by kernel_rfl) (by kernel_rfl) m (fun R n vs k => ELp30_25 m R n vs k) (fun R vs k => rfl) (fun R n vs k x h => by
   simp only [ELp30_25] at h
   split at h
   ·exact (stLp30_25 m n R _ _ _ _ _ _ _ _ _ _ k).trans h
   ·cases h) fun R vs k x h => by
  unfold brLp30_25 at h
  split at h
  ·exact .inl ((eqLp30_25 m R _ _ _ _ _ _ _ _ k m _ _).trans h)
  ·exact .inr h

abbrev W55 (a0 : ByteArray) (a1 : Int) (a2 a3 : Abs.Rows) (a4 a5 : Int) (a6 : Abs.Rows) : List V := [.obj [.f (.lit (.string a0)), .f (.lit (.int .i64 a1)), .f (.lst [.int .i64, .int .i64, .int .i64] a2), .f (.lst [.int .i64, .int .i64, .int .i64] a3)], .obj [.f (.lit (.int .i64 a4)), .f (.lit (.int .i64 a5))], .own [.int .i64] a6, .undef, .undef, .undef, .undef, .undef, .undef]
abbrev W56 (a0 : ByteArray) (a1 : Int) (a2 a3 : Abs.Rows) (a4 a5 : Int) (a6 a7 : Abs.Rows) : List V := [.obj [.f (.lit (.string a0)), .f (.lit (.int .i64 a1)), .f (.lst [.int .i64, .int .i64, .int .i64] a2), .f (.lst [.int .i64, .int .i64, .int .i64] a3)], .obj [.f (.lit (.int .i64 a4)), .f (.lit (.int .i64 a5))], .own [.int .i64] a6, .own [.int .i64] a7, .undef, .undef, .undef, .undef, .undef]
/-- - -/
noncomputable def Jn30_3 {R : Type} (m : Nat) (kx0 : Abs.Rows → Option R) (s0 : ByteArray) (i1 : Int) (r2 r3 : Abs.Rows) (i4 i5 : Int) (r6 r7 : Abs.Rows) : Option R :=
 Lp30_6 m (fun r8 i9 => Lp30_13 m (fun r10 i11 => bif decide (List.length r10 + List.length [[F.lit (Value.int IntKind.i64 (0 : Int))]] ≤ rowMax) then (letV (r10 ++ [[F.lit (Value.int IntKind.i64 (0 : Int))]]) (fun r12 => bif sortOk r12 then (bif sortOk (sortR r12) then (Fn68 m i1 i4 (fun i13 i14 => Fn68 m i1 i5 (fun i15 i16 => Lp30_25 m (fun r17 i18 => kx0 r17) s0 i1 r2 r3 i4 i5 (compR (sortR r12)) i15 m r7 i13))) else
 (none)) else
 (none))) else
 (none)) s0 i1 r2 r3 i4 i5 r7 r3 ((↑(List.length r3) : Int)) m r8 ((0 : Int))) s0 i1 r2 r3 i4 i5 r7 r2 ((↑(List.length r2) : Int)) m rows0 ((0 : Int))
noncomputable def brJn30_3 (m : Nat) (L : LTbl) (R : Type) (vs : List V) (k : Ex → List V → Option R) : Option R := match vs with
 | [.obj [.f (.lit (.string s0)), .f (.lit (.int .i64 i1)), .f (.lst [.int .i64, .int .i64, .int .i64] r2), .f (.lst [.int .i64, .int .i64, .int .i64] r3)], .obj [.f (.lit (.int .i64 i4)), .f (.lit (.int .i64 i5))], .own [.int .i64] r6, .own [.int .i64] r7, .undef, .undef, .undef, .undef, .undef] => Jn30_3 m (fun r19 => k Ex.ret (W55 s0 i1 r2 r3 i4 i5 r19)) s0 i1 r2 r3 i4 i5 r6 r7
 | _ => L R 30 3 vs k
set_option maxRecDepth 100000 in
theorem evJn30_3 (m : Nat) (R : Type) (s0 : ByteArray) (i1 : Int) (r2 r3 : Abs.Rows) (i4 i5 : Int) (r6 r7 : Abs.Rows) (k : Ex → List V → Option R) : codeK Tryd.prog H (T39 m) 30 (L27 m) 4 (loopBody Tryd.prog 30 3) (mkEnv [2, 3, 4, 5, 34, 135, 137, 138, 139] (W56 s0 i1 r2 r3 i4 i5 r6 r7) 0 (H.len 30)) (fun e env' => k e (vals [2, 3, 4, 5, 34, 135, 137, 138, 139] env')) = Jn30_3 m (fun r19 => k Ex.ret (W55 s0 i1 r2 r3 i4 i5 r19)) s0 i1 r2 r3 i4 i5 r6 r7 := by kernel_rfl
noncomputable def L28 (m : Nat) : LTbl := addJ 30 3 (brJn30_3 m (L27 m)) (L27 m)
theorem okL28 (m : Nat) : LTOk Tryd.prog H (L28 m) := addJ_ok (okT39 m) hM (okL27 m) (l := [2, 3, 4, 5, 34, 135, 137, 138, 139]) (by kernel_rfl) (by kernel_rfl) fun R vs k x h => by
  unfold brJn30_3 at h
  split at h
  ·exact .inl ((evJn30_3 m R _ _ _ _ _ _ _ _ k).trans h)
  ·exact .inr h

/-- - -/
noncomputable def Fn30 {R : Type} (m : Nat) : ByteArray → Int → Abs.Rows → Abs.Rows → Int → Int → (Abs.Rows → Option R) → Option R := match m with
 | 0 => fun _ _ _ _ _ _ _ => none
 | m + 1 => fun s0 i1 r2 r3 i4 i5 k =>
 bif decide (i4 < i5) then (Fn31 m s0 i1 r2 r3 i4 (fun b6 => bif b6 then (Jn30_3 m (fun r7 => k r7) s0 i1 r2 r3 i4 i5 rows0 ([[F.lit (Value.int IntKind.i64 i4)]])) else
 (Jn30_3 m (fun r8 => k r8) s0 i1 r2 r3 i4 i5 rows0 rows0))) else
 (Jn30_3 m (fun r9 => k r9) s0 i1 r2 r3 i4 i5 rows0 rows0)
noncomputable def brFn30 (m : Nat) (T : Tbl) (R : Type) (vs : List V) (k : V → List V → Option R) : Option R := match vs with
 | [.agg [.f (.lit (.string s0)), .f (.lit (.int .i64 i1)), .f (.lst [.int .i64, .int .i64, .int .i64] r2), .f (.lst [.int .i64, .int .i64, .int .i64] r3)], .agg [.f (.lit (.int .i64 i4)), .f (.lit (.int .i64 i5))]] => Fn30 m s0 i1 r2 r3 i4 i5 (fun r10 => k (V.own [LT.int IntKind.i64] r10) W1)
 | _ => T R 30 vs k
set_option maxRecDepth 100000 in
theorem evFn30 (m : Nat) (R : Type) (s0 : ByteArray) (i1 : Int) (r2 r3 : Abs.Rows) (i4 i5 : Int) (k : V → List V → Option R) : runK Tryd.prog H (T39 m) (L28 m) 30 (W42 s0 i1 r2 r3 i4 i5) k = Fn30 (m + 1) s0 i1 r2 r3 i4 i5 (fun r10 => k (V.own [LT.int IntKind.i64] r10) W1) := by kernel_rfl
noncomputable def T40 (m : Nat) : Tbl := addT 30 (brFn30 m (T39 m)) (T39 m)
theorem okT40 (m : Nat) : TblOk Tryd.prog (T40 m) := addT_ok (okT39 m) fun R vs k x h => by
 unfold brFn30 at h
 split at h
 ·cases m with
  | zero => cases h
  | succ m => exact runK_some (okT39 m) hM (okL28 m) ((evFn30 m R _ _ _ _ _ _ k).trans h)
 ·exact okT39 m R 30 _ k x h

abbrev W57 (a0 a1 : Abs.Rows) (a2 : Bool) (a3 a4 : Int) : List V := [.bor [.int .i64] a0, .bor [.int .i64] a1, .f (.lit (.bool a2)), .f (.lit (.int .i64 a3)), .f (.lit (.int .i64 a4)), .undef, .undef]
/-- - -/
noncomputable def Lp32_5_step {R : Type} (m : Nat) (kx0 : Bool → Int → Option R) (kx1 : Int → Option R) (r0 r1 : Abs.Rows) (b2 : Bool) (i3 : Int) (REC : Int → Option R) (i4 : Int) : Option R :=
 bif decide (i4 < i3) then (bif decide ((0 : Int) ≤ i4 ∧ i4 < (↑(List.length r0) : Int)) then (bif decide ((0 : Int) ≤ i4 ∧ i4 < (↑(List.length r1) : Int)) then (bif fI r0 (Int.toNat i4) (0 : Nat) != fI r1 (Int.toNat i4) (0 : Nat) then (kx0 false i4) else
 (REC (IntKind.wrap IntKind.i64 (i4 + (1 : Int))))) else
 (none)) else
 (none)) else
 (kx1 i4)
noncomputable def Lp32_5 {R : Type} (m : Nat) (kx0 : Bool → Int → Option R) (kx1 : Int → Option R) (r0 r1 : Abs.Rows) (b2 : Bool) (i3 : Int) : Nat → Int → Option R
 | 0, _ => none
 | n + 1, i4 => Lp32_5_step m kx0 kx1 r0 r1 b2 i3 (Lp32_5 m kx0 kx1 r0 r1 b2 i3 n) i4
noncomputable def ELp32_5 (m : Nat) (R : Type) : Nat → List V → (Ex → List V → Option R) → Option R
 | 0, _, _ => none
 | n + 1, vs, k => match vs with
  | [.bor [.int .i64] r0, .bor [.int .i64] r1, .f (.lit (.bool b2)), .f (.lit (.int .i64 i3)), .f (.lit (.int .i64 i4)), .undef, .undef] => Lp32_5_step m (fun b5 i6 => k Ex.ret (W57 r0 r1 b5 i3 i6)) (fun i7 => k (Ex.exit (0 : Nat)) (W57 r0 r1 b2 i3 i7)) r0 r1 b2 i3 (fun i4 => ELp32_5 m R n (W57 r0 r1 b2 i3 i4) k) i4
  | _ => none
noncomputable def brLp32_5 (m : Nat) (L : LTbl) (R : Type) (vs : List V) (k : Ex → List V → Option R) : Option R := match vs with
 | [.bor [.int .i64] r0, .bor [.int .i64] r1, .f (.lit (.bool b2)), .f (.lit (.int .i64 i3)), .f (.lit (.int .i64 i4)), .undef, .undef] => Lp32_5 m (fun b5 i6 => k Ex.ret (W57 r0 r1 b5 i3 i6)) (fun i7 => k (Ex.exit (0 : Nat)) (W57 r0 r1 b2 i3 i7)) r0 r1 b2 i3 m i4
 | _ => L R 32 5 vs k
set_option maxRecDepth 100000 in
theorem stLp32_5 (m n : Nat) (R : Type) (r0 r1 : Abs.Rows) (b2 : Bool) (i3 i4 : Int) (k : Ex → List V → Option R) : codeK Tryd.prog H (T40 m) 32 (L28 m) 6 (loopBody Tryd.prog 32 5) (mkEnv [0, 1, 4, 12, 13, 26, 27] (W57 r0 r1 b2 i3 i4) 0 (H.len 32)) (fun e env' => match e with | .normal => ELp32_5 m R n (vals [0, 1, 4, 12, 13, 26, 27] env') k | e => k e (vals [0, 1, 4, 12, 13, 26, 27] env')) = Lp32_5_step m (fun b5 i6 => k Ex.ret (W57 r0 r1 b5 i3 i6)) (fun i7 => k (Ex.exit (0 : Nat)) (W57 r0 r1 b2 i3 i7)) r0 r1 b2 i3 (fun i4 => ELp32_5 m R n (W57 r0 r1 b2 i3 i4) k) i4 := by kernel_rfl
theorem eqLp32_5 (m : Nat) (R : Type) (r0 r1 : Abs.Rows) (b2 : Bool) (i3 : Int) (k : Ex → List V → Option R) : ∀ (n : Nat) (i4 : Int), ELp32_5 m R n (W57 r0 r1 b2 i3 i4) k = Lp32_5 m (fun b5 i6 => k Ex.ret (W57 r0 r1 b5 i3 i6)) (fun i7 => k (Ex.exit (0 : Nat)) (W57 r0 r1 b2 i3 i7)) r0 r1 b2 i3 n i4
 | 0, _ => rfl
 | n + 1, i4 => by
  simp only [ELp32_5, Lp32_5, W57]
  congr 1
  funext i4
  exact eqLp32_5 m R r0 r1 b2 i3 k n i4
noncomputable def L29 (m : Nat) : LTbl := addB 32 5 (brLp32_5 m (L28 m)) (L28 m)
theorem okL29 (m : Nat) : LTOk Tryd.prog H (L29 m) := addB_ok (okT40 m) hM (okL28 m) (l := [0, 1, 4, 12, 13, 26, 27]) (by kernel_rfl) (by kernel_rfl) m (fun R n vs k => ELp32_5 m R n vs k) (fun R vs k => rfl) (fun R n vs k x h => by
   simp only [ELp32_5] at h
   split at h
   ·exact (stLp32_5 m n R _ _ _ _ _ k).trans h
   ·cases h) fun R vs k x h => by
  unfold brLp32_5 at h
  split at h
  ·exact .inl ((eqLp32_5 m R _ _ _ _ k m _).trans h)
  ·exact .inr h

abbrev W58 (a0 a1 : Abs.Rows) : List V := [.bor [.int .i64] a0, .bor [.int .i64] a1]
/-- - -/
noncomputable def Fn32 {R : Type} (m : Nat) : Abs.Rows → Abs.Rows → (Bool → Option R) → Option R := match m with
 | 0 => fun _ _ _ => none
 | m + 1 => fun r0 r1 k =>
 bif (↑(List.length r0) : Int) != (↑(List.length r1) : Int) then (k false) else
 (Lp32_5 m (fun b2 i3 => k b2) (fun i4 => k true) r0 r1 false ((↑(List.length r0) : Int)) m ((0 : Int)))
noncomputable def brFn32 (m : Nat) (T : Tbl) (R : Type) (vs : List V) (k : V → List V → Option R) : Option R := match vs with
 | [.bor [.int .i64] r0, .bor [.int .i64] r1] => Fn32 m r0 r1 (fun b5 => k (V.f (F.lit (Value.bool b5))) W1)
 | _ => T R 32 vs k
set_option maxRecDepth 100000 in
theorem evFn32 (m : Nat) (R : Type) (r0 r1 : Abs.Rows) (k : V → List V → Option R) : runK Tryd.prog H (T40 m) (L29 m) 32 (W58 r0 r1) k = Fn32 (m + 1) r0 r1 (fun b5 => k (V.f (F.lit (Value.bool b5))) W1) := by kernel_rfl
noncomputable def T41 (m : Nat) : Tbl := addT 32 (brFn32 m (T40 m)) (T40 m)
theorem okT41 (m : Nat) : TblOk Tryd.prog (T41 m) := addT_ok (okT40 m) fun R vs k x h => by
 unfold brFn32 at h
 split at h
 ·cases m with
  | zero => cases h
  | succ m => exact runK_some (okT40 m) hM (okL29 m) ((evFn32 m R _ _ k).trans h)
 ·exact okT40 m R 32 _ k x h

abbrev W59 (a0 : Int) : List V := [.f (.lit (.int .u8 a0))]
/-- - -/
noncomputable def Fn85 {R : Type} (m : Nat) : Int → (Int → Option R) → Option R := match m with
 | 0 => fun _ _ => none
 | m + 1 => fun i0 k =>
 Fn42 m ({ data := #[(35 : UInt8), (42 : UInt8), (48 : UInt8), (49 : UInt8), (50 : UInt8), (51 : UInt8), (52 : UInt8), (53 : UInt8), (54 : UInt8), (55 : UInt8), (56 : UInt8), (57 : UInt8)] }) i0 (fun i1 => bif decide ((0 : Int) ≤ i1) then (k (IntKind.wrap IntKind.u16 ((1 : Int) * (2 : Int) ^ min (Int.toNat i1) (16 : Nat)))) else
 (none))
noncomputable def brFn85 (m : Nat) (T : Tbl) (R : Type) (vs : List V) (k : V → List V → Option R) : Option R := match vs with
 | [.f (.lit (.int .u8 i0))] => Fn85 m i0 (fun i2 => k (V.f (F.lit (Value.int IntKind.u16 i2))) W14)
 | _ => T R 85 vs k
set_option maxRecDepth 100000 in
theorem evFn85 (m : Nat) (R : Type) (i0 : Int) (k : V → List V → Option R) : runK Tryd.prog H (T41 m) (L29 m) 85 (W59 i0) k = Fn85 (m + 1) i0 (fun i2 => k (V.f (F.lit (Value.int IntKind.u16 i2))) W14) := by kernel_rfl
noncomputable def T42 (m : Nat) : Tbl := addT 85 (brFn85 m (T41 m)) (T41 m)
theorem okT42 (m : Nat) : TblOk Tryd.prog (T42 m) := addT_ok (okT41 m) fun R vs k x h => by
 unfold brFn85 at h
 split at h
 ·cases m with
  | zero => cases h
  | succ m => exact runK_some (okT41 m) hM (okL29 m) ((evFn85 m R _ k).trans h)
 ·exact okT41 m R 85 _ k x h

abbrev W60 (a0 a1 a2 : Int) : List V := [.f (.lit (.int .u8 a0)), .f (.lit (.int .u16 a1)), .f (.lit (.int .u8 a2)), .undef, .undef]
abbrev K1Lp100_3 {R : Type} (k : Ex → List V → Option R) (i0 : Int) : Int → Int → Option R := fun i1 i2 => k (Ex.exit (0 : Nat)) (W60 i0 i1 i2)
/-- - -/
noncomputable def Lp100_3_step {R : Type} (m : Nat) (kx0 : Int → Int → Option R) (i0 : Int) (REC : Int → Int → Option R) (i3 i4 : Int) : Option R :=
 bif decide (i4 ≤ i0) then (Fn85 m i4 (fun i5 => REC (bitsOp IntKind.u16 (BitVec.ofInt (16 : Nat) i3 ||| BitVec.ofInt (16 : Nat) i5)) (IntKind.wrap IntKind.u8 (i4 + (1 : Int))))) else
 (kx0 i3 i4)
noncomputable def Lp100_3 {R : Type} (m : Nat) (kx0 : Int → Int → Option R) (i0 : Int) : Nat → Int → Int → Option R
 | 0, _, _ => none
 | n + 1, i3, i4 => Lp100_3_step m kx0 i0 (Lp100_3 m kx0 i0 n) i3 i4
noncomputable def ELp100_3 (m : Nat) (R : Type) : Nat → List V → (Ex → List V → Option R) → Option R
 | 0, _, _ => none
 | n + 1, vs, k => match vs with
  | [.f (.lit (.int .u8 i0)), .f (.lit (.int .u16 i3)), .f (.lit (.int .u8 i4)), .undef, .undef] => Lp100_3_step m (K1Lp100_3 k i0) i0 (fun i3 i4 => ELp100_3 m R n (W60 i0 i3 i4) k) i3 i4
  | _ => none
noncomputable def brLp100_3 (m : Nat) (L : LTbl) (R : Type) (vs : List V) (k : Ex → List V → Option R) : Option R := match vs with
 | [.f (.lit (.int .u8 i0)), .f (.lit (.int .u16 i3)), .f (.lit (.int .u8 i4)), .undef, .undef] => Lp100_3 m (K1Lp100_3 k i0) i0 m i3 i4
 | _ => L R 100 3 vs k
set_option maxRecDepth 100000 in
theorem stLp100_3 (m n : Nat) (R : Type) (i0 i3 i4 : Int) (k : Ex → List V → Option R) : codeK Tryd.prog H (T42 m) 100 (L29 m) 4 (loopBody Tryd.prog 100 3) (mkEnv [1, 5, 6, 18, 19] (W60 i0 i3 i4) 0 (H.len 100)) (fun e env' => match e with | .normal => ELp100_3 m R n (vals [1, 5, 6, 18, 19] env') k | e => k e (vals [1, 5, 6, 18, 19] env')) = Lp100_3_step m (K1Lp100_3 k i0) i0 (fun i3 i4 => ELp100_3 m R n (W60 i0 i3 i4) k) i3 i4 := by kernel_rfl
theorem eqLp100_3 (m : Nat) (R : Type) (i0 : Int) (k : Ex → List V → Option R) : ∀ (n : Nat) (i3 i4 : Int), ELp100_3 m R n (W60 i0 i3 i4) k = Lp100_3 m (K1Lp100_3 k i0) i0 n i3 i4
 | 0, _, _ => rfl
 | n + 1, i3, i4 => by
  simp only [ELp100_3, Lp100_3, W60]
  congr 1
  funext i3 i4
  exact eqLp100_3 m R i0 k n i3 i4
noncomputable def L30 (m : Nat) : LTbl := addB 100 3 (brLp100_3 m (L29 m)) (L29 m)
theorem okL30 (m : Nat) : LTOk Tryd.prog H (L30 m) := addB_ok (okT42 m) hM (okL29 m) (l := [1, 5, 6, 18, 19]) (by kernel_rfl) (by kernel_rfl) m (fun R n vs k => ELp100_3 m R n vs k) (fun R vs k => rfl) (fun R n vs k x h => by
   simp only [ELp100_3] at h
   split at h
   ·exact (stLp100_3 m n R _ _ _ k).trans h
   ·cases h) fun R vs k x h => by
  unfold brLp100_3 at h
  split at h
  ·exact .inl ((eqLp100_3 m R _ k m _ _).trans h)
  ·exact .inr h

abbrev W61 (a0 a1 : Int) : List V := [.f (.lit (.int .u8 a0)), .f (.lit (.int .u8 a1))]
/-- - -/
noncomputable def Fn100 {R : Type} (m : Nat) : Int → Int → (Int → Option R) → Option R := match m with
 | 0 => fun _ _ _ => none
 | m + 1 => fun i0 i1 k =>
 Lp100_3 m (fun i2 i3 => k i2) i1 m ((0 : Int)) i0
noncomputable def brFn100 (m : Nat) (T : Tbl) (R : Type) (vs : List V) (k : V → List V → Option R) : Option R := match vs with
 | [.f (.lit (.int .u8 i0)), .f (.lit (.int .u8 i1))] => Fn100 m i0 i1 (fun i4 => k (V.f (F.lit (Value.int IntKind.u16 i4))) W1)
 | _ => T R 100 vs k
set_option maxRecDepth 100000 in
theorem evFn100 (m : Nat) (R : Type) (i0 i1 : Int) (k : V → List V → Option R) : runK Tryd.prog H (T42 m) (L30 m) 100 (W61 i0 i1) k = Fn100 (m + 1) i0 i1 (fun i4 => k (V.f (F.lit (Value.int IntKind.u16 i4))) W1) := by kernel_rfl
noncomputable def T43 (m : Nat) : Tbl := addT 100 (brFn100 m (T42 m)) (T42 m)
theorem okT43 (m : Nat) : TblOk Tryd.prog (T43 m) := addT_ok (okT42 m) fun R vs k x h => by
 unfold brFn100 at h
 split at h
 ·cases m with
  | zero => cases h
  | succ m => exact runK_some (okT42 m) hM (okL30 m) ((evFn100 m R _ _ k).trans h)
 ·exact okT42 m R 100 _ k x h

abbrev W62 (a0 : ByteArray) (a1 a2 a3 a4 a5 a6 a7 : Int) (a8 : Bool) : List V := [.f (.lit (.string a0)), .f (.lit (.int .u16 a1)), .f (.lit (.int .i64 a2)), .f (.lit (.int .i64 a3)), .f (.lit (.int .u16 a4)), .f (.lit (.int .i64 a5)), .f (.lit (.int .u8 a6)), .f (.lit (.int .u8 a7)), .f (.lit (.bool a8)), .undef]
/-- - -/
noncomputable def Jn101_15 {R : Type} (m : Nat) (kx0 : Int → Int → Bool → Option R) (s0 : ByteArray) (i1 i2 i3 i4 i5 i6 i7 : Int) (b8 : Bool) : Option R :=
 bif b8 then (bif decide ((0 : Int) ≤ IntKind.wrap IntKind.i64 (i5 + (2 : Int)) ∧ IntKind.wrap IntKind.i64 (i5 + (2 : Int)) < (↑(ByteArray.size s0) : Int)) then (kx0 (IntKind.wrap IntKind.i64 (i5 + (2 : Int))) ((↑(UInt8.toNat (Array.getD (ByteArray.data s0) (Int.toNat (IntKind.wrap IntKind.i64 (i5 + (2 : Int)))) (0 : UInt8))) : Int)) true) else
 (none)) else
 (kx0 i5 i7 false)
noncomputable def brJn101_15 (m : Nat) (L : LTbl) (R : Type) (vs : List V) (k : Ex → List V → Option R) : Option R := match vs with
 | [.f (.lit (.string s0)), .f (.lit (.int .u16 i1)), .f (.lit (.int .i64 i2)), .f (.lit (.int .i64 i3)), .f (.lit (.int .u16 i4)), .f (.lit (.int .i64 i5)), .f (.lit (.int .u8 i6)), .f (.lit (.int .u8 i7)), .f (.lit (.bool b8)), .undef] => Jn101_15 m (fun i9 i10 b11 => k Ex.normal (W62 s0 i1 i2 i3 i4 i9 i6 i10 b11)) s0 i1 i2 i3 i4 i5 i6 i7 b8
 | _ => L R 101 15 vs k
set_option maxRecDepth 100000 in
theorem evJn101_15 (m : Nat) (R : Type) (s0 : ByteArray) (i1 i2 i3 i4 i5 i6 i7 : Int) (b8 : Bool) (k : Ex → List V → Option R) : codeK Tryd.prog H (T43 m) 101 (L30 m) 16 (loopBody Tryd.prog 101 15) (mkEnv [0, 2, 3, 4, 5, 6, 7, 8, 53, 94] (W62 s0 i1 i2 i3 i4 i5 i6 i7 b8) 0 (H.len 101)) (fun e env' => k e (vals [0, 2, 3, 4, 5, 6, 7, 8, 53, 94] env')) = Jn101_15 m (fun i9 i10 b11 => k Ex.normal (W62 s0 i1 i2 i3 i4 i9 i6 i10 b11)) s0 i1 i2 i3 i4 i5 i6 i7 b8 := by kernel_rfl
noncomputable def L31 (m : Nat) : LTbl := addJ 101 15 (brJn101_15 m (L30 m)) (L30 m)
theorem okL31 (m : Nat) : LTOk Tryd.prog H (L31 m) := addJ_ok (okT43 m) hM (okL30 m) (l := [0, 2, 3, 4, 5, 6, 7, 8, 53, 94]) (by kernel_rfl) (by kernel_rfl) fun R vs k x h => by
  unfold brJn101_15 at h
  split at h
  ·exact .inl ((evJn101_15 m R _ _ _ _ _ _ _ _ _ k).trans h)
  ·exact .inr h

abbrev W63 (a0 : ByteArray) (a1 a2 a3 a4 a5 a6 : Int) : List V := [.f (.lit (.string a0)), .f (.lit (.int .u16 a1)), .f (.lit (.int .i64 a2)), .f (.lit (.int .i64 a3)), .f (.lit (.int .u16 a4)), .f (.lit (.int .i64 a5)), .f (.lit (.int .u8 a6)), .undef]
/-- - -/
noncomputable def Jn101_13 {R : Type} (m : Nat) (kx0 : Int → Int → Option R) (s0 : ByteArray) (i1 i2 i3 i4 i5 i6 : Int) : Option R :=
 bif decide (IntKind.wrap IntKind.i64 (i5 + (2 : Int)) < i3) then (bif decide ((0 : Int) ≤ IntKind.wrap IntKind.i64 (i5 + (1 : Int)) ∧ IntKind.wrap IntKind.i64 (i5 + (1 : Int)) < (↑(ByteArray.size s0) : Int)) then (bif (↑(UInt8.toNat (Array.getD (ByteArray.data s0) (Int.toNat (IntKind.wrap IntKind.i64 (i5 + (1 : Int)))) (0 : UInt8))) : Int) == (45 : Int) then (bif decide ((0 : Int) ≤ IntKind.wrap IntKind.i64 (i5 + (2 : Int)) ∧ IntKind.wrap IntKind.i64 (i5 + (2 : Int)) < (↑(ByteArray.size s0) : Int)) then (bif decide ((↑(UInt8.toNat (Array.getD (ByteArray.data s0) (Int.toNat (IntKind.wrap IntKind.i64 (i5 + (2 : Int)))) (0 : UInt8))) : Int) > i6) then (bif decide ((0 : Int) ≤ IntKind.wrap IntKind.i64 (i5 + (2 : Int)) ∧ IntKind.wrap IntKind.i64 (i5 + (2 : Int)) < (↑(ByteArray.size s0) : Int)) then (Jn101_15 m (fun i7 i8 b9 => Fn100 m i6 i8 (fun i10 => kx0 (bitsOp IntKind.u16 (BitVec.ofInt (16 : Nat) i4 ||| BitVec.ofInt (16 : Nat) i10)) i7)) s0 i1 i2 i3 i4 i5 i6 i6 (decide ((↑(UInt8.toNat (Array.getD (ByteArray.data s0) (Int.toNat (IntKind.wrap IntKind.i64 (i5 + (2 : Int)))) (0 : UInt8))) : Int) ≤ (57 : Int)))) else
 (none)) else
 (Jn101_15 m (fun i11 i12 b13 => Fn100 m i6 i12 (fun i14 => kx0 (bitsOp IntKind.u16 (BitVec.ofInt (16 : Nat) i4 ||| BitVec.ofInt (16 : Nat) i14)) i11)) s0 i1 i2 i3 i4 i5 i6 i6 false)) else
 (none)) else
 (Jn101_15 m (fun i15 i16 b17 => Fn100 m i6 i16 (fun i18 => kx0 (bitsOp IntKind.u16 (BitVec.ofInt (16 : Nat) i4 ||| BitVec.ofInt (16 : Nat) i18)) i15)) s0 i1 i2 i3 i4 i5 i6 i6 false)) else
 (none)) else
 (Jn101_15 m (fun i19 i20 b21 => Fn100 m i6 i20 (fun i22 => kx0 (bitsOp IntKind.u16 (BitVec.ofInt (16 : Nat) i4 ||| BitVec.ofInt (16 : Nat) i22)) i19)) s0 i1 i2 i3 i4 i5 i6 i6 false)
noncomputable def brJn101_13 (m : Nat) (L : LTbl) (R : Type) (vs : List V) (k : Ex → List V → Option R) : Option R := match vs with
 | [.f (.lit (.string s0)), .f (.lit (.int .u16 i1)), .f (.lit (.int .i64 i2)), .f (.lit (.int .i64 i3)), .f (.lit (.int .u16 i4)), .f (.lit (.int .i64 i5)), .f (.lit (.int .u8 i6)), .undef] => Jn101_13 m (fun i23 i24 => k Ex.normal (W63 s0 i1 i2 i3 i23 i24 i6)) s0 i1 i2 i3 i4 i5 i6
 | _ => L R 101 13 vs k
set_option maxRecDepth 100000 in
theorem evJn101_13 (m : Nat) (R : Type) (s0 : ByteArray) (i1 i2 i3 i4 i5 i6 : Int) (k : Ex → List V → Option R) : codeK Tryd.prog H (T43 m) 101 (L31 m) 14 (loopBody Tryd.prog 101 13) (mkEnv [0, 2, 3, 4, 5, 6, 7, 94] (W63 s0 i1 i2 i3 i4 i5 i6) 0 (H.len 101)) (fun e env' => k e (vals [0, 2, 3, 4, 5, 6, 7, 94] env')) = Jn101_13 m (fun i23 i24 => k Ex.normal (W63 s0 i1 i2 i3 i23 i24 i6)) s0 i1 i2 i3 i4 i5 i6 := by kernel_rfl
noncomputable def L32 (m : Nat) : LTbl := addJ 101 13 (brJn101_13 m (L31 m)) (L31 m)
theorem okL32 (m : Nat) : LTOk Tryd.prog H (L32 m) := addJ_ok (okT43 m) hM (okL31 m) (l := [0, 2, 3, 4, 5, 6, 7, 94]) (by kernel_rfl) (by kernel_rfl) fun R vs k x h => by
  unfold brJn101_13 at h
  split at h
  ·exact .inl ((evJn101_13 m R _ _ _ _ _ _ _ k).trans h)
  ·exact .inr h

abbrev W64 (a0 : ByteArray) (a1 a2 a3 a4 a5 : Int) : List V := [.f (.lit (.string a0)), .f (.lit (.int .u16 a1)), .f (.lit (.int .i64 a2)), .f (.lit (.int .i64 a3)), .f (.lit (.int .u16 a4)), .f (.lit (.int .i64 a5)), .undef]
abbrev K1Lp101_7 {R : Type} (k : Ex → List V → Option R) (s0 : ByteArray) (i1 : Int) : Int → Int → Int → Int → Option R := fun i2 i3 i4 i5 => k Ex.ret (W64 s0 i2 i3 i1 i4 i5)
/-- - -/
noncomputable def Lp101_7_step {R : Type} (m : Nat) (kx0 : Int → Int → Int → Int → Option R) (kx1 : Int → Int → Option R) (s0 : ByteArray) (i6 i7 i1 : Int) (REC : Int → Int → Option R) (i8 i9 : Int) : Option R :=
 bif decide (i9 < i1) then (bif decide ((0 : Int) ≤ i9 ∧ i9 < (↑(ByteArray.size s0) : Int)) then (bif decide ((↑(UInt8.toNat (Array.getD (ByteArray.data s0) (Int.toNat i9) (0 : UInt8))) : Int) < (48 : Int)) then (kx0 ((0 : Int)) ((0 : Int)) i8 i9) else
 (bif decide ((↑(UInt8.toNat (Array.getD (ByteArray.data s0) (Int.toNat i9) (0 : UInt8))) : Int) > (57 : Int)) then (kx0 ((0 : Int)) ((0 : Int)) i8 i9) else
 (Jn101_13 m (fun i10 i11 => REC i10 (IntKind.wrap IntKind.i64 (i11 + (1 : Int)))) s0 i6 i7 i1 i8 i9 ((↑(UInt8.toNat (Array.getD (ByteArray.data s0) (Int.toNat i9) (0 : UInt8))) : Int))))) else
 (none)) else
 (kx1 i8 i9)
noncomputable def Lp101_7 {R : Type} (m : Nat) (kx0 : Int → Int → Int → Int → Option R) (kx1 : Int → Int → Option R) (s0 : ByteArray) (i6 i7 i1 : Int) : Nat → Int → Int → Option R
 | 0, _, _ => none
 | n + 1, i8, i9 => Lp101_7_step m kx0 kx1 s0 i6 i7 i1 (Lp101_7 m kx0 kx1 s0 i6 i7 i1 n) i8 i9
noncomputable def ELp101_7 (m : Nat) (R : Type) : Nat → List V → (Ex → List V → Option R) → Option R
 | 0, _, _ => none
 | n + 1, vs, k => match vs with
  | [.f (.lit (.string s0)), .f (.lit (.int .u16 i6)), .f (.lit (.int .i64 i7)), .f (.lit (.int .i64 i1)), .f (.lit (.int .u16 i8)), .f (.lit (.int .i64 i9)), .undef] => Lp101_7_step m (K1Lp101_7 k s0 i1) (fun i12 i13 => k (Ex.exit (0 : Nat)) (W64 s0 i6 i7 i1 i12 i13)) s0 i6 i7 i1 (fun i8 i9 => ELp101_7 m R n (W64 s0 i6 i7 i1 i8 i9) k) i8 i9
  | _ => none
noncomputable def brLp101_7 (m : Nat) (L : LTbl) (R : Type) (vs : List V) (k : Ex → List V → Option R) : Option R := match vs with
 | [.f (.lit (.string s0)), .f (.lit (.int .u16 i6)), .f (.lit (.int .i64 i7)), .f (.lit (.int .i64 i1)), .f (.lit (.int .u16 i8)), .f (.lit (.int .i64 i9)), .undef] => Lp101_7 m (K1Lp101_7 k s0 i1) (fun i12 i13 => k (Ex.exit (0 : Nat)) (W64 s0 i6 i7 i1 i12 i13)) s0 i6 i7 i1 m i8 i9
 | _ => L R 101 7 vs k
set_option maxRecDepth 100000 in
theorem stLp101_7 (m n : Nat) (R : Type) (s0 : ByteArray) (i6 i7 i1 i8 i9 : Int) (k : Ex → List V → Option R) : codeK Tryd.prog H (T43 m) 101 (L32 m) 8 (loopBody Tryd.prog 101 7) (mkEnv [0, 2, 3, 4, 5, 6, 94] (W64 s0 i6 i7 i1 i8 i9) 0 (H.len 101)) (fun e env' => match e with | .normal => ELp101_7 m R n (vals [0, 2, 3, 4, 5, 6, 94] env') k | e => k e (vals [0, 2, 3, 4, 5, 6, 94] env')) = Lp101_7_step m (K1Lp101_7 k s0 i1) (fun i12 i13 => k (Ex.exit (0 : Nat)) (W64 s0 i6 i7 i1 i12 i13)) s0 i6 i7 i1 (fun i8 i9 => ELp101_7 m R n (W64 s0 i6 i7 i1 i8 i9) k) i8 i9 := by kernel_rfl
theorem eqLp101_7 (m : Nat) (R : Type) (s0 : ByteArray) (i6 i7 i1 : Int) (k : Ex → List V → Option R) : ∀ (n : Nat) (i8 i9 : Int), ELp101_7 m R n (W64 s0 i6 i7 i1 i8 i9) k = Lp101_7 m (K1Lp101_7 k s0 i1) (fun i12 i13 => k (Ex.exit (0 : Nat)) (W64 s0 i6 i7 i1 i12 i13)) s0 i6 i7 i1 n i8 i9
 | 0, _, _ => rfl
 | n + 1, i8, i9 => by
  simp only [ELp101_7, Lp101_7, W64]
  congr 1
  funext i8 i9
  exact eqLp101_7 m R s0 i6 i7 i1 k n i8 i9
noncomputable def L33 (m : Nat) : LTbl := addB 101 7 (brLp101_7 m (L32 m)) (L32 m)
theorem okL33 (m : Nat) : LTOk Tryd.prog H (L33 m) := addB_ok (okT43 m) hM (okL32 m) (l := [0, 2, 3, 4, 5, 6, 94]) (by kernel_rfl) (by kernel_rfl) m (fun R n vs k => ELp101_7 m R n vs k) (fun R vs k => rfl) (fun R n vs k x h => by
   simp only [ELp101_7] at h
   split at h
   ·exact (stLp101_7 m n R _ _ _ _ _ _ k).trans h
   ·cases h) fun R vs k x h => by
  unfold brLp101_7 at h
  split at h
  ·exact .inl ((eqLp101_7 m R _ _ _ _ k m _ _).trans h)
  ·exact .inr h

abbrev W65 (a0 : Int) : List V := [.f (.lit (.int .u16 a0))]
/-- - -/
noncomputable def Fn126 {R : Type} (m : Nat) : Int → (Int → Option R) → Option R := match m with
 | 0 => fun _ _ => none
 | m + 1 => fun i0 k =>
 bif decide ((0 : Int) ≤ Int.fdiv i0 ((2 : Int) ^ min (Int.toNat (8 : Int)) (16 : Nat)) ∧ Int.fdiv i0 ((2 : Int) ^ min (Int.toNat (8 : Int)) (16 : Nat)) < (↑(ByteArray.size { data := #[(0 : UInt8), (1 : UInt8), (1 : UInt8), (2 : UInt8), (1 : UInt8), (2 : UInt8), (2 : UInt8), (3 : UInt8), (1 : UInt8), (2 : UInt8), (2 : UInt8), (3 : UInt8), (2 : UInt8), (3 : UInt8), (3 : UInt8), (4 : UInt8), (1 : UInt8), (2 : UInt8), (2 : UInt8), (3 : UInt8), (2 : UInt8), (3 : UInt8), (3 : UInt8), (4 : UInt8), (2 : UInt8), (3 : UInt8), (3 : UInt8), (4 : UInt8), (3 : UInt8), (4 : UInt8), (4 : UInt8), (5 : UInt8), (1 : UInt8), (2 : UInt8), (2 : UInt8), (3 : UInt8), (2 : UInt8), (3 : UInt8), (3 : UInt8), (4 : UInt8), (2 : UInt8), (3 : UInt8), (3 : UInt8), (4 : UInt8), (3 : UInt8), (4 : UInt8), (4 : UInt8), (5 : UInt8), (2 : UInt8), (3 : UInt8), (3 : UInt8), (4 : UInt8), (3 : UInt8), (4 : UInt8), (4 : UInt8), (5 : UInt8), (3 : UInt8), (4 : UInt8), (4 : UInt8), (5 : UInt8), (4 : UInt8), (5 : UInt8), (5 : UInt8), (6 : UInt8), (1 : UInt8), (2 : UInt8), (2 : UInt8), (3 : UInt8), (2 : UInt8), (3 : UInt8), (3 : UInt8), (4 : UInt8), (2 : UInt8), (3 : UInt8), (3 : UInt8), (4 : UInt8), (3 : UInt8), (4 : UInt8), (4 : UInt8), (5 : UInt8), (2 : UInt8), (3 : UInt8), (3 : UInt8), (4 : UInt8), (3 : UInt8), (4 : UInt8), (4 : UInt8), (5 : UInt8), (3 : UInt8), (4 : UInt8), (4 : UInt8), (5 : UInt8), (4 : UInt8), (5 : UInt8), (5 : UInt8), (6 : UInt8), (2 : UInt8), (3 : UInt8), (3 : UInt8), (4 : UInt8), (3 : UInt8), (4 : UInt8), (4 : UInt8), (5 : UInt8), (3 : UInt8), (4 : UInt8), (4 : UInt8), (5 : UInt8), (4 : UInt8), (5 : UInt8), (5 : UInt8), (6 : UInt8), (3 : UInt8), (4 : UInt8), (4 : UInt8), (5 : UInt8), (4 : UInt8), (5 : UInt8), (5 : UInt8), (6 : UInt8), (4 : UInt8), (5 : UInt8), (5 : UInt8), (6 : UInt8), (5 : UInt8), (6 : UInt8), (6 : UInt8), (7 : UInt8), (1 : UInt8), (2 : UInt8), (2 : UInt8), (3 : UInt8), (2 : UInt8), (3 : UInt8), (3 : UInt8), (4 : UInt8), (2 : UInt8), (3 : UInt8), (3 : UInt8), (4 : UInt8), (3 : UInt8), (4 : UInt8), (4 : UInt8), (5 : UInt8), (2 : UInt8), (3 : UInt8), (3 : UInt8), (4 : UInt8), (3 : UInt8), (4 : UInt8), (4 : UInt8), (5 : UInt8), (3 : UInt8), (4 : UInt8), (4 : UInt8), (5 : UInt8), (4 : UInt8), (5 : UInt8), (5 : UInt8), (6 : UInt8), (2 : UInt8), (3 : UInt8), (3 : UInt8), (4 : UInt8), (3 : UInt8), (4 : UInt8), (4 : UInt8), (5 : UInt8), (3 : UInt8), (4 : UInt8), (4 : UInt8), (5 : UInt8), (4 : UInt8), (5 : UInt8), (5 : UInt8), (6 : UInt8), (3 : UInt8), (4 : UInt8), (4 : UInt8), (5 : UInt8), (4 : UInt8), (5 : UInt8), (5 : UInt8), (6 : UInt8), (4 : UInt8), (5 : UInt8), (5 : UInt8), (6 : UInt8), (5 : UInt8), (6 : UInt8), (6 : UInt8), (7 : UInt8), (2 : UInt8), (3 : UInt8), (3 : UInt8), (4 : UInt8), (3 : UInt8), (4 : UInt8), (4 : UInt8), (5 : UInt8), (3 : UInt8), (4 : UInt8), (4 : UInt8), (5 : UInt8), (4 : UInt8), (5 : UInt8), (5 : UInt8), (6 : UInt8), (3 : UInt8), (4 : UInt8), (4 : UInt8), (5 : UInt8), (4 : UInt8), (5 : UInt8), (5 : UInt8), (6 : UInt8), (4 : UInt8), (5 : UInt8), (5 : UInt8), (6 : UInt8), (5 : UInt8), (6 : UInt8), (6 : UInt8), (7 : UInt8), (3 : UInt8), (4 : UInt8), (4 : UInt8), (5 : UInt8), (4 : UInt8), (5 : UInt8), (5 : UInt8), (6 : UInt8), (4 : UInt8), (5 : UInt8), (5 : UInt8), (6 : UInt8), (5 : UInt8), (6 : UInt8), (6 : UInt8), (7 : UInt8), (4 : UInt8), (5 : UInt8), (5 : UInt8), (6 : UInt8), (5 : UInt8), (6 : UInt8), (6 : UInt8), (7 : UInt8), (5 : UInt8), (6 : UInt8), (6 : UInt8), (7 : UInt8), (6 : UInt8), (7 : UInt8), (7 : UInt8), (8 : UInt8)] }) : Int)) then (bif decide ((0 : Int) ≤ bitsOp IntKind.u16 (BitVec.ofInt (16 : Nat) i0 &&& BitVec.ofInt (16 : Nat) (255 : Int)) ∧ bitsOp IntKind.u16 (BitVec.ofInt (16 : Nat) i0 &&& BitVec.ofInt (16 : Nat) (255 : Int)) < (↑(ByteArray.size { data := #[(0 : UInt8), (1 : UInt8), (1 : UInt8), (2 : UInt8), (1 : UInt8), (2 : UInt8), (2 : UInt8), (3 : UInt8), (1 : UInt8), (2 : UInt8), (2 : UInt8), (3 : UInt8), (2 : UInt8), (3 : UInt8), (3 : UInt8), (4 : UInt8), (1 : UInt8), (2 : UInt8), (2 : UInt8), (3 : UInt8), (2 : UInt8), (3 : UInt8), (3 : UInt8), (4 : UInt8), (2 : UInt8), (3 : UInt8), (3 : UInt8), (4 : UInt8), (3 : UInt8), (4 : UInt8), (4 : UInt8), (5 : UInt8), (1 : UInt8), (2 : UInt8), (2 : UInt8), (3 : UInt8), (2 : UInt8), (3 : UInt8), (3 : UInt8), (4 : UInt8), (2 : UInt8), (3 : UInt8), (3 : UInt8), (4 : UInt8), (3 : UInt8), (4 : UInt8), (4 : UInt8), (5 : UInt8), (2 : UInt8), (3 : UInt8), (3 : UInt8), (4 : UInt8), (3 : UInt8), (4 : UInt8), (4 : UInt8), (5 : UInt8), (3 : UInt8), (4 : UInt8), (4 : UInt8), (5 : UInt8), (4 : UInt8), (5 : UInt8), (5 : UInt8), (6 : UInt8), (1 : UInt8), (2 : UInt8), (2 : UInt8), (3 : UInt8), (2 : UInt8), (3 : UInt8), (3 : UInt8), (4 : UInt8), (2 : UInt8), (3 : UInt8), (3 : UInt8), (4 : UInt8), (3 : UInt8), (4 : UInt8), (4 : UInt8), (5 : UInt8), (2 : UInt8), (3 : UInt8), (3 : UInt8), (4 : UInt8), (3 : UInt8), (4 : UInt8), (4 : UInt8), (5 : UInt8), (3 : UInt8), (4 : UInt8), (4 : UInt8), (5 : UInt8), (4 : UInt8), (5 : UInt8), (5 : UInt8), (6 : UInt8), (2 : UInt8), (3 : UInt8), (3 : UInt8), (4 : UInt8), (3 : UInt8), (4 : UInt8), (4 : UInt8), (5 : UInt8), (3 : UInt8), (4 : UInt8), (4 : UInt8), (5 : UInt8), (4 : UInt8), (5 : UInt8), (5 : UInt8), (6 : UInt8), (3 : UInt8), (4 : UInt8), (4 : UInt8), (5 : UInt8), (4 : UInt8), (5 : UInt8), (5 : UInt8), (6 : UInt8), (4 : UInt8), (5 : UInt8), (5 : UInt8), (6 : UInt8), (5 : UInt8), (6 : UInt8), (6 : UInt8), (7 : UInt8), (1 : UInt8), (2 : UInt8), (2 : UInt8), (3 : UInt8), (2 : UInt8), (3 : UInt8), (3 : UInt8), (4 : UInt8), (2 : UInt8), (3 : UInt8), (3 : UInt8), (4 : UInt8), (3 : UInt8), (4 : UInt8), (4 : UInt8), (5 : UInt8), (2 : UInt8), (3 : UInt8), (3 : UInt8), (4 : UInt8), (3 : UInt8), (4 : UInt8), (4 : UInt8), (5 : UInt8), (3 : UInt8), (4 : UInt8), (4 : UInt8), (5 : UInt8), (4 : UInt8), (5 : UInt8), (5 : UInt8), (6 : UInt8), (2 : UInt8), (3 : UInt8), (3 : UInt8), (4 : UInt8), (3 : UInt8), (4 : UInt8), (4 : UInt8), (5 : UInt8), (3 : UInt8), (4 : UInt8), (4 : UInt8), (5 : UInt8), (4 : UInt8), (5 : UInt8), (5 : UInt8), (6 : UInt8), (3 : UInt8), (4 : UInt8), (4 : UInt8), (5 : UInt8), (4 : UInt8), (5 : UInt8), (5 : UInt8), (6 : UInt8), (4 : UInt8), (5 : UInt8), (5 : UInt8), (6 : UInt8), (5 : UInt8), (6 : UInt8), (6 : UInt8), (7 : UInt8), (2 : UInt8), (3 : UInt8), (3 : UInt8), (4 : UInt8), (3 : UInt8), (4 : UInt8), (4 : UInt8), (5 : UInt8), (3 : UInt8), (4 : UInt8), (4 : UInt8), (5 : UInt8), (4 : UInt8), (5 : UInt8), (5 : UInt8), (6 : UInt8), (3 : UInt8), (4 : UInt8), (4 : UInt8), (5 : UInt8), (4 : UInt8), (5 : UInt8), (5 : UInt8), (6 : UInt8), (4 : UInt8), (5 : UInt8), (5 : UInt8), (6 : UInt8), (5 : UInt8), (6 : UInt8), (6 : UInt8), (7 : UInt8), (3 : UInt8), (4 : UInt8), (4 : UInt8), (5 : UInt8), (4 : UInt8), (5 : UInt8), (5 : UInt8), (6 : UInt8), (4 : UInt8), (5 : UInt8), (5 : UInt8), (6 : UInt8), (5 : UInt8), (6 : UInt8), (6 : UInt8), (7 : UInt8), (4 : UInt8), (5 : UInt8), (5 : UInt8), (6 : UInt8), (5 : UInt8), (6 : UInt8), (6 : UInt8), (7 : UInt8), (5 : UInt8), (6 : UInt8), (6 : UInt8), (7 : UInt8), (6 : UInt8), (7 : UInt8), (7 : UInt8), (8 : UInt8)] }) : Int)) then (k (IntKind.wrap IntKind.i64 (IntKind.wrap IntKind.u8 ((↑(UInt8.toNat (Array.getD (ByteArray.data { data := #[(0 : UInt8), (1 : UInt8), (1 : UInt8), (2 : UInt8), (1 : UInt8), (2 : UInt8), (2 : UInt8), (3 : UInt8), (1 : UInt8), (2 : UInt8), (2 : UInt8), (3 : UInt8), (2 : UInt8), (3 : UInt8), (3 : UInt8), (4 : UInt8), (1 : UInt8), (2 : UInt8), (2 : UInt8), (3 : UInt8), (2 : UInt8), (3 : UInt8), (3 : UInt8), (4 : UInt8), (2 : UInt8), (3 : UInt8), (3 : UInt8), (4 : UInt8), (3 : UInt8), (4 : UInt8), (4 : UInt8), (5 : UInt8), (1 : UInt8), (2 : UInt8), (2 : UInt8), (3 : UInt8), (2 : UInt8), (3 : UInt8), (3 : UInt8), (4 : UInt8), (2 : UInt8), (3 : UInt8), (3 : UInt8), (4 : UInt8), (3 : UInt8), (4 : UInt8), (4 : UInt8), (5 : UInt8), (2 : UInt8), (3 : UInt8), (3 : UInt8), (4 : UInt8), (3 : UInt8), (4 : UInt8), (4 : UInt8), (5 : UInt8), (3 : UInt8), (4 : UInt8), (4 : UInt8), (5 : UInt8), (4 : UInt8), (5 : UInt8), (5 : UInt8), (6 : UInt8), (1 : UInt8), (2 : UInt8), (2 : UInt8), (3 : UInt8), (2 : UInt8), (3 : UInt8), (3 : UInt8), (4 : UInt8), (2 : UInt8), (3 : UInt8), (3 : UInt8), (4 : UInt8), (3 : UInt8), (4 : UInt8), (4 : UInt8), (5 : UInt8), (2 : UInt8), (3 : UInt8), (3 : UInt8), (4 : UInt8), (3 : UInt8), (4 : UInt8), (4 : UInt8), (5 : UInt8), (3 : UInt8), (4 : UInt8), (4 : UInt8), (5 : UInt8), (4 : UInt8), (5 : UInt8), (5 : UInt8), (6 : UInt8), (2 : UInt8), (3 : UInt8), (3 : UInt8), (4 : UInt8), (3 : UInt8), (4 : UInt8), (4 : UInt8), (5 : UInt8), (3 : UInt8), (4 : UInt8), (4 : UInt8), (5 : UInt8), (4 : UInt8), (5 : UInt8), (5 : UInt8), (6 : UInt8), (3 : UInt8), (4 : UInt8), (4 : UInt8), (5 : UInt8), (4 : UInt8), (5 : UInt8), (5 : UInt8), (6 : UInt8), (4 : UInt8), (5 : UInt8), (5 : UInt8), (6 : UInt8), (5 : UInt8), (6 : UInt8), (6 : UInt8), (7 : UInt8), (1 : UInt8), (2 : UInt8), (2 : UInt8), (3 : UInt8), (2 : UInt8), (3 : UInt8), (3 : UInt8), (4 : UInt8), (2 : UInt8), (3 : UInt8), (3 : UInt8), (4 : UInt8), (3 : UInt8), (4 : UInt8), (4 : UInt8), (5 : UInt8), (2 : UInt8), (3 : UInt8), (3 : UInt8), (4 : UInt8), (3 : UInt8), (4 : UInt8), (4 : UInt8), (5 : UInt8), (3 : UInt8), (4 : UInt8), (4 : UInt8), (5 : UInt8), (4 : UInt8), (5 : UInt8), (5 : UInt8), (6 : UInt8), (2 : UInt8), (3 : UInt8), (3 : UInt8), (4 : UInt8), (3 : UInt8), (4 : UInt8), (4 : UInt8), (5 : UInt8), (3 : UInt8), (4 : UInt8), (4 : UInt8), (5 : UInt8), (4 : UInt8), (5 : UInt8), (5 : UInt8), (6 : UInt8), (3 : UInt8), (4 : UInt8), (4 : UInt8), (5 : UInt8), (4 : UInt8), (5 : UInt8), (5 : UInt8), (6 : UInt8), (4 : UInt8), (5 : UInt8), (5 : UInt8), (6 : UInt8), (5 : UInt8), (6 : UInt8), (6 : UInt8), (7 : UInt8), (2 : UInt8), (3 : UInt8), (3 : UInt8), (4 : UInt8), (3 : UInt8), (4 : UInt8), (4 : UInt8), (5 : UInt8), (3 : UInt8), (4 : UInt8), (4 : UInt8), (5 : UInt8), (4 : UInt8), (5 : UInt8), (5 : UInt8), (6 : UInt8), (3 : UInt8), (4 : UInt8), (4 : UInt8), (5 : UInt8), (4 : UInt8), (5 : UInt8), (5 : UInt8), (6 : UInt8), (4 : UInt8), (5 : UInt8), (5 : UInt8), (6 : UInt8), (5 : UInt8), (6 : UInt8), (6 : UInt8), (7 : UInt8), (3 : UInt8), (4 : UInt8), (4 : UInt8), (5 : UInt8), (4 : UInt8), (5 : UInt8), (5 : UInt8), (6 : UInt8), (4 : UInt8), (5 : UInt8), (5 : UInt8), (6 : UInt8), (5 : UInt8), (6 : UInt8), (6 : UInt8), (7 : UInt8), (4 : UInt8), (5 : UInt8), (5 : UInt8), (6 : UInt8), (5 : UInt8), (6 : UInt8), (6 : UInt8), (7 : UInt8), (5 : UInt8), (6 : UInt8), (6 : UInt8), (7 : UInt8), (6 : UInt8), (7 : UInt8), (7 : UInt8), (8 : UInt8)] }) (Int.toNat (Int.fdiv i0 ((2 : Int) ^ min (Int.toNat (8 : Int)) (16 : Nat)))) (0 : UInt8))) : Int) + (↑(UInt8.toNat (Array.getD (ByteArray.data { data := #[(0 : UInt8), (1 : UInt8), (1 : UInt8), (2 : UInt8), (1 : UInt8), (2 : UInt8), (2 : UInt8), (3 : UInt8), (1 : UInt8), (2 : UInt8), (2 : UInt8), (3 : UInt8), (2 : UInt8), (3 : UInt8), (3 : UInt8), (4 : UInt8), (1 : UInt8), (2 : UInt8), (2 : UInt8), (3 : UInt8), (2 : UInt8), (3 : UInt8), (3 : UInt8), (4 : UInt8), (2 : UInt8), (3 : UInt8), (3 : UInt8), (4 : UInt8), (3 : UInt8), (4 : UInt8), (4 : UInt8), (5 : UInt8), (1 : UInt8), (2 : UInt8), (2 : UInt8), (3 : UInt8), (2 : UInt8), (3 : UInt8), (3 : UInt8), (4 : UInt8), (2 : UInt8), (3 : UInt8), (3 : UInt8), (4 : UInt8), (3 : UInt8), (4 : UInt8), (4 : UInt8), (5 : UInt8), (2 : UInt8), (3 : UInt8), (3 : UInt8), (4 : UInt8), (3 : UInt8), (4 : UInt8), (4 : UInt8), (5 : UInt8), (3 : UInt8), (4 : UInt8), (4 : UInt8), (5 : UInt8), (4 : UInt8), (5 : UInt8), (5 : UInt8), (6 : UInt8), (1 : UInt8), (2 : UInt8), (2 : UInt8), (3 : UInt8), (2 : UInt8), (3 : UInt8), (3 : UInt8), (4 : UInt8), (2 : UInt8), (3 : UInt8), (3 : UInt8), (4 : UInt8), (3 : UInt8), (4 : UInt8), (4 : UInt8), (5 : UInt8), (2 : UInt8), (3 : UInt8), (3 : UInt8), (4 : UInt8), (3 : UInt8), (4 : UInt8), (4 : UInt8), (5 : UInt8), (3 : UInt8), (4 : UInt8), (4 : UInt8), (5 : UInt8), (4 : UInt8), (5 : UInt8), (5 : UInt8), (6 : UInt8), (2 : UInt8), (3 : UInt8), (3 : UInt8), (4 : UInt8), (3 : UInt8), (4 : UInt8), (4 : UInt8), (5 : UInt8), (3 : UInt8), (4 : UInt8), (4 : UInt8), (5 : UInt8), (4 : UInt8), (5 : UInt8), (5 : UInt8), (6 : UInt8), (3 : UInt8), (4 : UInt8), (4 : UInt8), (5 : UInt8), (4 : UInt8), (5 : UInt8), (5 : UInt8), (6 : UInt8), (4 : UInt8), (5 : UInt8), (5 : UInt8), (6 : UInt8), (5 : UInt8), (6 : UInt8), (6 : UInt8), (7 : UInt8), (1 : UInt8), (2 : UInt8), (2 : UInt8), (3 : UInt8), (2 : UInt8), (3 : UInt8), (3 : UInt8), (4 : UInt8), (2 : UInt8), (3 : UInt8), (3 : UInt8), (4 : UInt8), (3 : UInt8), (4 : UInt8), (4 : UInt8), (5 : UInt8), (2 : UInt8), (3 : UInt8), (3 : UInt8), (4 : UInt8), (3 : UInt8), (4 : UInt8), (4 : UInt8), (5 : UInt8), (3 : UInt8), (4 : UInt8), (4 : UInt8), (5 : UInt8), (4 : UInt8), (5 : UInt8), (5 : UInt8), (6 : UInt8), (2 : UInt8), (3 : UInt8), (3 : UInt8), (4 : UInt8), (3 : UInt8), (4 : UInt8), (4 : UInt8), (5 : UInt8), (3 : UInt8), (4 : UInt8), (4 : UInt8), (5 : UInt8), (4 : UInt8), (5 : UInt8), (5 : UInt8), (6 : UInt8), (3 : UInt8), (4 : UInt8), (4 : UInt8), (5 : UInt8), (4 : UInt8), (5 : UInt8), (5 : UInt8), (6 : UInt8), (4 : UInt8), (5 : UInt8), (5 : UInt8), (6 : UInt8), (5 : UInt8), (6 : UInt8), (6 : UInt8), (7 : UInt8), (2 : UInt8), (3 : UInt8), (3 : UInt8), (4 : UInt8), (3 : UInt8), (4 : UInt8), (4 : UInt8), (5 : UInt8), (3 : UInt8), (4 : UInt8), (4 : UInt8), (5 : UInt8), (4 : UInt8), (5 : UInt8), (5 : UInt8), (6 : UInt8), (3 : UInt8), (4 : UInt8), (4 : UInt8), (5 : UInt8), (4 : UInt8), (5 : UInt8), (5 : UInt8), (6 : UInt8), (4 : UInt8), (5 : UInt8), (5 : UInt8), (6 : UInt8), (5 : UInt8), (6 : UInt8), (6 : UInt8), (7 : UInt8), (3 : UInt8), (4 : UInt8), (4 : UInt8), (5 : UInt8), (4 : UInt8), (5 : UInt8), (5 : UInt8), (6 : UInt8), (4 : UInt8), (5 : UInt8), (5 : UInt8), (6 : UInt8), (5 : UInt8), (6 : UInt8), (6 : UInt8), (7 : UInt8), (4 : UInt8), (5 : UInt8), (5 : UInt8), (6 : UInt8), (5 : UInt8), (6 : UInt8), (6 : UInt8), (7 : UInt8), (5 : UInt8), (6 : UInt8), (6 : UInt8), (7 : UInt8), (6 : UInt8), (7 : UInt8), (7 : UInt8), (8 : UInt8)] }) (Int.toNat (bitsOp IntKind.u16 (BitVec.ofInt (16 : Nat) i0 &&& BitVec.ofInt (16 : Nat) (255 : Int)))) (0 : UInt8))) : Int))))) else
 (none)) else
 (none)
noncomputable def brFn126 (m : Nat) (T : Tbl) (R : Type) (vs : List V) (k : V → List V → Option R) : Option R := match vs with
 | [.f (.lit (.int .u16 i0))] => Fn126 m i0 (fun i1 => k (V.f (F.lit (Value.int IntKind.i64 i1))) W14)
 | _ => T R 126 vs k
set_option maxRecDepth 100000 in
theorem evFn126 (m : Nat) (R : Type) (i0 : Int) (k : V → List V → Option R) : runK Tryd.prog H (T43 m) (L33 m) 126 (W65 i0) k = Fn126 (m + 1) i0 (fun i1 => k (V.f (F.lit (Value.int IntKind.i64 i1))) W14) := by kernel_rfl
noncomputable def T44 (m : Nat) : Tbl := addT 126 (brFn126 m (T43 m)) (T43 m)
theorem okT44 (m : Nat) : TblOk Tryd.prog (T44 m) := addT_ok (okT43 m) fun R vs k x h => by
 unfold brFn126 at h
 split at h
 ·cases m with
  | zero => cases h
  | succ m => exact runK_some (okT43 m) hM (okL33 m) ((evFn126 m R _ k).trans h)
 ·exact okT43 m R 126 _ k x h

abbrev W66 (a0 : Int) (a1 : ByteArray) (a2 a3 : Int) : List V := [.f (.lit (.int .u16 a0)), .f (.lit (.string a1)), .f (.lit (.int .u8 a2)), .f (.lit (.int .u8 a3)), .undef]
/-- - -/
noncomputable def Lp127_9_step {R : Type} (m : Nat) (kx0 : Int → Option R) (i0 : Int) (s1 : ByteArray) (i2 : Int) (REC : Int → Option R) (i3 : Int) : Option R :=
 bif decide (i3 < (57 : Int)) then (Fn85 m (IntKind.wrap IntKind.u8 (i3 + (1 : Int))) (fun i4 => bif bitsOp IntKind.u16 (BitVec.ofInt (16 : Nat) i0 &&& BitVec.ofInt (16 : Nat) i4) != (0 : Int) then (REC (IntKind.wrap IntKind.u8 (i3 + (1 : Int)))) else
 (kx0 i3))) else
 (kx0 i3)
noncomputable def Lp127_9 {R : Type} (m : Nat) (kx0 : Int → Option R) (i0 : Int) (s1 : ByteArray) (i2 : Int) : Nat → Int → Option R
 | 0, _ => none
 | n + 1, i3 => Lp127_9_step m kx0 i0 s1 i2 (Lp127_9 m kx0 i0 s1 i2 n) i3
noncomputable def ELp127_9 (m : Nat) (R : Type) : Nat → List V → (Ex → List V → Option R) → Option R
 | 0, _, _ => none
 | n + 1, vs, k => match vs with
  | [.f (.lit (.int .u16 i0)), .f (.lit (.string s1)), .f (.lit (.int .u8 i2)), .f (.lit (.int .u8 i3)), .undef] => Lp127_9_step m (fun i5 => k (Ex.exit (2 : Nat)) (W66 i0 s1 i2 i5)) i0 s1 i2 (fun i3 => ELp127_9 m R n (W66 i0 s1 i2 i3) k) i3
  | _ => none
noncomputable def brLp127_9 (m : Nat) (L : LTbl) (R : Type) (vs : List V) (k : Ex → List V → Option R) : Option R := match vs with
 | [.f (.lit (.int .u16 i0)), .f (.lit (.string s1)), .f (.lit (.int .u8 i2)), .f (.lit (.int .u8 i3)), .undef] => Lp127_9 m (fun i5 => k (Ex.exit (2 : Nat)) (W66 i0 s1 i2 i5)) i0 s1 i2 m i3
 | _ => L R 127 9 vs k
set_option maxRecDepth 100000 in
theorem stLp127_9 (m n : Nat) (R : Type) (i0 : Int) (s1 : ByteArray) (i2 i3 : Int) (k : Ex → List V → Option R) : codeK Tryd.prog H (T44 m) 127 (L33 m) 10 (loopBody Tryd.prog 127 9) (mkEnv [0, 3, 4, 5, 56] (W66 i0 s1 i2 i3) 0 (H.len 127)) (fun e env' => match e with | .normal => ELp127_9 m R n (vals [0, 3, 4, 5, 56] env') k | e => k e (vals [0, 3, 4, 5, 56] env')) = Lp127_9_step m (fun i5 => k (Ex.exit (2 : Nat)) (W66 i0 s1 i2 i5)) i0 s1 i2 (fun i3 => ELp127_9 m R n (W66 i0 s1 i2 i3) k) i3 := by kernel_rfl
theorem eqLp127_9 (m : Nat) (R : Type) (i0 : Int) (s1 : ByteArray) (i2 : Int) (k : Ex → List V → Option R) : ∀ (n : Nat) (i3 : Int), ELp127_9 m R n (W66 i0 s1 i2 i3) k = Lp127_9 m (fun i5 => k (Ex.exit (2 : Nat)) (W66 i0 s1 i2 i5)) i0 s1 i2 n i3
 | 0, _ => rfl
 | n + 1, i3 => by
  simp only [ELp127_9, Lp127_9, W66]
  congr 1
  funext i3
  exact eqLp127_9 m R i0 s1 i2 k n i3
noncomputable def L34 (m : Nat) : LTbl := addB 127 9 (brLp127_9 m (L33 m)) (L33 m)
theorem okL34 (m : Nat) : LTOk Tryd.prog H (L34 m) := addB_ok (okT44 m) hM (okL33 m) (l := [0, 3, 4, 5, 56]) (by kernel_rfl) (by kernel_rfl) m (fun R n vs k => ELp127_9 m R n vs k) (fun R vs k => rfl) (fun R n vs k x h => by
   simp only [ELp127_9] at h
   split at h
   ·exact (stLp127_9 m n R _ _ _ _ k).trans h
   ·cases h) fun R vs k x h => by
  unfold brLp127_9 at h
  split at h
  ·exact .inl ((eqLp127_9 m R _ _ _ k m _).trans h)
  ·exact .inr h

abbrev W67 (a0 : Int) (a1 : ByteArray) (a2 : Int) : List V := [.f (.lit (.int .u16 a0)), .f (.lit (.string a1)), .f (.lit (.int .u8 a2)), .undef]
abbrev K1Lp127_3 {R : Type} (k : Ex → List V → Option R) (i0 : Int) : ByteArray → Int → Option R := fun s1 i2 => k (Ex.exit (0 : Nat)) (W67 i0 s1 i2)
/-- - -/
noncomputable def Lp127_3_step {R : Type} (m : Nat) (kx0 : ByteArray → Int → Option R) (i0 : Int) (REC : ByteArray → Int → Option R) (s3 : ByteArray) (i4 : Int) : Option R :=
 bif decide (i4 ≤ (57 : Int)) then (Fn85 m i4 (fun i5 => bif bitsOp IntKind.u16 (BitVec.ofInt (16 : Nat) i0 &&& BitVec.ofInt (16 : Nat) i5) == (0 : Int) then (REC s3 (IntKind.wrap IntKind.u8 (i4 + (1 : Int)))) else
 (Lp127_9 m (fun i6 => bif decide (i6 > IntKind.wrap IntKind.u8 (i4 + (1 : Int))) then (bif decide (ByteArray.size s3 + ByteArray.size (rowsBytes [[F.lit (Value.int IntKind.u8 i4)], [F.lit (Value.int IntKind.u8 (45 : Int))], [F.lit (Value.int IntKind.u8 i6)]]) ≤ strMax) then (letV (s3 ++ rowsBytes [[F.lit (Value.int IntKind.u8 i4)], [F.lit (Value.int IntKind.u8 (45 : Int))], [F.lit (Value.int IntKind.u8 i6)]]) (fun s7 => REC s7 (IntKind.wrap IntKind.u8 (i6 + (1 : Int))))) else
 (none)) else
 (bif decide (i6 > i4) then (bif decide (ByteArray.size s3 + ByteArray.size (rowsBytes [[F.lit (Value.int IntKind.u8 i4)], [F.lit (Value.int IntKind.u8 i6)]]) ≤ strMax) then (letV (s3 ++ rowsBytes [[F.lit (Value.int IntKind.u8 i4)], [F.lit (Value.int IntKind.u8 i6)]]) (fun s8 => REC s8 (IntKind.wrap IntKind.u8 (i6 + (1 : Int))))) else
 (none)) else
 (bif decide (ByteArray.size s3 + ByteArray.size (rowsBytes [[F.lit (Value.int IntKind.u8 i4)]]) ≤ strMax) then (letV (s3 ++ rowsBytes [[F.lit (Value.int IntKind.u8 i4)]]) (fun s9 => REC s9 (IntKind.wrap IntKind.u8 (i6 + (1 : Int))))) else
 (none)))) i0 s3 i4 m i4))) else
 (kx0 s3 i4)
noncomputable def Lp127_3 {R : Type} (m : Nat) (kx0 : ByteArray → Int → Option R) (i0 : Int) : Nat → ByteArray → Int → Option R
 | 0, _, _ => none
 | n + 1, s3, i4 => Lp127_3_step m kx0 i0 (Lp127_3 m kx0 i0 n) s3 i4
noncomputable def ELp127_3 (m : Nat) (R : Type) : Nat → List V → (Ex → List V → Option R) → Option R
 | 0, _, _ => none
 | n + 1, vs, k => match vs with
  | [.f (.lit (.int .u16 i0)), .f (.lit (.string s3)), .f (.lit (.int .u8 i4)), .undef] => Lp127_3_step m (K1Lp127_3 k i0) i0 (fun s3 i4 => ELp127_3 m R n (W67 i0 s3 i4) k) s3 i4
  | _ => none
noncomputable def brLp127_3 (m : Nat) (L : LTbl) (R : Type) (vs : List V) (k : Ex → List V → Option R) : Option R := match vs with
 | [.f (.lit (.int .u16 i0)), .f (.lit (.string s3)), .f (.lit (.int .u8 i4)), .undef] => Lp127_3 m (K1Lp127_3 k i0) i0 m s3 i4
 | _ => L R 127 3 vs k
set_option maxRecDepth 100000 in
theorem stLp127_3 (m n : Nat) (R : Type) (i0 : Int) (s3 : ByteArray) (i4 : Int) (k : Ex → List V → Option R) : codeK Tryd.prog H (T44 m) 127 (L34 m) 4 (loopBody Tryd.prog 127 3) (mkEnv [0, 3, 4, 56] (W67 i0 s3 i4) 0 (H.len 127)) (fun e env' => match e with | .normal => ELp127_3 m R n (vals [0, 3, 4, 56] env') k | e => k e (vals [0, 3, 4, 56] env')) = Lp127_3_step m (K1Lp127_3 k i0) i0 (fun s3 i4 => ELp127_3 m R n (W67 i0 s3 i4) k) s3 i4 := by kernel_rfl
theorem eqLp127_3 (m : Nat) (R : Type) (i0 : Int) (k : Ex → List V → Option R) : ∀ (n : Nat) (s3 : ByteArray) (i4 : Int), ELp127_3 m R n (W67 i0 s3 i4) k = Lp127_3 m (K1Lp127_3 k i0) i0 n s3 i4
 | 0, _, _ => rfl
 | n + 1, s3, i4 => by
  simp only [ELp127_3, Lp127_3, W67]
  congr 1
  funext s3 i4
  exact eqLp127_3 m R i0 k n s3 i4
noncomputable def L35 (m : Nat) : LTbl := addB 127 3 (brLp127_3 m (L34 m)) (L34 m)
theorem okL35 (m : Nat) : LTOk Tryd.prog H (L35 m) := addB_ok (okT44 m) hM (okL34 m) (l := [0, 3, 4, 56]) (by kernel_rfl) (by kernel_rfl) m (fun R n vs k => ELp127_3 m R n vs k) (fun R vs k => rfl) (fun R n vs k x h => by
   simp only [ELp127_3] at h
   split at h
   ·exact (stLp127_3 m n R _ _ _ k).trans h
   ·cases h) fun R vs k x h => by
  unfold brLp127_3 at h
  split at h
  ·exact .inl ((eqLp127_3 m R _ k m _ _).trans h)
  ·exact .inr h

/-- - -/
noncomputable def Fn127 {R : Type} (m : Nat) : Int → (ByteArray → Option R) → Option R := match m with
 | 0 => fun _ _ => none
 | m + 1 => fun i0 k =>
 Lp127_3 m (fun s1 i2 => k s1) i0 m ({ data := #[] }) ((48 : Int))
noncomputable def brFn127 (m : Nat) (T : Tbl) (R : Type) (vs : List V) (k : V → List V → Option R) : Option R := match vs with
 | [.f (.lit (.int .u16 i0))] => Fn127 m i0 (fun s3 => k (V.f (F.lit (Value.string s3))) W14)
 | _ => T R 127 vs k
set_option maxRecDepth 100000 in
theorem evFn127 (m : Nat) (R : Type) (i0 : Int) (k : V → List V → Option R) : runK Tryd.prog H (T44 m) (L35 m) 127 (W65 i0) k = Fn127 (m + 1) i0 (fun s3 => k (V.f (F.lit (Value.string s3))) W14) := by kernel_rfl
noncomputable def T45 (m : Nat) : Tbl := addT 127 (brFn127 m (T44 m)) (T44 m)
theorem okT45 (m : Nat) : TblOk Tryd.prog (T45 m) := addT_ok (okT44 m) fun R vs k x h => by
 unfold brFn127 at h
 split at h
 ·cases m with
  | zero => cases h
  | succ m => exact runK_some (okT44 m) hM (okL35 m) ((evFn127 m R _ k).trans h)
 ·exact okT44 m R 127 _ k x h

abbrev W68 (a0 a1 : Int) : List V := [.f (.lit (.int .u16 a0)), .f (.lit (.int .i64 a1))]
/-- - -/
noncomputable def Fn101 {R : Type} (m : Nat) : ByteArray → (Int → Int → Option R) → Option R := match m with
 | 0 => fun _ _ => none
 | m + 1 => fun s0 k =>
 Fn42 m s0 ((93 : Int)) (fun i1 => bif decide (i1 < (0 : Int)) then (k ((0 : Int)) ((0 : Int))) else
 (Lp101_7 m (fun i2 i3 i4 i5 => k i2 i3) (fun i6 i7 => Fn126 m i6 (fun i8 => bif decide (i8 < (2 : Int)) then (k ((0 : Int)) ((0 : Int))) else
 (Fn100 m ((48 : Int)) ((57 : Int)) (fun i9 => bif i6 == i9 then (k ((0 : Int)) ((0 : Int))) else
 (Fn100 m ((49 : Int)) ((57 : Int)) (fun i10 => bif i6 == i10 then (k ((0 : Int)) ((0 : Int))) else
 (Fn100 m ((50 : Int)) ((57 : Int)) (fun i11 => bif i6 == i11 then (k ((0 : Int)) ((0 : Int))) else
 (Fn127 m i6 (fun s12 => bif decide ((0 : Int) ≤ i1 ∧ i1 ≤ (↑(ByteArray.size s0) : Int)) then (bif !ByteArray.toList s12 == ByteArray.toList (ByteArray.extract s0 (0 : Nat) (Int.toNat i1)) then (k ((0 : Int)) ((0 : Int))) else
 (k i6 (IntKind.wrap IntKind.i64 (i1 + (1 : Int))))) else
 (none))))))))))) s0 ((0 : Int)) ((0 : Int)) i1 m ((0 : Int)) ((0 : Int))))
noncomputable def brFn101 (m : Nat) (T : Tbl) (R : Type) (vs : List V) (k : V → List V → Option R) : Option R := match vs with
 | [.f (.lit (.string s0))] => Fn101 m s0 (fun i13 i14 => k (V.tup (W68 i13 i14)) W14)
 | _ => T R 101 vs k
set_option maxRecDepth 100000 in
theorem evFn101 (m : Nat) (R : Type) (s0 : ByteArray) (k : V → List V → Option R) : runK Tryd.prog H (T45 m) (L35 m) 101 (W15 s0) k = Fn101 (m + 1) s0 (fun i13 i14 => k (V.tup (W68 i13 i14)) W14) := by kernel_rfl
noncomputable def T46 (m : Nat) : Tbl := addT 101 (brFn101 m (T45 m)) (T45 m)
theorem okT46 (m : Nat) : TblOk Tryd.prog (T46 m) := addT_ok (okT45 m) fun R vs k x h => by
 unfold brFn101 at h
 split at h
 ·cases m with
  | zero => cases h
  | succ m => exact runK_some (okT45 m) hM (okL35 m) ((evFn101 m R _ k).trans h)
 ·exact okT45 m R 101 _ k x h

/-- - -/
noncomputable def Fn79 {R : Type} (m : Nat) : ByteArray → (Int → Int → Option R) → Option R := match m with
 | 0 => fun _ _ => none
 | m + 1 => fun s0 k =>
 bif decide ((0 : Int) ≤ (0 : Int) ∧ (0 : Int) < (↑(ByteArray.size s0) : Int)) then (bif (↑(UInt8.toNat (Array.getD (ByteArray.data s0) (Int.toNat (0 : Int)) (0 : UInt8))) : Int) == (88 : Int) then (Fn100 m ((48 : Int)) ((57 : Int)) (fun i1 => k i1 ((1 : Int)))) else
 (bif (↑(UInt8.toNat (Array.getD (ByteArray.data s0) (Int.toNat (0 : Int)) (0 : UInt8))) : Int) == (90 : Int) then (Fn100 m ((49 : Int)) ((57 : Int)) (fun i2 => k i2 ((1 : Int)))) else
 (bif (↑(UInt8.toNat (Array.getD (ByteArray.data s0) (Int.toNat (0 : Int)) (0 : UInt8))) : Int) == (78 : Int) then (Fn100 m ((50 : Int)) ((57 : Int)) (fun i3 => k i3 ((1 : Int)))) else
 (bif (↑(UInt8.toNat (Array.getD (ByteArray.data s0) (Int.toNat (0 : Int)) (0 : UInt8))) : Int) == (91 : Int) then (bif decide ((0 : Int) ≤ (1 : Int) ∧ (1 : Int) ≤ (↑(ByteArray.size s0) : Int)) then (Fn101 m (ByteArray.extract s0 (Int.toNat (1 : Int)) (ByteArray.size s0)) (fun i4 i5 => bif i5 == (0 : Int) then (k ((0 : Int)) ((0 : Int))) else
 (k i4 (IntKind.wrap IntKind.i64 (i5 + (1 : Int)))))) else
 (none)) else
 (Fn42 m ({ data := #[(35 : UInt8), (42 : UInt8), (48 : UInt8), (49 : UInt8), (50 : UInt8), (51 : UInt8), (52 : UInt8), (53 : UInt8), (54 : UInt8), (55 : UInt8), (56 : UInt8), (57 : UInt8)] }) ((↑(UInt8.toNat (Array.getD (ByteArray.data s0) (Int.toNat (0 : Int)) (0 : UInt8))) : Int)) (fun i6 => bif decide (i6 ≥ (0 : Int)) then (Fn85 m ((↑(UInt8.toNat (Array.getD (ByteArray.data s0) (Int.toNat (0 : Int)) (0 : UInt8))) : Int)) (fun i7 => k i7 ((1 : Int)))) else
 (k ((0 : Int)) ((0 : Int))))))))) else
 (none)
noncomputable def brFn79 (m : Nat) (T : Tbl) (R : Type) (vs : List V) (k : V → List V → Option R) : Option R := match vs with
 | [.f (.lit (.string s0))] => Fn79 m s0 (fun i8 i9 => k (V.tup (W68 i8 i9)) W14)
 | _ => T R 79 vs k
set_option maxRecDepth 100000 in
theorem evFn79 (m : Nat) (R : Type) (s0 : ByteArray) (k : V → List V → Option R) : runK Tryd.prog H (T46 m) (L35 m) 79 (W15 s0) k = Fn79 (m + 1) s0 (fun i8 i9 => k (V.tup (W68 i8 i9)) W14) := by kernel_rfl
noncomputable def T47 (m : Nat) : Tbl := addT 79 (brFn79 m (T46 m)) (T46 m)
theorem okT47 (m : Nat) : TblOk Tryd.prog (T47 m) := addT_ok (okT46 m) fun R vs k x h => by
 unfold brFn79 at h
 split at h
 ·cases m with
  | zero => cases h
  | succ m => exact runK_some (okT46 m) hM (okL35 m) ((evFn79 m R _ k).trans h)
 ·exact okT46 m R 79 _ k x h

abbrev W69 (a0 : Abs.Rows) (a1 a2 : Int) (a3 : Abs.Rows) (a4 : Int) (a5 : ByteArray) : List V := [.obj [.own [.int .u16] a0, .f (.lit (.int .u8 a1))], .f (.lit (.int .i64 a2)), .obj [.own [.int .u16] a3, .f (.lit (.int .u8 a4))], .f (.lit (.string a5)), .undef]
/-- - -/
noncomputable def Jn39_11 {R : Type} (m : Nat) (kx0 : Abs.Rows → Int → Int → Option R) (kx1 : Abs.Rows → ByteArray → Option R) (r0 : Abs.Rows) (i1 i2 : Int) (r3 : Abs.Rows) (i4 : Int) (s5 : ByteArray) : Option R :=
 Fn79 m s5 (fun i6 i7 => bif i7 == (0 : Int) then (kx0 rows0 ((0 : Int)) ((9 : Int))) else
 (bif decide (List.length r3 + List.length [[F.lit (Value.int IntKind.u16 i6)]] ≤ rowMax) then (letV (r3 ++ [[F.lit (Value.int IntKind.u16 i6)]]) (fun r8 => bif decide ((0 : Int) ≤ i7 ∧ i7 ≤ (↑(ByteArray.size s5) : Int)) then (kx1 r8 (ByteArray.extract s5 (Int.toNat i7) (ByteArray.size s5))) else
 (none))) else
 (none)))
noncomputable def brJn39_11 (m : Nat) (L : LTbl) (R : Type) (vs : List V) (k : Ex → List V → Option R) : Option R := match vs with
 | [.obj [.own [.int .u16] r0, .f (.lit (.int .u8 i1))], .f (.lit (.int .i64 i2)), .obj [.own [.int .u16] r3, .f (.lit (.int .u8 i4))], .f (.lit (.string s5)), .undef] => Jn39_11 m (fun r9 i10 i11 => k Ex.ret (W69 r9 i10 i11 r3 i4 s5)) (fun r12 s13 => k Ex.normal (W69 r0 i1 i2 r12 i4 s13)) r0 i1 i2 r3 i4 s5
 | _ => L R 39 11 vs k
set_option maxRecDepth 100000 in
theorem evJn39_11 (m : Nat) (R : Type) (r0 : Abs.Rows) (i1 i2 : Int) (r3 : Abs.Rows) (i4 : Int) (s5 : ByteArray) (k : Ex → List V → Option R) : codeK Tryd.prog H (T47 m) 39 (L35 m) 12 (loopBody Tryd.prog 39 11) (mkEnv [2, 3, 4, 5, 58] (W69 r0 i1 i2 r3 i4 s5) 0 (H.len 39)) (fun e env' => k e (vals [2, 3, 4, 5, 58] env')) = Jn39_11 m (fun r9 i10 i11 => k Ex.ret (W69 r9 i10 i11 r3 i4 s5)) (fun r12 s13 => k Ex.normal (W69 r0 i1 i2 r12 i4 s13)) r0 i1 i2 r3 i4 s5 := by kernel_rfl
noncomputable def L36 (m : Nat) : LTbl := addJ 39 11 (brJn39_11 m (L35 m)) (L35 m)
theorem okL36 (m : Nat) : LTOk Tryd.prog H (L36 m) := addJ_ok (okT47 m) hM (okL35 m) (l := [2, 3, 4, 5, 58]) (by kernel_rfl) (by kernel_rfl) fun R vs k x h => by
  unfold brJn39_11 at h
  split at h
  ·exact .inl ((evJn39_11 m R _ _ _ _ _ _ k).trans h)
  ·exact .inr h

abbrev K2Lp39_6 {R : Type} (k : Ex → List V → Option R) (i0 : Int) : Abs.Rows → Int → Int → Abs.Rows → ByteArray → Option R := fun r1 i2 i3 r4 s5 => k Ex.ret (W69 r1 i2 i3 r4 i0 s5)
/-- - -/
noncomputable def Lp39_6_step {R : Type} (m : Nat) (kx0 : Abs.Rows → Int → ByteArray → Option R) (kx1 : Abs.Rows → Int → Int → Abs.Rows → ByteArray → Option R) (r6 : Abs.Rows) (i7 i8 i0 : Int) (REC : Abs.Rows → ByteArray → Option R) (r9 : Abs.Rows) (s10 : ByteArray) : Option R :=
 bif !ByteArray.toList s10 == ByteArray.toList { data := #[] } then (bif ByteArray.toList s10 == ByteArray.toList { data := #[(46 : UInt8)] } then (bif decide ((0 : Int) ≤ (0 : Int) ∧ (0 : Int) < (↑(ByteArray.size s10) : Int)) then (kx0 r9 ((↑(UInt8.toNat (Array.getD (ByteArray.data s10) (Int.toNat (0 : Int)) (0 : UInt8))) : Int)) s10) else
 (none)) else
 (bif ByteArray.toList s10 == ByteArray.toList { data := #[(33 : UInt8)] } then (bif decide ((0 : Int) ≤ (0 : Int) ∧ (0 : Int) < (↑(ByteArray.size s10) : Int)) then (kx0 r9 ((↑(UInt8.toNat (Array.getD (ByteArray.data s10) (Int.toNat (0 : Int)) (0 : UInt8))) : Int)) s10) else
 (none)) else
 (Jn39_11 m (fun r11 i12 i13 => kx1 r11 i12 i13 r9 s10) (fun r14 s15 => REC r14 s15) r6 i7 i8 r9 i0 s10))) else
 (kx0 r9 i0 s10)
noncomputable def Lp39_6 {R : Type} (m : Nat) (kx0 : Abs.Rows → Int → ByteArray → Option R) (kx1 : Abs.Rows → Int → Int → Abs.Rows → ByteArray → Option R) (r6 : Abs.Rows) (i7 i8 i0 : Int) : Nat → Abs.Rows → ByteArray → Option R
 | 0, _, _ => none
 | n + 1, r9, s10 => Lp39_6_step m kx0 kx1 r6 i7 i8 i0 (Lp39_6 m kx0 kx1 r6 i7 i8 i0 n) r9 s10
noncomputable def ELp39_6 (m : Nat) (R : Type) : Nat → List V → (Ex → List V → Option R) → Option R
 | 0, _, _ => none
 | n + 1, vs, k => match vs with
  | [.obj [.own [.int .u16] r6, .f (.lit (.int .u8 i7))], .f (.lit (.int .i64 i8)), .obj [.own [.int .u16] r9, .f (.lit (.int .u8 i0))], .f (.lit (.string s10)), .undef] => Lp39_6_step m (fun r16 i17 s18 => k (Ex.exit (0 : Nat)) (W69 r6 i7 i8 r16 i17 s18)) (K2Lp39_6 k i0) r6 i7 i8 i0 (fun r9 s10 => ELp39_6 m R n (W69 r6 i7 i8 r9 i0 s10) k) r9 s10
  | _ => none
noncomputable def brLp39_6 (m : Nat) (L : LTbl) (R : Type) (vs : List V) (k : Ex → List V → Option R) : Option R := match vs with
 | [.obj [.own [.int .u16] r6, .f (.lit (.int .u8 i7))], .f (.lit (.int .i64 i8)), .obj [.own [.int .u16] r9, .f (.lit (.int .u8 i0))], .f (.lit (.string s10)), .undef] => Lp39_6 m (fun r16 i17 s18 => k (Ex.exit (0 : Nat)) (W69 r6 i7 i8 r16 i17 s18)) (K2Lp39_6 k i0) r6 i7 i8 i0 m r9 s10
 | _ => L R 39 6 vs k
set_option maxRecDepth 100000 in
theorem stLp39_6 (m n : Nat) (R : Type) (r6 : Abs.Rows) (i7 i8 : Int) (r9 : Abs.Rows) (i0 : Int) (s10 : ByteArray) (k : Ex → List V → Option R) : codeK Tryd.prog H (T47 m) 39 (L36 m) 7 (loopBody Tryd.prog 39 6) (mkEnv [2, 3, 4, 5, 58] (W69 r6 i7 i8 r9 i0 s10) 0 (H.len 39)) (fun e env' => match e with | .normal => ELp39_6 m R n (vals [2, 3, 4, 5, 58] env') k | e => k e (vals [2, 3, 4, 5, 58] env')) = Lp39_6_step m (fun r16 i17 s18 => k (Ex.exit (0 : Nat)) (W69 r6 i7 i8 r16 i17 s18)) (K2Lp39_6 k i0) r6 i7 i8 i0 (fun r9 s10 => ELp39_6 m R n (W69 r6 i7 i8 r9 i0 s10) k) r9 s10 := by kernel_rfl
theorem eqLp39_6 (m : Nat) (R : Type) (r6 : Abs.Rows) (i7 i8 i0 : Int) (k : Ex → List V → Option R) : ∀ (n : Nat) (r9 : Abs.Rows) (s10 : ByteArray), ELp39_6 m R n (W69 r6 i7 i8 r9 i0 s10) k = Lp39_6 m (fun r16 i17 s18 => k (Ex.exit (0 : Nat)) (W69 r6 i7 i8 r16 i17 s18)) (K2Lp39_6 k i0) r6 i7 i8 i0 n r9 s10
 | 0, _, _ => rfl
 | n + 1, r9, s10 => by
  simp only [ELp39_6, Lp39_6, W69]
  congr 1
  funext r9 s10
  exact eqLp39_6 m R r6 i7 i8 i0 k n r9 s10
noncomputable def L37 (m : Nat) : LTbl := addB 39 6 (brLp39_6 m (L36 m)) (L36 m)
theorem okL37 (m : Nat) : LTOk Tryd.prog H (L37 m) := addB_ok (okT47 m) hM (okL36 m) (l := [2, 3, 4, 5, 58]) (by kernel_rfl) (by kernel_rfl) m (fun R n vs k => ELp39_6 m R n vs k) (fun R vs k => rfl) (fun R n vs k x h => by
   simp only [ELp39_6] at h
   split at h
   ·exact (stLp39_6 m n R _ _ _ _ _ _ k).trans h
   ·cases h) fun R vs k x h => by
  unfold brLp39_6 at h
  split at h
  ·exact .inl ((eqLp39_6 m R _ _ _ _ k m _ _).trans h)
  ·exact .inr h

abbrev W70 (a0 : Abs.Rows) (a1 a2 : Int) (a3 : Abs.Rows) (a4 a5 : Int) : List V := [.obj [.own [.int .u16] a0, .f (.lit (.int .u8 a1))], .f (.lit (.int .i64 a2)), .obj [.own [.int .u16] a3, .f (.lit (.int .u8 a4))], .f (.lit (.int .i64 a5)), .undef]
abbrev W71 (a0 : Abs.Rows) (a1 a2 a3 a4 : Int) : List V := [.obj [.own [.int .u16] a0, .f (.lit (.int .u8 a1))], .f (.lit (.int .i64 a2)), .obj [.undef, .f (.lit (.int .u8 a3))], .f (.lit (.int .i64 a4)), .undef]

end Go.Proofs.YtngjadgglbkjlaaDoor.Med
end
