/- A part of the proofs of the seat YtcoplddcbedeoaaGreatDoor: no statement of the seat stands here. -/
import Derived.Test.YtcoplddcbedeoaaGreatDoorMedTyped0
section
set_option linter.unusedVariables false
set_option linter.unusedSimpArgs false
set_option linter.unusedSectionVars false
namespace Go.Proofs.YtcoplddcbedeoaaGreatDoor.Med
open Go Go.Abs Go.Proofs
set_option linter.unusedVariables false
set_option maxHeartbeats 8000000
set_option maxRecDepth 100000
/-- - -/
noncomputable def Lp56_8_step {R : Type} (m : Nat) (kx0 : Abs.Rows → Int → Option R) (r0 : Abs.Rows) (s1 : ByteArray) (r2 r3 : Abs.Rows) (i4 i5 : Int) (r6 : Abs.Rows) (i7 : Int) (REC : Abs.Rows → Int → Option R) (r8 : Abs.Rows) (i9 : Int) : Option R :=
 bif decide (i9 < i7) then (bif decide ((0 : Int) ≤ i9 ∧ i9 < (↑(List.length r6) : Int)) then (bif decide (List.length r8 < rowMax) then (REC (mPut (F.lit (Value.string (fS r6 (Int.toNat i9) (0 : Nat)))) [F.lit (Value.string s1)] r8) (IntKind.wrap IntKind.i64 (i9 + (1 : Int)))) else
 (none)) else
 (none)) else
 (kx0 r8 i9)
noncomputable def Lp56_8 {R : Type} (m : Nat) (kx0 : Abs.Rows → Int → Option R) (r0 : Abs.Rows) (s1 : ByteArray) (r2 r3 : Abs.Rows) (i4 i5 : Int) (r6 : Abs.Rows) (i7 : Int) : Nat → Abs.Rows → Int → Option R
 | 0, _, _ => none
 | n + 1, r8, i9 => Lp56_8_step m kx0 r0 s1 r2 r3 i4 i5 r6 i7 (Lp56_8 m kx0 r0 s1 r2 r3 i4 i5 r6 i7 n) r8 i9
noncomputable def ELp56_8 (m : Nat) (R : Type) : Nat → List V → (Ex → List V → Option R) → Option R
 | 0, _, _ => none
 | n + 1, vs, k => match vs with
  | [.bor [.str, .lst [.str]] r0, .own [.mp false, .str, .str] r8, .obj [.f (.lit (.string s1)), .f (.lst [.str] r2)], .undef, .bor [.str, .lst [.str]] r3, .f (.lit (.int .i64 i4)), .f (.lit (.int .i64 i5)), .ref 5 1, .f (.lst [.str] r6), .f (.lit (.int .i64 i7)), .f (.lit (.int .i64 i9)), .undef] => Lp56_8_step m (fun r10 i11 => k (Ex.exit (2 : Nat)) (W66 r0 r10 s1 r2 r3 i4 i5 r6 i7 i11)) r0 s1 r2 r3 i4 i5 r6 i7 (fun r8 i9 => ELp56_8 m R n (W66 r0 r8 s1 r2 r3 i4 i5 r6 i7 i9) k) r8 i9
  | _ => none
noncomputable def brLp56_8 (m : Nat) (L : LTbl) (R : Type) (vs : List V) (k : Ex → List V → Option R) : Option R := match vs with
 | [.bor [.str, .lst [.str]] r0, .own [.mp false, .str, .str] r8, .obj [.f (.lit (.string s1)), .f (.lst [.str] r2)], .undef, .bor [.str, .lst [.str]] r3, .f (.lit (.int .i64 i4)), .f (.lit (.int .i64 i5)), .ref 5 1, .f (.lst [.str] r6), .f (.lit (.int .i64 i7)), .f (.lit (.int .i64 i9)), .undef] => Lp56_8 m (fun r10 i11 => k (Ex.exit (2 : Nat)) (W66 r0 r10 s1 r2 r3 i4 i5 r6 i7 i11)) r0 s1 r2 r3 i4 i5 r6 i7 m r8 i9
 | _ => L R 56 8 vs k

theorem stLp56_8 (m n : Nat) (R : Type) (r0 r8 : Abs.Rows) (s1 : ByteArray) (r2 r3 : Abs.Rows) (i4 i5 : Int) (r6 : Abs.Rows) (i7 i9 : Int) (k : Ex → List V → Option R) : codeK Tryz.prog H (T52 m) 56 (L37 m) 9 (loopBody Tryz.prog 56 8) (mkEnv [0, 3, 5, 8, 9, 10, 11, 15, 16, 17, 18, 29] (W66 r0 r8 s1 r2 r3 i4 i5 r6 i7 i9) 0 (H.len 56)) (fun e env' => match e with | .normal => ELp56_8 m R n (vals [0, 3, 5, 8, 9, 10, 11, 15, 16, 17, 18, 29] env') k | e => k e (vals [0, 3, 5, 8, 9, 10, 11, 15, 16, 17, 18, 29] env')) = Lp56_8_step m (fun r10 i11 => k (Ex.exit (2 : Nat)) (W66 r0 r10 s1 r2 r3 i4 i5 r6 i7 i11)) r0 s1 r2 r3 i4 i5 r6 i7 (fun r8 i9 => ELp56_8 m R n (W66 r0 r8 s1 r2 r3 i4 i5 r6 i7 i9) k) r8 i9 := by kernel_rfl
theorem eqLp56_8 (m : Nat) (R : Type) (r0 : Abs.Rows) (s1 : ByteArray) (r2 r3 : Abs.Rows) (i4 i5 : Int) (r6 : Abs.Rows) (i7 : Int) (k : Ex → List V → Option R) : ∀ (n : Nat) (r8 : Abs.Rows) (i9 : Int), ELp56_8 m R n (W66 r0 r8 s1 r2 r3 i4 i5 r6 i7 i9) k = Lp56_8 m (fun r10 i11 => k (Ex.exit (2 : Nat)) (W66 r0 r10 s1 r2 r3 i4 i5 r6 i7 i11)) r0 s1 r2 r3 i4 i5 r6 i7 n r8 i9
 | 0, _, _ => rfl
 | n + 1, r8, i9 => by
  simp only [ELp56_8, Lp56_8, W66]
  congr 1
  funext r8 i9
  exact eqLp56_8 m R r0 s1 r2 r3 i4 i5 r6 i7 k n r8 i9
noncomputable def L38 (m : Nat) : LTbl := addB 56 8 (brLp56_8 m (L37 m)) (L37 m)
theorem okL38 (m : Nat) : LTOk Tryz.prog H (L38 m) := addB_ok (okT52 m) hM (okL37 m) (l := [0, 3, 5, 8, 9, 10, 11, 15, 16, 17, 18, 29]) (by kernel_rfl) (by kernel_rfl) m (fun R n vs k => ELp56_8 m R n vs k) (fun R vs k => rfl) (fun R n vs k x h => by
   simp only [ELp56_8] at h
   split at h
   ·exact (stLp56_8 m n R _ _ _ _ _ _ _ _ _ _ k).trans h
   ·cases h) fun R vs k x h => by
  unfold brLp56_8 at h
  split at h
  ·exact .inl ((eqLp56_8 m R _ _ _ _ _ _ _ _ k m _ _).trans h)
  ·exact .inr h

abbrev W67 (a0 a1 a2 : Abs.Rows) (a3 a4 : Int) : List V := [.bor [.str, .lst [.str]] a0, .own [.mp false, .str, .str] a1, .undef, .bor [.str, .lst [.str]] a2, .f (.lit (.int .i64 a3)), .f (.lit (.int .i64 a4)), .undef]
/-- - -/
noncomputable def Lp56_3_step {R : Type} (m : Nat) (kx0 : Abs.Rows → Int → Option R) (r0 r1 : Abs.Rows) (i2 : Int) (REC : Abs.Rows → Int → Option R) (r3 : Abs.Rows) (i4 : Int) : Option R :=
 bif decide (i4 < i2) then (bif decide ((0 : Int) ≤ i4 ∧ i4 < (↑(List.length r1) : Int)) then (Lp56_8 m (fun r5 i6 => REC r5 (IntKind.wrap IntKind.i64 (i4 + (1 : Int)))) r0 (fS r1 (Int.toNat i4) (0 : Nat)) (fR r1 (Int.toNat i4) (1 : Nat)) r1 i2 i4 (fR r1 (Int.toNat i4) (1 : Nat)) ((↑(List.length (fR r1 (Int.toNat i4) (1 : Nat))) : Int)) m r3 ((0 : Int))) else
 (none)) else
 (kx0 r3 i4)
noncomputable def Lp56_3 {R : Type} (m : Nat) (kx0 : Abs.Rows → Int → Option R) (r0 r1 : Abs.Rows) (i2 : Int) : Nat → Abs.Rows → Int → Option R
 | 0, _, _ => none
 | n + 1, r3, i4 => Lp56_3_step m kx0 r0 r1 i2 (Lp56_3 m kx0 r0 r1 i2 n) r3 i4
noncomputable def ELp56_3 (m : Nat) (R : Type) : Nat → List V → (Ex → List V → Option R) → Option R
 | 0, _, _ => none
 | n + 1, vs, k => match vs with
  | [.bor [.str, .lst [.str]] r0, .own [.mp false, .str, .str] r3, .undef, .bor [.str, .lst [.str]] r1, .f (.lit (.int .i64 i2)), .f (.lit (.int .i64 i4)), .undef] => Lp56_3_step m (fun r7 i8 => k (Ex.exit (0 : Nat)) (W67 r0 r7 r1 i2 i8)) r0 r1 i2 (fun r3 i4 => ELp56_3 m R n (W67 r0 r3 r1 i2 i4) k) r3 i4
  | _ => none
noncomputable def brLp56_3 (m : Nat) (L : LTbl) (R : Type) (vs : List V) (k : Ex → List V → Option R) : Option R := match vs with
 | [.bor [.str, .lst [.str]] r0, .own [.mp false, .str, .str] r3, .undef, .bor [.str, .lst [.str]] r1, .f (.lit (.int .i64 i2)), .f (.lit (.int .i64 i4)), .undef] => Lp56_3 m (fun r7 i8 => k (Ex.exit (0 : Nat)) (W67 r0 r7 r1 i2 i8)) r0 r1 i2 m r3 i4
 | _ => L R 56 3 vs k

theorem stLp56_3 (m n : Nat) (R : Type) (r0 r3 r1 : Abs.Rows) (i2 i4 : Int) (k : Ex → List V → Option R) : codeK Tryz.prog H (T52 m) 56 (L38 m) 4 (loopBody Tryz.prog 56 3) (mkEnv [0, 3, 8, 9, 10, 11, 29] (W67 r0 r3 r1 i2 i4) 0 (H.len 56)) (fun e env' => match e with | .normal => ELp56_3 m R n (vals [0, 3, 8, 9, 10, 11, 29] env') k | e => k e (vals [0, 3, 8, 9, 10, 11, 29] env')) = Lp56_3_step m (fun r7 i8 => k (Ex.exit (0 : Nat)) (W67 r0 r7 r1 i2 i8)) r0 r1 i2 (fun r3 i4 => ELp56_3 m R n (W67 r0 r3 r1 i2 i4) k) r3 i4 := by kernel_rfl
theorem eqLp56_3 (m : Nat) (R : Type) (r0 r1 : Abs.Rows) (i2 : Int) (k : Ex → List V → Option R) : ∀ (n : Nat) (r3 : Abs.Rows) (i4 : Int), ELp56_3 m R n (W67 r0 r3 r1 i2 i4) k = Lp56_3 m (fun r7 i8 => k (Ex.exit (0 : Nat)) (W67 r0 r7 r1 i2 i8)) r0 r1 i2 n r3 i4
 | 0, _, _ => rfl
 | n + 1, r3, i4 => by
  simp only [ELp56_3, Lp56_3, W67]
  congr 1
  funext r3 i4
  exact eqLp56_3 m R r0 r1 i2 k n r3 i4
noncomputable def L39 (m : Nat) : LTbl := addB 56 3 (brLp56_3 m (L38 m)) (L38 m)
theorem okL39 (m : Nat) : LTOk Tryz.prog H (L39 m) := addB_ok (okT52 m) hM (okL38 m) (l := [0, 3, 8, 9, 10, 11, 29]) (by kernel_rfl) (by kernel_rfl) m (fun R n vs k => ELp56_3 m R n vs k) (fun R vs k => rfl) (fun R n vs k x h => by
   simp only [ELp56_3] at h
   split at h
   ·exact (stLp56_3 m n R _ _ _ _ _ k).trans h
   ·cases h) fun R vs k x h => by
  unfold brLp56_3 at h
  split at h
  ·exact .inl ((eqLp56_3 m R _ _ _ k m _ _).trans h)
  ·exact .inr h

/-- - -/
noncomputable def Fn56 {R : Type} (m : Nat) : Abs.Rows → (Abs.Rows → Option R) → Option R := match m with
 | 0 => fun _ _ => none
 | m + 1 => fun r0 k =>
 Lp56_3 m (fun r1 i2 => k r1) r0 r0 ((↑(List.length r0) : Int)) m rows0 ((0 : Int))
noncomputable def brFn56 (m : Nat) (T : Tbl) (R : Type) (vs : List V) (k : V → List V → Option R) : Option R := match vs with
 | [.bor [.str, .lst [.str]] r0] => Fn56 m r0 (fun r3 => k (V.own [LT.mp false, LT.str, LT.str] r3) W17)
 | _ => T R 56 vs k

theorem evFn56 (m : Nat) (R : Type) (r0 : Abs.Rows) (k : V → List V → Option R) : runK Tryz.prog H (T52 m) (L39 m) 56 (W44 r0) k = Fn56 (m + 1) r0 (fun r3 => k (V.own [LT.mp false, LT.str, LT.str] r3) W17) := by kernel_rfl
noncomputable def T53 (m : Nat) : Tbl := addT 56 (brFn56 m (T52 m)) (T52 m)
theorem okT53 (m : Nat) : TblOk Tryz.prog (T53 m) := addT_ok (okT52 m) fun R vs k x h => by
 unfold brFn56 at h
 split at h
 ·cases m with
  | zero => cases h
  | succ m => exact runK_some (okT52 m) hM (okL39 m) ((evFn56 m R _ k).trans h)
 ·exact okT52 m R 56 _ k x h

abbrev W68 (a0 a1 : ByteArray) (a2 a3 a4 a5 : Int) (a6 : ByteArray) : List V := [.agg [.f (.lit (.string a0)), .f (.lit (.string a1)), .f (.lit (.int .i64 a2)), .f (.lit (.int .i64 a3)), .f (.lit (.int .i64 a4)), .f (.lit (.int .i64 a5))], .f (.lit (.string a6))]
/-- - -/
noncomputable def Fn113 {R : Type} (m : Nat) : ByteArray → ByteArray → Int → Int → Int → Int → ByteArray → (Int → Option R) → Option R := match m with
 | 0 => fun _ _ _ _ _ _ _ _ => none
 | m + 1 => fun s0 s1 i2 i3 i4 i5 s6 k =>
 k (cmpB s0 s6)
noncomputable def brFn113 (m : Nat) (T : Tbl) (R : Type) (vs : List V) (k : V → List V → Option R) : Option R := match vs with
 | [.agg [.f (.lit (.string s0)), .f (.lit (.string s1)), .f (.lit (.int .i64 i2)), .f (.lit (.int .i64 i3)), .f (.lit (.int .i64 i4)), .f (.lit (.int .i64 i5))], .f (.lit (.string s6))] => Fn113 m s0 s1 i2 i3 i4 i5 s6 (fun i7 => k (V.f (F.lit (Value.int IntKind.i64 i7))) W1)
 | _ => T R 113 vs k

theorem evFn113 (m : Nat) (R : Type) (s0 s1 : ByteArray) (i2 i3 i4 i5 : Int) (s6 : ByteArray) (k : V → List V → Option R) : runK Tryz.prog H (T53 m) (L39 m) 113 (W68 s0 s1 i2 i3 i4 i5 s6) k = Fn113 (m + 1) s0 s1 i2 i3 i4 i5 s6 (fun i7 => k (V.f (F.lit (Value.int IntKind.i64 i7))) W1) := by kernel_rfl
noncomputable def T54 (m : Nat) : Tbl := addT 113 (brFn113 m (T53 m)) (T53 m)
theorem okT54 (m : Nat) : TblOk Tryz.prog (T54 m) := addT_ok (okT53 m) fun R vs k x h => by
 unfold brFn113 at h
 split at h
 ·cases m with
  | zero => cases h
  | succ m => exact runK_some (okT53 m) hM (okL39 m) ((evFn113 m R _ _ _ _ _ _ _ k).trans h)
 ·exact okT53 m R 113 _ k x h

abbrev W69 (a0 : Abs.Rows) (a1 : ByteArray) (a2 a3 a4 : Int) : List V := [.f (.lst [.str, .str, .int .i64, .int .i64, .int .i64, .int .i64] a0), .f (.lit (.string a1)), .clos 113 [], .f (.lit (.int .i64 a2)), .f (.lit (.int .i64 a3)), .f (.lit (.int .i64 a4)), .undef, .undef, .undef]
/-- - -/
noncomputable def Lp112_3_step {R : Type} (m : Nat) (kx0 : Int → Int → Option R) (r0 : Abs.Rows) (s1 : ByteArray) (i2 : Int) (REC : Int → Int → Option R) (i3 i4 : Int) : Option R :=
 bif decide (i3 < i4) then (bif decide ((0 : Int) ≤ IntKind.wrap IntKind.i64 (Int.fdiv (IntKind.wrap IntKind.u64 (IntKind.wrap IntKind.i64 (i3 + i4))) ((2 : Int) ^ min (Int.toNat (1 : Int)) (64 : Nat))) ∧ IntKind.wrap IntKind.i64 (Int.fdiv (IntKind.wrap IntKind.u64 (IntKind.wrap IntKind.i64 (i3 + i4))) ((2 : Int) ^ min (Int.toNat (1 : Int)) (64 : Nat))) < (↑(List.length r0) : Int)) then (Fn113 m (fS r0 (Int.toNat (IntKind.wrap IntKind.i64 (Int.fdiv (IntKind.wrap IntKind.u64 (IntKind.wrap IntKind.i64 (i3 + i4))) ((2 : Int) ^ min (Int.toNat (1 : Int)) (64 : Nat))))) (0 : Nat)) (fS r0 (Int.toNat (IntKind.wrap IntKind.i64 (Int.fdiv (IntKind.wrap IntKind.u64 (IntKind.wrap IntKind.i64 (i3 + i4))) ((2 : Int) ^ min (Int.toNat (1 : Int)) (64 : Nat))))) (1 : Nat)) (fI r0 (Int.toNat (IntKind.wrap IntKind.i64 (Int.fdiv (IntKind.wrap IntKind.u64 (IntKind.wrap IntKind.i64 (i3 + i4))) ((2 : Int) ^ min (Int.toNat (1 : Int)) (64 : Nat))))) (2 : Nat)) (fI r0 (Int.toNat (IntKind.wrap IntKind.i64 (Int.fdiv (IntKind.wrap IntKind.u64 (IntKind.wrap IntKind.i64 (i3 + i4))) ((2 : Int) ^ min (Int.toNat (1 : Int)) (64 : Nat))))) (3 : Nat)) (fI r0 (Int.toNat (IntKind.wrap IntKind.i64 (Int.fdiv (IntKind.wrap IntKind.u64 (IntKind.wrap IntKind.i64 (i3 + i4))) ((2 : Int) ^ min (Int.toNat (1 : Int)) (64 : Nat))))) (4 : Nat)) (fI r0 (Int.toNat (IntKind.wrap IntKind.i64 (Int.fdiv (IntKind.wrap IntKind.u64 (IntKind.wrap IntKind.i64 (i3 + i4))) ((2 : Int) ^ min (Int.toNat (1 : Int)) (64 : Nat))))) (5 : Nat)) s1 (fun i5 => bif decide (i5 < (0 : Int)) then (REC (IntKind.wrap IntKind.i64 (IntKind.wrap IntKind.i64 (Int.fdiv (IntKind.wrap IntKind.u64 (IntKind.wrap IntKind.i64 (i3 + i4))) ((2 : Int) ^ min (Int.toNat (1 : Int)) (64 : Nat))) + (1 : Int))) i4) else
 (REC i3 (IntKind.wrap IntKind.i64 (Int.fdiv (IntKind.wrap IntKind.u64 (IntKind.wrap IntKind.i64 (i3 + i4))) ((2 : Int) ^ min (Int.toNat (1 : Int)) (64 : Nat))))))) else
 (none)) else
 (kx0 i3 i4)
noncomputable def Lp112_3 {R : Type} (m : Nat) (kx0 : Int → Int → Option R) (r0 : Abs.Rows) (s1 : ByteArray) (i2 : Int) : Nat → Int → Int → Option R
 | 0, _, _ => none
 | n + 1, i3, i4 => Lp112_3_step m kx0 r0 s1 i2 (Lp112_3 m kx0 r0 s1 i2 n) i3 i4
noncomputable def ELp112_3 (m : Nat) (R : Type) : Nat → List V → (Ex → List V → Option R) → Option R
 | 0, _, _ => none
 | n + 1, vs, k => match vs with
  | [.f (.lst [.str, .str, .int .i64, .int .i64, .int .i64, .int .i64] r0), .f (.lit (.string s1)), .clos 113 [], .f (.lit (.int .i64 i2)), .f (.lit (.int .i64 i3)), .f (.lit (.int .i64 i4)), .undef, .undef, .undef] => Lp112_3_step m (fun i6 i7 => k (Ex.exit (0 : Nat)) (W69 r0 s1 i2 i6 i7)) r0 s1 i2 (fun i3 i4 => ELp112_3 m R n (W69 r0 s1 i2 i3 i4) k) i3 i4
  | _ => none
noncomputable def brLp112_3 (m : Nat) (L : LTbl) (R : Type) (vs : List V) (k : Ex → List V → Option R) : Option R := match vs with
 | [.f (.lst [.str, .str, .int .i64, .int .i64, .int .i64, .int .i64] r0), .f (.lit (.string s1)), .clos 113 [], .f (.lit (.int .i64 i2)), .f (.lit (.int .i64 i3)), .f (.lit (.int .i64 i4)), .undef, .undef, .undef] => Lp112_3 m (fun i6 i7 => k (Ex.exit (0 : Nat)) (W69 r0 s1 i2 i6 i7)) r0 s1 i2 m i3 i4
 | _ => L R 112 3 vs k

theorem stLp112_3 (m n : Nat) (R : Type) (r0 : Abs.Rows) (s1 : ByteArray) (i2 i3 i4 : Int) (k : Ex → List V → Option R) : codeK Tryz.prog H (T54 m) 112 (L39 m) 4 (loopBody Tryz.prog 112 3) (mkEnv [0, 1, 2, 8, 9, 10, 49, 50, 51] (W69 r0 s1 i2 i3 i4) 0 (H.len 112)) (fun e env' => match e with | .normal => ELp112_3 m R n (vals [0, 1, 2, 8, 9, 10, 49, 50, 51] env') k | e => k e (vals [0, 1, 2, 8, 9, 10, 49, 50, 51] env')) = Lp112_3_step m (fun i6 i7 => k (Ex.exit (0 : Nat)) (W69 r0 s1 i2 i6 i7)) r0 s1 i2 (fun i3 i4 => ELp112_3 m R n (W69 r0 s1 i2 i3 i4) k) i3 i4 := by kernel_rfl
theorem eqLp112_3 (m : Nat) (R : Type) (r0 : Abs.Rows) (s1 : ByteArray) (i2 : Int) (k : Ex → List V → Option R) : ∀ (n : Nat) (i3 i4 : Int), ELp112_3 m R n (W69 r0 s1 i2 i3 i4) k = Lp112_3 m (fun i6 i7 => k (Ex.exit (0 : Nat)) (W69 r0 s1 i2 i6 i7)) r0 s1 i2 n i3 i4
 | 0, _, _ => rfl
 | n + 1, i3, i4 => by
  simp only [ELp112_3, Lp112_3, W69]
  congr 1
  funext i3 i4
  exact eqLp112_3 m R r0 s1 i2 k n i3 i4
noncomputable def L40 (m : Nat) : LTbl := addB 112 3 (brLp112_3 m (L39 m)) (L39 m)
theorem okL40 (m : Nat) : LTOk Tryz.prog H (L40 m) := addB_ok (okT54 m) hM (okL39 m) (l := [0, 1, 2, 8, 9, 10, 49, 50, 51]) (by kernel_rfl) (by kernel_rfl) m (fun R n vs k => ELp112_3 m R n vs k) (fun R vs k => rfl) (fun R n vs k x h => by
   simp only [ELp112_3] at h
   split at h
   ·exact (stLp112_3 m n R _ _ _ _ _ k).trans h
   ·cases h) fun R vs k x h => by
  unfold brLp112_3 at h
  split at h
  ·exact .inl ((eqLp112_3 m R _ _ _ k m _ _).trans h)
  ·exact .inr h

abbrev W70 (a0 : Int) (a1 : Bool) : List V := [.f (.lit (.int .i64 a0)), .f (.lit (.bool a1))]
abbrev W71 (a0 : Abs.Rows) (a1 : ByteArray) : List V := [.f (.lst [.str, .str, .int .i64, .int .i64, .int .i64, .int .i64] a0), .f (.lit (.string a1)), .clos 113 []]
/-- - -/
noncomputable def Fn112 {R : Type} (m : Nat) : Abs.Rows → ByteArray → (Int → Bool → Option R) → Option R := match m with
 | 0 => fun _ _ _ => none
 | m + 1 => fun r0 s1 k =>
 Lp112_3 m (fun i2 i3 => bif decide (i2 < (↑(List.length r0) : Int)) then (bif decide ((0 : Int) ≤ i2 ∧ i2 < (↑(List.length r0) : Int)) then (Fn113 m (fS r0 (Int.toNat i2) (0 : Nat)) (fS r0 (Int.toNat i2) (1 : Nat)) (fI r0 (Int.toNat i2) (2 : Nat)) (fI r0 (Int.toNat i2) (3 : Nat)) (fI r0 (Int.toNat i2) (4 : Nat)) (fI r0 (Int.toNat i2) (5 : Nat)) s1 (fun i4 => k i2 (i4 == (0 : Int)))) else
 (none)) else
 (k i2 false)) r0 s1 ((↑(List.length r0) : Int)) m ((0 : Int)) ((↑(List.length r0) : Int))
noncomputable def brFn112 (m : Nat) (T : Tbl) (R : Type) (vs : List V) (k : V → List V → Option R) : Option R := match vs with
 | [.f (.lst [.str, .str, .int .i64, .int .i64, .int .i64, .int .i64] r0), .f (.lit (.string s1)), .clos 113 []] => Fn112 m r0 s1 (fun i5 b6 => k (V.tup (W70 i5 b6)) W32)
 | _ => T R 112 vs k

theorem evFn112 (m : Nat) (R : Type) (r0 : Abs.Rows) (s1 : ByteArray) (k : V → List V → Option R) : runK Tryz.prog H (T54 m) (L40 m) 112 (W71 r0 s1) k = Fn112 (m + 1) r0 s1 (fun i5 b6 => k (V.tup (W70 i5 b6)) W32) := by kernel_rfl
noncomputable def T55 (m : Nat) : Tbl := addT 112 (brFn112 m (T54 m)) (T54 m)
theorem okT55 (m : Nat) : TblOk Tryz.prog (T55 m) := addT_ok (okT54 m) fun R vs k x h => by
 unfold brFn112 at h
 split at h
 ·cases m with
  | zero => cases h
  | succ m => exact runK_some (okT54 m) hM (okL40 m) ((evFn112 m R _ _ k).trans h)
 ·exact okT54 m R 112 _ k x h

abbrev W72 (a0 : ByteArray) (a1 : Abs.Rows) (a2 : Int) (a3 : Abs.Rows) (a4 a5 : ByteArray) (a6 a7 a8 a9 : Int) (a10 : Bool) (a11 : Int) : List V := [.f (.lit (.string a0)), .obj [.f (.lst [.str, .str, .int .i64, .int .i64, .int .i64, .int .i64] a1), .f (.lit (.int .i64 a2)), .f (.lst [.str] a3)], .obj [.f (.lit (.string a4)), .f (.lit (.string a5)), .f (.lit (.int .i64 a6)), .f (.lit (.int .i64 a7)), .f (.lit (.int .i64 a8)), .f (.lit (.int .i64 a9))], .f (.lit (.bool a10)), .f (.lit (.int .i64 a11)), .undef, .undef]
abbrev K1Lp57_2 {R : Type} (k : Ex → List V → Option R) (s0 : ByteArray) (r1 : Abs.Rows) (i2 : Int) (r3 : Abs.Rows) : ByteArray → ByteArray → Int → Int → Int → Int → Bool → Int → Option R := fun s4 s5 i6 i7 i8 i9 b10 i11 => k Ex.ret (W72 s0 r1 i2 r3 s4 s5 i6 i7 i8 i9 b10 i11)
/-- - -/
noncomputable def Lp57_2_step {R : Type} (m : Nat) (kx0 : ByteArray → ByteArray → Int → Int → Int → Int → Bool → Int → Option R) (kx1 : Int → Option R) (s0 : ByteArray) (r1 : Abs.Rows) (i2 : Int) (r3 : Abs.Rows) (s12 s13 : ByteArray) (i14 i15 i16 i17 : Int) (b18 : Bool) (REC : Int → Option R) (i19 : Int) : Option R :=
 bif decide (i19 ≥ (0 : Int)) then (bif decide ((0 : Int) ≤ i19 ∧ i19 ≤ (↑(ByteArray.size s0) : Int)) then (Fn112 m r1 (ByteArray.extract s0 (0 : Nat) (Int.toNat i19)) (fun i20 b21 => bif b21 then (bif decide ((0 : Int) ≤ i20 ∧ i20 < (↑(List.length r1) : Int)) then (kx0 (fS r1 (Int.toNat i20) (0 : Nat)) (fS r1 (Int.toNat i20) (1 : Nat)) (fI r1 (Int.toNat i20) (2 : Nat)) (fI r1 (Int.toNat i20) (3 : Nat)) (fI r1 (Int.toNat i20) (4 : Nat)) (fI r1 (Int.toNat i20) (5 : Nat)) true i19) else
 (none)) else
 (REC (IntKind.wrap IntKind.i64 (i19 - (1 : Int)))))) else
 (none)) else
 (kx1 i19)
noncomputable def Lp57_2 {R : Type} (m : Nat) (kx0 : ByteArray → ByteArray → Int → Int → Int → Int → Bool → Int → Option R) (kx1 : Int → Option R) (s0 : ByteArray) (r1 : Abs.Rows) (i2 : Int) (r3 : Abs.Rows) (s12 s13 : ByteArray) (i14 i15 i16 i17 : Int) (b18 : Bool) : Nat → Int → Option R
 | 0, _ => none
 | n + 1, i19 => Lp57_2_step m kx0 kx1 s0 r1 i2 r3 s12 s13 i14 i15 i16 i17 b18 (Lp57_2 m kx0 kx1 s0 r1 i2 r3 s12 s13 i14 i15 i16 i17 b18 n) i19
noncomputable def ELp57_2 (m : Nat) (R : Type) : Nat → List V → (Ex → List V → Option R) → Option R
 | 0, _, _ => none
 | n + 1, vs, k => match vs with
  | [.f (.lit (.string s0)), .obj [.f (.lst [.str, .str, .int .i64, .int .i64, .int .i64, .int .i64] r1), .f (.lit (.int .i64 i2)), .f (.lst [.str] r3)], .obj [.f (.lit (.string s12)), .f (.lit (.string s13)), .f (.lit (.int .i64 i14)), .f (.lit (.int .i64 i15)), .f (.lit (.int .i64 i16)), .f (.lit (.int .i64 i17))], .f (.lit (.bool b18)), .f (.lit (.int .i64 i19)), .undef, .undef] => Lp57_2_step m (K1Lp57_2 k s0 r1 i2 r3) (fun i22 => k (Ex.exit (0 : Nat)) (W72 s0 r1 i2 r3 s12 s13 i14 i15 i16 i17 b18 i22)) s0 r1 i2 r3 s12 s13 i14 i15 i16 i17 b18 (fun i19 => ELp57_2 m R n (W72 s0 r1 i2 r3 s12 s13 i14 i15 i16 i17 b18 i19) k) i19
  | _ => none
noncomputable def brLp57_2 (m : Nat) (L : LTbl) (R : Type) (vs : List V) (k : Ex → List V → Option R) : Option R := match vs with
 | [.f (.lit (.string s0)), .obj [.f (.lst [.str, .str, .int .i64, .int .i64, .int .i64, .int .i64] r1), .f (.lit (.int .i64 i2)), .f (.lst [.str] r3)], .obj [.f (.lit (.string s12)), .f (.lit (.string s13)), .f (.lit (.int .i64 i14)), .f (.lit (.int .i64 i15)), .f (.lit (.int .i64 i16)), .f (.lit (.int .i64 i17))], .f (.lit (.bool b18)), .f (.lit (.int .i64 i19)), .undef, .undef] => Lp57_2 m (K1Lp57_2 k s0 r1 i2 r3) (fun i22 => k (Ex.exit (0 : Nat)) (W72 s0 r1 i2 r3 s12 s13 i14 i15 i16 i17 b18 i22)) s0 r1 i2 r3 s12 s13 i14 i15 i16 i17 b18 m i19
 | _ => L R 57 2 vs k

theorem stLp57_2 (m n : Nat) (R : Type) (s0 : ByteArray) (r1 : Abs.Rows) (i2 : Int) (r3 : Abs.Rows) (s12 s13 : ByteArray) (i14 i15 i16 i17 : Int) (b18 : Bool) (i19 : Int) (k : Ex → List V → Option R) : codeK Tryz.prog H (T55 m) 57 (L40 m) 3 (loopBody Tryz.prog 57 2) (mkEnv [1, 2, 4, 5, 6, 31, 32] (W72 s0 r1 i2 r3 s12 s13 i14 i15 i16 i17 b18 i19) 0 (H.len 57)) (fun e env' => match e with | .normal => ELp57_2 m R n (vals [1, 2, 4, 5, 6, 31, 32] env') k | e => k e (vals [1, 2, 4, 5, 6, 31, 32] env')) = Lp57_2_step m (K1Lp57_2 k s0 r1 i2 r3) (fun i22 => k (Ex.exit (0 : Nat)) (W72 s0 r1 i2 r3 s12 s13 i14 i15 i16 i17 b18 i22)) s0 r1 i2 r3 s12 s13 i14 i15 i16 i17 b18 (fun i19 => ELp57_2 m R n (W72 s0 r1 i2 r3 s12 s13 i14 i15 i16 i17 b18 i19) k) i19 := by kernel_rfl
theorem eqLp57_2 (m : Nat) (R : Type) (s0 : ByteArray) (r1 : Abs.Rows) (i2 : Int) (r3 : Abs.Rows) (s12 s13 : ByteArray) (i14 i15 i16 i17 : Int) (b18 : Bool) (k : Ex → List V → Option R) : ∀ (n : Nat) (i19 : Int), ELp57_2 m R n (W72 s0 r1 i2 r3 s12 s13 i14 i15 i16 i17 b18 i19) k = Lp57_2 m (K1Lp57_2 k s0 r1 i2 r3) (fun i22 => k (Ex.exit (0 : Nat)) (W72 s0 r1 i2 r3 s12 s13 i14 i15 i16 i17 b18 i22)) s0 r1 i2 r3 s12 s13 i14 i15 i16 i17 b18 n i19
 | 0, _ => rfl
 | n + 1, i19 => by
  simp only [ELp57_2, Lp57_2, W72]
  congr 1
  funext i19
  exact eqLp57_2 m R s0 r1 i2 r3 s12 s13 i14 i15 i16 i17 b18 k n i19
noncomputable def L41 (m : Nat) : LTbl := addB 57 2 (brLp57_2 m (L40 m)) (L40 m)
theorem okL41 (m : Nat) : LTOk Tryz.prog H (L41 m) := addB_ok (okT55 m) hM (okL40 m) (l := [1, 2, 4, 5, 6, 31, 32]) (by kernel_rfl) (by kernel_rfl) m (fun R n vs k => ELp57_2 m R n vs k) (fun R vs k => rfl) (fun R n vs k x h => by
   simp only [ELp57_2] at h
   split at h
   ·exact (stLp57_2 m n R _ _ _ _ _ _ _ _ _ _ _ _ k).trans h
   ·cases h) fun R vs k x h => by
  unfold brLp57_2 at h
  split at h
  ·exact .inl ((eqLp57_2 m R _ _ _ _ _ _ _ _ _ _ _ k m _).trans h)
  ·exact .inr h

abbrev W73 (a0 a1 : ByteArray) (a2 a3 a4 a5 : Int) (a6 : Bool) : List V := [.agg [.f (.lit (.string a0)), .f (.lit (.string a1)), .f (.lit (.int .i64 a2)), .f (.lit (.int .i64 a3)), .f (.lit (.int .i64 a4)), .f (.lit (.int .i64 a5))], .f (.lit (.bool a6))]
abbrev W74 (a0 : Abs.Rows) (a1 : Int) (a2 : Abs.Rows) (a3 : ByteArray) : List V := [.agg [.f (.lst [.str, .str, .int .i64, .int .i64, .int .i64, .int .i64] a0), .f (.lit (.int .i64 a1)), .f (.lst [.str] a2)], .f (.lit (.string a3))]
/-- - -/
noncomputable def Fn57 {R : Type} (m : Nat) : Abs.Rows → Int → Abs.Rows → ByteArray → (ByteArray → ByteArray → Int → Int → Int → Int → Bool → Option R) → Option R := match m with
 | 0 => fun _ _ _ _ _ => none
 | m + 1 => fun r0 i1 r2 s3 k =>
 Lp57_2 m (fun s4 s5 i6 i7 i8 i9 b10 i11 => k s4 s5 i6 i7 i8 i9 b10) (fun i12 => k ({ data := #[] }) ({ data := #[] }) ((0 : Int)) ((0 : Int)) ((0 : Int)) ((0 : Int)) false) s3 r0 i1 r2 ({ data := #[] }) ({ data := #[] }) ((0 : Int)) ((0 : Int)) ((0 : Int)) ((0 : Int)) false m ((↑(ByteArray.size s3) : Int))
noncomputable def brFn57 (m : Nat) (T : Tbl) (R : Type) (vs : List V) (k : V → List V → Option R) : Option R := match vs with
 | [.agg [.f (.lst [.str, .str, .int .i64, .int .i64, .int .i64, .int .i64] r0), .f (.lit (.int .i64 i1)), .f (.lst [.str] r2)], .f (.lit (.string s3))] => Fn57 m r0 i1 r2 s3 (fun s13 s14 i15 i16 i17 i18 b19 => k (V.tup (W73 s13 s14 i15 i16 i17 i18 b19)) W1)
 | _ => T R 57 vs k

theorem evFn57 (m : Nat) (R : Type) (r0 : Abs.Rows) (i1 : Int) (r2 : Abs.Rows) (s3 : ByteArray) (k : V → List V → Option R) : runK Tryz.prog H (T55 m) (L41 m) 57 (W74 r0 i1 r2 s3) k = Fn57 (m + 1) r0 i1 r2 s3 (fun s13 s14 i15 i16 i17 i18 b19 => k (V.tup (W73 s13 s14 i15 i16 i17 i18 b19)) W1) := by kernel_rfl
noncomputable def T56 (m : Nat) : Tbl := addT 57 (brFn57 m (T55 m)) (T55 m)
theorem okT56 (m : Nat) : TblOk Tryz.prog (T56 m) := addT_ok (okT55 m) fun R vs k x h => by
 unfold brFn57 at h
 split at h
 ·cases m with
  | zero => cases h
  | succ m => exact runK_some (okT55 m) hM (okL41 m) ((evFn57 m R _ _ _ _ k).trans h)
 ·exact okT55 m R 57 _ k x h

abbrev W75 (a0 : Abs.Rows) (a1 : ByteArray) (a2 a3 a4 : Int) : List V := [.f (.lst [.str] a0), .f (.lit (.string a1)), .f (.lit (.int .i64 a2)), .f (.lit (.int .i64 a3)), .f (.lit (.int .i64 a4)), .undef, .undef]
/-- - -/
noncomputable def Lp115_2_step {R : Type} (m : Nat) (kx0 : Int → Int → Option R) (kx1 : Int → Option R) (r0 : Abs.Rows) (s1 : ByteArray) (i2 i3 : Int) (REC : Int → Option R) (i4 : Int) : Option R :=
 bif decide (i4 < i3) then (bif decide ((0 : Int) ≤ i4 ∧ i4 < (↑(List.length r0) : Int)) then (bif ByteArray.toList s1 == ByteArray.toList (fS r0 (Int.toNat i4) (0 : Nat)) then (kx0 i4 i4) else
 (REC (IntKind.wrap IntKind.i64 (i4 + (1 : Int))))) else
 (none)) else
 (kx1 i4)
noncomputable def Lp115_2 {R : Type} (m : Nat) (kx0 : Int → Int → Option R) (kx1 : Int → Option R) (r0 : Abs.Rows) (s1 : ByteArray) (i2 i3 : Int) : Nat → Int → Option R
 | 0, _ => none
 | n + 1, i4 => Lp115_2_step m kx0 kx1 r0 s1 i2 i3 (Lp115_2 m kx0 kx1 r0 s1 i2 i3 n) i4
noncomputable def ELp115_2 (m : Nat) (R : Type) : Nat → List V → (Ex → List V → Option R) → Option R
 | 0, _, _ => none
 | n + 1, vs, k => match vs with
  | [.f (.lst [.str] r0), .f (.lit (.string s1)), .f (.lit (.int .i64 i2)), .f (.lit (.int .i64 i3)), .f (.lit (.int .i64 i4)), .undef, .undef] => Lp115_2_step m (fun i5 i6 => k Ex.ret (W75 r0 s1 i5 i3 i6)) (fun i7 => k (Ex.exit (0 : Nat)) (W75 r0 s1 i2 i3 i7)) r0 s1 i2 i3 (fun i4 => ELp115_2 m R n (W75 r0 s1 i2 i3 i4) k) i4
  | _ => none
noncomputable def brLp115_2 (m : Nat) (L : LTbl) (R : Type) (vs : List V) (k : Ex → List V → Option R) : Option R := match vs with
 | [.f (.lst [.str] r0), .f (.lit (.string s1)), .f (.lit (.int .i64 i2)), .f (.lit (.int .i64 i3)), .f (.lit (.int .i64 i4)), .undef, .undef] => Lp115_2 m (fun i5 i6 => k Ex.ret (W75 r0 s1 i5 i3 i6)) (fun i7 => k (Ex.exit (0 : Nat)) (W75 r0 s1 i2 i3 i7)) r0 s1 i2 i3 m i4
 | _ => L R 115 2 vs k

theorem stLp115_2 (m n : Nat) (R : Type) (r0 : Abs.Rows) (s1 : ByteArray) (i2 i3 i4 : Int) (k : Ex → List V → Option R) : codeK Tryz.prog H (T56 m) 115 (L41 m) 3 (loopBody Tryz.prog 115 2) (mkEnv [0, 1, 4, 7, 8, 19, 20] (W75 r0 s1 i2 i3 i4) 0 (H.len 115)) (fun e env' => match e with | .normal => ELp115_2 m R n (vals [0, 1, 4, 7, 8, 19, 20] env') k | e => k e (vals [0, 1, 4, 7, 8, 19, 20] env')) = Lp115_2_step m (fun i5 i6 => k Ex.ret (W75 r0 s1 i5 i3 i6)) (fun i7 => k (Ex.exit (0 : Nat)) (W75 r0 s1 i2 i3 i7)) r0 s1 i2 i3 (fun i4 => ELp115_2 m R n (W75 r0 s1 i2 i3 i4) k) i4 := by kernel_rfl
theorem eqLp115_2 (m : Nat) (R : Type) (r0 : Abs.Rows) (s1 : ByteArray) (i2 i3 : Int) (k : Ex → List V → Option R) : ∀ (n : Nat) (i4 : Int), ELp115_2 m R n (W75 r0 s1 i2 i3 i4) k = Lp115_2 m (fun i5 i6 => k Ex.ret (W75 r0 s1 i5 i3 i6)) (fun i7 => k (Ex.exit (0 : Nat)) (W75 r0 s1 i2 i3 i7)) r0 s1 i2 i3 n i4
 | 0, _ => rfl
 | n + 1, i4 => by
  simp only [ELp115_2, Lp115_2, W75]
  congr 1
  funext i4
  exact eqLp115_2 m R r0 s1 i2 i3 k n i4
noncomputable def L42 (m : Nat) : LTbl := addB 115 2 (brLp115_2 m (L41 m)) (L41 m)
theorem okL42 (m : Nat) : LTOk Tryz.prog H (L42 m) := addB_ok (okT56 m) hM (okL41 m) (l := [0, 1, 4, 7, 8, 19, 20]) (by kernel_rfl) (by kernel_rfl) m (fun R n vs k => ELp115_2 m R n vs k) (fun R vs k => rfl) (fun R n vs k x h => by
   simp only [ELp115_2] at h
   split at h
   ·exact (stLp115_2 m n R _ _ _ _ _ k).trans h
   ·cases h) fun R vs k x h => by
  unfold brLp115_2 at h
  split at h
  ·exact .inl ((eqLp115_2 m R _ _ _ _ k m _).trans h)
  ·exact .inr h

abbrev W76 (a0 : Abs.Rows) (a1 : ByteArray) : List V := [.f (.lst [.str] a0), .f (.lit (.string a1))]
/-- - -/
noncomputable def Fn115 {R : Type} (m : Nat) : Abs.Rows → ByteArray → (Int → Option R) → Option R := match m with
 | 0 => fun _ _ _ => none
 | m + 1 => fun r0 s1 k =>
 Lp115_2 m (fun i2 i3 => k i2) (fun i4 => k ((-1 : Int))) r0 s1 ((0 : Int)) ((↑(List.length r0) : Int)) m ((0 : Int))
noncomputable def brFn115 (m : Nat) (T : Tbl) (R : Type) (vs : List V) (k : V → List V → Option R) : Option R := match vs with
 | [.f (.lst [.str] r0), .f (.lit (.string s1))] => Fn115 m r0 s1 (fun i5 => k (V.f (F.lit (Value.int IntKind.i64 i5))) W1)
 | _ => T R 115 vs k

theorem evFn115 (m : Nat) (R : Type) (r0 : Abs.Rows) (s1 : ByteArray) (k : V → List V → Option R) : runK Tryz.prog H (T56 m) (L42 m) 115 (W76 r0 s1) k = Fn115 (m + 1) r0 s1 (fun i5 => k (V.f (F.lit (Value.int IntKind.i64 i5))) W1) := by kernel_rfl
noncomputable def T57 (m : Nat) : Tbl := addT 115 (brFn115 m (T56 m)) (T56 m)
theorem okT57 (m : Nat) : TblOk Tryz.prog (T57 m) := addT_ok (okT56 m) fun R vs k x h => by
 unfold brFn115 at h
 split at h
 ·cases m with
  | zero => cases h
  | succ m => exact runK_some (okT56 m) hM (okL42 m) ((evFn115 m R _ _ k).trans h)
 ·exact okT56 m R 115 _ k x h

/-- - -/
noncomputable def Fn59 {R : Type} (m : Nat) : Abs.Rows → ByteArray → (Bool → Option R) → Option R := match m with
 | 0 => fun _ _ _ => none
 | m + 1 => fun r0 s1 k =>
 Fn115 m r0 s1 (fun i2 => k (decide (i2 ≥ (0 : Int))))
noncomputable def brFn59 (m : Nat) (T : Tbl) (R : Type) (vs : List V) (k : V → List V → Option R) : Option R := match vs with
 | [.f (.lst [.str] r0), .f (.lit (.string s1))] => Fn59 m r0 s1 (fun b3 => k (V.f (F.lit (Value.bool b3))) W1)
 | _ => T R 59 vs k

theorem evFn59 (m : Nat) (R : Type) (r0 : Abs.Rows) (s1 : ByteArray) (k : V → List V → Option R) : runK Tryz.prog H (T57 m) (L42 m) 59 (W76 r0 s1) k = Fn59 (m + 1) r0 s1 (fun b3 => k (V.f (F.lit (Value.bool b3))) W1) := by kernel_rfl
noncomputable def T58 (m : Nat) : Tbl := addT 59 (brFn59 m (T57 m)) (T57 m)
theorem okT58 (m : Nat) : TblOk Tryz.prog (T58 m) := addT_ok (okT57 m) fun R vs k x h => by
 unfold brFn59 at h
 split at h
 ·cases m with
  | zero => cases h
  | succ m => exact runK_some (okT57 m) hM (okL42 m) ((evFn59 m R _ _ k).trans h)
 ·exact okT57 m R 59 _ k x h

abbrev W77 (a0 a1 : ByteArray) (a2 a3 a4 a5 a6 : Int) : List V := [.agg [.f (.lit (.string a0)), .f (.lit (.string a1)), .f (.lit (.int .i64 a2)), .f (.lit (.int .i64 a3)), .f (.lit (.int .i64 a4)), .f (.lit (.int .i64 a5))], .f (.lit (.int .i64 a6))]
/-- - -/
noncomputable def Fn110 {R : Type} (m : Nat) : ByteArray → ByteArray → Int → Int → Int → Int → Int → (Int → Option R) → Option R := match m with
 | 0 => fun _ _ _ _ _ _ _ _ => none
 | m + 1 => fun s0 s1 i2 i3 i4 i5 i6 k =>
 bif i6 == (0 : Int) then (k ((0 : Int))) else
 (bif decide (i4 ≠ (0 : Int)) then (letV (IntKind.wrap IntKind.i64 (IntKind.wrap IntKind.i64 ((if IntKind.wrap IntKind.i64 (i6 - i3) > (0 : Int) then IntKind.wrap IntKind.i64 (i6 - i3) else (0 : Int)) + i4) - (1 : Int))) (fun i7 => k (IntKind.wrap IntKind.i64 (i2 + IntKind.wrap IntKind.i64 (i5 * IntKind.wrap IntKind.i64 (Int.tdiv i7 i4)))))) else
 (none))
noncomputable def brFn110 (m : Nat) (T : Tbl) (R : Type) (vs : List V) (k : V → List V → Option R) : Option R := match vs with
 | [.agg [.f (.lit (.string s0)), .f (.lit (.string s1)), .f (.lit (.int .i64 i2)), .f (.lit (.int .i64 i3)), .f (.lit (.int .i64 i4)), .f (.lit (.int .i64 i5))], .f (.lit (.int .i64 i6))] => Fn110 m s0 s1 i2 i3 i4 i5 i6 (fun i8 => k (V.f (F.lit (Value.int IntKind.i64 i8))) W1)
 | _ => T R 110 vs k

theorem evFn110 (m : Nat) (R : Type) (s0 s1 : ByteArray) (i2 i3 i4 i5 i6 : Int) (k : V → List V → Option R) : runK Tryz.prog H (T58 m) (L42 m) 110 (W77 s0 s1 i2 i3 i4 i5 i6) k = Fn110 (m + 1) s0 s1 i2 i3 i4 i5 i6 (fun i8 => k (V.f (F.lit (Value.int IntKind.i64 i8))) W1) := by kernel_rfl
noncomputable def T59 (m : Nat) : Tbl := addT 110 (brFn110 m (T58 m)) (T58 m)
theorem okT59 (m : Nat) : TblOk Tryz.prog (T59 m) := addT_ok (okT58 m) fun R vs k x h => by
 unfold brFn110 at h
 split at h
 ·cases m with
  | zero => cases h
  | succ m => exact runK_some (okT58 m) hM (okL42 m) ((evFn110 m R _ _ _ _ _ _ _ k).trans h)
 ·exact okT58 m R 110 _ k x h

abbrev W78 (a0 : Abs.Rows) (a1 : Int) (a2 : Abs.Rows) (a3 : Int) (a4 a5 a6 a7 : Abs.Rows) (a8 a9 a10 : ByteArray) (a11 a12 a13 a14 : Int) (a15 a16 a17 : ByteArray) (a18 a19 a20 a21 : Int) (a22 a23 a24 : ByteArray) (a25 a26 : Int) (a27 : Abs.Rows) (a28 a29 : Int) : List V := [.bor [.str, .str, .str, .int .i64, .int .i64, .int .i64, .int .i64, .str] a0, .f (.lit (.int .i64 a1)), .obj [.f (.lst [.str, .str, .int .i64, .int .i64, .int .i64, .int .i64] a2), .f (.lit (.int .i64 a3)), .f (.lst [.str] a4)], .own [.mp false, .str, .str] a5, .own [.mp false, .str, .int .i64] a6, .own [.str, .str, .str, .int .i64, .int .i64, .str, .str, .str, .int .i64, .int .i64, .int .i64, .int .i64, .str] a7, .obj [.f (.lit (.string a8)), .f (.lit (.string a9)), .f (.lit (.string a10)), .f (.lit (.int .i64 a11)), .f (.lit (.int .i64 a12)), .f (.lit (.int .i64 a13)), .f (.lit (.int .i64 a14)), .f (.lit (.string a15))], .obj [.f (.lit (.string a16)), .f (.lit (.string a17)), .f (.lit (.int .i64 a18)), .f (.lit (.int .i64 a19)), .f (.lit (.int .i64 a20)), .f (.lit (.int .i64 a21))], .obj [.f (.lit (.string a22)), .f (.lit (.string a23)), .f (.lit (.string a24)), .f (.lit (.int .i64 a25)), .f (.lit (.int .i64 a26))], .undef, .undef, .bor [.str, .str, .str, .int .i64, .int .i64, .int .i64, .int .i64, .str] a27, .f (.lit (.int .i64 a28)), .f (.lit (.int .i64 a29)), .undef, .undef, .undef, .undef, .undef]
/-- - -/
noncomputable def Jn54_16 {R : Type} (m : Nat) (kx0 : Abs.Rows → Int → Option R) (r0 : Abs.Rows) (i1 : Int) (r2 : Abs.Rows) (i3 : Int) (r4 r5 r6 r7 : Abs.Rows) (s8 s9 s10 : ByteArray) (i11 i12 i13 i14 : Int) (s15 s16 s17 : ByteArray) (i18 i19 i20 i21 : Int) (s22 s23 s24 : ByteArray) (i25 i26 : Int) (r27 : Abs.Rows) (i28 i29 : Int) : Option R :=
 Fn110 m s16 s17 i18 i19 i20 i21 (IntKind.wrap IntKind.i64 (i13 - i25)) (fun i30 => bif decide (List.length r7 + List.length [[F.lit (Value.string s22), F.lit (Value.string s23), F.lit (Value.string s24), F.lit (Value.int IntKind.i64 i25), F.lit (Value.int IntKind.i64 i30), F.lit (Value.string s8), F.lit (Value.string s9), F.lit (Value.string s10), F.lit (Value.int IntKind.i64 i11), F.lit (Value.int IntKind.i64 i12), F.lit (Value.int IntKind.i64 i13), F.lit (Value.int IntKind.i64 i14), F.lit (Value.string s15)]] ≤ rowMax) then (letV (r7 ++ [[F.lit (Value.string s22), F.lit (Value.string s23), F.lit (Value.string s24), F.lit (Value.int IntKind.i64 i25), F.lit (Value.int IntKind.i64 i30), F.lit (Value.string s8), F.lit (Value.string s9), F.lit (Value.string s10), F.lit (Value.int IntKind.i64 i11), F.lit (Value.int IntKind.i64 i12), F.lit (Value.int IntKind.i64 i13), F.lit (Value.int IntKind.i64 i14), F.lit (Value.string s15)]]) (fun r31 => kx0 r31 i30)) else
 (none))
noncomputable def brJn54_16 (m : Nat) (L : LTbl) (R : Type) (vs : List V) (k : Ex → List V → Option R) : Option R := match vs with
 | [.bor [.str, .str, .str, .int .i64, .int .i64, .int .i64, .int .i64, .str] r0, .f (.lit (.int .i64 i1)), .obj [.f (.lst [.str, .str, .int .i64, .int .i64, .int .i64, .int .i64] r2), .f (.lit (.int .i64 i3)), .f (.lst [.str] r4)], .own [.mp false, .str, .str] r5, .own [.mp false, .str, .int .i64] r6, .own [.str, .str, .str, .int .i64, .int .i64, .str, .str, .str, .int .i64, .int .i64, .int .i64, .int .i64, .str] r7, .obj [.f (.lit (.string s8)), .f (.lit (.string s9)), .f (.lit (.string s10)), .f (.lit (.int .i64 i11)), .f (.lit (.int .i64 i12)), .f (.lit (.int .i64 i13)), .f (.lit (.int .i64 i14)), .f (.lit (.string s15))], .obj [.f (.lit (.string s16)), .f (.lit (.string s17)), .f (.lit (.int .i64 i18)), .f (.lit (.int .i64 i19)), .f (.lit (.int .i64 i20)), .f (.lit (.int .i64 i21))], .obj [.f (.lit (.string s22)), .f (.lit (.string s23)), .f (.lit (.string s24)), .f (.lit (.int .i64 i25)), .f (.lit (.int .i64 i26))], .undef, .undef, .bor [.str, .str, .str, .int .i64, .int .i64, .int .i64, .int .i64, .str] r27, .f (.lit (.int .i64 i28)), .f (.lit (.int .i64 i29)), .undef, .undef, .undef, .undef, .undef] => Jn54_16 m (fun r32 i33 => k Ex.normal (W78 r0 i1 r2 i3 r4 r5 r6 r32 s8 s9 s10 i11 i12 i13 i14 s15 s16 s17 i18 i19 i20 i21 s22 s23 s24 i25 i33 r27 i28 i29)) r0 i1 r2 i3 r4 r5 r6 r7 s8 s9 s10 i11 i12 i13 i14 s15 s16 s17 i18 i19 i20 i21 s22 s23 s24 i25 i26 r27 i28 i29
 | _ => L R 54 16 vs k

theorem evJn54_16 (m : Nat) (R : Type) (r0 : Abs.Rows) (i1 : Int) (r2 : Abs.Rows) (i3 : Int) (r4 r5 r6 r7 : Abs.Rows) (s8 s9 s10 : ByteArray) (i11 i12 i13 i14 : Int) (s15 s16 s17 : ByteArray) (i18 i19 i20 i21 : Int) (s22 s23 s24 : ByteArray) (i25 i26 : Int) (r27 : Abs.Rows) (i28 i29 : Int) (k : Ex → List V → Option R) : codeK Tryz.prog H (T59 m) 54 (L42 m) 17 (loopBody Tryz.prog 54 16) (mkEnv [2, 3, 4, 9, 10, 11, 13, 16, 18, 20, 21, 22, 23, 24, 100, 103, 104, 105, 106] (W78 r0 i1 r2 i3 r4 r5 r6 r7 s8 s9 s10 i11 i12 i13 i14 s15 s16 s17 i18 i19 i20 i21 s22 s23 s24 i25 i26 r27 i28 i29) 0 (H.len 54)) (fun e env' => k e (vals [2, 3, 4, 9, 10, 11, 13, 16, 18, 20, 21, 22, 23, 24, 100, 103, 104, 105, 106] env')) = Jn54_16 m (fun r32 i33 => k Ex.normal (W78 r0 i1 r2 i3 r4 r5 r6 r32 s8 s9 s10 i11 i12 i13 i14 s15 s16 s17 i18 i19 i20 i21 s22 s23 s24 i25 i33 r27 i28 i29)) r0 i1 r2 i3 r4 r5 r6 r7 s8 s9 s10 i11 i12 i13 i14 s15 s16 s17 i18 i19 i20 i21 s22 s23 s24 i25 i26 r27 i28 i29 := by kernel_rfl
noncomputable def L43 (m : Nat) : LTbl := addJ 54 16 (brJn54_16 m (L42 m)) (L42 m)
theorem okL43 (m : Nat) : LTOk Tryz.prog H (L43 m) := addJ_ok (okT59 m) hM (okL42 m) (l := [2, 3, 4, 9, 10, 11, 13, 16, 18, 20, 21, 22, 23, 24, 100, 103, 104, 105, 106]) (by kernel_rfl) (by kernel_rfl) fun R vs k x h => by
  unfold brJn54_16 at h
  split at h
  ·exact .inl ((evJn54_16 m R _ _ _ _ _ _ _ _ _ _ _ _ _ _ _ _ _ _ _ _ _ _ _ _ _ _ _ _ _ _ k).trans h)
  ·exact .inr h

abbrev W79 (a0 : Abs.Rows) (a1 : Int) (a2 : Abs.Rows) (a3 : Int) (a4 a5 a6 a7 : Abs.Rows) (a8 a9 a10 : ByteArray) (a11 a12 a13 a14 : Int) (a15 a16 a17 : ByteArray) (a18 a19 a20 a21 : Int) (a22 : Abs.Rows) (a23 a24 : Int) : List V := [.bor [.str, .str, .str, .int .i64, .int .i64, .int .i64, .int .i64, .str] a0, .f (.lit (.int .i64 a1)), .obj [.f (.lst [.str, .str, .int .i64, .int .i64, .int .i64, .int .i64] a2), .f (.lit (.int .i64 a3)), .f (.lst [.str] a4)], .own [.mp false, .str, .str] a5, .own [.mp false, .str, .int .i64] a6, .own [.str, .str, .str, .int .i64, .int .i64, .str, .str, .str, .int .i64, .int .i64, .int .i64, .int .i64, .str] a7, .obj [.f (.lit (.string a8)), .f (.lit (.string a9)), .f (.lit (.string a10)), .f (.lit (.int .i64 a11)), .f (.lit (.int .i64 a12)), .f (.lit (.int .i64 a13)), .f (.lit (.int .i64 a14)), .f (.lit (.string a15))], .undef, .obj [.f (.lit (.string a16)), .f (.lit (.string a17)), .f (.lit (.int .i64 a18)), .f (.lit (.int .i64 a19)), .f (.lit (.int .i64 a20)), .f (.lit (.int .i64 a21))], .undef, .undef, .bor [.str, .str, .str, .int .i64, .int .i64, .int .i64, .int .i64, .str] a22, .f (.lit (.int .i64 a23)), .f (.lit (.int .i64 a24)), .undef, .undef, .undef, .undef, .undef]
abbrev W80 (a0 : Abs.Rows) (a1 : Int) (a2 : Abs.Rows) (a3 : Int) (a4 a5 a6 a7 : Abs.Rows) (a8 a9 a10 : ByteArray) (a11 a12 a13 a14 : Int) (a15 a16 a17 a18 : ByteArray) (a19 a20 a21 a22 : Int) (a23 : Abs.Rows) (a24 a25 : Int) : List V := [.bor [.str, .str, .str, .int .i64, .int .i64, .int .i64, .int .i64, .str] a0, .f (.lit (.int .i64 a1)), .obj [.f (.lst [.str, .str, .int .i64, .int .i64, .int .i64, .int .i64] a2), .f (.lit (.int .i64 a3)), .f (.lst [.str] a4)], .own [.mp false, .str, .str] a5, .own [.mp false, .str, .int .i64] a6, .own [.str, .str, .str, .int .i64, .int .i64, .str, .str, .str, .int .i64, .int .i64, .int .i64, .int .i64, .str] a7, .obj [.f (.lit (.string a8)), .f (.lit (.string a9)), .f (.lit (.string a10)), .f (.lit (.int .i64 a11)), .f (.lit (.int .i64 a12)), .f (.lit (.int .i64 a13)), .f (.lit (.int .i64 a14)), .f (.lit (.string a15))], .f (.lit (.string a16)), .obj [.f (.lit (.string a17)), .f (.lit (.string a18)), .f (.lit (.int .i64 a19)), .f (.lit (.int .i64 a20)), .f (.lit (.int .i64 a21)), .f (.lit (.int .i64 a22))], .undef, .undef, .bor [.str, .str, .str, .int .i64, .int .i64, .int .i64, .int .i64, .str] a23, .f (.lit (.int .i64 a24)), .f (.lit (.int .i64 a25)), .undef, .undef, .undef, .undef, .undef]
/-- - -/
noncomputable def Jn54_12 {R : Type} (m : Nat) (kx0 : Abs.Rows → Abs.Rows → Option R) (r0 : Abs.Rows) (i1 : Int) (r2 : Abs.Rows) (i3 : Int) (r4 r5 r6 r7 : Abs.Rows) (s8 s9 s10 : ByteArray) (i11 i12 i13 i14 : Int) (s15 s16 s17 s18 : ByteArray) (i19 i20 i21 i22 : Int) (r23 : Abs.Rows) (i24 i25 : Int) : Option R :=
 Fn59 m r4 s18 (fun b26 => bif b26 then (bif decide (List.length r6 < rowMax) then (letV (IntKind.wrap IntKind.i64 (F.toInt (List.headD (mRow (F.lit (Value.string s16)) [F.lit (Value.int IntKind.i64 (0 : Int))] r6) default) + if i13 < IntKind.wrap IntKind.i64 (i3 - F.toInt (List.headD (mRow (F.lit (Value.string s16)) [F.lit (Value.int IntKind.i64 (0 : Int))] r6) default)) then i13 else IntKind.wrap IntKind.i64 (i3 - F.toInt (List.headD (mRow (F.lit (Value.string s16)) [F.lit (Value.int IntKind.i64 (0 : Int))] r6) default)))) (fun i27 => Jn54_16 m (fun r28 i29 => kx0 (mPut (F.lit (Value.string s16)) [F.lit (Value.int IntKind.i64 i27)] r6) r28) r0 i1 r2 i3 r4 r5 (mPut (F.lit (Value.string s16)) [F.lit (Value.int IntKind.i64 i27)] r6) r7 s8 s9 s10 i11 i12 i13 i14 s15 s17 s18 i19 i20 i21 i22 s8 s16 s18 (if i13 < IntKind.wrap IntKind.i64 (i3 - F.toInt (List.headD (mRow (F.lit (Value.string s16)) [F.lit (Value.int IntKind.i64 (0 : Int))] r6) default)) then i13 else IntKind.wrap IntKind.i64 (i3 - F.toInt (List.headD (mRow (F.lit (Value.string s16)) [F.lit (Value.int IntKind.i64 (0 : Int))] r6) default))) ((0 : Int)) r23 i24 i25)) else
 (none)) else
 (Jn54_16 m (fun r30 i31 => kx0 r6 r30) r0 i1 r2 i3 r4 r5 r6 r7 s8 s9 s10 i11 i12 i13 i14 s15 s17 s18 i19 i20 i21 i22 s8 s16 s18 ((0 : Int)) ((0 : Int)) r23 i24 i25))
noncomputable def brJn54_12 (m : Nat) (L : LTbl) (R : Type) (vs : List V) (k : Ex → List V → Option R) : Option R := match vs with
 | [.bor [.str, .str, .str, .int .i64, .int .i64, .int .i64, .int .i64, .str] r0, .f (.lit (.int .i64 i1)), .obj [.f (.lst [.str, .str, .int .i64, .int .i64, .int .i64, .int .i64] r2), .f (.lit (.int .i64 i3)), .f (.lst [.str] r4)], .own [.mp false, .str, .str] r5, .own [.mp false, .str, .int .i64] r6, .own [.str, .str, .str, .int .i64, .int .i64, .str, .str, .str, .int .i64, .int .i64, .int .i64, .int .i64, .str] r7, .obj [.f (.lit (.string s8)), .f (.lit (.string s9)), .f (.lit (.string s10)), .f (.lit (.int .i64 i11)), .f (.lit (.int .i64 i12)), .f (.lit (.int .i64 i13)), .f (.lit (.int .i64 i14)), .f (.lit (.string s15))], .f (.lit (.string s16)), .obj [.f (.lit (.string s17)), .f (.lit (.string s18)), .f (.lit (.int .i64 i19)), .f (.lit (.int .i64 i20)), .f (.lit (.int .i64 i21)), .f (.lit (.int .i64 i22))], .undef, .undef, .bor [.str, .str, .str, .int .i64, .int .i64, .int .i64, .int .i64, .str] r23, .f (.lit (.int .i64 i24)), .f (.lit (.int .i64 i25)), .undef, .undef, .undef, .undef, .undef] => Jn54_12 m (fun r32 r33 => k Ex.normal (W79 r0 i1 r2 i3 r4 r5 r32 r33 s8 s9 s10 i11 i12 i13 i14 s15 s17 s18 i19 i20 i21 i22 r23 i24 i25)) r0 i1 r2 i3 r4 r5 r6 r7 s8 s9 s10 i11 i12 i13 i14 s15 s16 s17 s18 i19 i20 i21 i22 r23 i24 i25
 | _ => L R 54 12 vs k

theorem evJn54_12 (m : Nat) (R : Type) (r0 : Abs.Rows) (i1 : Int) (r2 : Abs.Rows) (i3 : Int) (r4 r5 r6 r7 : Abs.Rows) (s8 s9 s10 : ByteArray) (i11 i12 i13 i14 : Int) (s15 s16 s17 s18 : ByteArray) (i19 i20 i21 i22 : Int) (r23 : Abs.Rows) (i24 i25 : Int) (k : Ex → List V → Option R) : codeK Tryz.prog H (T59 m) 54 (L43 m) 13 (loopBody Tryz.prog 54 12) (mkEnv [2, 3, 4, 9, 10, 11, 13, 14, 16, 20, 21, 22, 23, 24, 100, 103, 104, 105, 106] (W80 r0 i1 r2 i3 r4 r5 r6 r7 s8 s9 s10 i11 i12 i13 i14 s15 s16 s17 s18 i19 i20 i21 i22 r23 i24 i25) 0 (H.len 54)) (fun e env' => k e (vals [2, 3, 4, 9, 10, 11, 13, 14, 16, 20, 21, 22, 23, 24, 100, 103, 104, 105, 106] env')) = Jn54_12 m (fun r32 r33 => k Ex.normal (W79 r0 i1 r2 i3 r4 r5 r32 r33 s8 s9 s10 i11 i12 i13 i14 s15 s17 s18 i19 i20 i21 i22 r23 i24 i25)) r0 i1 r2 i3 r4 r5 r6 r7 s8 s9 s10 i11 i12 i13 i14 s15 s16 s17 s18 i19 i20 i21 i22 r23 i24 i25 := by kernel_rfl
noncomputable def L44 (m : Nat) : LTbl := addJ 54 12 (brJn54_12 m (L43 m)) (L43 m)
theorem okL44 (m : Nat) : LTOk Tryz.prog H (L44 m) := addJ_ok (okT59 m) hM (okL43 m) (l := [2, 3, 4, 9, 10, 11, 13, 14, 16, 20, 21, 22, 23, 24, 100, 103, 104, 105, 106]) (by kernel_rfl) (by kernel_rfl) fun R vs k x h => by
  unfold brJn54_12 at h
  split at h
  ·exact .inl ((evJn54_12 m R _ _ _ _ _ _ _ _ _ _ _ _ _ _ _ _ _ _ _ _ _ _ _ _ _ _ k).trans h)
  ·exact .inr h

abbrev W81 (a0 : Abs.Rows) (a1 : Int) (a2 : Abs.Rows) (a3 : Int) (a4 a5 a6 a7 a8 : Abs.Rows) (a9 a10 : Int) : List V := [.bor [.str, .str, .str, .int .i64, .int .i64, .int .i64, .int .i64, .str] a0, .f (.lit (.int .i64 a1)), .obj [.f (.lst [.str, .str, .int .i64, .int .i64, .int .i64, .int .i64] a2), .f (.lit (.int .i64 a3)), .f (.lst [.str] a4)], .own [.mp false, .str, .str] a5, .own [.mp false, .str, .int .i64] a6, .own [.str, .str, .str, .int .i64, .int .i64, .str, .str, .str, .int .i64, .int .i64, .int .i64, .int .i64, .str] a7, .undef, .undef, .bor [.str, .str, .str, .int .i64, .int .i64, .int .i64, .int .i64, .str] a8, .f (.lit (.int .i64 a9)), .f (.lit (.int .i64 a10)), .undef, .undef, .undef, .undef]
/-- - -/
noncomputable def Lp54_5_step {R : Type} (m : Nat) (kx0 : Abs.Rows → Abs.Rows → Int → Option R) (r0 : Abs.Rows) (i1 : Int) (r2 : Abs.Rows) (i3 : Int) (r4 r5 r6 : Abs.Rows) (i7 : Int) (REC : Abs.Rows → Abs.Rows → Int → Option R) (r8 r9 : Abs.Rows) (i10 : Int) : Option R :=
 bif decide (i10 < i7) then (bif decide ((0 : Int) ≤ i10 ∧ i10 < (↑(List.length r6) : Int)) then (Fn57 m r2 i3 r4 (fS r6 (Int.toNat i10) (2 : Nat)) (fun s11 s12 i13 i14 i15 i16 b17 => bif fI r6 (Int.toNat i10) (5 : Nat) == (0 : Int) then (REC r8 r9 (IntKind.wrap IntKind.i64 (i10 + (1 : Int)))) else
 (bif IntKind.wrap IntKind.i64 (Int.tdiv (fI r6 (Int.toNat i10) (3 : Nat)) (2592000000 : Int)) != i1 then (REC r8 r9 (IntKind.wrap IntKind.i64 (i10 + (1 : Int)))) else
 (bif !mHas (F.lit (Value.string (fS r6 (Int.toNat i10) (1 : Nat)))) r5 then (REC r8 r9 (IntKind.wrap IntKind.i64 (i10 + (1 : Int)))) else
 (bif !b17 then (REC r8 r9 (IntKind.wrap IntKind.i64 (i10 + (1 : Int)))) else
 (Jn54_12 m (fun r18 r19 => REC r18 r19 (IntKind.wrap IntKind.i64 (i10 + (1 : Int)))) r0 i1 r2 i3 r4 r5 r8 r9 (fS r6 (Int.toNat i10) (0 : Nat)) (fS r6 (Int.toNat i10) (1 : Nat)) (fS r6 (Int.toNat i10) (2 : Nat)) (fI r6 (Int.toNat i10) (3 : Nat)) (fI r6 (Int.toNat i10) (4 : Nat)) (fI r6 (Int.toNat i10) (5 : Nat)) (fI r6 (Int.toNat i10) (6 : Nat)) (fS r6 (Int.toNat i10) (7 : Nat)) (F.toStr (List.headD (mRow (F.lit (Value.string (fS r6 (Int.toNat i10) (1 : Nat)))) [F.lit (Value.string { data := #[] })] r5) default)) s11 s12 i13 i14 i15 i16 r6 i7 i10)))))) else
 (none)) else
 (kx0 r8 r9 i10)
noncomputable def Lp54_5 {R : Type} (m : Nat) (kx0 : Abs.Rows → Abs.Rows → Int → Option R) (r0 : Abs.Rows) (i1 : Int) (r2 : Abs.Rows) (i3 : Int) (r4 r5 r6 : Abs.Rows) (i7 : Int) : Nat → Abs.Rows → Abs.Rows → Int → Option R
 | 0, _, _, _ => none
 | n + 1, r8, r9, i10 => Lp54_5_step m kx0 r0 i1 r2 i3 r4 r5 r6 i7 (Lp54_5 m kx0 r0 i1 r2 i3 r4 r5 r6 i7 n) r8 r9 i10
noncomputable def ELp54_5 (m : Nat) (R : Type) : Nat → List V → (Ex → List V → Option R) → Option R
 | 0, _, _ => none
 | n + 1, vs, k => match vs with
  | [.bor [.str, .str, .str, .int .i64, .int .i64, .int .i64, .int .i64, .str] r0, .f (.lit (.int .i64 i1)), .obj [.f (.lst [.str, .str, .int .i64, .int .i64, .int .i64, .int .i64] r2), .f (.lit (.int .i64 i3)), .f (.lst [.str] r4)], .own [.mp false, .str, .str] r5, .own [.mp false, .str, .int .i64] r8, .own [.str, .str, .str, .int .i64, .int .i64, .str, .str, .str, .int .i64, .int .i64, .int .i64, .int .i64, .str] r9, .undef, .undef, .bor [.str, .str, .str, .int .i64, .int .i64, .int .i64, .int .i64, .str] r6, .f (.lit (.int .i64 i7)), .f (.lit (.int .i64 i10)), .undef, .undef, .undef, .undef] => Lp54_5_step m (fun r20 r21 i22 => k (Ex.exit (0 : Nat)) (W81 r0 i1 r2 i3 r4 r5 r20 r21 r6 i7 i22)) r0 i1 r2 i3 r4 r5 r6 i7 (fun r8 r9 i10 => ELp54_5 m R n (W81 r0 i1 r2 i3 r4 r5 r8 r9 r6 i7 i10) k) r8 r9 i10
  | _ => none
noncomputable def brLp54_5 (m : Nat) (L : LTbl) (R : Type) (vs : List V) (k : Ex → List V → Option R) : Option R := match vs with
 | [.bor [.str, .str, .str, .int .i64, .int .i64, .int .i64, .int .i64, .str] r0, .f (.lit (.int .i64 i1)), .obj [.f (.lst [.str, .str, .int .i64, .int .i64, .int .i64, .int .i64] r2), .f (.lit (.int .i64 i3)), .f (.lst [.str] r4)], .own [.mp false, .str, .str] r5, .own [.mp false, .str, .int .i64] r8, .own [.str, .str, .str, .int .i64, .int .i64, .str, .str, .str, .int .i64, .int .i64, .int .i64, .int .i64, .str] r9, .undef, .undef, .bor [.str, .str, .str, .int .i64, .int .i64, .int .i64, .int .i64, .str] r6, .f (.lit (.int .i64 i7)), .f (.lit (.int .i64 i10)), .undef, .undef, .undef, .undef] => Lp54_5 m (fun r20 r21 i22 => k (Ex.exit (0 : Nat)) (W81 r0 i1 r2 i3 r4 r5 r20 r21 r6 i7 i22)) r0 i1 r2 i3 r4 r5 r6 i7 m r8 r9 i10
 | _ => L R 54 5 vs k

theorem stLp54_5 (m n : Nat) (R : Type) (r0 : Abs.Rows) (i1 : Int) (r2 : Abs.Rows) (i3 : Int) (r4 r5 r8 r9 r6 : Abs.Rows) (i7 i10 : Int) (k : Ex → List V → Option R) : codeK Tryz.prog H (T59 m) 54 (L44 m) 6 (loopBody Tryz.prog 54 5) (mkEnv [2, 3, 4, 9, 10, 11, 20, 21, 22, 23, 24, 103, 104, 105, 106] (W81 r0 i1 r2 i3 r4 r5 r8 r9 r6 i7 i10) 0 (H.len 54)) (fun e env' => match e with | .normal => ELp54_5 m R n (vals [2, 3, 4, 9, 10, 11, 20, 21, 22, 23, 24, 103, 104, 105, 106] env') k | e => k e (vals [2, 3, 4, 9, 10, 11, 20, 21, 22, 23, 24, 103, 104, 105, 106] env')) = Lp54_5_step m (fun r20 r21 i22 => k (Ex.exit (0 : Nat)) (W81 r0 i1 r2 i3 r4 r5 r20 r21 r6 i7 i22)) r0 i1 r2 i3 r4 r5 r6 i7 (fun r8 r9 i10 => ELp54_5 m R n (W81 r0 i1 r2 i3 r4 r5 r8 r9 r6 i7 i10) k) r8 r9 i10 := by kernel_rfl
theorem eqLp54_5 (m : Nat) (R : Type) (r0 : Abs.Rows) (i1 : Int) (r2 : Abs.Rows) (i3 : Int) (r4 r5 r6 : Abs.Rows) (i7 : Int) (k : Ex → List V → Option R) : ∀ (n : Nat) (r8 r9 : Abs.Rows) (i10 : Int), ELp54_5 m R n (W81 r0 i1 r2 i3 r4 r5 r8 r9 r6 i7 i10) k = Lp54_5 m (fun r20 r21 i22 => k (Ex.exit (0 : Nat)) (W81 r0 i1 r2 i3 r4 r5 r20 r21 r6 i7 i22)) r0 i1 r2 i3 r4 r5 r6 i7 n r8 r9 i10
 | 0, _, _, _ => rfl
 | n + 1, r8, r9, i10 => by
  simp only [ELp54_5, Lp54_5, W81]
  congr 1
  funext r8 r9 i10
  exact eqLp54_5 m R r0 i1 r2 i3 r4 r5 r6 i7 k n r8 r9 i10
noncomputable def L45 (m : Nat) : LTbl := addB 54 5 (brLp54_5 m (L44 m)) (L44 m)
theorem okL45 (m : Nat) : LTOk Tryz.prog H (L45 m) := addB_ok (okT59 m) hM (okL44 m) (l := [2, 3, 4, 9, 10, 11, 20, 21, 22, 23, 24, 103, 104, 105, 106]) (by kernel_rfl) (by kernel_rfl) m (fun R n vs k => ELp54_5 m R n vs k) (fun R vs k => rfl) (fun R n vs k x h => by
   simp only [ELp54_5] at h
   split at h
   ·exact (stLp54_5 m n R _ _ _ _ _ _ _ _ _ _ _ k).trans h
   ·cases h) fun R vs k x h => by
  unfold brLp54_5 at h
  split at h
  ·exact .inl ((eqLp54_5 m R _ _ _ _ _ _ _ _ k m _ _ _).trans h)
  ·exact .inr h

/-- - -/
noncomputable def Fn54 {R : Type} (m : Nat) : Abs.Rows → Int → Abs.Rows → Abs.Rows → Abs.Rows → Int → (Abs.Rows → Option R) → Option R := match m with
 | 0 => fun _ _ _ _ _ _ _ => none
 | m + 1 => fun r0 i1 r2 r3 r4 i5 k =>
 Fn56 m r3 (fun r6 => Lp54_5 m (fun r7 r8 i9 => k r8) r4 i5 r0 i1 r2 r6 r4 ((↑(List.length r4) : Int)) m rows0 rows0 ((0 : Int)))
noncomputable def brFn54 (m : Nat) (T : Tbl) (R : Type) (vs : List V) (k : V → List V → Option R) : Option R := match vs with
 | [.agg [.f (.lst [.str, .str, .int .i64, .int .i64, .int .i64, .int .i64] r0), .f (.lit (.int .i64 i1)), .f (.lst [.str] r2)], .bor [.str, .lst [.str]] r3, .bor [.str, .str, .str, .int .i64, .int .i64, .int .i64, .int .i64, .str] r4, .f (.lit (.int .i64 i5))] => Fn54 m r0 i1 r2 r3 r4 i5 (fun r10 => k (V.own [LT.str, LT.str, LT.str, LT.int IntKind.i64, LT.int IntKind.i64, LT.str, LT.str, LT.str, LT.int IntKind.i64, LT.int IntKind.i64, LT.int IntKind.i64, LT.int IntKind.i64, LT.str] r10) W64)
 | _ => T R 54 vs k

theorem evFn54 (m : Nat) (R : Type) (r0 : Abs.Rows) (i1 : Int) (r2 r3 r4 : Abs.Rows) (i5 : Int) (k : V → List V → Option R) : runK Tryz.prog H (T59 m) (L45 m) 54 (W65 r0 i1 r2 r3 r4 i5) k = Fn54 (m + 1) r0 i1 r2 r3 r4 i5 (fun r10 => k (V.own [LT.str, LT.str, LT.str, LT.int IntKind.i64, LT.int IntKind.i64, LT.str, LT.str, LT.str, LT.int IntKind.i64, LT.int IntKind.i64, LT.int IntKind.i64, LT.int IntKind.i64, LT.str] r10) W64) := by kernel_rfl
noncomputable def T60 (m : Nat) : Tbl := addT 54 (brFn54 m (T59 m)) (T59 m)
theorem okT60 (m : Nat) : TblOk Tryz.prog (T60 m) := addT_ok (okT59 m) fun R vs k x h => by
 unfold brFn54 at h
 split at h
 ·cases m with
  | zero => cases h
  | succ m => exact runK_some (okT59 m) hM (okL45 m) ((evFn54 m R _ _ _ _ _ _ k).trans h)
 ·exact okT59 m R 54 _ k x h

abbrev W82 (a0 a1 : Abs.Rows) (a2 a3 : Int) : List V := [.own [.str, .str, .str, .int .i64, .int .i64] a0, .own [.str, .str, .str, .int .i64, .int .i64, .str, .str, .str, .int .i64, .int .i64, .int .i64, .int .i64, .str] a1, .f (.lit (.int .i64 a2)), .f (.lit (.int .i64 a3)), .undef, .undef, .undef, .undef]
abbrev K1Lp10_7 {R : Type} (k : Ex → List V → Option R) (r0 : Abs.Rows) (i1 : Int) : Abs.Rows → Int → Option R := fun r2 i3 => k (Ex.exit (0 : Nat)) (W82 r2 r0 i1 i3)
/-- - -/
noncomputable def Lp10_7_step {R : Type} (m : Nat) (kx0 : Abs.Rows → Int → Option R) (r0 : Abs.Rows) (i1 : Int) (REC : Abs.Rows → Int → Option R) (r4 : Abs.Rows) (i5 : Int) : Option R :=
 bif decide (i5 < i1) then (bif decide ((0 : Int) ≤ i5 ∧ i5 < (↑(List.length r0) : Int)) then (bif decide (List.length r4 + List.length [[F.lit (Value.string (fS r0 (Int.toNat i5) (0 : Nat))), F.lit (Value.string (fS r0 (Int.toNat i5) (1 : Nat))), F.lit (Value.string (fS r0 (Int.toNat i5) (2 : Nat))), F.lit (Value.int IntKind.i64 (fI r0 (Int.toNat i5) (3 : Nat))), F.lit (Value.int IntKind.i64 (fI r0 (Int.toNat i5) (4 : Nat)))]] ≤ rowMax) then (letV (r4 ++ [[F.lit (Value.string (fS r0 (Int.toNat i5) (0 : Nat))), F.lit (Value.string (fS r0 (Int.toNat i5) (1 : Nat))), F.lit (Value.string (fS r0 (Int.toNat i5) (2 : Nat))), F.lit (Value.int IntKind.i64 (fI r0 (Int.toNat i5) (3 : Nat))), F.lit (Value.int IntKind.i64 (fI r0 (Int.toNat i5) (4 : Nat)))]]) (fun r6 => REC r6 (IntKind.wrap IntKind.i64 (i5 + (1 : Int))))) else
 (none)) else
 (none)) else
 (kx0 r4 i5)
noncomputable def Lp10_7 {R : Type} (m : Nat) (kx0 : Abs.Rows → Int → Option R) (r0 : Abs.Rows) (i1 : Int) : Nat → Abs.Rows → Int → Option R
 | 0, _, _ => none
 | n + 1, r4, i5 => Lp10_7_step m kx0 r0 i1 (Lp10_7 m kx0 r0 i1 n) r4 i5
noncomputable def ELp10_7 (m : Nat) (R : Type) : Nat → List V → (Ex → List V → Option R) → Option R
 | 0, _, _ => none
 | n + 1, vs, k => match vs with
  | [.own [.str, .str, .str, .int .i64, .int .i64] r4, .own [.str, .str, .str, .int .i64, .int .i64, .str, .str, .str, .int .i64, .int .i64, .int .i64, .int .i64, .str] r0, .f (.lit (.int .i64 i1)), .f (.lit (.int .i64 i5)), .undef, .undef, .undef, .undef] => Lp10_7_step m (K1Lp10_7 k r0 i1) r0 i1 (fun r4 i5 => ELp10_7 m R n (W82 r4 r0 i1 i5) k) r4 i5
  | _ => none
noncomputable def brLp10_7 (m : Nat) (L : LTbl) (R : Type) (vs : List V) (k : Ex → List V → Option R) : Option R := match vs with
 | [.own [.str, .str, .str, .int .i64, .int .i64] r4, .own [.str, .str, .str, .int .i64, .int .i64, .str, .str, .str, .int .i64, .int .i64, .int .i64, .int .i64, .str] r0, .f (.lit (.int .i64 i1)), .f (.lit (.int .i64 i5)), .undef, .undef, .undef, .undef] => Lp10_7 m (K1Lp10_7 k r0 i1) r0 i1 m r4 i5
 | _ => L R 10 7 vs k

theorem stLp10_7 (m n : Nat) (R : Type) (r4 r0 : Abs.Rows) (i1 i5 : Int) (k : Ex → List V → Option R) : codeK Tryz.prog H (T60 m) 10 (L45 m) 8 (loopBody Tryz.prog 10 7) (mkEnv [11, 26, 27, 28, 39, 40, 41, 42] (W82 r4 r0 i1 i5) 0 (H.len 10)) (fun e env' => match e with | .normal => ELp10_7 m R n (vals [11, 26, 27, 28, 39, 40, 41, 42] env') k | e => k e (vals [11, 26, 27, 28, 39, 40, 41, 42] env')) = Lp10_7_step m (K1Lp10_7 k r0 i1) r0 i1 (fun r4 i5 => ELp10_7 m R n (W82 r4 r0 i1 i5) k) r4 i5 := by kernel_rfl
theorem eqLp10_7 (m : Nat) (R : Type) (r0 : Abs.Rows) (i1 : Int) (k : Ex → List V → Option R) : ∀ (n : Nat) (r4 : Abs.Rows) (i5 : Int), ELp10_7 m R n (W82 r4 r0 i1 i5) k = Lp10_7 m (K1Lp10_7 k r0 i1) r0 i1 n r4 i5
 | 0, _, _ => rfl
 | n + 1, r4, i5 => by
  simp only [ELp10_7, Lp10_7, W82]
  congr 1
  funext r4 i5
  exact eqLp10_7 m R r0 i1 k n r4 i5
noncomputable def L46 (m : Nat) : LTbl := addB 10 7 (brLp10_7 m (L45 m)) (L45 m)
theorem okL46 (m : Nat) : LTOk Tryz.prog H (L46 m) := addB_ok (okT60 m) hM (okL45 m) (l := [11, 26, 27, 28, 39, 40, 41, 42]) (by kernel_rfl) (by kernel_rfl) m (fun R n vs k => ELp10_7 m R n vs k) (fun R vs k => rfl) (fun R n vs k x h => by
   simp only [ELp10_7] at h
   split at h
   ·exact (stLp10_7 m n R _ _ _ _ k).trans h
   ·cases h) fun R vs k x h => by
  unfold brLp10_7 at h
  split at h
  ·exact .inl ((eqLp10_7 m R _ _ k m _ _).trans h)
  ·exact .inr h

abbrev W83 (a0 : Abs.Rows) (a1 : Int) : List V := [.own [.str, .str, .str, .int .i64, .int .i64] a0, .f (.lit (.int .i64 a1))]
/-- - -/
noncomputable def Fn10 {R : Type} (m : Nat) : Abs.Rows → Int → Abs.Rows → Abs.Rows → Abs.Rows → Int → (Abs.Rows → Int → Option R) → Option R := match m with
 | 0 => fun _ _ _ _ _ _ _ => none
 | m + 1 => fun r0 i1 r2 r3 r4 i5 k =>
 Fn53 m r0 i1 r2 r3 r4 i5 (fun i6 => bif i6 != (0 : Int) then (k rows0 i6) else
 (Fn54 m r0 i1 r2 r3 r4 i5 (fun r7 => Lp10_7 m (fun r8 i9 => k r8 ((0 : Int))) r7 ((↑(List.length r7) : Int)) m rows0 ((0 : Int)))))
noncomputable def brFn10 (m : Nat) (T : Tbl) (R : Type) (vs : List V) (k : V → List V → Option R) : Option R := match vs with
 | [.agg [.f (.lst [.str, .str, .int .i64, .int .i64, .int .i64, .int .i64] r0), .f (.lit (.int .i64 i1)), .f (.lst [.str] r2)], .bor [.str, .lst [.str]] r3, .bor [.str, .str, .str, .int .i64, .int .i64, .int .i64, .int .i64, .str] r4, .f (.lit (.int .i64 i5))] => Fn10 m r0 i1 r2 r3 r4 i5 (fun r10 i11 => k (V.tup (W83 r10 i11)) W64)
 | _ => T R 10 vs k

theorem evFn10 (m : Nat) (R : Type) (r0 : Abs.Rows) (i1 : Int) (r2 r3 r4 : Abs.Rows) (i5 : Int) (k : V → List V → Option R) : runK Tryz.prog H (T60 m) (L46 m) 10 (W65 r0 i1 r2 r3 r4 i5) k = Fn10 (m + 1) r0 i1 r2 r3 r4 i5 (fun r10 i11 => k (V.tup (W83 r10 i11)) W64) := by kernel_rfl
noncomputable def T61 (m : Nat) : Tbl := addT 10 (brFn10 m (T60 m)) (T60 m)
theorem okT61 (m : Nat) : TblOk Tryz.prog (T61 m) := addT_ok (okT60 m) fun R vs k x h => by
 unfold brFn10 at h
 split at h
 ·cases m with
  | zero => cases h
  | succ m => exact runK_some (okT60 m) hM (okL46 m) ((evFn10 m R _ _ _ _ _ _ k).trans h)
 ·exact okT60 m R 10 _ k x h

abbrev W84 (a0 : Abs.Rows) (a1 : Int) (a2 a3 : Abs.Rows) (a4 : ByteArray) (a5 : Abs.Rows) (a6 : ByteArray) (a7 a8 a9 a10 a11 : Int) (a12 : Abs.Rows) (a13 a14 : Int) (a15 : Nat) (a16 a17 : Int) : List V := [.bor [.str, .lst [.str]] a0, .f (.lit (.int .i64 a1)), .own [.str, .str, .str, .int .i64, .int .i64, .str, .str, .str, .int .i64, .int .i64, .int .i64, .int .i64, .str] a2, .own [.str, .int .i64, .int .i64, .int .i64, .int .i64] a3, .obj [.f (.lit (.string a4)), .f (.lst [.str] a5)], .obj [.f (.lit (.string a6)), .f (.lit (.int .i64 a7)), .f (.lit (.int .i64 a8)), .f (.lit (.int .i64 a9)), .f (.lit (.int .i64 a10))], .f (.lit (.int .i64 a11)), .undef, .bor [.str, .lst [.str]] a12, .f (.lit (.int .i64 a13)), .f (.lit (.int .i64 a14)), .lent { slot := (11 : Nat), leaf := none } 13 a15, .f (.lit (.int .i64 a16)), .f (.lit (.int .i64 a17)), .undef, .undef, .undef, .undef]
/-- - -/
noncomputable def Lp11_15_step {R : Type} (m : Nat) (kx0 : Int → Int → Int → Int → Option R) (r0 : Abs.Rows) (i1 : Int) (r2 r3 : Abs.Rows) (s4 : ByteArray) (r5 : Abs.Rows) (s6 : ByteArray) (i7 i8 : Int) (r9 : Abs.Rows) (i10 i11 : Int) (n12 : Nat) (i13 : Int) (REC : Int → Int → Int → Int → Option R) (i14 i15 i16 i17 : Int) : Option R :=
 bif decide (i17 < i13) then (bif decide ((0 : Int) ≤ i17 ∧ i17 < (↑n12 : Int)) then (bif ByteArray.toList (fS r2 (Int.toNat i17) (1 : Nat)) == ByteArray.toList s4 then (REC (IntKind.wrap IntKind.i64 (i14 + (1 : Int))) (IntKind.wrap IntKind.i64 (i15 + fI r2 (Int.toNat i17) (10 : Nat))) (IntKind.wrap IntKind.i64 (i16 + fI r2 (Int.toNat i17) (4 : Nat))) (IntKind.wrap IntKind.i64 (i17 + (1 : Int)))) else
 (REC i14 i15 i16 (IntKind.wrap IntKind.i64 (i17 + (1 : Int))))) else
 (none)) else
 (kx0 i14 i15 i16 i17)
noncomputable def Lp11_15 {R : Type} (m : Nat) (kx0 : Int → Int → Int → Int → Option R) (r0 : Abs.Rows) (i1 : Int) (r2 r3 : Abs.Rows) (s4 : ByteArray) (r5 : Abs.Rows) (s6 : ByteArray) (i7 i8 : Int) (r9 : Abs.Rows) (i10 i11 : Int) (n12 : Nat) (i13 : Int) : Nat → Int → Int → Int → Int → Option R
 | 0, _, _, _, _ => none
 | n + 1, i14, i15, i16, i17 => Lp11_15_step m kx0 r0 i1 r2 r3 s4 r5 s6 i7 i8 r9 i10 i11 n12 i13 (Lp11_15 m kx0 r0 i1 r2 r3 s4 r5 s6 i7 i8 r9 i10 i11 n12 i13 n) i14 i15 i16 i17
noncomputable def ELp11_15 (m : Nat) (R : Type) : Nat → List V → (Ex → List V → Option R) → Option R
 | 0, _, _ => none
 | n + 1, vs, k => match vs with
  | [.bor [.str, .lst [.str]] r0, .f (.lit (.int .i64 i1)), .own [.str, .str, .str, .int .i64, .int .i64, .str, .str, .str, .int .i64, .int .i64, .int .i64, .int .i64, .str] r2, .own [.str, .int .i64, .int .i64, .int .i64, .int .i64] r3, .obj [.f (.lit (.string s4)), .f (.lst [.str] r5)], .obj [.f (.lit (.string s6)), .f (.lit (.int .i64 i7)), .f (.lit (.int .i64 i14)), .f (.lit (.int .i64 i15)), .f (.lit (.int .i64 i8))], .f (.lit (.int .i64 i16)), .undef, .bor [.str, .lst [.str]] r9, .f (.lit (.int .i64 i10)), .f (.lit (.int .i64 i11)), .lent { slot := (11 : Nat), leaf := none } 13 n12, .f (.lit (.int .i64 i13)), .f (.lit (.int .i64 i17)), .undef, .undef, .undef, .undef] => Lp11_15_step m (fun i18 i19 i20 i21 => k (Ex.exit (2 : Nat)) (W84 r0 i1 r2 r3 s4 r5 s6 i7 i18 i19 i8 i20 r9 i10 i11 n12 i13 i21)) r0 i1 r2 r3 s4 r5 s6 i7 i8 r9 i10 i11 n12 i13 (fun i14 i15 i16 i17 => ELp11_15 m R n (W84 r0 i1 r2 r3 s4 r5 s6 i7 i14 i15 i8 i16 r9 i10 i11 n12 i13 i17) k) i14 i15 i16 i17
  | _ => none
noncomputable def brLp11_15 (m : Nat) (L : LTbl) (R : Type) (vs : List V) (k : Ex → List V → Option R) : Option R := match vs with
 | [.bor [.str, .lst [.str]] r0, .f (.lit (.int .i64 i1)), .own [.str, .str, .str, .int .i64, .int .i64, .str, .str, .str, .int .i64, .int .i64, .int .i64, .int .i64, .str] r2, .own [.str, .int .i64, .int .i64, .int .i64, .int .i64] r3, .obj [.f (.lit (.string s4)), .f (.lst [.str] r5)], .obj [.f (.lit (.string s6)), .f (.lit (.int .i64 i7)), .f (.lit (.int .i64 i14)), .f (.lit (.int .i64 i15)), .f (.lit (.int .i64 i8))], .f (.lit (.int .i64 i16)), .undef, .bor [.str, .lst [.str]] r9, .f (.lit (.int .i64 i10)), .f (.lit (.int .i64 i11)), .lent { slot := (11 : Nat), leaf := none } 13 n12, .f (.lit (.int .i64 i13)), .f (.lit (.int .i64 i17)), .undef, .undef, .undef, .undef] => Lp11_15 m (fun i18 i19 i20 i21 => k (Ex.exit (2 : Nat)) (W84 r0 i1 r2 r3 s4 r5 s6 i7 i18 i19 i8 i20 r9 i10 i11 n12 i13 i21)) r0 i1 r2 r3 s4 r5 s6 i7 i8 r9 i10 i11 n12 i13 m i14 i15 i16 i17
 | _ => L R 11 15 vs k

theorem stLp11_15 (m n : Nat) (R : Type) (r0 : Abs.Rows) (i1 : Int) (r2 r3 : Abs.Rows) (s4 : ByteArray) (r5 : Abs.Rows) (s6 : ByteArray) (i7 i14 i15 i8 i16 : Int) (r9 : Abs.Rows) (i10 i11 : Int) (n12 : Nat) (i13 i17 : Int) (k : Ex → List V → Option R) : codeK Tryz.prog H (T61 m) 11 (L46 m) 16 (loopBody Tryz.prog 11 15) (mkEnv [1, 3, 11, 12, 14, 15, 16, 31, 32, 33, 34, 42, 43, 44, 83, 84, 85, 86] (W84 r0 i1 r2 r3 s4 r5 s6 i7 i14 i15 i8 i16 r9 i10 i11 n12 i13 i17) 0 (H.len 11)) (fun e env' => match e with | .normal => ELp11_15 m R n (vals [1, 3, 11, 12, 14, 15, 16, 31, 32, 33, 34, 42, 43, 44, 83, 84, 85, 86] env') k | e => k e (vals [1, 3, 11, 12, 14, 15, 16, 31, 32, 33, 34, 42, 43, 44, 83, 84, 85, 86] env')) = Lp11_15_step m (fun i18 i19 i20 i21 => k (Ex.exit (2 : Nat)) (W84 r0 i1 r2 r3 s4 r5 s6 i7 i18 i19 i8 i20 r9 i10 i11 n12 i13 i21)) r0 i1 r2 r3 s4 r5 s6 i7 i8 r9 i10 i11 n12 i13 (fun i14 i15 i16 i17 => ELp11_15 m R n (W84 r0 i1 r2 r3 s4 r5 s6 i7 i14 i15 i8 i16 r9 i10 i11 n12 i13 i17) k) i14 i15 i16 i17 := by kernel_rfl
theorem eqLp11_15 (m : Nat) (R : Type) (r0 : Abs.Rows) (i1 : Int) (r2 r3 : Abs.Rows) (s4 : ByteArray) (r5 : Abs.Rows) (s6 : ByteArray) (i7 i8 : Int) (r9 : Abs.Rows) (i10 i11 : Int) (n12 : Nat) (i13 : Int) (k : Ex → List V → Option R) : ∀ (n : Nat) (i14 i15 i16 i17 : Int), ELp11_15 m R n (W84 r0 i1 r2 r3 s4 r5 s6 i7 i14 i15 i8 i16 r9 i10 i11 n12 i13 i17) k = Lp11_15 m (fun i18 i19 i20 i21 => k (Ex.exit (2 : Nat)) (W84 r0 i1 r2 r3 s4 r5 s6 i7 i18 i19 i8 i20 r9 i10 i11 n12 i13 i21)) r0 i1 r2 r3 s4 r5 s6 i7 i8 r9 i10 i11 n12 i13 n i14 i15 i16 i17
 | 0, _, _, _, _ => rfl
 | n + 1, i14, i15, i16, i17 => by
  simp only [ELp11_15, Lp11_15, W84]
  congr 1
  funext i14 i15 i16 i17
  exact eqLp11_15 m R r0 i1 r2 r3 s4 r5 s6 i7 i8 r9 i10 i11 n12 i13 k n i14 i15 i16 i17
noncomputable def L47 (m : Nat) : LTbl := addB 11 15 (brLp11_15 m (L46 m)) (L46 m)
theorem okL47 (m : Nat) : LTOk Tryz.prog H (L47 m) := addB_ok (okT61 m) hM (okL46 m) (l := [1, 3, 11, 12, 14, 15, 16, 31, 32, 33, 34, 42, 43, 44, 83, 84, 85, 86]) (by kernel_rfl) (by kernel_rfl) m (fun R n vs k => ELp11_15 m R n vs k) (fun R vs k => rfl) (fun R n vs k x h => by
   simp only [ELp11_15] at h
   split at h
   ·exact (stLp11_15 m n R _ _ _ _ _ _ _ _ _ _ _ _ _ _ _ _ _ _ k).trans h
   ·cases h) fun R vs k x h => by
  unfold brLp11_15 at h
  split at h
  ·exact .inl ((eqLp11_15 m R _ _ _ _ _ _ _ _ _ _ _ _ _ _ k m _ _ _ _).trans h)
  ·exact .inr h

abbrev W85 (a0 : Abs.Rows) (a1 : Int) (a2 a3 a4 : Abs.Rows) (a5 a6 : Int) : List V := [.bor [.str, .lst [.str]] a0, .f (.lit (.int .i64 a1)), .own [.str, .str, .str, .int .i64, .int .i64, .str, .str, .str, .int .i64, .int .i64, .int .i64, .int .i64, .str] a2, .own [.str, .int .i64, .int .i64, .int .i64, .int .i64] a3, .undef, .bor [.str, .lst [.str]] a4, .f (.lit (.int .i64 a5)), .f (.lit (.int .i64 a6)), .undef, .undef, .undef, .undef]
/-- - -/
noncomputable def Lp11_8_step {R : Type} (m : Nat) (kx0 : Abs.Rows → Int → Option R) (r0 : Abs.Rows) (i1 : Int) (r2 r3 : Abs.Rows) (i4 : Int) (REC : Abs.Rows → Int → Option R) (r5 : Abs.Rows) (i6 : Int) : Option R :=
 bif decide (i6 < i4) then (bif decide ((0 : Int) ≤ i6 ∧ i6 < (↑(List.length r3) : Int)) then (Lp11_15 m (fun i7 i8 i9 i10 => bif decide (i7 > (0 : Int)) then (bif decide (List.length r5 + List.length [[F.lit (Value.string (fS r3 (Int.toNat i6) (0 : Nat))), F.lit (Value.int IntKind.i64 i1), F.lit (Value.int IntKind.i64 i7), F.lit (Value.int IntKind.i64 i8), F.lit (Value.int IntKind.i64 (IntKind.wrap IntKind.i64 (Int.tdiv i9 (1000 : Int))))]] ≤ rowMax) then (letV (r5 ++ [[F.lit (Value.string (fS r3 (Int.toNat i6) (0 : Nat))), F.lit (Value.int IntKind.i64 i1), F.lit (Value.int IntKind.i64 i7), F.lit (Value.int IntKind.i64 i8), F.lit (Value.int IntKind.i64 (IntKind.wrap IntKind.i64 (Int.tdiv i9 (1000 : Int))))]]) (fun r11 => REC r11 (IntKind.wrap IntKind.i64 (i6 + (1 : Int))))) else
 (none)) else
 (REC r5 (IntKind.wrap IntKind.i64 (i6 + (1 : Int))))) r0 i1 r2 r5 (fS r3 (Int.toNat i6) (0 : Nat)) (fR r3 (Int.toNat i6) (1 : Nat)) (fS r3 (Int.toNat i6) (0 : Nat)) i1 ((0 : Int)) r3 i4 i6 (List.length r2) ((↑(List.length r2) : Int)) m ((0 : Int)) ((0 : Int)) ((0 : Int)) ((0 : Int))) else
 (none)) else
 (kx0 r5 i6)
noncomputable def Lp11_8 {R : Type} (m : Nat) (kx0 : Abs.Rows → Int → Option R) (r0 : Abs.Rows) (i1 : Int) (r2 r3 : Abs.Rows) (i4 : Int) : Nat → Abs.Rows → Int → Option R
 | 0, _, _ => none
 | n + 1, r5, i6 => Lp11_8_step m kx0 r0 i1 r2 r3 i4 (Lp11_8 m kx0 r0 i1 r2 r3 i4 n) r5 i6
noncomputable def ELp11_8 (m : Nat) (R : Type) : Nat → List V → (Ex → List V → Option R) → Option R
 | 0, _, _ => none
 | n + 1, vs, k => match vs with
  | [.bor [.str, .lst [.str]] r0, .f (.lit (.int .i64 i1)), .own [.str, .str, .str, .int .i64, .int .i64, .str, .str, .str, .int .i64, .int .i64, .int .i64, .int .i64, .str] r2, .own [.str, .int .i64, .int .i64, .int .i64, .int .i64] r5, .undef, .bor [.str, .lst [.str]] r3, .f (.lit (.int .i64 i4)), .f (.lit (.int .i64 i6)), .undef, .undef, .undef, .undef] => Lp11_8_step m (fun r12 i13 => k (Ex.exit (0 : Nat)) (W85 r0 i1 r2 r12 r3 i4 i13)) r0 i1 r2 r3 i4 (fun r5 i6 => ELp11_8 m R n (W85 r0 i1 r2 r5 r3 i4 i6) k) r5 i6
  | _ => none
noncomputable def brLp11_8 (m : Nat) (L : LTbl) (R : Type) (vs : List V) (k : Ex → List V → Option R) : Option R := match vs with
 | [.bor [.str, .lst [.str]] r0, .f (.lit (.int .i64 i1)), .own [.str, .str, .str, .int .i64, .int .i64, .str, .str, .str, .int .i64, .int .i64, .int .i64, .int .i64, .str] r2, .own [.str, .int .i64, .int .i64, .int .i64, .int .i64] r5, .undef, .bor [.str, .lst [.str]] r3, .f (.lit (.int .i64 i4)), .f (.lit (.int .i64 i6)), .undef, .undef, .undef, .undef] => Lp11_8 m (fun r12 i13 => k (Ex.exit (0 : Nat)) (W85 r0 i1 r2 r12 r3 i4 i13)) r0 i1 r2 r3 i4 m r5 i6
 | _ => L R 11 8 vs k

theorem stLp11_8 (m n : Nat) (R : Type) (r0 : Abs.Rows) (i1 : Int) (r2 r5 r3 : Abs.Rows) (i4 i6 : Int) (k : Ex → List V → Option R) : codeK Tryz.prog H (T61 m) 11 (L47 m) 9 (loopBody Tryz.prog 11 8) (mkEnv [1, 3, 11, 12, 31, 32, 33, 34, 83, 84, 85, 86] (W85 r0 i1 r2 r5 r3 i4 i6) 0 (H.len 11)) (fun e env' => match e with | .normal => ELp11_8 m R n (vals [1, 3, 11, 12, 31, 32, 33, 34, 83, 84, 85, 86] env') k | e => k e (vals [1, 3, 11, 12, 31, 32, 33, 34, 83, 84, 85, 86] env')) = Lp11_8_step m (fun r12 i13 => k (Ex.exit (0 : Nat)) (W85 r0 i1 r2 r12 r3 i4 i13)) r0 i1 r2 r3 i4 (fun r5 i6 => ELp11_8 m R n (W85 r0 i1 r2 r5 r3 i4 i6) k) r5 i6 := by kernel_rfl
theorem eqLp11_8 (m : Nat) (R : Type) (r0 : Abs.Rows) (i1 : Int) (r2 r3 : Abs.Rows) (i4 : Int) (k : Ex → List V → Option R) : ∀ (n : Nat) (r5 : Abs.Rows) (i6 : Int), ELp11_8 m R n (W85 r0 i1 r2 r5 r3 i4 i6) k = Lp11_8 m (fun r12 i13 => k (Ex.exit (0 : Nat)) (W85 r0 i1 r2 r12 r3 i4 i13)) r0 i1 r2 r3 i4 n r5 i6
 | 0, _, _ => rfl
 | n + 1, r5, i6 => by
  simp only [ELp11_8, Lp11_8, W85]
  congr 1
  funext r5 i6
  exact eqLp11_8 m R r0 i1 r2 r3 i4 k n r5 i6
noncomputable def L48 (m : Nat) : LTbl := addB 11 8 (brLp11_8 m (L47 m)) (L47 m)
theorem okL48 (m : Nat) : LTOk Tryz.prog H (L48 m) := addB_ok (okT61 m) hM (okL47 m) (l := [1, 3, 11, 12, 31, 32, 33, 34, 83, 84, 85, 86]) (by kernel_rfl) (by kernel_rfl) m (fun R n vs k => ELp11_8 m R n vs k) (fun R vs k => rfl) (fun R n vs k x h => by
   simp only [ELp11_8] at h
   split at h
   ·exact (stLp11_8 m n R _ _ _ _ _ _ _ k).trans h
   ·cases h) fun R vs k x h => by
  unfold brLp11_8 at h
  split at h
  ·exact .inl ((eqLp11_8 m R _ _ _ _ _ k m _ _).trans h)
  ·exact .inr h

abbrev W86 (a0 : Abs.Rows) (a1 : Int) : List V := [.own [.str, .int .i64, .int .i64, .int .i64, .int .i64] a0, .f (.lit (.int .i64 a1))]
/-- - -/
noncomputable def Fn11 {R : Type} (m : Nat) : Abs.Rows → Int → Abs.Rows → Abs.Rows → Abs.Rows → Int → (Abs.Rows → Int → Option R) → Option R := match m with
 | 0 => fun _ _ _ _ _ _ _ => none
 | m + 1 => fun r0 i1 r2 r3 r4 i5 k =>
 Fn53 m r0 i1 r2 r3 r4 i5 (fun i6 => bif i6 != (0 : Int) then (k rows0 i6) else
 (Fn54 m r0 i1 r2 r3 r4 i5 (fun r7 => Lp11_8 m (fun r8 i9 => k r8 ((0 : Int))) r3 i5 r7 r3 ((↑(List.length r3) : Int)) m rows0 ((0 : Int)))))
noncomputable def brFn11 (m : Nat) (T : Tbl) (R : Type) (vs : List V) (k : V → List V → Option R) : Option R := match vs with
 | [.agg [.f (.lst [.str, .str, .int .i64, .int .i64, .int .i64, .int .i64] r0), .f (.lit (.int .i64 i1)), .f (.lst [.str] r2)], .bor [.str, .lst [.str]] r3, .bor [.str, .str, .str, .int .i64, .int .i64, .int .i64, .int .i64, .str] r4, .f (.lit (.int .i64 i5))] => Fn11 m r0 i1 r2 r3 r4 i5 (fun r10 i11 => k (V.tup (W86 r10 i11)) W64)
 | _ => T R 11 vs k

theorem evFn11 (m : Nat) (R : Type) (r0 : Abs.Rows) (i1 : Int) (r2 r3 r4 : Abs.Rows) (i5 : Int) (k : V → List V → Option R) : runK Tryz.prog H (T61 m) (L48 m) 11 (W65 r0 i1 r2 r3 r4 i5) k = Fn11 (m + 1) r0 i1 r2 r3 r4 i5 (fun r10 i11 => k (V.tup (W86 r10 i11)) W64) := by kernel_rfl
noncomputable def T62 (m : Nat) : Tbl := addT 11 (brFn11 m (T61 m)) (T61 m)
theorem okT62 (m : Nat) : TblOk Tryz.prog (T62 m) := addT_ok (okT61 m) fun R vs k x h => by
 unfold brFn11 at h
 split at h
 ·cases m with
  | zero => cases h
  | succ m => exact runK_some (okT61 m) hM (okL48 m) ((evFn11 m R _ _ _ _ _ _ k).trans h)
 ·exact okT61 m R 11 _ k x h

abbrev W87 (a0 a1 : Abs.Rows) (a2 : Int) (a3 a4 a5 a6 : Abs.Rows) (a7 a8 : Int) : List V := [.bor [.str, .str, .str, .int .i64, .int .i64, .int .i64, .int .i64, .str] a0, .obj [.f (.lst [.str, .str, .int .i64, .int .i64, .int .i64, .int .i64] a1), .f (.lit (.int .i64 a2)), .f (.lst [.str] a3)], .own [.mp false, .str, .str] a4, .own [.int .i64] a5, .undef, .bor [.str, .str, .str, .int .i64, .int .i64, .int .i64, .int .i64, .str] a6, .f (.lit (.int .i64 a7)), .f (.lit (.int .i64 a8)), .undef, .undef, .undef]
/-- - -/
noncomputable def Lp12_8_step {R : Type} (m : Nat) (kx0 : Abs.Rows → Int → Option R) (r0 r1 : Abs.Rows) (i2 : Int) (r3 r4 r5 : Abs.Rows) (i6 : Int) (REC : Abs.Rows → Int → Option R) (r7 : Abs.Rows) (i8 : Int) : Option R :=
 bif decide (i8 < i6) then (bif decide ((0 : Int) ≤ i8 ∧ i8 < (↑(List.length r5) : Int)) then (Fn57 m r1 i2 r3 (fS r5 (Int.toNat i8) (2 : Nat)) (fun s9 s10 i11 i12 i13 i14 b15 => bif decide (fI r5 (Int.toNat i8) (5 : Nat) > (0 : Int)) then (bif !mHas (F.lit (Value.string (fS r5 (Int.toNat i8) (1 : Nat)))) r4 then (bif decide (List.length r7 + List.length [[F.lit (Value.int IntKind.i64 i8)]] ≤ rowMax) then (letV (r7 ++ [[F.lit (Value.int IntKind.i64 i8)]]) (fun r16 => REC r16 (IntKind.wrap IntKind.i64 (i8 + (1 : Int))))) else
 (none)) else
 (bif !b15 then (bif decide (List.length r7 + List.length [[F.lit (Value.int IntKind.i64 i8)]] ≤ rowMax) then (letV (r7 ++ [[F.lit (Value.int IntKind.i64 i8)]]) (fun r17 => REC r17 (IntKind.wrap IntKind.i64 (i8 + (1 : Int))))) else
 (none)) else
 (REC r7 (IntKind.wrap IntKind.i64 (i8 + (1 : Int)))))) else
 (REC r7 (IntKind.wrap IntKind.i64 (i8 + (1 : Int)))))) else
 (none)) else
 (kx0 r7 i8)
noncomputable def Lp12_8 {R : Type} (m : Nat) (kx0 : Abs.Rows → Int → Option R) (r0 r1 : Abs.Rows) (i2 : Int) (r3 r4 r5 : Abs.Rows) (i6 : Int) : Nat → Abs.Rows → Int → Option R
 | 0, _, _ => none
 | n + 1, r7, i8 => Lp12_8_step m kx0 r0 r1 i2 r3 r4 r5 i6 (Lp12_8 m kx0 r0 r1 i2 r3 r4 r5 i6 n) r7 i8
noncomputable def ELp12_8 (m : Nat) (R : Type) : Nat → List V → (Ex → List V → Option R) → Option R
 | 0, _, _ => none
 | n + 1, vs, k => match vs with
  | [.bor [.str, .str, .str, .int .i64, .int .i64, .int .i64, .int .i64, .str] r0, .obj [.f (.lst [.str, .str, .int .i64, .int .i64, .int .i64, .int .i64] r1), .f (.lit (.int .i64 i2)), .f (.lst [.str] r3)], .own [.mp false, .str, .str] r4, .own [.int .i64] r7, .undef, .bor [.str, .str, .str, .int .i64, .int .i64, .int .i64, .int .i64, .str] r5, .f (.lit (.int .i64 i6)), .f (.lit (.int .i64 i8)), .undef, .undef, .undef] => Lp12_8_step m (fun r18 i19 => k (Ex.exit (0 : Nat)) (W87 r0 r1 i2 r3 r4 r18 r5 i6 i19)) r0 r1 i2 r3 r4 r5 i6 (fun r7 i8 => ELp12_8 m R n (W87 r0 r1 i2 r3 r4 r7 r5 i6 i8) k) r7 i8
  | _ => none
noncomputable def brLp12_8 (m : Nat) (L : LTbl) (R : Type) (vs : List V) (k : Ex → List V → Option R) : Option R := match vs with
 | [.bor [.str, .str, .str, .int .i64, .int .i64, .int .i64, .int .i64, .str] r0, .obj [.f (.lst [.str, .str, .int .i64, .int .i64, .int .i64, .int .i64] r1), .f (.lit (.int .i64 i2)), .f (.lst [.str] r3)], .own [.mp false, .str, .str] r4, .own [.int .i64] r7, .undef, .bor [.str, .str, .str, .int .i64, .int .i64, .int .i64, .int .i64, .str] r5, .f (.lit (.int .i64 i6)), .f (.lit (.int .i64 i8)), .undef, .undef, .undef] => Lp12_8 m (fun r18 i19 => k (Ex.exit (0 : Nat)) (W87 r0 r1 i2 r3 r4 r18 r5 i6 i19)) r0 r1 i2 r3 r4 r5 i6 m r7 i8
 | _ => L R 12 8 vs k

theorem stLp12_8 (m n : Nat) (R : Type) (r0 r1 : Abs.Rows) (i2 : Int) (r3 r4 r7 r5 : Abs.Rows) (i6 i8 : Int) (k : Ex → List V → Option R) : codeK Tryz.prog H (T62 m) 12 (L48 m) 9 (loopBody Tryz.prog 12 8) (mkEnv [2, 3, 9, 10, 25, 26, 27, 28, 64, 65, 66] (W87 r0 r1 i2 r3 r4 r7 r5 i6 i8) 0 (H.len 12)) (fun e env' => match e with | .normal => ELp12_8 m R n (vals [2, 3, 9, 10, 25, 26, 27, 28, 64, 65, 66] env') k | e => k e (vals [2, 3, 9, 10, 25, 26, 27, 28, 64, 65, 66] env')) = Lp12_8_step m (fun r18 i19 => k (Ex.exit (0 : Nat)) (W87 r0 r1 i2 r3 r4 r18 r5 i6 i19)) r0 r1 i2 r3 r4 r5 i6 (fun r7 i8 => ELp12_8 m R n (W87 r0 r1 i2 r3 r4 r7 r5 i6 i8) k) r7 i8 := by kernel_rfl
theorem eqLp12_8 (m : Nat) (R : Type) (r0 r1 : Abs.Rows) (i2 : Int) (r3 r4 r5 : Abs.Rows) (i6 : Int) (k : Ex → List V → Option R) : ∀ (n : Nat) (r7 : Abs.Rows) (i8 : Int), ELp12_8 m R n (W87 r0 r1 i2 r3 r4 r7 r5 i6 i8) k = Lp12_8 m (fun r18 i19 => k (Ex.exit (0 : Nat)) (W87 r0 r1 i2 r3 r4 r18 r5 i6 i19)) r0 r1 i2 r3 r4 r5 i6 n r7 i8
 | 0, _, _ => rfl
 | n + 1, r7, i8 => by
  simp only [ELp12_8, Lp12_8, W87]
  congr 1
  funext r7 i8
  exact eqLp12_8 m R r0 r1 i2 r3 r4 r5 i6 k n r7 i8
noncomputable def L49 (m : Nat) : LTbl := addB 12 8 (brLp12_8 m (L48 m)) (L48 m)
theorem okL49 (m : Nat) : LTOk Tryz.prog H (L49 m) := addB_ok (okT62 m) hM (okL48 m) (l := [2, 3, 9, 10, 25, 26, 27, 28, 64, 65, 66]) (by kernel_rfl) (by kernel_rfl) m (fun R n vs k => ELp12_8 m R n vs k) (fun R vs k => rfl) (fun R n vs k x h => by
   simp only [ELp12_8] at h
   split at h
   ·exact (stLp12_8 m n R _ _ _ _ _ _ _ _ _ k).trans h
   ·cases h) fun R vs k x h => by
  unfold brLp12_8 at h
  split at h
  ·exact .inl ((eqLp12_8 m R _ _ _ _ _ _ _ k m _ _).trans h)
  ·exact .inr h

abbrev W88 (a0 : Abs.Rows) (a1 : Int) : List V := [.own [.int .i64] a0, .f (.lit (.int .i64 a1))]
/-- - -/
noncomputable def Fn12 {R : Type} (m : Nat) : Abs.Rows → Int → Abs.Rows → Abs.Rows → Abs.Rows → (Abs.Rows → Int → Option R) → Option R := match m with
 | 0 => fun _ _ _ _ _ _ => none
 | m + 1 => fun r0 i1 r2 r3 r4 k =>
 Fn55 m r0 i1 r2 r3 r4 (fun i5 => bif i5 != (0 : Int) then (k rows0 i5) else
 (Fn56 m r3 (fun r6 => Lp12_8 m (fun r7 i8 => k r7 ((0 : Int))) r4 r0 i1 r2 r6 r4 ((↑(List.length r4) : Int)) m rows0 ((0 : Int)))))
noncomputable def brFn12 (m : Nat) (T : Tbl) (R : Type) (vs : List V) (k : V → List V → Option R) : Option R := match vs with
 | [.agg [.f (.lst [.str, .str, .int .i64, .int .i64, .int .i64, .int .i64] r0), .f (.lit (.int .i64 i1)), .f (.lst [.str] r2)], .bor [.str, .lst [.str]] r3, .bor [.str, .str, .str, .int .i64, .int .i64, .int .i64, .int .i64, .str] r4] => Fn12 m r0 i1 r2 r3 r4 (fun r9 i10 => k (V.tup (W88 r9 i10)) W32)
 | _ => T R 12 vs k

theorem evFn12 (m : Nat) (R : Type) (r0 : Abs.Rows) (i1 : Int) (r2 r3 r4 : Abs.Rows) (k : V → List V → Option R) : runK Tryz.prog H (T62 m) (L49 m) 12 (W63 r0 i1 r2 r3 r4) k = Fn12 (m + 1) r0 i1 r2 r3 r4 (fun r9 i10 => k (V.tup (W88 r9 i10)) W32) := by kernel_rfl
noncomputable def T63 (m : Nat) : Tbl := addT 12 (brFn12 m (T62 m)) (T62 m)
theorem okT63 (m : Nat) : TblOk Tryz.prog (T63 m) := addT_ok (okT62 m) fun R vs k x h => by
 unfold brFn12 at h
 split at h
 ·cases m with
  | zero => cases h
  | succ m => exact runK_some (okT62 m) hM (okL49 m) ((evFn12 m R _ _ _ _ _ k).trans h)
 ·exact okT62 m R 12 _ k x h

abbrev W89 (a0 : Bool) (a1 : Int) : List V := [.f (.lit (.bool a0)), .f (.lit (.int .i64 a1))]
/-- - -/
noncomputable def Fn14 {R : Type} (m : Nat) : Bool → Int → (Int → Option R) → Option R := match m with
 | 0 => fun _ _ _ => none
 | m + 1 => fun b0 i1 k =>
 bif b0 then (k i1) else
 (k ((0 : Int)))
noncomputable def brFn14 (m : Nat) (T : Tbl) (R : Type) (vs : List V) (k : V → List V → Option R) : Option R := match vs with
 | [.f (.lit (.bool b0)), .f (.lit (.int .i64 i1))] => Fn14 m b0 i1 (fun i2 => k (V.f (F.lit (Value.int IntKind.i64 i2))) W1)
 | _ => T R 14 vs k

theorem evFn14 (m : Nat) (R : Type) (b0 : Bool) (i1 : Int) (k : V → List V → Option R) : runK Tryz.prog H (T63 m) (L49 m) 14 (W89 b0 i1) k = Fn14 (m + 1) b0 i1 (fun i2 => k (V.f (F.lit (Value.int IntKind.i64 i2))) W1) := by kernel_rfl
noncomputable def T64 (m : Nat) : Tbl := addT 14 (brFn14 m (T63 m)) (T63 m)
theorem okT64 (m : Nat) : TblOk Tryz.prog (T64 m) := addT_ok (okT63 m) fun R vs k x h => by
 unfold brFn14 at h
 split at h
 ·cases m with
  | zero => cases h
  | succ m => exact runK_some (okT63 m) hM (okL49 m) ((evFn14 m R _ _ k).trans h)
 ·exact okT63 m R 14 _ k x h

abbrev W90 (a0 : Abs.Rows) (a1 a2 : ByteArray) (a3 : Bool) (a4 : Abs.Rows) (a5 a6 : Int) : List V := [.bor [.str, .lst [.str]] a0, .f (.lit (.string a1)), .f (.lit (.string a2)), .f (.lit (.bool a3)), .bor [.str, .lst [.str]] a4, .f (.lit (.int .i64 a5)), .f (.lit (.int .i64 a6)), .undef, .undef]
/-- - -/
noncomputable def Lp76_2_step {R : Type} (m : Nat) (kx0 : ByteArray → Bool → Int → Option R) (kx1 : Int → Option R) (r0 : Abs.Rows) (s1 s2 : ByteArray) (b3 : Bool) (r4 : Abs.Rows) (i5 : Int) (REC : Int → Option R) (i6 : Int) : Option R :=
 bif decide (i6 < i5) then (bif decide ((0 : Int) ≤ i6 ∧ i6 < (↑(List.length r4) : Int)) then (Fn59 m (fR r4 (Int.toNat i6) (1 : Nat)) s1 (fun b7 => bif b7 then (kx0 (fS r4 (Int.toNat i6) (0 : Nat)) true i6) else
 (REC (IntKind.wrap IntKind.i64 (i6 + (1 : Int)))))) else
 (none)) else
 (kx1 i6)
noncomputable def Lp76_2 {R : Type} (m : Nat) (kx0 : ByteArray → Bool → Int → Option R) (kx1 : Int → Option R) (r0 : Abs.Rows) (s1 s2 : ByteArray) (b3 : Bool) (r4 : Abs.Rows) (i5 : Int) : Nat → Int → Option R
 | 0, _ => none
 | n + 1, i6 => Lp76_2_step m kx0 kx1 r0 s1 s2 b3 r4 i5 (Lp76_2 m kx0 kx1 r0 s1 s2 b3 r4 i5 n) i6
noncomputable def ELp76_2 (m : Nat) (R : Type) : Nat → List V → (Ex → List V → Option R) → Option R
 | 0, _, _ => none
 | n + 1, vs, k => match vs with
  | [.bor [.str, .lst [.str]] r0, .f (.lit (.string s1)), .f (.lit (.string s2)), .f (.lit (.bool b3)), .bor [.str, .lst [.str]] r4, .f (.lit (.int .i64 i5)), .f (.lit (.int .i64 i6)), .undef, .undef] => Lp76_2_step m (fun s8 b9 i10 => k Ex.ret (W90 r0 s1 s8 b9 r4 i5 i10)) (fun i11 => k (Ex.exit (0 : Nat)) (W90 r0 s1 s2 b3 r4 i5 i11)) r0 s1 s2 b3 r4 i5 (fun i6 => ELp76_2 m R n (W90 r0 s1 s2 b3 r4 i5 i6) k) i6
  | _ => none
noncomputable def brLp76_2 (m : Nat) (L : LTbl) (R : Type) (vs : List V) (k : Ex → List V → Option R) : Option R := match vs with
 | [.bor [.str, .lst [.str]] r0, .f (.lit (.string s1)), .f (.lit (.string s2)), .f (.lit (.bool b3)), .bor [.str, .lst [.str]] r4, .f (.lit (.int .i64 i5)), .f (.lit (.int .i64 i6)), .undef, .undef] => Lp76_2 m (fun s8 b9 i10 => k Ex.ret (W90 r0 s1 s8 b9 r4 i5 i10)) (fun i11 => k (Ex.exit (0 : Nat)) (W90 r0 s1 s2 b3 r4 i5 i11)) r0 s1 s2 b3 r4 i5 m i6
 | _ => L R 76 2 vs k

theorem stLp76_2 (m n : Nat) (R : Type) (r0 : Abs.Rows) (s1 s2 : ByteArray) (b3 : Bool) (r4 : Abs.Rows) (i5 i6 : Int) (k : Ex → List V → Option R) : codeK Tryz.prog H (T64 m) 76 (L49 m) 3 (loopBody Tryz.prog 76 2) (mkEnv [0, 1, 4, 5, 8, 9, 10, 21, 22] (W90 r0 s1 s2 b3 r4 i5 i6) 0 (H.len 76)) (fun e env' => match e with | .normal => ELp76_2 m R n (vals [0, 1, 4, 5, 8, 9, 10, 21, 22] env') k | e => k e (vals [0, 1, 4, 5, 8, 9, 10, 21, 22] env')) = Lp76_2_step m (fun s8 b9 i10 => k Ex.ret (W90 r0 s1 s8 b9 r4 i5 i10)) (fun i11 => k (Ex.exit (0 : Nat)) (W90 r0 s1 s2 b3 r4 i5 i11)) r0 s1 s2 b3 r4 i5 (fun i6 => ELp76_2 m R n (W90 r0 s1 s2 b3 r4 i5 i6) k) i6 := by kernel_rfl
theorem eqLp76_2 (m : Nat) (R : Type) (r0 : Abs.Rows) (s1 s2 : ByteArray) (b3 : Bool) (r4 : Abs.Rows) (i5 : Int) (k : Ex → List V → Option R) : ∀ (n : Nat) (i6 : Int), ELp76_2 m R n (W90 r0 s1 s2 b3 r4 i5 i6) k = Lp76_2 m (fun s8 b9 i10 => k Ex.ret (W90 r0 s1 s8 b9 r4 i5 i10)) (fun i11 => k (Ex.exit (0 : Nat)) (W90 r0 s1 s2 b3 r4 i5 i11)) r0 s1 s2 b3 r4 i5 n i6
 | 0, _ => rfl
 | n + 1, i6 => by
  simp only [ELp76_2, Lp76_2, W90]
  congr 1
  funext i6
  exact eqLp76_2 m R r0 s1 s2 b3 r4 i5 k n i6
noncomputable def L50 (m : Nat) : LTbl := addB 76 2 (brLp76_2 m (L49 m)) (L49 m)
theorem okL50 (m : Nat) : LTOk Tryz.prog H (L50 m) := addB_ok (okT64 m) hM (okL49 m) (l := [0, 1, 4, 5, 8, 9, 10, 21, 22]) (by kernel_rfl) (by kernel_rfl) m (fun R n vs k => ELp76_2 m R n vs k) (fun R vs k => rfl) (fun R n vs k x h => by
   simp only [ELp76_2] at h
   split at h
   ·exact (stLp76_2 m n R _ _ _ _ _ _ _ k).trans h
   ·cases h) fun R vs k x h => by
  unfold brLp76_2 at h
  split at h
  ·exact .inl ((eqLp76_2 m R _ _ _ _ _ _ k m _).trans h)
  ·exact .inr h

abbrev W91 (a0 : Abs.Rows) (a1 : ByteArray) : List V := [.bor [.str, .lst [.str]] a0, .f (.lit (.string a1))]
/-- - -/
noncomputable def Fn76 {R : Type} (m : Nat) : Abs.Rows → ByteArray → (ByteArray → Bool → Option R) → Option R := match m with
 | 0 => fun _ _ _ => none
 | m + 1 => fun r0 s1 k =>
 Lp76_2 m (fun s2 b3 i4 => k s2 b3) (fun i5 => k ({ data := #[] }) false) r0 s1 ({ data := #[] }) false r0 ((↑(List.length r0) : Int)) m ((0 : Int))
noncomputable def brFn76 (m : Nat) (T : Tbl) (R : Type) (vs : List V) (k : V → List V → Option R) : Option R := match vs with
 | [.bor [.str, .lst [.str]] r0, .f (.lit (.string s1))] => Fn76 m r0 s1 (fun s6 b7 => k (V.tup (W31 s6 b7)) W1)
 | _ => T R 76 vs k

theorem evFn76 (m : Nat) (R : Type) (r0 : Abs.Rows) (s1 : ByteArray) (k : V → List V → Option R) : runK Tryz.prog H (T64 m) (L50 m) 76 (W91 r0 s1) k = Fn76 (m + 1) r0 s1 (fun s6 b7 => k (V.tup (W31 s6 b7)) W1) := by kernel_rfl
noncomputable def T65 (m : Nat) : Tbl := addT 76 (brFn76 m (T64 m)) (T64 m)
theorem okT65 (m : Nat) : TblOk Tryz.prog (T65 m) := addT_ok (okT64 m) fun R vs k x h => by
 unfold brFn76 at h
 split at h
 ·cases m with
  | zero => cases h
  | succ m => exact runK_some (okT64 m) hM (okL50 m) ((evFn76 m R _ _ k).trans h)
 ·exact okT64 m R 76 _ k x h

abbrev W92 (a0 : ByteArray) (a1 : Abs.Rows) (a2 : Int) (a3 : Abs.Rows) (a4 a5 : ByteArray) (a6 a7 a8 a9 : Int) (a10 : Bool) (a11 : Int) (a12 : Abs.Rows) (a13 a14 : Int) : List V := [.f (.lit (.string a0)), .obj [.f (.lst [.str, .str, .int .i64, .int .i64, .int .i64, .int .i64] a1), .f (.lit (.int .i64 a2)), .f (.lst [.str] a3)], .obj [.f (.lit (.string a4)), .f (.lit (.string a5)), .f (.lit (.int .i64 a6)), .f (.lit (.int .i64 a7)), .f (.lit (.int .i64 a8)), .f (.lit (.int .i64 a9))], .f (.lit (.bool a10)), .f (.lit (.int .i64 a11)), .ref 2 0, .f (.lst [.str, .str, .int .i64, .int .i64, .int .i64, .int .i64] a12), .f (.lit (.int .i64 a13)), .f (.lit (.int .i64 a14)), .undef, .undef]
abbrev K1Lp114_6 {R : Type} (k : Ex → List V → Option R) (s0 : ByteArray) (r1 : Abs.Rows) (i2 : Int) (r3 : Abs.Rows) (i4 : Int) (r5 : Abs.Rows) (i6 : Int) : ByteArray → ByteArray → Int → Int → Int → Int → Bool → Int → Option R := fun s7 s8 i9 i10 i11 i12 b13 i14 => k Ex.ret (W92 s0 r1 i2 r3 s7 s8 i9 i10 i11 i12 b13 i4 r5 i6 i14)
/-- - -/
noncomputable def Lp114_6_step {R : Type} (m : Nat) (kx0 : ByteArray → ByteArray → Int → Int → Int → Int → Bool → Int → Option R) (kx1 : Int → Option R) (s0 : ByteArray) (r1 : Abs.Rows) (i2 : Int) (r3 : Abs.Rows) (s15 s16 : ByteArray) (i17 i18 i19 i20 : Int) (b21 : Bool) (i4 : Int) (r5 : Abs.Rows) (i6 : Int) (REC : Int → Option R) (i22 : Int) : Option R :=
 bif decide (i22 < i6) then (bif decide ((0 : Int) ≤ i22 ∧ i22 < (↑(List.length r5) : Int)) then (bif decide ((0 : Int) ≤ i4 ∧ i4 ≤ (↑(ByteArray.size s0) : Int)) then (bif ByteArray.toList (fS r5 (Int.toNat i22) (0 : Nat)) == ByteArray.toList (ByteArray.extract s0 (0 : Nat) (Int.toNat i4)) then (kx0 (fS r5 (Int.toNat i22) (0 : Nat)) (fS r5 (Int.toNat i22) (1 : Nat)) (fI r5 (Int.toNat i22) (2 : Nat)) (fI r5 (Int.toNat i22) (3 : Nat)) (fI r5 (Int.toNat i22) (4 : Nat)) (fI r5 (Int.toNat i22) (5 : Nat)) true i22) else
 (REC (IntKind.wrap IntKind.i64 (i22 + (1 : Int))))) else
 (none)) else
 (none)) else
 (kx1 i22)
noncomputable def Lp114_6 {R : Type} (m : Nat) (kx0 : ByteArray → ByteArray → Int → Int → Int → Int → Bool → Int → Option R) (kx1 : Int → Option R) (s0 : ByteArray) (r1 : Abs.Rows) (i2 : Int) (r3 : Abs.Rows) (s15 s16 : ByteArray) (i17 i18 i19 i20 : Int) (b21 : Bool) (i4 : Int) (r5 : Abs.Rows) (i6 : Int) : Nat → Int → Option R
 | 0, _ => none
 | n + 1, i22 => Lp114_6_step m kx0 kx1 s0 r1 i2 r3 s15 s16 i17 i18 i19 i20 b21 i4 r5 i6 (Lp114_6 m kx0 kx1 s0 r1 i2 r3 s15 s16 i17 i18 i19 i20 b21 i4 r5 i6 n) i22
noncomputable def ELp114_6 (m : Nat) (R : Type) : Nat → List V → (Ex → List V → Option R) → Option R
 | 0, _, _ => none
 | n + 1, vs, k => match vs with
  | [.f (.lit (.string s0)), .obj [.f (.lst [.str, .str, .int .i64, .int .i64, .int .i64, .int .i64] r1), .f (.lit (.int .i64 i2)), .f (.lst [.str] r3)], .obj [.f (.lit (.string s15)), .f (.lit (.string s16)), .f (.lit (.int .i64 i17)), .f (.lit (.int .i64 i18)), .f (.lit (.int .i64 i19)), .f (.lit (.int .i64 i20))], .f (.lit (.bool b21)), .f (.lit (.int .i64 i4)), .ref 2 0, .f (.lst [.str, .str, .int .i64, .int .i64, .int .i64, .int .i64] r5), .f (.lit (.int .i64 i6)), .f (.lit (.int .i64 i22)), .undef, .undef] => Lp114_6_step m (K1Lp114_6 k s0 r1 i2 r3 i4 r5 i6) (fun i23 => k (Ex.exit (2 : Nat)) (W92 s0 r1 i2 r3 s15 s16 i17 i18 i19 i20 b21 i4 r5 i6 i23)) s0 r1 i2 r3 s15 s16 i17 i18 i19 i20 b21 i4 r5 i6 (fun i22 => ELp114_6 m R n (W92 s0 r1 i2 r3 s15 s16 i17 i18 i19 i20 b21 i4 r5 i6 i22) k) i22
  | _ => none
noncomputable def brLp114_6 (m : Nat) (L : LTbl) (R : Type) (vs : List V) (k : Ex → List V → Option R) : Option R := match vs with
 | [.f (.lit (.string s0)), .obj [.f (.lst [.str, .str, .int .i64, .int .i64, .int .i64, .int .i64] r1), .f (.lit (.int .i64 i2)), .f (.lst [.str] r3)], .obj [.f (.lit (.string s15)), .f (.lit (.string s16)), .f (.lit (.int .i64 i17)), .f (.lit (.int .i64 i18)), .f (.lit (.int .i64 i19)), .f (.lit (.int .i64 i20))], .f (.lit (.bool b21)), .f (.lit (.int .i64 i4)), .ref 2 0, .f (.lst [.str, .str, .int .i64, .int .i64, .int .i64, .int .i64] r5), .f (.lit (.int .i64 i6)), .f (.lit (.int .i64 i22)), .undef, .undef] => Lp114_6 m (K1Lp114_6 k s0 r1 i2 r3 i4 r5 i6) (fun i23 => k (Ex.exit (2 : Nat)) (W92 s0 r1 i2 r3 s15 s16 i17 i18 i19 i20 b21 i4 r5 i6 i23)) s0 r1 i2 r3 s15 s16 i17 i18 i19 i20 b21 i4 r5 i6 m i22
 | _ => L R 114 6 vs k

theorem stLp114_6 (m n : Nat) (R : Type) (s0 : ByteArray) (r1 : Abs.Rows) (i2 : Int) (r3 : Abs.Rows) (s15 s16 : ByteArray) (i17 i18 i19 i20 : Int) (b21 : Bool) (i4 : Int) (r5 : Abs.Rows) (i6 i22 : Int) (k : Ex → List V → Option R) : codeK Tryz.prog H (T65 m) 114 (L50 m) 7 (loopBody Tryz.prog 114 6) (mkEnv [1, 2, 4, 5, 6, 15, 16, 17, 18, 31, 32] (W92 s0 r1 i2 r3 s15 s16 i17 i18 i19 i20 b21 i4 r5 i6 i22) 0 (H.len 114)) (fun e env' => match e with | .normal => ELp114_6 m R n (vals [1, 2, 4, 5, 6, 15, 16, 17, 18, 31, 32] env') k | e => k e (vals [1, 2, 4, 5, 6, 15, 16, 17, 18, 31, 32] env')) = Lp114_6_step m (K1Lp114_6 k s0 r1 i2 r3 i4 r5 i6) (fun i23 => k (Ex.exit (2 : Nat)) (W92 s0 r1 i2 r3 s15 s16 i17 i18 i19 i20 b21 i4 r5 i6 i23)) s0 r1 i2 r3 s15 s16 i17 i18 i19 i20 b21 i4 r5 i6 (fun i22 => ELp114_6 m R n (W92 s0 r1 i2 r3 s15 s16 i17 i18 i19 i20 b21 i4 r5 i6 i22) k) i22 := by kernel_rfl
theorem eqLp114_6 (m : Nat) (R : Type) (s0 : ByteArray) (r1 : Abs.Rows) (i2 : Int) (r3 : Abs.Rows) (s15 s16 : ByteArray) (i17 i18 i19 i20 : Int) (b21 : Bool) (i4 : Int) (r5 : Abs.Rows) (i6 : Int) (k : Ex → List V → Option R) : ∀ (n : Nat) (i22 : Int), ELp114_6 m R n (W92 s0 r1 i2 r3 s15 s16 i17 i18 i19 i20 b21 i4 r5 i6 i22) k = Lp114_6 m (K1Lp114_6 k s0 r1 i2 r3 i4 r5 i6) (fun i23 => k (Ex.exit (2 : Nat)) (W92 s0 r1 i2 r3 s15 s16 i17 i18 i19 i20 b21 i4 r5 i6 i23)) s0 r1 i2 r3 s15 s16 i17 i18 i19 i20 b21 i4 r5 i6 n i22
 | 0, _ => rfl
 | n + 1, i22 => by
  simp only [ELp114_6, Lp114_6, W92]
  congr 1
  funext i22
  exact eqLp114_6 m R s0 r1 i2 r3 s15 s16 i17 i18 i19 i20 b21 i4 r5 i6 k n i22
noncomputable def L51 (m : Nat) : LTbl := addB 114 6 (brLp114_6 m (L50 m)) (L50 m)
theorem okL51 (m : Nat) : LTOk Tryz.prog H (L51 m) := addB_ok (okT65 m) hM (okL50 m) (l := [1, 2, 4, 5, 6, 15, 16, 17, 18, 31, 32]) (by kernel_rfl) (by kernel_rfl) m (fun R n vs k => ELp114_6 m R n vs k) (fun R vs k => rfl) (fun R n vs k x h => by
   simp only [ELp114_6] at h
   split at h
   ·exact (stLp114_6 m n R _ _ _ _ _ _ _ _ _ _ _ _ _ _ _ k).trans h
   ·cases h) fun R vs k x h => by
  unfold brLp114_6 at h
  split at h
  ·exact .inl ((eqLp114_6 m R _ _ _ _ _ _ _ _ _ _ _ _ _ _ k m _).trans h)
  ·exact .inr h

abbrev K1Lp114_2 {R : Type} (k : Ex → List V → Option R) (s0 : ByteArray) (r1 : Abs.Rows) (i2 : Int) (r3 : Abs.Rows) : ByteArray → ByteArray → Int → Int → Int → Int → Bool → Int → Option R := fun s4 s5 i6 i7 i8 i9 b10 i11 => k Ex.ret (W72 s0 r1 i2 r3 s4 s5 i6 i7 i8 i9 b10 i11)
/-- - -/
noncomputable def Lp114_2_step {R : Type} (m : Nat) (kx0 : ByteArray → ByteArray → Int → Int → Int → Int → Bool → Int → Option R) (kx1 : Int → Option R) (s0 : ByteArray) (r1 : Abs.Rows) (i2 : Int) (r3 : Abs.Rows) (s12 s13 : ByteArray) (i14 i15 i16 i17 : Int) (b18 : Bool) (REC : Int → Option R) (i19 : Int) : Option R :=
 bif decide (i19 ≥ (0 : Int)) then (Lp114_6 m (fun s20 s21 i22 i23 i24 i25 b26 i27 => kx0 s20 s21 i22 i23 i24 i25 b26 i19) (fun i28 => REC (IntKind.wrap IntKind.i64 (i19 - (1 : Int)))) s0 r1 i2 r3 s12 s13 i14 i15 i16 i17 b18 i19 r1 ((↑(List.length r1) : Int)) m ((0 : Int))) else
 (kx1 i19)
noncomputable def Lp114_2 {R : Type} (m : Nat) (kx0 : ByteArray → ByteArray → Int → Int → Int → Int → Bool → Int → Option R) (kx1 : Int → Option R) (s0 : ByteArray) (r1 : Abs.Rows) (i2 : Int) (r3 : Abs.Rows) (s12 s13 : ByteArray) (i14 i15 i16 i17 : Int) (b18 : Bool) : Nat → Int → Option R
 | 0, _ => none
 | n + 1, i19 => Lp114_2_step m kx0 kx1 s0 r1 i2 r3 s12 s13 i14 i15 i16 i17 b18 (Lp114_2 m kx0 kx1 s0 r1 i2 r3 s12 s13 i14 i15 i16 i17 b18 n) i19
noncomputable def ELp114_2 (m : Nat) (R : Type) : Nat → List V → (Ex → List V → Option R) → Option R
 | 0, _, _ => none
 | n + 1, vs, k => match vs with
  | [.f (.lit (.string s0)), .obj [.f (.lst [.str, .str, .int .i64, .int .i64, .int .i64, .int .i64] r1), .f (.lit (.int .i64 i2)), .f (.lst [.str] r3)], .obj [.f (.lit (.string s12)), .f (.lit (.string s13)), .f (.lit (.int .i64 i14)), .f (.lit (.int .i64 i15)), .f (.lit (.int .i64 i16)), .f (.lit (.int .i64 i17))], .f (.lit (.bool b18)), .f (.lit (.int .i64 i19)), .undef, .undef] => Lp114_2_step m (K1Lp114_2 k s0 r1 i2 r3) (fun i29 => k (Ex.exit (0 : Nat)) (W72 s0 r1 i2 r3 s12 s13 i14 i15 i16 i17 b18 i29)) s0 r1 i2 r3 s12 s13 i14 i15 i16 i17 b18 (fun i19 => ELp114_2 m R n (W72 s0 r1 i2 r3 s12 s13 i14 i15 i16 i17 b18 i19) k) i19
  | _ => none
noncomputable def brLp114_2 (m : Nat) (L : LTbl) (R : Type) (vs : List V) (k : Ex → List V → Option R) : Option R := match vs with
 | [.f (.lit (.string s0)), .obj [.f (.lst [.str, .str, .int .i64, .int .i64, .int .i64, .int .i64] r1), .f (.lit (.int .i64 i2)), .f (.lst [.str] r3)], .obj [.f (.lit (.string s12)), .f (.lit (.string s13)), .f (.lit (.int .i64 i14)), .f (.lit (.int .i64 i15)), .f (.lit (.int .i64 i16)), .f (.lit (.int .i64 i17))], .f (.lit (.bool b18)), .f (.lit (.int .i64 i19)), .undef, .undef] => Lp114_2 m (K1Lp114_2 k s0 r1 i2 r3) (fun i29 => k (Ex.exit (0 : Nat)) (W72 s0 r1 i2 r3 s12 s13 i14 i15 i16 i17 b18 i29)) s0 r1 i2 r3 s12 s13 i14 i15 i16 i17 b18 m i19
 | _ => L R 114 2 vs k

theorem stLp114_2 (m n : Nat) (R : Type) (s0 : ByteArray) (r1 : Abs.Rows) (i2 : Int) (r3 : Abs.Rows) (s12 s13 : ByteArray) (i14 i15 i16 i17 : Int) (b18 : Bool) (i19 : Int) (k : Ex → List V → Option R) : codeK Tryz.prog H (T65 m) 114 (L51 m) 3 (loopBody Tryz.prog 114 2) (mkEnv [1, 2, 4, 5, 6, 31, 32] (W72 s0 r1 i2 r3 s12 s13 i14 i15 i16 i17 b18 i19) 0 (H.len 114)) (fun e env' => match e with | .normal => ELp114_2 m R n (vals [1, 2, 4, 5, 6, 31, 32] env') k | e => k e (vals [1, 2, 4, 5, 6, 31, 32] env')) = Lp114_2_step m (K1Lp114_2 k s0 r1 i2 r3) (fun i29 => k (Ex.exit (0 : Nat)) (W72 s0 r1 i2 r3 s12 s13 i14 i15 i16 i17 b18 i29)) s0 r1 i2 r3 s12 s13 i14 i15 i16 i17 b18 (fun i19 => ELp114_2 m R n (W72 s0 r1 i2 r3 s12 s13 i14 i15 i16 i17 b18 i19) k) i19 := by kernel_rfl
theorem eqLp114_2 (m : Nat) (R : Type) (s0 : ByteArray) (r1 : Abs.Rows) (i2 : Int) (r3 : Abs.Rows) (s12 s13 : ByteArray) (i14 i15 i16 i17 : Int) (b18 : Bool) (k : Ex → List V → Option R) : ∀ (n : Nat) (i19 : Int), ELp114_2 m R n (W72 s0 r1 i2 r3 s12 s13 i14 i15 i16 i17 b18 i19) k = Lp114_2 m (K1Lp114_2 k s0 r1 i2 r3) (fun i29 => k (Ex.exit (0 : Nat)) (W72 s0 r1 i2 r3 s12 s13 i14 i15 i16 i17 b18 i29)) s0 r1 i2 r3 s12 s13 i14 i15 i16 i17 b18 n i19
 | 0, _ => rfl
 | n + 1, i19 => by
  simp only [ELp114_2, Lp114_2, W72]
  congr 1
  funext i19
  exact eqLp114_2 m R s0 r1 i2 r3 s12 s13 i14 i15 i16 i17 b18 k n i19
noncomputable def L52 (m : Nat) : LTbl := addB 114 2 (brLp114_2 m (L51 m)) (L51 m)
theorem okL52 (m : Nat) : LTOk Tryz.prog H (L52 m) := addB_ok (okT65 m) hM (okL51 m) (l := [1, 2, 4, 5, 6, 31, 32]) (by kernel_rfl) (by kernel_rfl) m (fun R n vs k => ELp114_2 m R n vs k) (fun R vs k => rfl) (fun R n vs k x h => by
   simp only [ELp114_2] at h
   split at h
   ·exact (stLp114_2 m n R _ _ _ _ _ _ _ _ _ _ _ _ k).trans h
   ·cases h) fun R vs k x h => by
  unfold brLp114_2 at h
  split at h
  ·exact .inl ((eqLp114_2 m R _ _ _ _ _ _ _ _ _ _ _ k m _).trans h)
  ·exact .inr h

/-- - -/
noncomputable def Fn114 {R : Type} (m : Nat) : Abs.Rows → Int → Abs.Rows → ByteArray → (ByteArray → ByteArray → Int → Int → Int → Int → Bool → Option R) → Option R := match m with
 | 0 => fun _ _ _ _ _ => none
 | m + 1 => fun r0 i1 r2 s3 k =>
 Lp114_2 m (fun s4 s5 i6 i7 i8 i9 b10 i11 => k s4 s5 i6 i7 i8 i9 b10) (fun i12 => k ({ data := #[] }) ({ data := #[] }) ((0 : Int)) ((0 : Int)) ((0 : Int)) ((0 : Int)) false) s3 r0 i1 r2 ({ data := #[] }) ({ data := #[] }) ((0 : Int)) ((0 : Int)) ((0 : Int)) ((0 : Int)) false m ((↑(ByteArray.size s3) : Int))
noncomputable def brFn114 (m : Nat) (T : Tbl) (R : Type) (vs : List V) (k : V → List V → Option R) : Option R := match vs with
 | [.agg [.f (.lst [.str, .str, .int .i64, .int .i64, .int .i64, .int .i64] r0), .f (.lit (.int .i64 i1)), .f (.lst [.str] r2)], .f (.lit (.string s3))] => Fn114 m r0 i1 r2 s3 (fun s13 s14 i15 i16 i17 i18 b19 => k (V.tup (W73 s13 s14 i15 i16 i17 i18 b19)) W1)
 | _ => T R 114 vs k

theorem evFn114 (m : Nat) (R : Type) (r0 : Abs.Rows) (i1 : Int) (r2 : Abs.Rows) (s3 : ByteArray) (k : V → List V → Option R) : runK Tryz.prog H (T65 m) (L52 m) 114 (W74 r0 i1 r2 s3) k = Fn114 (m + 1) r0 i1 r2 s3 (fun s13 s14 i15 i16 i17 i18 b19 => k (V.tup (W73 s13 s14 i15 i16 i17 i18 b19)) W1) := by kernel_rfl
noncomputable def T66 (m : Nat) : Tbl := addT 114 (brFn114 m (T65 m)) (T65 m)
theorem okT66 (m : Nat) : TblOk Tryz.prog (T66 m) := addT_ok (okT65 m) fun R vs k x h => by
 unfold brFn114 at h
 split at h
 ·cases m with
  | zero => cases h
  | succ m => exact runK_some (okT65 m) hM (okL52 m) ((evFn114 m R _ _ _ _ k).trans h)
 ·exact okT65 m R 114 _ k x h

abbrev W93 (a0 a1 a2 : ByteArray) (a3 a4 a5 a6 : Int) (a7 : Bool) : List V := [.f (.lit (.string a0)), .agg [.f (.lit (.string a1)), .f (.lit (.string a2)), .f (.lit (.int .i64 a3)), .f (.lit (.int .i64 a4)), .f (.lit (.int .i64 a5)), .f (.lit (.int .i64 a6))], .f (.lit (.bool a7))]
abbrev W94 (a0 : Abs.Rows) (a1 : Int) (a2 a3 : Abs.Rows) (a4 a5 a6 : ByteArray) (a7 a8 a9 a10 : Int) (a11 : ByteArray) : List V := [.agg [.f (.lst [.str, .str, .int .i64, .int .i64, .int .i64, .int .i64] a0), .f (.lit (.int .i64 a1)), .f (.lst [.str] a2)], .bor [.str, .lst [.str]] a3, .agg [.f (.lit (.string a4)), .f (.lit (.string a5)), .f (.lit (.string a6)), .f (.lit (.int .i64 a7)), .f (.lit (.int .i64 a8)), .f (.lit (.int .i64 a9)), .f (.lit (.int .i64 a10)), .f (.lit (.string a11))]]
/-- - -/
noncomputable def Fn58 {R : Type} (m : Nat) : Abs.Rows → Int → Abs.Rows → Abs.Rows → ByteArray → ByteArray → ByteArray → Int → Int → Int → Int → ByteArray → (ByteArray → ByteArray → ByteArray → Int → Int → Int → Int → Bool → Option R) → Option R := match m with
 | 0 => fun _ _ _ _ _ _ _ _ _ _ _ _ _ => none
 | m + 1 => fun r0 i1 r2 r3 s4 s5 s6 i7 i8 i9 i10 s11 k =>
 Fn76 m r3 s5 (fun s12 b13 => Fn114 m r0 i1 r2 s6 (fun s14 s15 i16 i17 i18 i19 b20 => bif b13 then (k s12 s14 s15 i16 i17 i18 i19 b20) else
 (k s12 s14 s15 i16 i17 i18 i19 false)))
noncomputable def brFn58 (m : Nat) (T : Tbl) (R : Type) (vs : List V) (k : V → List V → Option R) : Option R := match vs with
 | [.agg [.f (.lst [.str, .str, .int .i64, .int .i64, .int .i64, .int .i64] r0), .f (.lit (.int .i64 i1)), .f (.lst [.str] r2)], .bor [.str, .lst [.str]] r3, .agg [.f (.lit (.string s4)), .f (.lit (.string s5)), .f (.lit (.string s6)), .f (.lit (.int .i64 i7)), .f (.lit (.int .i64 i8)), .f (.lit (.int .i64 i9)), .f (.lit (.int .i64 i10)), .f (.lit (.string s11))]] => Fn58 m r0 i1 r2 r3 s4 s5 s6 i7 i8 i9 i10 s11 (fun s21 s22 s23 i24 i25 i26 i27 b28 => k (V.tup (W93 s21 s22 s23 i24 i25 i26 i27 b28)) W32)
 | _ => T R 58 vs k

theorem evFn58 (m : Nat) (R : Type) (r0 : Abs.Rows) (i1 : Int) (r2 r3 : Abs.Rows) (s4 s5 s6 : ByteArray) (i7 i8 i9 i10 : Int) (s11 : ByteArray) (k : V → List V → Option R) : runK Tryz.prog H (T66 m) (L52 m) 58 (W94 r0 i1 r2 r3 s4 s5 s6 i7 i8 i9 i10 s11) k = Fn58 (m + 1) r0 i1 r2 r3 s4 s5 s6 i7 i8 i9 i10 s11 (fun s21 s22 s23 i24 i25 i26 i27 b28 => k (V.tup (W93 s21 s22 s23 i24 i25 i26 i27 b28)) W32) := by kernel_rfl
noncomputable def T67 (m : Nat) : Tbl := addT 58 (brFn58 m (T66 m)) (T66 m)
theorem okT67 (m : Nat) : TblOk Tryz.prog (T67 m) := addT_ok (okT66 m) fun R vs k x h => by
 unfold brFn58 at h
 split at h
 ·cases m with
  | zero => cases h
  | succ m => exact runK_some (okT66 m) hM (okL52 m) ((evFn58 m R _ _ _ _ _ _ _ _ _ _ _ _ k).trans h)
 ·exact okT66 m R 58 _ k x h

abbrev W95 (a0 a1 : ByteArray) (a2 a3 a4 a5 a6 a7 : Int) : List V := [.obj [.f (.lit (.string a0)), .f (.lit (.string a1)), .f (.lit (.int .i64 a2)), .f (.lit (.int .i64 a3)), .f (.lit (.int .i64 a4)), .f (.lit (.int .i64 a5))], .f (.lit (.int .i64 a6)), .f (.lit (.int .i64 a7)), .undef, .undef]
/-- - -/
noncomputable def Jn60_9 {R : Type} (m : Nat) (kx0 : Int → Option R) (s0 s1 : ByteArray) (i2 i3 i4 i5 i6 i7 : Int) : Option R :=
 kx0 (IntKind.wrap IntKind.i64 (i2 + IntKind.wrap IntKind.i64 (i7 * i5)))
noncomputable def brJn60_9 (m : Nat) (L : LTbl) (R : Type) (vs : List V) (k : Ex → List V → Option R) : Option R := match vs with
 | [.obj [.f (.lit (.string s0)), .f (.lit (.string s1)), .f (.lit (.int .i64 i2)), .f (.lit (.int .i64 i3)), .f (.lit (.int .i64 i4)), .f (.lit (.int .i64 i5))], .f (.lit (.int .i64 i6)), .f (.lit (.int .i64 i7)), .undef, .undef] => Jn60_9 m (fun i8 => k Ex.ret (W95 s0 s1 i2 i3 i4 i5 i8 i7)) s0 s1 i2 i3 i4 i5 i6 i7
 | _ => L R 60 9 vs k

theorem evJn60_9 (m : Nat) (R : Type) (s0 s1 : ByteArray) (i2 i3 i4 i5 i6 i7 : Int) (k : Ex → List V → Option R) : codeK Tryz.prog H (T67 m) 60 (L52 m) 10 (loopBody Tryz.prog 60 9) (mkEnv [2, 4, 5, 33, 34] (W95 s0 s1 i2 i3 i4 i5 i6 i7) 0 (H.len 60)) (fun e env' => k e (vals [2, 4, 5, 33, 34] env')) = Jn60_9 m (fun i8 => k Ex.ret (W95 s0 s1 i2 i3 i4 i5 i8 i7)) s0 s1 i2 i3 i4 i5 i6 i7 := by kernel_rfl
noncomputable def L53 (m : Nat) : LTbl := addJ 60 9 (brJn60_9 m (L52 m)) (L52 m)
theorem okL53 (m : Nat) : LTOk Tryz.prog H (L53 m) := addJ_ok (okT67 m) hM (okL52 m) (l := [2, 4, 5, 33, 34]) (by kernel_rfl) (by kernel_rfl) fun R vs k x h => by
  unfold brJn60_9 at h
  split at h
  ·exact .inl ((evJn60_9 m R _ _ _ _ _ _ _ _ k).trans h)
  ·exact .inr h

/-- - -/
noncomputable def Fn60 {R : Type} (m : Nat) : ByteArray → ByteArray → Int → Int → Int → Int → Int → (Int → Option R) → Option R := match m with
 | 0 => fun _ _ _ _ _ _ _ _ => none
 | m + 1 => fun s0 s1 i2 i3 i4 i5 i6 k =>
 bif i6 == (0 : Int) then (k ((0 : Int))) else
 (bif decide (IntKind.wrap IntKind.i64 (i6 - i3) > (0 : Int)) then (bif decide (i4 ≠ (0 : Int)) then (bif decide (i4 ≠ (0 : Int)) then (bif decide (Int.tmod (IntKind.wrap IntKind.i64 (i6 - i3)) i4 > (0 : Int)) then (Jn60_9 m (fun i7 => k i7) s0 s1 i2 i3 i4 i5 ((0 : Int)) (IntKind.wrap IntKind.i64 (IntKind.wrap IntKind.i64 (Int.tdiv (IntKind.wrap IntKind.i64 (i6 - i3)) i4) + (1 : Int)))) else
 (Jn60_9 m (fun i8 => k i8) s0 s1 i2 i3 i4 i5 ((0 : Int)) (IntKind.wrap IntKind.i64 (Int.tdiv (IntKind.wrap IntKind.i64 (i6 - i3)) i4)))) else
 (none)) else
 (none)) else
 (Jn60_9 m (fun i9 => k i9) s0 s1 i2 i3 i4 i5 ((0 : Int)) ((0 : Int))))
noncomputable def brFn60 (m : Nat) (T : Tbl) (R : Type) (vs : List V) (k : V → List V → Option R) : Option R := match vs with
 | [.agg [.f (.lit (.string s0)), .f (.lit (.string s1)), .f (.lit (.int .i64 i2)), .f (.lit (.int .i64 i3)), .f (.lit (.int .i64 i4)), .f (.lit (.int .i64 i5))], .f (.lit (.int .i64 i6))] => Fn60 m s0 s1 i2 i3 i4 i5 i6 (fun i10 => k (V.f (F.lit (Value.int IntKind.i64 i10))) W1)
 | _ => T R 60 vs k

theorem evFn60 (m : Nat) (R : Type) (s0 s1 : ByteArray) (i2 i3 i4 i5 i6 : Int) (k : V → List V → Option R) : runK Tryz.prog H (T67 m) (L53 m) 60 (W77 s0 s1 i2 i3 i4 i5 i6) k = Fn60 (m + 1) s0 s1 i2 i3 i4 i5 i6 (fun i10 => k (V.f (F.lit (Value.int IntKind.i64 i10))) W1) := by kernel_rfl
noncomputable def T68 (m : Nat) : Tbl := addT 60 (brFn60 m (T67 m)) (T67 m)
theorem okT68 (m : Nat) : TblOk Tryz.prog (T68 m) := addT_ok (okT67 m) fun R vs k x h => by
 unfold brFn60 at h
 split at h
 ·cases m with
  | zero => cases h
  | succ m => exact runK_some (okT67 m) hM (okL53 m) ((evFn60 m R _ _ _ _ _ _ _ k).trans h)
 ·exact okT67 m R 60 _ k x h

abbrev W96 (a0 a1 : Abs.Rows) (a2 : Int) (a3 : Abs.Rows) (a4 : Int) (a5 a6 a7 : Abs.Rows) (a8 a9 a10 : ByteArray) (a11 a12 a13 a14 : Int) (a15 a16 a17 : ByteArray) (a18 a19 a20 a21 : Int) (a22 a23 a24 : ByteArray) (a25 a26 : Int) (a27 : Abs.Rows) (a28 a29 : Int) : List V := [.bor [.str, .lst [.str]] a0, .bor [.str, .str, .str, .int .i64, .int .i64, .int .i64, .int .i64, .str] a1, .f (.lit (.int .i64 a2)), .obj [.f (.lst [.str, .str, .int .i64, .int .i64, .int .i64, .int .i64] a3), .f (.lit (.int .i64 a4)), .f (.lst [.str] a5)], .own [.str, .str, .str, .int .i64, .int .i64] a6, .own [.mp false, .str, .int .i64] a7, .obj [.f (.lit (.string a8)), .f (.lit (.string a9)), .f (.lit (.string a10)), .f (.lit (.int .i64 a11)), .f (.lit (.int .i64 a12)), .f (.lit (.int .i64 a13)), .f (.lit (.int .i64 a14)), .f (.lit (.string a15))], .obj [.f (.lit (.string a16)), .f (.lit (.string a17)), .f (.lit (.int .i64 a18)), .f (.lit (.int .i64 a19)), .f (.lit (.int .i64 a20)), .f (.lit (.int .i64 a21))], .obj [.f (.lit (.string a22)), .f (.lit (.string a23)), .f (.lit (.string a24)), .f (.lit (.int .i64 a25)), .f (.lit (.int .i64 a26))], .undef, .bor [.str, .str, .str, .int .i64, .int .i64, .int .i64, .int .i64, .str] a27, .f (.lit (.int .i64 a28)), .f (.lit (.int .i64 a29)), .undef, .undef, .undef, .undef, .undef]
/-- - -/
noncomputable def Jn15_14 {R : Type} (m : Nat) (kx0 : Abs.Rows → Int → Option R) (r0 r1 : Abs.Rows) (i2 : Int) (r3 : Abs.Rows) (i4 : Int) (r5 r6 r7 : Abs.Rows) (s8 s9 s10 : ByteArray) (i11 i12 i13 i14 : Int) (s15 s16 s17 : ByteArray) (i18 i19 i20 i21 : Int) (s22 s23 s24 : ByteArray) (i25 i26 : Int) (r27 : Abs.Rows) (i28 i29 : Int) : Option R :=
 Fn60 m s16 s17 i18 i19 i20 i21 (IntKind.wrap IntKind.i64 (i13 - i25)) (fun i30 => bif decide (List.length r6 + List.length [[F.lit (Value.string s22), F.lit (Value.string s23), F.lit (Value.string s24), F.lit (Value.int IntKind.i64 i25), F.lit (Value.int IntKind.i64 i30)]] ≤ rowMax) then (letV (r6 ++ [[F.lit (Value.string s22), F.lit (Value.string s23), F.lit (Value.string s24), F.lit (Value.int IntKind.i64 i25), F.lit (Value.int IntKind.i64 i30)]]) (fun r31 => kx0 r31 i30)) else
 (none))
noncomputable def brJn15_14 (m : Nat) (L : LTbl) (R : Type) (vs : List V) (k : Ex → List V → Option R) : Option R := match vs with
 | [.bor [.str, .lst [.str]] r0, .bor [.str, .str, .str, .int .i64, .int .i64, .int .i64, .int .i64, .str] r1, .f (.lit (.int .i64 i2)), .obj [.f (.lst [.str, .str, .int .i64, .int .i64, .int .i64, .int .i64] r3), .f (.lit (.int .i64 i4)), .f (.lst [.str] r5)], .own [.str, .str, .str, .int .i64, .int .i64] r6, .own [.mp false, .str, .int .i64] r7, .obj [.f (.lit (.string s8)), .f (.lit (.string s9)), .f (.lit (.string s10)), .f (.lit (.int .i64 i11)), .f (.lit (.int .i64 i12)), .f (.lit (.int .i64 i13)), .f (.lit (.int .i64 i14)), .f (.lit (.string s15))], .obj [.f (.lit (.string s16)), .f (.lit (.string s17)), .f (.lit (.int .i64 i18)), .f (.lit (.int .i64 i19)), .f (.lit (.int .i64 i20)), .f (.lit (.int .i64 i21))], .obj [.f (.lit (.string s22)), .f (.lit (.string s23)), .f (.lit (.string s24)), .f (.lit (.int .i64 i25)), .f (.lit (.int .i64 i26))], .undef, .bor [.str, .str, .str, .int .i64, .int .i64, .int .i64, .int .i64, .str] r27, .f (.lit (.int .i64 i28)), .f (.lit (.int .i64 i29)), .undef, .undef, .undef, .undef, .undef] => Jn15_14 m (fun r32 i33 => k Ex.normal (W96 r0 r1 i2 r3 i4 r5 r32 r7 s8 s9 s10 i11 i12 i13 i14 s15 s16 s17 i18 i19 i20 i21 s22 s23 s24 i25 i33 r27 i28 i29)) r0 r1 i2 r3 i4 r5 r6 r7 s8 s9 s10 i11 i12 i13 i14 s15 s16 s17 i18 i19 i20 i21 s22 s23 s24 i25 i26 r27 i28 i29
 | _ => L R 15 14 vs k

theorem evJn15_14 (m : Nat) (R : Type) (r0 r1 : Abs.Rows) (i2 : Int) (r3 : Abs.Rows) (i4 : Int) (r5 r6 r7 : Abs.Rows) (s8 s9 s10 : ByteArray) (i11 i12 i13 i14 : Int) (s15 s16 s17 : ByteArray) (i18 i19 i20 i21 : Int) (s22 s23 s24 : ByteArray) (i25 i26 : Int) (r27 : Abs.Rows) (i28 i29 : Int) (k : Ex → List V → Option R) : codeK Tryz.prog H (T68 m) 15 (L53 m) 15 (loopBody Tryz.prog 15 14) (mkEnv [1, 2, 3, 4, 9, 10, 12, 14, 16, 17, 18, 19, 20, 84, 87, 88, 89, 90] (W96 r0 r1 i2 r3 i4 r5 r6 r7 s8 s9 s10 i11 i12 i13 i14 s15 s16 s17 i18 i19 i20 i21 s22 s23 s24 i25 i26 r27 i28 i29) 0 (H.len 15)) (fun e env' => k e (vals [1, 2, 3, 4, 9, 10, 12, 14, 16, 17, 18, 19, 20, 84, 87, 88, 89, 90] env')) = Jn15_14 m (fun r32 i33 => k Ex.normal (W96 r0 r1 i2 r3 i4 r5 r32 r7 s8 s9 s10 i11 i12 i13 i14 s15 s16 s17 i18 i19 i20 i21 s22 s23 s24 i25 i33 r27 i28 i29)) r0 r1 i2 r3 i4 r5 r6 r7 s8 s9 s10 i11 i12 i13 i14 s15 s16 s17 i18 i19 i20 i21 s22 s23 s24 i25 i26 r27 i28 i29 := by kernel_rfl
noncomputable def L54 (m : Nat) : LTbl := addJ 15 14 (brJn15_14 m (L53 m)) (L53 m)
theorem okL54 (m : Nat) : LTOk Tryz.prog H (L54 m) := addJ_ok (okT68 m) hM (okL53 m) (l := [1, 2, 3, 4, 9, 10, 12, 14, 16, 17, 18, 19, 20, 84, 87, 88, 89, 90]) (by kernel_rfl) (by kernel_rfl) fun R vs k x h => by
  unfold brJn15_14 at h
  split at h
  ·exact .inl ((evJn15_14 m R _ _ _ _ _ _ _ _ _ _ _ _ _ _ _ _ _ _ _ _ _ _ _ _ _ _ _ _ _ _ k).trans h)
  ·exact .inr h

abbrev W97 (a0 a1 : Abs.Rows) (a2 : Int) (a3 : Abs.Rows) (a4 : Int) (a5 a6 a7 : Abs.Rows) (a8 a9 a10 : ByteArray) (a11 a12 a13 a14 : Int) (a15 a16 a17 : ByteArray) (a18 a19 a20 a21 : Int) (a22 : Abs.Rows) (a23 a24 : Int) : List V := [.bor [.str, .lst [.str]] a0, .bor [.str, .str, .str, .int .i64, .int .i64, .int .i64, .int .i64, .str] a1, .f (.lit (.int .i64 a2)), .obj [.f (.lst [.str, .str, .int .i64, .int .i64, .int .i64, .int .i64] a3), .f (.lit (.int .i64 a4)), .f (.lst [.str] a5)], .own [.str, .str, .str, .int .i64, .int .i64] a6, .own [.mp false, .str, .int .i64] a7, .obj [.f (.lit (.string a8)), .f (.lit (.string a9)), .f (.lit (.string a10)), .f (.lit (.int .i64 a11)), .f (.lit (.int .i64 a12)), .f (.lit (.int .i64 a13)), .f (.lit (.int .i64 a14)), .f (.lit (.string a15))], .undef, .obj [.f (.lit (.string a16)), .f (.lit (.string a17)), .f (.lit (.int .i64 a18)), .f (.lit (.int .i64 a19)), .f (.lit (.int .i64 a20)), .f (.lit (.int .i64 a21))], .undef, .bor [.str, .str, .str, .int .i64, .int .i64, .int .i64, .int .i64, .str] a22, .f (.lit (.int .i64 a23)), .f (.lit (.int .i64 a24)), .undef, .undef, .undef, .undef, .undef]
abbrev W98 (a0 a1 : Abs.Rows) (a2 : Int) (a3 : Abs.Rows) (a4 : Int) (a5 a6 a7 : Abs.Rows) (a8 a9 a10 : ByteArray) (a11 a12 a13 a14 : Int) (a15 a16 a17 a18 : ByteArray) (a19 a20 a21 a22 : Int) (a23 : Abs.Rows) (a24 a25 : Int) : List V := [.bor [.str, .lst [.str]] a0, .bor [.str, .str, .str, .int .i64, .int .i64, .int .i64, .int .i64, .str] a1, .f (.lit (.int .i64 a2)), .obj [.f (.lst [.str, .str, .int .i64, .int .i64, .int .i64, .int .i64] a3), .f (.lit (.int .i64 a4)), .f (.lst [.str] a5)], .own [.str, .str, .str, .int .i64, .int .i64] a6, .own [.mp false, .str, .int .i64] a7, .obj [.f (.lit (.string a8)), .f (.lit (.string a9)), .f (.lit (.string a10)), .f (.lit (.int .i64 a11)), .f (.lit (.int .i64 a12)), .f (.lit (.int .i64 a13)), .f (.lit (.int .i64 a14)), .f (.lit (.string a15))], .f (.lit (.string a16)), .obj [.f (.lit (.string a17)), .f (.lit (.string a18)), .f (.lit (.int .i64 a19)), .f (.lit (.int .i64 a20)), .f (.lit (.int .i64 a21)), .f (.lit (.int .i64 a22))], .undef, .bor [.str, .str, .str, .int .i64, .int .i64, .int .i64, .int .i64, .str] a23, .f (.lit (.int .i64 a24)), .f (.lit (.int .i64 a25)), .undef, .undef, .undef, .undef, .undef]
/-- - -/
noncomputable def Jn15_10 {R : Type} (m : Nat) (kx0 : Abs.Rows → Abs.Rows → Option R) (r0 r1 : Abs.Rows) (i2 : Int) (r3 : Abs.Rows) (i4 : Int) (r5 r6 r7 : Abs.Rows) (s8 s9 s10 : ByteArray) (i11 i12 i13 i14 : Int) (s15 s16 s17 s18 : ByteArray) (i19 i20 i21 i22 : Int) (r23 : Abs.Rows) (i24 i25 : Int) : Option R :=
 Fn59 m r5 s18 (fun b26 => bif b26 then (bif decide (List.length r7 < rowMax) then (letV (IntKind.wrap IntKind.i64 (F.toInt (List.headD (mRow (F.lit (Value.string s16)) [F.lit (Value.int IntKind.i64 (0 : Int))] r7) default) + if IntKind.wrap IntKind.i64 (i4 - F.toInt (List.headD (mRow (F.lit (Value.string s16)) [F.lit (Value.int IntKind.i64 (0 : Int))] r7) default)) < i13 then IntKind.wrap IntKind.i64 (i4 - F.toInt (List.headD (mRow (F.lit (Value.string s16)) [F.lit (Value.int IntKind.i64 (0 : Int))] r7) default)) else i13)) (fun i27 => Jn15_14 m (fun r28 i29 => kx0 r28 (mPut (F.lit (Value.string s16)) [F.lit (Value.int IntKind.i64 i27)] r7)) r0 r1 i2 r3 i4 r5 r6 (mPut (F.lit (Value.string s16)) [F.lit (Value.int IntKind.i64 i27)] r7) s8 s9 s10 i11 i12 i13 i14 s15 s17 s18 i19 i20 i21 i22 s8 s16 s18 (if IntKind.wrap IntKind.i64 (i4 - F.toInt (List.headD (mRow (F.lit (Value.string s16)) [F.lit (Value.int IntKind.i64 (0 : Int))] r7) default)) < i13 then IntKind.wrap IntKind.i64 (i4 - F.toInt (List.headD (mRow (F.lit (Value.string s16)) [F.lit (Value.int IntKind.i64 (0 : Int))] r7) default)) else i13) ((0 : Int)) r23 i24 i25)) else
 (none)) else
 (Jn15_14 m (fun r30 i31 => kx0 r30 r7) r0 r1 i2 r3 i4 r5 r6 r7 s8 s9 s10 i11 i12 i13 i14 s15 s17 s18 i19 i20 i21 i22 s8 s16 s18 ((0 : Int)) ((0 : Int)) r23 i24 i25))
noncomputable def brJn15_10 (m : Nat) (L : LTbl) (R : Type) (vs : List V) (k : Ex → List V → Option R) : Option R := match vs with
 | [.bor [.str, .lst [.str]] r0, .bor [.str, .str, .str, .int .i64, .int .i64, .int .i64, .int .i64, .str] r1, .f (.lit (.int .i64 i2)), .obj [.f (.lst [.str, .str, .int .i64, .int .i64, .int .i64, .int .i64] r3), .f (.lit (.int .i64 i4)), .f (.lst [.str] r5)], .own [.str, .str, .str, .int .i64, .int .i64] r6, .own [.mp false, .str, .int .i64] r7, .obj [.f (.lit (.string s8)), .f (.lit (.string s9)), .f (.lit (.string s10)), .f (.lit (.int .i64 i11)), .f (.lit (.int .i64 i12)), .f (.lit (.int .i64 i13)), .f (.lit (.int .i64 i14)), .f (.lit (.string s15))], .f (.lit (.string s16)), .obj [.f (.lit (.string s17)), .f (.lit (.string s18)), .f (.lit (.int .i64 i19)), .f (.lit (.int .i64 i20)), .f (.lit (.int .i64 i21)), .f (.lit (.int .i64 i22))], .undef, .bor [.str, .str, .str, .int .i64, .int .i64, .int .i64, .int .i64, .str] r23, .f (.lit (.int .i64 i24)), .f (.lit (.int .i64 i25)), .undef, .undef, .undef, .undef, .undef] => Jn15_10 m (fun r32 r33 => k Ex.normal (W97 r0 r1 i2 r3 i4 r5 r32 r33 s8 s9 s10 i11 i12 i13 i14 s15 s17 s18 i19 i20 i21 i22 r23 i24 i25)) r0 r1 i2 r3 i4 r5 r6 r7 s8 s9 s10 i11 i12 i13 i14 s15 s16 s17 s18 i19 i20 i21 i22 r23 i24 i25
 | _ => L R 15 10 vs k

theorem evJn15_10 (m : Nat) (R : Type) (r0 r1 : Abs.Rows) (i2 : Int) (r3 : Abs.Rows) (i4 : Int) (r5 r6 r7 : Abs.Rows) (s8 s9 s10 : ByteArray) (i11 i12 i13 i14 : Int) (s15 s16 s17 s18 : ByteArray) (i19 i20 i21 i22 : Int) (r23 : Abs.Rows) (i24 i25 : Int) (k : Ex → List V → Option R) : codeK Tryz.prog H (T68 m) 15 (L54 m) 11 (loopBody Tryz.prog 15 10) (mkEnv [1, 2, 3, 4, 9, 10, 12, 13, 14, 17, 18, 19, 20, 84, 87, 88, 89, 90] (W98 r0 r1 i2 r3 i4 r5 r6 r7 s8 s9 s10 i11 i12 i13 i14 s15 s16 s17 s18 i19 i20 i21 i22 r23 i24 i25) 0 (H.len 15)) (fun e env' => k e (vals [1, 2, 3, 4, 9, 10, 12, 13, 14, 17, 18, 19, 20, 84, 87, 88, 89, 90] env')) = Jn15_10 m (fun r32 r33 => k Ex.normal (W97 r0 r1 i2 r3 i4 r5 r32 r33 s8 s9 s10 i11 i12 i13 i14 s15 s17 s18 i19 i20 i21 i22 r23 i24 i25)) r0 r1 i2 r3 i4 r5 r6 r7 s8 s9 s10 i11 i12 i13 i14 s15 s16 s17 s18 i19 i20 i21 i22 r23 i24 i25 := by kernel_rfl
noncomputable def L55 (m : Nat) : LTbl := addJ 15 10 (brJn15_10 m (L54 m)) (L54 m)
theorem okL55 (m : Nat) : LTOk Tryz.prog H (L55 m) := addJ_ok (okT68 m) hM (okL54 m) (l := [1, 2, 3, 4, 9, 10, 12, 13, 14, 17, 18, 19, 20, 84, 87, 88, 89, 90]) (by kernel_rfl) (by kernel_rfl) fun R vs k x h => by
  unfold brJn15_10 at h
  split at h
  ·exact .inl ((evJn15_10 m R _ _ _ _ _ _ _ _ _ _ _ _ _ _ _ _ _ _ _ _ _ _ _ _ _ _ k).trans h)
  ·exact .inr h

abbrev W99 (a0 a1 : Abs.Rows) (a2 : Int) (a3 : Abs.Rows) (a4 : Int) (a5 a6 a7 a8 : Abs.Rows) (a9 a10 : Int) : List V := [.bor [.str, .lst [.str]] a0, .bor [.str, .str, .str, .int .i64, .int .i64, .int .i64, .int .i64, .str] a1, .f (.lit (.int .i64 a2)), .obj [.f (.lst [.str, .str, .int .i64, .int .i64, .int .i64, .int .i64] a3), .f (.lit (.int .i64 a4)), .f (.lst [.str] a5)], .own [.str, .str, .str, .int .i64, .int .i64] a6, .own [.mp false, .str, .int .i64] a7, .undef, .bor [.str, .str, .str, .int .i64, .int .i64, .int .i64, .int .i64, .str] a8, .f (.lit (.int .i64 a9)), .f (.lit (.int .i64 a10)), .undef, .undef, .undef, .undef]
/-- - -/
noncomputable def Lp15_4_step {R : Type} (m : Nat) (kx0 : Abs.Rows → Abs.Rows → Int → Option R) (r0 r1 : Abs.Rows) (i2 : Int) (r3 : Abs.Rows) (i4 : Int) (r5 r6 : Abs.Rows) (i7 : Int) (REC : Abs.Rows → Abs.Rows → Int → Option R) (r8 r9 : Abs.Rows) (i10 : Int) : Option R :=
 bif decide (i10 < i7) then (bif decide ((0 : Int) ≤ i10 ∧ i10 < (↑(List.length r6) : Int)) then (Fn58 m r3 i4 r5 r0 (fS r6 (Int.toNat i10) (0 : Nat)) (fS r6 (Int.toNat i10) (1 : Nat)) (fS r6 (Int.toNat i10) (2 : Nat)) (fI r6 (Int.toNat i10) (3 : Nat)) (fI r6 (Int.toNat i10) (4 : Nat)) (fI r6 (Int.toNat i10) (5 : Nat)) (fI r6 (Int.toNat i10) (6 : Nat)) (fS r6 (Int.toNat i10) (7 : Nat)) (fun s11 s12 s13 i14 i15 i16 i17 b18 => bif fI r6 (Int.toNat i10) (6 : Nat) != (1 : Int) then (REC r8 r9 (IntKind.wrap IntKind.i64 (i10 + (1 : Int)))) else
 (bif IntKind.wrap IntKind.i64 (Int.tdiv (fI r6 (Int.toNat i10) (3 : Nat)) (2592000000 : Int)) != i2 then (REC r8 r9 (IntKind.wrap IntKind.i64 (i10 + (1 : Int)))) else
 (bif !b18 then (REC r8 r9 (IntKind.wrap IntKind.i64 (i10 + (1 : Int)))) else
 (Jn15_10 m (fun r19 r20 => REC r19 r20 (IntKind.wrap IntKind.i64 (i10 + (1 : Int)))) r0 r1 i2 r3 i4 r5 r8 r9 (fS r6 (Int.toNat i10) (0 : Nat)) (fS r6 (Int.toNat i10) (1 : Nat)) (fS r6 (Int.toNat i10) (2 : Nat)) (fI r6 (Int.toNat i10) (3 : Nat)) (fI r6 (Int.toNat i10) (4 : Nat)) (fI r6 (Int.toNat i10) (5 : Nat)) (fI r6 (Int.toNat i10) (6 : Nat)) (fS r6 (Int.toNat i10) (7 : Nat)) s11 s12 s13 i14 i15 i16 i17 r6 i7 i10))))) else
 (none)) else
 (kx0 r8 r9 i10)
noncomputable def Lp15_4 {R : Type} (m : Nat) (kx0 : Abs.Rows → Abs.Rows → Int → Option R) (r0 r1 : Abs.Rows) (i2 : Int) (r3 : Abs.Rows) (i4 : Int) (r5 r6 : Abs.Rows) (i7 : Int) : Nat → Abs.Rows → Abs.Rows → Int → Option R
 | 0, _, _, _ => none
 | n + 1, r8, r9, i10 => Lp15_4_step m kx0 r0 r1 i2 r3 i4 r5 r6 i7 (Lp15_4 m kx0 r0 r1 i2 r3 i4 r5 r6 i7 n) r8 r9 i10
noncomputable def ELp15_4 (m : Nat) (R : Type) : Nat → List V → (Ex → List V → Option R) → Option R
 | 0, _, _ => none
 | n + 1, vs, k => match vs with
  | [.bor [.str, .lst [.str]] r0, .bor [.str, .str, .str, .int .i64, .int .i64, .int .i64, .int .i64, .str] r1, .f (.lit (.int .i64 i2)), .obj [.f (.lst [.str, .str, .int .i64, .int .i64, .int .i64, .int .i64] r3), .f (.lit (.int .i64 i4)), .f (.lst [.str] r5)], .own [.str, .str, .str, .int .i64, .int .i64] r8, .own [.mp false, .str, .int .i64] r9, .undef, .bor [.str, .str, .str, .int .i64, .int .i64, .int .i64, .int .i64, .str] r6, .f (.lit (.int .i64 i7)), .f (.lit (.int .i64 i10)), .undef, .undef, .undef, .undef] => Lp15_4_step m (fun r21 r22 i23 => k (Ex.exit (0 : Nat)) (W99 r0 r1 i2 r3 i4 r5 r21 r22 r6 i7 i23)) r0 r1 i2 r3 i4 r5 r6 i7 (fun r8 r9 i10 => ELp15_4 m R n (W99 r0 r1 i2 r3 i4 r5 r8 r9 r6 i7 i10) k) r8 r9 i10
  | _ => none
noncomputable def brLp15_4 (m : Nat) (L : LTbl) (R : Type) (vs : List V) (k : Ex → List V → Option R) : Option R := match vs with
 | [.bor [.str, .lst [.str]] r0, .bor [.str, .str, .str, .int .i64, .int .i64, .int .i64, .int .i64, .str] r1, .f (.lit (.int .i64 i2)), .obj [.f (.lst [.str, .str, .int .i64, .int .i64, .int .i64, .int .i64] r3), .f (.lit (.int .i64 i4)), .f (.lst [.str] r5)], .own [.str, .str, .str, .int .i64, .int .i64] r8, .own [.mp false, .str, .int .i64] r9, .undef, .bor [.str, .str, .str, .int .i64, .int .i64, .int .i64, .int .i64, .str] r6, .f (.lit (.int .i64 i7)), .f (.lit (.int .i64 i10)), .undef, .undef, .undef, .undef] => Lp15_4 m (fun r21 r22 i23 => k (Ex.exit (0 : Nat)) (W99 r0 r1 i2 r3 i4 r5 r21 r22 r6 i7 i23)) r0 r1 i2 r3 i4 r5 r6 i7 m r8 r9 i10
 | _ => L R 15 4 vs k

theorem stLp15_4 (m n : Nat) (R : Type) (r0 r1 : Abs.Rows) (i2 : Int) (r3 : Abs.Rows) (i4 : Int) (r5 r8 r9 r6 : Abs.Rows) (i7 i10 : Int) (k : Ex → List V → Option R) : codeK Tryz.prog H (T68 m) 15 (L55 m) 5 (loopBody Tryz.prog 15 4) (mkEnv [1, 2, 3, 4, 9, 10, 17, 18, 19, 20, 87, 88, 89, 90] (W99 r0 r1 i2 r3 i4 r5 r8 r9 r6 i7 i10) 0 (H.len 15)) (fun e env' => match e with | .normal => ELp15_4 m R n (vals [1, 2, 3, 4, 9, 10, 17, 18, 19, 20, 87, 88, 89, 90] env') k | e => k e (vals [1, 2, 3, 4, 9, 10, 17, 18, 19, 20, 87, 88, 89, 90] env')) = Lp15_4_step m (fun r21 r22 i23 => k (Ex.exit (0 : Nat)) (W99 r0 r1 i2 r3 i4 r5 r21 r22 r6 i7 i23)) r0 r1 i2 r3 i4 r5 r6 i7 (fun r8 r9 i10 => ELp15_4 m R n (W99 r0 r1 i2 r3 i4 r5 r8 r9 r6 i7 i10) k) r8 r9 i10 := by kernel_rfl
theorem eqLp15_4 (m : Nat) (R : Type) (r0 r1 : Abs.Rows) (i2 : Int) (r3 : Abs.Rows) (i4 : Int) (r5 r6 : Abs.Rows) (i7 : Int) (k : Ex → List V → Option R) : ∀ (n : Nat) (r8 r9 : Abs.Rows) (i10 : Int), ELp15_4 m R n (W99 r0 r1 i2 r3 i4 r5 r8 r9 r6 i7 i10) k = Lp15_4 m (fun r21 r22 i23 => k (Ex.exit (0 : Nat)) (W99 r0 r1 i2 r3 i4 r5 r21 r22 r6 i7 i23)) r0 r1 i2 r3 i4 r5 r6 i7 n r8 r9 i10
 | 0, _, _, _ => rfl
 | n + 1, r8, r9, i10 => by
  simp only [ELp15_4, Lp15_4, W99]
  congr 1
  funext r8 r9 i10
  exact eqLp15_4 m R r0 r1 i2 r3 i4 r5 r6 i7 k n r8 r9 i10
noncomputable def L56 (m : Nat) : LTbl := addB 15 4 (brLp15_4 m (L55 m)) (L55 m)
theorem okL56 (m : Nat) : LTOk Tryz.prog H (L56 m) := addB_ok (okT68 m) hM (okL55 m) (l := [1, 2, 3, 4, 9, 10, 17, 18, 19, 20, 87, 88, 89, 90]) (by kernel_rfl) (by kernel_rfl) m (fun R n vs k => ELp15_4 m R n vs k) (fun R vs k => rfl) (fun R n vs k x h => by
   simp only [ELp15_4] at h
   split at h
   ·exact (stLp15_4 m n R _ _ _ _ _ _ _ _ _ _ _ k).trans h
   ·cases h) fun R vs k x h => by
  unfold brLp15_4 at h
  split at h
  ·exact .inl ((eqLp15_4 m R _ _ _ _ _ _ _ _ k m _ _ _).trans h)
  ·exact .inr h

/-- - -/
noncomputable def Fn15 {R : Type} (m : Nat) : Abs.Rows → Int → Abs.Rows → Abs.Rows → Abs.Rows → Int → (Abs.Rows → Option R) → Option R := match m with
 | 0 => fun _ _ _ _ _ _ _ => none
 | m + 1 => fun r0 i1 r2 r3 r4 i5 k =>
 Lp15_4 m (fun r6 r7 i8 => k r6) r3 r4 i5 r0 i1 r2 r4 ((↑(List.length r4) : Int)) m rows0 rows0 ((0 : Int))
noncomputable def brFn15 (m : Nat) (T : Tbl) (R : Type) (vs : List V) (k : V → List V → Option R) : Option R := match vs with
 | [.agg [.f (.lst [.str, .str, .int .i64, .int .i64, .int .i64, .int .i64] r0), .f (.lit (.int .i64 i1)), .f (.lst [.str] r2)], .bor [.str, .lst [.str]] r3, .bor [.str, .str, .str, .int .i64, .int .i64, .int .i64, .int .i64, .str] r4, .f (.lit (.int .i64 i5))] => Fn15 m r0 i1 r2 r3 r4 i5 (fun r9 => k (V.own [LT.str, LT.str, LT.str, LT.int IntKind.i64, LT.int IntKind.i64] r9) W64)
 | _ => T R 15 vs k

theorem evFn15 (m : Nat) (R : Type) (r0 : Abs.Rows) (i1 : Int) (r2 r3 r4 : Abs.Rows) (i5 : Int) (k : V → List V → Option R) : runK Tryz.prog H (T68 m) (L56 m) 15 (W65 r0 i1 r2 r3 r4 i5) k = Fn15 (m + 1) r0 i1 r2 r3 r4 i5 (fun r9 => k (V.own [LT.str, LT.str, LT.str, LT.int IntKind.i64, LT.int IntKind.i64] r9) W64) := by kernel_rfl
noncomputable def T69 (m : Nat) : Tbl := addT 15 (brFn15 m (T68 m)) (T68 m)
theorem okT69 (m : Nat) : TblOk Tryz.prog (T69 m) := addT_ok (okT68 m) fun R vs k x h => by
 unfold brFn15 at h
 split at h
 ·cases m with
  | zero => cases h
  | succ m => exact runK_some (okT68 m) hM (okL56 m) ((evFn15 m R _ _ _ _ _ _ k).trans h)
 ·exact okT68 m R 15 _ k x h

abbrev W100 (a0 a1 a2 : ByteArray) (a3 a4 a5 a6 : Int) (a7 : ByteArray) (a8 : Abs.Rows) : List V := [.agg [.f (.lit (.string a0)), .f (.lit (.string a1)), .f (.lit (.string a2)), .f (.lit (.int .i64 a3)), .f (.lit (.int .i64 a4)), .f (.lit (.int .i64 a5)), .f (.lit (.int .i64 a6)), .f (.lit (.string a7))], .iref [.str, .str, .str, .int .i64, .int .i64] a8 0 0]
/-- - -/
noncomputable def Fn62 {R : Type} (m : Nat) : ByteArray → ByteArray → ByteArray → Int → Int → Int → Int → ByteArray → ByteArray → ByteArray → ByteArray → Int → Int → (Bool → Option R) → Option R := match m with
 | 0 => fun _ _ _ _ _ _ _ _ _ _ _ _ _ _ => none
 | m + 1 => fun s0 s1 s2 i3 i4 i5 i6 s7 s8 s9 s10 i11 i12 k =>
 k (ByteArray.toList s0 == ByteArray.toList s8)
noncomputable def brFn62 (m : Nat) (T : Tbl) (R : Type) (vs : List V) (k : V → List V → Option R) : Option R := match vs with
 | [.agg [.f (.lit (.string s0)), .f (.lit (.string s1)), .f (.lit (.string s2)), .f (.lit (.int .i64 i3)), .f (.lit (.int .i64 i4)), .f (.lit (.int .i64 i5)), .f (.lit (.int .i64 i6)), .f (.lit (.string s7))], .iref [.str, .str, .str, .int .i64, .int .i64] [[F.lit (Value.string s8), F.lit (Value.string s9), F.lit (Value.string s10), F.lit (Value.int IntKind.i64 i11), F.lit (Value.int IntKind.i64 i12)]] 0 0] => Fn62 m s0 s1 s2 i3 i4 i5 i6 s7 s8 s9 s10 i11 i12 (fun b13 => k (V.f (F.lit (Value.bool b13))) W1)
 | _ => T R 62 vs k

theorem evFn62 (m : Nat) (R : Type) (s0 s1 s2 : ByteArray) (i3 i4 i5 i6 : Int) (s7 s8 s9 s10 : ByteArray) (i11 i12 : Int) (k : V → List V → Option R) : runK Tryz.prog H (T69 m) (L56 m) 62 (W100 s0 s1 s2 i3 i4 i5 i6 s7 [[F.lit (Value.string s8), F.lit (Value.string s9), F.lit (Value.string s10), F.lit (Value.int IntKind.i64 i11), F.lit (Value.int IntKind.i64 i12)]]) k = Fn62 (m + 1) s0 s1 s2 i3 i4 i5 i6 s7 s8 s9 s10 i11 i12 (fun b13 => k (V.f (F.lit (Value.bool b13))) W1) := by kernel_rfl
noncomputable def T70 (m : Nat) : Tbl := addT 62 (brFn62 m (T69 m)) (T69 m)
theorem okT70 (m : Nat) : TblOk Tryz.prog (T70 m) := addT_ok (okT69 m) fun R vs k x h => by
 unfold brFn62 at h
 split at h
 ·cases m with
  | zero => cases h
  | succ m => exact runK_some (okT69 m) hM (okL56 m) ((evFn62 m R _ _ _ _ _ _ _ _ _ _ _ _ _ k).trans h)
 ·exact okT69 m R 62 _ k x h

abbrev W101 (a0 a1 : Abs.Rows) (a2 a3 a4 : Int) : List V := [.bor [.str, .str, .str, .int .i64, .int .i64, .int .i64, .int .i64, .str] a0, .clos 62 [.iref [.str, .str, .str, .int .i64, .int .i64] a1 0 0], .f (.lit (.int .i64 a2)), .f (.lit (.int .i64 a3)), .f (.lit (.int .i64 a4)), .undef, .undef]
/-- - -/
noncomputable def Lp61_2v1_step {R : Type} (m : Nat) (kx0 : Int → Int → Option R) (kx1 : Int → Option R) (r0 : Abs.Rows) (s1 s2 s3 : ByteArray) (i4 i5 i6 i7 : Int) (REC : Int → Option R) (i8 : Int) : Option R :=
 bif decide (i8 < i7) then (bif decide ((0 : Int) ≤ i8 ∧ i8 < (↑(List.length r0) : Int)) then (Fn62 m (fS r0 (Int.toNat i8) (0 : Nat)) (fS r0 (Int.toNat i8) (1 : Nat)) (fS r0 (Int.toNat i8) (2 : Nat)) (fI r0 (Int.toNat i8) (3 : Nat)) (fI r0 (Int.toNat i8) (4 : Nat)) (fI r0 (Int.toNat i8) (5 : Nat)) (fI r0 (Int.toNat i8) (6 : Nat)) (fS r0 (Int.toNat i8) (7 : Nat)) s1 s2 s3 i4 i5 (fun b9 => bif b9 then (kx0 i8 i8) else
 (REC (IntKind.wrap IntKind.i64 (i8 + (1 : Int)))))) else
 (none)) else
 (kx1 i8)
noncomputable def Lp61_2v1 {R : Type} (m : Nat) (kx0 : Int → Int → Option R) (kx1 : Int → Option R) (r0 : Abs.Rows) (s1 s2 s3 : ByteArray) (i4 i5 i6 i7 : Int) : Nat → Int → Option R
 | 0, _ => none
 | n + 1, i8 => Lp61_2v1_step m kx0 kx1 r0 s1 s2 s3 i4 i5 i6 i7 (Lp61_2v1 m kx0 kx1 r0 s1 s2 s3 i4 i5 i6 i7 n) i8
noncomputable def ELp61_2v1 (m : Nat) (R : Type) : Nat → List V → (Ex → List V → Option R) → Option R
 | 0, _, _ => none
 | n + 1, vs, k => match vs with
  | [.bor [.str, .str, .str, .int .i64, .int .i64, .int .i64, .int .i64, .str] r0, .clos 62 [.iref [.str, .str, .str, .int .i64, .int .i64] [[F.lit (Value.string s1), F.lit (Value.string s2), F.lit (Value.string s3), F.lit (Value.int IntKind.i64 i4), F.lit (Value.int IntKind.i64 i5)]] 0 0], .f (.lit (.int .i64 i6)), .f (.lit (.int .i64 i7)), .f (.lit (.int .i64 i8)), .undef, .undef] => Lp61_2v1_step m (fun i10 i11 => k Ex.ret (W101 r0 [[F.lit (Value.string s1), F.lit (Value.string s2), F.lit (Value.string s3), F.lit (Value.int IntKind.i64 i4), F.lit (Value.int IntKind.i64 i5)]] i10 i7 i11)) (fun i12 => k (Ex.exit (0 : Nat)) (W101 r0 [[F.lit (Value.string s1), F.lit (Value.string s2), F.lit (Value.string s3), F.lit (Value.int IntKind.i64 i4), F.lit (Value.int IntKind.i64 i5)]] i6 i7 i12)) r0 s1 s2 s3 i4 i5 i6 i7 (fun i8 => ELp61_2v1 m R n (W101 r0 [[F.lit (Value.string s1), F.lit (Value.string s2), F.lit (Value.string s3), F.lit (Value.int IntKind.i64 i4), F.lit (Value.int IntKind.i64 i5)]] i6 i7 i8) k) i8
  | _ => none
noncomputable def brLp61_2v1 (m : Nat) (L : LTbl) (R : Type) (vs : List V) (k : Ex → List V → Option R) : Option R := match vs with
 | [.bor [.str, .str, .str, .int .i64, .int .i64, .int .i64, .int .i64, .str] r0, .clos 62 [.iref [.str, .str, .str, .int .i64, .int .i64] [[F.lit (Value.string s1), F.lit (Value.string s2), F.lit (Value.string s3), F.lit (Value.int IntKind.i64 i4), F.lit (Value.int IntKind.i64 i5)]] 0 0], .f (.lit (.int .i64 i6)), .f (.lit (.int .i64 i7)), .f (.lit (.int .i64 i8)), .undef, .undef] => Lp61_2v1 m (fun i10 i11 => k Ex.ret (W101 r0 [[F.lit (Value.string s1), F.lit (Value.string s2), F.lit (Value.string s3), F.lit (Value.int IntKind.i64 i4), F.lit (Value.int IntKind.i64 i5)]] i10 i7 i11)) (fun i12 => k (Ex.exit (0 : Nat)) (W101 r0 [[F.lit (Value.string s1), F.lit (Value.string s2), F.lit (Value.string s3), F.lit (Value.int IntKind.i64 i4), F.lit (Value.int IntKind.i64 i5)]] i6 i7 i12)) r0 s1 s2 s3 i4 i5 i6 i7 m i8
 | _ => L R 61 2 vs k

theorem stLp61_2v1 (m n : Nat) (R : Type) (r0 : Abs.Rows) (s1 s2 s3 : ByteArray) (i4 i5 i6 i7 i8 : Int) (k : Ex → List V → Option R) : codeK Tryz.prog H (T70 m) 61 (L56 m) 3 (loopBody Tryz.prog 61 2) (mkEnv [0, 1, 4, 7, 8, 19, 20] (W101 r0 [[F.lit (Value.string s1), F.lit (Value.string s2), F.lit (Value.string s3), F.lit (Value.int IntKind.i64 i4), F.lit (Value.int IntKind.i64 i5)]] i6 i7 i8) 0 (H.len 61)) (fun e env' => match e with | .normal => ELp61_2v1 m R n (vals [0, 1, 4, 7, 8, 19, 20] env') k | e => k e (vals [0, 1, 4, 7, 8, 19, 20] env')) = Lp61_2v1_step m (fun i10 i11 => k Ex.ret (W101 r0 [[F.lit (Value.string s1), F.lit (Value.string s2), F.lit (Value.string s3), F.lit (Value.int IntKind.i64 i4), F.lit (Value.int IntKind.i64 i5)]] i10 i7 i11)) (fun i12 => k (Ex.exit (0 : Nat)) (W101 r0 [[F.lit (Value.string s1), F.lit (Value.string s2), F.lit (Value.string s3), F.lit (Value.int IntKind.i64 i4), F.lit (Value.int IntKind.i64 i5)]] i6 i7 i12)) r0 s1 s2 s3 i4 i5 i6 i7 (fun i8 => ELp61_2v1 m R n (W101 r0 [[F.lit (Value.string s1), F.lit (Value.string s2), F.lit (Value.string s3), F.lit (Value.int IntKind.i64 i4), F.lit (Value.int IntKind.i64 i5)]] i6 i7 i8) k) i8 := by kernel_rfl
theorem eqLp61_2v1 (m : Nat) (R : Type) (r0 : Abs.Rows) (s1 s2 s3 : ByteArray) (i4 i5 i6 i7 : Int) (k : Ex → List V → Option R) : ∀ (n : Nat) (i8 : Int), ELp61_2v1 m R n (W101 r0 [[F.lit (Value.string s1), F.lit (Value.string s2), F.lit (Value.string s3), F.lit (Value.int IntKind.i64 i4), F.lit (Value.int IntKind.i64 i5)]] i6 i7 i8) k = Lp61_2v1 m (fun i10 i11 => k Ex.ret (W101 r0 [[F.lit (Value.string s1), F.lit (Value.string s2), F.lit (Value.string s3), F.lit (Value.int IntKind.i64 i4), F.lit (Value.int IntKind.i64 i5)]] i10 i7 i11)) (fun i12 => k (Ex.exit (0 : Nat)) (W101 r0 [[F.lit (Value.string s1), F.lit (Value.string s2), F.lit (Value.string s3), F.lit (Value.int IntKind.i64 i4), F.lit (Value.int IntKind.i64 i5)]] i6 i7 i12)) r0 s1 s2 s3 i4 i5 i6 i7 n i8
 | 0, _ => rfl
 | n + 1, i8 => by
  simp only [ELp61_2v1, Lp61_2v1, W101]
  congr 1
  funext i8
  exact eqLp61_2v1 m R r0 s1 s2 s3 i4 i5 i6 i7 k n i8
noncomputable def L57 (m : Nat) : LTbl := addB 61 2 (brLp61_2v1 m (L56 m)) (L56 m)
theorem okL57 (m : Nat) : LTOk Tryz.prog H (L57 m) := addB_ok (okT70 m) hM (okL56 m) (l := [0, 1, 4, 7, 8, 19, 20]) (by kernel_rfl) (by kernel_rfl) m (fun R n vs k => ELp61_2v1 m R n vs k) (fun R vs k => rfl) (fun R n vs k x h => by
   simp only [ELp61_2v1] at h
   split at h
   ·exact (stLp61_2v1 m n R _ _ _ _ _ _ _ _ _ k).trans h
   ·cases h) fun R vs k x h => by
  unfold brLp61_2v1 at h
  split at h
  ·exact .inl ((eqLp61_2v1 m R _ _ _ _ _ _ _ _ k m _).trans h)
  ·exact .inr h

abbrev W102 (a0 a1 : Abs.Rows) : List V := [.bor [.str, .str, .str, .int .i64, .int .i64, .int .i64, .int .i64, .str] a0, .clos 62 [.iref [.str, .str, .str, .int .i64, .int .i64] a1 0 0]]
/-- - -/
noncomputable def Fn61v1 {R : Type} (m : Nat) : Abs.Rows → ByteArray → ByteArray → ByteArray → Int → Int → (Int → Option R) → Option R := match m with
 | 0 => fun _ _ _ _ _ _ _ => none
 | m + 1 => fun r0 s1 s2 s3 i4 i5 k =>
 Lp61_2v1 m (fun i6 i7 => k i6) (fun i8 => k ((-1 : Int))) r0 s1 s2 s3 i4 i5 ((0 : Int)) ((↑(List.length r0) : Int)) m ((0 : Int))
noncomputable def brFn61v1 (m : Nat) (T : Tbl) (R : Type) (vs : List V) (k : V → List V → Option R) : Option R := match vs with
 | [.bor [.str, .str, .str, .int .i64, .int .i64, .int .i64, .int .i64, .str] r0, .clos 62 [.iref [.str, .str, .str, .int .i64, .int .i64] [[F.lit (Value.string s1), F.lit (Value.string s2), F.lit (Value.string s3), F.lit (Value.int IntKind.i64 i4), F.lit (Value.int IntKind.i64 i5)]] 0 0]] => Fn61v1 m r0 s1 s2 s3 i4 i5 (fun i9 => k (V.f (F.lit (Value.int IntKind.i64 i9))) W1)
 | _ => T R 61 vs k

theorem evFn61v1 (m : Nat) (R : Type) (r0 : Abs.Rows) (s1 s2 s3 : ByteArray) (i4 i5 : Int) (k : V → List V → Option R) : runK Tryz.prog H (T70 m) (L57 m) 61 (W102 r0 [[F.lit (Value.string s1), F.lit (Value.string s2), F.lit (Value.string s3), F.lit (Value.int IntKind.i64 i4), F.lit (Value.int IntKind.i64 i5)]]) k = Fn61v1 (m + 1) r0 s1 s2 s3 i4 i5 (fun i9 => k (V.f (F.lit (Value.int IntKind.i64 i9))) W1) := by kernel_rfl
noncomputable def T71 (m : Nat) : Tbl := addT 61 (brFn61v1 m (T70 m)) (T70 m)
theorem okT71 (m : Nat) : TblOk Tryz.prog (T71 m) := addT_ok (okT70 m) fun R vs k x h => by
 unfold brFn61v1 at h
 split at h
 ·cases m with
  | zero => cases h
  | succ m => exact runK_some (okT70 m) hM (okL57 m) ((evFn61v1 m R _ _ _ _ _ _ k).trans h)
 ·exact okT70 m R 61 _ k x h

abbrev W103 (a0 a1 : Abs.Rows) (a2 : Int) (a3 a4 : Abs.Rows) (a5 : ByteArray) (a6 : Abs.Rows) (a7 : ByteArray) (a8 a9 a10 a11 a12 : Int) (a13 : Abs.Rows) (a14 a15 : Int) (a16 : Nat) (a17 a18 : Int) : List V := [.bor [.str, .lst [.str]] a0, .bor [.str, .str, .str, .int .i64, .int .i64, .int .i64, .int .i64, .str] a1, .f (.lit (.int .i64 a2)), .own [.str, .int .i64, .int .i64, .int .i64, .int .i64] a3, .own [.str, .str, .str, .int .i64, .int .i64] a4, .obj [.f (.lit (.string a5)), .f (.lst [.str] a6)], .obj [.f (.lit (.string a7)), .f (.lit (.int .i64 a8)), .f (.lit (.int .i64 a9)), .f (.lit (.int .i64 a10)), .f (.lit (.int .i64 a11))], .f (.lit (.int .i64 a12)), .undef, .bor [.str, .lst [.str]] a13, .f (.lit (.int .i64 a14)), .f (.lit (.int .i64 a15)), .lent { slot := (10 : Nat), leaf := none } 5 a16, .f (.lit (.int .i64 a17)), .f (.lit (.int .i64 a18)), .undef, .undef, .undef, .undef]
/-- - -/
noncomputable def Lp16_10_step {R : Type} (m : Nat) (kx0 : Int → Int → Int → Int → Option R) (r0 r1 : Abs.Rows) (i2 : Int) (r3 r4 : Abs.Rows) (s5 : ByteArray) (r6 : Abs.Rows) (s7 : ByteArray) (i8 i9 : Int) (r10 : Abs.Rows) (i11 i12 : Int) (n13 : Nat) (i14 : Int) (REC : Int → Int → Int → Int → Option R) (i15 i16 i17 i18 : Int) : Option R :=
 bif decide (i18 < i14) then (bif decide ((0 : Int) ≤ i18 ∧ i18 < (↑n13 : Int)) then (bif !ByteArray.toList (fS r4 (Int.toNat i18) (1 : Nat)) == ByteArray.toList s5 then (REC i15 i16 i17 (IntKind.wrap IntKind.i64 (i18 + (1 : Int)))) else
 (Fn61v1 m r1 (fS r4 (Int.toNat i18) (0 : Nat)) (fS r4 (Int.toNat i18) (1 : Nat)) (fS r4 (Int.toNat i18) (2 : Nat)) (fI r4 (Int.toNat i18) (3 : Nat)) (fI r4 (Int.toNat i18) (4 : Nat)) (fun i19 => bif decide ((0 : Int) ≤ i19 ∧ i19 < (↑(List.length r1) : Int)) then (REC (IntKind.wrap IntKind.i64 (i15 + (1 : Int))) (IntKind.wrap IntKind.i64 (i16 + fI r1 (Int.toNat i19) (5 : Nat))) (IntKind.wrap IntKind.i64 (i17 + fI r4 (Int.toNat i18) (4 : Nat))) (IntKind.wrap IntKind.i64 (i18 + (1 : Int)))) else
 (none)))) else
 (none)) else
 (kx0 i15 i16 i17 i18)
noncomputable def Lp16_10 {R : Type} (m : Nat) (kx0 : Int → Int → Int → Int → Option R) (r0 r1 : Abs.Rows) (i2 : Int) (r3 r4 : Abs.Rows) (s5 : ByteArray) (r6 : Abs.Rows) (s7 : ByteArray) (i8 i9 : Int) (r10 : Abs.Rows) (i11 i12 : Int) (n13 : Nat) (i14 : Int) : Nat → Int → Int → Int → Int → Option R
 | 0, _, _, _, _ => none
 | n + 1, i15, i16, i17, i18 => Lp16_10_step m kx0 r0 r1 i2 r3 r4 s5 r6 s7 i8 i9 r10 i11 i12 n13 i14 (Lp16_10 m kx0 r0 r1 i2 r3 r4 s5 r6 s7 i8 i9 r10 i11 i12 n13 i14 n) i15 i16 i17 i18
noncomputable def ELp16_10 (m : Nat) (R : Type) : Nat → List V → (Ex → List V → Option R) → Option R
 | 0, _, _ => none
 | n + 1, vs, k => match vs with
  | [.bor [.str, .lst [.str]] r0, .bor [.str, .str, .str, .int .i64, .int .i64, .int .i64, .int .i64, .str] r1, .f (.lit (.int .i64 i2)), .own [.str, .int .i64, .int .i64, .int .i64, .int .i64] r3, .own [.str, .str, .str, .int .i64, .int .i64] r4, .obj [.f (.lit (.string s5)), .f (.lst [.str] r6)], .obj [.f (.lit (.string s7)), .f (.lit (.int .i64 i8)), .f (.lit (.int .i64 i15)), .f (.lit (.int .i64 i16)), .f (.lit (.int .i64 i9))], .f (.lit (.int .i64 i17)), .undef, .bor [.str, .lst [.str]] r10, .f (.lit (.int .i64 i11)), .f (.lit (.int .i64 i12)), .lent { slot := (10 : Nat), leaf := none } 5 n13, .f (.lit (.int .i64 i14)), .f (.lit (.int .i64 i18)), .undef, .undef, .undef, .undef] => Lp16_10_step m (fun i20 i21 i22 i23 => k (Ex.exit (2 : Nat)) (W103 r0 r1 i2 r3 r4 s5 r6 s7 i8 i20 i21 i9 i22 r10 i11 i12 n13 i14 i23)) r0 r1 i2 r3 r4 s5 r6 s7 i8 i9 r10 i11 i12 n13 i14 (fun i15 i16 i17 i18 => ELp16_10 m R n (W103 r0 r1 i2 r3 r4 s5 r6 s7 i8 i15 i16 i9 i17 r10 i11 i12 n13 i14 i18) k) i15 i16 i17 i18
  | _ => none
noncomputable def brLp16_10 (m : Nat) (L : LTbl) (R : Type) (vs : List V) (k : Ex → List V → Option R) : Option R := match vs with
 | [.bor [.str, .lst [.str]] r0, .bor [.str, .str, .str, .int .i64, .int .i64, .int .i64, .int .i64, .str] r1, .f (.lit (.int .i64 i2)), .own [.str, .int .i64, .int .i64, .int .i64, .int .i64] r3, .own [.str, .str, .str, .int .i64, .int .i64] r4, .obj [.f (.lit (.string s5)), .f (.lst [.str] r6)], .obj [.f (.lit (.string s7)), .f (.lit (.int .i64 i8)), .f (.lit (.int .i64 i15)), .f (.lit (.int .i64 i16)), .f (.lit (.int .i64 i9))], .f (.lit (.int .i64 i17)), .undef, .bor [.str, .lst [.str]] r10, .f (.lit (.int .i64 i11)), .f (.lit (.int .i64 i12)), .lent { slot := (10 : Nat), leaf := none } 5 n13, .f (.lit (.int .i64 i14)), .f (.lit (.int .i64 i18)), .undef, .undef, .undef, .undef] => Lp16_10 m (fun i20 i21 i22 i23 => k (Ex.exit (2 : Nat)) (W103 r0 r1 i2 r3 r4 s5 r6 s7 i8 i20 i21 i9 i22 r10 i11 i12 n13 i14 i23)) r0 r1 i2 r3 r4 s5 r6 s7 i8 i9 r10 i11 i12 n13 i14 m i15 i16 i17 i18
 | _ => L R 16 10 vs k

theorem stLp16_10 (m n : Nat) (R : Type) (r0 r1 : Abs.Rows) (i2 : Int) (r3 r4 : Abs.Rows) (s5 : ByteArray) (r6 : Abs.Rows) (s7 : ByteArray) (i8 i15 i16 i9 i17 : Int) (r10 : Abs.Rows) (i11 i12 : Int) (n13 : Nat) (i14 i18 : Int) (k : Ex → List V → Option R) : codeK Tryz.prog H (T71 m) 16 (L57 m) 11 (loopBody Tryz.prog 16 10) (mkEnv [1, 2, 3, 9, 10, 12, 13, 14, 22, 23, 24, 25, 33, 34, 35, 77, 78, 79, 80] (W103 r0 r1 i2 r3 r4 s5 r6 s7 i8 i15 i16 i9 i17 r10 i11 i12 n13 i14 i18) 0 (H.len 16)) (fun e env' => match e with | .normal => ELp16_10 m R n (vals [1, 2, 3, 9, 10, 12, 13, 14, 22, 23, 24, 25, 33, 34, 35, 77, 78, 79, 80] env') k | e => k e (vals [1, 2, 3, 9, 10, 12, 13, 14, 22, 23, 24, 25, 33, 34, 35, 77, 78, 79, 80] env')) = Lp16_10_step m (fun i20 i21 i22 i23 => k (Ex.exit (2 : Nat)) (W103 r0 r1 i2 r3 r4 s5 r6 s7 i8 i20 i21 i9 i22 r10 i11 i12 n13 i14 i23)) r0 r1 i2 r3 r4 s5 r6 s7 i8 i9 r10 i11 i12 n13 i14 (fun i15 i16 i17 i18 => ELp16_10 m R n (W103 r0 r1 i2 r3 r4 s5 r6 s7 i8 i15 i16 i9 i17 r10 i11 i12 n13 i14 i18) k) i15 i16 i17 i18 := by kernel_rfl
theorem eqLp16_10 (m : Nat) (R : Type) (r0 r1 : Abs.Rows) (i2 : Int) (r3 r4 : Abs.Rows) (s5 : ByteArray) (r6 : Abs.Rows) (s7 : ByteArray) (i8 i9 : Int) (r10 : Abs.Rows) (i11 i12 : Int) (n13 : Nat) (i14 : Int) (k : Ex → List V → Option R) : ∀ (n : Nat) (i15 i16 i17 i18 : Int), ELp16_10 m R n (W103 r0 r1 i2 r3 r4 s5 r6 s7 i8 i15 i16 i9 i17 r10 i11 i12 n13 i14 i18) k = Lp16_10 m (fun i20 i21 i22 i23 => k (Ex.exit (2 : Nat)) (W103 r0 r1 i2 r3 r4 s5 r6 s7 i8 i20 i21 i9 i22 r10 i11 i12 n13 i14 i23)) r0 r1 i2 r3 r4 s5 r6 s7 i8 i9 r10 i11 i12 n13 i14 n i15 i16 i17 i18
 | 0, _, _, _, _ => rfl
 | n + 1, i15, i16, i17, i18 => by
  simp only [ELp16_10, Lp16_10, W103]
  congr 1
  funext i15 i16 i17 i18
  exact eqLp16_10 m R r0 r1 i2 r3 r4 s5 r6 s7 i8 i9 r10 i11 i12 n13 i14 k n i15 i16 i17 i18
noncomputable def L58 (m : Nat) : LTbl := addB 16 10 (brLp16_10 m (L57 m)) (L57 m)
theorem okL58 (m : Nat) : LTOk Tryz.prog H (L58 m) := addB_ok (okT71 m) hM (okL57 m) (l := [1, 2, 3, 9, 10, 12, 13, 14, 22, 23, 24, 25, 33, 34, 35, 77, 78, 79, 80]) (by kernel_rfl) (by kernel_rfl) m (fun R n vs k => ELp16_10 m R n vs k) (fun R vs k => rfl) (fun R n vs k x h => by
   simp only [ELp16_10] at h
   split at h
   ·exact (stLp16_10 m n R _ _ _ _ _ _ _ _ _ _ _ _ _ _ _ _ _ _ _ k).trans h
   ·cases h) fun R vs k x h => by
  unfold brLp16_10 at h
  split at h
  ·exact .inl ((eqLp16_10 m R _ _ _ _ _ _ _ _ _ _ _ _ _ _ _ k m _ _ _ _).trans h)
  ·exact .inr h

abbrev W104 (a0 a1 : Abs.Rows) (a2 : Int) (a3 a4 a5 : Abs.Rows) (a6 a7 : Int) : List V := [.bor [.str, .lst [.str]] a0, .bor [.str, .str, .str, .int .i64, .int .i64, .int .i64, .int .i64, .str] a1, .f (.lit (.int .i64 a2)), .own [.str, .int .i64, .int .i64, .int .i64, .int .i64] a3, .own [.str, .str, .str, .int .i64, .int .i64] a4, .undef, .bor [.str, .lst [.str]] a5, .f (.lit (.int .i64 a6)), .f (.lit (.int .i64 a7)), .undef, .undef, .undef, .undef]
/-- - -/
noncomputable def Lp16_4_step {R : Type} (m : Nat) (kx0 : Abs.Rows → Int → Option R) (r0 r1 : Abs.Rows) (i2 : Int) (r3 r4 : Abs.Rows) (i5 : Int) (REC : Abs.Rows → Int → Option R) (r6 : Abs.Rows) (i7 : Int) : Option R :=
 bif decide (i7 < i5) then (bif decide ((0 : Int) ≤ i7 ∧ i7 < (↑(List.length r4) : Int)) then (Lp16_10 m (fun i8 i9 i10 i11 => bif decide (i8 > (0 : Int)) then (bif decide (List.length r6 + List.length [[F.lit (Value.string (fS r4 (Int.toNat i7) (0 : Nat))), F.lit (Value.int IntKind.i64 i2), F.lit (Value.int IntKind.i64 i8), F.lit (Value.int IntKind.i64 i9), F.lit (Value.int IntKind.i64 (IntKind.wrap IntKind.i64 (Int.tdiv i10 (1000 : Int))))]] ≤ rowMax) then (letV (r6 ++ [[F.lit (Value.string (fS r4 (Int.toNat i7) (0 : Nat))), F.lit (Value.int IntKind.i64 i2), F.lit (Value.int IntKind.i64 i8), F.lit (Value.int IntKind.i64 i9), F.lit (Value.int IntKind.i64 (IntKind.wrap IntKind.i64 (Int.tdiv i10 (1000 : Int))))]]) (fun r12 => REC r12 (IntKind.wrap IntKind.i64 (i7 + (1 : Int))))) else
 (none)) else
 (REC r6 (IntKind.wrap IntKind.i64 (i7 + (1 : Int))))) r0 r1 i2 r6 r3 (fS r4 (Int.toNat i7) (0 : Nat)) (fR r4 (Int.toNat i7) (1 : Nat)) (fS r4 (Int.toNat i7) (0 : Nat)) i2 ((0 : Int)) r4 i5 i7 (List.length r3) ((↑(List.length r3) : Int)) m ((0 : Int)) ((0 : Int)) ((0 : Int)) ((0 : Int))) else
 (none)) else
 (kx0 r6 i7)
noncomputable def Lp16_4 {R : Type} (m : Nat) (kx0 : Abs.Rows → Int → Option R) (r0 r1 : Abs.Rows) (i2 : Int) (r3 r4 : Abs.Rows) (i5 : Int) : Nat → Abs.Rows → Int → Option R
 | 0, _, _ => none
 | n + 1, r6, i7 => Lp16_4_step m kx0 r0 r1 i2 r3 r4 i5 (Lp16_4 m kx0 r0 r1 i2 r3 r4 i5 n) r6 i7
noncomputable def ELp16_4 (m : Nat) (R : Type) : Nat → List V → (Ex → List V → Option R) → Option R
 | 0, _, _ => none
 | n + 1, vs, k => match vs with
  | [.bor [.str, .lst [.str]] r0, .bor [.str, .str, .str, .int .i64, .int .i64, .int .i64, .int .i64, .str] r1, .f (.lit (.int .i64 i2)), .own [.str, .int .i64, .int .i64, .int .i64, .int .i64] r6, .own [.str, .str, .str, .int .i64, .int .i64] r3, .undef, .bor [.str, .lst [.str]] r4, .f (.lit (.int .i64 i5)), .f (.lit (.int .i64 i7)), .undef, .undef, .undef, .undef] => Lp16_4_step m (fun r13 i14 => k (Ex.exit (0 : Nat)) (W104 r0 r1 i2 r13 r3 r4 i5 i14)) r0 r1 i2 r3 r4 i5 (fun r6 i7 => ELp16_4 m R n (W104 r0 r1 i2 r6 r3 r4 i5 i7) k) r6 i7
  | _ => none
noncomputable def brLp16_4 (m : Nat) (L : LTbl) (R : Type) (vs : List V) (k : Ex → List V → Option R) : Option R := match vs with
 | [.bor [.str, .lst [.str]] r0, .bor [.str, .str, .str, .int .i64, .int .i64, .int .i64, .int .i64, .str] r1, .f (.lit (.int .i64 i2)), .own [.str, .int .i64, .int .i64, .int .i64, .int .i64] r6, .own [.str, .str, .str, .int .i64, .int .i64] r3, .undef, .bor [.str, .lst [.str]] r4, .f (.lit (.int .i64 i5)), .f (.lit (.int .i64 i7)), .undef, .undef, .undef, .undef] => Lp16_4 m (fun r13 i14 => k (Ex.exit (0 : Nat)) (W104 r0 r1 i2 r13 r3 r4 i5 i14)) r0 r1 i2 r3 r4 i5 m r6 i7
 | _ => L R 16 4 vs k

theorem stLp16_4 (m n : Nat) (R : Type) (r0 r1 : Abs.Rows) (i2 : Int) (r6 r3 r4 : Abs.Rows) (i5 i7 : Int) (k : Ex → List V → Option R) : codeK Tryz.prog H (T71 m) 16 (L58 m) 5 (loopBody Tryz.prog 16 4) (mkEnv [1, 2, 3, 9, 10, 22, 23, 24, 25, 77, 78, 79, 80] (W104 r0 r1 i2 r6 r3 r4 i5 i7) 0 (H.len 16)) (fun e env' => match e with | .normal => ELp16_4 m R n (vals [1, 2, 3, 9, 10, 22, 23, 24, 25, 77, 78, 79, 80] env') k | e => k e (vals [1, 2, 3, 9, 10, 22, 23, 24, 25, 77, 78, 79, 80] env')) = Lp16_4_step m (fun r13 i14 => k (Ex.exit (0 : Nat)) (W104 r0 r1 i2 r13 r3 r4 i5 i14)) r0 r1 i2 r3 r4 i5 (fun r6 i7 => ELp16_4 m R n (W104 r0 r1 i2 r6 r3 r4 i5 i7) k) r6 i7 := by kernel_rfl
theorem eqLp16_4 (m : Nat) (R : Type) (r0 r1 : Abs.Rows) (i2 : Int) (r3 r4 : Abs.Rows) (i5 : Int) (k : Ex → List V → Option R) : ∀ (n : Nat) (r6 : Abs.Rows) (i7 : Int), ELp16_4 m R n (W104 r0 r1 i2 r6 r3 r4 i5 i7) k = Lp16_4 m (fun r13 i14 => k (Ex.exit (0 : Nat)) (W104 r0 r1 i2 r13 r3 r4 i5 i14)) r0 r1 i2 r3 r4 i5 n r6 i7
 | 0, _, _ => rfl
 | n + 1, r6, i7 => by
  simp only [ELp16_4, Lp16_4, W104]
  congr 1
  funext r6 i7
  exact eqLp16_4 m R r0 r1 i2 r3 r4 i5 k n r6 i7
noncomputable def L59 (m : Nat) : LTbl := addB 16 4 (brLp16_4 m (L58 m)) (L58 m)
theorem okL59 (m : Nat) : LTOk Tryz.prog H (L59 m) := addB_ok (okT71 m) hM (okL58 m) (l := [1, 2, 3, 9, 10, 22, 23, 24, 25, 77, 78, 79, 80]) (by kernel_rfl) (by kernel_rfl) m (fun R n vs k => ELp16_4 m R n vs k) (fun R vs k => rfl) (fun R n vs k x h => by
   simp only [ELp16_4] at h
   split at h
   ·exact (stLp16_4 m n R _ _ _ _ _ _ _ _ k).trans h
   ·cases h) fun R vs k x h => by
  unfold brLp16_4 at h
  split at h
  ·exact .inl ((eqLp16_4 m R _ _ _ _ _ _ k m _ _).trans h)
  ·exact .inr h

/-- - -/
noncomputable def Fn16 {R : Type} (m : Nat) : Abs.Rows → Int → Abs.Rows → Abs.Rows → Abs.Rows → Int → (Abs.Rows → Option R) → Option R := match m with
 | 0 => fun _ _ _ _ _ _ _ => none
 | m + 1 => fun r0 i1 r2 r3 r4 i5 k =>
 Fn15 m r0 i1 r2 r3 r4 i5 (fun r6 => Lp16_4 m (fun r7 i8 => k r7) r3 r4 i5 r6 r3 ((↑(List.length r3) : Int)) m rows0 ((0 : Int)))
noncomputable def brFn16 (m : Nat) (T : Tbl) (R : Type) (vs : List V) (k : V → List V → Option R) : Option R := match vs with
 | [.agg [.f (.lst [.str, .str, .int .i64, .int .i64, .int .i64, .int .i64] r0), .f (.lit (.int .i64 i1)), .f (.lst [.str] r2)], .bor [.str, .lst [.str]] r3, .bor [.str, .str, .str, .int .i64, .int .i64, .int .i64, .int .i64, .str] r4, .f (.lit (.int .i64 i5))] => Fn16 m r0 i1 r2 r3 r4 i5 (fun r9 => k (V.own [LT.str, LT.int IntKind.i64, LT.int IntKind.i64, LT.int IntKind.i64, LT.int IntKind.i64] r9) W64)
 | _ => T R 16 vs k

theorem evFn16 (m : Nat) (R : Type) (r0 : Abs.Rows) (i1 : Int) (r2 r3 r4 : Abs.Rows) (i5 : Int) (k : V → List V → Option R) : runK Tryz.prog H (T71 m) (L59 m) 16 (W65 r0 i1 r2 r3 r4 i5) k = Fn16 (m + 1) r0 i1 r2 r3 r4 i5 (fun r9 => k (V.own [LT.str, LT.int IntKind.i64, LT.int IntKind.i64, LT.int IntKind.i64, LT.int IntKind.i64] r9) W64) := by kernel_rfl
noncomputable def T72 (m : Nat) : Tbl := addT 16 (brFn16 m (T71 m)) (T71 m)
theorem okT72 (m : Nat) : TblOk Tryz.prog (T72 m) := addT_ok (okT71 m) fun R vs k x h => by
 unfold brFn16 at h
 split at h
 ·cases m with
  | zero => cases h
  | succ m => exact runK_some (okT71 m) hM (okL59 m) ((evFn16 m R _ _ _ _ _ _ k).trans h)
 ·exact okT71 m R 16 _ k x h

abbrev W105 (a0 a1 a2 : Abs.Rows) (a3 : Int) (a4 a5 a6 : Abs.Rows) (a7 a8 : Int) : List V := [.bor [.str, .lst [.str]] a0, .bor [.str, .str, .str, .int .i64, .int .i64, .int .i64, .int .i64, .str] a1, .obj [.f (.lst [.str, .str, .int .i64, .int .i64, .int .i64, .int .i64] a2), .f (.lit (.int .i64 a3)), .f (.lst [.str] a4)], .own [.int .i64] a5, .bor [.str, .str, .str, .int .i64, .int .i64, .int .i64, .int .i64, .str] a6, .f (.lit (.int .i64 a7)), .f (.lit (.int .i64 a8)), .undef, .undef, .undef]
/-- - -/
noncomputable def Lp17_3_step {R : Type} (m : Nat) (kx0 : Abs.Rows → Int → Option R) (r0 r1 r2 : Abs.Rows) (i3 : Int) (r4 r5 : Abs.Rows) (i6 : Int) (REC : Abs.Rows → Int → Option R) (r7 : Abs.Rows) (i8 : Int) : Option R :=
 bif decide (i8 < i6) then (bif decide ((0 : Int) ≤ i8 ∧ i8 < (↑(List.length r5) : Int)) then (Fn58 m r2 i3 r4 r0 (fS r5 (Int.toNat i8) (0 : Nat)) (fS r5 (Int.toNat i8) (1 : Nat)) (fS r5 (Int.toNat i8) (2 : Nat)) (fI r5 (Int.toNat i8) (3 : Nat)) (fI r5 (Int.toNat i8) (4 : Nat)) (fI r5 (Int.toNat i8) (5 : Nat)) (fI r5 (Int.toNat i8) (6 : Nat)) (fS r5 (Int.toNat i8) (7 : Nat)) (fun s9 s10 s11 i12 i13 i14 i15 b16 => bif fI r5 (Int.toNat i8) (6 : Nat) == (1 : Int) then (bif !b16 then (bif decide (List.length r7 + List.length [[F.lit (Value.int IntKind.i64 i8)]] ≤ rowMax) then (letV (r7 ++ [[F.lit (Value.int IntKind.i64 i8)]]) (fun r17 => REC r17 (IntKind.wrap IntKind.i64 (i8 + (1 : Int))))) else
 (none)) else
 (REC r7 (IntKind.wrap IntKind.i64 (i8 + (1 : Int))))) else
 (REC r7 (IntKind.wrap IntKind.i64 (i8 + (1 : Int)))))) else
 (none)) else
 (kx0 r7 i8)
noncomputable def Lp17_3 {R : Type} (m : Nat) (kx0 : Abs.Rows → Int → Option R) (r0 r1 r2 : Abs.Rows) (i3 : Int) (r4 r5 : Abs.Rows) (i6 : Int) : Nat → Abs.Rows → Int → Option R
 | 0, _, _ => none
 | n + 1, r7, i8 => Lp17_3_step m kx0 r0 r1 r2 i3 r4 r5 i6 (Lp17_3 m kx0 r0 r1 r2 i3 r4 r5 i6 n) r7 i8
noncomputable def ELp17_3 (m : Nat) (R : Type) : Nat → List V → (Ex → List V → Option R) → Option R
 | 0, _, _ => none
 | n + 1, vs, k => match vs with
  | [.bor [.str, .lst [.str]] r0, .bor [.str, .str, .str, .int .i64, .int .i64, .int .i64, .int .i64, .str] r1, .obj [.f (.lst [.str, .str, .int .i64, .int .i64, .int .i64, .int .i64] r2), .f (.lit (.int .i64 i3)), .f (.lst [.str] r4)], .own [.int .i64] r7, .bor [.str, .str, .str, .int .i64, .int .i64, .int .i64, .int .i64, .str] r5, .f (.lit (.int .i64 i6)), .f (.lit (.int .i64 i8)), .undef, .undef, .undef] => Lp17_3_step m (fun r18 i19 => k (Ex.exit (0 : Nat)) (W105 r0 r1 r2 i3 r4 r18 r5 i6 i19)) r0 r1 r2 i3 r4 r5 i6 (fun r7 i8 => ELp17_3 m R n (W105 r0 r1 r2 i3 r4 r7 r5 i6 i8) k) r7 i8
  | _ => none
noncomputable def brLp17_3 (m : Nat) (L : LTbl) (R : Type) (vs : List V) (k : Ex → List V → Option R) : Option R := match vs with
 | [.bor [.str, .lst [.str]] r0, .bor [.str, .str, .str, .int .i64, .int .i64, .int .i64, .int .i64, .str] r1, .obj [.f (.lst [.str, .str, .int .i64, .int .i64, .int .i64, .int .i64] r2), .f (.lit (.int .i64 i3)), .f (.lst [.str] r4)], .own [.int .i64] r7, .bor [.str, .str, .str, .int .i64, .int .i64, .int .i64, .int .i64, .str] r5, .f (.lit (.int .i64 i6)), .f (.lit (.int .i64 i8)), .undef, .undef, .undef] => Lp17_3 m (fun r18 i19 => k (Ex.exit (0 : Nat)) (W105 r0 r1 r2 i3 r4 r18 r5 i6 i19)) r0 r1 r2 i3 r4 r5 i6 m r7 i8
 | _ => L R 17 3 vs k

theorem stLp17_3 (m n : Nat) (R : Type) (r0 r1 r2 : Abs.Rows) (i3 : Int) (r4 r7 r5 : Abs.Rows) (i6 i8 : Int) (k : Ex → List V → Option R) : codeK Tryz.prog H (T72 m) 17 (L59 m) 4 (loopBody Tryz.prog 17 3) (mkEnv [1, 2, 3, 7, 13, 14, 15, 41, 42, 43] (W105 r0 r1 r2 i3 r4 r7 r5 i6 i8) 0 (H.len 17)) (fun e env' => match e with | .normal => ELp17_3 m R n (vals [1, 2, 3, 7, 13, 14, 15, 41, 42, 43] env') k | e => k e (vals [1, 2, 3, 7, 13, 14, 15, 41, 42, 43] env')) = Lp17_3_step m (fun r18 i19 => k (Ex.exit (0 : Nat)) (W105 r0 r1 r2 i3 r4 r18 r5 i6 i19)) r0 r1 r2 i3 r4 r5 i6 (fun r7 i8 => ELp17_3 m R n (W105 r0 r1 r2 i3 r4 r7 r5 i6 i8) k) r7 i8 := by kernel_rfl
theorem eqLp17_3 (m : Nat) (R : Type) (r0 r1 r2 : Abs.Rows) (i3 : Int) (r4 r5 : Abs.Rows) (i6 : Int) (k : Ex → List V → Option R) : ∀ (n : Nat) (r7 : Abs.Rows) (i8 : Int), ELp17_3 m R n (W105 r0 r1 r2 i3 r4 r7 r5 i6 i8) k = Lp17_3 m (fun r18 i19 => k (Ex.exit (0 : Nat)) (W105 r0 r1 r2 i3 r4 r18 r5 i6 i19)) r0 r1 r2 i3 r4 r5 i6 n r7 i8
 | 0, _, _ => rfl
 | n + 1, r7, i8 => by
  simp only [ELp17_3, Lp17_3, W105]
  congr 1
  funext r7 i8
  exact eqLp17_3 m R r0 r1 r2 i3 r4 r5 i6 k n r7 i8
noncomputable def L60 (m : Nat) : LTbl := addB 17 3 (brLp17_3 m (L59 m)) (L59 m)
theorem okL60 (m : Nat) : LTOk Tryz.prog H (L60 m) := addB_ok (okT72 m) hM (okL59 m) (l := [1, 2, 3, 7, 13, 14, 15, 41, 42, 43]) (by kernel_rfl) (by kernel_rfl) m (fun R n vs k => ELp17_3 m R n vs k) (fun R vs k => rfl) (fun R n vs k x h => by
   simp only [ELp17_3] at h
   split at h
   ·exact (stLp17_3 m n R _ _ _ _ _ _ _ _ _ k).trans h
   ·cases h) fun R vs k x h => by
  unfold brLp17_3 at h
  split at h
  ·exact .inl ((eqLp17_3 m R _ _ _ _ _ _ _ k m _ _).trans h)
  ·exact .inr h

/-- - -/
noncomputable def Fn17 {R : Type} (m : Nat) : Abs.Rows → Int → Abs.Rows → Abs.Rows → Abs.Rows → (Abs.Rows → Option R) → Option R := match m with
 | 0 => fun _ _ _ _ _ _ => none
 | m + 1 => fun r0 i1 r2 r3 r4 k =>
 Lp17_3 m (fun r5 i6 => k r5) r3 r4 r0 i1 r2 r4 ((↑(List.length r4) : Int)) m rows0 ((0 : Int))
noncomputable def brFn17 (m : Nat) (T : Tbl) (R : Type) (vs : List V) (k : V → List V → Option R) : Option R := match vs with
 | [.agg [.f (.lst [.str, .str, .int .i64, .int .i64, .int .i64, .int .i64] r0), .f (.lit (.int .i64 i1)), .f (.lst [.str] r2)], .bor [.str, .lst [.str]] r3, .bor [.str, .str, .str, .int .i64, .int .i64, .int .i64, .int .i64, .str] r4] => Fn17 m r0 i1 r2 r3 r4 (fun r7 => k (V.own [LT.int IntKind.i64] r7) W32)
 | _ => T R 17 vs k

theorem evFn17 (m : Nat) (R : Type) (r0 : Abs.Rows) (i1 : Int) (r2 r3 r4 : Abs.Rows) (k : V → List V → Option R) : runK Tryz.prog H (T72 m) (L60 m) 17 (W63 r0 i1 r2 r3 r4) k = Fn17 (m + 1) r0 i1 r2 r3 r4 (fun r7 => k (V.own [LT.int IntKind.i64] r7) W32) := by kernel_rfl
noncomputable def T73 (m : Nat) : Tbl := addT 17 (brFn17 m (T72 m)) (T72 m)
theorem okT73 (m : Nat) : TblOk Tryz.prog (T73 m) := addT_ok (okT72 m) fun R vs k x h => by
 unfold brFn17 at h
 split at h
 ·cases m with
  | zero => cases h
  | succ m => exact runK_some (okT72 m) hM (okL60 m) ((evFn17 m R _ _ _ _ _ k).trans h)
 ·exact okT72 m R 17 _ k x h

abbrev W106 (a0 a1 : Abs.Rows) (a2 : Bool) (a3 a4 : Int) : List V := [.bor [.str, .str, .str, .int .i64, .int .i64] a0, .bor [.str, .str, .str, .int .i64, .int .i64] a1, .f (.lit (.bool a2)), .f (.lit (.int .i64 a3)), .f (.lit (.int .i64 a4)), .undef, .undef]
/-- - -/
noncomputable def Lp18_5_step {R : Type} (m : Nat) (kx0 : Bool → Int → Option R) (kx1 : Int → Option R) (r0 r1 : Abs.Rows) (b2 : Bool) (i3 : Int) (REC : Int → Option R) (i4 : Int) : Option R :=
 bif decide (i4 < i3) then (bif decide ((0 : Int) ≤ i4 ∧ i4 < (↑(List.length r0) : Int)) then (bif decide ((0 : Int) ≤ i4 ∧ i4 < (↑(List.length r1) : Int)) then (bif !(fS r0 (Int.toNat i4) (0 : Nat) == fS r1 (Int.toNat i4) (0 : Nat) && (fS r0 (Int.toNat i4) (1 : Nat) == fS r1 (Int.toNat i4) (1 : Nat) && (fS r0 (Int.toNat i4) (2 : Nat) == fS r1 (Int.toNat i4) (2 : Nat) && (fI r0 (Int.toNat i4) (3 : Nat) == fI r1 (Int.toNat i4) (3 : Nat) && (fI r0 (Int.toNat i4) (4 : Nat) == fI r1 (Int.toNat i4) (4 : Nat) && true))))) then (kx0 false i4) else
 (REC (IntKind.wrap IntKind.i64 (i4 + (1 : Int))))) else
 (none)) else
 (none)) else
 (kx1 i4)
noncomputable def Lp18_5 {R : Type} (m : Nat) (kx0 : Bool → Int → Option R) (kx1 : Int → Option R) (r0 r1 : Abs.Rows) (b2 : Bool) (i3 : Int) : Nat → Int → Option R
 | 0, _ => none
 | n + 1, i4 => Lp18_5_step m kx0 kx1 r0 r1 b2 i3 (Lp18_5 m kx0 kx1 r0 r1 b2 i3 n) i4
noncomputable def ELp18_5 (m : Nat) (R : Type) : Nat → List V → (Ex → List V → Option R) → Option R
 | 0, _, _ => none
 | n + 1, vs, k => match vs with
  | [.bor [.str, .str, .str, .int .i64, .int .i64] r0, .bor [.str, .str, .str, .int .i64, .int .i64] r1, .f (.lit (.bool b2)), .f (.lit (.int .i64 i3)), .f (.lit (.int .i64 i4)), .undef, .undef] => Lp18_5_step m (fun b5 i6 => k Ex.ret (W106 r0 r1 b5 i3 i6)) (fun i7 => k (Ex.exit (0 : Nat)) (W106 r0 r1 b2 i3 i7)) r0 r1 b2 i3 (fun i4 => ELp18_5 m R n (W106 r0 r1 b2 i3 i4) k) i4
  | _ => none
noncomputable def brLp18_5 (m : Nat) (L : LTbl) (R : Type) (vs : List V) (k : Ex → List V → Option R) : Option R := match vs with
 | [.bor [.str, .str, .str, .int .i64, .int .i64] r0, .bor [.str, .str, .str, .int .i64, .int .i64] r1, .f (.lit (.bool b2)), .f (.lit (.int .i64 i3)), .f (.lit (.int .i64 i4)), .undef, .undef] => Lp18_5 m (fun b5 i6 => k Ex.ret (W106 r0 r1 b5 i3 i6)) (fun i7 => k (Ex.exit (0 : Nat)) (W106 r0 r1 b2 i3 i7)) r0 r1 b2 i3 m i4
 | _ => L R 18 5 vs k

theorem stLp18_5 (m n : Nat) (R : Type) (r0 r1 : Abs.Rows) (b2 : Bool) (i3 i4 : Int) (k : Ex → List V → Option R) : codeK Tryz.prog H (T73 m) 18 (L60 m) 6 (loopBody Tryz.prog 18 5) (mkEnv [0, 1, 4, 12, 13, 26, 27] (W106 r0 r1 b2 i3 i4) 0 (H.len 18)) (fun e env' => match e with | .normal => ELp18_5 m R n (vals [0, 1, 4, 12, 13, 26, 27] env') k | e => k e (vals [0, 1, 4, 12, 13, 26, 27] env')) = Lp18_5_step m (fun b5 i6 => k Ex.ret (W106 r0 r1 b5 i3 i6)) (fun i7 => k (Ex.exit (0 : Nat)) (W106 r0 r1 b2 i3 i7)) r0 r1 b2 i3 (fun i4 => ELp18_5 m R n (W106 r0 r1 b2 i3 i4) k) i4 := by kernel_rfl
theorem eqLp18_5 (m : Nat) (R : Type) (r0 r1 : Abs.Rows) (b2 : Bool) (i3 : Int) (k : Ex → List V → Option R) : ∀ (n : Nat) (i4 : Int), ELp18_5 m R n (W106 r0 r1 b2 i3 i4) k = Lp18_5 m (fun b5 i6 => k Ex.ret (W106 r0 r1 b5 i3 i6)) (fun i7 => k (Ex.exit (0 : Nat)) (W106 r0 r1 b2 i3 i7)) r0 r1 b2 i3 n i4
 | 0, _ => rfl
 | n + 1, i4 => by
  simp only [ELp18_5, Lp18_5, W106]
  congr 1
  funext i4
  exact eqLp18_5 m R r0 r1 b2 i3 k n i4
noncomputable def L61 (m : Nat) : LTbl := addB 18 5 (brLp18_5 m (L60 m)) (L60 m)
theorem okL61 (m : Nat) : LTOk Tryz.prog H (L61 m) := addB_ok (okT73 m) hM (okL60 m) (l := [0, 1, 4, 12, 13, 26, 27]) (by kernel_rfl) (by kernel_rfl) m (fun R n vs k => ELp18_5 m R n vs k) (fun R vs k => rfl) (fun R n vs k x h => by
   simp only [ELp18_5] at h
   split at h
   ·exact (stLp18_5 m n R _ _ _ _ _ k).trans h
   ·cases h) fun R vs k x h => by
  unfold brLp18_5 at h
  split at h
  ·exact .inl ((eqLp18_5 m R _ _ _ _ k m _).trans h)
  ·exact .inr h

abbrev W107 (a0 a1 : Abs.Rows) : List V := [.bor [.str, .str, .str, .int .i64, .int .i64] a0, .bor [.str, .str, .str, .int .i64, .int .i64] a1]
/-- - -/
noncomputable def Fn18 {R : Type} (m : Nat) : Abs.Rows → Abs.Rows → (Bool → Option R) → Option R := match m with
 | 0 => fun _ _ _ => none
 | m + 1 => fun r0 r1 k =>
 bif (↑(List.length r0) : Int) != (↑(List.length r1) : Int) then (k false) else
 (Lp18_5 m (fun b2 i3 => k b2) (fun i4 => k true) r0 r1 false ((↑(List.length r0) : Int)) m ((0 : Int)))
noncomputable def brFn18 (m : Nat) (T : Tbl) (R : Type) (vs : List V) (k : V → List V → Option R) : Option R := match vs with
 | [.bor [.str, .str, .str, .int .i64, .int .i64] r0, .bor [.str, .str, .str, .int .i64, .int .i64] r1] => Fn18 m r0 r1 (fun b5 => k (V.f (F.lit (Value.bool b5))) W1)
 | _ => T R 18 vs k

theorem evFn18 (m : Nat) (R : Type) (r0 r1 : Abs.Rows) (k : V → List V → Option R) : runK Tryz.prog H (T73 m) (L61 m) 18 (W107 r0 r1) k = Fn18 (m + 1) r0 r1 (fun b5 => k (V.f (F.lit (Value.bool b5))) W1) := by kernel_rfl
noncomputable def T74 (m : Nat) : Tbl := addT 18 (brFn18 m (T73 m)) (T73 m)
theorem okT74 (m : Nat) : TblOk Tryz.prog (T74 m) := addT_ok (okT73 m) fun R vs k x h => by
 unfold brFn18 at h
 split at h
 ·cases m with
  | zero => cases h
  | succ m => exact runK_some (okT73 m) hM (okL61 m) ((evFn18 m R _ _ k).trans h)
 ·exact okT73 m R 18 _ k x h

abbrev W108 (a0 a1 : Abs.Rows) (a2 : Bool) (a3 a4 : Int) : List V := [.bor [.str, .int .i64, .int .i64, .int .i64, .int .i64] a0, .bor [.str, .int .i64, .int .i64, .int .i64, .int .i64] a1, .f (.lit (.bool a2)), .f (.lit (.int .i64 a3)), .f (.lit (.int .i64 a4)), .undef, .undef]
/-- - -/
noncomputable def Lp19_5_step {R : Type} (m : Nat) (kx0 : Bool → Int → Option R) (kx1 : Int → Option R) (r0 r1 : Abs.Rows) (b2 : Bool) (i3 : Int) (REC : Int → Option R) (i4 : Int) : Option R :=
 bif decide (i4 < i3) then (bif decide ((0 : Int) ≤ i4 ∧ i4 < (↑(List.length r0) : Int)) then (bif decide ((0 : Int) ≤ i4 ∧ i4 < (↑(List.length r1) : Int)) then (bif !(fS r0 (Int.toNat i4) (0 : Nat) == fS r1 (Int.toNat i4) (0 : Nat) && (fI r0 (Int.toNat i4) (1 : Nat) == fI r1 (Int.toNat i4) (1 : Nat) && (fI r0 (Int.toNat i4) (2 : Nat) == fI r1 (Int.toNat i4) (2 : Nat) && (fI r0 (Int.toNat i4) (3 : Nat) == fI r1 (Int.toNat i4) (3 : Nat) && (fI r0 (Int.toNat i4) (4 : Nat) == fI r1 (Int.toNat i4) (4 : Nat) && true))))) then (kx0 false i4) else
 (REC (IntKind.wrap IntKind.i64 (i4 + (1 : Int))))) else
 (none)) else
 (none)) else
 (kx1 i4)
noncomputable def Lp19_5 {R : Type} (m : Nat) (kx0 : Bool → Int → Option R) (kx1 : Int → Option R) (r0 r1 : Abs.Rows) (b2 : Bool) (i3 : Int) : Nat → Int → Option R
 | 0, _ => none
 | n + 1, i4 => Lp19_5_step m kx0 kx1 r0 r1 b2 i3 (Lp19_5 m kx0 kx1 r0 r1 b2 i3 n) i4
noncomputable def ELp19_5 (m : Nat) (R : Type) : Nat → List V → (Ex → List V → Option R) → Option R
 | 0, _, _ => none
 | n + 1, vs, k => match vs with
  | [.bor [.str, .int .i64, .int .i64, .int .i64, .int .i64] r0, .bor [.str, .int .i64, .int .i64, .int .i64, .int .i64] r1, .f (.lit (.bool b2)), .f (.lit (.int .i64 i3)), .f (.lit (.int .i64 i4)), .undef, .undef] => Lp19_5_step m (fun b5 i6 => k Ex.ret (W108 r0 r1 b5 i3 i6)) (fun i7 => k (Ex.exit (0 : Nat)) (W108 r0 r1 b2 i3 i7)) r0 r1 b2 i3 (fun i4 => ELp19_5 m R n (W108 r0 r1 b2 i3 i4) k) i4
  | _ => none
noncomputable def brLp19_5 (m : Nat) (L : LTbl) (R : Type) (vs : List V) (k : Ex → List V → Option R) : Option R := match vs with
 | [.bor [.str, .int .i64, .int .i64, .int .i64, .int .i64] r0, .bor [.str, .int .i64, .int .i64, .int .i64, .int .i64] r1, .f (.lit (.bool b2)), .f (.lit (.int .i64 i3)), .f (.lit (.int .i64 i4)), .undef, .undef] => Lp19_5 m (fun b5 i6 => k Ex.ret (W108 r0 r1 b5 i3 i6)) (fun i7 => k (Ex.exit (0 : Nat)) (W108 r0 r1 b2 i3 i7)) r0 r1 b2 i3 m i4
 | _ => L R 19 5 vs k

theorem stLp19_5 (m n : Nat) (R : Type) (r0 r1 : Abs.Rows) (b2 : Bool) (i3 i4 : Int) (k : Ex → List V → Option R) : codeK Tryz.prog H (T74 m) 19 (L61 m) 6 (loopBody Tryz.prog 19 5) (mkEnv [0, 1, 4, 12, 13, 26, 27] (W108 r0 r1 b2 i3 i4) 0 (H.len 19)) (fun e env' => match e with | .normal => ELp19_5 m R n (vals [0, 1, 4, 12, 13, 26, 27] env') k | e => k e (vals [0, 1, 4, 12, 13, 26, 27] env')) = Lp19_5_step m (fun b5 i6 => k Ex.ret (W108 r0 r1 b5 i3 i6)) (fun i7 => k (Ex.exit (0 : Nat)) (W108 r0 r1 b2 i3 i7)) r0 r1 b2 i3 (fun i4 => ELp19_5 m R n (W108 r0 r1 b2 i3 i4) k) i4 := by kernel_rfl
theorem eqLp19_5 (m : Nat) (R : Type) (r0 r1 : Abs.Rows) (b2 : Bool) (i3 : Int) (k : Ex → List V → Option R) : ∀ (n : Nat) (i4 : Int), ELp19_5 m R n (W108 r0 r1 b2 i3 i4) k = Lp19_5 m (fun b5 i6 => k Ex.ret (W108 r0 r1 b5 i3 i6)) (fun i7 => k (Ex.exit (0 : Nat)) (W108 r0 r1 b2 i3 i7)) r0 r1 b2 i3 n i4
 | 0, _ => rfl
 | n + 1, i4 => by
  simp only [ELp19_5, Lp19_5, W108]
  congr 1
  funext i4
  exact eqLp19_5 m R r0 r1 b2 i3 k n i4
noncomputable def L62 (m : Nat) : LTbl := addB 19 5 (brLp19_5 m (L61 m)) (L61 m)
theorem okL62 (m : Nat) : LTOk Tryz.prog H (L62 m) := addB_ok (okT74 m) hM (okL61 m) (l := [0, 1, 4, 12, 13, 26, 27]) (by kernel_rfl) (by kernel_rfl) m (fun R n vs k => ELp19_5 m R n vs k) (fun R vs k => rfl) (fun R n vs k x h => by
   simp only [ELp19_5] at h
   split at h
   ·exact (stLp19_5 m n R _ _ _ _ _ k).trans h
   ·cases h) fun R vs k x h => by
  unfold brLp19_5 at h
  split at h
  ·exact .inl ((eqLp19_5 m R _ _ _ _ k m _).trans h)
  ·exact .inr h

abbrev W109 (a0 a1 : Abs.Rows) : List V := [.bor [.str, .int .i64, .int .i64, .int .i64, .int .i64] a0, .bor [.str, .int .i64, .int .i64, .int .i64, .int .i64] a1]
/-- - -/
noncomputable def Fn19 {R : Type} (m : Nat) : Abs.Rows → Abs.Rows → (Bool → Option R) → Option R := match m with
 | 0 => fun _ _ _ => none
 | m + 1 => fun r0 r1 k =>
 bif (↑(List.length r0) : Int) != (↑(List.length r1) : Int) then (k false) else
 (Lp19_5 m (fun b2 i3 => k b2) (fun i4 => k true) r0 r1 false ((↑(List.length r0) : Int)) m ((0 : Int)))
noncomputable def brFn19 (m : Nat) (T : Tbl) (R : Type) (vs : List V) (k : V → List V → Option R) : Option R := match vs with
 | [.bor [.str, .int .i64, .int .i64, .int .i64, .int .i64] r0, .bor [.str, .int .i64, .int .i64, .int .i64, .int .i64] r1] => Fn19 m r0 r1 (fun b5 => k (V.f (F.lit (Value.bool b5))) W1)
 | _ => T R 19 vs k

theorem evFn19 (m : Nat) (R : Type) (r0 r1 : Abs.Rows) (k : V → List V → Option R) : runK Tryz.prog H (T74 m) (L62 m) 19 (W109 r0 r1) k = Fn19 (m + 1) r0 r1 (fun b5 => k (V.f (F.lit (Value.bool b5))) W1) := by kernel_rfl
noncomputable def T75 (m : Nat) : Tbl := addT 19 (brFn19 m (T74 m)) (T74 m)
theorem okT75 (m : Nat) : TblOk Tryz.prog (T75 m) := addT_ok (okT74 m) fun R vs k x h => by
 unfold brFn19 at h
 split at h
 ·cases m with
  | zero => cases h
  | succ m => exact runK_some (okT74 m) hM (okL62 m) ((evFn19 m R _ _ k).trans h)
 ·exact okT74 m R 19 _ k x h

abbrev W110 (a0 a1 : Abs.Rows) (a2 : Bool) (a3 a4 : Int) : List V := [.bor [.int .i64] a0, .bor [.int .i64] a1, .f (.lit (.bool a2)), .f (.lit (.int .i64 a3)), .f (.lit (.int .i64 a4)), .undef, .undef]
/-- - -/
noncomputable def Lp20_5_step {R : Type} (m : Nat) (kx0 : Bool → Int → Option R) (kx1 : Int → Option R) (r0 r1 : Abs.Rows) (b2 : Bool) (i3 : Int) (REC : Int → Option R) (i4 : Int) : Option R :=
 bif decide (i4 < i3) then (bif decide ((0 : Int) ≤ i4 ∧ i4 < (↑(List.length r0) : Int)) then (bif decide ((0 : Int) ≤ i4 ∧ i4 < (↑(List.length r1) : Int)) then (bif fI r0 (Int.toNat i4) (0 : Nat) != fI r1 (Int.toNat i4) (0 : Nat) then (kx0 false i4) else
 (REC (IntKind.wrap IntKind.i64 (i4 + (1 : Int))))) else
 (none)) else
 (none)) else
 (kx1 i4)
noncomputable def Lp20_5 {R : Type} (m : Nat) (kx0 : Bool → Int → Option R) (kx1 : Int → Option R) (r0 r1 : Abs.Rows) (b2 : Bool) (i3 : Int) : Nat → Int → Option R
 | 0, _ => none
 | n + 1, i4 => Lp20_5_step m kx0 kx1 r0 r1 b2 i3 (Lp20_5 m kx0 kx1 r0 r1 b2 i3 n) i4
noncomputable def ELp20_5 (m : Nat) (R : Type) : Nat → List V → (Ex → List V → Option R) → Option R
 | 0, _, _ => none
 | n + 1, vs, k => match vs with
  | [.bor [.int .i64] r0, .bor [.int .i64] r1, .f (.lit (.bool b2)), .f (.lit (.int .i64 i3)), .f (.lit (.int .i64 i4)), .undef, .undef] => Lp20_5_step m (fun b5 i6 => k Ex.ret (W110 r0 r1 b5 i3 i6)) (fun i7 => k (Ex.exit (0 : Nat)) (W110 r0 r1 b2 i3 i7)) r0 r1 b2 i3 (fun i4 => ELp20_5 m R n (W110 r0 r1 b2 i3 i4) k) i4
  | _ => none
noncomputable def brLp20_5 (m : Nat) (L : LTbl) (R : Type) (vs : List V) (k : Ex → List V → Option R) : Option R := match vs with
 | [.bor [.int .i64] r0, .bor [.int .i64] r1, .f (.lit (.bool b2)), .f (.lit (.int .i64 i3)), .f (.lit (.int .i64 i4)), .undef, .undef] => Lp20_5 m (fun b5 i6 => k Ex.ret (W110 r0 r1 b5 i3 i6)) (fun i7 => k (Ex.exit (0 : Nat)) (W110 r0 r1 b2 i3 i7)) r0 r1 b2 i3 m i4
 | _ => L R 20 5 vs k

theorem stLp20_5 (m n : Nat) (R : Type) (r0 r1 : Abs.Rows) (b2 : Bool) (i3 i4 : Int) (k : Ex → List V → Option R) : codeK Tryz.prog H (T75 m) 20 (L62 m) 6 (loopBody Tryz.prog 20 5) (mkEnv [0, 1, 4, 12, 13, 26, 27] (W110 r0 r1 b2 i3 i4) 0 (H.len 20)) (fun e env' => match e with | .normal => ELp20_5 m R n (vals [0, 1, 4, 12, 13, 26, 27] env') k | e => k e (vals [0, 1, 4, 12, 13, 26, 27] env')) = Lp20_5_step m (fun b5 i6 => k Ex.ret (W110 r0 r1 b5 i3 i6)) (fun i7 => k (Ex.exit (0 : Nat)) (W110 r0 r1 b2 i3 i7)) r0 r1 b2 i3 (fun i4 => ELp20_5 m R n (W110 r0 r1 b2 i3 i4) k) i4 := by kernel_rfl
theorem eqLp20_5 (m : Nat) (R : Type) (r0 r1 : Abs.Rows) (b2 : Bool) (i3 : Int) (k : Ex → List V → Option R) : ∀ (n : Nat) (i4 : Int), ELp20_5 m R n (W110 r0 r1 b2 i3 i4) k = Lp20_5 m (fun b5 i6 => k Ex.ret (W110 r0 r1 b5 i3 i6)) (fun i7 => k (Ex.exit (0 : Nat)) (W110 r0 r1 b2 i3 i7)) r0 r1 b2 i3 n i4
 | 0, _ => rfl
 | n + 1, i4 => by
  simp only [ELp20_5, Lp20_5, W110]
  congr 1
  funext i4
  exact eqLp20_5 m R r0 r1 b2 i3 k n i4
noncomputable def L63 (m : Nat) : LTbl := addB 20 5 (brLp20_5 m (L62 m)) (L62 m)
theorem okL63 (m : Nat) : LTOk Tryz.prog H (L63 m) := addB_ok (okT75 m) hM (okL62 m) (l := [0, 1, 4, 12, 13, 26, 27]) (by kernel_rfl) (by kernel_rfl) m (fun R n vs k => ELp20_5 m R n vs k) (fun R vs k => rfl) (fun R n vs k x h => by
   simp only [ELp20_5] at h
   split at h
   ·exact (stLp20_5 m n R _ _ _ _ _ k).trans h
   ·cases h) fun R vs k x h => by
  unfold brLp20_5 at h
  split at h
  ·exact .inl ((eqLp20_5 m R _ _ _ _ k m _).trans h)
  ·exact .inr h

abbrev W111 (a0 a1 : Abs.Rows) : List V := [.bor [.int .i64] a0, .bor [.int .i64] a1]
/-- - -/
noncomputable def Fn20 {R : Type} (m : Nat) : Abs.Rows → Abs.Rows → (Bool → Option R) → Option R := match m with
 | 0 => fun _ _ _ => none
 | m + 1 => fun r0 r1 k =>
 bif (↑(List.length r0) : Int) != (↑(List.length r1) : Int) then (k false) else
 (Lp20_5 m (fun b2 i3 => k b2) (fun i4 => k true) r0 r1 false ((↑(List.length r0) : Int)) m ((0 : Int)))
noncomputable def brFn20 (m : Nat) (T : Tbl) (R : Type) (vs : List V) (k : V → List V → Option R) : Option R := match vs with
 | [.bor [.int .i64] r0, .bor [.int .i64] r1] => Fn20 m r0 r1 (fun b5 => k (V.f (F.lit (Value.bool b5))) W1)
 | _ => T R 20 vs k

theorem evFn20 (m : Nat) (R : Type) (r0 r1 : Abs.Rows) (k : V → List V → Option R) : runK Tryz.prog H (T75 m) (L63 m) 20 (W111 r0 r1) k = Fn20 (m + 1) r0 r1 (fun b5 => k (V.f (F.lit (Value.bool b5))) W1) := by kernel_rfl
noncomputable def T76 (m : Nat) : Tbl := addT 20 (brFn20 m (T75 m)) (T75 m)
theorem okT76 (m : Nat) : TblOk Tryz.prog (T76 m) := addT_ok (okT75 m) fun R vs k x h => by
 unfold brFn20 at h
 split at h
 ·cases m with
  | zero => cases h
  | succ m => exact runK_some (okT75 m) hM (okL63 m) ((evFn20 m R _ _ k).trans h)
 ·exact okT75 m R 20 _ k x h

abbrev W112 (a0 : Abs.Rows) (a1 : Int) (a2 : Abs.Rows) (a3 a4 : Int) (a5 a6 : ByteArray) (a7 a8 a9 a10 : Int) (a11 : Abs.Rows) (a12 a13 : Int) (a14 : Bool) : List V := [.obj [.bor [.str, .str, .int .i64, .int .i64, .int .i64, .int .i64] a0, .f (.lit (.int .i64 a1)), .bor [.str] a2], .f (.lit (.int .i64 a3)), .f (.lit (.int .i64 a4)), .obj [.f (.lit (.string a5)), .f (.lit (.string a6)), .f (.lit (.int .i64 a7)), .f (.lit (.int .i64 a8)), .f (.lit (.int .i64 a9)), .f (.lit (.int .i64 a10))], .ref 1 0, .bor [.str, .str, .int .i64, .int .i64, .int .i64, .int .i64] a11, .f (.lit (.int .i64 a12)), .f (.lit (.int .i64 a13)), .f (.lit (.bool a14)), .undef]
/-- - -/
noncomputable def Jn82_13v1 {R : Type} (m : Nat) (kx0 : Int → Bool → Option R) (kx1 : Bool → Option R) (r0 : Abs.Rows) (i1 : Int) (r2 : Abs.Rows) (i3 i4 : Int) (s5 s6 : ByteArray) (i7 i8 i9 i10 : Int) (r11 : Abs.Rows) (i12 i13 : Int) (b14 : Bool) : Option R :=
 bif b14 then (kx0 ((1 : Int)) true) else
 (bif decide (i4 > (0 : Int)) then (bif decide ((0 : Int) ≤ IntKind.wrap IntKind.i64 (i4 - (1 : Int)) ∧ IntKind.wrap IntKind.i64 (i4 - (1 : Int)) < (↑(List.length r0) : Int)) then (bif Op.bytesLess (ByteArray.toList s5) (ByteArray.toList (fS r0 (Int.toNat (IntKind.wrap IntKind.i64 (i4 - (1 : Int)))) (0 : Nat))) || ByteArray.toList s5 == ByteArray.toList (fS r0 (Int.toNat (IntKind.wrap IntKind.i64 (i4 - (1 : Int)))) (0 : Nat)) then (kx0 ((7 : Int)) false) else
 (kx1 false)) else
 (none)) else
 (kx1 false))
noncomputable def brJn82_13v1 (m : Nat) (L : LTbl) (R : Type) (vs : List V) (k : Ex → List V → Option R) : Option R := match vs with
 | [.obj [.bor [.str, .str, .int .i64, .int .i64, .int .i64, .int .i64] r0, .f (.lit (.int .i64 i1)), .bor [.str] r2], .f (.lit (.int .i64 i3)), .f (.lit (.int .i64 i4)), .obj [.f (.lit (.string s5)), .f (.lit (.string s6)), .f (.lit (.int .i64 i7)), .f (.lit (.int .i64 i8)), .f (.lit (.int .i64 i9)), .f (.lit (.int .i64 i10))], .ref 1 0, .bor [.str, .str, .int .i64, .int .i64, .int .i64, .int .i64] r11, .f (.lit (.int .i64 i12)), .f (.lit (.int .i64 i13)), .f (.lit (.bool b14)), .undef] => Jn82_13v1 m (fun i15 b16 => k Ex.ret (W112 r0 i1 r2 i15 i4 s5 s6 i7 i8 i9 i10 r11 i12 i13 b16)) (fun b17 => k Ex.normal (W112 r0 i1 r2 i3 i4 s5 s6 i7 i8 i9 i10 r11 i12 i13 b17)) r0 i1 r2 i3 i4 s5 s6 i7 i8 i9 i10 r11 i12 i13 b14
 | _ => L R 82 13 vs k

theorem evJn82_13v1 (m : Nat) (R : Type) (r0 : Abs.Rows) (i1 : Int) (r2 : Abs.Rows) (i3 i4 : Int) (s5 s6 : ByteArray) (i7 i8 i9 i10 : Int) (r11 : Abs.Rows) (i12 i13 : Int) (b14 : Bool) (k : Ex → List V → Option R) : codeK Tryz.prog H (T76 m) 82 (L63 m) 14 (loopBody Tryz.prog 82 13) (mkEnv [1, 2, 3, 4, 11, 12, 13, 14, 29, 100] (W112 r0 i1 r2 i3 i4 s5 s6 i7 i8 i9 i10 r11 i12 i13 b14) 0 (H.len 82)) (fun e env' => k e (vals [1, 2, 3, 4, 11, 12, 13, 14, 29, 100] env')) = Jn82_13v1 m (fun i15 b16 => k Ex.ret (W112 r0 i1 r2 i15 i4 s5 s6 i7 i8 i9 i10 r11 i12 i13 b16)) (fun b17 => k Ex.normal (W112 r0 i1 r2 i3 i4 s5 s6 i7 i8 i9 i10 r11 i12 i13 b17)) r0 i1 r2 i3 i4 s5 s6 i7 i8 i9 i10 r11 i12 i13 b14 := by kernel_rfl
noncomputable def L64 (m : Nat) : LTbl := addJ 82 13 (brJn82_13v1 m (L63 m)) (L63 m)
theorem okL64 (m : Nat) : LTOk Tryz.prog H (L64 m) := addJ_ok (okT76 m) hM (okL63 m) (l := [1, 2, 3, 4, 11, 12, 13, 14, 29, 100]) (by kernel_rfl) (by kernel_rfl) fun R vs k x h => by
  unfold brJn82_13v1 at h
  split at h
  ·exact .inl ((evJn82_13v1 m R _ _ _ _ _ _ _ _ _ _ _ _ _ _ _ k).trans h)
  ·exact .inr h

abbrev W113 (a0 : Abs.Rows) (a1 : Int) (a2 : Abs.Rows) (a3 : Int) (a4 : Abs.Rows) (a5 a6 : Int) : List V := [.obj [.bor [.str, .str, .int .i64, .int .i64, .int .i64, .int .i64] a0, .f (.lit (.int .i64 a1)), .bor [.str] a2], .f (.lit (.int .i64 a3)), .ref 1 0, .bor [.str, .str, .int .i64, .int .i64, .int .i64, .int .i64] a4, .f (.lit (.int .i64 a5)), .f (.lit (.int .i64 a6)), .undef]
/-- - -/
noncomputable def Lp82_5v1_step {R : Type} (m : Nat) (kx0 : Int → Int → Option R) (kx1 : Int → Option R) (r0 : Abs.Rows) (i1 : Int) (r2 : Abs.Rows) (i3 : Int) (r4 : Abs.Rows) (i5 : Int) (REC : Int → Option R) (i6 : Int) : Option R :=
 bif decide (i6 < i5) then (bif decide ((0 : Int) ≤ i6 ∧ i6 < (↑(List.length r4) : Int)) then (Fn122 m (fS r4 (Int.toNat i6) (0 : Nat)) (fun b7 => bif !b7 then (kx0 ((3 : Int)) i6) else
 (Fn74 m (fS r4 (Int.toNat i6) (1 : Nat)) (fun b8 => bif !b8 then (kx0 ((5 : Int)) i6) else
 (Fn75 m (fI r4 (Int.toNat i6) (2 : Nat)) ((0 : Int)) ((1000000 : Int)) (fun b9 => bif !b9 then (Jn82_13v1 m (fun i10 b11 => kx0 i10 i6) (fun b12 => REC (IntKind.wrap IntKind.i64 (i6 + (1 : Int)))) r0 i1 r2 i3 i6 (fS r4 (Int.toNat i6) (0 : Nat)) (fS r4 (Int.toNat i6) (1 : Nat)) (fI r4 (Int.toNat i6) (2 : Nat)) (fI r4 (Int.toNat i6) (3 : Nat)) (fI r4 (Int.toNat i6) (4 : Nat)) (fI r4 (Int.toNat i6) (5 : Nat)) r4 i5 i6 true) else
 (Fn75 m (fI r4 (Int.toNat i6) (5 : Nat)) ((0 : Int)) ((1000000 : Int)) (fun b13 => bif !b13 then (Jn82_13v1 m (fun i14 b15 => kx0 i14 i6) (fun b16 => REC (IntKind.wrap IntKind.i64 (i6 + (1 : Int)))) r0 i1 r2 i3 i6 (fS r4 (Int.toNat i6) (0 : Nat)) (fS r4 (Int.toNat i6) (1 : Nat)) (fI r4 (Int.toNat i6) (2 : Nat)) (fI r4 (Int.toNat i6) (3 : Nat)) (fI r4 (Int.toNat i6) (4 : Nat)) (fI r4 (Int.toNat i6) (5 : Nat)) r4 i5 i6 true) else
 (Fn75 m (fI r4 (Int.toNat i6) (3 : Nat)) ((0 : Int)) ((86400000 : Int)) (fun b17 => bif !b17 then (Jn82_13v1 m (fun i18 b19 => kx0 i18 i6) (fun b20 => REC (IntKind.wrap IntKind.i64 (i6 + (1 : Int)))) r0 i1 r2 i3 i6 (fS r4 (Int.toNat i6) (0 : Nat)) (fS r4 (Int.toNat i6) (1 : Nat)) (fI r4 (Int.toNat i6) (2 : Nat)) (fI r4 (Int.toNat i6) (3 : Nat)) (fI r4 (Int.toNat i6) (4 : Nat)) (fI r4 (Int.toNat i6) (5 : Nat)) r4 i5 i6 true) else
 (Fn75 m (fI r4 (Int.toNat i6) (4 : Nat)) ((1 : Int)) ((86400000 : Int)) (fun b21 => Jn82_13v1 m (fun i22 b23 => kx0 i22 i6) (fun b24 => REC (IntKind.wrap IntKind.i64 (i6 + (1 : Int)))) r0 i1 r2 i3 i6 (fS r4 (Int.toNat i6) (0 : Nat)) (fS r4 (Int.toNat i6) (1 : Nat)) (fI r4 (Int.toNat i6) (2 : Nat)) (fI r4 (Int.toNat i6) (3 : Nat)) (fI r4 (Int.toNat i6) (4 : Nat)) (fI r4 (Int.toNat i6) (5 : Nat)) r4 i5 i6 (!b21))))))))))))) else
 (none)) else
 (kx1 i6)
noncomputable def Lp82_5v1 {R : Type} (m : Nat) (kx0 : Int → Int → Option R) (kx1 : Int → Option R) (r0 : Abs.Rows) (i1 : Int) (r2 : Abs.Rows) (i3 : Int) (r4 : Abs.Rows) (i5 : Int) : Nat → Int → Option R
 | 0, _ => none
 | n + 1, i6 => Lp82_5v1_step m kx0 kx1 r0 i1 r2 i3 r4 i5 (Lp82_5v1 m kx0 kx1 r0 i1 r2 i3 r4 i5 n) i6
noncomputable def ELp82_5v1 (m : Nat) (R : Type) : Nat → List V → (Ex → List V → Option R) → Option R
 | 0, _, _ => none
 | n + 1, vs, k => match vs with
  | [.obj [.bor [.str, .str, .int .i64, .int .i64, .int .i64, .int .i64] r0, .f (.lit (.int .i64 i1)), .bor [.str] r2], .f (.lit (.int .i64 i3)), .ref 1 0, .bor [.str, .str, .int .i64, .int .i64, .int .i64, .int .i64] r4, .f (.lit (.int .i64 i5)), .f (.lit (.int .i64 i6)), .undef] => Lp82_5v1_step m (fun i25 i26 => k Ex.ret (W113 r0 i1 r2 i25 r4 i5 i26)) (fun i27 => k (Ex.exit (0 : Nat)) (W113 r0 i1 r2 i3 r4 i5 i27)) r0 i1 r2 i3 r4 i5 (fun i6 => ELp82_5v1 m R n (W113 r0 i1 r2 i3 r4 i5 i6) k) i6
  | _ => none
noncomputable def brLp82_5v1 (m : Nat) (L : LTbl) (R : Type) (vs : List V) (k : Ex → List V → Option R) : Option R := match vs with
 | [.obj [.bor [.str, .str, .int .i64, .int .i64, .int .i64, .int .i64] r0, .f (.lit (.int .i64 i1)), .bor [.str] r2], .f (.lit (.int .i64 i3)), .ref 1 0, .bor [.str, .str, .int .i64, .int .i64, .int .i64, .int .i64] r4, .f (.lit (.int .i64 i5)), .f (.lit (.int .i64 i6)), .undef] => Lp82_5v1 m (fun i25 i26 => k Ex.ret (W113 r0 i1 r2 i25 r4 i5 i26)) (fun i27 => k (Ex.exit (0 : Nat)) (W113 r0 i1 r2 i3 r4 i5 i27)) r0 i1 r2 i3 r4 i5 m i6
 | _ => L R 82 5 vs k

theorem stLp82_5v1 (m n : Nat) (R : Type) (r0 : Abs.Rows) (i1 : Int) (r2 : Abs.Rows) (i3 : Int) (r4 : Abs.Rows) (i5 i6 : Int) (k : Ex → List V → Option R) : codeK Tryz.prog H (T76 m) 82 (L64 m) 6 (loopBody Tryz.prog 82 5) (mkEnv [1, 2, 11, 12, 13, 14, 100] (W113 r0 i1 r2 i3 r4 i5 i6) 0 (H.len 82)) (fun e env' => match e with | .normal => ELp82_5v1 m R n (vals [1, 2, 11, 12, 13, 14, 100] env') k | e => k e (vals [1, 2, 11, 12, 13, 14, 100] env')) = Lp82_5v1_step m (fun i25 i26 => k Ex.ret (W113 r0 i1 r2 i25 r4 i5 i26)) (fun i27 => k (Ex.exit (0 : Nat)) (W113 r0 i1 r2 i3 r4 i5 i27)) r0 i1 r2 i3 r4 i5 (fun i6 => ELp82_5v1 m R n (W113 r0 i1 r2 i3 r4 i5 i6) k) i6 := by kernel_rfl
theorem eqLp82_5v1 (m : Nat) (R : Type) (r0 : Abs.Rows) (i1 : Int) (r2 : Abs.Rows) (i3 : Int) (r4 : Abs.Rows) (i5 : Int) (k : Ex → List V → Option R) : ∀ (n : Nat) (i6 : Int), ELp82_5v1 m R n (W113 r0 i1 r2 i3 r4 i5 i6) k = Lp82_5v1 m (fun i25 i26 => k Ex.ret (W113 r0 i1 r2 i25 r4 i5 i26)) (fun i27 => k (Ex.exit (0 : Nat)) (W113 r0 i1 r2 i3 r4 i5 i27)) r0 i1 r2 i3 r4 i5 n i6
 | 0, _ => rfl
 | n + 1, i6 => by
  simp only [ELp82_5v1, Lp82_5v1, W113]
  congr 1
  funext i6
  exact eqLp82_5v1 m R r0 i1 r2 i3 r4 i5 k n i6
noncomputable def L65 (m : Nat) : LTbl := addB 82 5 (brLp82_5v1 m (L64 m)) (L64 m)
theorem okL65 (m : Nat) : LTOk Tryz.prog H (L65 m) := addB_ok (okT76 m) hM (okL64 m) (l := [1, 2, 11, 12, 13, 14, 100]) (by kernel_rfl) (by kernel_rfl) m (fun R n vs k => ELp82_5v1 m R n vs k) (fun R vs k => rfl) (fun R n vs k x h => by
   simp only [ELp82_5v1] at h
   split at h
   ·exact (stLp82_5v1 m n R _ _ _ _ _ _ _ k).trans h
   ·cases h) fun R vs k x h => by
  unfold brLp82_5v1 at h
  split at h
  ·exact .inl ((eqLp82_5v1 m R _ _ _ _ _ _ k m _).trans h)
  ·exact .inr h

abbrev W114 (a0 : Abs.Rows) (a1 : Int) (a2 : Abs.Rows) (a3 : Int) (a4 : Abs.Rows) (a5 a6 : Int) : List V := [.obj [.bor [.str, .str, .int .i64, .int .i64, .int .i64, .int .i64] a0, .f (.lit (.int .i64 a1)), .bor [.str] a2], .f (.lit (.int .i64 a3)), .ref 1 2, .bor [.str] a4, .f (.lit (.int .i64 a5)), .f (.lit (.int .i64 a6)), .undef]
/-- - -/
noncomputable def Lp82_26v1_step {R : Type} (m : Nat) (kx0 : Int → Int → Option R) (kx1 : Int → Option R) (r0 : Abs.Rows) (i1 : Int) (r2 : Abs.Rows) (i3 : Int) (r4 : Abs.Rows) (i5 : Int) (REC : Int → Option R) (i6 : Int) : Option R :=
 bif decide (i6 < i5) then (bif decide ((0 : Int) ≤ i6 ∧ i6 < (↑(List.length r4) : Int)) then (Fn74 m (fS r4 (Int.toNat i6) (0 : Nat)) (fun b7 => bif !b7 then (kx0 ((5 : Int)) i6) else
 (bif decide (i6 > (0 : Int)) then (bif decide ((0 : Int) ≤ IntKind.wrap IntKind.i64 (i6 - (1 : Int)) ∧ IntKind.wrap IntKind.i64 (i6 - (1 : Int)) < (↑(List.length r2) : Int)) then (bif Op.bytesLess (ByteArray.toList (fS r4 (Int.toNat i6) (0 : Nat))) (ByteArray.toList (fS r2 (Int.toNat (IntKind.wrap IntKind.i64 (i6 - (1 : Int)))) (0 : Nat))) || ByteArray.toList (fS r4 (Int.toNat i6) (0 : Nat)) == ByteArray.toList (fS r2 (Int.toNat (IntKind.wrap IntKind.i64 (i6 - (1 : Int)))) (0 : Nat)) then (kx0 ((7 : Int)) i6) else
 (REC (IntKind.wrap IntKind.i64 (i6 + (1 : Int))))) else
 (none)) else
 (REC (IntKind.wrap IntKind.i64 (i6 + (1 : Int))))))) else
 (none)) else
 (kx1 i6)
noncomputable def Lp82_26v1 {R : Type} (m : Nat) (kx0 : Int → Int → Option R) (kx1 : Int → Option R) (r0 : Abs.Rows) (i1 : Int) (r2 : Abs.Rows) (i3 : Int) (r4 : Abs.Rows) (i5 : Int) : Nat → Int → Option R
 | 0, _ => none
 | n + 1, i6 => Lp82_26v1_step m kx0 kx1 r0 i1 r2 i3 r4 i5 (Lp82_26v1 m kx0 kx1 r0 i1 r2 i3 r4 i5 n) i6
noncomputable def ELp82_26v1 (m : Nat) (R : Type) : Nat → List V → (Ex → List V → Option R) → Option R
 | 0, _, _ => none
 | n + 1, vs, k => match vs with
  | [.obj [.bor [.str, .str, .int .i64, .int .i64, .int .i64, .int .i64] r0, .f (.lit (.int .i64 i1)), .bor [.str] r2], .f (.lit (.int .i64 i3)), .ref 1 2, .bor [.str] r4, .f (.lit (.int .i64 i5)), .f (.lit (.int .i64 i6)), .undef] => Lp82_26v1_step m (fun i8 i9 => k Ex.ret (W114 r0 i1 r2 i8 r4 i5 i9)) (fun i10 => k (Ex.exit (3 : Nat)) (W114 r0 i1 r2 i3 r4 i5 i10)) r0 i1 r2 i3 r4 i5 (fun i6 => ELp82_26v1 m R n (W114 r0 i1 r2 i3 r4 i5 i6) k) i6
  | _ => none
noncomputable def brLp82_26v1 (m : Nat) (L : LTbl) (R : Type) (vs : List V) (k : Ex → List V → Option R) : Option R := match vs with
 | [.obj [.bor [.str, .str, .int .i64, .int .i64, .int .i64, .int .i64] r0, .f (.lit (.int .i64 i1)), .bor [.str] r2], .f (.lit (.int .i64 i3)), .ref 1 2, .bor [.str] r4, .f (.lit (.int .i64 i5)), .f (.lit (.int .i64 i6)), .undef] => Lp82_26v1 m (fun i8 i9 => k Ex.ret (W114 r0 i1 r2 i8 r4 i5 i9)) (fun i10 => k (Ex.exit (3 : Nat)) (W114 r0 i1 r2 i3 r4 i5 i10)) r0 i1 r2 i3 r4 i5 m i6
 | _ => L R 82 26 vs k

theorem stLp82_26v1 (m n : Nat) (R : Type) (r0 : Abs.Rows) (i1 : Int) (r2 : Abs.Rows) (i3 : Int) (r4 : Abs.Rows) (i5 i6 : Int) (k : Ex → List V → Option R) : codeK Tryz.prog H (T76 m) 82 (L65 m) 27 (loopBody Tryz.prog 82 26) (mkEnv [1, 2, 76, 77, 78, 79, 100] (W114 r0 i1 r2 i3 r4 i5 i6) 0 (H.len 82)) (fun e env' => match e with | .normal => ELp82_26v1 m R n (vals [1, 2, 76, 77, 78, 79, 100] env') k | e => k e (vals [1, 2, 76, 77, 78, 79, 100] env')) = Lp82_26v1_step m (fun i8 i9 => k Ex.ret (W114 r0 i1 r2 i8 r4 i5 i9)) (fun i10 => k (Ex.exit (3 : Nat)) (W114 r0 i1 r2 i3 r4 i5 i10)) r0 i1 r2 i3 r4 i5 (fun i6 => ELp82_26v1 m R n (W114 r0 i1 r2 i3 r4 i5 i6) k) i6 := by kernel_rfl
theorem eqLp82_26v1 (m : Nat) (R : Type) (r0 : Abs.Rows) (i1 : Int) (r2 : Abs.Rows) (i3 : Int) (r4 : Abs.Rows) (i5 : Int) (k : Ex → List V → Option R) : ∀ (n : Nat) (i6 : Int), ELp82_26v1 m R n (W114 r0 i1 r2 i3 r4 i5 i6) k = Lp82_26v1 m (fun i8 i9 => k Ex.ret (W114 r0 i1 r2 i8 r4 i5 i9)) (fun i10 => k (Ex.exit (3 : Nat)) (W114 r0 i1 r2 i3 r4 i5 i10)) r0 i1 r2 i3 r4 i5 n i6
 | 0, _ => rfl
 | n + 1, i6 => by
  simp only [ELp82_26v1, Lp82_26v1, W114]
  congr 1
  funext i6
  exact eqLp82_26v1 m R r0 i1 r2 i3 r4 i5 k n i6
noncomputable def L66 (m : Nat) : LTbl := addB 82 26 (brLp82_26v1 m (L65 m)) (L65 m)
theorem okL66 (m : Nat) : LTOk Tryz.prog H (L66 m) := addB_ok (okT76 m) hM (okL65 m) (l := [1, 2, 76, 77, 78, 79, 100]) (by kernel_rfl) (by kernel_rfl) m (fun R n vs k => ELp82_26v1 m R n vs k) (fun R vs k => rfl) (fun R n vs k x h => by
   simp only [ELp82_26v1] at h
   split at h
   ·exact (stLp82_26v1 m n R _ _ _ _ _ _ _ k).trans h
   ·cases h) fun R vs k x h => by
  unfold brLp82_26v1 at h
  split at h
  ·exact .inl ((eqLp82_26v1 m R _ _ _ _ _ _ k m _).trans h)
  ·exact .inr h

abbrev W115 (a0 : Abs.Rows) (a1 : Int) (a2 : Abs.Rows) : List V := [.agg [.bor [.str, .str, .int .i64, .int .i64, .int .i64, .int .i64] a0, .f (.lit (.int .i64 a1)), .bor [.str] a2]]
/-- - -/
noncomputable def Fn82v1 {R : Type} (m : Nat) : Abs.Rows → Int → Abs.Rows → (Int → Option R) → Option R := match m with
 | 0 => fun _ _ _ _ => none
 | m + 1 => fun r0 i1 r2 k =>
 bif decide ((↑(List.length r0) : Int) > (200 : Int)) then (k ((2 : Int))) else
 (Lp82_5v1 m (fun i3 i4 => k i3) (fun i5 => Fn75 m i1 ((0 : Int)) ((2592000000 : Int)) (fun b6 => bif !b6 then (k ((1 : Int))) else
 (bif decide ((↑(List.length r2) : Int) > (200 : Int)) then (k ((2 : Int))) else
 (Lp82_26v1 m (fun i7 i8 => k i7) (fun i9 => k ((0 : Int))) r0 i1 r2 ((0 : Int)) r2 ((↑(List.length r2) : Int)) m ((0 : Int)))))) r0 i1 r2 ((0 : Int)) r0 ((↑(List.length r0) : Int)) m ((0 : Int)))
noncomputable def brFn82v1 (m : Nat) (T : Tbl) (R : Type) (vs : List V) (k : V → List V → Option R) : Option R := match vs with
 | [.agg [.bor [.str, .str, .int .i64, .int .i64, .int .i64, .int .i64] r0, .f (.lit (.int .i64 i1)), .bor [.str] r2]] => Fn82v1 m r0 i1 r2 (fun i10 => k (V.f (F.lit (Value.int IntKind.i64 i10))) W17)
 | _ => T R 82 vs k

theorem evFn82v1 (m : Nat) (R : Type) (r0 : Abs.Rows) (i1 : Int) (r2 : Abs.Rows) (k : V → List V → Option R) : runK Tryz.prog H (T76 m) (L66 m) 82 (W115 r0 i1 r2) k = Fn82v1 (m + 1) r0 i1 r2 (fun i10 => k (V.f (F.lit (Value.int IntKind.i64 i10))) W17) := by kernel_rfl
noncomputable def T77 (m : Nat) : Tbl := addT 82 (brFn82v1 m (T76 m)) (T76 m)
theorem okT77 (m : Nat) : TblOk Tryz.prog (T77 m) := addT_ok (okT76 m) fun R vs k x h => by
 unfold brFn82v1 at h
 split at h
 ·cases m with
  | zero => cases h
  | succ m => exact runK_some (okT76 m) hM (okL66 m) ((evFn82v1 m R _ _ _ k).trans h)
 ·exact okT76 m R 82 _ k x h

abbrev W116 (a0 : Abs.Rows) (a1 : ByteArray) (a2 a3 a4 : Int) : List V := [.bor [.str, .str, .int .i64, .int .i64, .int .i64, .int .i64] a0, .f (.lit (.string a1)), .clos 113 [], .f (.lit (.int .i64 a2)), .f (.lit (.int .i64 a3)), .f (.lit (.int .i64 a4)), .undef, .undef, .undef]
/-- - -/
noncomputable def Lp112_3v1_step {R : Type} (m : Nat) (kx0 : Int → Int → Option R) (r0 : Abs.Rows) (s1 : ByteArray) (i2 : Int) (REC : Int → Int → Option R) (i3 i4 : Int) : Option R :=
 bif decide (i3 < i4) then (bif decide ((0 : Int) ≤ IntKind.wrap IntKind.i64 (Int.fdiv (IntKind.wrap IntKind.u64 (IntKind.wrap IntKind.i64 (i3 + i4))) ((2 : Int) ^ min (Int.toNat (1 : Int)) (64 : Nat))) ∧ IntKind.wrap IntKind.i64 (Int.fdiv (IntKind.wrap IntKind.u64 (IntKind.wrap IntKind.i64 (i3 + i4))) ((2 : Int) ^ min (Int.toNat (1 : Int)) (64 : Nat))) < (↑(List.length r0) : Int)) then (Fn113 m (fS r0 (Int.toNat (IntKind.wrap IntKind.i64 (Int.fdiv (IntKind.wrap IntKind.u64 (IntKind.wrap IntKind.i64 (i3 + i4))) ((2 : Int) ^ min (Int.toNat (1 : Int)) (64 : Nat))))) (0 : Nat)) (fS r0 (Int.toNat (IntKind.wrap IntKind.i64 (Int.fdiv (IntKind.wrap IntKind.u64 (IntKind.wrap IntKind.i64 (i3 + i4))) ((2 : Int) ^ min (Int.toNat (1 : Int)) (64 : Nat))))) (1 : Nat)) (fI r0 (Int.toNat (IntKind.wrap IntKind.i64 (Int.fdiv (IntKind.wrap IntKind.u64 (IntKind.wrap IntKind.i64 (i3 + i4))) ((2 : Int) ^ min (Int.toNat (1 : Int)) (64 : Nat))))) (2 : Nat)) (fI r0 (Int.toNat (IntKind.wrap IntKind.i64 (Int.fdiv (IntKind.wrap IntKind.u64 (IntKind.wrap IntKind.i64 (i3 + i4))) ((2 : Int) ^ min (Int.toNat (1 : Int)) (64 : Nat))))) (3 : Nat)) (fI r0 (Int.toNat (IntKind.wrap IntKind.i64 (Int.fdiv (IntKind.wrap IntKind.u64 (IntKind.wrap IntKind.i64 (i3 + i4))) ((2 : Int) ^ min (Int.toNat (1 : Int)) (64 : Nat))))) (4 : Nat)) (fI r0 (Int.toNat (IntKind.wrap IntKind.i64 (Int.fdiv (IntKind.wrap IntKind.u64 (IntKind.wrap IntKind.i64 (i3 + i4))) ((2 : Int) ^ min (Int.toNat (1 : Int)) (64 : Nat))))) (5 : Nat)) s1 (fun i5 => bif decide (i5 < (0 : Int)) then (REC (IntKind.wrap IntKind.i64 (IntKind.wrap IntKind.i64 (Int.fdiv (IntKind.wrap IntKind.u64 (IntKind.wrap IntKind.i64 (i3 + i4))) ((2 : Int) ^ min (Int.toNat (1 : Int)) (64 : Nat))) + (1 : Int))) i4) else
 (REC i3 (IntKind.wrap IntKind.i64 (Int.fdiv (IntKind.wrap IntKind.u64 (IntKind.wrap IntKind.i64 (i3 + i4))) ((2 : Int) ^ min (Int.toNat (1 : Int)) (64 : Nat))))))) else
 (none)) else
 (kx0 i3 i4)
noncomputable def Lp112_3v1 {R : Type} (m : Nat) (kx0 : Int → Int → Option R) (r0 : Abs.Rows) (s1 : ByteArray) (i2 : Int) : Nat → Int → Int → Option R
 | 0, _, _ => none
 | n + 1, i3, i4 => Lp112_3v1_step m kx0 r0 s1 i2 (Lp112_3v1 m kx0 r0 s1 i2 n) i3 i4
noncomputable def ELp112_3v1 (m : Nat) (R : Type) : Nat → List V → (Ex → List V → Option R) → Option R
 | 0, _, _ => none
 | n + 1, vs, k => match vs with
  | [.bor [.str, .str, .int .i64, .int .i64, .int .i64, .int .i64] r0, .f (.lit (.string s1)), .clos 113 [], .f (.lit (.int .i64 i2)), .f (.lit (.int .i64 i3)), .f (.lit (.int .i64 i4)), .undef, .undef, .undef] => Lp112_3v1_step m (fun i6 i7 => k (Ex.exit (0 : Nat)) (W116 r0 s1 i2 i6 i7)) r0 s1 i2 (fun i3 i4 => ELp112_3v1 m R n (W116 r0 s1 i2 i3 i4) k) i3 i4
  | _ => none
noncomputable def brLp112_3v1 (m : Nat) (L : LTbl) (R : Type) (vs : List V) (k : Ex → List V → Option R) : Option R := match vs with
 | [.bor [.str, .str, .int .i64, .int .i64, .int .i64, .int .i64] r0, .f (.lit (.string s1)), .clos 113 [], .f (.lit (.int .i64 i2)), .f (.lit (.int .i64 i3)), .f (.lit (.int .i64 i4)), .undef, .undef, .undef] => Lp112_3v1 m (fun i6 i7 => k (Ex.exit (0 : Nat)) (W116 r0 s1 i2 i6 i7)) r0 s1 i2 m i3 i4
 | _ => L R 112 3 vs k

theorem stLp112_3v1 (m n : Nat) (R : Type) (r0 : Abs.Rows) (s1 : ByteArray) (i2 i3 i4 : Int) (k : Ex → List V → Option R) : codeK Tryz.prog H (T77 m) 112 (L66 m) 4 (loopBody Tryz.prog 112 3) (mkEnv [0, 1, 2, 8, 9, 10, 49, 50, 51] (W116 r0 s1 i2 i3 i4) 0 (H.len 112)) (fun e env' => match e with | .normal => ELp112_3v1 m R n (vals [0, 1, 2, 8, 9, 10, 49, 50, 51] env') k | e => k e (vals [0, 1, 2, 8, 9, 10, 49, 50, 51] env')) = Lp112_3v1_step m (fun i6 i7 => k (Ex.exit (0 : Nat)) (W116 r0 s1 i2 i6 i7)) r0 s1 i2 (fun i3 i4 => ELp112_3v1 m R n (W116 r0 s1 i2 i3 i4) k) i3 i4 := by kernel_rfl
theorem eqLp112_3v1 (m : Nat) (R : Type) (r0 : Abs.Rows) (s1 : ByteArray) (i2 : Int) (k : Ex → List V → Option R) : ∀ (n : Nat) (i3 i4 : Int), ELp112_3v1 m R n (W116 r0 s1 i2 i3 i4) k = Lp112_3v1 m (fun i6 i7 => k (Ex.exit (0 : Nat)) (W116 r0 s1 i2 i6 i7)) r0 s1 i2 n i3 i4
 | 0, _, _ => rfl
 | n + 1, i3, i4 => by
  simp only [ELp112_3v1, Lp112_3v1, W116]
  congr 1
  funext i3 i4
  exact eqLp112_3v1 m R r0 s1 i2 k n i3 i4
noncomputable def L67 (m : Nat) : LTbl := addB 112 3 (brLp112_3v1 m (L66 m)) (L66 m)
theorem okL67 (m : Nat) : LTOk Tryz.prog H (L67 m) := addB_ok (okT77 m) hM (okL66 m) (l := [0, 1, 2, 8, 9, 10, 49, 50, 51]) (by kernel_rfl) (by kernel_rfl) m (fun R n vs k => ELp112_3v1 m R n vs k) (fun R vs k => rfl) (fun R n vs k x h => by
   simp only [ELp112_3v1] at h
   split at h
   ·exact (stLp112_3v1 m n R _ _ _ _ _ k).trans h
   ·cases h) fun R vs k x h => by
  unfold brLp112_3v1 at h
  split at h
  ·exact .inl ((eqLp112_3v1 m R _ _ _ k m _ _).trans h)
  ·exact .inr h

abbrev W117 (a0 : Abs.Rows) (a1 : ByteArray) : List V := [.bor [.str, .str, .int .i64, .int .i64, .int .i64, .int .i64] a0, .f (.lit (.string a1)), .clos 113 []]
/-- - -/
noncomputable def Fn112v1 {R : Type} (m : Nat) : Abs.Rows → ByteArray → (Int → Bool → Option R) → Option R := match m with
 | 0 => fun _ _ _ => none
 | m + 1 => fun r0 s1 k =>
 Lp112_3v1 m (fun i2 i3 => bif decide (i2 < (↑(List.length r0) : Int)) then (bif decide ((0 : Int) ≤ i2 ∧ i2 < (↑(List.length r0) : Int)) then (Fn113 m (fS r0 (Int.toNat i2) (0 : Nat)) (fS r0 (Int.toNat i2) (1 : Nat)) (fI r0 (Int.toNat i2) (2 : Nat)) (fI r0 (Int.toNat i2) (3 : Nat)) (fI r0 (Int.toNat i2) (4 : Nat)) (fI r0 (Int.toNat i2) (5 : Nat)) s1 (fun i4 => k i2 (i4 == (0 : Int)))) else
 (none)) else
 (k i2 false)) r0 s1 ((↑(List.length r0) : Int)) m ((0 : Int)) ((↑(List.length r0) : Int))
noncomputable def brFn112v1 (m : Nat) (T : Tbl) (R : Type) (vs : List V) (k : V → List V → Option R) : Option R := match vs with
 | [.bor [.str, .str, .int .i64, .int .i64, .int .i64, .int .i64] r0, .f (.lit (.string s1)), .clos 113 []] => Fn112v1 m r0 s1 (fun i5 b6 => k (V.tup (W70 i5 b6)) W32)
 | _ => T R 112 vs k

theorem evFn112v1 (m : Nat) (R : Type) (r0 : Abs.Rows) (s1 : ByteArray) (k : V → List V → Option R) : runK Tryz.prog H (T77 m) (L67 m) 112 (W117 r0 s1) k = Fn112v1 (m + 1) r0 s1 (fun i5 b6 => k (V.tup (W70 i5 b6)) W32) := by kernel_rfl
noncomputable def T78 (m : Nat) : Tbl := addT 112 (brFn112v1 m (T77 m)) (T77 m)
theorem okT78 (m : Nat) : TblOk Tryz.prog (T78 m) := addT_ok (okT77 m) fun R vs k x h => by
 unfold brFn112v1 at h
 split at h
 ·cases m with
  | zero => cases h
  | succ m => exact runK_some (okT77 m) hM (okL67 m) ((evFn112v1 m R _ _ k).trans h)
 ·exact okT77 m R 112 _ k x h

abbrev W118 (a0 : ByteArray) (a1 : Abs.Rows) (a2 : Int) (a3 : Abs.Rows) (a4 a5 : ByteArray) (a6 a7 a8 a9 : Int) (a10 : Bool) (a11 : Int) : List V := [.f (.lit (.string a0)), .obj [.bor [.str, .str, .int .i64, .int .i64, .int .i64, .int .i64] a1, .f (.lit (.int .i64 a2)), .bor [.str] a3], .obj [.f (.lit (.string a4)), .f (.lit (.string a5)), .f (.lit (.int .i64 a6)), .f (.lit (.int .i64 a7)), .f (.lit (.int .i64 a8)), .f (.lit (.int .i64 a9))], .f (.lit (.bool a10)), .f (.lit (.int .i64 a11)), .undef, .undef]
abbrev K1Lp57_2v1 {R : Type} (k : Ex → List V → Option R) (s0 : ByteArray) (r1 : Abs.Rows) (i2 : Int) (r3 : Abs.Rows) : ByteArray → ByteArray → Int → Int → Int → Int → Bool → Int → Option R := fun s4 s5 i6 i7 i8 i9 b10 i11 => k Ex.ret (W118 s0 r1 i2 r3 s4 s5 i6 i7 i8 i9 b10 i11)
/-- - -/
noncomputable def Lp57_2v1_step {R : Type} (m : Nat) (kx0 : ByteArray → ByteArray → Int → Int → Int → Int → Bool → Int → Option R) (kx1 : Int → Option R) (s0 : ByteArray) (r1 : Abs.Rows) (i2 : Int) (r3 : Abs.Rows) (s12 s13 : ByteArray) (i14 i15 i16 i17 : Int) (b18 : Bool) (REC : Int → Option R) (i19 : Int) : Option R :=
 bif decide (i19 ≥ (0 : Int)) then (bif decide ((0 : Int) ≤ i19 ∧ i19 ≤ (↑(ByteArray.size s0) : Int)) then (Fn112v1 m r1 (ByteArray.extract s0 (0 : Nat) (Int.toNat i19)) (fun i20 b21 => bif b21 then (bif decide ((0 : Int) ≤ i20 ∧ i20 < (↑(List.length r1) : Int)) then (kx0 (fS r1 (Int.toNat i20) (0 : Nat)) (fS r1 (Int.toNat i20) (1 : Nat)) (fI r1 (Int.toNat i20) (2 : Nat)) (fI r1 (Int.toNat i20) (3 : Nat)) (fI r1 (Int.toNat i20) (4 : Nat)) (fI r1 (Int.toNat i20) (5 : Nat)) true i19) else
 (none)) else
 (REC (IntKind.wrap IntKind.i64 (i19 - (1 : Int)))))) else
 (none)) else
 (kx1 i19)
noncomputable def Lp57_2v1 {R : Type} (m : Nat) (kx0 : ByteArray → ByteArray → Int → Int → Int → Int → Bool → Int → Option R) (kx1 : Int → Option R) (s0 : ByteArray) (r1 : Abs.Rows) (i2 : Int) (r3 : Abs.Rows) (s12 s13 : ByteArray) (i14 i15 i16 i17 : Int) (b18 : Bool) : Nat → Int → Option R
 | 0, _ => none
 | n + 1, i19 => Lp57_2v1_step m kx0 kx1 s0 r1 i2 r3 s12 s13 i14 i15 i16 i17 b18 (Lp57_2v1 m kx0 kx1 s0 r1 i2 r3 s12 s13 i14 i15 i16 i17 b18 n) i19
noncomputable def ELp57_2v1 (m : Nat) (R : Type) : Nat → List V → (Ex → List V → Option R) → Option R
 | 0, _, _ => none
 | n + 1, vs, k => match vs with
  | [.f (.lit (.string s0)), .obj [.bor [.str, .str, .int .i64, .int .i64, .int .i64, .int .i64] r1, .f (.lit (.int .i64 i2)), .bor [.str] r3], .obj [.f (.lit (.string s12)), .f (.lit (.string s13)), .f (.lit (.int .i64 i14)), .f (.lit (.int .i64 i15)), .f (.lit (.int .i64 i16)), .f (.lit (.int .i64 i17))], .f (.lit (.bool b18)), .f (.lit (.int .i64 i19)), .undef, .undef] => Lp57_2v1_step m (K1Lp57_2v1 k s0 r1 i2 r3) (fun i22 => k (Ex.exit (0 : Nat)) (W118 s0 r1 i2 r3 s12 s13 i14 i15 i16 i17 b18 i22)) s0 r1 i2 r3 s12 s13 i14 i15 i16 i17 b18 (fun i19 => ELp57_2v1 m R n (W118 s0 r1 i2 r3 s12 s13 i14 i15 i16 i17 b18 i19) k) i19
  | _ => none
noncomputable def brLp57_2v1 (m : Nat) (L : LTbl) (R : Type) (vs : List V) (k : Ex → List V → Option R) : Option R := match vs with
 | [.f (.lit (.string s0)), .obj [.bor [.str, .str, .int .i64, .int .i64, .int .i64, .int .i64] r1, .f (.lit (.int .i64 i2)), .bor [.str] r3], .obj [.f (.lit (.string s12)), .f (.lit (.string s13)), .f (.lit (.int .i64 i14)), .f (.lit (.int .i64 i15)), .f (.lit (.int .i64 i16)), .f (.lit (.int .i64 i17))], .f (.lit (.bool b18)), .f (.lit (.int .i64 i19)), .undef, .undef] => Lp57_2v1 m (K1Lp57_2v1 k s0 r1 i2 r3) (fun i22 => k (Ex.exit (0 : Nat)) (W118 s0 r1 i2 r3 s12 s13 i14 i15 i16 i17 b18 i22)) s0 r1 i2 r3 s12 s13 i14 i15 i16 i17 b18 m i19
 | _ => L R 57 2 vs k

theorem stLp57_2v1 (m n : Nat) (R : Type) (s0 : ByteArray) (r1 : Abs.Rows) (i2 : Int) (r3 : Abs.Rows) (s12 s13 : ByteArray) (i14 i15 i16 i17 : Int) (b18 : Bool) (i19 : Int) (k : Ex → List V → Option R) : codeK Tryz.prog H (T78 m) 57 (L67 m) 3 (loopBody Tryz.prog 57 2) (mkEnv [1, 2, 4, 5, 6, 31, 32] (W118 s0 r1 i2 r3 s12 s13 i14 i15 i16 i17 b18 i19) 0 (H.len 57)) (fun e env' => match e with | .normal => ELp57_2v1 m R n (vals [1, 2, 4, 5, 6, 31, 32] env') k | e => k e (vals [1, 2, 4, 5, 6, 31, 32] env')) = Lp57_2v1_step m (K1Lp57_2v1 k s0 r1 i2 r3) (fun i22 => k (Ex.exit (0 : Nat)) (W118 s0 r1 i2 r3 s12 s13 i14 i15 i16 i17 b18 i22)) s0 r1 i2 r3 s12 s13 i14 i15 i16 i17 b18 (fun i19 => ELp57_2v1 m R n (W118 s0 r1 i2 r3 s12 s13 i14 i15 i16 i17 b18 i19) k) i19 := by kernel_rfl
theorem eqLp57_2v1 (m : Nat) (R : Type) (s0 : ByteArray) (r1 : Abs.Rows) (i2 : Int) (r3 : Abs.Rows) (s12 s13 : ByteArray) (i14 i15 i16 i17 : Int) (b18 : Bool) (k : Ex → List V → Option R) : ∀ (n : Nat) (i19 : Int), ELp57_2v1 m R n (W118 s0 r1 i2 r3 s12 s13 i14 i15 i16 i17 b18 i19) k = Lp57_2v1 m (K1Lp57_2v1 k s0 r1 i2 r3) (fun i22 => k (Ex.exit (0 : Nat)) (W118 s0 r1 i2 r3 s12 s13 i14 i15 i16 i17 b18 i22)) s0 r1 i2 r3 s12 s13 i14 i15 i16 i17 b18 n i19
 | 0, _ => rfl
 | n + 1, i19 => by
  simp only [ELp57_2v1, Lp57_2v1, W118]
  congr 1
  funext i19
  exact eqLp57_2v1 m R s0 r1 i2 r3 s12 s13 i14 i15 i16 i17 b18 k n i19
noncomputable def L68 (m : Nat) : LTbl := addB 57 2 (brLp57_2v1 m (L67 m)) (L67 m)
theorem okL68 (m : Nat) : LTOk Tryz.prog H (L68 m) := addB_ok (okT78 m) hM (okL67 m) (l := [1, 2, 4, 5, 6, 31, 32]) (by kernel_rfl) (by kernel_rfl) m (fun R n vs k => ELp57_2v1 m R n vs k) (fun R vs k => rfl) (fun R n vs k x h => by
   simp only [ELp57_2v1] at h
   split at h
   ·exact (stLp57_2v1 m n R _ _ _ _ _ _ _ _ _ _ _ _ k).trans h
   ·cases h) fun R vs k x h => by
  unfold brLp57_2v1 at h
  split at h
  ·exact .inl ((eqLp57_2v1 m R _ _ _ _ _ _ _ _ _ _ _ k m _).trans h)
  ·exact .inr h

abbrev W119 (a0 : Abs.Rows) (a1 : Int) (a2 : Abs.Rows) (a3 : ByteArray) : List V := [.agg [.bor [.str, .str, .int .i64, .int .i64, .int .i64, .int .i64] a0, .f (.lit (.int .i64 a1)), .bor [.str] a2], .f (.lit (.string a3))]
/-- - -/
noncomputable def Fn57v1 {R : Type} (m : Nat) : Abs.Rows → Int → Abs.Rows → ByteArray → (ByteArray → ByteArray → Int → Int → Int → Int → Bool → Option R) → Option R := match m with
 | 0 => fun _ _ _ _ _ => none
 | m + 1 => fun r0 i1 r2 s3 k =>
 Lp57_2v1 m (fun s4 s5 i6 i7 i8 i9 b10 i11 => k s4 s5 i6 i7 i8 i9 b10) (fun i12 => k ({ data := #[] }) ({ data := #[] }) ((0 : Int)) ((0 : Int)) ((0 : Int)) ((0 : Int)) false) s3 r0 i1 r2 ({ data := #[] }) ({ data := #[] }) ((0 : Int)) ((0 : Int)) ((0 : Int)) ((0 : Int)) false m ((↑(ByteArray.size s3) : Int))
noncomputable def brFn57v1 (m : Nat) (T : Tbl) (R : Type) (vs : List V) (k : V → List V → Option R) : Option R := match vs with
 | [.agg [.bor [.str, .str, .int .i64, .int .i64, .int .i64, .int .i64] r0, .f (.lit (.int .i64 i1)), .bor [.str] r2], .f (.lit (.string s3))] => Fn57v1 m r0 i1 r2 s3 (fun s13 s14 i15 i16 i17 i18 b19 => k (V.tup (W73 s13 s14 i15 i16 i17 i18 b19)) W1)
 | _ => T R 57 vs k

theorem evFn57v1 (m : Nat) (R : Type) (r0 : Abs.Rows) (i1 : Int) (r2 : Abs.Rows) (s3 : ByteArray) (k : V → List V → Option R) : runK Tryz.prog H (T78 m) (L68 m) 57 (W119 r0 i1 r2 s3) k = Fn57v1 (m + 1) r0 i1 r2 s3 (fun s13 s14 i15 i16 i17 i18 b19 => k (V.tup (W73 s13 s14 i15 i16 i17 i18 b19)) W1) := by kernel_rfl
noncomputable def T79 (m : Nat) : Tbl := addT 57 (brFn57v1 m (T78 m)) (T78 m)
theorem okT79 (m : Nat) : TblOk Tryz.prog (T79 m) := addT_ok (okT78 m) fun R vs k x h => by
 unfold brFn57v1 at h
 split at h
 ·cases m with
  | zero => cases h
  | succ m => exact runK_some (okT78 m) hM (okL68 m) ((evFn57v1 m R _ _ _ _ k).trans h)
 ·exact okT78 m R 57 _ k x h

abbrev W120 (a0 : Abs.Rows) (a1 : Int) (a2 : Abs.Rows) (a3 : ByteArray) (a4 : Int) : List V := [.agg [.bor [.str, .str, .int .i64, .int .i64, .int .i64, .int .i64] a0, .f (.lit (.int .i64 a1)), .bor [.str] a2], .f (.lit (.string a3)), .f (.lit (.int .i64 a4))]
/-- - -/
noncomputable def Fn63 {R : Type} (m : Nat) : Abs.Rows → Int → Abs.Rows → ByteArray → Int → (Int → Int → Option R) → Option R := match m with
 | 0 => fun _ _ _ _ _ _ => none
 | m + 1 => fun r0 i1 r2 s3 i4 k =>
 Fn82v1 m r0 i1 r2 (fun i5 => bif i5 != (0 : Int) then (k ((0 : Int)) i5) else
 (Fn104 m s3 (fun b6 => bif !b6 then (k ((0 : Int)) ((3 : Int))) else
 (Fn75 m i4 ((0 : Int)) ((86400000 : Int)) (fun b7 => bif !b7 then (k ((0 : Int)) ((1 : Int))) else
 (Fn57v1 m r0 i1 r2 s3 (fun s8 s9 i10 i11 i12 i13 b14 => bif !b14 then (k ((0 : Int)) ((8 : Int))) else
 (Fn110 m s8 s9 i10 i11 i12 i13 i4 (fun i15 => k i15 ((0 : Int)))))))))))
noncomputable def brFn63 (m : Nat) (T : Tbl) (R : Type) (vs : List V) (k : V → List V → Option R) : Option R := match vs with
 | [.agg [.bor [.str, .str, .int .i64, .int .i64, .int .i64, .int .i64] r0, .f (.lit (.int .i64 i1)), .bor [.str] r2], .f (.lit (.string s3)), .f (.lit (.int .i64 i4))] => Fn63 m r0 i1 r2 s3 i4 (fun i16 i17 => k (V.tup (W2 i16 i17)) W32)
 | _ => T R 63 vs k

theorem evFn63 (m : Nat) (R : Type) (r0 : Abs.Rows) (i1 : Int) (r2 : Abs.Rows) (s3 : ByteArray) (i4 : Int) (k : V → List V → Option R) : runK Tryz.prog H (T79 m) (L68 m) 63 (W120 r0 i1 r2 s3 i4) k = Fn63 (m + 1) r0 i1 r2 s3 i4 (fun i16 i17 => k (V.tup (W2 i16 i17)) W32) := by kernel_rfl
noncomputable def T80 (m : Nat) : Tbl := addT 63 (brFn63 m (T79 m)) (T79 m)
theorem okT80 (m : Nat) : TblOk Tryz.prog (T80 m) := addT_ok (okT79 m) fun R vs k x h => by
 unfold brFn63 at h
 split at h
 ·cases m with
  | zero => cases h
  | succ m => exact runK_some (okT79 m) hM (okL68 m) ((evFn63 m R _ _ _ _ _ k).trans h)
 ·exact okT79 m R 63 _ k x h

/-- - -/
noncomputable def Fn21 {R : Type} (m : Nat) : (Bool → Option R) → Option R := match m with
 | 0 => fun _ => none
 | m + 1 => fun  k =>
 Fn63 m ([[F.lit (Value.string { data := #[(43 : UInt8), (49 : UInt8)] }), F.lit (Value.string { data := #[(97 : UInt8)] }), F.lit (Value.int IntKind.i64 (0 : Int)), F.lit (Value.int IntKind.i64 (0 : Int)), F.lit (Value.int IntKind.i64 (1000 : Int)), F.lit (Value.int IntKind.i64 (7 : Int))]]) ((0 : Int)) rows0 ({ data := #[(43 : UInt8), (49 : UInt8), (50 : UInt8), (48 : UInt8), (48 : UInt8)] }) ((1500 : Int)) (fun i0 i1 => bif i1 == (0 : Int) then (k (i0 == (14 : Int))) else
 (k false))
noncomputable def brFn21 (m : Nat) (T : Tbl) (R : Type) (vs : List V) (k : V → List V → Option R) : Option R := match vs with
 | [] => Fn21 m  (fun b2 => k (V.f (F.lit (Value.bool b2))) [])
 | _ => T R 21 vs k

theorem evFn21 (m : Nat) (R : Type)  (k : V → List V → Option R) : runK Tryz.prog H (T80 m) (L68 m) 21 [] k = Fn21 (m + 1)  (fun b2 => k (V.f (F.lit (Value.bool b2))) []) := by kernel_rfl
noncomputable def T81 (m : Nat) : Tbl := addT 21 (brFn21 m (T80 m)) (T80 m)
theorem okT81 (m : Nat) : TblOk Tryz.prog (T81 m) := addT_ok (okT80 m) fun R vs k x h => by
 unfold brFn21 at h
 split at h
 ·cases m with
  | zero => cases h
  | succ m => exact runK_some (okT80 m) hM (okL68 m) ((evFn21 m R k).trans h)
 ·exact okT80 m R 21 _ k x h

abbrev W121 (a0 : Bool) (a1 : Int) (a2 : Abs.Rows) (a3 : Int) (a4 : Abs.Rows) (a5 : Int) (a6 : Abs.Rows) (a7 a8 : Int) (a9 a10 a11 : Abs.Rows) (a12 a13 a14 : Int) : List V := [.f (.lit (.bool a0)), .f (.lit (.int .i64 a1)), .own [.str, .str, .str, .int .i64, .int .i64] a2, .f (.lit (.int .i64 a3)), .own [.str, .int .i64, .int .i64, .int .i64, .int .i64] a4, .f (.lit (.int .i64 a5)), .own [.int .i64] a6, .f (.lit (.int .i64 a7)), .f (.lit (.int .i64 a8)), .own [.str, .str, .str, .int .i64, .int .i64] a9, .own [.str, .int .i64, .int .i64, .int .i64, .int .i64] a10, .own [.int .i64] a11, .tup [.undef, .f (.lit (.int .i64 a12))], .undef, .undef, .tup [.undef, .f (.lit (.int .i64 a13))], .undef, .undef, .tup [.undef, .f (.lit (.int .i64 a14))], .undef, .undef, .undef, .undef, .undef, .undef]
/-- - -/
noncomputable def Jn3_14 {R : Type} (m : Nat) (kx0 : Bool → Option R) (b0 : Bool) (i1 : Int) (r2 : Abs.Rows) (i3 : Int) (r4 : Abs.Rows) (i5 : Int) (r6 : Abs.Rows) (i7 i8 : Int) (r9 r10 r11 : Abs.Rows) (i12 i13 i14 : Int) : Option R :=
 bif i3 == i8 then (Fn18 m r2 r9 (fun b15 => bif b15 then (bif i5 == i8 then (Fn19 m r4 r10 (fun b16 => bif b16 then (bif i7 == i1 then (Fn20 m r6 r11 (fun b17 => bif b17 then (Fn21 m  (fun b18 => kx0 b18)) else
 (kx0 false))) else
 (kx0 false)) else
 (kx0 false))) else
 (kx0 false)) else
 (kx0 false))) else
 (kx0 false)
noncomputable def brJn3_14 (m : Nat) (L : LTbl) (R : Type) (vs : List V) (k : Ex → List V → Option R) : Option R := match vs with
 | [.f (.lit (.bool b0)), .f (.lit (.int .i64 i1)), .own [.str, .str, .str, .int .i64, .int .i64] r2, .f (.lit (.int .i64 i3)), .own [.str, .int .i64, .int .i64, .int .i64, .int .i64] r4, .f (.lit (.int .i64 i5)), .own [.int .i64] r6, .f (.lit (.int .i64 i7)), .f (.lit (.int .i64 i8)), .own [.str, .str, .str, .int .i64, .int .i64] r9, .own [.str, .int .i64, .int .i64, .int .i64, .int .i64] r10, .own [.int .i64] r11, .tup [.undef, .f (.lit (.int .i64 i12))], .undef, .undef, .tup [.undef, .f (.lit (.int .i64 i13))], .undef, .undef, .tup [.undef, .f (.lit (.int .i64 i14))], .undef, .undef, .undef, .undef, .undef, .undef] => Jn3_14 m (fun b19 => k Ex.ret (W121 b19 i1 r2 i3 r4 i5 r6 i7 i8 r9 r10 r11 i12 i13 i14)) b0 i1 r2 i3 r4 i5 r6 i7 i8 r9 r10 r11 i12 i13 i14
 | _ => L R 3 14 vs k

theorem evJn3_14 (m : Nat) (R : Type) (b0 : Bool) (i1 : Int) (r2 : Abs.Rows) (i3 : Int) (r4 : Abs.Rows) (i5 : Int) (r6 : Abs.Rows) (i7 i8 : Int) (r9 r10 r11 : Abs.Rows) (i12 i13 i14 : Int) (k : Ex → List V → Option R) : codeK Tryz.prog H (T81 m) 3 (L68 m) 15 (loopBody Tryz.prog 3 14) (mkEnv [2, 7, 9, 10, 11, 12, 13, 14, 15, 16, 17, 18, 34, 39, 40, 42, 47, 48, 50, 54, 55, 73, 78, 84, 116] (W121 b0 i1 r2 i3 r4 i5 r6 i7 i8 r9 r10 r11 i12 i13 i14) 0 (H.len 3)) (fun e env' => k e (vals [2, 7, 9, 10, 11, 12, 13, 14, 15, 16, 17, 18, 34, 39, 40, 42, 47, 48, 50, 54, 55, 73, 78, 84, 116] env')) = Jn3_14 m (fun b19 => k Ex.ret (W121 b19 i1 r2 i3 r4 i5 r6 i7 i8 r9 r10 r11 i12 i13 i14)) b0 i1 r2 i3 r4 i5 r6 i7 i8 r9 r10 r11 i12 i13 i14 := by kernel_rfl
noncomputable def L69 (m : Nat) : LTbl := addJ 3 14 (brJn3_14 m (L68 m)) (L68 m)
theorem okL69 (m : Nat) : LTOk Tryz.prog H (L69 m) := addJ_ok (okT81 m) hM (okL68 m) (l := [2, 7, 9, 10, 11, 12, 13, 14, 15, 16, 17, 18, 34, 39, 40, 42, 47, 48, 50, 54, 55, 73, 78, 84, 116]) (by kernel_rfl) (by kernel_rfl) fun R vs k x h => by
  unfold brJn3_14 at h
  split at h
  ·exact .inl ((evJn3_14 m R _ _ _ _ _ _ _ _ _ _ _ _ _ _ _ k).trans h)
  ·exact .inr h

abbrev W122 (a0 : Bool) (a1 : Int) (a2 : Abs.Rows) (a3 : Int) (a4 : Abs.Rows) (a5 : Int) (a6 : Abs.Rows) (a7 a8 : Int) (a9 a10 a11 : Abs.Rows) (a12 a13 a14 : Int) : List V := [.f (.lit (.bool a0)), .undef, .undef, .undef, .f (.lit (.int .i64 a1)), .own [.str, .str, .str, .int .i64, .int .i64] a2, .f (.lit (.int .i64 a3)), .own [.str, .int .i64, .int .i64, .int .i64, .int .i64] a4, .f (.lit (.int .i64 a5)), .own [.int .i64] a6, .f (.lit (.int .i64 a7)), .f (.lit (.int .i64 a8)), .own [.str, .str, .str, .int .i64, .int .i64] a9, .own [.str, .int .i64, .int .i64, .int .i64, .int .i64] a10, .own [.int .i64] a11, .undef, .undef, .undef, .undef, .tup [.undef, .f (.lit (.int .i64 a12))], .undef, .undef, .tup [.undef, .f (.lit (.int .i64 a13))], .undef, .undef, .tup [.undef, .f (.lit (.int .i64 a14))], .undef, .undef, .undef, .undef, .undef]
abbrev W123 (a0 : Bool) (a1 : Abs.Rows) (a2 : Int) (a3 a4 a5 : Abs.Rows) (a6 : Int) (a7 : Abs.Rows) (a8 : Int) (a9 : Abs.Rows) (a10 : Int) (a11 : Abs.Rows) (a12 a13 : Int) (a14 a15 a16 a17 : Abs.Rows) (a18 : Int) (a19 : Abs.Rows) (a20 a21 a22 a23 : Int) : List V := [.f (.lit (.bool a0)), .obj [.f (.lst [.str, .str, .int .i64, .int .i64, .int .i64, .int .i64] a1), .f (.lit (.int .i64 a2)), .f (.lst [.str] a3)], .own [.str, .lst [.str]] a4, .own [.str, .str, .str, .int .i64, .int .i64, .int .i64, .int .i64, .str] a5, .f (.lit (.int .i64 a6)), .own [.str, .str, .str, .int .i64, .int .i64] a7, .f (.lit (.int .i64 a8)), .own [.str, .int .i64, .int .i64, .int .i64, .int .i64] a9, .f (.lit (.int .i64 a10)), .own [.int .i64] a11, .f (.lit (.int .i64 a12)), .f (.lit (.int .i64 a13)), .own [.str, .str, .str, .int .i64, .int .i64] a14, .own [.str, .int .i64, .int .i64, .int .i64, .int .i64] a15, .own [.int .i64] a16, .tup [.agg [.f (.lst [.str, .str, .int .i64, .int .i64, .int .i64, .int .i64] a17), .f (.lit (.int .i64 a18)), .f (.lst [.str] a19)], .undef, .undef, .f (.lit (.int .i64 a20))], .undef, .undef, .undef, .tup [.undef, .f (.lit (.int .i64 a21))], .undef, .undef, .tup [.undef, .f (.lit (.int .i64 a22))], .undef, .undef, .tup [.undef, .f (.lit (.int .i64 a23))], .undef, .undef, .undef, .undef, .undef]
/-- - -/
noncomputable def Jn3_12 {R : Type} (m : Nat) (kx0 : Bool → Abs.Rows → Option R) (b0 : Bool) (r1 : Abs.Rows) (i2 : Int) (r3 r4 r5 : Abs.Rows) (i6 : Int) (r7 : Abs.Rows) (i8 : Int) (r9 : Abs.Rows) (i10 : Int) (r11 : Abs.Rows) (i12 i13 : Int) (r14 r15 r16 r17 : Abs.Rows) (i18 : Int) (r19 : Abs.Rows) (i20 i21 i22 i23 : Int) : Option R :=
 bif i6 == (0 : Int) then (Fn17 m r1 i2 r3 r4 r5 (fun r24 => Jn3_14 m (fun b25 => kx0 b25 r24) b0 i6 r7 i8 r9 i10 r11 i12 i13 r14 r15 r24 i21 i22 i23)) else
 (Jn3_14 m (fun b26 => kx0 b26 r16) b0 i6 r7 i8 r9 i10 r11 i12 i13 r14 r15 r16 i21 i22 i23)
noncomputable def brJn3_12 (m : Nat) (L : LTbl) (R : Type) (vs : List V) (k : Ex → List V → Option R) : Option R := match vs with
 | [.f (.lit (.bool b0)), .obj [.f (.lst [.str, .str, .int .i64, .int .i64, .int .i64, .int .i64] r1), .f (.lit (.int .i64 i2)), .f (.lst [.str] r3)], .own [.str, .lst [.str]] r4, .own [.str, .str, .str, .int .i64, .int .i64, .int .i64, .int .i64, .str] r5, .f (.lit (.int .i64 i6)), .own [.str, .str, .str, .int .i64, .int .i64] r7, .f (.lit (.int .i64 i8)), .own [.str, .int .i64, .int .i64, .int .i64, .int .i64] r9, .f (.lit (.int .i64 i10)), .own [.int .i64] r11, .f (.lit (.int .i64 i12)), .f (.lit (.int .i64 i13)), .own [.str, .str, .str, .int .i64, .int .i64] r14, .own [.str, .int .i64, .int .i64, .int .i64, .int .i64] r15, .own [.int .i64] r16, .tup [.agg [.f (.lst [.str, .str, .int .i64, .int .i64, .int .i64, .int .i64] r17), .f (.lit (.int .i64 i18)), .f (.lst [.str] r19)], .undef, .undef, .f (.lit (.int .i64 i20))], .undef, .undef, .undef, .tup [.undef, .f (.lit (.int .i64 i21))], .undef, .undef, .tup [.undef, .f (.lit (.int .i64 i22))], .undef, .undef, .tup [.undef, .f (.lit (.int .i64 i23))], .undef, .undef, .undef, .undef, .undef] => Jn3_12 m (fun b27 r28 => k Ex.ret (W122 b27 i6 r7 i8 r9 i10 r11 i12 i13 r14 r15 r28 i21 i22 i23)) b0 r1 i2 r3 r4 r5 i6 r7 i8 r9 i10 r11 i12 i13 r14 r15 r16 r17 i18 r19 i20 i21 i22 i23
 | _ => L R 3 12 vs k

theorem evJn3_12 (m : Nat) (R : Type) (b0 : Bool) (r1 : Abs.Rows) (i2 : Int) (r3 r4 r5 : Abs.Rows) (i6 : Int) (r7 : Abs.Rows) (i8 : Int) (r9 : Abs.Rows) (i10 : Int) (r11 : Abs.Rows) (i12 i13 : Int) (r14 r15 r16 r17 : Abs.Rows) (i18 : Int) (r19 : Abs.Rows) (i20 i21 i22 i23 : Int) (k : Ex → List V → Option R) : codeK Tryz.prog H (T81 m) 3 (L69 m) 13 (loopBody Tryz.prog 3 12) (mkEnv [2, 4, 5, 6, 7, 9, 10, 11, 12, 13, 14, 15, 16, 17, 18, 22, 26, 28, 29, 34, 39, 40, 42, 47, 48, 50, 54, 55, 73, 78, 116] (W123 b0 r1 i2 r3 r4 r5 i6 r7 i8 r9 i10 r11 i12 i13 r14 r15 r16 r17 i18 r19 i20 i21 i22 i23) 0 (H.len 3)) (fun e env' => k e (vals [2, 4, 5, 6, 7, 9, 10, 11, 12, 13, 14, 15, 16, 17, 18, 22, 26, 28, 29, 34, 39, 40, 42, 47, 48, 50, 54, 55, 73, 78, 116] env')) = Jn3_12 m (fun b27 r28 => k Ex.ret (W122 b27 i6 r7 i8 r9 i10 r11 i12 i13 r14 r15 r28 i21 i22 i23)) b0 r1 i2 r3 r4 r5 i6 r7 i8 r9 i10 r11 i12 i13 r14 r15 r16 r17 i18 r19 i20 i21 i22 i23 := by kernel_rfl
noncomputable def L70 (m : Nat) : LTbl := addJ 3 12 (brJn3_12 m (L69 m)) (L69 m)
theorem okL70 (m : Nat) : LTOk Tryz.prog H (L70 m) := addJ_ok (okT81 m) hM (okL69 m) (l := [2, 4, 5, 6, 7, 9, 10, 11, 12, 13, 14, 15, 16, 17, 18, 22, 26, 28, 29, 34, 39, 40, 42, 47, 48, 50, 54, 55, 73, 78, 116]) (by kernel_rfl) (by kernel_rfl) fun R vs k x h => by
  unfold brJn3_12 at h
  split at h
  ·exact .inl ((evJn3_12 m R _ _ _ _ _ _ _ _ _ _ _ _ _ _ _ _ _ _ _ _ _ _ _ _ k).trans h)
  ·exact .inr h

abbrev W124 (a0 : Bool) (a1 : Int) (a2 : Abs.Rows) (a3 : Int) (a4 : Abs.Rows) (a5 : Int) (a6 : Abs.Rows) (a7 a8 a9 a10 a11 : Int) : List V := [.f (.lit (.bool a0)), .undef, .undef, .undef, .f (.lit (.int .i64 a1)), .undef, .own [.str, .str, .str, .int .i64, .int .i64] a2, .f (.lit (.int .i64 a3)), .own [.str, .int .i64, .int .i64, .int .i64, .int .i64] a4, .f (.lit (.int .i64 a5)), .own [.int .i64] a6, .f (.lit (.int .i64 a7)), .f (.lit (.int .i64 a8)), .undef, .undef, .undef, .undef, .tup [.undef, .f (.lit (.int .i64 a9))], .undef, .undef, .tup [.undef, .f (.lit (.int .i64 a10))], .undef, .undef, .tup [.undef, .f (.lit (.int .i64 a11))], .undef, .undef, .undef]
abbrev W125 (a0 : Bool) (a1 : Abs.Rows) (a2 : Int) (a3 a4 a5 : Abs.Rows) (a6 a7 : Int) (a8 : Abs.Rows) (a9 : Int) (a10 : Abs.Rows) (a11 : Int) (a12 : Abs.Rows) (a13 a14 : Int) (a15 : Abs.Rows) (a16 : Int) (a17 : Abs.Rows) (a18 a19 a20 a21 : Int) : List V := [.f (.lit (.bool a0)), .obj [.f (.lst [.str, .str, .int .i64, .int .i64, .int .i64, .int .i64] a1), .f (.lit (.int .i64 a2)), .f (.lst [.str] a3)], .own [.str, .lst [.str]] a4, .own [.str, .str, .str, .int .i64, .int .i64, .int .i64, .int .i64, .str] a5, .f (.lit (.int .i64 a6)), .f (.lit (.int .i64 a7)), .own [.str, .str, .str, .int .i64, .int .i64] a8, .f (.lit (.int .i64 a9)), .own [.str, .int .i64, .int .i64, .int .i64, .int .i64] a10, .f (.lit (.int .i64 a11)), .own [.int .i64] a12, .f (.lit (.int .i64 a13)), .f (.lit (.int .i64 a14)), .tup [.agg [.f (.lst [.str, .str, .int .i64, .int .i64, .int .i64, .int .i64] a15), .f (.lit (.int .i64 a16)), .f (.lst [.str] a17)], .undef, .undef, .f (.lit (.int .i64 a18))], .undef, .undef, .undef, .tup [.undef, .f (.lit (.int .i64 a19))], .undef, .undef, .tup [.undef, .f (.lit (.int .i64 a20))], .undef, .undef, .tup [.undef, .f (.lit (.int .i64 a21))], .undef, .undef, .undef]
/-- - -/
noncomputable def Jn3_7 {R : Type} (m : Nat) (kx0 : Bool → Option R) (b0 : Bool) (r1 : Abs.Rows) (i2 : Int) (r3 r4 r5 : Abs.Rows) (i6 i7 : Int) (r8 : Abs.Rows) (i9 : Int) (r10 : Abs.Rows) (i11 : Int) (r12 : Abs.Rows) (i13 i14 : Int) (r15 : Abs.Rows) (i16 : Int) (r17 : Abs.Rows) (i18 i19 i20 i21 : Int) : Option R :=
 bif i14 == (0 : Int) then (Fn15 m r1 i2 r3 r4 r5 i7 (fun r22 => Fn16 m r1 i2 r3 r4 r5 i7 (fun r23 => Jn3_12 m (fun b24 r25 => kx0 b24) b0 r1 i2 r3 r4 r5 i6 r8 i9 r10 i11 r12 i13 i14 r22 r23 rows0 r15 i16 r17 i18 i19 i20 i21))) else
 (Jn3_12 m (fun b26 r27 => kx0 b26) b0 r1 i2 r3 r4 r5 i6 r8 i9 r10 i11 r12 i13 i14 rows0 rows0 rows0 r15 i16 r17 i18 i19 i20 i21)
noncomputable def brJn3_7 (m : Nat) (L : LTbl) (R : Type) (vs : List V) (k : Ex → List V → Option R) : Option R := match vs with
 | [.f (.lit (.bool b0)), .obj [.f (.lst [.str, .str, .int .i64, .int .i64, .int .i64, .int .i64] r1), .f (.lit (.int .i64 i2)), .f (.lst [.str] r3)], .own [.str, .lst [.str]] r4, .own [.str, .str, .str, .int .i64, .int .i64, .int .i64, .int .i64, .str] r5, .f (.lit (.int .i64 i6)), .f (.lit (.int .i64 i7)), .own [.str, .str, .str, .int .i64, .int .i64] r8, .f (.lit (.int .i64 i9)), .own [.str, .int .i64, .int .i64, .int .i64, .int .i64] r10, .f (.lit (.int .i64 i11)), .own [.int .i64] r12, .f (.lit (.int .i64 i13)), .f (.lit (.int .i64 i14)), .tup [.agg [.f (.lst [.str, .str, .int .i64, .int .i64, .int .i64, .int .i64] r15), .f (.lit (.int .i64 i16)), .f (.lst [.str] r17)], .undef, .undef, .f (.lit (.int .i64 i18))], .undef, .undef, .undef, .tup [.undef, .f (.lit (.int .i64 i19))], .undef, .undef, .tup [.undef, .f (.lit (.int .i64 i20))], .undef, .undef, .tup [.undef, .f (.lit (.int .i64 i21))], .undef, .undef, .undef] => Jn3_7 m (fun b28 => k Ex.ret (W124 b28 i6 r8 i9 r10 i11 r12 i13 i14 i19 i20 i21)) b0 r1 i2 r3 r4 r5 i6 i7 r8 i9 r10 i11 r12 i13 i14 r15 i16 r17 i18 i19 i20 i21
 | _ => L R 3 7 vs k

theorem evJn3_7 (m : Nat) (R : Type) (b0 : Bool) (r1 : Abs.Rows) (i2 : Int) (r3 r4 r5 : Abs.Rows) (i6 i7 : Int) (r8 : Abs.Rows) (i9 : Int) (r10 : Abs.Rows) (i11 : Int) (r12 : Abs.Rows) (i13 i14 : Int) (r15 : Abs.Rows) (i16 : Int) (r17 : Abs.Rows) (i18 i19 i20 i21 : Int) (k : Ex → List V → Option R) : codeK Tryz.prog H (T81 m) 3 (L70 m) 8 (loopBody Tryz.prog 3 7) (mkEnv [2, 4, 5, 6, 7, 8, 9, 10, 11, 12, 13, 14, 15, 22, 26, 28, 29, 34, 39, 40, 42, 47, 48, 50, 54, 55, 116] (W125 b0 r1 i2 r3 r4 r5 i6 i7 r8 i9 r10 i11 r12 i13 i14 r15 i16 r17 i18 i19 i20 i21) 0 (H.len 3)) (fun e env' => k e (vals [2, 4, 5, 6, 7, 8, 9, 10, 11, 12, 13, 14, 15, 22, 26, 28, 29, 34, 39, 40, 42, 47, 48, 50, 54, 55, 116] env')) = Jn3_7 m (fun b28 => k Ex.ret (W124 b28 i6 r8 i9 r10 i11 r12 i13 i14 i19 i20 i21)) b0 r1 i2 r3 r4 r5 i6 i7 r8 i9 r10 i11 r12 i13 i14 r15 i16 r17 i18 i19 i20 i21 := by kernel_rfl
noncomputable def L71 (m : Nat) : LTbl := addJ 3 7 (brJn3_7 m (L70 m)) (L70 m)
theorem okL71 (m : Nat) : LTOk Tryz.prog H (L71 m) := addJ_ok (okT81 m) hM (okL70 m) (l := [2, 4, 5, 6, 7, 8, 9, 10, 11, 12, 13, 14, 15, 22, 26, 28, 29, 34, 39, 40, 42, 47, 48, 50, 54, 55, 116]) (by kernel_rfl) (by kernel_rfl) fun R vs k x h => by
  unfold brJn3_7 at h
  split at h
  ·exact .inl ((evJn3_7 m R _ _ _ _ _ _ _ _ _ _ _ _ _ _ _ _ _ _ _ _ _ _ k).trans h)
  ·exact .inr h

abbrev W126 (a0 : Abs.Rows) : List V := [.f (.lst [.int .i64] a0)]
/-- - -/
noncomputable def Fn3 {R : Type} (m : Nat) : Abs.Rows → (Bool → Option R) → Option R := match m with
 | 0 => fun _ _ => none
 | m + 1 => fun r1 k =>
 Fn8 m r1 ((0 : Int)) ((0 : Int)) ((12 : Int)) (fun i0 i1 => Fn7 m r1 i1 i0 (fun r2 i3 r4 r5 r6 i7 i8 => Fn9 m r1 i8 ([[F.lit (Value.int IntKind.i64 (0 : Int))], [F.lit (Value.int IntKind.i64 (0 : Int))], [F.lit (Value.int IntKind.i64 (0 : Int))], [F.lit (Value.int IntKind.i64 (1 : Int))], [F.lit (Value.int IntKind.i64 (2 : Int))], [F.lit (Value.int IntKind.i64 (132 : Int))], [F.lit (Value.int IntKind.i64 (-1 : Int))], [F.lit (Value.int IntKind.i64 (133 : Int))]]) (fun i9 i10 => Fn10 m r2 i3 r4 r5 r6 i9 (fun r11 i12 => Fn11 m r2 i3 r4 r5 r6 i9 (fun r13 i14 => Fn12 m r2 i3 r4 r5 r6 (fun r15 i16 => bif decide (i9 < (0 : Int)) then (Fn14 m true ((1 : Int)) (fun i17 => Fn13 m ([[F.lit (Value.int IntKind.i64 i7)], [F.lit (Value.int IntKind.i64 i17)]]) (fun i18 => Jn3_7 m (fun b19 => k b19) false r2 i3 r4 r5 r6 i7 i9 r11 i12 r13 i14 r15 i16 i18 r2 i3 r4 i7 i12 i14 i16))) else
 (Fn14 m (decide (i9 > (132 : Int))) ((1 : Int)) (fun i20 => Fn13 m ([[F.lit (Value.int IntKind.i64 i7)], [F.lit (Value.int IntKind.i64 i20)]]) (fun i21 => Jn3_7 m (fun b22 => k b22) false r2 i3 r4 r5 r6 i7 i9 r11 i12 r13 i14 r15 i16 i21 r2 i3 r4 i7 i12 i14 i16)))))))))
noncomputable def brFn3 (m : Nat) (T : Tbl) (R : Type) (vs : List V) (k : V → List V → Option R) : Option R := match vs with
 | [.f (.lst [.int .i64] r1)] => Fn3 m r1 (fun b23 => k (V.f (F.lit (Value.bool b23))) W17)
 | _ => T R 3 vs k

theorem evFn3 (m : Nat) (R : Type) (r1 : Abs.Rows) (k : V → List V → Option R) : runK Tryz.prog H (T81 m) (L71 m) 3 (W126 r1) k = Fn3 (m + 1) r1 (fun b23 => k (V.f (F.lit (Value.bool b23))) W17) := by kernel_rfl
noncomputable def T82 (m : Nat) : Tbl := addT 3 (brFn3 m (T81 m)) (T81 m)
theorem okT82 (m : Nat) : TblOk Tryz.prog (T82 m) := addT_ok (okT81 m) fun R vs k x h => by
 unfold brFn3 at h
 split at h
 ·cases m with
  | zero => cases h
  | succ m => exact runK_some (okT81 m) hM (okL71 m) ((evFn3 m R _ k).trans h)
 ·exact okT81 m R 3 _ k x h


end Go.Proofs.YtcoplddcbedeoaaGreatDoor.Med
end
