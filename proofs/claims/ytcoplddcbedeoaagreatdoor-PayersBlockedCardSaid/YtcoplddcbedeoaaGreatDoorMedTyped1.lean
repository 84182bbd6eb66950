/- A part of the proofs of the seat YtcoplddcbedeoaaGreatDoor: no statement of the seat stands here. -/
import Derived.Test.YtcoplddcbedeoaaGreatDoorMedTyped0
section
set_option linter.unusedVariables false
set_option linter.unusedSimpArgs false
set_option linter.unusedSectionVars false
namespace Go.Proofs.YtcoplddcbedeoaaGreatDoor.Med
open Go Go.Abs Go.Proofs
set_option linter.unusedVariables false
set_option maxHeartbeats 8000000
set_option maxRecDepth 100000
/-- - -/
noncomputable def Jn48_13 {R : Type} (m : Nat) (kx0 : Int → Bool → Option R) (kx1 : Int → Option R) (kx2 : Option R) (r0 : Abs.Rows) (i1 : Int) (r2 : Abs.Rows) (b3 : Bool) (i4 : Int) (s5 s6 s7 : ByteArray) (i8 i9 i10 i11 : Int) (s12 : ByteArray) (r13 : Abs.Rows) (i14 i15 : Int) (b16 : Bool) : Option R :=
 bif b16 then (kx0 ((3 : Int)) true) else
 (Fn77 m i8 (fun b17 => bif !b17 then (Jn48_15 m (fun i18 b19 => kx1 i18) (fun i20 => kx1 i20) (kx2 ) r0 i1 r2 b3 i4 s5 s6 s7 i8 i9 i10 i11 s12 r13 i14 i15 true) else
 (Fn75 m i9 ((0 : Int)) ((86400000 : Int)) (fun b21 => bif !b21 then (Jn48_15 m (fun i22 b23 => kx1 i22) (fun i24 => kx1 i24) (kx2 ) r0 i1 r2 b3 i4 s5 s6 s7 i8 i9 i10 i11 s12 r13 i14 i15 true) else
 (Fn75 m i10 ((0 : Int)) ((86400000 : Int)) (fun b25 => Jn48_15 m (fun i26 b27 => kx1 i26) (fun i28 => kx1 i28) (kx2 ) r0 i1 r2 b3 i4 s5 s6 s7 i8 i9 i10 i11 s12 r13 i14 i15 (!b25)))))))
noncomputable def brJn48_13 (m : Nat) (L : LTbl) (R : Type) (vs : List V) (k : Ex → List V → Option R) : Option R := match vs with
 | [.bor [.str, .str, .str, .int .i64, .int .i64, .int .i64, .int .i64, .str] r0, .f (.lit (.int .i64 i1)), .own [.mp false, .str, .bool] r2, .f (.lit (.bool b3)), .f (.lit (.int .i64 i4)), .obj [.f (.lit (.string s5)), .f (.lit (.string s6)), .f (.lit (.string s7)), .f (.lit (.int .i64 i8)), .f (.lit (.int .i64 i9)), .f (.lit (.int .i64 i10)), .f (.lit (.int .i64 i11)), .f (.lit (.string s12))], .undef, .bor [.str, .str, .str, .int .i64, .int .i64, .int .i64, .int .i64, .str] r13, .f (.lit (.int .i64 i14)), .f (.lit (.int .i64 i15)), .f (.lit (.bool b16)), .undef] => Jn48_13 m (fun i29 b30 => k Ex.ret (W64 r0 i29 r2 b3 i4 s5 s6 s7 i8 i9 i10 i11 s12 r13 i14 i15 b30)) (fun i31 => k Ex.ret (W65 r0 i31 r2 b3 i4 s5 s6 s7 i8 i9 i10 i11 s12 r13 i14 i15)) (k Ex.normal (W65 r0 i1 r2 b3 i4 s5 s6 s7 i8 i9 i10 i11 s12 r13 i14 i15)) r0 i1 r2 b3 i4 s5 s6 s7 i8 i9 i10 i11 s12 r13 i14 i15 b16
 | _ => L R 48 13 vs k

theorem evJn48_13 (m : Nat) (R : Type) (r0 : Abs.Rows) (i1 : Int) (r2 : Abs.Rows) (b3 : Bool) (i4 : Int) (s5 s6 s7 : ByteArray) (i8 i9 i10 i11 : Int) (s12 : ByteArray) (r13 : Abs.Rows) (i14 i15 : Int) (b16 : Bool) (k : Ex → List V → Option R) : codeK Tryz.prog H (T52 m) 48 (L38 m) 14 (loopBody Tryz.prog 48 13) (mkEnv [0, 2, 3, 4, 5, 6, 10, 11, 12, 13, 23, 99] (W64 r0 i1 r2 b3 i4 s5 s6 s7 i8 i9 i10 i11 s12 r13 i14 i15 b16) 0 (H.len 48)) (fun e env' => k e (vals [0, 2, 3, 4, 5, 6, 10, 11, 12, 13, 23, 99] env')) = Jn48_13 m (fun i29 b30 => k Ex.ret (W64 r0 i29 r2 b3 i4 s5 s6 s7 i8 i9 i10 i11 s12 r13 i14 i15 b30)) (fun i31 => k Ex.ret (W65 r0 i31 r2 b3 i4 s5 s6 s7 i8 i9 i10 i11 s12 r13 i14 i15)) (k Ex.normal (W65 r0 i1 r2 b3 i4 s5 s6 s7 i8 i9 i10 i11 s12 r13 i14 i15)) r0 i1 r2 b3 i4 s5 s6 s7 i8 i9 i10 i11 s12 r13 i14 i15 b16 := by kernel_rfl
noncomputable def L39 (m : Nat) : LTbl := addJ 48 13 (brJn48_13 m (L38 m)) (L38 m)
theorem okL39 (m : Nat) : LTOk Tryz.prog H (L39 m) := addJ_ok (okT52 m) hM (okL38 m) (l := [0, 2, 3, 4, 5, 6, 10, 11, 12, 13, 23, 99]) (by kernel_rfl) (by kernel_rfl) fun R vs k x h => by
  unfold brJn48_13 at h
  split at h
  ·exact .inl ((evJn48_13 m R _ _ _ _ _ _ _ _ _ _ _ _ _ _ _ _ _ k).trans h)
  ·exact .inr h

abbrev W66 (a0 : Abs.Rows) (a1 : Int) (a2 : Abs.Rows) (a3 : Bool) (a4 a5 a6 : ByteArray) (a7 a8 a9 a10 : Int) (a11 : ByteArray) (a12 : Abs.Rows) (a13 a14 : Int) : List V := [.bor J2 a0, .f (.lit (.int .i64 a1)), .own J8 a2, .f (.lit (.bool a3)), .obj [.f (.lit (.string a4)), .f (.lit (.string a5)), .f (.lit (.string a6)), .f (.lit (.int .i64 a7)), .f (.lit (.int .i64 a8)), .f (.lit (.int .i64 a9)), .f (.lit (.int .i64 a10)), .f (.lit (.string a11))], .undef, .bor J2 a12, .f (.lit (.int .i64 a13)), .f (.lit (.int .i64 a14)), .undef]
/-- - -/
noncomputable def Jn48_25 {R : Type} (m : Nat) (kx0 : Abs.Rows → Bool → Option R) (r0 : Abs.Rows) (i1 : Int) (r2 : Abs.Rows) (b3 : Bool) (s4 s5 s6 : ByteArray) (i7 i8 i9 i10 : Int) (s11 : ByteArray) (r12 : Abs.Rows) (i13 i14 : Int) : Option R :=
 bif b3 then (bif decide (List.length r2 < rowMax) then (kx0 (mPut (F.lit (Value.string s4)) [F.lit (Value.bool true)] r2) true) else
 (none)) else
 (bif decide (List.length r2 < rowMax) then (kx0 (mPut (F.lit (Value.string s4)) [F.lit (Value.bool true)] r2) (F.toBool (List.headD (mRow (F.lit (Value.string s4)) [F.lit (Value.bool false)] r2) default))) else
 (none))
noncomputable def brJn48_25 (m : Nat) (L : LTbl) (R : Type) (vs : List V) (k : Ex → List V → Option R) : Option R := match vs with
 | [.bor [.str, .str, .str, .int .i64, .int .i64, .int .i64, .int .i64, .str] r0, .f (.lit (.int .i64 i1)), .own [.mp false, .str, .bool] r2, .f (.lit (.bool b3)), .obj [.f (.lit (.string s4)), .f (.lit (.string s5)), .f (.lit (.string s6)), .f (.lit (.int .i64 i7)), .f (.lit (.int .i64 i8)), .f (.lit (.int .i64 i9)), .f (.lit (.int .i64 i10)), .f (.lit (.string s11))], .undef, .bor [.str, .str, .str, .int .i64, .int .i64, .int .i64, .int .i64, .str] r12, .f (.lit (.int .i64 i13)), .f (.lit (.int .i64 i14)), .undef] => Jn48_25 m (fun r15 b16 => k Ex.normal (W66 r0 i1 r15 b16 s4 s5 s6 i7 i8 i9 i10 s11 r12 i13 i14)) r0 i1 r2 b3 s4 s5 s6 i7 i8 i9 i10 s11 r12 i13 i14
 | _ => L R 48 25 vs k

theorem evJn48_25 (m : Nat) (R : Type) (r0 : Abs.Rows) (i1 : Int) (r2 : Abs.Rows) (b3 : Bool) (s4 s5 s6 : ByteArray) (i7 i8 i9 i10 : Int) (s11 : ByteArray) (r12 : Abs.Rows) (i13 i14 : Int) (k : Ex → List V → Option R) : codeK Tryz.prog H (T52 m) 48 (L39 m) 26 (loopBody Tryz.prog 48 25) (mkEnv [0, 2, 3, 4, 6, 10, 11, 12, 13, 99] (W66 r0 i1 r2 b3 s4 s5 s6 i7 i8 i9 i10 s11 r12 i13 i14) 0 (H.len 48)) (fun e env' => k e (vals [0, 2, 3, 4, 6, 10, 11, 12, 13, 99] env')) = Jn48_25 m (fun r15 b16 => k Ex.normal (W66 r0 i1 r15 b16 s4 s5 s6 i7 i8 i9 i10 s11 r12 i13 i14)) r0 i1 r2 b3 s4 s5 s6 i7 i8 i9 i10 s11 r12 i13 i14 := by kernel_rfl
noncomputable def L40 (m : Nat) : LTbl := addJ 48 25 (brJn48_25 m (L39 m)) (L39 m)
theorem okL40 (m : Nat) : LTOk Tryz.prog H (L40 m) := addJ_ok (okT52 m) hM (okL39 m) (l := [0, 2, 3, 4, 6, 10, 11, 12, 13, 99]) (by kernel_rfl) (by kernel_rfl) fun R vs k x h => by
  unfold brJn48_25 at h
  split at h
  ·exact .inl ((evJn48_25 m R _ _ _ _ _ _ _ _ _ _ _ _ _ _ _ k).trans h)
  ·exact .inr h

abbrev W67 (a0 : Abs.Rows) (a1 : Int) (a2 : Abs.Rows) (a3 : Bool) (a4 : Abs.Rows) (a5 a6 : Int) : List V := [.bor J2 a0, .f (.lit (.int .i64 a1)), .own J8 a2, .f (.lit (.bool a3)), .undef, .bor J2 a4, .f (.lit (.int .i64 a5)), .f (.lit (.int .i64 a6)), .undef]
/-- - -/
noncomputable def Lp48_7_step {R : Type} (m : Nat) (kx0 : Int → Abs.Rows → Bool → Int → Option R) (kx1 : Abs.Rows → Bool → Int → Option R) (r0 : Abs.Rows) (i1 : Int) (r2 : Abs.Rows) (i3 : Int) (REC : Abs.Rows → Bool → Int → Option R) (r4 : Abs.Rows) (b5 : Bool) (i6 : Int) : Option R :=
 bif decide (i6 < i3) then (bif decide ((0 : Int) ≤ i6 ∧ i6 < (↑(List.length r2) : Int)) then (Fn74 m (fS r2 (Int.toNat i6) (0 : Nat)) (fun b7 => bif !b7 then (kx0 ((5 : Int)) r4 b5 i6) else
 (Fn104 m (fS r2 (Int.toNat i6) (1 : Nat)) (fun b8 => bif !b8 then (Jn48_13 m (fun i9 b10 => kx0 i9 r4 b5 i6) (fun i11 => kx0 i11 r4 b5 i6) (Jn48_25 m (fun r12 b13 => REC r12 b13 (IntKind.wrap IntKind.i64 (i6 + (1 : Int)))) r0 i1 r4 b5 (fS r2 (Int.toNat i6) (0 : Nat)) (fS r2 (Int.toNat i6) (1 : Nat)) (fS r2 (Int.toNat i6) (2 : Nat)) (fI r2 (Int.toNat i6) (3 : Nat)) (fI r2 (Int.toNat i6) (4 : Nat)) (fI r2 (Int.toNat i6) (5 : Nat)) (fI r2 (Int.toNat i6) (6 : Nat)) (fS r2 (Int.toNat i6) (7 : Nat)) r2 i3 i6) r0 i1 r4 b5 i6 (fS r2 (Int.toNat i6) (0 : Nat)) (fS r2 (Int.toNat i6) (1 : Nat)) (fS r2 (Int.toNat i6) (2 : Nat)) (fI r2 (Int.toNat i6) (3 : Nat)) (fI r2 (Int.toNat i6) (4 : Nat)) (fI r2 (Int.toNat i6) (5 : Nat)) (fI r2 (Int.toNat i6) (6 : Nat)) (fS r2 (Int.toNat i6) (7 : Nat)) r2 i3 i6 true) else
 (Fn104 m (fS r2 (Int.toNat i6) (2 : Nat)) (fun b14 => Jn48_13 m (fun i15 b16 => kx0 i15 r4 b5 i6) (fun i17 => kx0 i17 r4 b5 i6) (Jn48_25 m (fun r18 b19 => REC r18 b19 (IntKind.wrap IntKind.i64 (i6 + (1 : Int)))) r0 i1 r4 b5 (fS r2 (Int.toNat i6) (0 : Nat)) (fS r2 (Int.toNat i6) (1 : Nat)) (fS r2 (Int.toNat i6) (2 : Nat)) (fI r2 (Int.toNat i6) (3 : Nat)) (fI r2 (Int.toNat i6) (4 : Nat)) (fI r2 (Int.toNat i6) (5 : Nat)) (fI r2 (Int.toNat i6) (6 : Nat)) (fS r2 (Int.toNat i6) (7 : Nat)) r2 i3 i6) r0 i1 r4 b5 i6 (fS r2 (Int.toNat i6) (0 : Nat)) (fS r2 (Int.toNat i6) (1 : Nat)) (fS r2 (Int.toNat i6) (2 : Nat)) (fI r2 (Int.toNat i6) (3 : Nat)) (fI r2 (Int.toNat i6) (4 : Nat)) (fI r2 (Int.toNat i6) (5 : Nat)) (fI r2 (Int.toNat i6) (6 : Nat)) (fS r2 (Int.toNat i6) (7 : Nat)) r2 i3 i6 (!b14))))))) else
 (none)) else
 (kx1 r4 b5 i6)
noncomputable def Lp48_7 {R : Type} (m : Nat) (kx0 : Int → Abs.Rows → Bool → Int → Option R) (kx1 : Abs.Rows → Bool → Int → Option R) (r0 : Abs.Rows) (i1 : Int) (r2 : Abs.Rows) (i3 : Int) : Nat → Abs.Rows → Bool → Int → Option R
 | 0, _, _, _ => none
 | n + 1, r4, b5, i6 => Lp48_7_step m kx0 kx1 r0 i1 r2 i3 (Lp48_7 m kx0 kx1 r0 i1 r2 i3 n) r4 b5 i6
noncomputable def ELp48_7 (m : Nat) (R : Type) : Nat → List V → (Ex → List V → Option R) → Option R
 | 0, _, _ => none
 | n + 1, vs, k => match vs with
  | [.bor [.str, .str, .str, .int .i64, .int .i64, .int .i64, .int .i64, .str] r0, .f (.lit (.int .i64 i1)), .own [.mp false, .str, .bool] r4, .f (.lit (.bool b5)), .undef, .bor [.str, .str, .str, .int .i64, .int .i64, .int .i64, .int .i64, .str] r2, .f (.lit (.int .i64 i3)), .f (.lit (.int .i64 i6)), .undef] => Lp48_7_step m (fun i20 r21 b22 i23 => k Ex.ret (W67 r0 i20 r21 b22 r2 i3 i23)) (fun r24 b25 i26 => k (Ex.exit (0 : Nat)) (W67 r0 i1 r24 b25 r2 i3 i26)) r0 i1 r2 i3 (fun r4 b5 i6 => ELp48_7 m R n (W67 r0 i1 r4 b5 r2 i3 i6) k) r4 b5 i6
  | _ => none
noncomputable def brLp48_7 (m : Nat) (L : LTbl) (R : Type) (vs : List V) (k : Ex → List V → Option R) : Option R := match vs with
 | [.bor [.str, .str, .str, .int .i64, .int .i64, .int .i64, .int .i64, .str] r0, .f (.lit (.int .i64 i1)), .own [.mp false, .str, .bool] r4, .f (.lit (.bool b5)), .undef, .bor [.str, .str, .str, .int .i64, .int .i64, .int .i64, .int .i64, .str] r2, .f (.lit (.int .i64 i3)), .f (.lit (.int .i64 i6)), .undef] => Lp48_7 m (fun i20 r21 b22 i23 => k Ex.ret (W67 r0 i20 r21 b22 r2 i3 i23)) (fun r24 b25 i26 => k (Ex.exit (0 : Nat)) (W67 r0 i1 r24 b25 r2 i3 i26)) r0 i1 r2 i3 m r4 b5 i6
 | _ => L R 48 7 vs k

theorem stLp48_7 (m n : Nat) (R : Type) (r0 : Abs.Rows) (i1 : Int) (r4 : Abs.Rows) (b5 : Bool) (r2 : Abs.Rows) (i3 i6 : Int) (k : Ex → List V → Option R) : codeK Tryz.prog H (T52 m) 48 (L40 m) 8 (loopBody Tryz.prog 48 7) (mkEnv [0, 2, 3, 4, 10, 11, 12, 13, 99] (W67 r0 i1 r4 b5 r2 i3 i6) 0 (H.len 48)) (fun e env' => match e with | .normal => ELp48_7 m R n (vals [0, 2, 3, 4, 10, 11, 12, 13, 99] env') k | e => k e (vals [0, 2, 3, 4, 10, 11, 12, 13, 99] env')) = Lp48_7_step m (fun i20 r21 b22 i23 => k Ex.ret (W67 r0 i20 r21 b22 r2 i3 i23)) (fun r24 b25 i26 => k (Ex.exit (0 : Nat)) (W67 r0 i1 r24 b25 r2 i3 i26)) r0 i1 r2 i3 (fun r4 b5 i6 => ELp48_7 m R n (W67 r0 i1 r4 b5 r2 i3 i6) k) r4 b5 i6 := by kernel_rfl
theorem eqLp48_7 (m : Nat) (R : Type) (r0 : Abs.Rows) (i1 : Int) (r2 : Abs.Rows) (i3 : Int) (k : Ex → List V → Option R) : ∀ (n : Nat) (r4 : Abs.Rows) (b5 : Bool) (i6 : Int), ELp48_7 m R n (W67 r0 i1 r4 b5 r2 i3 i6) k = Lp48_7 m (fun i20 r21 b22 i23 => k Ex.ret (W67 r0 i20 r21 b22 r2 i3 i23)) (fun r24 b25 i26 => k (Ex.exit (0 : Nat)) (W67 r0 i1 r24 b25 r2 i3 i26)) r0 i1 r2 i3 n r4 b5 i6
 | 0, _, _, _ => rfl
 | n + 1, r4, b5, i6 => by
  simp only [ELp48_7, Lp48_7, W67]
  congr 1
  funext r4 b5 i6
  exact eqLp48_7 m R r0 i1 r2 i3 k n r4 b5 i6
noncomputable def L41 (m : Nat) : LTbl := addB 48 7 (brLp48_7 m (L40 m)) (L40 m)
theorem okL41 (m : Nat) : LTOk Tryz.prog H (L41 m) := addB_ok (okT52 m) hM (okL40 m) (l := [0, 2, 3, 4, 10, 11, 12, 13, 99]) (by kernel_rfl) (by kernel_rfl) m (fun R n vs k => ELp48_7 m R n vs k) (fun R vs k => rfl) (fun R n vs k x h => by
   simp only [ELp48_7] at h
   split at h
   ·exact (stLp48_7 m n R _ _ _ _ _ _ _ k).trans h
   ·cases h) fun R vs k x h => by
  unfold brLp48_7 at h
  split at h
  ·exact .inl ((eqLp48_7 m R _ _ _ _ k m _ _ _).trans h)
  ·exact .inr h

/-- - -/
noncomputable def Fn48 {R : Type} (m : Nat) : Abs.Rows → (Int → Option R) → Option R := match m with
 | 0 => fun _ _ => none
 | m + 1 => fun r0 k =>
 bif decide ((↑(List.length r0) : Int) > (3000 : Int)) then (k ((2 : Int))) else
 (Lp48_7 m (fun i1 r2 b3 i4 => k i1) (fun r5 b6 i7 => bif b6 then (k ((6 : Int))) else
 (k ((0 : Int)))) r0 ((0 : Int)) r0 ((↑(List.length r0) : Int)) m rows0 false ((0 : Int)))
noncomputable def brFn48 (m : Nat) (T : Tbl) (R : Type) (vs : List V) (k : V → List V → Option R) : Option R := match vs with
 | [.bor [.str, .str, .str, .int .i64, .int .i64, .int .i64, .int .i64, .str] r0] => Fn48 m r0 (fun i8 => k (V.f (F.lit (Value.int IntKind.i64 i8))) W17)
 | _ => T R 48 vs k

theorem evFn48 (m : Nat) (R : Type) (r0 : Abs.Rows) (k : V → List V → Option R) : runK Tryz.prog H (T52 m) (L41 m) 48 (W49 r0) k = Fn48 (m + 1) r0 (fun i8 => k (V.f (F.lit (Value.int IntKind.i64 i8))) W17) := by kernel_rfl
noncomputable def T53 (m : Nat) : Tbl := addT 48 (brFn48 m (T52 m)) (T52 m)
theorem okT53 (m : Nat) : TblOk Tryz.prog (T53 m) := addT_ok (okT52 m) fun R vs k x h => by
 unfold brFn48 at h
 split at h
 ·cases m with
  | zero => cases h
  | succ m => exact runK_some (okT52 m) hM (okL41 m) ((evFn48 m R _ k).trans h)
 ·exact okT52 m R 48 _ k x h

abbrev W68 : List V := [.undef, .undef, .undef, .undef]
abbrev W69 (a0 : Abs.Rows) (a1 : Int) (a2 a3 a4 a5 : Abs.Rows) : List V := [.agg [.f (.lst J4 a0), .f (.lit (.int .i64 a1)), .f (.lst J3 a2)], .bor J7 a3, .f (.lst J5 a4), .bor J2 a5]
/-- - -/
noncomputable def Fn66 {R : Type} (m : Nat) : Abs.Rows → Int → Abs.Rows → Abs.Rows → Abs.Rows → Abs.Rows → (Int → Option R) → Option R := match m with
 | 0 => fun _ _ _ _ _ _ _ => none
 | m + 1 => fun r0 i1 r2 r3 r4 r5 k =>
 Fn82 m r0 i1 r2 (fun i6 => bif i6 != (0 : Int) then (k i6) else
 (Fn111 m r3 (fun i7 => bif i7 != (0 : Int) then (k i7) else
 (Fn29 m r4 (fun i8 => bif i8 != (0 : Int) then (k i8) else
 (Fn48 m r5 (fun i9 => k i9)))))))
noncomputable def brFn66 (m : Nat) (T : Tbl) (R : Type) (vs : List V) (k : V → List V → Option R) : Option R := match vs with
 | [.agg [.f (.lst [.str, .str, .int .i64, .int .i64, .int .i64, .int .i64] r0), .f (.lit (.int .i64 i1)), .f (.lst [.str] r2)], .bor [.str, .lst [.str]] r3, .f (.lst [.str, .int .i64, .int .i64, .int .i64, .int .i64] r4), .bor [.str, .str, .str, .int .i64, .int .i64, .int .i64, .int .i64, .str] r5] => Fn66 m r0 i1 r2 r3 r4 r5 (fun i10 => k (V.f (F.lit (Value.int IntKind.i64 i10))) W68)
 | _ => T R 66 vs k

theorem evFn66 (m : Nat) (R : Type) (r0 : Abs.Rows) (i1 : Int) (r2 r3 r4 r5 : Abs.Rows) (k : V → List V → Option R) : runK Tryz.prog H (T53 m) (L41 m) 66 (W69 r0 i1 r2 r3 r4 r5) k = Fn66 (m + 1) r0 i1 r2 r3 r4 r5 (fun i10 => k (V.f (F.lit (Value.int IntKind.i64 i10))) W68) := by kernel_rfl
noncomputable def T54 (m : Nat) : Tbl := addT 66 (brFn66 m (T53 m)) (T53 m)
theorem okT54 (m : Nat) : TblOk Tryz.prog (T54 m) := addT_ok (okT53 m) fun R vs k x h => by
 unfold brFn66 at h
 split at h
 ·cases m with
  | zero => cases h
  | succ m => exact runK_some (okT53 m) hM (okL41 m) ((evFn66 m R _ _ _ _ _ _ k).trans h)
 ·exact okT53 m R 66 _ k x h

abbrev W70 (a0 a1 : Abs.Rows) (a2 : ByteArray) (a3 a4 : Abs.Rows) (a5 a6 : Int) (a7 : Abs.Rows) (a8 a9 : Int) : List V := [.bor J7 a0, .own J10 a1, .obj [.f (.lit (.string a2)), .f (.lst J3 a3)], .undef, .bor J7 a4, .f (.lit (.int .i64 a5)), .f (.lit (.int .i64 a6)), .ref 5 1, .f (.lst J3 a7), .f (.lit (.int .i64 a8)), .f (.lit (.int .i64 a9)), .undef]
/-- - -/
noncomputable def Lp56_8_step {R : Type} (m : Nat) (kx0 : Abs.Rows → Int → Option R) (r0 : Abs.Rows) (s1 : ByteArray) (r2 r3 : Abs.Rows) (i4 i5 : Int) (r6 : Abs.Rows) (i7 : Int) (REC : Abs.Rows → Int → Option R) (r8 : Abs.Rows) (i9 : Int) : Option R :=
 bif decide (i9 < i7) then (bif decide ((0 : Int) ≤ i9 ∧ i9 < (↑(List.length r6) : Int)) then (bif decide (List.length r8 < rowMax) then (REC (mPut (F.lit (Value.string (fS r6 (Int.toNat i9) (0 : Nat)))) [F.lit (Value.string s1)] r8) (IntKind.wrap IntKind.i64 (i9 + (1 : Int)))) else
 (none)) else
 (none)) else
 (kx0 r8 i9)
noncomputable def Lp56_8 {R : Type} (m : Nat) (kx0 : Abs.Rows → Int → Option R) (r0 : Abs.Rows) (s1 : ByteArray) (r2 r3 : Abs.Rows) (i4 i5 : Int) (r6 : Abs.Rows) (i7 : Int) : Nat → Abs.Rows → Int → Option R
 | 0, _, _ => none
 | n + 1, r8, i9 => Lp56_8_step m kx0 r0 s1 r2 r3 i4 i5 r6 i7 (Lp56_8 m kx0 r0 s1 r2 r3 i4 i5 r6 i7 n) r8 i9
noncomputable def ELp56_8 (m : Nat) (R : Type) : Nat → List V → (Ex → List V → Option R) → Option R
 | 0, _, _ => none
 | n + 1, vs, k => match vs with
  | [.bor [.str, .lst [.str]] r0, .own [.mp false, .str, .str] r8, .obj [.f (.lit (.string s1)), .f (.lst [.str] r2)], .undef, .bor [.str, .lst [.str]] r3, .f (.lit (.int .i64 i4)), .f (.lit (.int .i64 i5)), .ref 5 1, .f (.lst [.str] r6), .f (.lit (.int .i64 i7)), .f (.lit (.int .i64 i9)), .undef] => Lp56_8_step m (fun r10 i11 => k (Ex.exit (2 : Nat)) (W70 r0 r10 s1 r2 r3 i4 i5 r6 i7 i11)) r0 s1 r2 r3 i4 i5 r6 i7 (fun r8 i9 => ELp56_8 m R n (W70 r0 r8 s1 r2 r3 i4 i5 r6 i7 i9) k) r8 i9
  | _ => none
noncomputable def brLp56_8 (m : Nat) (L : LTbl) (R : Type) (vs : List V) (k : Ex → List V → Option R) : Option R := match vs with
 | [.bor [.str, .lst [.str]] r0, .own [.mp false, .str, .str] r8, .obj [.f (.lit (.string s1)), .f (.lst [.str] r2)], .undef, .bor [.str, .lst [.str]] r3, .f (.lit (.int .i64 i4)), .f (.lit (.int .i64 i5)), .ref 5 1, .f (.lst [.str] r6), .f (.lit (.int .i64 i7)), .f (.lit (.int .i64 i9)), .undef] => Lp56_8 m (fun r10 i11 => k (Ex.exit (2 : Nat)) (W70 r0 r10 s1 r2 r3 i4 i5 r6 i7 i11)) r0 s1 r2 r3 i4 i5 r6 i7 m r8 i9
 | _ => L R 56 8 vs k

theorem stLp56_8 (m n : Nat) (R : Type) (r0 r8 : Abs.Rows) (s1 : ByteArray) (r2 r3 : Abs.Rows) (i4 i5 : Int) (r6 : Abs.Rows) (i7 i9 : Int) (k : Ex → List V → Option R) : codeK Tryz.prog H (T54 m) 56 (L41 m) 9 (loopBody Tryz.prog 56 8) (mkEnv [0, 3, 5, 8, 9, 10, 11, 15, 16, 17, 18, 29] (W70 r0 r8 s1 r2 r3 i4 i5 r6 i7 i9) 0 (H.len 56)) (fun e env' => match e with | .normal => ELp56_8 m R n (vals [0, 3, 5, 8, 9, 10, 11, 15, 16, 17, 18, 29] env') k | e => k e (vals [0, 3, 5, 8, 9, 10, 11, 15, 16, 17, 18, 29] env')) = Lp56_8_step m (fun r10 i11 => k (Ex.exit (2 : Nat)) (W70 r0 r10 s1 r2 r3 i4 i5 r6 i7 i11)) r0 s1 r2 r3 i4 i5 r6 i7 (fun r8 i9 => ELp56_8 m R n (W70 r0 r8 s1 r2 r3 i4 i5 r6 i7 i9) k) r8 i9 := by kernel_rfl
theorem eqLp56_8 (m : Nat) (R : Type) (r0 : Abs.Rows) (s1 : ByteArray) (r2 r3 : Abs.Rows) (i4 i5 : Int) (r6 : Abs.Rows) (i7 : Int) (k : Ex → List V → Option R) : ∀ (n : Nat) (r8 : Abs.Rows) (i9 : Int), ELp56_8 m R n (W70 r0 r8 s1 r2 r3 i4 i5 r6 i7 i9) k = Lp56_8 m (fun r10 i11 => k (Ex.exit (2 : Nat)) (W70 r0 r10 s1 r2 r3 i4 i5 r6 i7 i11)) r0 s1 r2 r3 i4 i5 r6 i7 n r8 i9
 | 0, _, _ => rfl
 | n + 1, r8, i9 => by
  simp only [ELp56_8, Lp56_8, W70]
  congr 1
  funext r8 i9
  exact eqLp56_8 m R r0 s1 r2 r3 i4 i5 r6 i7 k n r8 i9
noncomputable def L42 (m : Nat) : LTbl := addB 56 8 (brLp56_8 m (L41 m)) (L41 m)
theorem okL42 (m : Nat) : LTOk Tryz.prog H (L42 m) := addB_ok (okT54 m) hM (okL41 m) (l := [0, 3, 5, 8, 9, 10, 11, 15, 16, 17, 18, 29]) (by kernel_rfl) (by kernel_rfl) m (fun R n vs k => ELp56_8 m R n vs k) (fun R vs k => rfl) (fun R n vs k x h => by
   simp only [ELp56_8] at h
   split at h
   ·exact (stLp56_8 m n R _ _ _ _ _ _ _ _ _ _ k).trans h
   ·cases h) fun R vs k x h => by
  unfold brLp56_8 at h
  split at h
  ·exact .inl ((eqLp56_8 m R _ _ _ _ _ _ _ _ k m _ _).trans h)
  ·exact .inr h

abbrev W71 (a0 a1 a2 : Abs.Rows) (a3 a4 : Int) : List V := [.bor J7 a0, .own J10 a1, .undef, .bor J7 a2, .f (.lit (.int .i64 a3)), .f (.lit (.int .i64 a4)), .undef]
/-- - -/
noncomputable def Lp56_3_step {R : Type} (m : Nat) (kx0 : Abs.Rows → Int → Option R) (r0 r1 : Abs.Rows) (i2 : Int) (REC : Abs.Rows → Int → Option R) (r3 : Abs.Rows) (i4 : Int) : Option R :=
 bif decide (i4 < i2) then (bif decide ((0 : Int) ≤ i4 ∧ i4 < (↑(List.length r1) : Int)) then (Lp56_8 m (fun r5 i6 => REC r5 (IntKind.wrap IntKind.i64 (i4 + (1 : Int)))) r0 (fS r1 (Int.toNat i4) (0 : Nat)) (fR r1 (Int.toNat i4) (1 : Nat)) r1 i2 i4 (fR r1 (Int.toNat i4) (1 : Nat)) ((↑(List.length (fR r1 (Int.toNat i4) (1 : Nat))) : Int)) m r3 ((0 : Int))) else
 (none)) else
 (kx0 r3 i4)
noncomputable def Lp56_3 {R : Type} (m : Nat) (kx0 : Abs.Rows → Int → Option R) (r0 r1 : Abs.Rows) (i2 : Int) : Nat → Abs.Rows → Int → Option R
 | 0, _, _ => none
 | n + 1, r3, i4 => Lp56_3_step m kx0 r0 r1 i2 (Lp56_3 m kx0 r0 r1 i2 n) r3 i4
noncomputable def ELp56_3 (m : Nat) (R : Type) : Nat → List V → (Ex → List V → Option R) → Option R
 | 0, _, _ => none
 | n + 1, vs, k => match vs with
  | [.bor [.str, .lst [.str]] r0, .own [.mp false, .str, .str] r3, .undef, .bor [.str, .lst [.str]] r1, .f (.lit (.int .i64 i2)), .f (.lit (.int .i64 i4)), .undef] => Lp56_3_step m (fun r7 i8 => k (Ex.exit (0 : Nat)) (W71 r0 r7 r1 i2 i8)) r0 r1 i2 (fun r3 i4 => ELp56_3 m R n (W71 r0 r3 r1 i2 i4) k) r3 i4
  | _ => none
noncomputable def brLp56_3 (m : Nat) (L : LTbl) (R : Type) (vs : List V) (k : Ex → List V → Option R) : Option R := match vs with
 | [.bor [.str, .lst [.str]] r0, .own [.mp false, .str, .str] r3, .undef, .bor [.str, .lst [.str]] r1, .f (.lit (.int .i64 i2)), .f (.lit (.int .i64 i4)), .undef] => Lp56_3 m (fun r7 i8 => k (Ex.exit (0 : Nat)) (W71 r0 r7 r1 i2 i8)) r0 r1 i2 m r3 i4
 | _ => L R 56 3 vs k

theorem stLp56_3 (m n : Nat) (R : Type) (r0 r3 r1 : Abs.Rows) (i2 i4 : Int) (k : Ex → List V → Option R) : codeK Tryz.prog H (T54 m) 56 (L42 m) 4 (loopBody Tryz.prog 56 3) (mkEnv [0, 3, 8, 9, 10, 11, 29] (W71 r0 r3 r1 i2 i4) 0 (H.len 56)) (fun e env' => match e with | .normal => ELp56_3 m R n (vals [0, 3, 8, 9, 10, 11, 29] env') k | e => k e (vals [0, 3, 8, 9, 10, 11, 29] env')) = Lp56_3_step m (fun r7 i8 => k (Ex.exit (0 : Nat)) (W71 r0 r7 r1 i2 i8)) r0 r1 i2 (fun r3 i4 => ELp56_3 m R n (W71 r0 r3 r1 i2 i4) k) r3 i4 := by kernel_rfl
theorem eqLp56_3 (m : Nat) (R : Type) (r0 r1 : Abs.Rows) (i2 : Int) (k : Ex → List V → Option R) : ∀ (n : Nat) (r3 : Abs.Rows) (i4 : Int), ELp56_3 m R n (W71 r0 r3 r1 i2 i4) k = Lp56_3 m (fun r7 i8 => k (Ex.exit (0 : Nat)) (W71 r0 r7 r1 i2 i8)) r0 r1 i2 n r3 i4
 | 0, _, _ => rfl
 | n + 1, r3, i4 => by
  simp only [ELp56_3, Lp56_3, W71]
  congr 1
  funext r3 i4
  exact eqLp56_3 m R r0 r1 i2 k n r3 i4
noncomputable def L43 (m : Nat) : LTbl := addB 56 3 (brLp56_3 m (L42 m)) (L42 m)
theorem okL43 (m : Nat) : LTOk Tryz.prog H (L43 m) := addB_ok (okT54 m) hM (okL42 m) (l := [0, 3, 8, 9, 10, 11, 29]) (by kernel_rfl) (by kernel_rfl) m (fun R n vs k => ELp56_3 m R n vs k) (fun R vs k => rfl) (fun R n vs k x h => by
   simp only [ELp56_3] at h
   split at h
   ·exact (stLp56_3 m n R _ _ _ _ _ k).trans h
   ·cases h) fun R vs k x h => by
  unfold brLp56_3 at h
  split at h
  ·exact .inl ((eqLp56_3 m R _ _ _ k m _ _).trans h)
  ·exact .inr h

/-- - -/
noncomputable def Fn56 {R : Type} (m : Nat) : Abs.Rows → (Abs.Rows → Option R) → Option R := match m with
 | 0 => fun _ _ => none
 | m + 1 => fun r0 k =>
 Lp56_3 m (fun r1 i2 => k r1) r0 r0 ((↑(List.length r0) : Int)) m rows0 ((0 : Int))
noncomputable def brFn56 (m : Nat) (T : Tbl) (R : Type) (vs : List V) (k : V → List V → Option R) : Option R := match vs with
 | [.bor [.str, .lst [.str]] r0] => Fn56 m r0 (fun r3 => k (V.own [LT.mp false, LT.str, LT.str] r3) W17)
 | _ => T R 56 vs k

theorem evFn56 (m : Nat) (R : Type) (r0 : Abs.Rows) (k : V → List V → Option R) : runK Tryz.prog H (T54 m) (L43 m) 56 (W44 r0) k = Fn56 (m + 1) r0 (fun r3 => k (V.own [LT.mp false, LT.str, LT.str] r3) W17) := by kernel_rfl
noncomputable def T55 (m : Nat) : Tbl := addT 56 (brFn56 m (T54 m)) (T54 m)
theorem okT55 (m : Nat) : TblOk Tryz.prog (T55 m) := addT_ok (okT54 m) fun R vs k x h => by
 unfold brFn56 at h
 split at h
 ·cases m with
  | zero => cases h
  | succ m => exact runK_some (okT54 m) hM (okL43 m) ((evFn56 m R _ k).trans h)
 ·exact okT54 m R 56 _ k x h

abbrev W72 (a0 : ByteArray) (a1 a2 a3 : Int) (a4 a5 : Abs.Rows) : List V := [.agg [.f (.lit (.string a0)), .f (.lit (.int .i64 a1)), .f (.lit (.int .i64 a2)), .f (.lit (.int .i64 a3))], .iref J3 a4 0 0, .iref J1 a5 0 0]
/-- - -/
noncomputable def Fn120 {R : Type} (m : Nat) : ByteArray → Int → Int → Int → ByteArray → Int → (Bool → Option R) → Option R := match m with
 | 0 => fun _ _ _ _ _ _ _ => none
 | m + 1 => fun s0 i1 i2 i3 s4 i5 k =>
 bif ByteArray.toList s0 == ByteArray.toList s4 then (bif decide (i2 ≤ i5) then (k (decide (i5 < i3))) else
 (k false)) else
 (k false)
noncomputable def brFn120 (m : Nat) (T : Tbl) (R : Type) (vs : List V) (k : V → List V → Option R) : Option R := match vs with
 | [.agg [.f (.lit (.string s0)), .f (.lit (.int .i64 i1)), .f (.lit (.int .i64 i2)), .f (.lit (.int .i64 i3))], .iref [.str] [[F.lit (Value.string s4)]] 0 0, .iref [.int .i64] [[F.lit (Value.int IntKind.i64 i5)]] 0 0] => Fn120 m s0 i1 i2 i3 s4 i5 (fun b6 => k (V.f (F.lit (Value.bool b6))) W32)
 | _ => T R 120 vs k

theorem evFn120 (m : Nat) (R : Type) (s0 : ByteArray) (i1 i2 i3 : Int) (s4 : ByteArray) (i5 : Int) (k : V → List V → Option R) : runK Tryz.prog H (T55 m) (L43 m) 120 (W72 s0 i1 i2 i3 [[F.lit (Value.string s4)]] [[F.lit (Value.int IntKind.i64 i5)]]) k = Fn120 (m + 1) s0 i1 i2 i3 s4 i5 (fun b6 => k (V.f (F.lit (Value.bool b6))) W32) := by kernel_rfl
noncomputable def T56 (m : Nat) : Tbl := addT 120 (brFn120 m (T55 m)) (T55 m)
theorem okT56 (m : Nat) : TblOk Tryz.prog (T56 m) := addT_ok (okT55 m) fun R vs k x h => by
 unfold brFn120 at h
 split at h
 ·cases m with
  | zero => cases h
  | succ m => exact runK_some (okT55 m) hM (okL43 m) ((evFn120 m R _ _ _ _ _ _ k).trans h)
 ·exact okT55 m R 120 _ k x h

abbrev W73 (a0 a1 a2 : Abs.Rows) (a3 a4 a5 : Int) : List V := [.bor J6 a0, .clos 120 [.iref J3 a1 0 0, .iref J1 a2 0 0], .f (.lit (.int .i64 a3)), .f (.lit (.int .i64 a4)), .f (.lit (.int .i64 a5)), .undef, .undef]
/-- - -/
noncomputable def Lp121_2_step {R : Type} (m : Nat) (kx0 : Int → Int → Option R) (kx1 : Int → Option R) (r0 : Abs.Rows) (s1 : ByteArray) (i2 i3 i4 : Int) (REC : Int → Option R) (i5 : Int) : Option R :=
 bif decide (i5 < i4) then (bif decide ((0 : Int) ≤ i5 ∧ i5 < (↑(List.length r0) : Int)) then (Fn120 m (fS r0 (Int.toNat i5) (0 : Nat)) (fI r0 (Int.toNat i5) (1 : Nat)) (fI r0 (Int.toNat i5) (2 : Nat)) (fI r0 (Int.toNat i5) (3 : Nat)) s1 i2 (fun b6 => bif b6 then (kx0 i5 i5) else
 (REC (IntKind.wrap IntKind.i64 (i5 + (1 : Int)))))) else
 (none)) else
 (kx1 i5)
noncomputable def Lp121_2 {R : Type} (m : Nat) (kx0 : Int → Int → Option R) (kx1 : Int → Option R) (r0 : Abs.Rows) (s1 : ByteArray) (i2 i3 i4 : Int) : Nat → Int → Option R
 | 0, _ => none
 | n + 1, i5 => Lp121_2_step m kx0 kx1 r0 s1 i2 i3 i4 (Lp121_2 m kx0 kx1 r0 s1 i2 i3 i4 n) i5
noncomputable def ELp121_2 (m : Nat) (R : Type) : Nat → List V → (Ex → List V → Option R) → Option R
 | 0, _, _ => none
 | n + 1, vs, k => match vs with
  | [.bor [.str, .int .i64, .int .i64, .int .i64] r0, .clos 120 [.iref [.str] [[F.lit (Value.string s1)]] 0 0, .iref [.int .i64] [[F.lit (Value.int IntKind.i64 i2)]] 0 0], .f (.lit (.int .i64 i3)), .f (.lit (.int .i64 i4)), .f (.lit (.int .i64 i5)), .undef, .undef] => Lp121_2_step m (fun i7 i8 => k Ex.ret (W73 r0 [[F.lit (Value.string s1)]] [[F.lit (Value.int IntKind.i64 i2)]] i7 i4 i8)) (fun i9 => k (Ex.exit (0 : Nat)) (W73 r0 [[F.lit (Value.string s1)]] [[F.lit (Value.int IntKind.i64 i2)]] i3 i4 i9)) r0 s1 i2 i3 i4 (fun i5 => ELp121_2 m R n (W73 r0 [[F.lit (Value.string s1)]] [[F.lit (Value.int IntKind.i64 i2)]] i3 i4 i5) k) i5
  | _ => none
noncomputable def brLp121_2 (m : Nat) (L : LTbl) (R : Type) (vs : List V) (k : Ex → List V → Option R) : Option R := match vs with
 | [.bor [.str, .int .i64, .int .i64, .int .i64] r0, .clos 120 [.iref [.str] [[F.lit (Value.string s1)]] 0 0, .iref [.int .i64] [[F.lit (Value.int IntKind.i64 i2)]] 0 0], .f (.lit (.int .i64 i3)), .f (.lit (.int .i64 i4)), .f (.lit (.int .i64 i5)), .undef, .undef] => Lp121_2 m (fun i7 i8 => k Ex.ret (W73 r0 [[F.lit (Value.string s1)]] [[F.lit (Value.int IntKind.i64 i2)]] i7 i4 i8)) (fun i9 => k (Ex.exit (0 : Nat)) (W73 r0 [[F.lit (Value.string s1)]] [[F.lit (Value.int IntKind.i64 i2)]] i3 i4 i9)) r0 s1 i2 i3 i4 m i5
 | _ => L R 121 2 vs k

theorem stLp121_2 (m n : Nat) (R : Type) (r0 : Abs.Rows) (s1 : ByteArray) (i2 i3 i4 i5 : Int) (k : Ex → List V → Option R) : codeK Tryz.prog H (T56 m) 121 (L43 m) 3 (loopBody Tryz.prog 121 2) (mkEnv [0, 1, 4, 7, 8, 19, 20] (W73 r0 [[F.lit (Value.string s1)]] [[F.lit (Value.int IntKind.i64 i2)]] i3 i4 i5) 0 (H.len 121)) (fun e env' => match e with | .normal => ELp121_2 m R n (vals [0, 1, 4, 7, 8, 19, 20] env') k | e => k e (vals [0, 1, 4, 7, 8, 19, 20] env')) = Lp121_2_step m (fun i7 i8 => k Ex.ret (W73 r0 [[F.lit (Value.string s1)]] [[F.lit (Value.int IntKind.i64 i2)]] i7 i4 i8)) (fun i9 => k (Ex.exit (0 : Nat)) (W73 r0 [[F.lit (Value.string s1)]] [[F.lit (Value.int IntKind.i64 i2)]] i3 i4 i9)) r0 s1 i2 i3 i4 (fun i5 => ELp121_2 m R n (W73 r0 [[F.lit (Value.string s1)]] [[F.lit (Value.int IntKind.i64 i2)]] i3 i4 i5) k) i5 := by kernel_rfl
theorem eqLp121_2 (m : Nat) (R : Type) (r0 : Abs.Rows) (s1 : ByteArray) (i2 i3 i4 : Int) (k : Ex → List V → Option R) : ∀ (n : Nat) (i5 : Int), ELp121_2 m R n (W73 r0 [[F.lit (Value.string s1)]] [[F.lit (Value.int IntKind.i64 i2)]] i3 i4 i5) k = Lp121_2 m (fun i7 i8 => k Ex.ret (W73 r0 [[F.lit (Value.string s1)]] [[F.lit (Value.int IntKind.i64 i2)]] i7 i4 i8)) (fun i9 => k (Ex.exit (0 : Nat)) (W73 r0 [[F.lit (Value.string s1)]] [[F.lit (Value.int IntKind.i64 i2)]] i3 i4 i9)) r0 s1 i2 i3 i4 n i5
 | 0, _ => rfl
 | n + 1, i5 => by
  simp only [ELp121_2, Lp121_2, W73]
  congr 1
  funext i5
  exact eqLp121_2 m R r0 s1 i2 i3 i4 k n i5
noncomputable def L44 (m : Nat) : LTbl := addB 121 2 (brLp121_2 m (L43 m)) (L43 m)
theorem okL44 (m : Nat) : LTOk Tryz.prog H (L44 m) := addB_ok (okT56 m) hM (okL43 m) (l := [0, 1, 4, 7, 8, 19, 20]) (by kernel_rfl) (by kernel_rfl) m (fun R n vs k => ELp121_2 m R n vs k) (fun R vs k => rfl) (fun R n vs k x h => by
   simp only [ELp121_2] at h
   split at h
   ·exact (stLp121_2 m n R _ _ _ _ _ _ k).trans h
   ·cases h) fun R vs k x h => by
  unfold brLp121_2 at h
  split at h
  ·exact .inl ((eqLp121_2 m R _ _ _ _ _ k m _).trans h)
  ·exact .inr h

abbrev W74 (a0 a1 a2 : Abs.Rows) : List V := [.bor J6 a0, .clos 120 [.iref J3 a1 0 0, .iref J1 a2 0 0]]
/-- - -/
noncomputable def Fn121 {R : Type} (m : Nat) : Abs.Rows → ByteArray → Int → (Int → Option R) → Option R := match m with
 | 0 => fun _ _ _ _ => none
 | m + 1 => fun r0 s1 i2 k =>
 Lp121_2 m (fun i3 i4 => k i3) (fun i5 => k ((-1 : Int))) r0 s1 i2 ((0 : Int)) ((↑(List.length r0) : Int)) m ((0 : Int))
noncomputable def brFn121 (m : Nat) (T : Tbl) (R : Type) (vs : List V) (k : V → List V → Option R) : Option R := match vs with
 | [.bor [.str, .int .i64, .int .i64, .int .i64] r0, .clos 120 [.iref [.str] [[F.lit (Value.string s1)]] 0 0, .iref [.int .i64] [[F.lit (Value.int IntKind.i64 i2)]] 0 0]] => Fn121 m r0 s1 i2 (fun i6 => k (V.f (F.lit (Value.int IntKind.i64 i6))) W1)
 | _ => T R 121 vs k

theorem evFn121 (m : Nat) (R : Type) (r0 : Abs.Rows) (s1 : ByteArray) (i2 : Int) (k : V → List V → Option R) : runK Tryz.prog H (T56 m) (L44 m) 121 (W74 r0 [[F.lit (Value.string s1)]] [[F.lit (Value.int IntKind.i64 i2)]]) k = Fn121 (m + 1) r0 s1 i2 (fun i6 => k (V.f (F.lit (Value.int IntKind.i64 i6))) W1) := by kernel_rfl
noncomputable def T57 (m : Nat) : Tbl := addT 121 (brFn121 m (T56 m)) (T56 m)
theorem okT57 (m : Nat) : TblOk Tryz.prog (T57 m) := addT_ok (okT56 m) fun R vs k x h => by
 unfold brFn121 at h
 split at h
 ·cases m with
  | zero => cases h
  | succ m => exact runK_some (okT56 m) hM (okL44 m) ((evFn121 m R _ _ _ k).trans h)
 ·exact okT56 m R 121 _ k x h

/-- - -/
noncomputable def Fn79 {R : Type} (m : Nat) : Abs.Rows → ByteArray → Int → (Bool → Option R) → Option R := match m with
 | 0 => fun _ _ _ _ => none
 | m + 1 => fun r0 s1 i2 k =>
 Fn121 m r0 s1 i2 (fun i3 => k (decide (i3 ≥ (0 : Int))))
noncomputable def brFn79 (m : Nat) (T : Tbl) (R : Type) (vs : List V) (k : V → List V → Option R) : Option R := match vs with
 | [.bor [.str, .int .i64, .int .i64, .int .i64] r0, .clos 120 [.iref [.str] [[F.lit (Value.string s1)]] 0 0, .iref [.int .i64] [[F.lit (Value.int IntKind.i64 i2)]] 0 0]] => Fn79 m r0 s1 i2 (fun b4 => k (V.f (F.lit (Value.bool b4))) W1)
 | _ => T R 79 vs k

theorem evFn79 (m : Nat) (R : Type) (r0 : Abs.Rows) (s1 : ByteArray) (i2 : Int) (k : V → List V → Option R) : runK Tryz.prog H (T57 m) (L44 m) 79 (W74 r0 [[F.lit (Value.string s1)]] [[F.lit (Value.int IntKind.i64 i2)]]) k = Fn79 (m + 1) r0 s1 i2 (fun b4 => k (V.f (F.lit (Value.bool b4))) W1) := by kernel_rfl
noncomputable def T58 (m : Nat) : Tbl := addT 79 (brFn79 m (T57 m)) (T57 m)
theorem okT58 (m : Nat) : TblOk Tryz.prog (T58 m) := addT_ok (okT57 m) fun R vs k x h => by
 unfold brFn79 at h
 split at h
 ·cases m with
  | zero => cases h
  | succ m => exact runK_some (okT57 m) hM (okL44 m) ((evFn79 m R _ _ _ k).trans h)
 ·exact okT57 m R 79 _ k x h

abbrev W75 (a0 : Abs.Rows) (a1 : ByteArray) (a2 : Int) : List V := [.bor J6 a0, .f (.lit (.string a1)), .f (.lit (.int .i64 a2))]
/-- - -/
noncomputable def Fn78 {R : Type} (m : Nat) : Abs.Rows → ByteArray → Int → (Bool → Option R) → Option R := match m with
 | 0 => fun _ _ _ _ => none
 | m + 1 => fun r0 s1 i2 k =>
 Fn79 m r0 s1 i2 (fun b3 => k b3)
noncomputable def brFn78 (m : Nat) (T : Tbl) (R : Type) (vs : List V) (k : V → List V → Option R) : Option R := match vs with
 | [.bor [.str, .int .i64, .int .i64, .int .i64] r0, .f (.lit (.string s1)), .f (.lit (.int .i64 i2))] => Fn78 m r0 s1 i2 (fun b4 => k (V.f (F.lit (Value.bool b4))) W32)
 | _ => T R 78 vs k

theorem evFn78 (m : Nat) (R : Type) (r0 : Abs.Rows) (s1 : ByteArray) (i2 : Int) (k : V → List V → Option R) : runK Tryz.prog H (T58 m) (L44 m) 78 (W75 r0 s1 i2) k = Fn78 (m + 1) r0 s1 i2 (fun b4 => k (V.f (F.lit (Value.bool b4))) W32) := by kernel_rfl
noncomputable def T59 (m : Nat) : Tbl := addT 78 (brFn78 m (T58 m)) (T58 m)
theorem okT59 (m : Nat) : TblOk Tryz.prog (T59 m) := addT_ok (okT58 m) fun R vs k x h => by
 unfold brFn78 at h
 split at h
 ·cases m with
  | zero => cases h
  | succ m => exact runK_some (okT58 m) hM (okL44 m) ((evFn78 m R _ _ _ k).trans h)
 ·exact okT58 m R 78 _ k x h

abbrev W76 (a0 a1 : ByteArray) (a2 a3 a4 a5 : Int) (a6 : ByteArray) : List V := [.agg [.f (.lit (.string a0)), .f (.lit (.string a1)), .f (.lit (.int .i64 a2)), .f (.lit (.int .i64 a3)), .f (.lit (.int .i64 a4)), .f (.lit (.int .i64 a5))], .f (.lit (.string a6))]
/-- - -/
noncomputable def Fn113 {R : Type} (m : Nat) : ByteArray → ByteArray → Int → Int → Int → Int → ByteArray → (Int → Option R) → Option R := match m with
 | 0 => fun _ _ _ _ _ _ _ _ => none
 | m + 1 => fun s0 s1 i2 i3 i4 i5 s6 k =>
 k (cmpB s0 s6)
noncomputable def brFn113 (m : Nat) (T : Tbl) (R : Type) (vs : List V) (k : V → List V → Option R) : Option R := match vs with
 | [.agg [.f (.lit (.string s0)), .f (.lit (.string s1)), .f (.lit (.int .i64 i2)), .f (.lit (.int .i64 i3)), .f (.lit (.int .i64 i4)), .f (.lit (.int .i64 i5))], .f (.lit (.string s6))] => Fn113 m s0 s1 i2 i3 i4 i5 s6 (fun i7 => k (V.f (F.lit (Value.int IntKind.i64 i7))) W1)
 | _ => T R 113 vs k

theorem evFn113 (m : Nat) (R : Type) (s0 s1 : ByteArray) (i2 i3 i4 i5 : Int) (s6 : ByteArray) (k : V → List V → Option R) : runK Tryz.prog H (T59 m) (L44 m) 113 (W76 s0 s1 i2 i3 i4 i5 s6) k = Fn113 (m + 1) s0 s1 i2 i3 i4 i5 s6 (fun i7 => k (V.f (F.lit (Value.int IntKind.i64 i7))) W1) := by kernel_rfl
noncomputable def T60 (m : Nat) : Tbl := addT 113 (brFn113 m (T59 m)) (T59 m)
theorem okT60 (m : Nat) : TblOk Tryz.prog (T60 m) := addT_ok (okT59 m) fun R vs k x h => by
 unfold brFn113 at h
 split at h
 ·cases m with
  | zero => cases h
  | succ m => exact runK_some (okT59 m) hM (okL44 m) ((evFn113 m R _ _ _ _ _ _ _ k).trans h)
 ·exact okT59 m R 113 _ k x h

abbrev W77 (a0 : Abs.Rows) (a1 : ByteArray) (a2 a3 a4 : Int) : List V := [.f (.lst J4 a0), .f (.lit (.string a1)), .clos 113 [], .f (.lit (.int .i64 a2)), .f (.lit (.int .i64 a3)), .f (.lit (.int .i64 a4)), .undef, .undef, .undef]
/-- - -/
noncomputable def Lp112_3_step {R : Type} (m : Nat) (kx0 : Int → Int → Option R) (r0 : Abs.Rows) (s1 : ByteArray) (i2 : Int) (REC : Int → Int → Option R) (i3 i4 : Int) : Option R :=
 bif decide (i3 < i4) then (bif decide ((0 : Int) ≤ IntKind.wrap IntKind.i64 (Int.fdiv (IntKind.wrap IntKind.u64 (IntKind.wrap IntKind.i64 (i3 + i4))) ((2 : Int) ^ min (Int.toNat (1 : Int)) (64 : Nat))) ∧ IntKind.wrap IntKind.i64 (Int.fdiv (IntKind.wrap IntKind.u64 (IntKind.wrap IntKind.i64 (i3 + i4))) ((2 : Int) ^ min (Int.toNat (1 : Int)) (64 : Nat))) < (↑(List.length r0) : Int)) then (Fn113 m (fS r0 (Int.toNat (IntKind.wrap IntKind.i64 (Int.fdiv (IntKind.wrap IntKind.u64 (IntKind.wrap IntKind.i64 (i3 + i4))) ((2 : Int) ^ min (Int.toNat (1 : Int)) (64 : Nat))))) (0 : Nat)) (fS r0 (Int.toNat (IntKind.wrap IntKind.i64 (Int.fdiv (IntKind.wrap IntKind.u64 (IntKind.wrap IntKind.i64 (i3 + i4))) ((2 : Int) ^ min (Int.toNat (1 : Int)) (64 : Nat))))) (1 : Nat)) (fI r0 (Int.toNat (IntKind.wrap IntKind.i64 (Int.fdiv (IntKind.wrap IntKind.u64 (IntKind.wrap IntKind.i64 (i3 + i4))) ((2 : Int) ^ min (Int.toNat (1 : Int)) (64 : Nat))))) (2 : Nat)) (fI r0 (Int.toNat (IntKind.wrap IntKind.i64 (Int.fdiv (IntKind.wrap IntKind.u64 (IntKind.wrap IntKind.i64 (i3 + i4))) ((2 : Int) ^ min (Int.toNat (1 : Int)) (64 : Nat))))) (3 : Nat)) (fI r0 (Int.toNat (IntKind.wrap IntKind.i64 (Int.fdiv (IntKind.wrap IntKind.u64 (IntKind.wrap IntKind.i64 (i3 + i4))) ((2 : Int) ^ min (Int.toNat (1 : Int)) (64 : Nat))))) (4 : Nat)) (fI r0 (Int.toNat (IntKind.wrap IntKind.i64 (Int.fdiv (IntKind.wrap IntKind.u64 (IntKind.wrap IntKind.i64 (i3 + i4))) ((2 : Int) ^ min (Int.toNat (1 : Int)) (64 : Nat))))) (5 : Nat)) s1 (fun i5 => bif decide (i5 < (0 : Int)) then (REC (IntKind.wrap IntKind.i64 (IntKind.wrap IntKind.i64 (Int.fdiv (IntKind.wrap IntKind.u64 (IntKind.wrap IntKind.i64 (i3 + i4))) ((2 : Int) ^ min (Int.toNat (1 : Int)) (64 : Nat))) + (1 : Int))) i4) else
 (REC i3 (IntKind.wrap IntKind.i64 (Int.fdiv (IntKind.wrap IntKind.u64 (IntKind.wrap IntKind.i64 (i3 + i4))) ((2 : Int) ^ min (Int.toNat (1 : Int)) (64 : Nat))))))) else
 (none)) else
 (kx0 i3 i4)
noncomputable def Lp112_3 {R : Type} (m : Nat) (kx0 : Int → Int → Option R) (r0 : Abs.Rows) (s1 : ByteArray) (i2 : Int) : Nat → Int → Int → Option R
 | 0, _, _ => none
 | n + 1, i3, i4 => Lp112_3_step m kx0 r0 s1 i2 (Lp112_3 m kx0 r0 s1 i2 n) i3 i4
noncomputable def ELp112_3 (m : Nat) (R : Type) : Nat → List V → (Ex → List V → Option R) → Option R
 | 0, _, _ => none
 | n + 1, vs, k => match vs with
  | [.f (.lst [.str, .str, .int .i64, .int .i64, .int .i64, .int .i64] r0), .f (.lit (.string s1)), .clos 113 [], .f (.lit (.int .i64 i2)), .f (.lit (.int .i64 i3)), .f (.lit (.int .i64 i4)), .undef, .undef, .undef] => Lp112_3_step m (fun i6 i7 => k (Ex.exit (0 : Nat)) (W77 r0 s1 i2 i6 i7)) r0 s1 i2 (fun i3 i4 => ELp112_3 m R n (W77 r0 s1 i2 i3 i4) k) i3 i4
  | _ => none
noncomputable def brLp112_3 (m : Nat) (L : LTbl) (R : Type) (vs : List V) (k : Ex → List V → Option R) : Option R := match vs with
 | [.f (.lst [.str, .str, .int .i64, .int .i64, .int .i64, .int .i64] r0), .f (.lit (.string s1)), .clos 113 [], .f (.lit (.int .i64 i2)), .f (.lit (.int .i64 i3)), .f (.lit (.int .i64 i4)), .undef, .undef, .undef] => Lp112_3 m (fun i6 i7 => k (Ex.exit (0 : Nat)) (W77 r0 s1 i2 i6 i7)) r0 s1 i2 m i3 i4
 | _ => L R 112 3 vs k

theorem stLp112_3 (m n : Nat) (R : Type) (r0 : Abs.Rows) (s1 : ByteArray) (i2 i3 i4 : Int) (k : Ex → List V → Option R) : codeK Tryz.prog H (T60 m) 112 (L44 m) 4 (loopBody Tryz.prog 112 3) (mkEnv [0, 1, 2, 8, 9, 10, 49, 50, 51] (W77 r0 s1 i2 i3 i4) 0 (H.len 112)) (fun e env' => match e with | .normal => ELp112_3 m R n (vals [0, 1, 2, 8, 9, 10, 49, 50, 51] env') k | e => k e (vals [0, 1, 2, 8, 9, 10, 49, 50, 51] env')) = Lp112_3_step m (fun i6 i7 => k (Ex.exit (0 : Nat)) (W77 r0 s1 i2 i6 i7)) r0 s1 i2 (fun i3 i4 => ELp112_3 m R n (W77 r0 s1 i2 i3 i4) k) i3 i4 := by kernel_rfl
theorem eqLp112_3 (m : Nat) (R : Type) (r0 : Abs.Rows) (s1 : ByteArray) (i2 : Int) (k : Ex → List V → Option R) : ∀ (n : Nat) (i3 i4 : Int), ELp112_3 m R n (W77 r0 s1 i2 i3 i4) k = Lp112_3 m (fun i6 i7 => k (Ex.exit (0 : Nat)) (W77 r0 s1 i2 i6 i7)) r0 s1 i2 n i3 i4
 | 0, _, _ => rfl
 | n + 1, i3, i4 => by
  simp only [ELp112_3, Lp112_3, W77]
  congr 1
  funext i3 i4
  exact eqLp112_3 m R r0 s1 i2 k n i3 i4
noncomputable def L45 (m : Nat) : LTbl := addB 112 3 (brLp112_3 m (L44 m)) (L44 m)
theorem okL45 (m : Nat) : LTOk Tryz.prog H (L45 m) := addB_ok (okT60 m) hM (okL44 m) (l := [0, 1, 2, 8, 9, 10, 49, 50, 51]) (by kernel_rfl) (by kernel_rfl) m (fun R n vs k => ELp112_3 m R n vs k) (fun R vs k => rfl) (fun R n vs k x h => by
   simp only [ELp112_3] at h
   split at h
   ·exact (stLp112_3 m n R _ _ _ _ _ k).trans h
   ·cases h) fun R vs k x h => by
  unfold brLp112_3 at h
  split at h
  ·exact .inl ((eqLp112_3 m R _ _ _ k m _ _).trans h)
  ·exact .inr h

abbrev W78 (a0 : Int) (a1 : Bool) : List V := [.f (.lit (.int .i64 a0)), .f (.lit (.bool a1))]
abbrev W79 (a0 : Abs.Rows) (a1 : ByteArray) : List V := [.f (.lst J4 a0), .f (.lit (.string a1)), .clos 113 []]
/-- - -/
noncomputable def Fn112 {R : Type} (m : Nat) : Abs.Rows → ByteArray → (Int → Bool → Option R) → Option R := match m with
 | 0 => fun _ _ _ => none
 | m + 1 => fun r0 s1 k =>
 Lp112_3 m (fun i2 i3 => bif decide (i2 < (↑(List.length r0) : Int)) then (bif decide ((0 : Int) ≤ i2 ∧ i2 < (↑(List.length r0) : Int)) then (Fn113 m (fS r0 (Int.toNat i2) (0 : Nat)) (fS r0 (Int.toNat i2) (1 : Nat)) (fI r0 (Int.toNat i2) (2 : Nat)) (fI r0 (Int.toNat i2) (3 : Nat)) (fI r0 (Int.toNat i2) (4 : Nat)) (fI r0 (Int.toNat i2) (5 : Nat)) s1 (fun i4 => k i2 (i4 == (0 : Int)))) else
 (none)) else
 (k i2 false)) r0 s1 ((↑(List.length r0) : Int)) m ((0 : Int)) ((↑(List.length r0) : Int))
noncomputable def brFn112 (m : Nat) (T : Tbl) (R : Type) (vs : List V) (k : V → List V → Option R) : Option R := match vs with
 | [.f (.lst [.str, .str, .int .i64, .int .i64, .int .i64, .int .i64] r0), .f (.lit (.string s1)), .clos 113 []] => Fn112 m r0 s1 (fun i5 b6 => k (V.tup (W78 i5 b6)) W32)
 | _ => T R 112 vs k

theorem evFn112 (m : Nat) (R : Type) (r0 : Abs.Rows) (s1 : ByteArray) (k : V → List V → Option R) : runK Tryz.prog H (T60 m) (L45 m) 112 (W79 r0 s1) k = Fn112 (m + 1) r0 s1 (fun i5 b6 => k (V.tup (W78 i5 b6)) W32) := by kernel_rfl
noncomputable def T61 (m : Nat) : Tbl := addT 112 (brFn112 m (T60 m)) (T60 m)
theorem okT61 (m : Nat) : TblOk Tryz.prog (T61 m) := addT_ok (okT60 m) fun R vs k x h => by
 unfold brFn112 at h
 split at h
 ·cases m with
  | zero => cases h
  | succ m => exact runK_some (okT60 m) hM (okL45 m) ((evFn112 m R _ _ k).trans h)
 ·exact okT60 m R 112 _ k x h

abbrev W80 (a0 : ByteArray) (a1 : Abs.Rows) (a2 : Int) (a3 : Abs.Rows) (a4 a5 : ByteArray) (a6 a7 a8 a9 : Int) (a10 : Bool) (a11 : Int) : List V := [.f (.lit (.string a0)), .obj [.f (.lst J4 a1), .f (.lit (.int .i64 a2)), .f (.lst J3 a3)], .obj [.f (.lit (.string a4)), .f (.lit (.string a5)), .f (.lit (.int .i64 a6)), .f (.lit (.int .i64 a7)), .f (.lit (.int .i64 a8)), .f (.lit (.int .i64 a9))], .f (.lit (.bool a10)), .f (.lit (.int .i64 a11)), .undef, .undef]
abbrev K1Lp57_2 {R : Type} (k : Ex → List V → Option R) (s0 : ByteArray) (r1 : Abs.Rows) (i2 : Int) (r3 : Abs.Rows) : ByteArray → ByteArray → Int → Int → Int → Int → Bool → Int → Option R := fun s4 s5 i6 i7 i8 i9 b10 i11 => k Ex.ret (W80 s0 r1 i2 r3 s4 s5 i6 i7 i8 i9 b10 i11)
/-- - -/
noncomputable def Lp57_2_step {R : Type} (m : Nat) (kx0 : ByteArray → ByteArray → Int → Int → Int → Int → Bool → Int → Option R) (kx1 : Int → Option R) (s0 : ByteArray) (r1 : Abs.Rows) (i2 : Int) (r3 : Abs.Rows) (s12 s13 : ByteArray) (i14 i15 i16 i17 : Int) (b18 : Bool) (REC : Int → Option R) (i19 : Int) : Option R :=
 bif decide (i19 ≥ (0 : Int)) then (bif decide ((0 : Int) ≤ i19 ∧ i19 ≤ (↑(ByteArray.size s0) : Int)) then (Fn112 m r1 (ByteArray.extract s0 (0 : Nat) (Int.toNat i19)) (fun i20 b21 => bif b21 then (bif decide ((0 : Int) ≤ i20 ∧ i20 < (↑(List.length r1) : Int)) then (kx0 (fS r1 (Int.toNat i20) (0 : Nat)) (fS r1 (Int.toNat i20) (1 : Nat)) (fI r1 (Int.toNat i20) (2 : Nat)) (fI r1 (Int.toNat i20) (3 : Nat)) (fI r1 (Int.toNat i20) (4 : Nat)) (fI r1 (Int.toNat i20) (5 : Nat)) true i19) else
 (none)) else
 (REC (IntKind.wrap IntKind.i64 (i19 - (1 : Int)))))) else
 (none)) else
 (kx1 i19)
noncomputable def Lp57_2 {R : Type} (m : Nat) (kx0 : ByteArray → ByteArray → Int → Int → Int → Int → Bool → Int → Option R) (kx1 : Int → Option R) (s0 : ByteArray) (r1 : Abs.Rows) (i2 : Int) (r3 : Abs.Rows) (s12 s13 : ByteArray) (i14 i15 i16 i17 : Int) (b18 : Bool) : Nat → Int → Option R
 | 0, _ => none
 | n + 1, i19 => Lp57_2_step m kx0 kx1 s0 r1 i2 r3 s12 s13 i14 i15 i16 i17 b18 (Lp57_2 m kx0 kx1 s0 r1 i2 r3 s12 s13 i14 i15 i16 i17 b18 n) i19
noncomputable def ELp57_2 (m : Nat) (R : Type) : Nat → List V → (Ex → List V → Option R) → Option R
 | 0, _, _ => none
 | n + 1, vs, k => match vs with
  | [.f (.lit (.string s0)), .obj [.f (.lst [.str, .str, .int .i64, .int .i64, .int .i64, .int .i64] r1), .f (.lit (.int .i64 i2)), .f (.lst [.str] r3)], .obj [.f (.lit (.string s12)), .f (.lit (.string s13)), .f (.lit (.int .i64 i14)), .f (.lit (.int .i64 i15)), .f (.lit (.int .i64 i16)), .f (.lit (.int .i64 i17))], .f (.lit (.bool b18)), .f (.lit (.int .i64 i19)), .undef, .undef] => Lp57_2_step m (K1Lp57_2 k s0 r1 i2 r3) (fun i22 => k (Ex.exit (0 : Nat)) (W80 s0 r1 i2 r3 s12 s13 i14 i15 i16 i17 b18 i22)) s0 r1 i2 r3 s12 s13 i14 i15 i16 i17 b18 (fun i19 => ELp57_2 m R n (W80 s0 r1 i2 r3 s12 s13 i14 i15 i16 i17 b18 i19) k) i19
  | _ => none
noncomputable def brLp57_2 (m : Nat) (L : LTbl) (R : Type) (vs : List V) (k : Ex → List V → Option R) : Option R := match vs with
 | [.f (.lit (.string s0)), .obj [.f (.lst [.str, .str, .int .i64, .int .i64, .int .i64, .int .i64] r1), .f (.lit (.int .i64 i2)), .f (.lst [.str] r3)], .obj [.f (.lit (.string s12)), .f (.lit (.string s13)), .f (.lit (.int .i64 i14)), .f (.lit (.int .i64 i15)), .f (.lit (.int .i64 i16)), .f (.lit (.int .i64 i17))], .f (.lit (.bool b18)), .f (.lit (.int .i64 i19)), .undef, .undef] => Lp57_2 m (K1Lp57_2 k s0 r1 i2 r3) (fun i22 => k (Ex.exit (0 : Nat)) (W80 s0 r1 i2 r3 s12 s13 i14 i15 i16 i17 b18 i22)) s0 r1 i2 r3 s12 s13 i14 i15 i16 i17 b18 m i19
 | _ => L R 57 2 vs k

theorem stLp57_2 (m n : Nat) (R : Type) (s0 : ByteArray) (r1 : Abs.Rows) (i2 : Int) (r3 : Abs.Rows) (s12 s13 : ByteArray) (i14 i15 i16 i17 : Int) (b18 : Bool) (i19 : Int) (k : Ex → List V → Option R) : codeK Tryz.prog H (T61 m) 57 (L45 m) 3 (loopBody Tryz.prog 57 2) (mkEnv [1, 2, 4, 5, 6, 31, 32] (W80 s0 r1 i2 r3 s12 s13 i14 i15 i16 i17 b18 i19) 0 (H.len 57)) (fun e env' => match e with | .normal => ELp57_2 m R n (vals [1, 2, 4, 5, 6, 31, 32] env') k | e => k e (vals [1, 2, 4, 5, 6, 31, 32] env')) = Lp57_2_step m (K1Lp57_2 k s0 r1 i2 r3) (fun i22 => k (Ex.exit (0 : Nat)) (W80 s0 r1 i2 r3 s12 s13 i14 i15 i16 i17 b18 i22)) s0 r1 i2 r3 s12 s13 i14 i15 i16 i17 b18 (fun i19 => ELp57_2 m R n (W80 s0 r1 i2 r3 s12 s13 i14 i15 i16 i17 b18 i19) k) i19 := by kernel_rfl
theorem eqLp57_2 (m : Nat) (R : Type) (s0 : ByteArray) (r1 : Abs.Rows) (i2 : Int) (r3 : Abs.Rows) (s12 s13 : ByteArray) (i14 i15 i16 i17 : Int) (b18 : Bool) (k : Ex → List V → Option R) : ∀ (n : Nat) (i19 : Int), ELp57_2 m R n (W80 s0 r1 i2 r3 s12 s13 i14 i15 i16 i17 b18 i19) k = Lp57_2 m (K1Lp57_2 k s0 r1 i2 r3) (fun i22 => k (Ex.exit (0 : Nat)) (W80 s0 r1 i2 r3 s12 s13 i14 i15 i16 i17 b18 i22)) s0 r1 i2 r3 s12 s13 i14 i15 i16 i17 b18 n i19
 | 0, _ => rfl
 | n + 1, i19 => by
  simp only [ELp57_2, Lp57_2, W80]
  congr 1
  funext i19
  exact eqLp57_2 m R s0 r1 i2 r3 s12 s13 i14 i15 i16 i17 b18 k n i19
noncomputable def L46 (m : Nat) : LTbl := addB 57 2 (brLp57_2 m (L45 m)) (L45 m)
theorem okL46 (m : Nat) : LTOk Tryz.prog H (L46 m) := addB_ok (okT61 m) hM (okL45 m) (l := [1, 2, 4, 5, 6, 31, 32]) (by kernel_rfl) (by kernel_rfl) m (fun R n vs k => ELp57_2 m R n vs k) (fun R vs k => rfl) (fun R n vs k x h => by
   simp only [ELp57_2] at h
   split at h
   ·exact (stLp57_2 m n R _ _ _ _ _ _ _ _ _ _ _ _ k).trans h
   ·cases h) fun R vs k x h => by
  unfold brLp57_2 at h
  split at h
  ·exact .inl ((eqLp57_2 m R _ _ _ _ _ _ _ _ _ _ _ k m _).trans h)
  ·exact .inr h

abbrev W81 (a0 a1 : ByteArray) (a2 a3 a4 a5 : Int) (a6 : Bool) : List V := [.agg [.f (.lit (.string a0)), .f (.lit (.string a1)), .f (.lit (.int .i64 a2)), .f (.lit (.int .i64 a3)), .f (.lit (.int .i64 a4)), .f (.lit (.int .i64 a5))], .f (.lit (.bool a6))]
abbrev W82 (a0 : Abs.Rows) (a1 : Int) (a2 : Abs.Rows) (a3 : ByteArray) : List V := [.agg [.f (.lst J4 a0), .f (.lit (.int .i64 a1)), .f (.lst J3 a2)], .f (.lit (.string a3))]
/-- - -/
noncomputable def Fn57 {R : Type} (m : Nat) : Abs.Rows → Int → Abs.Rows → ByteArray → (ByteArray → ByteArray → Int → Int → Int → Int → Bool → Option R) → Option R := match m with
 | 0 => fun _ _ _ _ _ => none
 | m + 1 => fun r0 i1 r2 s3 k =>
 Lp57_2 m (fun s4 s5 i6 i7 i8 i9 b10 i11 => k s4 s5 i6 i7 i8 i9 b10) (fun i12 => k ({ data := #[] }) ({ data := #[] }) ((0 : Int)) ((0 : Int)) ((0 : Int)) ((0 : Int)) false) s3 r0 i1 r2 ({ data := #[] }) ({ data := #[] }) ((0 : Int)) ((0 : Int)) ((0 : Int)) ((0 : Int)) false m ((↑(ByteArray.size s3) : Int))
noncomputable def brFn57 (m : Nat) (T : Tbl) (R : Type) (vs : List V) (k : V → List V → Option R) : Option R := match vs with
 | [.agg [.f (.lst [.str, .str, .int .i64, .int .i64, .int .i64, .int .i64] r0), .f (.lit (.int .i64 i1)), .f (.lst [.str] r2)], .f (.lit (.string s3))] => Fn57 m r0 i1 r2 s3 (fun s13 s14 i15 i16 i17 i18 b19 => k (V.tup (W81 s13 s14 i15 i16 i17 i18 b19)) W1)
 | _ => T R 57 vs k

theorem evFn57 (m : Nat) (R : Type) (r0 : Abs.Rows) (i1 : Int) (r2 : Abs.Rows) (s3 : ByteArray) (k : V → List V → Option R) : runK Tryz.prog H (T61 m) (L46 m) 57 (W82 r0 i1 r2 s3) k = Fn57 (m + 1) r0 i1 r2 s3 (fun s13 s14 i15 i16 i17 i18 b19 => k (V.tup (W81 s13 s14 i15 i16 i17 i18 b19)) W1) := by kernel_rfl
noncomputable def T62 (m : Nat) : Tbl := addT 57 (brFn57 m (T61 m)) (T61 m)
theorem okT62 (m : Nat) : TblOk Tryz.prog (T62 m) := addT_ok (okT61 m) fun R vs k x h => by
 unfold brFn57 at h
 split at h
 ·cases m with
  | zero => cases h
  | succ m => exact runK_some (okT61 m) hM (okL46 m) ((evFn57 m R _ _ _ _ k).trans h)
 ·exact okT61 m R 57 _ k x h

abbrev W83 (a0 a1 : ByteArray) (a2 a3 a4 a5 a6 : Int) : List V := [.agg [.f (.lit (.string a0)), .f (.lit (.string a1)), .f (.lit (.int .i64 a2)), .f (.lit (.int .i64 a3)), .f (.lit (.int .i64 a4)), .f (.lit (.int .i64 a5))], .f (.lit (.int .i64 a6))]
/-- - -/
noncomputable def Fn110 {R : Type} (m : Nat) : ByteArray → ByteArray → Int → Int → Int → Int → Int → (Int → Option R) → Option R := match m with
 | 0 => fun _ _ _ _ _ _ _ _ => none
 | m + 1 => fun s0 s1 i2 i3 i4 i5 i6 k =>
 bif i6 == (0 : Int) then (k ((0 : Int))) else
 (bif decide (i4 ≠ (0 : Int)) then (letV (IntKind.wrap IntKind.i64 (IntKind.wrap IntKind.i64 ((if IntKind.wrap IntKind.i64 (i6 - i3) > (0 : Int) then IntKind.wrap IntKind.i64 (i6 - i3) else (0 : Int)) + i4) - (1 : Int))) (fun i7 => k (IntKind.wrap IntKind.i64 (i2 + IntKind.wrap IntKind.i64 (i5 * IntKind.wrap IntKind.i64 (Int.tdiv i7 i4)))))) else
 (none))
noncomputable def brFn110 (m : Nat) (T : Tbl) (R : Type) (vs : List V) (k : V → List V → Option R) : Option R := match vs with
 | [.agg [.f (.lit (.string s0)), .f (.lit (.string s1)), .f (.lit (.int .i64 i2)), .f (.lit (.int .i64 i3)), .f (.lit (.int .i64 i4)), .f (.lit (.int .i64 i5))], .f (.lit (.int .i64 i6))] => Fn110 m s0 s1 i2 i3 i4 i5 i6 (fun i8 => k (V.f (F.lit (Value.int IntKind.i64 i8))) W1)
 | _ => T R 110 vs k

theorem evFn110 (m : Nat) (R : Type) (s0 s1 : ByteArray) (i2 i3 i4 i5 i6 : Int) (k : V → List V → Option R) : runK Tryz.prog H (T62 m) (L46 m) 110 (W83 s0 s1 i2 i3 i4 i5 i6) k = Fn110 (m + 1) s0 s1 i2 i3 i4 i5 i6 (fun i8 => k (V.f (F.lit (Value.int IntKind.i64 i8))) W1) := by kernel_rfl
noncomputable def T63 (m : Nat) : Tbl := addT 110 (brFn110 m (T62 m)) (T62 m)
theorem okT63 (m : Nat) : TblOk Tryz.prog (T63 m) := addT_ok (okT62 m) fun R vs k x h => by
 unfold brFn110 at h
 split at h
 ·cases m with
  | zero => cases h
  | succ m => exact runK_some (okT62 m) hM (okL46 m) ((evFn110 m R _ _ _ _ _ _ _ k).trans h)
 ·exact okT62 m R 110 _ k x h

abbrev W84 (a0 a1 : ByteArray) (a2 a3 a4 : Int) (a5 : ByteArray) (a6 a7 a8 a9 a10 a11 : Int) (a12 a13 : ByteArray) (a14 a15 : Int) (a16 : Abs.Rows) (a17 a18 : Int) (a19 : Nat) (a20 a21 : Int) (a22 : Bool) (a23 a24 a25 : Abs.Rows) : List V := [.ref 117 0, .obj [.f (.lit (.string a0)), .f (.lit (.string a1)), .f (.lit (.int .i64 a2)), .f (.lit (.int .i64 a3))], .f (.lit (.int .i64 a4)), .obj [.f (.lit (.string a5)), .f (.lit (.int .i64 a6)), .f (.lit (.int .i64 a7)), .f (.lit (.int .i64 a8)), .f (.lit (.int .i64 a9))], .f (.lit (.int .i64 a10)), .f (.lit (.int .i64 a11)), .obj [.f (.lit (.string a12)), .f (.lit (.string a13)), .f (.lit (.int .i64 a14)), .f (.lit (.int .i64 a15))], .ref 117 0, .ref 117 0, .ref 117 0, .f (.lst J5 a16), .f (.lit (.int .i64 a17)), .f (.lit (.int .i64 a18)), .ref 117 0, .ref 117 0, .ref 117 1, .lent { slot := (117 : Nat), leaf := some (1 : Nat) } 4 a19, .f (.lit (.int .i64 a20)), .f (.lit (.int .i64 a21)), .f (.lit (.bool a22)), .obj [.f (.lst J5 a23), .own J9 a24, .own J6 a25], .undef]
/-- - -/
noncomputable def Jn116_15 {R : Type} (m : Nat) (kx0 : Int → Int → Bool → Option R) (s0 s1 : ByteArray) (i2 i3 i4 : Int) (s5 : ByteArray) (i6 i7 i8 i9 i10 i11 : Int) (s12 s13 : ByteArray) (i14 i15 : Int) (r16 : Abs.Rows) (i17 i18 : Int) (n19 : Nat) (i20 i21 : Int) (b22 : Bool) (r23 r24 r25 : Abs.Rows) : Option R :=
 bif b22 then (kx0 (IntKind.wrap IntKind.i64 (i10 + (1 : Int))) (IntKind.wrap IntKind.i64 (i11 + i15)) true) else
 (kx0 i10 i11 false)
noncomputable def brJn116_15 (m : Nat) (L : LTbl) (R : Type) (vs : List V) (k : Ex → List V → Option R) : Option R := match vs with
 | [.ref 117 0, .obj [.f (.lit (.string s0)), .f (.lit (.string s1)), .f (.lit (.int .i64 i2)), .f (.lit (.int .i64 i3))], .f (.lit (.int .i64 i4)), .obj [.f (.lit (.string s5)), .f (.lit (.int .i64 i6)), .f (.lit (.int .i64 i7)), .f (.lit (.int .i64 i8)), .f (.lit (.int .i64 i9))], .f (.lit (.int .i64 i10)), .f (.lit (.int .i64 i11)), .obj [.f (.lit (.string s12)), .f (.lit (.string s13)), .f (.lit (.int .i64 i14)), .f (.lit (.int .i64 i15))], .ref 117 0, .ref 117 0, .ref 117 0, .f (.lst [.str, .int .i64, .int .i64, .int .i64, .int .i64] r16), .f (.lit (.int .i64 i17)), .f (.lit (.int .i64 i18)), .ref 117 0, .ref 117 0, .ref 117 1, .lent { slot := (117 : Nat), leaf := some (1 : Nat) } 4 n19, .f (.lit (.int .i64 i20)), .f (.lit (.int .i64 i21)), .f (.lit (.bool b22)), .obj [.f (.lst [.str, .int .i64, .int .i64, .int .i64, .int .i64] r23), .own [.str, .str, .int .i64, .int .i64] r24, .own [.str, .int .i64, .int .i64, .int .i64] r25], .undef] => Jn116_15 m (fun i26 i27 b28 => k Ex.normal (W84 s0 s1 i2 i3 i4 s5 i6 i7 i8 i9 i26 i27 s12 s13 i14 i15 r16 i17 i18 n19 i20 i21 b28 r23 r24 r25)) s0 s1 i2 i3 i4 s5 i6 i7 i8 i9 i10 i11 s12 s13 i14 i15 r16 i17 i18 n19 i20 i21 b22 r23 r24 r25
 | _ => L R 116 15 vs k

theorem evJn116_15 (m : Nat) (R : Type) (s0 s1 : ByteArray) (i2 i3 i4 : Int) (s5 : ByteArray) (i6 i7 i8 i9 i10 i11 : Int) (s12 s13 : ByteArray) (i14 i15 : Int) (r16 : Abs.Rows) (i17 i18 : Int) (n19 : Nat) (i20 i21 : Int) (b22 : Bool) (r23 r24 r25 : Abs.Rows) (k : Ex → List V → Option R) : codeK Tryz.prog H (T63 m) 116 (L46 m) 16 (loopBody Tryz.prog 116 15) (mkEnv [0, 3, 4, 5, 6, 7, 9, 20, 21, 22, 23, 24, 25, 40, 41, 42, 43, 44, 45, 75, 117, 118] (W84 s0 s1 i2 i3 i4 s5 i6 i7 i8 i9 i10 i11 s12 s13 i14 i15 r16 i17 i18 n19 i20 i21 b22 r23 r24 r25) 0 (H.len 116)) (fun e env' => k e (vals [0, 3, 4, 5, 6, 7, 9, 20, 21, 22, 23, 24, 25, 40, 41, 42, 43, 44, 45, 75, 117, 118] env')) = Jn116_15 m (fun i26 i27 b28 => k Ex.normal (W84 s0 s1 i2 i3 i4 s5 i6 i7 i8 i9 i26 i27 s12 s13 i14 i15 r16 i17 i18 n19 i20 i21 b28 r23 r24 r25)) s0 s1 i2 i3 i4 s5 i6 i7 i8 i9 i10 i11 s12 s13 i14 i15 r16 i17 i18 n19 i20 i21 b22 r23 r24 r25 := by kernel_rfl
noncomputable def L47 (m : Nat) : LTbl := addJ 116 15 (brJn116_15 m (L46 m)) (L46 m)
theorem okL47 (m : Nat) : LTOk Tryz.prog H (L47 m) := addJ_ok (okT63 m) hM (okL46 m) (l := [0, 3, 4, 5, 6, 7, 9, 20, 21, 22, 23, 24, 25, 40, 41, 42, 43, 44, 45, 75, 117, 118]) (by kernel_rfl) (by kernel_rfl) fun R vs k x h => by
  unfold brJn116_15 at h
  split at h
  ·exact .inl ((evJn116_15 m R _ _ _ _ _ _ _ _ _ _ _ _ _ _ _ _ _ _ _ _ _ _ _ _ _ _ k).trans h)
  ·exact .inr h

abbrev W85 (a0 a1 : ByteArray) (a2 a3 a4 : Int) (a5 : ByteArray) (a6 a7 a8 a9 a10 a11 : Int) (a12 : Abs.Rows) (a13 a14 : Int) (a15 : Nat) (a16 a17 : Int) (a18 a19 a20 : Abs.Rows) : List V := [.ref 117 0, .obj [.f (.lit (.string a0)), .f (.lit (.string a1)), .f (.lit (.int .i64 a2)), .f (.lit (.int .i64 a3))], .f (.lit (.int .i64 a4)), .obj [.f (.lit (.string a5)), .f (.lit (.int .i64 a6)), .f (.lit (.int .i64 a7)), .f (.lit (.int .i64 a8)), .f (.lit (.int .i64 a9))], .f (.lit (.int .i64 a10)), .f (.lit (.int .i64 a11)), .ref 117 0, .ref 117 0, .ref 117 0, .f (.lst J5 a12), .f (.lit (.int .i64 a13)), .f (.lit (.int .i64 a14)), .ref 117 0, .ref 117 0, .ref 117 1, .lent { slot := (117 : Nat), leaf := some (1 : Nat) } 4 a15, .f (.lit (.int .i64 a16)), .f (.lit (.int .i64 a17)), .obj [.f (.lst J5 a18), .own J9 a19, .own J6 a20], .undef]
/-- - -/
noncomputable def Lp116_11_step {R : Type} (m : Nat) (kx0 : Int → Int → Int → Option R) (s0 s1 : ByteArray) (i2 i3 i4 : Int) (s5 : ByteArray) (i6 i7 i8 i9 : Int) (r10 : Abs.Rows) (i11 i12 : Int) (n13 : Nat) (i14 : Int) (r15 r16 r17 : Abs.Rows) (REC : Int → Int → Int → Option R) (i18 i19 i20 : Int) : Option R :=
 bif decide (i20 < i14) then (bif decide ((0 : Int) ≤ i20 ∧ i20 < (↑n13 : Int)) then (bif ByteArray.toList (fS r16 (Int.toNat i20) (0 : Nat)) == ByteArray.toList s0 then (bif ByteArray.toList s5 == ByteArray.toList { data := #[] } then (Jn116_15 m (fun i21 i22 b23 => REC i21 i22 (IntKind.wrap IntKind.i64 (i20 + (1 : Int)))) s0 s1 i2 i3 i4 s5 i6 i7 i8 i9 i18 i19 (fS r16 (Int.toNat i20) (0 : Nat)) (fS r16 (Int.toNat i20) (1 : Nat)) (fI r16 (Int.toNat i20) (2 : Nat)) (fI r16 (Int.toNat i20) (3 : Nat)) r10 i11 i12 n13 i14 i20 (decide (fI r16 (Int.toNat i20) (2 : Nat) > IntKind.wrap IntKind.i64 (i2 - i6))) r15 r16 r17) else
 (bif ByteArray.toList (fS r16 (Int.toNat i20) (1 : Nat)) == ByteArray.toList s5 then (Jn116_15 m (fun i24 i25 b26 => REC i24 i25 (IntKind.wrap IntKind.i64 (i20 + (1 : Int)))) s0 s1 i2 i3 i4 s5 i6 i7 i8 i9 i18 i19 (fS r16 (Int.toNat i20) (0 : Nat)) (fS r16 (Int.toNat i20) (1 : Nat)) (fI r16 (Int.toNat i20) (2 : Nat)) (fI r16 (Int.toNat i20) (3 : Nat)) r10 i11 i12 n13 i14 i20 (decide (fI r16 (Int.toNat i20) (2 : Nat) > IntKind.wrap IntKind.i64 (i2 - i6))) r15 r16 r17) else
 (Jn116_15 m (fun i27 i28 b29 => REC i27 i28 (IntKind.wrap IntKind.i64 (i20 + (1 : Int)))) s0 s1 i2 i3 i4 s5 i6 i7 i8 i9 i18 i19 (fS r16 (Int.toNat i20) (0 : Nat)) (fS r16 (Int.toNat i20) (1 : Nat)) (fI r16 (Int.toNat i20) (2 : Nat)) (fI r16 (Int.toNat i20) (3 : Nat)) r10 i11 i12 n13 i14 i20 false r15 r16 r17))) else
 (Jn116_15 m (fun i30 i31 b32 => REC i30 i31 (IntKind.wrap IntKind.i64 (i20 + (1 : Int)))) s0 s1 i2 i3 i4 s5 i6 i7 i8 i9 i18 i19 (fS r16 (Int.toNat i20) (0 : Nat)) (fS r16 (Int.toNat i20) (1 : Nat)) (fI r16 (Int.toNat i20) (2 : Nat)) (fI r16 (Int.toNat i20) (3 : Nat)) r10 i11 i12 n13 i14 i20 false r15 r16 r17)) else
 (none)) else
 (kx0 i18 i19 i20)
noncomputable def Lp116_11 {R : Type} (m : Nat) (kx0 : Int → Int → Int → Option R) (s0 s1 : ByteArray) (i2 i3 i4 : Int) (s5 : ByteArray) (i6 i7 i8 i9 : Int) (r10 : Abs.Rows) (i11 i12 : Int) (n13 : Nat) (i14 : Int) (r15 r16 r17 : Abs.Rows) : Nat → Int → Int → Int → Option R
 | 0, _, _, _ => none
 | n + 1, i18, i19, i20 => Lp116_11_step m kx0 s0 s1 i2 i3 i4 s5 i6 i7 i8 i9 r10 i11 i12 n13 i14 r15 r16 r17 (Lp116_11 m kx0 s0 s1 i2 i3 i4 s5 i6 i7 i8 i9 r10 i11 i12 n13 i14 r15 r16 r17 n) i18 i19 i20
noncomputable def ELp116_11 (m : Nat) (R : Type) : Nat → List V → (Ex → List V → Option R) → Option R
 | 0, _, _ => none
 | n + 1, vs, k => match vs with
  | [.ref 117 0, .obj [.f (.lit (.string s0)), .f (.lit (.string s1)), .f (.lit (.int .i64 i2)), .f (.lit (.int .i64 i3))], .f (.lit (.int .i64 i4)), .obj [.f (.lit (.string s5)), .f (.lit (.int .i64 i6)), .f (.lit (.int .i64 i7)), .f (.lit (.int .i64 i8)), .f (.lit (.int .i64 i9))], .f (.lit (.int .i64 i18)), .f (.lit (.int .i64 i19)), .ref 117 0, .ref 117 0, .ref 117 0, .f (.lst [.str, .int .i64, .int .i64, .int .i64, .int .i64] r10), .f (.lit (.int .i64 i11)), .f (.lit (.int .i64 i12)), .ref 117 0, .ref 117 0, .ref 117 1, .lent { slot := (117 : Nat), leaf := some (1 : Nat) } 4 n13, .f (.lit (.int .i64 i14)), .f (.lit (.int .i64 i20)), .obj [.f (.lst [.str, .int .i64, .int .i64, .int .i64, .int .i64] r15), .own [.str, .str, .int .i64, .int .i64] r16, .own [.str, .int .i64, .int .i64, .int .i64] r17], .undef] => Lp116_11_step m (fun i33 i34 i35 => k (Ex.exit (2 : Nat)) (W85 s0 s1 i2 i3 i4 s5 i6 i7 i8 i9 i33 i34 r10 i11 i12 n13 i14 i35 r15 r16 r17)) s0 s1 i2 i3 i4 s5 i6 i7 i8 i9 r10 i11 i12 n13 i14 r15 r16 r17 (fun i18 i19 i20 => ELp116_11 m R n (W85 s0 s1 i2 i3 i4 s5 i6 i7 i8 i9 i18 i19 r10 i11 i12 n13 i14 i20 r15 r16 r17) k) i18 i19 i20
  | _ => none
noncomputable def brLp116_11 (m : Nat) (L : LTbl) (R : Type) (vs : List V) (k : Ex → List V → Option R) : Option R := match vs with
 | [.ref 117 0, .obj [.f (.lit (.string s0)), .f (.lit (.string s1)), .f (.lit (.int .i64 i2)), .f (.lit (.int .i64 i3))], .f (.lit (.int .i64 i4)), .obj [.f (.lit (.string s5)), .f (.lit (.int .i64 i6)), .f (.lit (.int .i64 i7)), .f (.lit (.int .i64 i8)), .f (.lit (.int .i64 i9))], .f (.lit (.int .i64 i18)), .f (.lit (.int .i64 i19)), .ref 117 0, .ref 117 0, .ref 117 0, .f (.lst [.str, .int .i64, .int .i64, .int .i64, .int .i64] r10), .f (.lit (.int .i64 i11)), .f (.lit (.int .i64 i12)), .ref 117 0, .ref 117 0, .ref 117 1, .lent { slot := (117 : Nat), leaf := some (1 : Nat) } 4 n13, .f (.lit (.int .i64 i14)), .f (.lit (.int .i64 i20)), .obj [.f (.lst [.str, .int .i64, .int .i64, .int .i64, .int .i64] r15), .own [.str, .str, .int .i64, .int .i64] r16, .own [.str, .int .i64, .int .i64, .int .i64] r17], .undef] => Lp116_11 m (fun i33 i34 i35 => k (Ex.exit (2 : Nat)) (W85 s0 s1 i2 i3 i4 s5 i6 i7 i8 i9 i33 i34 r10 i11 i12 n13 i14 i35 r15 r16 r17)) s0 s1 i2 i3 i4 s5 i6 i7 i8 i9 r10 i11 i12 n13 i14 r15 r16 r17 m i18 i19 i20
 | _ => L R 116 11 vs k

theorem stLp116_11 (m n : Nat) (R : Type) (s0 s1 : ByteArray) (i2 i3 i4 : Int) (s5 : ByteArray) (i6 i7 i8 i9 i18 i19 : Int) (r10 : Abs.Rows) (i11 i12 : Int) (n13 : Nat) (i14 i20 : Int) (r15 r16 r17 : Abs.Rows) (k : Ex → List V → Option R) : codeK Tryz.prog H (T63 m) 116 (L47 m) 12 (loopBody Tryz.prog 116 11) (mkEnv [0, 3, 4, 5, 6, 7, 20, 21, 22, 23, 24, 25, 40, 41, 42, 43, 44, 45, 117, 118] (W85 s0 s1 i2 i3 i4 s5 i6 i7 i8 i9 i18 i19 r10 i11 i12 n13 i14 i20 r15 r16 r17) 0 (H.len 116)) (fun e env' => match e with | .normal => ELp116_11 m R n (vals [0, 3, 4, 5, 6, 7, 20, 21, 22, 23, 24, 25, 40, 41, 42, 43, 44, 45, 117, 118] env') k | e => k e (vals [0, 3, 4, 5, 6, 7, 20, 21, 22, 23, 24, 25, 40, 41, 42, 43, 44, 45, 117, 118] env')) = Lp116_11_step m (fun i33 i34 i35 => k (Ex.exit (2 : Nat)) (W85 s0 s1 i2 i3 i4 s5 i6 i7 i8 i9 i33 i34 r10 i11 i12 n13 i14 i35 r15 r16 r17)) s0 s1 i2 i3 i4 s5 i6 i7 i8 i9 r10 i11 i12 n13 i14 r15 r16 r17 (fun i18 i19 i20 => ELp116_11 m R n (W85 s0 s1 i2 i3 i4 s5 i6 i7 i8 i9 i18 i19 r10 i11 i12 n13 i14 i20 r15 r16 r17) k) i18 i19 i20 := by kernel_rfl
theorem eqLp116_11 (m : Nat) (R : Type) (s0 s1 : ByteArray) (i2 i3 i4 : Int) (s5 : ByteArray) (i6 i7 i8 i9 : Int) (r10 : Abs.Rows) (i11 i12 : Int) (n13 : Nat) (i14 : Int) (r15 r16 r17 : Abs.Rows) (k : Ex → List V → Option R) : ∀ (n : Nat) (i18 i19 i20 : Int), ELp116_11 m R n (W85 s0 s1 i2 i3 i4 s5 i6 i7 i8 i9 i18 i19 r10 i11 i12 n13 i14 i20 r15 r16 r17) k = Lp116_11 m (fun i33 i34 i35 => k (Ex.exit (2 : Nat)) (W85 s0 s1 i2 i3 i4 s5 i6 i7 i8 i9 i33 i34 r10 i11 i12 n13 i14 i35 r15 r16 r17)) s0 s1 i2 i3 i4 s5 i6 i7 i8 i9 r10 i11 i12 n13 i14 r15 r16 r17 n i18 i19 i20
 | 0, _, _, _ => rfl
 | n + 1, i18, i19, i20 => by
  simp only [ELp116_11, Lp116_11, W85]
  congr 1
  funext i18 i19 i20
  exact eqLp116_11 m R s0 s1 i2 i3 i4 s5 i6 i7 i8 i9 r10 i11 i12 n13 i14 r15 r16 r17 k n i18 i19 i20
noncomputable def L48 (m : Nat) : LTbl := addB 116 11 (brLp116_11 m (L47 m)) (L47 m)
theorem okL48 (m : Nat) : LTOk Tryz.prog H (L48 m) := addB_ok (okT63 m) hM (okL47 m) (l := [0, 3, 4, 5, 6, 7, 20, 21, 22, 23, 24, 25, 40, 41, 42, 43, 44, 45, 117, 118]) (by kernel_rfl) (by kernel_rfl) m (fun R n vs k => ELp116_11 m R n vs k) (fun R vs k => rfl) (fun R n vs k x h => by
   simp only [ELp116_11] at h
   split at h
   ·exact (stLp116_11 m n R _ _ _ _ _ _ _ _ _ _ _ _ _ _ _ _ _ _ _ _ _ k).trans h
   ·cases h) fun R vs k x h => by
  unfold brLp116_11 at h
  split at h
  ·exact .inl ((eqLp116_11 m R _ _ _ _ _ _ _ _ _ _ _ _ _ _ _ _ _ _ k m _ _ _).trans h)
  ·exact .inr h

abbrev W86 (a0 a1 : ByteArray) (a2 a3 a4 : Int) (a5 : ByteArray) (a6 a7 a8 a9 : Int) (a10 : Abs.Rows) (a11 a12 : Int) (a13 : Bool) (a14 a15 a16 : Abs.Rows) : List V := [.ref 117 0, .obj [.f (.lit (.string a0)), .f (.lit (.string a1)), .f (.lit (.int .i64 a2)), .f (.lit (.int .i64 a3))], .f (.lit (.int .i64 a4)), .obj [.f (.lit (.string a5)), .f (.lit (.int .i64 a6)), .f (.lit (.int .i64 a7)), .f (.lit (.int .i64 a8)), .f (.lit (.int .i64 a9))], .ref 117 0, .ref 117 0, .ref 117 0, .f (.lst J5 a10), .f (.lit (.int .i64 a11)), .f (.lit (.int .i64 a12)), .f (.lit (.bool a13)), .obj [.f (.lst J5 a14), .own J9 a15, .own J6 a16], .undef]
/-- - -/
noncomputable def Jn116_18 {R : Type} (m : Nat) (kx0 : Bool → Abs.Rows → Option R) (kx1 : Bool → Option R) (s0 s1 : ByteArray) (i2 i3 i4 : Int) (s5 : ByteArray) (i6 i7 i8 i9 : Int) (r10 : Abs.Rows) (i11 i12 : Int) (b13 : Bool) (r14 r15 r16 : Abs.Rows) : Option R :=
 bif b13 then (bif decide (List.length r16 + List.length [[F.lit (Value.string s0), F.lit (Value.int IntKind.i64 i4), F.lit (Value.int IntKind.i64 (IntKind.wrap IntKind.i64 (i2 + (1 : Int)))), F.lit (Value.int IntKind.i64 (IntKind.wrap IntKind.i64 (IntKind.wrap IntKind.i64 (i2 + (1 : Int)) + i9)))]] ≤ rowMax) then (letV (r16 ++ [[F.lit (Value.string s0), F.lit (Value.int IntKind.i64 i4), F.lit (Value.int IntKind.i64 (IntKind.wrap IntKind.i64 (i2 + (1 : Int)))), F.lit (Value.int IntKind.i64 (IntKind.wrap IntKind.i64 (IntKind.wrap IntKind.i64 (i2 + (1 : Int)) + i9)))]]) (fun r17 => kx0 true r17)) else
 (none)) else
 (kx1 false)
noncomputable def brJn116_18 (m : Nat) (L : LTbl) (R : Type) (vs : List V) (k : Ex → List V → Option R) : Option R := match vs with
 | [.ref 117 0, .obj [.f (.lit (.string s0)), .f (.lit (.string s1)), .f (.lit (.int .i64 i2)), .f (.lit (.int .i64 i3))], .f (.lit (.int .i64 i4)), .obj [.f (.lit (.string s5)), .f (.lit (.int .i64 i6)), .f (.lit (.int .i64 i7)), .f (.lit (.int .i64 i8)), .f (.lit (.int .i64 i9))], .ref 117 0, .ref 117 0, .ref 117 0, .f (.lst [.str, .int .i64, .int .i64, .int .i64, .int .i64] r10), .f (.lit (.int .i64 i11)), .f (.lit (.int .i64 i12)), .f (.lit (.bool b13)), .obj [.f (.lst [.str, .int .i64, .int .i64, .int .i64, .int .i64] r14), .own [.str, .str, .int .i64, .int .i64] r15, .own [.str, .int .i64, .int .i64, .int .i64] r16], .undef] => Jn116_18 m (fun b18 r19 => k Ex.ret (W86 s0 s1 i2 i3 i4 s5 i6 i7 i8 i9 r10 i11 i12 b18 r14 r15 r19)) (fun b20 => k Ex.normal (W86 s0 s1 i2 i3 i4 s5 i6 i7 i8 i9 r10 i11 i12 b20 r14 r15 r16)) s0 s1 i2 i3 i4 s5 i6 i7 i8 i9 r10 i11 i12 b13 r14 r15 r16
 | _ => L R 116 18 vs k

theorem evJn116_18 (m : Nat) (R : Type) (s0 s1 : ByteArray) (i2 i3 i4 : Int) (s5 : ByteArray) (i6 i7 i8 i9 : Int) (r10 : Abs.Rows) (i11 i12 : Int) (b13 : Bool) (r14 r15 r16 : Abs.Rows) (k : Ex → List V → Option R) : codeK Tryz.prog H (T63 m) 116 (L48 m) 19 (loopBody Tryz.prog 116 18) (mkEnv [0, 3, 4, 5, 20, 21, 22, 23, 24, 25, 93, 117, 118] (W86 s0 s1 i2 i3 i4 s5 i6 i7 i8 i9 r10 i11 i12 b13 r14 r15 r16) 0 (H.len 116)) (fun e env' => k e (vals [0, 3, 4, 5, 20, 21, 22, 23, 24, 25, 93, 117, 118] env')) = Jn116_18 m (fun b18 r19 => k Ex.ret (W86 s0 s1 i2 i3 i4 s5 i6 i7 i8 i9 r10 i11 i12 b18 r14 r15 r19)) (fun b20 => k Ex.normal (W86 s0 s1 i2 i3 i4 s5 i6 i7 i8 i9 r10 i11 i12 b20 r14 r15 r16)) s0 s1 i2 i3 i4 s5 i6 i7 i8 i9 r10 i11 i12 b13 r14 r15 r16 := by kernel_rfl
noncomputable def L49 (m : Nat) : LTbl := addJ 116 18 (brJn116_18 m (L48 m)) (L48 m)
theorem okL49 (m : Nat) : LTOk Tryz.prog H (L49 m) := addJ_ok (okT63 m) hM (okL48 m) (l := [0, 3, 4, 5, 20, 21, 22, 23, 24, 25, 93, 117, 118]) (by kernel_rfl) (by kernel_rfl) fun R vs k x h => by
  unfold brJn116_18 at h
  split at h
  ·exact .inl ((evJn116_18 m R _ _ _ _ _ _ _ _ _ _ _ _ _ _ _ _ _ k).trans h)
  ·exact .inr h

abbrev W87 (a0 a1 : ByteArray) (a2 a3 a4 : Int) (a5 : ByteArray) (a6 a7 a8 a9 : Int) (a10 : Abs.Rows) (a11 a12 : Int) (a13 a14 a15 : Abs.Rows) : List V := [.ref 117 0, .obj [.f (.lit (.string a0)), .f (.lit (.string a1)), .f (.lit (.int .i64 a2)), .f (.lit (.int .i64 a3))], .f (.lit (.int .i64 a4)), .obj [.f (.lit (.string a5)), .f (.lit (.int .i64 a6)), .f (.lit (.int .i64 a7)), .f (.lit (.int .i64 a8)), .f (.lit (.int .i64 a9))], .ref 117 0, .ref 117 0, .ref 117 0, .f (.lst J5 a10), .f (.lit (.int .i64 a11)), .f (.lit (.int .i64 a12)), .obj [.f (.lst J5 a13), .own J9 a14, .own J6 a15], .undef]
/-- - -/
noncomputable def Jn116_8 {R : Type} (m : Nat) (kx0 : Abs.Rows → Option R) (kx1 : Option R) (s0 s1 : ByteArray) (i2 i3 i4 : Int) (s5 : ByteArray) (i6 i7 i8 i9 : Int) (r10 : Abs.Rows) (i11 i12 : Int) (r13 r14 r15 : Abs.Rows) : Option R :=
 Lp116_11 m (fun i16 i17 i18 => bif decide (i16 > i7) then (Jn116_18 m (fun b19 r20 => kx0 r20) (fun b21 => kx1 ) s0 s1 i2 i3 i4 s5 i6 i7 i8 i9 r10 i11 i12 true r13 r14 r15) else
 (Jn116_18 m (fun b22 r23 => kx0 r23) (fun b24 => kx1 ) s0 s1 i2 i3 i4 s5 i6 i7 i8 i9 r10 i11 i12 (decide (i17 > IntKind.wrap IntKind.i64 ((1000 : Int) * i8))) r13 r14 r15)) s0 s1 i2 i3 i4 s5 i6 i7 i8 i9 r10 i11 i12 (List.length r14) ((↑(List.length r14) : Int)) r13 r14 r15 m ((0 : Int)) ((0 : Int)) ((0 : Int))
noncomputable def brJn116_8 (m : Nat) (L : LTbl) (R : Type) (vs : List V) (k : Ex → List V → Option R) : Option R := match vs with
 | [.ref 117 0, .obj [.f (.lit (.string s0)), .f (.lit (.string s1)), .f (.lit (.int .i64 i2)), .f (.lit (.int .i64 i3))], .f (.lit (.int .i64 i4)), .obj [.f (.lit (.string s5)), .f (.lit (.int .i64 i6)), .f (.lit (.int .i64 i7)), .f (.lit (.int .i64 i8)), .f (.lit (.int .i64 i9))], .ref 117 0, .ref 117 0, .ref 117 0, .f (.lst [.str, .int .i64, .int .i64, .int .i64, .int .i64] r10), .f (.lit (.int .i64 i11)), .f (.lit (.int .i64 i12)), .obj [.f (.lst [.str, .int .i64, .int .i64, .int .i64, .int .i64] r13), .own [.str, .str, .int .i64, .int .i64] r14, .own [.str, .int .i64, .int .i64, .int .i64] r15], .undef] => Jn116_8 m (fun r25 => k Ex.ret (W87 s0 s1 i2 i3 i4 s5 i6 i7 i8 i9 r10 i11 i12 r13 r14 r25)) (k Ex.normal (W87 s0 s1 i2 i3 i4 s5 i6 i7 i8 i9 r10 i11 i12 r13 r14 r15)) s0 s1 i2 i3 i4 s5 i6 i7 i8 i9 r10 i11 i12 r13 r14 r15
 | _ => L R 116 8 vs k

theorem evJn116_8 (m : Nat) (R : Type) (s0 s1 : ByteArray) (i2 i3 i4 : Int) (s5 : ByteArray) (i6 i7 i8 i9 : Int) (r10 : Abs.Rows) (i11 i12 : Int) (r13 r14 r15 : Abs.Rows) (k : Ex → List V → Option R) : codeK Tryz.prog H (T63 m) 116 (L49 m) 9 (loopBody Tryz.prog 116 8) (mkEnv [0, 3, 4, 5, 20, 21, 22, 23, 24, 25, 117, 118] (W87 s0 s1 i2 i3 i4 s5 i6 i7 i8 i9 r10 i11 i12 r13 r14 r15) 0 (H.len 116)) (fun e env' => k e (vals [0, 3, 4, 5, 20, 21, 22, 23, 24, 25, 117, 118] env')) = Jn116_8 m (fun r25 => k Ex.ret (W87 s0 s1 i2 i3 i4 s5 i6 i7 i8 i9 r10 i11 i12 r13 r14 r25)) (k Ex.normal (W87 s0 s1 i2 i3 i4 s5 i6 i7 i8 i9 r10 i11 i12 r13 r14 r15)) s0 s1 i2 i3 i4 s5 i6 i7 i8 i9 r10 i11 i12 r13 r14 r15 := by kernel_rfl
noncomputable def L50 (m : Nat) : LTbl := addJ 116 8 (brJn116_8 m (L49 m)) (L49 m)
theorem okL50 (m : Nat) : LTOk Tryz.prog H (L50 m) := addJ_ok (okT63 m) hM (okL49 m) (l := [0, 3, 4, 5, 20, 21, 22, 23, 24, 25, 117, 118]) (by kernel_rfl) (by kernel_rfl) fun R vs k x h => by
  unfold brJn116_8 at h
  split at h
  ·exact .inl ((evJn116_8 m R _ _ _ _ _ _ _ _ _ _ _ _ _ _ _ _ k).trans h)
  ·exact .inr h

abbrev W88 (a0 a1 : ByteArray) (a2 a3 : Int) (a4 : Abs.Rows) (a5 a6 : Int) (a7 a8 a9 : Abs.Rows) : List V := [.ref 117 0, .obj [.f (.lit (.string a0)), .f (.lit (.string a1)), .f (.lit (.int .i64 a2)), .f (.lit (.int .i64 a3))], .ref 117 0, .ref 117 0, .ref 117 0, .f (.lst J5 a4), .f (.lit (.int .i64 a5)), .f (.lit (.int .i64 a6)), .obj [.f (.lst J5 a7), .own J9 a8, .own J6 a9], .undef]
/-- - -/
noncomputable def Lp116_3_step {R : Type} (m : Nat) (kx0 : Int → Abs.Rows → Option R) (kx1 : Int → Option R) (s0 s1 : ByteArray) (i2 i3 : Int) (r4 : Abs.Rows) (i5 : Int) (r6 r7 r8 : Abs.Rows) (REC : Int → Option R) (i9 : Int) : Option R :=
 bif decide (i9 < i5) then (bif decide ((0 : Int) ≤ i9 ∧ i9 < (↑(List.length r4) : Int)) then (bif !ByteArray.toList (fS r4 (Int.toNat i9) (0 : Nat)) == ByteArray.toList { data := #[] } then (bif !ByteArray.toList (fS r4 (Int.toNat i9) (0 : Nat)) == ByteArray.toList s1 then (REC (IntKind.wrap IntKind.i64 (i9 + (1 : Int)))) else
 (Jn116_8 m (fun r10 => kx0 i9 r10) (REC (IntKind.wrap IntKind.i64 (i9 + (1 : Int)))) s0 s1 i2 i3 i9 (fS r4 (Int.toNat i9) (0 : Nat)) (fI r4 (Int.toNat i9) (1 : Nat)) (fI r4 (Int.toNat i9) (2 : Nat)) (fI r4 (Int.toNat i9) (3 : Nat)) (fI r4 (Int.toNat i9) (4 : Nat)) r4 i5 i9 r6 r7 r8)) else
 (Jn116_8 m (fun r11 => kx0 i9 r11) (REC (IntKind.wrap IntKind.i64 (i9 + (1 : Int)))) s0 s1 i2 i3 i9 (fS r4 (Int.toNat i9) (0 : Nat)) (fI r4 (Int.toNat i9) (1 : Nat)) (fI r4 (Int.toNat i9) (2 : Nat)) (fI r4 (Int.toNat i9) (3 : Nat)) (fI r4 (Int.toNat i9) (4 : Nat)) r4 i5 i9 r6 r7 r8)) else
 (none)) else
 (kx1 i9)
noncomputable def Lp116_3 {R : Type} (m : Nat) (kx0 : Int → Abs.Rows → Option R) (kx1 : Int → Option R) (s0 s1 : ByteArray) (i2 i3 : Int) (r4 : Abs.Rows) (i5 : Int) (r6 r7 r8 : Abs.Rows) : Nat → Int → Option R
 | 0, _ => none
 | n + 1, i9 => Lp116_3_step m kx0 kx1 s0 s1 i2 i3 r4 i5 r6 r7 r8 (Lp116_3 m kx0 kx1 s0 s1 i2 i3 r4 i5 r6 r7 r8 n) i9
noncomputable def ELp116_3 (m : Nat) (R : Type) : Nat → List V → (Ex → List V → Option R) → Option R
 | 0, _, _ => none
 | n + 1, vs, k => match vs with
  | [.ref 117 0, .obj [.f (.lit (.string s0)), .f (.lit (.string s1)), .f (.lit (.int .i64 i2)), .f (.lit (.int .i64 i3))], .ref 117 0, .ref 117 0, .ref 117 0, .f (.lst [.str, .int .i64, .int .i64, .int .i64, .int .i64] r4), .f (.lit (.int .i64 i5)), .f (.lit (.int .i64 i9)), .obj [.f (.lst [.str, .int .i64, .int .i64, .int .i64, .int .i64] r6), .own [.str, .str, .int .i64, .int .i64] r7, .own [.str, .int .i64, .int .i64, .int .i64] r8], .undef] => Lp116_3_step m (fun i12 r13 => k Ex.ret (W88 s0 s1 i2 i3 r4 i5 i12 r6 r7 r13)) (fun i14 => k (Ex.exit (0 : Nat)) (W88 s0 s1 i2 i3 r4 i5 i14 r6 r7 r8)) s0 s1 i2 i3 r4 i5 r6 r7 r8 (fun i9 => ELp116_3 m R n (W88 s0 s1 i2 i3 r4 i5 i9 r6 r7 r8) k) i9
  | _ => none
noncomputable def brLp116_3 (m : Nat) (L : LTbl) (R : Type) (vs : List V) (k : Ex → List V → Option R) : Option R := match vs with
 | [.ref 117 0, .obj [.f (.lit (.string s0)), .f (.lit (.string s1)), .f (.lit (.int .i64 i2)), .f (.lit (.int .i64 i3))], .ref 117 0, .ref 117 0, .ref 117 0, .f (.lst [.str, .int .i64, .int .i64, .int .i64, .int .i64] r4), .f (.lit (.int .i64 i5)), .f (.lit (.int .i64 i9)), .obj [.f (.lst [.str, .int .i64, .int .i64, .int .i64, .int .i64] r6), .own [.str, .str, .int .i64, .int .i64] r7, .own [.str, .int .i64, .int .i64, .int .i64] r8], .undef] => Lp116_3 m (fun i12 r13 => k Ex.ret (W88 s0 s1 i2 i3 r4 i5 i12 r6 r7 r13)) (fun i14 => k (Ex.exit (0 : Nat)) (W88 s0 s1 i2 i3 r4 i5 i14 r6 r7 r8)) s0 s1 i2 i3 r4 i5 r6 r7 r8 m i9
 | _ => L R 116 3 vs k

theorem stLp116_3 (m n : Nat) (R : Type) (s0 s1 : ByteArray) (i2 i3 : Int) (r4 : Abs.Rows) (i5 i9 : Int) (r6 r7 r8 : Abs.Rows) (k : Ex → List V → Option R) : codeK Tryz.prog H (T63 m) 116 (L50 m) 4 (loopBody Tryz.prog 116 3) (mkEnv [0, 3, 20, 21, 22, 23, 24, 25, 117, 118] (W88 s0 s1 i2 i3 r4 i5 i9 r6 r7 r8) 0 (H.len 116)) (fun e env' => match e with | .normal => ELp116_3 m R n (vals [0, 3, 20, 21, 22, 23, 24, 25, 117, 118] env') k | e => k e (vals [0, 3, 20, 21, 22, 23, 24, 25, 117, 118] env')) = Lp116_3_step m (fun i12 r13 => k Ex.ret (W88 s0 s1 i2 i3 r4 i5 i12 r6 r7 r13)) (fun i14 => k (Ex.exit (0 : Nat)) (W88 s0 s1 i2 i3 r4 i5 i14 r6 r7 r8)) s0 s1 i2 i3 r4 i5 r6 r7 r8 (fun i9 => ELp116_3 m R n (W88 s0 s1 i2 i3 r4 i5 i9 r6 r7 r8) k) i9 := by kernel_rfl
theorem eqLp116_3 (m : Nat) (R : Type) (s0 s1 : ByteArray) (i2 i3 : Int) (r4 : Abs.Rows) (i5 : Int) (r6 r7 r8 : Abs.Rows) (k : Ex → List V → Option R) : ∀ (n : Nat) (i9 : Int), ELp116_3 m R n (W88 s0 s1 i2 i3 r4 i5 i9 r6 r7 r8) k = Lp116_3 m (fun i12 r13 => k Ex.ret (W88 s0 s1 i2 i3 r4 i5 i12 r6 r7 r13)) (fun i14 => k (Ex.exit (0 : Nat)) (W88 s0 s1 i2 i3 r4 i5 i14 r6 r7 r8)) s0 s1 i2 i3 r4 i5 r6 r7 r8 n i9
 | 0, _ => rfl
 | n + 1, i9 => by
  simp only [ELp116_3, Lp116_3, W88]
  congr 1
  funext i9
  exact eqLp116_3 m R s0 s1 i2 i3 r4 i5 r6 r7 r8 k n i9
noncomputable def L51 (m : Nat) : LTbl := addB 116 3 (brLp116_3 m (L50 m)) (L50 m)
theorem okL51 (m : Nat) : LTOk Tryz.prog H (L51 m) := addB_ok (okT63 m) hM (okL50 m) (l := [0, 3, 20, 21, 22, 23, 24, 25, 117, 118]) (by kernel_rfl) (by kernel_rfl) m (fun R n vs k => ELp116_3 m R n vs k) (fun R vs k => rfl) (fun R n vs k x h => by
   simp only [ELp116_3] at h
   split at h
   ·exact (stLp116_3 m n R _ _ _ _ _ _ _ _ _ _ k).trans h
   ·cases h) fun R vs k x h => by
  unfold brLp116_3 at h
  split at h
  ·exact .inl ((eqLp116_3 m R _ _ _ _ _ _ _ _ _ k m _).trans h)
  ·exact .inr h

abbrev W89 (a0 a1 a2 : Abs.Rows) : List V := [.obj [.f (.lst J5 a0), .own J9 a1, .own J6 a2], .undef]
abbrev W90 (a0 a1 a2 : Abs.Rows) (a3 a4 : ByteArray) (a5 a6 : Int) : List V := [.obj [.f (.lst J5 a0), .own J9 a1, .own J6 a2], .agg [.f (.lit (.string a3)), .f (.lit (.string a4)), .f (.lit (.int .i64 a5)), .f (.lit (.int .i64 a6))]]
/-- - -/
noncomputable def Fn116 {R : Type} (m : Nat) : Abs.Rows → Abs.Rows → Abs.Rows → ByteArray → ByteArray → Int → Int → (Abs.Rows → Abs.Rows → Option R) → Option R := match m with
 | 0 => fun _ _ _ _ _ _ _ _ => none
 | m + 1 => fun r0 r1 r2 s3 s4 i5 i6 k =>
 bif decide (List.length r1 + List.length [[F.lit (Value.string s3), F.lit (Value.string s4), F.lit (Value.int IntKind.i64 i5), F.lit (Value.int IntKind.i64 i6)]] ≤ rowMax) then (letV (r1 ++ [[F.lit (Value.string s3), F.lit (Value.string s4), F.lit (Value.int IntKind.i64 i5), F.lit (Value.int IntKind.i64 i6)]]) (fun r7 => Lp116_3 m (fun i8 r9 => k r7 r9) (fun i10 => k r7 r2) s3 s4 i5 i6 r0 ((↑(List.length r0) : Int)) r0 r7 r2 m ((0 : Int)))) else
 (none)
noncomputable def brFn116 (m : Nat) (T : Tbl) (R : Type) (vs : List V) (k : V → List V → Option R) : Option R := match vs with
 | [.obj [.f (.lst [.str, .int .i64, .int .i64, .int .i64, .int .i64] r0), .own [.str, .str, .int .i64, .int .i64] r1, .own [.str, .int .i64, .int .i64, .int .i64] r2], .agg [.f (.lit (.string s3)), .f (.lit (.string s4)), .f (.lit (.int .i64 i5)), .f (.lit (.int .i64 i6))]] => Fn116 m r0 r1 r2 s3 s4 i5 i6 (fun r11 r12 => k (V.tup []) (W89 r0 r11 r12))
 | _ => T R 116 vs k

theorem evFn116 (m : Nat) (R : Type) (r0 r1 r2 : Abs.Rows) (s3 s4 : ByteArray) (i5 i6 : Int) (k : V → List V → Option R) : runK Tryz.prog H (T63 m) (L51 m) 116 (W90 r0 r1 r2 s3 s4 i5 i6) k = Fn116 (m + 1) r0 r1 r2 s3 s4 i5 i6 (fun r11 r12 => k (V.tup []) (W89 r0 r11 r12)) := by kernel_rfl
noncomputable def T64 (m : Nat) : Tbl := addT 116 (brFn116 m (T63 m)) (T63 m)
theorem okT64 (m : Nat) : TblOk Tryz.prog (T64 m) := addT_ok (okT63 m) fun R vs k x h => by
 unfold brFn116 at h
 split at h
 ·cases m with
  | zero => cases h
  | succ m => exact runK_some (okT63 m) hM (okL51 m) ((evFn116 m R _ _ _ _ _ _ _ k).trans h)
 ·exact okT63 m R 116 _ k x h

abbrev W91 (a0 a1 : Abs.Rows) (a2 : Int) (a3 a4 a5 a6 a7 a8 a9 : Abs.Rows) (a10 a11 : Int) : List V := [.bor J2 a0, .obj [.f (.lst J4 a1), .f (.lit (.int .i64 a2)), .f (.lst J3 a3)], .obj [.f (.lst J5 a4), .own J9 a5, .own J6 a6], .own J10 a7, .own J1 a8, .undef, .undef, .bor J2 a9, .f (.lit (.int .i64 a10)), .f (.lit (.int .i64 a11)), .undef, .undef, .undef, .undef]
/-- - -/
noncomputable def Lp67_5_step {R : Type} (m : Nat) (kx0 : Abs.Rows → Abs.Rows → Abs.Rows → Int → Option R) (r0 r1 : Abs.Rows) (i2 : Int) (r3 r4 r5 r6 : Abs.Rows) (i7 : Int) (REC : Abs.Rows → Abs.Rows → Abs.Rows → Int → Option R) (r8 r9 r10 : Abs.Rows) (i11 : Int) : Option R :=
 bif decide (i11 < i7) then (bif decide ((0 : Int) ≤ i11 ∧ i11 < (↑(List.length r6) : Int)) then (bif !mHas (F.lit (Value.string (fS r6 (Int.toNat i11) (1 : Nat)))) r5 then (REC r8 r9 r10 (IntKind.wrap IntKind.i64 (i11 + (1 : Int)))) else
 (Fn78 m r9 (F.toStr (List.headD (mRow (F.lit (Value.string (fS r6 (Int.toNat i11) (1 : Nat)))) [F.lit (Value.string { data := #[] })] r5) default)) (fI r6 (Int.toNat i11) (3 : Nat)) (fun b12 => bif b12 then (bif decide (List.length r10 + List.length [[F.lit (Value.int IntKind.i64 i11)]] ≤ rowMax) then (letV (r10 ++ [[F.lit (Value.int IntKind.i64 i11)]]) (fun r13 => REC r8 r9 r13 (IntKind.wrap IntKind.i64 (i11 + (1 : Int))))) else
 (none)) else
 (Fn57 m r1 i2 r3 (fS r6 (Int.toNat i11) (2 : Nat)) (fun s14 s15 i16 i17 i18 i19 b20 => bif b20 then (Fn110 m s14 s15 i16 i17 i18 i19 (fI r6 (Int.toNat i11) (5 : Nat)) (fun i21 => Fn116 m r4 r8 r9 (F.toStr (List.headD (mRow (F.lit (Value.string (fS r6 (Int.toNat i11) (1 : Nat)))) [F.lit (Value.string { data := #[] })] r5) default)) s15 (fI r6 (Int.toNat i11) (3 : Nat)) i21 (fun r22 r23 => REC r22 r23 r10 (IntKind.wrap IntKind.i64 (i11 + (1 : Int)))))) else
 (REC r8 r9 r10 (IntKind.wrap IntKind.i64 (i11 + (1 : Int))))))))) else
 (none)) else
 (kx0 r8 r9 r10 i11)
noncomputable def Lp67_5 {R : Type} (m : Nat) (kx0 : Abs.Rows → Abs.Rows → Abs.Rows → Int → Option R) (r0 r1 : Abs.Rows) (i2 : Int) (r3 r4 r5 r6 : Abs.Rows) (i7 : Int) : Nat → Abs.Rows → Abs.Rows → Abs.Rows → Int → Option R
 | 0, _, _, _, _ => none
 | n + 1, r8, r9, r10, i11 => Lp67_5_step m kx0 r0 r1 i2 r3 r4 r5 r6 i7 (Lp67_5 m kx0 r0 r1 i2 r3 r4 r5 r6 i7 n) r8 r9 r10 i11
noncomputable def ELp67_5 (m : Nat) (R : Type) : Nat → List V → (Ex → List V → Option R) → Option R
 | 0, _, _ => none
 | n + 1, vs, k => match vs with
  | [.bor [.str, .str, .str, .int .i64, .int .i64, .int .i64, .int .i64, .str] r0, .obj [.f (.lst [.str, .str, .int .i64, .int .i64, .int .i64, .int .i64] r1), .f (.lit (.int .i64 i2)), .f (.lst [.str] r3)], .obj [.f (.lst [.str, .int .i64, .int .i64, .int .i64, .int .i64] r4), .own [.str, .str, .int .i64, .int .i64] r8, .own [.str, .int .i64, .int .i64, .int .i64] r9], .own [.mp false, .str, .str] r5, .own [.int .i64] r10, .undef, .undef, .bor [.str, .str, .str, .int .i64, .int .i64, .int .i64, .int .i64, .str] r6, .f (.lit (.int .i64 i7)), .f (.lit (.int .i64 i11)), .undef, .undef, .undef, .undef] => Lp67_5_step m (fun r24 r25 r26 i27 => k (Ex.exit (0 : Nat)) (W91 r0 r1 i2 r3 r4 r24 r25 r5 r26 r6 i7 i27)) r0 r1 i2 r3 r4 r5 r6 i7 (fun r8 r9 r10 i11 => ELp67_5 m R n (W91 r0 r1 i2 r3 r4 r8 r9 r5 r10 r6 i7 i11) k) r8 r9 r10 i11
  | _ => none
noncomputable def brLp67_5 (m : Nat) (L : LTbl) (R : Type) (vs : List V) (k : Ex → List V → Option R) : Option R := match vs with
 | [.bor [.str, .str, .str, .int .i64, .int .i64, .int .i64, .int .i64, .str] r0, .obj [.f (.lst [.str, .str, .int .i64, .int .i64, .int .i64, .int .i64] r1), .f (.lit (.int .i64 i2)), .f (.lst [.str] r3)], .obj [.f (.lst [.str, .int .i64, .int .i64, .int .i64, .int .i64] r4), .own [.str, .str, .int .i64, .int .i64] r8, .own [.str, .int .i64, .int .i64, .int .i64] r9], .own [.mp false, .str, .str] r5, .own [.int .i64] r10, .undef, .undef, .bor [.str, .str, .str, .int .i64, .int .i64, .int .i64, .int .i64, .str] r6, .f (.lit (.int .i64 i7)), .f (.lit (.int .i64 i11)), .undef, .undef, .undef, .undef] => Lp67_5 m (fun r24 r25 r26 i27 => k (Ex.exit (0 : Nat)) (W91 r0 r1 i2 r3 r4 r24 r25 r5 r26 r6 i7 i27)) r0 r1 i2 r3 r4 r5 r6 i7 m r8 r9 r10 i11
 | _ => L R 67 5 vs k

theorem stLp67_5 (m n : Nat) (R : Type) (r0 r1 : Abs.Rows) (i2 : Int) (r3 r4 r8 r9 r5 r10 r6 : Abs.Rows) (i7 i11 : Int) (k : Ex → List V → Option R) : codeK Tryz.prog H (T64 m) 67 (L51 m) 6 (loopBody Tryz.prog 67 5) (mkEnv [3, 4, 10, 11, 12, 21, 23, 24, 25, 26, 78, 79, 80, 81] (W91 r0 r1 i2 r3 r4 r8 r9 r5 r10 r6 i7 i11) 0 (H.len 67)) (fun e env' => match e with | .normal => ELp67_5 m R n (vals [3, 4, 10, 11, 12, 21, 23, 24, 25, 26, 78, 79, 80, 81] env') k | e => k e (vals [3, 4, 10, 11, 12, 21, 23, 24, 25, 26, 78, 79, 80, 81] env')) = Lp67_5_step m (fun r24 r25 r26 i27 => k (Ex.exit (0 : Nat)) (W91 r0 r1 i2 r3 r4 r24 r25 r5 r26 r6 i7 i27)) r0 r1 i2 r3 r4 r5 r6 i7 (fun r8 r9 r10 i11 => ELp67_5 m R n (W91 r0 r1 i2 r3 r4 r8 r9 r5 r10 r6 i7 i11) k) r8 r9 r10 i11 := by kernel_rfl
theorem eqLp67_5 (m : Nat) (R : Type) (r0 r1 : Abs.Rows) (i2 : Int) (r3 r4 r5 r6 : Abs.Rows) (i7 : Int) (k : Ex → List V → Option R) : ∀ (n : Nat) (r8 r9 r10 : Abs.Rows) (i11 : Int), ELp67_5 m R n (W91 r0 r1 i2 r3 r4 r8 r9 r5 r10 r6 i7 i11) k = Lp67_5 m (fun r24 r25 r26 i27 => k (Ex.exit (0 : Nat)) (W91 r0 r1 i2 r3 r4 r24 r25 r5 r26 r6 i7 i27)) r0 r1 i2 r3 r4 r5 r6 i7 n r8 r9 r10 i11
 | 0, _, _, _, _ => rfl
 | n + 1, r8, r9, r10, i11 => by
  simp only [ELp67_5, Lp67_5, W91]
  congr 1
  funext r8 r9 r10 i11
  exact eqLp67_5 m R r0 r1 i2 r3 r4 r5 r6 i7 k n r8 r9 r10 i11
noncomputable def L52 (m : Nat) : LTbl := addB 67 5 (brLp67_5 m (L51 m)) (L51 m)
theorem okL52 (m : Nat) : LTOk Tryz.prog H (L52 m) := addB_ok (okT64 m) hM (okL51 m) (l := [3, 4, 10, 11, 12, 21, 23, 24, 25, 26, 78, 79, 80, 81]) (by kernel_rfl) (by kernel_rfl) m (fun R n vs k => ELp67_5 m R n vs k) (fun R vs k => rfl) (fun R n vs k x h => by
   simp only [ELp67_5] at h
   split at h
   ·exact (stLp67_5 m n R _ _ _ _ _ _ _ _ _ _ _ _ k).trans h
   ·cases h) fun R vs k x h => by
  unfold brLp67_5 at h
  split at h
  ·exact .inl ((eqLp67_5 m R _ _ _ _ _ _ _ _ k m _ _ _ _).trans h)
  ·exact .inr h

abbrev W92 (a0 a1 : Abs.Rows) : List V := [.own J6 a0, .own J1 a1]
/-- - -/
noncomputable def Fn67 {R : Type} (m : Nat) : Abs.Rows → Int → Abs.Rows → Abs.Rows → Abs.Rows → Abs.Rows → (Abs.Rows → Abs.Rows → Option R) → Option R := match m with
 | 0 => fun _ _ _ _ _ _ _ => none
 | m + 1 => fun r0 i1 r2 r3 r4 r5 k =>
 Fn56 m r3 (fun r6 => Lp67_5 m (fun r7 r8 r9 i10 => k r8 r9) r5 r0 i1 r2 r4 r6 r5 ((↑(List.length r5) : Int)) m rows0 rows0 rows0 ((0 : Int)))
noncomputable def brFn67 (m : Nat) (T : Tbl) (R : Type) (vs : List V) (k : V → List V → Option R) : Option R := match vs with
 | [.agg [.f (.lst [.str, .str, .int .i64, .int .i64, .int .i64, .int .i64] r0), .f (.lit (.int .i64 i1)), .f (.lst [.str] r2)], .bor [.str, .lst [.str]] r3, .f (.lst [.str, .int .i64, .int .i64, .int .i64, .int .i64] r4), .bor [.str, .str, .str, .int .i64, .int .i64, .int .i64, .int .i64, .str] r5] => Fn67 m r0 i1 r2 r3 r4 r5 (fun r11 r12 => k (V.tup (W92 r11 r12)) W68)
 | _ => T R 67 vs k

theorem evFn67 (m : Nat) (R : Type) (r0 : Abs.Rows) (i1 : Int) (r2 r3 r4 r5 : Abs.Rows) (k : V → List V → Option R) : runK Tryz.prog H (T64 m) (L52 m) 67 (W69 r0 i1 r2 r3 r4 r5) k = Fn67 (m + 1) r0 i1 r2 r3 r4 r5 (fun r11 r12 => k (V.tup (W92 r11 r12)) W68) := by kernel_rfl
noncomputable def T65 (m : Nat) : Tbl := addT 67 (brFn67 m (T64 m)) (T64 m)
theorem okT65 (m : Nat) : TblOk Tryz.prog (T65 m) := addT_ok (okT64 m) fun R vs k x h => by
 unfold brFn67 at h
 split at h
 ·cases m with
  | zero => cases h
  | succ m => exact runK_some (okT64 m) hM (okL52 m) ((evFn67 m R _ _ _ _ _ _ k).trans h)
 ·exact okT64 m R 67 _ k x h

abbrev W93 (a0 : Abs.Rows) (a1 : Int) : List V := [.own J6 a0, .f (.lit (.int .i64 a1))]
/-- - -/
noncomputable def Fn23 {R : Type} (m : Nat) : Abs.Rows → Int → Abs.Rows → Abs.Rows → Abs.Rows → Abs.Rows → (Abs.Rows → Int → Option R) → Option R := match m with
 | 0 => fun _ _ _ _ _ _ _ => none
 | m + 1 => fun r0 i1 r2 r3 r4 r5 k =>
 Fn66 m r0 i1 r2 r3 r4 r5 (fun i6 => bif i6 != (0 : Int) then (k rows0 i6) else
 (Fn67 m r0 i1 r2 r3 r4 r5 (fun r7 r8 => k r7 ((0 : Int)))))
noncomputable def brFn23 (m : Nat) (T : Tbl) (R : Type) (vs : List V) (k : V → List V → Option R) : Option R := match vs with
 | [.agg [.f (.lst [.str, .str, .int .i64, .int .i64, .int .i64, .int .i64] r0), .f (.lit (.int .i64 i1)), .f (.lst [.str] r2)], .bor [.str, .lst [.str]] r3, .f (.lst [.str, .int .i64, .int .i64, .int .i64, .int .i64] r4), .bor [.str, .str, .str, .int .i64, .int .i64, .int .i64, .int .i64, .str] r5] => Fn23 m r0 i1 r2 r3 r4 r5 (fun r9 i10 => k (V.tup (W93 r9 i10)) W68)
 | _ => T R 23 vs k

theorem evFn23 (m : Nat) (R : Type) (r0 : Abs.Rows) (i1 : Int) (r2 r3 r4 r5 : Abs.Rows) (k : V → List V → Option R) : runK Tryz.prog H (T65 m) (L52 m) 23 (W69 r0 i1 r2 r3 r4 r5) k = Fn23 (m + 1) r0 i1 r2 r3 r4 r5 (fun r9 i10 => k (V.tup (W93 r9 i10)) W68) := by kernel_rfl
noncomputable def T66 (m : Nat) : Tbl := addT 23 (brFn23 m (T65 m)) (T65 m)
theorem okT66 (m : Nat) : TblOk Tryz.prog (T66 m) := addT_ok (okT65 m) fun R vs k x h => by
 unfold brFn23 at h
 split at h
 ·cases m with
  | zero => cases h
  | succ m => exact runK_some (okT65 m) hM (okL52 m) ((evFn23 m R _ _ _ _ _ _ k).trans h)
 ·exact okT65 m R 23 _ k x h

abbrev W94 (a0 : Abs.Rows) (a1 : Int) : List V := [.own J1 a0, .f (.lit (.int .i64 a1))]
/-- - -/
noncomputable def Fn24 {R : Type} (m : Nat) : Abs.Rows → Int → Abs.Rows → Abs.Rows → Abs.Rows → Abs.Rows → (Abs.Rows → Int → Option R) → Option R := match m with
 | 0 => fun _ _ _ _ _ _ _ => none
 | m + 1 => fun r0 i1 r2 r3 r4 r5 k =>
 Fn66 m r0 i1 r2 r3 r4 r5 (fun i6 => bif i6 != (0 : Int) then (k rows0 i6) else
 (Fn67 m r0 i1 r2 r3 r4 r5 (fun r7 r8 => k r8 ((0 : Int)))))
noncomputable def brFn24 (m : Nat) (T : Tbl) (R : Type) (vs : List V) (k : V → List V → Option R) : Option R := match vs with
 | [.agg [.f (.lst [.str, .str, .int .i64, .int .i64, .int .i64, .int .i64] r0), .f (.lit (.int .i64 i1)), .f (.lst [.str] r2)], .bor [.str, .lst [.str]] r3, .f (.lst [.str, .int .i64, .int .i64, .int .i64, .int .i64] r4), .bor [.str, .str, .str, .int .i64, .int .i64, .int .i64, .int .i64, .str] r5] => Fn24 m r0 i1 r2 r3 r4 r5 (fun r9 i10 => k (V.tup (W94 r9 i10)) W68)
 | _ => T R 24 vs k

theorem evFn24 (m : Nat) (R : Type) (r0 : Abs.Rows) (i1 : Int) (r2 r3 r4 r5 : Abs.Rows) (k : V → List V → Option R) : runK Tryz.prog H (T66 m) (L52 m) 24 (W69 r0 i1 r2 r3 r4 r5) k = Fn24 (m + 1) r0 i1 r2 r3 r4 r5 (fun r9 i10 => k (V.tup (W94 r9 i10)) W68) := by kernel_rfl
noncomputable def T67 (m : Nat) : Tbl := addT 24 (brFn24 m (T66 m)) (T66 m)
theorem okT67 (m : Nat) : TblOk Tryz.prog (T67 m) := addT_ok (okT66 m) fun R vs k x h => by
 unfold brFn24 at h
 split at h
 ·cases m with
  | zero => cases h
  | succ m => exact runK_some (okT66 m) hM (okL52 m) ((evFn24 m R _ _ _ _ _ _ k).trans h)
 ·exact okT66 m R 24 _ k x h

/-- - -/
noncomputable def Jn27_11 {R : Type} (m : Nat) (kx0 : Int → Bool → Option R) (kx1 : Bool → Option R) (r0 : Abs.Rows) (i1 i2 : Int) (s3 : ByteArray) (i4 i5 i6 i7 : Int) (r8 : Abs.Rows) (i9 i10 : Int) (b11 : Bool) : Option R :=
 bif b11 then (kx0 ((1 : Int)) true) else
 (bif decide (i2 > (0 : Int)) then (bif decide ((0 : Int) ≤ IntKind.wrap IntKind.i64 (i2 - (1 : Int)) ∧ IntKind.wrap IntKind.i64 (i2 - (1 : Int)) < (↑(List.length r0) : Int)) then (bif Op.bytesLess (ByteArray.toList s3) (ByteArray.toList (fS r0 (Int.toNat (IntKind.wrap IntKind.i64 (i2 - (1 : Int)))) (0 : Nat))) then (kx0 ((7 : Int)) false) else
 (kx1 false)) else
 (none)) else
 (kx1 false))
noncomputable def brJn27_11 (m : Nat) (L : LTbl) (R : Type) (vs : List V) (k : Ex → List V → Option R) : Option R := match vs with
 | [.f (.lst [.str, .int .i64, .int .i64, .int .i64, .int .i64] r0), .f (.lit (.int .i64 i1)), .f (.lit (.int .i64 i2)), .obj [.f (.lit (.string s3)), .f (.lit (.int .i64 i4)), .f (.lit (.int .i64 i5)), .f (.lit (.int .i64 i6)), .f (.lit (.int .i64 i7))], .f (.lst [.str, .int .i64, .int .i64, .int .i64, .int .i64] r8), .f (.lit (.int .i64 i9)), .f (.lit (.int .i64 i10)), .f (.lit (.bool b11)), .undef] => Jn27_11 m (fun i12 b13 => k Ex.ret (W59 r0 i12 i2 s3 i4 i5 i6 i7 r8 i9 i10 b13)) (fun b14 => k Ex.normal (W59 r0 i1 i2 s3 i4 i5 i6 i7 r8 i9 i10 b14)) r0 i1 i2 s3 i4 i5 i6 i7 r8 i9 i10 b11
 | _ => L R 27 11 vs k

theorem evJn27_11 (m : Nat) (R : Type) (r0 : Abs.Rows) (i1 i2 : Int) (s3 : ByteArray) (i4 i5 i6 i7 : Int) (r8 : Abs.Rows) (i9 i10 : Int) (b11 : Bool) (k : Ex → List V → Option R) : codeK Tryz.prog H (T67 m) 27 (L52 m) 12 (loopBody Tryz.prog 27 11) (mkEnv [0, 2, 3, 4, 8, 9, 10, 25, 63] (W59 r0 i1 i2 s3 i4 i5 i6 i7 r8 i9 i10 b11) 0 (H.len 27)) (fun e env' => k e (vals [0, 2, 3, 4, 8, 9, 10, 25, 63] env')) = Jn27_11 m (fun i12 b13 => k Ex.ret (W59 r0 i12 i2 s3 i4 i5 i6 i7 r8 i9 i10 b13)) (fun b14 => k Ex.normal (W59 r0 i1 i2 s3 i4 i5 i6 i7 r8 i9 i10 b14)) r0 i1 i2 s3 i4 i5 i6 i7 r8 i9 i10 b11 := by kernel_rfl
noncomputable def L53 (m : Nat) : LTbl := addJ 27 11 (brJn27_11 m (L52 m)) (L52 m)
theorem okL53 (m : Nat) : LTOk Tryz.prog H (L53 m) := addJ_ok (okT67 m) hM (okL52 m) (l := [0, 2, 3, 4, 8, 9, 10, 25, 63]) (by kernel_rfl) (by kernel_rfl) fun R vs k x h => by
  unfold brJn27_11 at h
  split at h
  ·exact .inl ((evJn27_11 m R _ _ _ _ _ _ _ _ _ _ _ _ k).trans h)
  ·exact .inr h

/-- - -/
noncomputable def Jn27_9 {R : Type} (m : Nat) (kx0 : Int → Bool → Option R) (kx1 : Int → Option R) (kx2 : Option R) (r0 : Abs.Rows) (i1 i2 : Int) (s3 : ByteArray) (i4 i5 i6 i7 : Int) (r8 : Abs.Rows) (i9 i10 : Int) (b11 : Bool) : Option R :=
 bif b11 then (kx0 ((5 : Int)) true) else
 (Fn70 m i4 ((1 : Int)) ((2592000000 : Int)) (fun b12 => bif !b12 then (Jn27_11 m (fun i13 b14 => kx1 i13) (fun b15 => kx2 ) r0 i1 i2 s3 i4 i5 i6 i7 r8 i9 i10 true) else
 (Fn70 m i7 ((1 : Int)) ((2592000000 : Int)) (fun b16 => bif !b16 then (Jn27_11 m (fun i17 b18 => kx1 i17) (fun b19 => kx2 ) r0 i1 i2 s3 i4 i5 i6 i7 r8 i9 i10 true) else
 (Fn70 m i5 ((0 : Int)) ((3000 : Int)) (fun b20 => bif !b20 then (Jn27_11 m (fun i21 b22 => kx1 i21) (fun b23 => kx2 ) r0 i1 i2 s3 i4 i5 i6 i7 r8 i9 i10 true) else
 (Fn70 m i6 ((0 : Int)) ((1000000000000 : Int)) (fun b24 => Jn27_11 m (fun i25 b26 => kx1 i25) (fun b27 => kx2 ) r0 i1 i2 s3 i4 i5 i6 i7 r8 i9 i10 (!b24)))))))))
noncomputable def brJn27_9 (m : Nat) (L : LTbl) (R : Type) (vs : List V) (k : Ex → List V → Option R) : Option R := match vs with
 | [.f (.lst [.str, .int .i64, .int .i64, .int .i64, .int .i64] r0), .f (.lit (.int .i64 i1)), .f (.lit (.int .i64 i2)), .obj [.f (.lit (.string s3)), .f (.lit (.int .i64 i4)), .f (.lit (.int .i64 i5)), .f (.lit (.int .i64 i6)), .f (.lit (.int .i64 i7))], .f (.lst [.str, .int .i64, .int .i64, .int .i64, .int .i64] r8), .f (.lit (.int .i64 i9)), .f (.lit (.int .i64 i10)), .f (.lit (.bool b11)), .undef] => Jn27_9 m (fun i28 b29 => k Ex.ret (W59 r0 i28 i2 s3 i4 i5 i6 i7 r8 i9 i10 b29)) (fun i30 => k Ex.ret (W60 r0 i30 i2 s3 i4 i5 i6 i7 r8 i9 i10)) (k Ex.normal (W60 r0 i1 i2 s3 i4 i5 i6 i7 r8 i9 i10)) r0 i1 i2 s3 i4 i5 i6 i7 r8 i9 i10 b11
 | _ => L R 27 9 vs k

theorem evJn27_9 (m : Nat) (R : Type) (r0 : Abs.Rows) (i1 i2 : Int) (s3 : ByteArray) (i4 i5 i6 i7 : Int) (r8 : Abs.Rows) (i9 i10 : Int) (b11 : Bool) (k : Ex → List V → Option R) : codeK Tryz.prog H (T67 m) 27 (L53 m) 10 (loopBody Tryz.prog 27 9) (mkEnv [0, 2, 3, 4, 8, 9, 10, 15, 63] (W59 r0 i1 i2 s3 i4 i5 i6 i7 r8 i9 i10 b11) 0 (H.len 27)) (fun e env' => k e (vals [0, 2, 3, 4, 8, 9, 10, 15, 63] env')) = Jn27_9 m (fun i28 b29 => k Ex.ret (W59 r0 i28 i2 s3 i4 i5 i6 i7 r8 i9 i10 b29)) (fun i30 => k Ex.ret (W60 r0 i30 i2 s3 i4 i5 i6 i7 r8 i9 i10)) (k Ex.normal (W60 r0 i1 i2 s3 i4 i5 i6 i7 r8 i9 i10)) r0 i1 i2 s3 i4 i5 i6 i7 r8 i9 i10 b11 := by kernel_rfl
noncomputable def L54 (m : Nat) : LTbl := addJ 27 9 (brJn27_9 m (L53 m)) (L53 m)
theorem okL54 (m : Nat) : LTOk Tryz.prog H (L54 m) := addJ_ok (okT67 m) hM (okL53 m) (l := [0, 2, 3, 4, 8, 9, 10, 15, 63]) (by kernel_rfl) (by kernel_rfl) fun R vs k x h => by
  unfold brJn27_9 at h
  split at h
  ·exact .inl ((evJn27_9 m R _ _ _ _ _ _ _ _ _ _ _ _ k).trans h)
  ·exact .inr h

/-- - -/
noncomputable def Lp27_5_step {R : Type} (m : Nat) (kx0 : Int → Int → Option R) (kx1 : Int → Option R) (r0 : Abs.Rows) (i1 : Int) (r2 : Abs.Rows) (i3 : Int) (REC : Int → Option R) (i4 : Int) : Option R :=
 bif decide (i4 < i3) then (bif decide ((0 : Int) ≤ i4 ∧ i4 < (↑(List.length r2) : Int)) then (bif !ByteArray.toList (fS r2 (Int.toNat i4) (0 : Nat)) == ByteArray.toList { data := #[] } then (Fn34 m (fS r2 (Int.toNat i4) (0 : Nat)) (fun b5 => Jn27_9 m (fun i6 b7 => kx0 i6 i4) (fun i8 => kx0 i8 i4) (REC (IntKind.wrap IntKind.i64 (i4 + (1 : Int)))) r0 i1 i4 (fS r2 (Int.toNat i4) (0 : Nat)) (fI r2 (Int.toNat i4) (1 : Nat)) (fI r2 (Int.toNat i4) (2 : Nat)) (fI r2 (Int.toNat i4) (3 : Nat)) (fI r2 (Int.toNat i4) (4 : Nat)) r2 i3 i4 (!b5))) else
 (Jn27_9 m (fun i9 b10 => kx0 i9 i4) (fun i11 => kx0 i11 i4) (REC (IntKind.wrap IntKind.i64 (i4 + (1 : Int)))) r0 i1 i4 (fS r2 (Int.toNat i4) (0 : Nat)) (fI r2 (Int.toNat i4) (1 : Nat)) (fI r2 (Int.toNat i4) (2 : Nat)) (fI r2 (Int.toNat i4) (3 : Nat)) (fI r2 (Int.toNat i4) (4 : Nat)) r2 i3 i4 false)) else
 (none)) else
 (kx1 i4)
noncomputable def Lp27_5 {R : Type} (m : Nat) (kx0 : Int → Int → Option R) (kx1 : Int → Option R) (r0 : Abs.Rows) (i1 : Int) (r2 : Abs.Rows) (i3 : Int) : Nat → Int → Option R
 | 0, _ => none
 | n + 1, i4 => Lp27_5_step m kx0 kx1 r0 i1 r2 i3 (Lp27_5 m kx0 kx1 r0 i1 r2 i3 n) i4
noncomputable def ELp27_5 (m : Nat) (R : Type) : Nat → List V → (Ex → List V → Option R) → Option R
 | 0, _, _ => none
 | n + 1, vs, k => match vs with
  | [.f (.lst [.str, .int .i64, .int .i64, .int .i64, .int .i64] r0), .f (.lit (.int .i64 i1)), .f (.lst [.str, .int .i64, .int .i64, .int .i64, .int .i64] r2), .f (.lit (.int .i64 i3)), .f (.lit (.int .i64 i4)), .undef] => Lp27_5_step m (fun i12 i13 => k Ex.ret (W61 r0 i12 r2 i3 i13)) (fun i14 => k (Ex.exit (0 : Nat)) (W61 r0 i1 r2 i3 i14)) r0 i1 r2 i3 (fun i4 => ELp27_5 m R n (W61 r0 i1 r2 i3 i4) k) i4
  | _ => none
noncomputable def brLp27_5 (m : Nat) (L : LTbl) (R : Type) (vs : List V) (k : Ex → List V → Option R) : Option R := match vs with
 | [.f (.lst [.str, .int .i64, .int .i64, .int .i64, .int .i64] r0), .f (.lit (.int .i64 i1)), .f (.lst [.str, .int .i64, .int .i64, .int .i64, .int .i64] r2), .f (.lit (.int .i64 i3)), .f (.lit (.int .i64 i4)), .undef] => Lp27_5 m (fun i12 i13 => k Ex.ret (W61 r0 i12 r2 i3 i13)) (fun i14 => k (Ex.exit (0 : Nat)) (W61 r0 i1 r2 i3 i14)) r0 i1 r2 i3 m i4
 | _ => L R 27 5 vs k

theorem stLp27_5 (m n : Nat) (R : Type) (r0 : Abs.Rows) (i1 : Int) (r2 : Abs.Rows) (i3 i4 : Int) (k : Ex → List V → Option R) : codeK Tryz.prog H (T67 m) 27 (L54 m) 6 (loopBody Tryz.prog 27 5) (mkEnv [0, 2, 8, 9, 10, 63] (W61 r0 i1 r2 i3 i4) 0 (H.len 27)) (fun e env' => match e with | .normal => ELp27_5 m R n (vals [0, 2, 8, 9, 10, 63] env') k | e => k e (vals [0, 2, 8, 9, 10, 63] env')) = Lp27_5_step m (fun i12 i13 => k Ex.ret (W61 r0 i12 r2 i3 i13)) (fun i14 => k (Ex.exit (0 : Nat)) (W61 r0 i1 r2 i3 i14)) r0 i1 r2 i3 (fun i4 => ELp27_5 m R n (W61 r0 i1 r2 i3 i4) k) i4 := by kernel_rfl
theorem eqLp27_5 (m : Nat) (R : Type) (r0 : Abs.Rows) (i1 : Int) (r2 : Abs.Rows) (i3 : Int) (k : Ex → List V → Option R) : ∀ (n : Nat) (i4 : Int), ELp27_5 m R n (W61 r0 i1 r2 i3 i4) k = Lp27_5 m (fun i12 i13 => k Ex.ret (W61 r0 i12 r2 i3 i13)) (fun i14 => k (Ex.exit (0 : Nat)) (W61 r0 i1 r2 i3 i14)) r0 i1 r2 i3 n i4
 | 0, _ => rfl
 | n + 1, i4 => by
  simp only [ELp27_5, Lp27_5, W61]
  congr 1
  funext i4
  exact eqLp27_5 m R r0 i1 r2 i3 k n i4
noncomputable def L55 (m : Nat) : LTbl := addB 27 5 (brLp27_5 m (L54 m)) (L54 m)
theorem okL55 (m : Nat) : LTOk Tryz.prog H (L55 m) := addB_ok (okT67 m) hM (okL54 m) (l := [0, 2, 8, 9, 10, 63]) (by kernel_rfl) (by kernel_rfl) m (fun R n vs k => ELp27_5 m R n vs k) (fun R vs k => rfl) (fun R n vs k x h => by
   simp only [ELp27_5] at h
   split at h
   ·exact (stLp27_5 m n R _ _ _ _ _ k).trans h
   ·cases h) fun R vs k x h => by
  unfold brLp27_5 at h
  split at h
  ·exact .inl ((eqLp27_5 m R _ _ _ _ k m _).trans h)
  ·exact .inr h

/-- - -/
noncomputable def Fn27 {R : Type} (m : Nat) : Abs.Rows → (Int → Option R) → Option R := match m with
 | 0 => fun _ _ => none
 | m + 1 => fun r0 k =>
 bif decide ((↑(List.length r0) : Int) > (50 : Int)) then (k ((2 : Int))) else
 (Lp27_5 m (fun i1 i2 => k i1) (fun i3 => k ((0 : Int))) r0 ((0 : Int)) r0 ((↑(List.length r0) : Int)) m ((0 : Int)))
noncomputable def brFn27 (m : Nat) (T : Tbl) (R : Type) (vs : List V) (k : V → List V → Option R) : Option R := match vs with
 | [.f (.lst [.str, .int .i64, .int .i64, .int .i64, .int .i64] r0)] => Fn27 m r0 (fun i4 => k (V.f (F.lit (Value.int IntKind.i64 i4))) W17)
 | _ => T R 27 vs k

theorem evFn27 (m : Nat) (R : Type) (r0 : Abs.Rows) (k : V → List V → Option R) : runK Tryz.prog H (T67 m) (L55 m) 27 (W62 r0) k = Fn27 (m + 1) r0 (fun i4 => k (V.f (F.lit (Value.int IntKind.i64 i4))) W17) := by kernel_rfl
noncomputable def T68 (m : Nat) : Tbl := addT 27 (brFn27 m (T67 m)) (T67 m)
theorem okT68 (m : Nat) : TblOk Tryz.prog (T68 m) := addT_ok (okT67 m) fun R vs k x h => by
 unfold brFn27 at h
 split at h
 ·cases m with
  | zero => cases h
  | succ m => exact runK_some (okT67 m) hM (okL55 m) ((evFn27 m R _ k).trans h)
 ·exact okT67 m R 27 _ k x h

abbrev W95 (a0 : Abs.Rows) (a1 : ByteArray) (a2 a3 a4 : Int) : List V := [.f (.lst J3 a0), .f (.lit (.string a1)), .f (.lit (.int .i64 a2)), .f (.lit (.int .i64 a3)), .f (.lit (.int .i64 a4)), .undef, .undef]
/-- - -/
noncomputable def Lp115_2_step {R : Type} (m : Nat) (kx0 : Int → Int → Option R) (kx1 : Int → Option R) (r0 : Abs.Rows) (s1 : ByteArray) (i2 i3 : Int) (REC : Int → Option R) (i4 : Int) : Option R :=
 bif decide (i4 < i3) then (bif decide ((0 : Int) ≤ i4 ∧ i4 < (↑(List.length r0) : Int)) then (bif ByteArray.toList s1 == ByteArray.toList (fS r0 (Int.toNat i4) (0 : Nat)) then (kx0 i4 i4) else
 (REC (IntKind.wrap IntKind.i64 (i4 + (1 : Int))))) else
 (none)) else
 (kx1 i4)
noncomputable def Lp115_2 {R : Type} (m : Nat) (kx0 : Int → Int → Option R) (kx1 : Int → Option R) (r0 : Abs.Rows) (s1 : ByteArray) (i2 i3 : Int) : Nat → Int → Option R
 | 0, _ => none
 | n + 1, i4 => Lp115_2_step m kx0 kx1 r0 s1 i2 i3 (Lp115_2 m kx0 kx1 r0 s1 i2 i3 n) i4
noncomputable def ELp115_2 (m : Nat) (R : Type) : Nat → List V → (Ex → List V → Option R) → Option R
 | 0, _, _ => none
 | n + 1, vs, k => match vs with
  | [.f (.lst [.str] r0), .f (.lit (.string s1)), .f (.lit (.int .i64 i2)), .f (.lit (.int .i64 i3)), .f (.lit (.int .i64 i4)), .undef, .undef] => Lp115_2_step m (fun i5 i6 => k Ex.ret (W95 r0 s1 i5 i3 i6)) (fun i7 => k (Ex.exit (0 : Nat)) (W95 r0 s1 i2 i3 i7)) r0 s1 i2 i3 (fun i4 => ELp115_2 m R n (W95 r0 s1 i2 i3 i4) k) i4
  | _ => none
noncomputable def brLp115_2 (m : Nat) (L : LTbl) (R : Type) (vs : List V) (k : Ex → List V → Option R) : Option R := match vs with
 | [.f (.lst [.str] r0), .f (.lit (.string s1)), .f (.lit (.int .i64 i2)), .f (.lit (.int .i64 i3)), .f (.lit (.int .i64 i4)), .undef, .undef] => Lp115_2 m (fun i5 i6 => k Ex.ret (W95 r0 s1 i5 i3 i6)) (fun i7 => k (Ex.exit (0 : Nat)) (W95 r0 s1 i2 i3 i7)) r0 s1 i2 i3 m i4
 | _ => L R 115 2 vs k

theorem stLp115_2 (m n : Nat) (R : Type) (r0 : Abs.Rows) (s1 : ByteArray) (i2 i3 i4 : Int) (k : Ex → List V → Option R) : codeK Tryz.prog H (T68 m) 115 (L55 m) 3 (loopBody Tryz.prog 115 2) (mkEnv [0, 1, 4, 7, 8, 19, 20] (W95 r0 s1 i2 i3 i4) 0 (H.len 115)) (fun e env' => match e with | .normal => ELp115_2 m R n (vals [0, 1, 4, 7, 8, 19, 20] env') k | e => k e (vals [0, 1, 4, 7, 8, 19, 20] env')) = Lp115_2_step m (fun i5 i6 => k Ex.ret (W95 r0 s1 i5 i3 i6)) (fun i7 => k (Ex.exit (0 : Nat)) (W95 r0 s1 i2 i3 i7)) r0 s1 i2 i3 (fun i4 => ELp115_2 m R n (W95 r0 s1 i2 i3 i4) k) i4 := by kernel_rfl
theorem eqLp115_2 (m : Nat) (R : Type) (r0 : Abs.Rows) (s1 : ByteArray) (i2 i3 : Int) (k : Ex → List V → Option R) : ∀ (n : Nat) (i4 : Int), ELp115_2 m R n (W95 r0 s1 i2 i3 i4) k = Lp115_2 m (fun i5 i6 => k Ex.ret (W95 r0 s1 i5 i3 i6)) (fun i7 => k (Ex.exit (0 : Nat)) (W95 r0 s1 i2 i3 i7)) r0 s1 i2 i3 n i4
 | 0, _ => rfl
 | n + 1, i4 => by
  simp only [ELp115_2, Lp115_2, W95]
  congr 1
  funext i4
  exact eqLp115_2 m R r0 s1 i2 i3 k n i4
noncomputable def L56 (m : Nat) : LTbl := addB 115 2 (brLp115_2 m (L55 m)) (L55 m)
theorem okL56 (m : Nat) : LTOk Tryz.prog H (L56 m) := addB_ok (okT68 m) hM (okL55 m) (l := [0, 1, 4, 7, 8, 19, 20]) (by kernel_rfl) (by kernel_rfl) m (fun R n vs k => ELp115_2 m R n vs k) (fun R vs k => rfl) (fun R n vs k x h => by
   simp only [ELp115_2] at h
   split at h
   ·exact (stLp115_2 m n R _ _ _ _ _ k).trans h
   ·cases h) fun R vs k x h => by
  unfold brLp115_2 at h
  split at h
  ·exact .inl ((eqLp115_2 m R _ _ _ _ k m _).trans h)
  ·exact .inr h

abbrev W96 (a0 : Abs.Rows) (a1 : ByteArray) : List V := [.f (.lst J3 a0), .f (.lit (.string a1))]
/-- - -/
noncomputable def Fn115 {R : Type} (m : Nat) : Abs.Rows → ByteArray → (Int → Option R) → Option R := match m with
 | 0 => fun _ _ _ => none
 | m + 1 => fun r0 s1 k =>
 Lp115_2 m (fun i2 i3 => k i2) (fun i4 => k ((-1 : Int))) r0 s1 ((0 : Int)) ((↑(List.length r0) : Int)) m ((0 : Int))
noncomputable def brFn115 (m : Nat) (T : Tbl) (R : Type) (vs : List V) (k : V → List V → Option R) : Option R := match vs with
 | [.f (.lst [.str] r0), .f (.lit (.string s1))] => Fn115 m r0 s1 (fun i5 => k (V.f (F.lit (Value.int IntKind.i64 i5))) W1)
 | _ => T R 115 vs k

theorem evFn115 (m : Nat) (R : Type) (r0 : Abs.Rows) (s1 : ByteArray) (k : V → List V → Option R) : runK Tryz.prog H (T68 m) (L56 m) 115 (W96 r0 s1) k = Fn115 (m + 1) r0 s1 (fun i5 => k (V.f (F.lit (Value.int IntKind.i64 i5))) W1) := by kernel_rfl
noncomputable def T69 (m : Nat) : Tbl := addT 115 (brFn115 m (T68 m)) (T68 m)
theorem okT69 (m : Nat) : TblOk Tryz.prog (T69 m) := addT_ok (okT68 m) fun R vs k x h => by
 unfold brFn115 at h
 split at h
 ·cases m with
  | zero => cases h
  | succ m => exact runK_some (okT68 m) hM (okL56 m) ((evFn115 m R _ _ k).trans h)
 ·exact okT68 m R 115 _ k x h

/-- - -/
noncomputable def Fn59 {R : Type} (m : Nat) : Abs.Rows → ByteArray → (Bool → Option R) → Option R := match m with
 | 0 => fun _ _ _ => none
 | m + 1 => fun r0 s1 k =>
 Fn115 m r0 s1 (fun i2 => k (decide (i2 ≥ (0 : Int))))
noncomputable def brFn59 (m : Nat) (T : Tbl) (R : Type) (vs : List V) (k : V → List V → Option R) : Option R := match vs with
 | [.f (.lst [.str] r0), .f (.lit (.string s1))] => Fn59 m r0 s1 (fun b3 => k (V.f (F.lit (Value.bool b3))) W1)
 | _ => T R 59 vs k

theorem evFn59 (m : Nat) (R : Type) (r0 : Abs.Rows) (s1 : ByteArray) (k : V → List V → Option R) : runK Tryz.prog H (T69 m) (L56 m) 59 (W96 r0 s1) k = Fn59 (m + 1) r0 s1 (fun b3 => k (V.f (F.lit (Value.bool b3))) W1) := by kernel_rfl
noncomputable def T70 (m : Nat) : Tbl := addT 59 (brFn59 m (T69 m)) (T69 m)
theorem okT70 (m : Nat) : TblOk Tryz.prog (T70 m) := addT_ok (okT69 m) fun R vs k x h => by
 unfold brFn59 at h
 split at h
 ·cases m with
  | zero => cases h
  | succ m => exact runK_some (okT69 m) hM (okL56 m) ((evFn59 m R _ _ k).trans h)
 ·exact okT69 m R 59 _ k x h

abbrev W97 (a0 : Abs.Rows) (a1 a2 : ByteArray) (a3 : Bool) (a4 : Abs.Rows) (a5 a6 : Int) : List V := [.bor J7 a0, .f (.lit (.string a1)), .f (.lit (.string a2)), .f (.lit (.bool a3)), .bor J7 a4, .f (.lit (.int .i64 a5)), .f (.lit (.int .i64 a6)), .undef, .undef]
/-- - -/
noncomputable def Lp76_2_step {R : Type} (m : Nat) (kx0 : ByteArray → Bool → Int → Option R) (kx1 : Int → Option R) (r0 : Abs.Rows) (s1 s2 : ByteArray) (b3 : Bool) (r4 : Abs.Rows) (i5 : Int) (REC : Int → Option R) (i6 : Int) : Option R :=
 bif decide (i6 < i5) then (bif decide ((0 : Int) ≤ i6 ∧ i6 < (↑(List.length r4) : Int)) then (Fn59 m (fR r4 (Int.toNat i6) (1 : Nat)) s1 (fun b7 => bif b7 then (kx0 (fS r4 (Int.toNat i6) (0 : Nat)) true i6) else
 (REC (IntKind.wrap IntKind.i64 (i6 + (1 : Int)))))) else
 (none)) else
 (kx1 i6)
noncomputable def Lp76_2 {R : Type} (m : Nat) (kx0 : ByteArray → Bool → Int → Option R) (kx1 : Int → Option R) (r0 : Abs.Rows) (s1 s2 : ByteArray) (b3 : Bool) (r4 : Abs.Rows) (i5 : Int) : Nat → Int → Option R
 | 0, _ => none
 | n + 1, i6 => Lp76_2_step m kx0 kx1 r0 s1 s2 b3 r4 i5 (Lp76_2 m kx0 kx1 r0 s1 s2 b3 r4 i5 n) i6
noncomputable def ELp76_2 (m : Nat) (R : Type) : Nat → List V → (Ex → List V → Option R) → Option R
 | 0, _, _ => none
 | n + 1, vs, k => match vs with
  | [.bor [.str, .lst [.str]] r0, .f (.lit (.string s1)), .f (.lit (.string s2)), .f (.lit (.bool b3)), .bor [.str, .lst [.str]] r4, .f (.lit (.int .i64 i5)), .f (.lit (.int .i64 i6)), .undef, .undef] => Lp76_2_step m (fun s8 b9 i10 => k Ex.ret (W97 r0 s1 s8 b9 r4 i5 i10)) (fun i11 => k (Ex.exit (0 : Nat)) (W97 r0 s1 s2 b3 r4 i5 i11)) r0 s1 s2 b3 r4 i5 (fun i6 => ELp76_2 m R n (W97 r0 s1 s2 b3 r4 i5 i6) k) i6
  | _ => none
noncomputable def brLp76_2 (m : Nat) (L : LTbl) (R : Type) (vs : List V) (k : Ex → List V → Option R) : Option R := match vs with
 | [.bor [.str, .lst [.str]] r0, .f (.lit (.string s1)), .f (.lit (.string s2)), .f (.lit (.bool b3)), .bor [.str, .lst [.str]] r4, .f (.lit (.int .i64 i5)), .f (.lit (.int .i64 i6)), .undef, .undef] => Lp76_2 m (fun s8 b9 i10 => k Ex.ret (W97 r0 s1 s8 b9 r4 i5 i10)) (fun i11 => k (Ex.exit (0 : Nat)) (W97 r0 s1 s2 b3 r4 i5 i11)) r0 s1 s2 b3 r4 i5 m i6
 | _ => L R 76 2 vs k

theorem stLp76_2 (m n : Nat) (R : Type) (r0 : Abs.Rows) (s1 s2 : ByteArray) (b3 : Bool) (r4 : Abs.Rows) (i5 i6 : Int) (k : Ex → List V → Option R) : codeK Tryz.prog H (T70 m) 76 (L56 m) 3 (loopBody Tryz.prog 76 2) (mkEnv [0, 1, 4, 5, 8, 9, 10, 21, 22] (W97 r0 s1 s2 b3 r4 i5 i6) 0 (H.len 76)) (fun e env' => match e with | .normal => ELp76_2 m R n (vals [0, 1, 4, 5, 8, 9, 10, 21, 22] env') k | e => k e (vals [0, 1, 4, 5, 8, 9, 10, 21, 22] env')) = Lp76_2_step m (fun s8 b9 i10 => k Ex.ret (W97 r0 s1 s8 b9 r4 i5 i10)) (fun i11 => k (Ex.exit (0 : Nat)) (W97 r0 s1 s2 b3 r4 i5 i11)) r0 s1 s2 b3 r4 i5 (fun i6 => ELp76_2 m R n (W97 r0 s1 s2 b3 r4 i5 i6) k) i6 := by kernel_rfl
theorem eqLp76_2 (m : Nat) (R : Type) (r0 : Abs.Rows) (s1 s2 : ByteArray) (b3 : Bool) (r4 : Abs.Rows) (i5 : Int) (k : Ex → List V → Option R) : ∀ (n : Nat) (i6 : Int), ELp76_2 m R n (W97 r0 s1 s2 b3 r4 i5 i6) k = Lp76_2 m (fun s8 b9 i10 => k Ex.ret (W97 r0 s1 s8 b9 r4 i5 i10)) (fun i11 => k (Ex.exit (0 : Nat)) (W97 r0 s1 s2 b3 r4 i5 i11)) r0 s1 s2 b3 r4 i5 n i6
 | 0, _ => rfl
 | n + 1, i6 => by
  simp only [ELp76_2, Lp76_2, W97]
  congr 1
  funext i6
  exact eqLp76_2 m R r0 s1 s2 b3 r4 i5 k n i6
noncomputable def L57 (m : Nat) : LTbl := addB 76 2 (brLp76_2 m (L56 m)) (L56 m)
theorem okL57 (m : Nat) : LTOk Tryz.prog H (L57 m) := addB_ok (okT70 m) hM (okL56 m) (l := [0, 1, 4, 5, 8, 9, 10, 21, 22]) (by kernel_rfl) (by kernel_rfl) m (fun R n vs k => ELp76_2 m R n vs k) (fun R vs k => rfl) (fun R n vs k x h => by
   simp only [ELp76_2] at h
   split at h
   ·exact (stLp76_2 m n R _ _ _ _ _ _ _ k).trans h
   ·cases h) fun R vs k x h => by
  unfold brLp76_2 at h
  split at h
  ·exact .inl ((eqLp76_2 m R _ _ _ _ _ _ k m _).trans h)
  ·exact .inr h

abbrev W98 (a0 : Abs.Rows) (a1 : ByteArray) : List V := [.bor J7 a0, .f (.lit (.string a1))]
/-- - -/
noncomputable def Fn76 {R : Type} (m : Nat) : Abs.Rows → ByteArray → (ByteArray → Bool → Option R) → Option R := match m with
 | 0 => fun _ _ _ => none
 | m + 1 => fun r0 s1 k =>
 Lp76_2 m (fun s2 b3 i4 => k s2 b3) (fun i5 => k ({ data := #[] }) false) r0 s1 ({ data := #[] }) false r0 ((↑(List.length r0) : Int)) m ((0 : Int))
noncomputable def brFn76 (m : Nat) (T : Tbl) (R : Type) (vs : List V) (k : V → List V → Option R) : Option R := match vs with
 | [.bor [.str, .lst [.str]] r0, .f (.lit (.string s1))] => Fn76 m r0 s1 (fun s6 b7 => k (V.tup (W31 s6 b7)) W1)
 | _ => T R 76 vs k

theorem evFn76 (m : Nat) (R : Type) (r0 : Abs.Rows) (s1 : ByteArray) (k : V → List V → Option R) : runK Tryz.prog H (T70 m) (L57 m) 76 (W98 r0 s1) k = Fn76 (m + 1) r0 s1 (fun s6 b7 => k (V.tup (W31 s6 b7)) W1) := by kernel_rfl
noncomputable def T71 (m : Nat) : Tbl := addT 76 (brFn76 m (T70 m)) (T70 m)
theorem okT71 (m : Nat) : TblOk Tryz.prog (T71 m) := addT_ok (okT70 m) fun R vs k x h => by
 unfold brFn76 at h
 split at h
 ·cases m with
  | zero => cases h
  | succ m => exact runK_some (okT70 m) hM (okL57 m) ((evFn76 m R _ _ k).trans h)
 ·exact okT70 m R 76 _ k x h

abbrev W99 (a0 : ByteArray) (a1 : Abs.Rows) (a2 : Int) (a3 : Abs.Rows) (a4 a5 : ByteArray) (a6 a7 a8 a9 : Int) (a10 : Bool) (a11 : Int) (a12 : Abs.Rows) (a13 a14 : Int) : List V := [.f (.lit (.string a0)), .obj [.f (.lst J4 a1), .f (.lit (.int .i64 a2)), .f (.lst J3 a3)], .obj [.f (.lit (.string a4)), .f (.lit (.string a5)), .f (.lit (.int .i64 a6)), .f (.lit (.int .i64 a7)), .f (.lit (.int .i64 a8)), .f (.lit (.int .i64 a9))], .f (.lit (.bool a10)), .f (.lit (.int .i64 a11)), .ref 2 0, .f (.lst J4 a12), .f (.lit (.int .i64 a13)), .f (.lit (.int .i64 a14)), .undef, .undef]
abbrev K1Lp114_6 {R : Type} (k : Ex → List V → Option R) (s0 : ByteArray) (r1 : Abs.Rows) (i2 : Int) (r3 : Abs.Rows) (i4 : Int) (r5 : Abs.Rows) (i6 : Int) : ByteArray → ByteArray → Int → Int → Int → Int → Bool → Int → Option R := fun s7 s8 i9 i10 i11 i12 b13 i14 => k Ex.ret (W99 s0 r1 i2 r3 s7 s8 i9 i10 i11 i12 b13 i4 r5 i6 i14)
/-- - -/
noncomputable def Lp114_6_step {R : Type} (m : Nat) (kx0 : ByteArray → ByteArray → Int → Int → Int → Int → Bool → Int → Option R) (kx1 : Int → Option R) (s0 : ByteArray) (r1 : Abs.Rows) (i2 : Int) (r3 : Abs.Rows) (s15 s16 : ByteArray) (i17 i18 i19 i20 : Int) (b21 : Bool) (i4 : Int) (r5 : Abs.Rows) (i6 : Int) (REC : Int → Option R) (i22 : Int) : Option R :=
 bif decide (i22 < i6) then (bif decide ((0 : Int) ≤ i22 ∧ i22 < (↑(List.length r5) : Int)) then (bif decide ((0 : Int) ≤ i4 ∧ i4 ≤ (↑(ByteArray.size s0) : Int)) then (bif ByteArray.toList (fS r5 (Int.toNat i22) (0 : Nat)) == ByteArray.toList (ByteArray.extract s0 (0 : Nat) (Int.toNat i4)) then (kx0 (fS r5 (Int.toNat i22) (0 : Nat)) (fS r5 (Int.toNat i22) (1 : Nat)) (fI r5 (Int.toNat i22) (2 : Nat)) (fI r5 (Int.toNat i22) (3 : Nat)) (fI r5 (Int.toNat i22) (4 : Nat)) (fI r5 (Int.toNat i22) (5 : Nat)) true i22) else
 (REC (IntKind.wrap IntKind.i64 (i22 + (1 : Int))))) else
 (none)) else
 (none)) else
 (kx1 i22)
noncomputable def Lp114_6 {R : Type} (m : Nat) (kx0 : ByteArray → ByteArray → Int → Int → Int → Int → Bool → Int → Option R) (kx1 : Int → Option R) (s0 : ByteArray) (r1 : Abs.Rows) (i2 : Int) (r3 : Abs.Rows) (s15 s16 : ByteArray) (i17 i18 i19 i20 : Int) (b21 : Bool) (i4 : Int) (r5 : Abs.Rows) (i6 : Int) : Nat → Int → Option R
 | 0, _ => none
 | n + 1, i22 => Lp114_6_step m kx0 kx1 s0 r1 i2 r3 s15 s16 i17 i18 i19 i20 b21 i4 r5 i6 (Lp114_6 m kx0 kx1 s0 r1 i2 r3 s15 s16 i17 i18 i19 i20 b21 i4 r5 i6 n) i22
noncomputable def ELp114_6 (m : Nat) (R : Type) : Nat → List V → (Ex → List V → Option R) → Option R
 | 0, _, _ => none
 | n + 1, vs, k => match vs with
  | [.f (.lit (.string s0)), .obj [.f (.lst [.str, .str, .int .i64, .int .i64, .int .i64, .int .i64] r1), .f (.lit (.int .i64 i2)), .f (.lst [.str] r3)], .obj [.f (.lit (.string s15)), .f (.lit (.string s16)), .f (.lit (.int .i64 i17)), .f (.lit (.int .i64 i18)), .f (.lit (.int .i64 i19)), .f (.lit (.int .i64 i20))], .f (.lit (.bool b21)), .f (.lit (.int .i64 i4)), .ref 2 0, .f (.lst [.str, .str, .int .i64, .int .i64, .int .i64, .int .i64] r5), .f (.lit (.int .i64 i6)), .f (.lit (.int .i64 i22)), .undef, .undef] => Lp114_6_step m (K1Lp114_6 k s0 r1 i2 r3 i4 r5 i6) (fun i23 => k (Ex.exit (2 : Nat)) (W99 s0 r1 i2 r3 s15 s16 i17 i18 i19 i20 b21 i4 r5 i6 i23)) s0 r1 i2 r3 s15 s16 i17 i18 i19 i20 b21 i4 r5 i6 (fun i22 => ELp114_6 m R n (W99 s0 r1 i2 r3 s15 s16 i17 i18 i19 i20 b21 i4 r5 i6 i22) k) i22
  | _ => none
noncomputable def brLp114_6 (m : Nat) (L : LTbl) (R : Type) (vs : List V) (k : Ex → List V → Option R) : Option R := match vs with
 | [.f (.lit (.string s0)), .obj [.f (.lst [.str, .str, .int .i64, .int .i64, .int .i64, .int .i64] r1), .f (.lit (.int .i64 i2)), .f (.lst [.str] r3)], .obj [.f (.lit (.string s15)), .f (.lit (.string s16)), .f (.lit (.int .i64 i17)), .f (.lit (.int .i64 i18)), .f (.lit (.int .i64 i19)), .f (.lit (.int .i64 i20))], .f (.lit (.bool b21)), .f (.lit (.int .i64 i4)), .ref 2 0, .f (.lst [.str, .str, .int .i64, .int .i64, .int .i64, .int .i64] r5), .f (.lit (.int .i64 i6)), .f (.lit (.int .i64 i22)), .undef, .undef] => Lp114_6 m (K1Lp114_6 k s0 r1 i2 r3 i4 r5 i6) (fun i23 => k (Ex.exit (2 : Nat)) (W99 s0 r1 i2 r3 s15 s16 i17 i18 i19 i20 b21 i4 r5 i6 i23)) s0 r1 i2 r3 s15 s16 i17 i18 i19 i20 b21 i4 r5 i6 m i22
 | _ => L R 114 6 vs k

theorem stLp114_6 (m n : Nat) (R : Type) (s0 : ByteArray) (r1 : Abs.Rows) (i2 : Int) (r3 : Abs.Rows) (s15 s16 : ByteArray) (i17 i18 i19 i20 : Int) (b21 : Bool) (i4 : Int) (r5 : Abs.Rows) (i6 i22 : Int) (k : Ex → List V → Option R) : codeK Tryz.prog H (T71 m) 114 (L57 m) 7 (loopBody Tryz.prog 114 6) (mkEnv [1, 2, 4, 5, 6, 15, 16, 17, 18, 31, 32] (W99 s0 r1 i2 r3 s15 s16 i17 i18 i19 i20 b21 i4 r5 i6 i22) 0 (H.len 114)) (fun e env' => match e with | .normal => ELp114_6 m R n (vals [1, 2, 4, 5, 6, 15, 16, 17, 18, 31, 32] env') k | e => k e (vals [1, 2, 4, 5, 6, 15, 16, 17, 18, 31, 32] env')) = Lp114_6_step m (K1Lp114_6 k s0 r1 i2 r3 i4 r5 i6) (fun i23 => k (Ex.exit (2 : Nat)) (W99 s0 r1 i2 r3 s15 s16 i17 i18 i19 i20 b21 i4 r5 i6 i23)) s0 r1 i2 r3 s15 s16 i17 i18 i19 i20 b21 i4 r5 i6 (fun i22 => ELp114_6 m R n (W99 s0 r1 i2 r3 s15 s16 i17 i18 i19 i20 b21 i4 r5 i6 i22) k) i22 := by kernel_rfl
theorem eqLp114_6 (m : Nat) (R : Type) (s0 : ByteArray) (r1 : Abs.Rows) (i2 : Int) (r3 : Abs.Rows) (s15 s16 : ByteArray) (i17 i18 i19 i20 : Int) (b21 : Bool) (i4 : Int) (r5 : Abs.Rows) (i6 : Int) (k : Ex → List V → Option R) : ∀ (n : Nat) (i22 : Int), ELp114_6 m R n (W99 s0 r1 i2 r3 s15 s16 i17 i18 i19 i20 b21 i4 r5 i6 i22) k = Lp114_6 m (K1Lp114_6 k s0 r1 i2 r3 i4 r5 i6) (fun i23 => k (Ex.exit (2 : Nat)) (W99 s0 r1 i2 r3 s15 s16 i17 i18 i19 i20 b21 i4 r5 i6 i23)) s0 r1 i2 r3 s15 s16 i17 i18 i19 i20 b21 i4 r5 i6 n i22
 | 0, _ => rfl
 | n + 1, i22 => by
  simp only [ELp114_6, Lp114_6, W99]
  congr 1
  funext i22
  exact eqLp114_6 m R s0 r1 i2 r3 s15 s16 i17 i18 i19 i20 b21 i4 r5 i6 k n i22
noncomputable def L58 (m : Nat) : LTbl := addB 114 6 (brLp114_6 m (L57 m)) (L57 m)
theorem okL58 (m : Nat) : LTOk Tryz.prog H (L58 m) := addB_ok (okT71 m) hM (okL57 m) (l := [1, 2, 4, 5, 6, 15, 16, 17, 18, 31, 32]) (by kernel_rfl) (by kernel_rfl) m (fun R n vs k => ELp114_6 m R n vs k) (fun R vs k => rfl) (fun R n vs k x h => by
   simp only [ELp114_6] at h
   split at h
   ·exact (stLp114_6 m n R _ _ _ _ _ _ _ _ _ _ _ _ _ _ _ k).trans h
   ·cases h) fun R vs k x h => by
  unfold brLp114_6 at h
  split at h
  ·exact .inl ((eqLp114_6 m R _ _ _ _ _ _ _ _ _ _ _ _ _ _ k m _).trans h)
  ·exact .inr h

abbrev K1Lp114_2 {R : Type} (k : Ex → List V → Option R) (s0 : ByteArray) (r1 : Abs.Rows) (i2 : Int) (r3 : Abs.Rows) : ByteArray → ByteArray → Int → Int → Int → Int → Bool → Int → Option R := fun s4 s5 i6 i7 i8 i9 b10 i11 => k Ex.ret (W80 s0 r1 i2 r3 s4 s5 i6 i7 i8 i9 b10 i11)
/-- - -/
noncomputable def Lp114_2_step {R : Type} (m : Nat) (kx0 : ByteArray → ByteArray → Int → Int → Int → Int → Bool → Int → Option R) (kx1 : Int → Option R) (s0 : ByteArray) (r1 : Abs.Rows) (i2 : Int) (r3 : Abs.Rows) (s12 s13 : ByteArray) (i14 i15 i16 i17 : Int) (b18 : Bool) (REC : Int → Option R) (i19 : Int) : Option R :=
 bif decide (i19 ≥ (0 : Int)) then (Lp114_6 m (fun s20 s21 i22 i23 i24 i25 b26 i27 => kx0 s20 s21 i22 i23 i24 i25 b26 i19) (fun i28 => REC (IntKind.wrap IntKind.i64 (i19 - (1 : Int)))) s0 r1 i2 r3 s12 s13 i14 i15 i16 i17 b18 i19 r1 ((↑(List.length r1) : Int)) m ((0 : Int))) else
 (kx1 i19)
noncomputable def Lp114_2 {R : Type} (m : Nat) (kx0 : ByteArray → ByteArray → Int → Int → Int → Int → Bool → Int → Option R) (kx1 : Int → Option R) (s0 : ByteArray) (r1 : Abs.Rows) (i2 : Int) (r3 : Abs.Rows) (s12 s13 : ByteArray) (i14 i15 i16 i17 : Int) (b18 : Bool) : Nat → Int → Option R
 | 0, _ => none
 | n + 1, i19 => Lp114_2_step m kx0 kx1 s0 r1 i2 r3 s12 s13 i14 i15 i16 i17 b18 (Lp114_2 m kx0 kx1 s0 r1 i2 r3 s12 s13 i14 i15 i16 i17 b18 n) i19
noncomputable def ELp114_2 (m : Nat) (R : Type) : Nat → List V → (Ex → List V → Option R) → Option R
 | 0, _, _ => none
 | n + 1, vs, k => match vs with
  | [.f (.lit (.string s0)), .obj [.f (.lst [.str, .str, .int .i64, .int .i64, .int .i64, .int .i64] r1), .f (.lit (.int .i64 i2)), .f (.lst [.str] r3)], .obj [.f (.lit (.string s12)), .f (.lit (.string s13)), .f (.lit (.int .i64 i14)), .f (.lit (.int .i64 i15)), .f (.lit (.int .i64 i16)), .f (.lit (.int .i64 i17))], .f (.lit (.bool b18)), .f (.lit (.int .i64 i19)), .undef, .undef] => Lp114_2_step m (K1Lp114_2 k s0 r1 i2 r3) (fun i29 => k (Ex.exit (0 : Nat)) (W80 s0 r1 i2 r3 s12 s13 i14 i15 i16 i17 b18 i29)) s0 r1 i2 r3 s12 s13 i14 i15 i16 i17 b18 (fun i19 => ELp114_2 m R n (W80 s0 r1 i2 r3 s12 s13 i14 i15 i16 i17 b18 i19) k) i19
  | _ => none
noncomputable def brLp114_2 (m : Nat) (L : LTbl) (R : Type) (vs : List V) (k : Ex → List V → Option R) : Option R := match vs with
 | [.f (.lit (.string s0)), .obj [.f (.lst [.str, .str, .int .i64, .int .i64, .int .i64, .int .i64] r1), .f (.lit (.int .i64 i2)), .f (.lst [.str] r3)], .obj [.f (.lit (.string s12)), .f (.lit (.string s13)), .f (.lit (.int .i64 i14)), .f (.lit (.int .i64 i15)), .f (.lit (.int .i64 i16)), .f (.lit (.int .i64 i17))], .f (.lit (.bool b18)), .f (.lit (.int .i64 i19)), .undef, .undef] => Lp114_2 m (K1Lp114_2 k s0 r1 i2 r3) (fun i29 => k (Ex.exit (0 : Nat)) (W80 s0 r1 i2 r3 s12 s13 i14 i15 i16 i17 b18 i29)) s0 r1 i2 r3 s12 s13 i14 i15 i16 i17 b18 m i19
 | _ => L R 114 2 vs k

theorem stLp114_2 (m n : Nat) (R : Type) (s0 : ByteArray) (r1 : Abs.Rows) (i2 : Int) (r3 : Abs.Rows) (s12 s13 : ByteArray) (i14 i15 i16 i17 : Int) (b18 : Bool) (i19 : Int) (k : Ex → List V → Option R) : codeK Tryz.prog H (T71 m) 114 (L58 m) 3 (loopBody Tryz.prog 114 2) (mkEnv [1, 2, 4, 5, 6, 31, 32] (W80 s0 r1 i2 r3 s12 s13 i14 i15 i16 i17 b18 i19) 0 (H.len 114)) (fun e env' => match e with | .normal => ELp114_2 m R n (vals [1, 2, 4, 5, 6, 31, 32] env') k | e => k e (vals [1, 2, 4, 5, 6, 31, 32] env')) = Lp114_2_step m (K1Lp114_2 k s0 r1 i2 r3) (fun i29 => k (Ex.exit (0 : Nat)) (W80 s0 r1 i2 r3 s12 s13 i14 i15 i16 i17 b18 i29)) s0 r1 i2 r3 s12 s13 i14 i15 i16 i17 b18 (fun i19 => ELp114_2 m R n (W80 s0 r1 i2 r3 s12 s13 i14 i15 i16 i17 b18 i19) k) i19 := by kernel_rfl
theorem eqLp114_2 (m : Nat) (R : Type) (s0 : ByteArray) (r1 : Abs.Rows) (i2 : Int) (r3 : Abs.Rows) (s12 s13 : ByteArray) (i14 i15 i16 i17 : Int) (b18 : Bool) (k : Ex → List V → Option R) : ∀ (n : Nat) (i19 : Int), ELp114_2 m R n (W80 s0 r1 i2 r3 s12 s13 i14 i15 i16 i17 b18 i19) k = Lp114_2 m (K1Lp114_2 k s0 r1 i2 r3) (fun i29 => k (Ex.exit (0 : Nat)) (W80 s0 r1 i2 r3 s12 s13 i14 i15 i16 i17 b18 i29)) s0 r1 i2 r3 s12 s13 i14 i15 i16 i17 b18 n i19
 | 0, _ => rfl
 | n + 1, i19 => by
  simp only [ELp114_2, Lp114_2, W80]
  congr 1
  funext i19
  exact eqLp114_2 m R s0 r1 i2 r3 s12 s13 i14 i15 i16 i17 b18 k n i19
noncomputable def L59 (m : Nat) : LTbl := addB 114 2 (brLp114_2 m (L58 m)) (L58 m)
theorem okL59 (m : Nat) : LTOk Tryz.prog H (L59 m) := addB_ok (okT71 m) hM (okL58 m) (l := [1, 2, 4, 5, 6, 31, 32]) (by kernel_rfl) (by kernel_rfl) m (fun R n vs k => ELp114_2 m R n vs k) (fun R vs k => rfl) (fun R n vs k x h => by
   simp only [ELp114_2] at h
   split at h
   ·exact (stLp114_2 m n R _ _ _ _ _ _ _ _ _ _ _ _ k).trans h
   ·cases h) fun R vs k x h => by
  unfold brLp114_2 at h
  split at h
  ·exact .inl ((eqLp114_2 m R _ _ _ _ _ _ _ _ _ _ _ k m _).trans h)
  ·exact .inr h

/-- - -/
noncomputable def Fn114 {R : Type} (m : Nat) : Abs.Rows → Int → Abs.Rows → ByteArray → (ByteArray → ByteArray → Int → Int → Int → Int → Bool → Option R) → Option R := match m with
 | 0 => fun _ _ _ _ _ => none
 | m + 1 => fun r0 i1 r2 s3 k =>
 Lp114_2 m (fun s4 s5 i6 i7 i8 i9 b10 i11 => k s4 s5 i6 i7 i8 i9 b10) (fun i12 => k ({ data := #[] }) ({ data := #[] }) ((0 : Int)) ((0 : Int)) ((0 : Int)) ((0 : Int)) false) s3 r0 i1 r2 ({ data := #[] }) ({ data := #[] }) ((0 : Int)) ((0 : Int)) ((0 : Int)) ((0 : Int)) false m ((↑(ByteArray.size s3) : Int))
noncomputable def brFn114 (m : Nat) (T : Tbl) (R : Type) (vs : List V) (k : V → List V → Option R) : Option R := match vs with
 | [.agg [.f (.lst [.str, .str, .int .i64, .int .i64, .int .i64, .int .i64] r0), .f (.lit (.int .i64 i1)), .f (.lst [.str] r2)], .f (.lit (.string s3))] => Fn114 m r0 i1 r2 s3 (fun s13 s14 i15 i16 i17 i18 b19 => k (V.tup (W81 s13 s14 i15 i16 i17 i18 b19)) W1)
 | _ => T R 114 vs k

theorem evFn114 (m : Nat) (R : Type) (r0 : Abs.Rows) (i1 : Int) (r2 : Abs.Rows) (s3 : ByteArray) (k : V → List V → Option R) : runK Tryz.prog H (T71 m) (L59 m) 114 (W82 r0 i1 r2 s3) k = Fn114 (m + 1) r0 i1 r2 s3 (fun s13 s14 i15 i16 i17 i18 b19 => k (V.tup (W81 s13 s14 i15 i16 i17 i18 b19)) W1) := by kernel_rfl
noncomputable def T72 (m : Nat) : Tbl := addT 114 (brFn114 m (T71 m)) (T71 m)
theorem okT72 (m : Nat) : TblOk Tryz.prog (T72 m) := addT_ok (okT71 m) fun R vs k x h => by
 unfold brFn114 at h
 split at h
 ·cases m with
  | zero => cases h
  | succ m => exact runK_some (okT71 m) hM (okL59 m) ((evFn114 m R _ _ _ _ k).trans h)
 ·exact okT71 m R 114 _ k x h

abbrev W100 (a0 a1 a2 : ByteArray) (a3 a4 a5 a6 : Int) (a7 : Bool) : List V := [.f (.lit (.string a0)), .agg [.f (.lit (.string a1)), .f (.lit (.string a2)), .f (.lit (.int .i64 a3)), .f (.lit (.int .i64 a4)), .f (.lit (.int .i64 a5)), .f (.lit (.int .i64 a6))], .f (.lit (.bool a7))]
abbrev W101 (a0 : Abs.Rows) (a1 : Int) (a2 a3 : Abs.Rows) (a4 a5 a6 : ByteArray) (a7 a8 a9 a10 : Int) (a11 : ByteArray) : List V := [.agg [.f (.lst J4 a0), .f (.lit (.int .i64 a1)), .f (.lst J3 a2)], .bor J7 a3, .agg [.f (.lit (.string a4)), .f (.lit (.string a5)), .f (.lit (.string a6)), .f (.lit (.int .i64 a7)), .f (.lit (.int .i64 a8)), .f (.lit (.int .i64 a9)), .f (.lit (.int .i64 a10)), .f (.lit (.string a11))]]
/-- - -/
noncomputable def Fn58 {R : Type} (m : Nat) : Abs.Rows → Int → Abs.Rows → Abs.Rows → ByteArray → ByteArray → ByteArray → Int → Int → Int → Int → ByteArray → (ByteArray → ByteArray → ByteArray → Int → Int → Int → Int → Bool → Option R) → Option R := match m with
 | 0 => fun _ _ _ _ _ _ _ _ _ _ _ _ _ => none
 | m + 1 => fun r0 i1 r2 r3 s4 s5 s6 i7 i8 i9 i10 s11 k =>
 Fn76 m r3 s5 (fun s12 b13 => Fn114 m r0 i1 r2 s6 (fun s14 s15 i16 i17 i18 i19 b20 => bif b13 then (k s12 s14 s15 i16 i17 i18 i19 b20) else
 (k s12 s14 s15 i16 i17 i18 i19 false)))
noncomputable def brFn58 (m : Nat) (T : Tbl) (R : Type) (vs : List V) (k : V → List V → Option R) : Option R := match vs with
 | [.agg [.f (.lst [.str, .str, .int .i64, .int .i64, .int .i64, .int .i64] r0), .f (.lit (.int .i64 i1)), .f (.lst [.str] r2)], .bor [.str, .lst [.str]] r3, .agg [.f (.lit (.string s4)), .f (.lit (.string s5)), .f (.lit (.string s6)), .f (.lit (.int .i64 i7)), .f (.lit (.int .i64 i8)), .f (.lit (.int .i64 i9)), .f (.lit (.int .i64 i10)), .f (.lit (.string s11))]] => Fn58 m r0 i1 r2 r3 s4 s5 s6 i7 i8 i9 i10 s11 (fun s21 s22 s23 i24 i25 i26 i27 b28 => k (V.tup (W100 s21 s22 s23 i24 i25 i26 i27 b28)) W32)
 | _ => T R 58 vs k

theorem evFn58 (m : Nat) (R : Type) (r0 : Abs.Rows) (i1 : Int) (r2 r3 : Abs.Rows) (s4 s5 s6 : ByteArray) (i7 i8 i9 i10 : Int) (s11 : ByteArray) (k : V → List V → Option R) : runK Tryz.prog H (T72 m) (L59 m) 58 (W101 r0 i1 r2 r3 s4 s5 s6 i7 i8 i9 i10 s11) k = Fn58 (m + 1) r0 i1 r2 r3 s4 s5 s6 i7 i8 i9 i10 s11 (fun s21 s22 s23 i24 i25 i26 i27 b28 => k (V.tup (W100 s21 s22 s23 i24 i25 i26 i27 b28)) W32) := by kernel_rfl
noncomputable def T73 (m : Nat) : Tbl := addT 58 (brFn58 m (T72 m)) (T72 m)
theorem okT73 (m : Nat) : TblOk Tryz.prog (T73 m) := addT_ok (okT72 m) fun R vs k x h => by
 unfold brFn58 at h
 split at h
 ·cases m with
  | zero => cases h
  | succ m => exact runK_some (okT72 m) hM (okL59 m) ((evFn58 m R _ _ _ _ _ _ _ _ _ _ _ _ k).trans h)
 ·exact okT72 m R 58 _ k x h

/-- - -/
noncomputable def Fn80 {R : Type} (m : Nat) : ByteArray → Int → Int → Int → ByteArray → Int → (Bool → Option R) → Option R := match m with
 | 0 => fun _ _ _ _ _ _ _ => none
 | m + 1 => fun s0 i1 i2 i3 s4 i5 k =>
 bif ByteArray.toList s0 == ByteArray.toList s4 then (bif decide (i2 ≤ i5) then (k (decide (i5 < i3))) else
 (k false)) else
 (k false)
noncomputable def brFn80 (m : Nat) (T : Tbl) (R : Type) (vs : List V) (k : V → List V → Option R) : Option R := match vs with
 | [.agg [.f (.lit (.string s0)), .f (.lit (.int .i64 i1)), .f (.lit (.int .i64 i2)), .f (.lit (.int .i64 i3))], .iref [.str] [[F.lit (Value.string s4)]] 0 0, .iref [.int .i64] [[F.lit (Value.int IntKind.i64 i5)]] 0 0] => Fn80 m s0 i1 i2 i3 s4 i5 (fun b6 => k (V.f (F.lit (Value.bool b6))) W32)
 | _ => T R 80 vs k

theorem evFn80 (m : Nat) (R : Type) (s0 : ByteArray) (i1 i2 i3 : Int) (s4 : ByteArray) (i5 : Int) (k : V → List V → Option R) : runK Tryz.prog H (T73 m) (L59 m) 80 (W72 s0 i1 i2 i3 [[F.lit (Value.string s4)]] [[F.lit (Value.int IntKind.i64 i5)]]) k = Fn80 (m + 1) s0 i1 i2 i3 s4 i5 (fun b6 => k (V.f (F.lit (Value.bool b6))) W32) := by kernel_rfl
noncomputable def T74 (m : Nat) : Tbl := addT 80 (brFn80 m (T73 m)) (T73 m)
theorem okT74 (m : Nat) : TblOk Tryz.prog (T74 m) := addT_ok (okT73 m) fun R vs k x h => by
 unfold brFn80 at h
 split at h
 ·cases m with
  | zero => cases h
  | succ m => exact runK_some (okT73 m) hM (okL59 m) ((evFn80 m R _ _ _ _ _ _ k).trans h)
 ·exact okT73 m R 80 _ k x h

abbrev W102 (a0 a1 a2 : Abs.Rows) (a3 a4 a5 : Int) : List V := [.bor J6 a0, .clos 80 [.iref J3 a1 0 0, .iref J1 a2 0 0], .f (.lit (.int .i64 a3)), .f (.lit (.int .i64 a4)), .f (.lit (.int .i64 a5)), .undef, .undef]
/-- - -/
noncomputable def Lp121_2v1_step {R : Type} (m : Nat) (kx0 : Int → Int → Option R) (kx1 : Int → Option R) (r0 : Abs.Rows) (s1 : ByteArray) (i2 i3 i4 : Int) (REC : Int → Option R) (i5 : Int) : Option R :=
 bif decide (i5 < i4) then (bif decide ((0 : Int) ≤ i5 ∧ i5 < (↑(List.length r0) : Int)) then (Fn80 m (fS r0 (Int.toNat i5) (0 : Nat)) (fI r0 (Int.toNat i5) (1 : Nat)) (fI r0 (Int.toNat i5) (2 : Nat)) (fI r0 (Int.toNat i5) (3 : Nat)) s1 i2 (fun b6 => bif b6 then (kx0 i5 i5) else
 (REC (IntKind.wrap IntKind.i64 (i5 + (1 : Int)))))) else
 (none)) else
 (kx1 i5)
noncomputable def Lp121_2v1 {R : Type} (m : Nat) (kx0 : Int → Int → Option R) (kx1 : Int → Option R) (r0 : Abs.Rows) (s1 : ByteArray) (i2 i3 i4 : Int) : Nat → Int → Option R
 | 0, _ => none
 | n + 1, i5 => Lp121_2v1_step m kx0 kx1 r0 s1 i2 i3 i4 (Lp121_2v1 m kx0 kx1 r0 s1 i2 i3 i4 n) i5
noncomputable def ELp121_2v1 (m : Nat) (R : Type) : Nat → List V → (Ex → List V → Option R) → Option R
 | 0, _, _ => none
 | n + 1, vs, k => match vs with
  | [.bor [.str, .int .i64, .int .i64, .int .i64] r0, .clos 80 [.iref [.str] [[F.lit (Value.string s1)]] 0 0, .iref [.int .i64] [[F.lit (Value.int IntKind.i64 i2)]] 0 0], .f (.lit (.int .i64 i3)), .f (.lit (.int .i64 i4)), .f (.lit (.int .i64 i5)), .undef, .undef] => Lp121_2v1_step m (fun i7 i8 => k Ex.ret (W102 r0 [[F.lit (Value.string s1)]] [[F.lit (Value.int IntKind.i64 i2)]] i7 i4 i8)) (fun i9 => k (Ex.exit (0 : Nat)) (W102 r0 [[F.lit (Value.string s1)]] [[F.lit (Value.int IntKind.i64 i2)]] i3 i4 i9)) r0 s1 i2 i3 i4 (fun i5 => ELp121_2v1 m R n (W102 r0 [[F.lit (Value.string s1)]] [[F.lit (Value.int IntKind.i64 i2)]] i3 i4 i5) k) i5
  | _ => none
noncomputable def brLp121_2v1 (m : Nat) (L : LTbl) (R : Type) (vs : List V) (k : Ex → List V → Option R) : Option R := match vs with
 | [.bor [.str, .int .i64, .int .i64, .int .i64] r0, .clos 80 [.iref [.str] [[F.lit (Value.string s1)]] 0 0, .iref [.int .i64] [[F.lit (Value.int IntKind.i64 i2)]] 0 0], .f (.lit (.int .i64 i3)), .f (.lit (.int .i64 i4)), .f (.lit (.int .i64 i5)), .undef, .undef] => Lp121_2v1 m (fun i7 i8 => k Ex.ret (W102 r0 [[F.lit (Value.string s1)]] [[F.lit (Value.int IntKind.i64 i2)]] i7 i4 i8)) (fun i9 => k (Ex.exit (0 : Nat)) (W102 r0 [[F.lit (Value.string s1)]] [[F.lit (Value.int IntKind.i64 i2)]] i3 i4 i9)) r0 s1 i2 i3 i4 m i5
 | _ => L R 121 2 vs k

theorem stLp121_2v1 (m n : Nat) (R : Type) (r0 : Abs.Rows) (s1 : ByteArray) (i2 i3 i4 i5 : Int) (k : Ex → List V → Option R) : codeK Tryz.prog H (T74 m) 121 (L59 m) 3 (loopBody Tryz.prog 121 2) (mkEnv [0, 1, 4, 7, 8, 19, 20] (W102 r0 [[F.lit (Value.string s1)]] [[F.lit (Value.int IntKind.i64 i2)]] i3 i4 i5) 0 (H.len 121)) (fun e env' => match e with | .normal => ELp121_2v1 m R n (vals [0, 1, 4, 7, 8, 19, 20] env') k | e => k e (vals [0, 1, 4, 7, 8, 19, 20] env')) = Lp121_2v1_step m (fun i7 i8 => k Ex.ret (W102 r0 [[F.lit (Value.string s1)]] [[F.lit (Value.int IntKind.i64 i2)]] i7 i4 i8)) (fun i9 => k (Ex.exit (0 : Nat)) (W102 r0 [[F.lit (Value.string s1)]] [[F.lit (Value.int IntKind.i64 i2)]] i3 i4 i9)) r0 s1 i2 i3 i4 (fun i5 => ELp121_2v1 m R n (W102 r0 [[F.lit (Value.string s1)]] [[F.lit (Value.int IntKind.i64 i2)]] i3 i4 i5) k) i5 := by kernel_rfl
theorem eqLp121_2v1 (m : Nat) (R : Type) (r0 : Abs.Rows) (s1 : ByteArray) (i2 i3 i4 : Int) (k : Ex → List V → Option R) : ∀ (n : Nat) (i5 : Int), ELp121_2v1 m R n (W102 r0 [[F.lit (Value.string s1)]] [[F.lit (Value.int IntKind.i64 i2)]] i3 i4 i5) k = Lp121_2v1 m (fun i7 i8 => k Ex.ret (W102 r0 [[F.lit (Value.string s1)]] [[F.lit (Value.int IntKind.i64 i2)]] i7 i4 i8)) (fun i9 => k (Ex.exit (0 : Nat)) (W102 r0 [[F.lit (Value.string s1)]] [[F.lit (Value.int IntKind.i64 i2)]] i3 i4 i9)) r0 s1 i2 i3 i4 n i5
 | 0, _ => rfl
 | n + 1, i5 => by
  simp only [ELp121_2v1, Lp121_2v1, W102]
  congr 1
  funext i5
  exact eqLp121_2v1 m R r0 s1 i2 i3 i4 k n i5
noncomputable def L60 (m : Nat) : LTbl := addB 121 2 (brLp121_2v1 m (L59 m)) (L59 m)
theorem okL60 (m : Nat) : LTOk Tryz.prog H (L60 m) := addB_ok (okT74 m) hM (okL59 m) (l := [0, 1, 4, 7, 8, 19, 20]) (by kernel_rfl) (by kernel_rfl) m (fun R n vs k => ELp121_2v1 m R n vs k) (fun R vs k => rfl) (fun R n vs k x h => by
   simp only [ELp121_2v1] at h
   split at h
   ·exact (stLp121_2v1 m n R _ _ _ _ _ _ k).trans h
   ·cases h) fun R vs k x h => by
  unfold brLp121_2v1 at h
  split at h
  ·exact .inl ((eqLp121_2v1 m R _ _ _ _ _ k m _).trans h)
  ·exact .inr h

abbrev W103 (a0 a1 a2 : Abs.Rows) : List V := [.bor J6 a0, .clos 80 [.iref J3 a1 0 0, .iref J1 a2 0 0]]
/-- - -/
noncomputable def Fn121v1 {R : Type} (m : Nat) : Abs.Rows → ByteArray → Int → (Int → Option R) → Option R := match m with
 | 0 => fun _ _ _ _ => none
 | m + 1 => fun r0 s1 i2 k =>
 Lp121_2v1 m (fun i3 i4 => k i3) (fun i5 => k ((-1 : Int))) r0 s1 i2 ((0 : Int)) ((↑(List.length r0) : Int)) m ((0 : Int))
noncomputable def brFn121v1 (m : Nat) (T : Tbl) (R : Type) (vs : List V) (k : V → List V → Option R) : Option R := match vs with
 | [.bor [.str, .int .i64, .int .i64, .int .i64] r0, .clos 80 [.iref [.str] [[F.lit (Value.string s1)]] 0 0, .iref [.int .i64] [[F.lit (Value.int IntKind.i64 i2)]] 0 0]] => Fn121v1 m r0 s1 i2 (fun i6 => k (V.f (F.lit (Value.int IntKind.i64 i6))) W1)
 | _ => T R 121 vs k

theorem evFn121v1 (m : Nat) (R : Type) (r0 : Abs.Rows) (s1 : ByteArray) (i2 : Int) (k : V → List V → Option R) : runK Tryz.prog H (T74 m) (L60 m) 121 (W103 r0 [[F.lit (Value.string s1)]] [[F.lit (Value.int IntKind.i64 i2)]]) k = Fn121v1 (m + 1) r0 s1 i2 (fun i6 => k (V.f (F.lit (Value.int IntKind.i64 i6))) W1) := by kernel_rfl
noncomputable def T75 (m : Nat) : Tbl := addT 121 (brFn121v1 m (T74 m)) (T74 m)
theorem okT75 (m : Nat) : TblOk Tryz.prog (T75 m) := addT_ok (okT74 m) fun R vs k x h => by
 unfold brFn121v1 at h
 split at h
 ·cases m with
  | zero => cases h
  | succ m => exact runK_some (okT74 m) hM (okL60 m) ((evFn121v1 m R _ _ _ k).trans h)
 ·exact okT74 m R 121 _ k x h

/-- - -/
noncomputable def Fn79v1 {R : Type} (m : Nat) : Abs.Rows → ByteArray → Int → (Bool → Option R) → Option R := match m with
 | 0 => fun _ _ _ _ => none
 | m + 1 => fun r0 s1 i2 k =>
 Fn121v1 m r0 s1 i2 (fun i3 => k (decide (i3 ≥ (0 : Int))))
noncomputable def brFn79v1 (m : Nat) (T : Tbl) (R : Type) (vs : List V) (k : V → List V → Option R) : Option R := match vs with
 | [.bor [.str, .int .i64, .int .i64, .int .i64] r0, .clos 80 [.iref [.str] [[F.lit (Value.string s1)]] 0 0, .iref [.int .i64] [[F.lit (Value.int IntKind.i64 i2)]] 0 0]] => Fn79v1 m r0 s1 i2 (fun b4 => k (V.f (F.lit (Value.bool b4))) W1)
 | _ => T R 79 vs k

theorem evFn79v1 (m : Nat) (R : Type) (r0 : Abs.Rows) (s1 : ByteArray) (i2 : Int) (k : V → List V → Option R) : runK Tryz.prog H (T75 m) (L60 m) 79 (W103 r0 [[F.lit (Value.string s1)]] [[F.lit (Value.int IntKind.i64 i2)]]) k = Fn79v1 (m + 1) r0 s1 i2 (fun b4 => k (V.f (F.lit (Value.bool b4))) W1) := by kernel_rfl
noncomputable def T76 (m : Nat) : Tbl := addT 79 (brFn79v1 m (T75 m)) (T75 m)
theorem okT76 (m : Nat) : TblOk Tryz.prog (T76 m) := addT_ok (okT75 m) fun R vs k x h => by
 unfold brFn79v1 at h
 split at h
 ·cases m with
  | zero => cases h
  | succ m => exact runK_some (okT75 m) hM (okL60 m) ((evFn79v1 m R _ _ _ k).trans h)
 ·exact okT75 m R 79 _ k x h

/-- - -/
noncomputable def Fn36 {R : Type} (m : Nat) : Abs.Rows → ByteArray → Int → (Bool → Option R) → Option R := match m with
 | 0 => fun _ _ _ _ => none
 | m + 1 => fun r0 s1 i2 k =>
 Fn79v1 m r0 s1 i2 (fun b3 => k b3)
noncomputable def brFn36 (m : Nat) (T : Tbl) (R : Type) (vs : List V) (k : V → List V → Option R) : Option R := match vs with
 | [.bor [.str, .int .i64, .int .i64, .int .i64] r0, .f (.lit (.string s1)), .f (.lit (.int .i64 i2))] => Fn36 m r0 s1 i2 (fun b4 => k (V.f (F.lit (Value.bool b4))) W32)
 | _ => T R 36 vs k

theorem evFn36 (m : Nat) (R : Type) (r0 : Abs.Rows) (s1 : ByteArray) (i2 : Int) (k : V → List V → Option R) : runK Tryz.prog H (T76 m) (L60 m) 36 (W75 r0 s1 i2) k = Fn36 (m + 1) r0 s1 i2 (fun b4 => k (V.f (F.lit (Value.bool b4))) W32) := by kernel_rfl
noncomputable def T77 (m : Nat) : Tbl := addT 36 (brFn36 m (T76 m)) (T76 m)
theorem okT77 (m : Nat) : TblOk Tryz.prog (T77 m) := addT_ok (okT76 m) fun R vs k x h => by
 unfold brFn36 at h
 split at h
 ·cases m with
  | zero => cases h
  | succ m => exact runK_some (okT76 m) hM (okL60 m) ((evFn36 m R _ _ _ k).trans h)
 ·exact okT76 m R 36 _ k x h

abbrev W104 (a0 a1 : ByteArray) (a2 a3 a4 a5 a6 a7 : Int) : List V := [.obj [.f (.lit (.string a0)), .f (.lit (.string a1)), .f (.lit (.int .i64 a2)), .f (.lit (.int .i64 a3)), .f (.lit (.int .i64 a4)), .f (.lit (.int .i64 a5))], .f (.lit (.int .i64 a6)), .f (.lit (.int .i64 a7)), .undef, .undef]
/-- - -/
noncomputable def Jn60_9 {R : Type} (m : Nat) (kx0 : Int → Option R) (s0 s1 : ByteArray) (i2 i3 i4 i5 i6 i7 : Int) : Option R :=
 kx0 (IntKind.wrap IntKind.i64 (i2 + IntKind.wrap IntKind.i64 (i7 * i5)))
noncomputable def brJn60_9 (m : Nat) (L : LTbl) (R : Type) (vs : List V) (k : Ex → List V → Option R) : Option R := match vs with
 | [.obj [.f (.lit (.string s0)), .f (.lit (.string s1)), .f (.lit (.int .i64 i2)), .f (.lit (.int .i64 i3)), .f (.lit (.int .i64 i4)), .f (.lit (.int .i64 i5))], .f (.lit (.int .i64 i6)), .f (.lit (.int .i64 i7)), .undef, .undef] => Jn60_9 m (fun i8 => k Ex.ret (W104 s0 s1 i2 i3 i4 i5 i8 i7)) s0 s1 i2 i3 i4 i5 i6 i7
 | _ => L R 60 9 vs k

theorem evJn60_9 (m : Nat) (R : Type) (s0 s1 : ByteArray) (i2 i3 i4 i5 i6 i7 : Int) (k : Ex → List V → Option R) : codeK Tryz.prog H (T77 m) 60 (L60 m) 10 (loopBody Tryz.prog 60 9) (mkEnv [2, 4, 5, 33, 34] (W104 s0 s1 i2 i3 i4 i5 i6 i7) 0 (H.len 60)) (fun e env' => k e (vals [2, 4, 5, 33, 34] env')) = Jn60_9 m (fun i8 => k Ex.ret (W104 s0 s1 i2 i3 i4 i5 i8 i7)) s0 s1 i2 i3 i4 i5 i6 i7 := by kernel_rfl
noncomputable def L61 (m : Nat) : LTbl := addJ 60 9 (brJn60_9 m (L60 m)) (L60 m)
theorem okL61 (m : Nat) : LTOk Tryz.prog H (L61 m) := addJ_ok (okT77 m) hM (okL60 m) (l := [2, 4, 5, 33, 34]) (by kernel_rfl) (by kernel_rfl) fun R vs k x h => by
  unfold brJn60_9 at h
  split at h
  ·exact .inl ((evJn60_9 m R _ _ _ _ _ _ _ _ k).trans h)
  ·exact .inr h

/-- - -/
noncomputable def Fn60 {R : Type} (m : Nat) : ByteArray → ByteArray → Int → Int → Int → Int → Int → (Int → Option R) → Option R := match m with
 | 0 => fun _ _ _ _ _ _ _ _ => none
 | m + 1 => fun s0 s1 i2 i3 i4 i5 i6 k =>
 bif i6 == (0 : Int) then (k ((0 : Int))) else
 (bif decide (IntKind.wrap IntKind.i64 (i6 - i3) > (0 : Int)) then (bif decide (i4 ≠ (0 : Int)) then (bif decide (i4 ≠ (0 : Int)) then (bif decide (Int.tmod (IntKind.wrap IntKind.i64 (i6 - i3)) i4 > (0 : Int)) then (Jn60_9 m (fun i7 => k i7) s0 s1 i2 i3 i4 i5 ((0 : Int)) (IntKind.wrap IntKind.i64 (IntKind.wrap IntKind.i64 (Int.tdiv (IntKind.wrap IntKind.i64 (i6 - i3)) i4) + (1 : Int)))) else
 (Jn60_9 m (fun i8 => k i8) s0 s1 i2 i3 i4 i5 ((0 : Int)) (IntKind.wrap IntKind.i64 (Int.tdiv (IntKind.wrap IntKind.i64 (i6 - i3)) i4)))) else
 (none)) else
 (none)) else
 (Jn60_9 m (fun i9 => k i9) s0 s1 i2 i3 i4 i5 ((0 : Int)) ((0 : Int))))
noncomputable def brFn60 (m : Nat) (T : Tbl) (R : Type) (vs : List V) (k : V → List V → Option R) : Option R := match vs with
 | [.agg [.f (.lit (.string s0)), .f (.lit (.string s1)), .f (.lit (.int .i64 i2)), .f (.lit (.int .i64 i3)), .f (.lit (.int .i64 i4)), .f (.lit (.int .i64 i5))], .f (.lit (.int .i64 i6))] => Fn60 m s0 s1 i2 i3 i4 i5 i6 (fun i10 => k (V.f (F.lit (Value.int IntKind.i64 i10))) W1)
 | _ => T R 60 vs k

theorem evFn60 (m : Nat) (R : Type) (s0 s1 : ByteArray) (i2 i3 i4 i5 i6 : Int) (k : V → List V → Option R) : runK Tryz.prog H (T77 m) (L61 m) 60 (W83 s0 s1 i2 i3 i4 i5 i6) k = Fn60 (m + 1) s0 s1 i2 i3 i4 i5 i6 (fun i10 => k (V.f (F.lit (Value.int IntKind.i64 i10))) W1) := by kernel_rfl
noncomputable def T78 (m : Nat) : Tbl := addT 60 (brFn60 m (T77 m)) (T77 m)
theorem okT78 (m : Nat) : TblOk Tryz.prog (T78 m) := addT_ok (okT77 m) fun R vs k x h => by
 unfold brFn60 at h
 split at h
 ·cases m with
  | zero => cases h
  | succ m => exact runK_some (okT77 m) hM (okL61 m) ((evFn60 m R _ _ _ _ _ _ _ k).trans h)
 ·exact okT77 m R 60 _ k x h

abbrev W105 (a0 a1 a2 a3 : Abs.Rows) (a4 : Int) (a5 a6 a7 a8 : Abs.Rows) (a9 a10 a11 : ByteArray) (a12 a13 a14 a15 : Int) (a16 a17 a18 a19 : ByteArray) (a20 a21 a22 a23 a24 : Int) (a25 : ByteArray) (a26 a27 a28 a29 a30 a31 : Int) (a32 a33 a34 : ByteArray) (a35 a36 a37 a38 : Int) (a39 a40 a41 : ByteArray) (a42 a43 a44 a45 : Int) (a46 : Abs.Rows) (a47 a48 : Int) (a49 : Abs.Rows) (a50 a51 : Int) (a52 : Nat) (a53 a54 : Int) (a55 : Bool) : List V := [.bor J7 a0, .f (.lst J5 a1), .bor J2 a2, .obj [.f (.lst J4 a3), .f (.lit (.int .i64 a4)), .f (.lst J3 a5)], .own J6 a6, .own J1 a7, .own J1 a8, .obj [.f (.lit (.string a9)), .f (.lit (.string a10)), .f (.lit (.string a11)), .f (.lit (.int .i64 a12)), .f (.lit (.int .i64 a13)), .f (.lit (.int .i64 a14)), .f (.lit (.int .i64 a15)), .f (.lit (.string a16))], .f (.lit (.string a17)), .obj [.f (.lit (.string a18)), .f (.lit (.string a19)), .f (.lit (.int .i64 a20)), .f (.lit (.int .i64 a21)), .f (.lit (.int .i64 a22)), .f (.lit (.int .i64 a23))], .f (.lit (.int .i64 a24)), .obj [.f (.lit (.string a25)), .f (.lit (.int .i64 a26)), .f (.lit (.int .i64 a27)), .f (.lit (.int .i64 a28)), .f (.lit (.int .i64 a29))], .f (.lit (.int .i64 a30)), .f (.lit (.int .i64 a31)), .obj [.f (.lit (.string a32)), .f (.lit (.string a33)), .f (.lit (.string a34)), .f (.lit (.int .i64 a35)), .f (.lit (.int .i64 a36)), .f (.lit (.int .i64 a37)), .f (.lit (.int .i64 a38)), .f (.lit (.string a39))], .obj [.f (.lit (.string a40)), .f (.lit (.string a41)), .f (.lit (.int .i64 a42)), .f (.lit (.int .i64 a43)), .f (.lit (.int .i64 a44)), .f (.lit (.int .i64 a45))], .bor J2 a46, .f (.lit (.int .i64 a47)), .f (.lit (.int .i64 a48)), .undef, .undef, .f (.lst J5 a49), .f (.lit (.int .i64 a50)), .f (.lit (.int .i64 a51)), .lent { slot := (12 : Nat), leaf := none } 1 a52, .f (.lit (.int .i64 a53)), .f (.lit (.int .i64 a54)), .f (.lit (.bool a55)), .undef, .undef, .undef, .undef]
/-- - -/
noncomputable def Jn30_31 {R : Type} (m : Nat) (kx0 : Int → Int → Bool → Option R) (r0 r1 r2 r3 : Abs.Rows) (i4 : Int) (r5 r6 r7 r8 : Abs.Rows) (s9 s10 s11 : ByteArray) (i12 i13 i14 i15 : Int) (s16 s17 s18 s19 : ByteArray) (i20 i21 i22 i23 i24 : Int) (s25 : ByteArray) (i26 i27 i28 i29 i30 i31 : Int) (s32 s33 s34 : ByteArray) (i35 i36 i37 i38 : Int) (s39 s40 s41 : ByteArray) (i42 i43 i44 i45 : Int) (r46 : Abs.Rows) (i47 i48 : Int) (r49 : Abs.Rows) (i50 i51 : Int) (n52 : Nat) (i53 i54 : Int) (b55 : Bool) : Option R :=
 bif b55 then (Fn60 m s40 s41 i42 i43 i44 i45 i37 (fun i56 => kx0 (IntKind.wrap IntKind.i64 (i30 + (1 : Int))) (IntKind.wrap IntKind.i64 (i31 + i56)) true)) else
 (kx0 i30 i31 false)
noncomputable def brJn30_31 (m : Nat) (L : LTbl) (R : Type) (vs : List V) (k : Ex → List V → Option R) : Option R := match vs with
 | [.bor [.str, .lst [.str]] r0, .f (.lst [.str, .int .i64, .int .i64, .int .i64, .int .i64] r1), .bor [.str, .str, .str, .int .i64, .int .i64, .int .i64, .int .i64, .str] r2, .obj [.f (.lst [.str, .str, .int .i64, .int .i64, .int .i64, .int .i64] r3), .f (.lit (.int .i64 i4)), .f (.lst [.str] r5)], .own [.str, .int .i64, .int .i64, .int .i64] r6, .own [.int .i64] r7, .own [.int .i64] r8, .obj [.f (.lit (.string s9)), .f (.lit (.string s10)), .f (.lit (.string s11)), .f (.lit (.int .i64 i12)), .f (.lit (.int .i64 i13)), .f (.lit (.int .i64 i14)), .f (.lit (.int .i64 i15)), .f (.lit (.string s16))], .f (.lit (.string s17)), .obj [.f (.lit (.string s18)), .f (.lit (.string s19)), .f (.lit (.int .i64 i20)), .f (.lit (.int .i64 i21)), .f (.lit (.int .i64 i22)), .f (.lit (.int .i64 i23))], .f (.lit (.int .i64 i24)), .obj [.f (.lit (.string s25)), .f (.lit (.int .i64 i26)), .f (.lit (.int .i64 i27)), .f (.lit (.int .i64 i28)), .f (.lit (.int .i64 i29))], .f (.lit (.int .i64 i30)), .f (.lit (.int .i64 i31)), .obj [.f (.lit (.string s32)), .f (.lit (.string s33)), .f (.lit (.string s34)), .f (.lit (.int .i64 i35)), .f (.lit (.int .i64 i36)), .f (.lit (.int .i64 i37)), .f (.lit (.int .i64 i38)), .f (.lit (.string s39))], .obj [.f (.lit (.string s40)), .f (.lit (.string s41)), .f (.lit (.int .i64 i42)), .f (.lit (.int .i64 i43)), .f (.lit (.int .i64 i44)), .f (.lit (.int .i64 i45))], .bor [.str, .str, .str, .int .i64, .int .i64, .int .i64, .int .i64, .str] r46, .f (.lit (.int .i64 i47)), .f (.lit (.int .i64 i48)), .undef, .undef, .f (.lst [.str, .int .i64, .int .i64, .int .i64, .int .i64] r49), .f (.lit (.int .i64 i50)), .f (.lit (.int .i64 i51)), .lent { slot := (12 : Nat), leaf := none } 1 n52, .f (.lit (.int .i64 i53)), .f (.lit (.int .i64 i54)), .f (.lit (.bool b55)), .undef, .undef, .undef, .undef] => Jn30_31 m (fun i57 i58 b59 => k Ex.normal (W105 r0 r1 r2 r3 i4 r5 r6 r7 r8 s9 s10 s11 i12 i13 i14 i15 s16 s17 s18 s19 i20 i21 i22 i23 i24 s25 i26 i27 i28 i29 i57 i58 s32 s33 s34 i35 i36 i37 i38 s39 s40 s41 i42 i43 i44 i45 r46 i47 i48 r49 i50 i51 n52 i53 i54 b59)) r0 r1 r2 r3 i4 r5 r6 r7 r8 s9 s10 s11 i12 i13 i14 i15 s16 s17 s18 s19 i20 i21 i22 i23 i24 s25 i26 i27 i28 i29 i30 i31 s32 s33 s34 i35 i36 i37 i38 s39 s40 s41 i42 i43 i44 i45 r46 i47 i48 r49 i50 i51 n52 i53 i54 b55
 | _ => L R 30 31 vs k

theorem evJn30_31 (m : Nat) (R : Type) (r0 r1 r2 r3 : Abs.Rows) (i4 : Int) (r5 r6 r7 r8 : Abs.Rows) (s9 s10 s11 : ByteArray) (i12 i13 i14 i15 : Int) (s16 s17 s18 s19 : ByteArray) (i20 i21 i22 i23 i24 : Int) (s25 : ByteArray) (i26 i27 i28 i29 i30 i31 : Int) (s32 s33 s34 : ByteArray) (i35 i36 i37 i38 : Int) (s39 s40 s41 : ByteArray) (i42 i43 i44 i45 : Int) (r46 : Abs.Rows) (i47 i48 : Int) (r49 : Abs.Rows) (i50 i51 : Int) (n52 : Nat) (i53 i54 : Int) (b55 : Bool) (k : Ex → List V → Option R) : codeK Tryz.prog H (T78 m) 30 (L61 m) 32 (loopBody Tryz.prog 30 31) (mkEnv [1, 2, 3, 4, 10, 11, 12, 14, 15, 16, 20, 21, 22, 23, 26, 28, 30, 31, 32, 63, 69, 70, 71, 72, 87, 88, 89, 129, 169, 170, 171, 172] (W105 r0 r1 r2 r3 i4 r5 r6 r7 r8 s9 s10 s11 i12 i13 i14 i15 s16 s17 s18 s19 i20 i21 i22 i23 i24 s25 i26 i27 i28 i29 i30 i31 s32 s33 s34 i35 i36 i37 i38 s39 s40 s41 i42 i43 i44 i45 r46 i47 i48 r49 i50 i51 n52 i53 i54 b55) 0 (H.len 30)) (fun e env' => k e (vals [1, 2, 3, 4, 10, 11, 12, 14, 15, 16, 20, 21, 22, 23, 26, 28, 30, 31, 32, 63, 69, 70, 71, 72, 87, 88, 89, 129, 169, 170, 171, 172] env')) = Jn30_31 m (fun i57 i58 b59 => k Ex.normal (W105 r0 r1 r2 r3 i4 r5 r6 r7 r8 s9 s10 s11 i12 i13 i14 i15 s16 s17 s18 s19 i20 i21 i22 i23 i24 s25 i26 i27 i28 i29 i57 i58 s32 s33 s34 i35 i36 i37 i38 s39 s40 s41 i42 i43 i44 i45 r46 i47 i48 r49 i50 i51 n52 i53 i54 b59)) r0 r1 r2 r3 i4 r5 r6 r7 r8 s9 s10 s11 i12 i13 i14 i15 s16 s17 s18 s19 i20 i21 i22 i23 i24 s25 i26 i27 i28 i29 i30 i31 s32 s33 s34 i35 i36 i37 i38 s39 s40 s41 i42 i43 i44 i45 r46 i47 i48 r49 i50 i51 n52 i53 i54 b55 := by kernel_rfl
noncomputable def L62 (m : Nat) : LTbl := addJ 30 31 (brJn30_31 m (L61 m)) (L61 m)
theorem okL62 (m : Nat) : LTOk Tryz.prog H (L62 m) := addJ_ok (okT78 m) hM (okL61 m) (l := [1, 2, 3, 4, 10, 11, 12, 14, 15, 16, 20, 21, 22, 23, 26, 28, 30, 31, 32, 63, 69, 70, 71, 72, 87, 88, 89, 129, 169, 170, 171, 172]) (by kernel_rfl) (by kernel_rfl) fun R vs k x h => by
  unfold brJn30_31 at h
  split at h
  ·exact .inl ((evJn30_31 m R _ _ _ _ _ _ _ _ _ _ _ _ _ _ _ _ _ _ _ _ _ _ _ _ _ _ _ _ _ _ _ _ _ _ _ _ _ _ _ _ _ _ _ _ _ _ _ _ _ _ _ _ _ _ _ _ k).trans h)
  ·exact .inr h

abbrev W106 (a0 a1 a2 a3 : Abs.Rows) (a4 : Int) (a5 a6 a7 a8 : Abs.Rows) (a9 a10 a11 : ByteArray) (a12 a13 a14 a15 : Int) (a16 a17 a18 a19 : ByteArray) (a20 a21 a22 a23 a24 : Int) (a25 : ByteArray) (a26 a27 a28 a29 a30 a31 : Int) (a32 : Abs.Rows) (a33 a34 : Int) (a35 : Abs.Rows) (a36 a37 : Int) (a38 : Nat) (a39 a40 : Int) : List V := [.bor J7 a0, .f (.lst J5 a1), .bor J2 a2, .obj [.f (.lst J4 a3), .f (.lit (.int .i64 a4)), .f (.lst J3 a5)], .own J6 a6, .own J1 a7, .own J1 a8, .obj [.f (.lit (.string a9)), .f (.lit (.string a10)), .f (.lit (.string a11)), .f (.lit (.int .i64 a12)), .f (.lit (.int .i64 a13)), .f (.lit (.int .i64 a14)), .f (.lit (.int .i64 a15)), .f (.lit (.string a16))], .f (.lit (.string a17)), .obj [.f (.lit (.string a18)), .f (.lit (.string a19)), .f (.lit (.int .i64 a20)), .f (.lit (.int .i64 a21)), .f (.lit (.int .i64 a22)), .f (.lit (.int .i64 a23))], .f (.lit (.int .i64 a24)), .obj [.f (.lit (.string a25)), .f (.lit (.int .i64 a26)), .f (.lit (.int .i64 a27)), .f (.lit (.int .i64 a28)), .f (.lit (.int .i64 a29))], .f (.lit (.int .i64 a30)), .f (.lit (.int .i64 a31)), .bor J2 a32, .f (.lit (.int .i64 a33)), .f (.lit (.int .i64 a34)), .undef, .undef, .f (.lst J5 a35), .f (.lit (.int .i64 a36)), .f (.lit (.int .i64 a37)), .lent { slot := (12 : Nat), leaf := none } 1 a38, .f (.lit (.int .i64 a39)), .f (.lit (.int .i64 a40)), .undef, .undef, .undef, .undef]
/-- - -/
noncomputable def Lp30_25_step {R : Type} (m : Nat) (kx0 : Int → Int → Int → Option R) (r0 r1 r2 r3 : Abs.Rows) (i4 : Int) (r5 r6 r7 r8 : Abs.Rows) (s9 s10 s11 : ByteArray) (i12 i13 i14 i15 : Int) (s16 s17 s18 s19 : ByteArray) (i20 i21 i22 i23 i24 : Int) (s25 : ByteArray) (i26 i27 i28 i29 : Int) (r30 : Abs.Rows) (i31 i32 : Int) (r33 : Abs.Rows) (i34 i35 : Int) (n36 : Nat) (i37 : Int) (REC : Int → Int → Int → Option R) (i38 i39 i40 : Int) : Option R :=
 bif decide (i40 < i37) then (bif decide ((0 : Int) ≤ i40 ∧ i40 < (↑n36 : Int)) then (bif decide ((0 : Int) ≤ fI r8 (Int.toNat i40) (0 : Nat) ∧ fI r8 (Int.toNat i40) (0 : Nat) < (↑(List.length r2) : Int)) then (Fn58 m r3 i4 r5 r0 (fS r2 (Int.toNat (fI r8 (Int.toNat i40) (0 : Nat))) (0 : Nat)) (fS r2 (Int.toNat (fI r8 (Int.toNat i40) (0 : Nat))) (1 : Nat)) (fS r2 (Int.toNat (fI r8 (Int.toNat i40) (0 : Nat))) (2 : Nat)) (fI r2 (Int.toNat (fI r8 (Int.toNat i40) (0 : Nat))) (3 : Nat)) (fI r2 (Int.toNat (fI r8 (Int.toNat i40) (0 : Nat))) (4 : Nat)) (fI r2 (Int.toNat (fI r8 (Int.toNat i40) (0 : Nat))) (5 : Nat)) (fI r2 (Int.toNat (fI r8 (Int.toNat i40) (0 : Nat))) (6 : Nat)) (fS r2 (Int.toNat (fI r8 (Int.toNat i40) (0 : Nat))) (7 : Nat)) (fun s41 s42 s43 i44 i45 i46 i47 b48 => bif ByteArray.toList s41 == ByteArray.toList s17 then (bif ByteArray.toList s25 == ByteArray.toList { data := #[] } then (Jn30_31 m (fun i49 i50 b51 => REC i49 i50 (IntKind.wrap IntKind.i64 (i40 + (1 : Int)))) r0 r1 r2 r3 i4 r5 r6 r7 r8 s9 s10 s11 i12 i13 i14 i15 s16 s17 s18 s19 i20 i21 i22 i23 i24 s25 i26 i27 i28 i29 i38 i39 (fS r2 (Int.toNat (fI r8 (Int.toNat i40) (0 : Nat))) (0 : Nat)) (fS r2 (Int.toNat (fI r8 (Int.toNat i40) (0 : Nat))) (1 : Nat)) (fS r2 (Int.toNat (fI r8 (Int.toNat i40) (0 : Nat))) (2 : Nat)) (fI r2 (Int.toNat (fI r8 (Int.toNat i40) (0 : Nat))) (3 : Nat)) (fI r2 (Int.toNat (fI r8 (Int.toNat i40) (0 : Nat))) (4 : Nat)) (fI r2 (Int.toNat (fI r8 (Int.toNat i40) (0 : Nat))) (5 : Nat)) (fI r2 (Int.toNat (fI r8 (Int.toNat i40) (0 : Nat))) (6 : Nat)) (fS r2 (Int.toNat (fI r8 (Int.toNat i40) (0 : Nat))) (7 : Nat)) s42 s43 i44 i45 i46 i47 r30 i31 i32 r33 i34 i35 n36 i37 i40 (decide (fI r2 (Int.toNat (fI r8 (Int.toNat i40) (0 : Nat))) (3 : Nat) > IntKind.wrap IntKind.i64 (i12 - i26)))) else
 (bif ByteArray.toList s43 == ByteArray.toList s25 then (Jn30_31 m (fun i52 i53 b54 => REC i52 i53 (IntKind.wrap IntKind.i64 (i40 + (1 : Int)))) r0 r1 r2 r3 i4 r5 r6 r7 r8 s9 s10 s11 i12 i13 i14 i15 s16 s17 s18 s19 i20 i21 i22 i23 i24 s25 i26 i27 i28 i29 i38 i39 (fS r2 (Int.toNat (fI r8 (Int.toNat i40) (0 : Nat))) (0 : Nat)) (fS r2 (Int.toNat (fI r8 (Int.toNat i40) (0 : Nat))) (1 : Nat)) (fS r2 (Int.toNat (fI r8 (Int.toNat i40) (0 : Nat))) (2 : Nat)) (fI r2 (Int.toNat (fI r8 (Int.toNat i40) (0 : Nat))) (3 : Nat)) (fI r2 (Int.toNat (fI r8 (Int.toNat i40) (0 : Nat))) (4 : Nat)) (fI r2 (Int.toNat (fI r8 (Int.toNat i40) (0 : Nat))) (5 : Nat)) (fI r2 (Int.toNat (fI r8 (Int.toNat i40) (0 : Nat))) (6 : Nat)) (fS r2 (Int.toNat (fI r8 (Int.toNat i40) (0 : Nat))) (7 : Nat)) s42 s43 i44 i45 i46 i47 r30 i31 i32 r33 i34 i35 n36 i37 i40 (decide (fI r2 (Int.toNat (fI r8 (Int.toNat i40) (0 : Nat))) (3 : Nat) > IntKind.wrap IntKind.i64 (i12 - i26)))) else
 (Jn30_31 m (fun i55 i56 b57 => REC i55 i56 (IntKind.wrap IntKind.i64 (i40 + (1 : Int)))) r0 r1 r2 r3 i4 r5 r6 r7 r8 s9 s10 s11 i12 i13 i14 i15 s16 s17 s18 s19 i20 i21 i22 i23 i24 s25 i26 i27 i28 i29 i38 i39 (fS r2 (Int.toNat (fI r8 (Int.toNat i40) (0 : Nat))) (0 : Nat)) (fS r2 (Int.toNat (fI r8 (Int.toNat i40) (0 : Nat))) (1 : Nat)) (fS r2 (Int.toNat (fI r8 (Int.toNat i40) (0 : Nat))) (2 : Nat)) (fI r2 (Int.toNat (fI r8 (Int.toNat i40) (0 : Nat))) (3 : Nat)) (fI r2 (Int.toNat (fI r8 (Int.toNat i40) (0 : Nat))) (4 : Nat)) (fI r2 (Int.toNat (fI r8 (Int.toNat i40) (0 : Nat))) (5 : Nat)) (fI r2 (Int.toNat (fI r8 (Int.toNat i40) (0 : Nat))) (6 : Nat)) (fS r2 (Int.toNat (fI r8 (Int.toNat i40) (0 : Nat))) (7 : Nat)) s42 s43 i44 i45 i46 i47 r30 i31 i32 r33 i34 i35 n36 i37 i40 false))) else
 (Jn30_31 m (fun i58 i59 b60 => REC i58 i59 (IntKind.wrap IntKind.i64 (i40 + (1 : Int)))) r0 r1 r2 r3 i4 r5 r6 r7 r8 s9 s10 s11 i12 i13 i14 i15 s16 s17 s18 s19 i20 i21 i22 i23 i24 s25 i26 i27 i28 i29 i38 i39 (fS r2 (Int.toNat (fI r8 (Int.toNat i40) (0 : Nat))) (0 : Nat)) (fS r2 (Int.toNat (fI r8 (Int.toNat i40) (0 : Nat))) (1 : Nat)) (fS r2 (Int.toNat (fI r8 (Int.toNat i40) (0 : Nat))) (2 : Nat)) (fI r2 (Int.toNat (fI r8 (Int.toNat i40) (0 : Nat))) (3 : Nat)) (fI r2 (Int.toNat (fI r8 (Int.toNat i40) (0 : Nat))) (4 : Nat)) (fI r2 (Int.toNat (fI r8 (Int.toNat i40) (0 : Nat))) (5 : Nat)) (fI r2 (Int.toNat (fI r8 (Int.toNat i40) (0 : Nat))) (6 : Nat)) (fS r2 (Int.toNat (fI r8 (Int.toNat i40) (0 : Nat))) (7 : Nat)) s42 s43 i44 i45 i46 i47 r30 i31 i32 r33 i34 i35 n36 i37 i40 false))) else
 (none)) else
 (none)) else
 (kx0 i38 i39 i40)
noncomputable def Lp30_25 {R : Type} (m : Nat) (kx0 : Int → Int → Int → Option R) (r0 r1 r2 r3 : Abs.Rows) (i4 : Int) (r5 r6 r7 r8 : Abs.Rows) (s9 s10 s11 : ByteArray) (i12 i13 i14 i15 : Int) (s16 s17 s18 s19 : ByteArray) (i20 i21 i22 i23 i24 : Int) (s25 : ByteArray) (i26 i27 i28 i29 : Int) (r30 : Abs.Rows) (i31 i32 : Int) (r33 : Abs.Rows) (i34 i35 : Int) (n36 : Nat) (i37 : Int) : Nat → Int → Int → Int → Option R
 | 0, _, _, _ => none
 | n + 1, i38, i39, i40 => Lp30_25_step m kx0 r0 r1 r2 r3 i4 r5 r6 r7 r8 s9 s10 s11 i12 i13 i14 i15 s16 s17 s18 s19 i20 i21 i22 i23 i24 s25 i26 i27 i28 i29 r30 i31 i32 r33 i34 i35 n36 i37 (Lp30_25 m kx0 r0 r1 r2 r3 i4 r5 r6 r7 r8 s9 s10 s11 i12 i13 i14 i15 s16 s17 s18 s19 i20 i21 i22 i23 i24 s25 i26 i27 i28 i29 r30 i31 i32 r33 i34 i35 n36 i37 n) i38 i39 i40
noncomputable def ELp30_25 (m : Nat) (R : Type) : Nat → List V → (Ex → List V → Option R) → Option R
 | 0, _, _ => none
 | n + 1, vs, k => match vs with
  | [.bor [.str, .lst [.str]] r0, .f (.lst [.str, .int .i64, .int .i64, .int .i64, .int .i64] r1), .bor [.str, .str, .str, .int .i64, .int .i64, .int .i64, .int .i64, .str] r2, .obj [.f (.lst [.str, .str, .int .i64, .int .i64, .int .i64, .int .i64] r3), .f (.lit (.int .i64 i4)), .f (.lst [.str] r5)], .own [.str, .int .i64, .int .i64, .int .i64] r6, .own [.int .i64] r7, .own [.int .i64] r8, .obj [.f (.lit (.string s9)), .f (.lit (.string s10)), .f (.lit (.string s11)), .f (.lit (.int .i64 i12)), .f (.lit (.int .i64 i13)), .f (.lit (.int .i64 i14)), .f (.lit (.int .i64 i15)), .f (.lit (.string s16))], .f (.lit (.string s17)), .obj [.f (.lit (.string s18)), .f (.lit (.string s19)), .f (.lit (.int .i64 i20)), .f (.lit (.int .i64 i21)), .f (.lit (.int .i64 i22)), .f (.lit (.int .i64 i23))], .f (.lit (.int .i64 i24)), .obj [.f (.lit (.string s25)), .f (.lit (.int .i64 i26)), .f (.lit (.int .i64 i27)), .f (.lit (.int .i64 i28)), .f (.lit (.int .i64 i29))], .f (.lit (.int .i64 i38)), .f (.lit (.int .i64 i39)), .bor [.str, .str, .str, .int .i64, .int .i64, .int .i64, .int .i64, .str] r30, .f (.lit (.int .i64 i31)), .f (.lit (.int .i64 i32)), .undef, .undef, .f (.lst [.str, .int .i64, .int .i64, .int .i64, .int .i64] r33), .f (.lit (.int .i64 i34)), .f (.lit (.int .i64 i35)), .lent { slot := (12 : Nat), leaf := none } 1 n36, .f (.lit (.int .i64 i37)), .f (.lit (.int .i64 i40)), .undef, .undef, .undef, .undef] => Lp30_25_step m (fun i61 i62 i63 => k (Ex.exit (4 : Nat)) (W106 r0 r1 r2 r3 i4 r5 r6 r7 r8 s9 s10 s11 i12 i13 i14 i15 s16 s17 s18 s19 i20 i21 i22 i23 i24 s25 i26 i27 i28 i29 i61 i62 r30 i31 i32 r33 i34 i35 n36 i37 i63)) r0 r1 r2 r3 i4 r5 r6 r7 r8 s9 s10 s11 i12 i13 i14 i15 s16 s17 s18 s19 i20 i21 i22 i23 i24 s25 i26 i27 i28 i29 r30 i31 i32 r33 i34 i35 n36 i37 (fun i38 i39 i40 => ELp30_25 m R n (W106 r0 r1 r2 r3 i4 r5 r6 r7 r8 s9 s10 s11 i12 i13 i14 i15 s16 s17 s18 s19 i20 i21 i22 i23 i24 s25 i26 i27 i28 i29 i38 i39 r30 i31 i32 r33 i34 i35 n36 i37 i40) k) i38 i39 i40
  | _ => none
noncomputable def brLp30_25 (m : Nat) (L : LTbl) (R : Type) (vs : List V) (k : Ex → List V → Option R) : Option R := match vs with
 | [.bor [.str, .lst [.str]] r0, .f (.lst [.str, .int .i64, .int .i64, .int .i64, .int .i64] r1), .bor [.str, .str, .str, .int .i64, .int .i64, .int .i64, .int .i64, .str] r2, .obj [.f (.lst [.str, .str, .int .i64, .int .i64, .int .i64, .int .i64] r3), .f (.lit (.int .i64 i4)), .f (.lst [.str] r5)], .own [.str, .int .i64, .int .i64, .int .i64] r6, .own [.int .i64] r7, .own [.int .i64] r8, .obj [.f (.lit (.string s9)), .f (.lit (.string s10)), .f (.lit (.string s11)), .f (.lit (.int .i64 i12)), .f (.lit (.int .i64 i13)), .f (.lit (.int .i64 i14)), .f (.lit (.int .i64 i15)), .f (.lit (.string s16))], .f (.lit (.string s17)), .obj [.f (.lit (.string s18)), .f (.lit (.string s19)), .f (.lit (.int .i64 i20)), .f (.lit (.int .i64 i21)), .f (.lit (.int .i64 i22)), .f (.lit (.int .i64 i23))], .f (.lit (.int .i64 i24)), .obj [.f (.lit (.string s25)), .f (.lit (.int .i64 i26)), .f (.lit (.int .i64 i27)), .f (.lit (.int .i64 i28)), .f (.lit (.int .i64 i29))], .f (.lit (.int .i64 i38)), .f (.lit (.int .i64 i39)), .bor [.str, .str, .str, .int .i64, .int .i64, .int .i64, .int .i64, .str] r30, .f (.lit (.int .i64 i31)), .f (.lit (.int .i64 i32)), .undef, .undef, .f (.lst [.str, .int .i64, .int .i64, .int .i64, .int .i64] r33), .f (.lit (.int .i64 i34)), .f (.lit (.int .i64 i35)), .lent { slot := (12 : Nat), leaf := none } 1 n36, .f (.lit (.int .i64 i37)), .f (.lit (.int .i64 i40)), .undef, .undef, .undef, .undef] => Lp30_25 m (fun i61 i62 i63 => k (Ex.exit (4 : Nat)) (W106 r0 r1 r2 r3 i4 r5 r6 r7 r8 s9 s10 s11 i12 i13 i14 i15 s16 s17 s18 s19 i20 i21 i22 i23 i24 s25 i26 i27 i28 i29 i61 i62 r30 i31 i32 r33 i34 i35 n36 i37 i63)) r0 r1 r2 r3 i4 r5 r6 r7 r8 s9 s10 s11 i12 i13 i14 i15 s16 s17 s18 s19 i20 i21 i22 i23 i24 s25 i26 i27 i28 i29 r30 i31 i32 r33 i34 i35 n36 i37 m i38 i39 i40
 | _ => L R 30 25 vs k

theorem stLp30_25 (m n : Nat) (R : Type) (r0 r1 r2 r3 : Abs.Rows) (i4 : Int) (r5 r6 r7 r8 : Abs.Rows) (s9 s10 s11 : ByteArray) (i12 i13 i14 i15 : Int) (s16 s17 s18 s19 : ByteArray) (i20 i21 i22 i23 i24 : Int) (s25 : ByteArray) (i26 i27 i28 i29 i38 i39 : Int) (r30 : Abs.Rows) (i31 i32 : Int) (r33 : Abs.Rows) (i34 i35 : Int) (n36 : Nat) (i37 i40 : Int) (k : Ex → List V → Option R) : codeK Tryz.prog H (T78 m) 30 (L62 m) 26 (loopBody Tryz.prog 30 25) (mkEnv [1, 2, 3, 4, 10, 11, 12, 14, 15, 16, 20, 21, 22, 23, 30, 31, 32, 63, 69, 70, 71, 72, 87, 88, 89, 169, 170, 171, 172] (W106 r0 r1 r2 r3 i4 r5 r6 r7 r8 s9 s10 s11 i12 i13 i14 i15 s16 s17 s18 s19 i20 i21 i22 i23 i24 s25 i26 i27 i28 i29 i38 i39 r30 i31 i32 r33 i34 i35 n36 i37 i40) 0 (H.len 30)) (fun e env' => match e with | .normal => ELp30_25 m R n (vals [1, 2, 3, 4, 10, 11, 12, 14, 15, 16, 20, 21, 22, 23, 30, 31, 32, 63, 69, 70, 71, 72, 87, 88, 89, 169, 170, 171, 172] env') k | e => k e (vals [1, 2, 3, 4, 10, 11, 12, 14, 15, 16, 20, 21, 22, 23, 30, 31, 32, 63, 69, 70, 71, 72, 87, 88, 89, 169, 170, 171, 172] env')) = Lp30_25_step m (fun i61 i62 i63 => k (Ex.exit (4 : Nat)) (W106 r0 r1 r2 r3 i4 r5 r6 r7 r8 s9 s10 s11 i12 i13 i14 i15 s16 s17 s18 s19 i20 i21 i22 i23 i24 s25 i26 i27 i28 i29 i61 i62 r30 i31 i32 r33 i34 i35 n36 i37 i63)) r0 r1 r2 r3 i4 r5 r6 r7 r8 s9 s10 s11 i12 i13 i14 i15 s16 s17 s18 s19 i20 i21 i22 i23 i24 s25 i26 i27 i28 i29 r30 i31 i32 r33 i34 i35 n36 i37 (fun i38 i39 i40 => ELp30_25 m R n (W106 r0 r1 r2 r3 i4 r5 r6 r7 r8 s9 s10 s11 i12 i13 i14 i15 s16 s17 s18 s19 i20 i21 i22 i23 i24 s25 i26 i27 i28 i29 i38 i39 r30 i31 i32 r33 i34 i35 n36 i37 i40) k) i38 i39 i40 := by kernel_rfl
theorem eqLp30_25 (m : Nat) (R : Type) (r0 r1 r2 r3 : Abs.Rows) (i4 : Int) (r5 r6 r7 r8 : Abs.Rows) (s9 s10 s11 : ByteArray) (i12 i13 i14 i15 : Int) (s16 s17 s18 s19 : ByteArray) (i20 i21 i22 i23 i24 : Int) (s25 : ByteArray) (i26 i27 i28 i29 : Int) (r30 : Abs.Rows) (i31 i32 : Int) (r33 : Abs.Rows) (i34 i35 : Int) (n36 : Nat) (i37 : Int) (k : Ex → List V → Option R) : ∀ (n : Nat) (i38 i39 i40 : Int), ELp30_25 m R n (W106 r0 r1 r2 r3 i4 r5 r6 r7 r8 s9 s10 s11 i12 i13 i14 i15 s16 s17 s18 s19 i20 i21 i22 i23 i24 s25 i26 i27 i28 i29 i38 i39 r30 i31 i32 r33 i34 i35 n36 i37 i40) k = Lp30_25 m (fun i61 i62 i63 => k (Ex.exit (4 : Nat)) (W106 r0 r1 r2 r3 i4 r5 r6 r7 r8 s9 s10 s11 i12 i13 i14 i15 s16 s17 s18 s19 i20 i21 i22 i23 i24 s25 i26 i27 i28 i29 i61 i62 r30 i31 i32 r33 i34 i35 n36 i37 i63)) r0 r1 r2 r3 i4 r5 r6 r7 r8 s9 s10 s11 i12 i13 i14 i15 s16 s17 s18 s19 i20 i21 i22 i23 i24 s25 i26 i27 i28 i29 r30 i31 i32 r33 i34 i35 n36 i37 n i38 i39 i40
 | 0, _, _, _ => rfl
 | n + 1, i38, i39, i40 => by
  simp only [ELp30_25, Lp30_25, W106]
  congr 1
  funext i38 i39 i40
  exact eqLp30_25 m R r0 r1 r2 r3 i4 r5 r6 r7 r8 s9 s10 s11 i12 i13 i14 i15 s16 s17 s18 s19 i20 i21 i22 i23 i24 s25 i26 i27 i28 i29 r30 i31 i32 r33 i34 i35 n36 i37 k n i38 i39 i40
noncomputable def L63 (m : Nat) : LTbl := addB 30 25 (brLp30_25 m (L62 m)) (L62 m)
theorem okL63 (m : Nat) : LTOk Tryz.prog H (L63 m) := addB_ok (okT78 m) hM (okL62 m) (l := [1, 2, 3, 4, 10, 11, 12, 14, 15, 16, 20, 21, 22, 23, 30, 31, 32, 63, 69, 70, 71, 72, 87, 88, 89, 169, 170, 171, 172]) (by kernel_rfl) (by kernel_rfl) m (fun R n vs k => ELp30_25 m R n vs k) (fun R vs k => rfl) (fun R n vs k x h => by
   simp only [ELp30_25] at h
   split at h
   ·exact (stLp30_25 m n R _ _ _ _ _ _ _ _ _ _ _ _ _ _ _ _ _ _ _ _ _ _ _ _ _ _ _ _ _ _ _ _ _ _ _ _ _ _ _ _ _ k).trans h
   ·cases h) fun R vs k x h => by
  unfold brLp30_25 at h
  split at h
  ·exact .inl ((eqLp30_25 m R _ _ _ _ _ _ _ _ _ _ _ _ _ _ _ _ _ _ _ _ _ _ _ _ _ _ _ _ _ _ _ _ _ _ _ _ _ _ k m _ _ _).trans h)
  ·exact .inr h

abbrev W107 (a0 a1 a2 a3 : Abs.Rows) (a4 : Int) (a5 a6 a7 a8 : Abs.Rows) (a9 a10 a11 : ByteArray) (a12 a13 a14 a15 : Int) (a16 a17 a18 a19 : ByteArray) (a20 a21 a22 a23 a24 : Int) (a25 : ByteArray) (a26 a27 a28 a29 : Int) (a30 : Abs.Rows) (a31 a32 : Int) (a33 : Abs.Rows) (a34 a35 : Int) (a36 : Bool) : List V := [.bor J7 a0, .f (.lst J5 a1), .bor J2 a2, .obj [.f (.lst J4 a3), .f (.lit (.int .i64 a4)), .f (.lst J3 a5)], .own J6 a6, .own J1 a7, .own J1 a8, .obj [.f (.lit (.string a9)), .f (.lit (.string a10)), .f (.lit (.string a11)), .f (.lit (.int .i64 a12)), .f (.lit (.int .i64 a13)), .f (.lit (.int .i64 a14)), .f (.lit (.int .i64 a15)), .f (.lit (.string a16))], .f (.lit (.string a17)), .obj [.f (.lit (.string a18)), .f (.lit (.string a19)), .f (.lit (.int .i64 a20)), .f (.lit (.int .i64 a21)), .f (.lit (.int .i64 a22)), .f (.lit (.int .i64 a23))], .f (.lit (.int .i64 a24)), .obj [.f (.lit (.string a25)), .f (.lit (.int .i64 a26)), .f (.lit (.int .i64 a27)), .f (.lit (.int .i64 a28)), .f (.lit (.int .i64 a29))], .bor J2 a30, .f (.lit (.int .i64 a31)), .f (.lit (.int .i64 a32)), .undef, .undef, .f (.lst J5 a33), .f (.lit (.int .i64 a34)), .f (.lit (.int .i64 a35)), .f (.lit (.bool a36)), .undef, .undef, .undef, .undef, .undef]
/-- - -/
noncomputable def Jn30_35 {R : Type} (m : Nat) (kx0 : Abs.Rows → Bool → Option R) (kx1 : Bool → Option R) (r0 r1 r2 r3 : Abs.Rows) (i4 : Int) (r5 r6 r7 r8 : Abs.Rows) (s9 s10 s11 : ByteArray) (i12 i13 i14 i15 : Int) (s16 s17 s18 s19 : ByteArray) (i20 i21 i22 i23 i24 : Int) (s25 : ByteArray) (i26 i27 i28 i29 : Int) (r30 : Abs.Rows) (i31 i32 : Int) (r33 : Abs.Rows) (i34 i35 : Int) (b36 : Bool) : Option R :=
 bif b36 then (bif decide (List.length r6 + List.length [[F.lit (Value.string s17), F.lit (Value.int IntKind.i64 i24), F.lit (Value.int IntKind.i64 (IntKind.wrap IntKind.i64 (i12 + (1 : Int)))), F.lit (Value.int IntKind.i64 (IntKind.wrap IntKind.i64 (IntKind.wrap IntKind.i64 (i12 + (1 : Int)) + i29)))]] ≤ rowMax) then (letV (r6 ++ [[F.lit (Value.string s17), F.lit (Value.int IntKind.i64 i24), F.lit (Value.int IntKind.i64 (IntKind.wrap IntKind.i64 (i12 + (1 : Int)))), F.lit (Value.int IntKind.i64 (IntKind.wrap IntKind.i64 (IntKind.wrap IntKind.i64 (i12 + (1 : Int)) + i29)))]]) (fun r37 => kx0 r37 true)) else
 (none)) else
 (kx1 false)
noncomputable def brJn30_35 (m : Nat) (L : LTbl) (R : Type) (vs : List V) (k : Ex → List V → Option R) : Option R := match vs with
 | [.bor [.str, .lst [.str]] r0, .f (.lst [.str, .int .i64, .int .i64, .int .i64, .int .i64] r1), .bor [.str, .str, .str, .int .i64, .int .i64, .int .i64, .int .i64, .str] r2, .obj [.f (.lst [.str, .str, .int .i64, .int .i64, .int .i64, .int .i64] r3), .f (.lit (.int .i64 i4)), .f (.lst [.str] r5)], .own [.str, .int .i64, .int .i64, .int .i64] r6, .own [.int .i64] r7, .own [.int .i64] r8, .obj [.f (.lit (.string s9)), .f (.lit (.string s10)), .f (.lit (.string s11)), .f (.lit (.int .i64 i12)), .f (.lit (.int .i64 i13)), .f (.lit (.int .i64 i14)), .f (.lit (.int .i64 i15)), .f (.lit (.string s16))], .f (.lit (.string s17)), .obj [.f (.lit (.string s18)), .f (.lit (.string s19)), .f (.lit (.int .i64 i20)), .f (.lit (.int .i64 i21)), .f (.lit (.int .i64 i22)), .f (.lit (.int .i64 i23))], .f (.lit (.int .i64 i24)), .obj [.f (.lit (.string s25)), .f (.lit (.int .i64 i26)), .f (.lit (.int .i64 i27)), .f (.lit (.int .i64 i28)), .f (.lit (.int .i64 i29))], .bor [.str, .str, .str, .int .i64, .int .i64, .int .i64, .int .i64, .str] r30, .f (.lit (.int .i64 i31)), .f (.lit (.int .i64 i32)), .undef, .undef, .f (.lst [.str, .int .i64, .int .i64, .int .i64, .int .i64] r33), .f (.lit (.int .i64 i34)), .f (.lit (.int .i64 i35)), .f (.lit (.bool b36)), .undef, .undef, .undef, .undef, .undef] => Jn30_35 m (fun r38 b39 => k (Ex.exit (2 : Nat)) (W107 r0 r1 r2 r3 i4 r5 r38 r7 r8 s9 s10 s11 i12 i13 i14 i15 s16 s17 s18 s19 i20 i21 i22 i23 i24 s25 i26 i27 i28 i29 r30 i31 i32 r33 i34 i35 b39)) (fun b40 => k Ex.normal (W107 r0 r1 r2 r3 i4 r5 r6 r7 r8 s9 s10 s11 i12 i13 i14 i15 s16 s17 s18 s19 i20 i21 i22 i23 i24 s25 i26 i27 i28 i29 r30 i31 i32 r33 i34 i35 b40)) r0 r1 r2 r3 i4 r5 r6 r7 r8 s9 s10 s11 i12 i13 i14 i15 s16 s17 s18 s19 i20 i21 i22 i23 i24 s25 i26 i27 i28 i29 r30 i31 i32 r33 i34 i35 b36
 | _ => L R 30 35 vs k

theorem evJn30_35 (m : Nat) (R : Type) (r0 r1 r2 r3 : Abs.Rows) (i4 : Int) (r5 r6 r7 r8 : Abs.Rows) (s9 s10 s11 : ByteArray) (i12 i13 i14 i15 : Int) (s16 s17 s18 s19 : ByteArray) (i20 i21 i22 i23 i24 : Int) (s25 : ByteArray) (i26 i27 i28 i29 : Int) (r30 : Abs.Rows) (i31 i32 : Int) (r33 : Abs.Rows) (i34 i35 : Int) (b36 : Bool) (k : Ex → List V → Option R) : codeK Tryz.prog H (T78 m) 30 (L63 m) 36 (loopBody Tryz.prog 30 35) (mkEnv [1, 2, 3, 4, 10, 11, 12, 14, 15, 16, 20, 21, 30, 31, 32, 63, 69, 70, 71, 72, 149, 164, 169, 170, 171, 172] (W107 r0 r1 r2 r3 i4 r5 r6 r7 r8 s9 s10 s11 i12 i13 i14 i15 s16 s17 s18 s19 i20 i21 i22 i23 i24 s25 i26 i27 i28 i29 r30 i31 i32 r33 i34 i35 b36) 0 (H.len 30)) (fun e env' => k e (vals [1, 2, 3, 4, 10, 11, 12, 14, 15, 16, 20, 21, 30, 31, 32, 63, 69, 70, 71, 72, 149, 164, 169, 170, 171, 172] env')) = Jn30_35 m (fun r38 b39 => k (Ex.exit (2 : Nat)) (W107 r0 r1 r2 r3 i4 r5 r38 r7 r8 s9 s10 s11 i12 i13 i14 i15 s16 s17 s18 s19 i20 i21 i22 i23 i24 s25 i26 i27 i28 i29 r30 i31 i32 r33 i34 i35 b39)) (fun b40 => k Ex.normal (W107 r0 r1 r2 r3 i4 r5 r6 r7 r8 s9 s10 s11 i12 i13 i14 i15 s16 s17 s18 s19 i20 i21 i22 i23 i24 s25 i26 i27 i28 i29 r30 i31 i32 r33 i34 i35 b40)) r0 r1 r2 r3 i4 r5 r6 r7 r8 s9 s10 s11 i12 i13 i14 i15 s16 s17 s18 s19 i20 i21 i22 i23 i24 s25 i26 i27 i28 i29 r30 i31 i32 r33 i34 i35 b36 := by kernel_rfl
noncomputable def L64 (m : Nat) : LTbl := addJ 30 35 (brJn30_35 m (L63 m)) (L63 m)
theorem okL64 (m : Nat) : LTOk Tryz.prog H (L64 m) := addJ_ok (okT78 m) hM (okL63 m) (l := [1, 2, 3, 4, 10, 11, 12, 14, 15, 16, 20, 21, 30, 31, 32, 63, 69, 70, 71, 72, 149, 164, 169, 170, 171, 172]) (by kernel_rfl) (by kernel_rfl) fun R vs k x h => by
  unfold brJn30_35 at h
  split at h
  ·exact .inl ((evJn30_35 m R _ _ _ _ _ _ _ _ _ _ _ _ _ _ _ _ _ _ _ _ _ _ _ _ _ _ _ _ _ _ _ _ _ _ _ _ _ k).trans h)
  ·exact .inr h

abbrev W108 (a0 a1 a2 a3 : Abs.Rows) (a4 : Int) (a5 a6 a7 a8 : Abs.Rows) (a9 a10 a11 : ByteArray) (a12 a13 a14 a15 : Int) (a16 a17 a18 a19 : ByteArray) (a20 a21 a22 a23 a24 : Int) (a25 : ByteArray) (a26 a27 a28 a29 : Int) (a30 : Abs.Rows) (a31 a32 : Int) (a33 : Abs.Rows) (a34 a35 : Int) : List V := [.bor J7 a0, .f (.lst J5 a1), .bor J2 a2, .obj [.f (.lst J4 a3), .f (.lit (.int .i64 a4)), .f (.lst J3 a5)], .own J6 a6, .own J1 a7, .own J1 a8, .obj [.f (.lit (.string a9)), .f (.lit (.string a10)), .f (.lit (.string a11)), .f (.lit (.int .i64 a12)), .f (.lit (.int .i64 a13)), .f (.lit (.int .i64 a14)), .f (.lit (.int .i64 a15)), .f (.lit (.string a16))], .f (.lit (.string a17)), .obj [.f (.lit (.string a18)), .f (.lit (.string a19)), .f (.lit (.int .i64 a20)), .f (.lit (.int .i64 a21)), .f (.lit (.int .i64 a22)), .f (.lit (.int .i64 a23))], .f (.lit (.int .i64 a24)), .obj [.f (.lit (.string a25)), .f (.lit (.int .i64 a26)), .f (.lit (.int .i64 a27)), .f (.lit (.int .i64 a28)), .f (.lit (.int .i64 a29))], .bor J2 a30, .f (.lit (.int .i64 a31)), .f (.lit (.int .i64 a32)), .undef, .undef, .f (.lst J5 a33), .f (.lit (.int .i64 a34)), .f (.lit (.int .i64 a35)), .undef, .undef, .undef, .undef, .undef]
/-- - -/
noncomputable def Jn30_22 {R : Type} (m : Nat) (kx0 : Abs.Rows → Option R) (kx1 : Option R) (r0 r1 r2 r3 : Abs.Rows) (i4 : Int) (r5 r6 r7 r8 : Abs.Rows) (s9 s10 s11 : ByteArray) (i12 i13 i14 i15 : Int) (s16 s17 s18 s19 : ByteArray) (i20 i21 i22 i23 i24 : Int) (s25 : ByteArray) (i26 i27 i28 i29 : Int) (r30 : Abs.Rows) (i31 i32 : Int) (r33 : Abs.Rows) (i34 i35 : Int) : Option R :=
 Lp30_25 m (fun i36 i37 i38 => bif decide (i36 > i27) then (Jn30_35 m (fun r39 b40 => kx0 r39) (fun b41 => kx1 ) r0 r1 r2 r3 i4 r5 r6 r7 r8 s9 s10 s11 i12 i13 i14 i15 s16 s17 s18 s19 i20 i21 i22 i23 i24 s25 i26 i27 i28 i29 r30 i31 i32 r33 i34 i35 true) else
 (Jn30_35 m (fun r42 b43 => kx0 r42) (fun b44 => kx1 ) r0 r1 r2 r3 i4 r5 r6 r7 r8 s9 s10 s11 i12 i13 i14 i15 s16 s17 s18 s19 i20 i21 i22 i23 i24 s25 i26 i27 i28 i29 r30 i31 i32 r33 i34 i35 (decide (i37 > IntKind.wrap IntKind.i64 ((1000 : Int) * i28))))) r0 r1 r2 r3 i4 r5 r6 r7 r8 s9 s10 s11 i12 i13 i14 i15 s16 s17 s18 s19 i20 i21 i22 i23 i24 s25 i26 i27 i28 i29 r30 i31 i32 r33 i34 i35 (List.length r8) ((↑(List.length r8) : Int)) m ((0 : Int)) ((0 : Int)) ((0 : Int))
noncomputable def brJn30_22 (m : Nat) (L : LTbl) (R : Type) (vs : List V) (k : Ex → List V → Option R) : Option R := match vs with
 | [.bor [.str, .lst [.str]] r0, .f (.lst [.str, .int .i64, .int .i64, .int .i64, .int .i64] r1), .bor [.str, .str, .str, .int .i64, .int .i64, .int .i64, .int .i64, .str] r2, .obj [.f (.lst [.str, .str, .int .i64, .int .i64, .int .i64, .int .i64] r3), .f (.lit (.int .i64 i4)), .f (.lst [.str] r5)], .own [.str, .int .i64, .int .i64, .int .i64] r6, .own [.int .i64] r7, .own [.int .i64] r8, .obj [.f (.lit (.string s9)), .f (.lit (.string s10)), .f (.lit (.string s11)), .f (.lit (.int .i64 i12)), .f (.lit (.int .i64 i13)), .f (.lit (.int .i64 i14)), .f (.lit (.int .i64 i15)), .f (.lit (.string s16))], .f (.lit (.string s17)), .obj [.f (.lit (.string s18)), .f (.lit (.string s19)), .f (.lit (.int .i64 i20)), .f (.lit (.int .i64 i21)), .f (.lit (.int .i64 i22)), .f (.lit (.int .i64 i23))], .f (.lit (.int .i64 i24)), .obj [.f (.lit (.string s25)), .f (.lit (.int .i64 i26)), .f (.lit (.int .i64 i27)), .f (.lit (.int .i64 i28)), .f (.lit (.int .i64 i29))], .bor [.str, .str, .str, .int .i64, .int .i64, .int .i64, .int .i64, .str] r30, .f (.lit (.int .i64 i31)), .f (.lit (.int .i64 i32)), .undef, .undef, .f (.lst [.str, .int .i64, .int .i64, .int .i64, .int .i64] r33), .f (.lit (.int .i64 i34)), .f (.lit (.int .i64 i35)), .undef, .undef, .undef, .undef, .undef] => Jn30_22 m (fun r45 => k (Ex.exit (2 : Nat)) (W108 r0 r1 r2 r3 i4 r5 r45 r7 r8 s9 s10 s11 i12 i13 i14 i15 s16 s17 s18 s19 i20 i21 i22 i23 i24 s25 i26 i27 i28 i29 r30 i31 i32 r33 i34 i35)) (k Ex.normal (W108 r0 r1 r2 r3 i4 r5 r6 r7 r8 s9 s10 s11 i12 i13 i14 i15 s16 s17 s18 s19 i20 i21 i22 i23 i24 s25 i26 i27 i28 i29 r30 i31 i32 r33 i34 i35)) r0 r1 r2 r3 i4 r5 r6 r7 r8 s9 s10 s11 i12 i13 i14 i15 s16 s17 s18 s19 i20 i21 i22 i23 i24 s25 i26 i27 i28 i29 r30 i31 i32 r33 i34 i35
 | _ => L R 30 22 vs k

theorem evJn30_22 (m : Nat) (R : Type) (r0 r1 r2 r3 : Abs.Rows) (i4 : Int) (r5 r6 r7 r8 : Abs.Rows) (s9 s10 s11 : ByteArray) (i12 i13 i14 i15 : Int) (s16 s17 s18 s19 : ByteArray) (i20 i21 i22 i23 i24 : Int) (s25 : ByteArray) (i26 i27 i28 i29 : Int) (r30 : Abs.Rows) (i31 i32 : Int) (r33 : Abs.Rows) (i34 i35 : Int) (k : Ex → List V → Option R) : codeK Tryz.prog H (T78 m) 30 (L64 m) 23 (loopBody Tryz.prog 30 22) (mkEnv [1, 2, 3, 4, 10, 11, 12, 14, 15, 16, 20, 21, 30, 31, 32, 63, 69, 70, 71, 72, 164, 169, 170, 171, 172] (W108 r0 r1 r2 r3 i4 r5 r6 r7 r8 s9 s10 s11 i12 i13 i14 i15 s16 s17 s18 s19 i20 i21 i22 i23 i24 s25 i26 i27 i28 i29 r30 i31 i32 r33 i34 i35) 0 (H.len 30)) (fun e env' => k e (vals [1, 2, 3, 4, 10, 11, 12, 14, 15, 16, 20, 21, 30, 31, 32, 63, 69, 70, 71, 72, 164, 169, 170, 171, 172] env')) = Jn30_22 m (fun r45 => k (Ex.exit (2 : Nat)) (W108 r0 r1 r2 r3 i4 r5 r45 r7 r8 s9 s10 s11 i12 i13 i14 i15 s16 s17 s18 s19 i20 i21 i22 i23 i24 s25 i26 i27 i28 i29 r30 i31 i32 r33 i34 i35)) (k Ex.normal (W108 r0 r1 r2 r3 i4 r5 r6 r7 r8 s9 s10 s11 i12 i13 i14 i15 s16 s17 s18 s19 i20 i21 i22 i23 i24 s25 i26 i27 i28 i29 r30 i31 i32 r33 i34 i35)) r0 r1 r2 r3 i4 r5 r6 r7 r8 s9 s10 s11 i12 i13 i14 i15 s16 s17 s18 s19 i20 i21 i22 i23 i24 s25 i26 i27 i28 i29 r30 i31 i32 r33 i34 i35 := by kernel_rfl
noncomputable def L65 (m : Nat) : LTbl := addJ 30 22 (brJn30_22 m (L64 m)) (L64 m)
theorem okL65 (m : Nat) : LTOk Tryz.prog H (L65 m) := addJ_ok (okT78 m) hM (okL64 m) (l := [1, 2, 3, 4, 10, 11, 12, 14, 15, 16, 20, 21, 30, 31, 32, 63, 69, 70, 71, 72, 164, 169, 170, 171, 172]) (by kernel_rfl) (by kernel_rfl) fun R vs k x h => by
  unfold brJn30_22 at h
  split at h
  ·exact .inl ((evJn30_22 m R _ _ _ _ _ _ _ _ _ _ _ _ _ _ _ _ _ _ _ _ _ _ _ _ _ _ _ _ _ _ _ _ _ _ _ _ k).trans h)
  ·exact .inr h

abbrev W109 (a0 a1 a2 a3 : Abs.Rows) (a4 : Int) (a5 a6 a7 a8 : Abs.Rows) (a9 a10 a11 : ByteArray) (a12 a13 a14 a15 : Int) (a16 a17 a18 a19 : ByteArray) (a20 a21 a22 a23 : Int) (a24 : Abs.Rows) (a25 a26 : Int) (a27 : Abs.Rows) (a28 a29 : Int) : List V := [.bor J7 a0, .f (.lst J5 a1), .bor J2 a2, .obj [.f (.lst J4 a3), .f (.lit (.int .i64 a4)), .f (.lst J3 a5)], .own J6 a6, .own J1 a7, .own J1 a8, .obj [.f (.lit (.string a9)), .f (.lit (.string a10)), .f (.lit (.string a11)), .f (.lit (.int .i64 a12)), .f (.lit (.int .i64 a13)), .f (.lit (.int .i64 a14)), .f (.lit (.int .i64 a15)), .f (.lit (.string a16))], .f (.lit (.string a17)), .obj [.f (.lit (.string a18)), .f (.lit (.string a19)), .f (.lit (.int .i64 a20)), .f (.lit (.int .i64 a21)), .f (.lit (.int .i64 a22)), .f (.lit (.int .i64 a23))], .bor J2 a24, .f (.lit (.int .i64 a25)), .f (.lit (.int .i64 a26)), .undef, .undef, .f (.lst J5 a27), .f (.lit (.int .i64 a28)), .f (.lit (.int .i64 a29)), .undef, .undef, .undef, .undef]
/-- - -/
noncomputable def Lp30_17_step {R : Type} (m : Nat) (kx0 : Abs.Rows → Int → Option R) (r0 r1 r2 r3 : Abs.Rows) (i4 : Int) (r5 r6 r7 r8 : Abs.Rows) (s9 s10 s11 : ByteArray) (i12 i13 i14 i15 : Int) (s16 s17 s18 s19 : ByteArray) (i20 i21 i22 i23 : Int) (r24 : Abs.Rows) (i25 i26 : Int) (r27 : Abs.Rows) (i28 : Int) (REC : Int → Option R) (i29 : Int) : Option R :=
 bif decide (i29 < i28) then (bif decide ((0 : Int) ≤ i29 ∧ i29 < (↑(List.length r27) : Int)) then (bif !ByteArray.toList (fS r27 (Int.toNat i29) (0 : Nat)) == ByteArray.toList { data := #[] } then (bif !ByteArray.toList (fS r27 (Int.toNat i29) (0 : Nat)) == ByteArray.toList s19 then (REC (IntKind.wrap IntKind.i64 (i29 + (1 : Int)))) else
 (Jn30_22 m (fun r30 => kx0 r30 i29) (REC (IntKind.wrap IntKind.i64 (i29 + (1 : Int)))) r0 r1 r2 r3 i4 r5 r6 r7 r8 s9 s10 s11 i12 i13 i14 i15 s16 s17 s18 s19 i20 i21 i22 i23 i29 (fS r27 (Int.toNat i29) (0 : Nat)) (fI r27 (Int.toNat i29) (1 : Nat)) (fI r27 (Int.toNat i29) (2 : Nat)) (fI r27 (Int.toNat i29) (3 : Nat)) (fI r27 (Int.toNat i29) (4 : Nat)) r24 i25 i26 r27 i28 i29)) else
 (Jn30_22 m (fun r31 => kx0 r31 i29) (REC (IntKind.wrap IntKind.i64 (i29 + (1 : Int)))) r0 r1 r2 r3 i4 r5 r6 r7 r8 s9 s10 s11 i12 i13 i14 i15 s16 s17 s18 s19 i20 i21 i22 i23 i29 (fS r27 (Int.toNat i29) (0 : Nat)) (fI r27 (Int.toNat i29) (1 : Nat)) (fI r27 (Int.toNat i29) (2 : Nat)) (fI r27 (Int.toNat i29) (3 : Nat)) (fI r27 (Int.toNat i29) (4 : Nat)) r24 i25 i26 r27 i28 i29)) else
 (none)) else
 (kx0 r6 i29)
noncomputable def Lp30_17 {R : Type} (m : Nat) (kx0 : Abs.Rows → Int → Option R) (r0 r1 r2 r3 : Abs.Rows) (i4 : Int) (r5 r6 r7 r8 : Abs.Rows) (s9 s10 s11 : ByteArray) (i12 i13 i14 i15 : Int) (s16 s17 s18 s19 : ByteArray) (i20 i21 i22 i23 : Int) (r24 : Abs.Rows) (i25 i26 : Int) (r27 : Abs.Rows) (i28 : Int) : Nat → Int → Option R
 | 0, _ => none
 | n + 1, i29 => Lp30_17_step m kx0 r0 r1 r2 r3 i4 r5 r6 r7 r8 s9 s10 s11 i12 i13 i14 i15 s16 s17 s18 s19 i20 i21 i22 i23 r24 i25 i26 r27 i28 (Lp30_17 m kx0 r0 r1 r2 r3 i4 r5 r6 r7 r8 s9 s10 s11 i12 i13 i14 i15 s16 s17 s18 s19 i20 i21 i22 i23 r24 i25 i26 r27 i28 n) i29
noncomputable def ELp30_17 (m : Nat) (R : Type) : Nat → List V → (Ex → List V → Option R) → Option R
 | 0, _, _ => none
 | n + 1, vs, k => match vs with
  | [.bor [.str, .lst [.str]] r0, .f (.lst [.str, .int .i64, .int .i64, .int .i64, .int .i64] r1), .bor [.str, .str, .str, .int .i64, .int .i64, .int .i64, .int .i64, .str] r2, .obj [.f (.lst [.str, .str, .int .i64, .int .i64, .int .i64, .int .i64] r3), .f (.lit (.int .i64 i4)), .f (.lst [.str] r5)], .own [.str, .int .i64, .int .i64, .int .i64] r6, .own [.int .i64] r7, .own [.int .i64] r8, .obj [.f (.lit (.string s9)), .f (.lit (.string s10)), .f (.lit (.string s11)), .f (.lit (.int .i64 i12)), .f (.lit (.int .i64 i13)), .f (.lit (.int .i64 i14)), .f (.lit (.int .i64 i15)), .f (.lit (.string s16))], .f (.lit (.string s17)), .obj [.f (.lit (.string s18)), .f (.lit (.string s19)), .f (.lit (.int .i64 i20)), .f (.lit (.int .i64 i21)), .f (.lit (.int .i64 i22)), .f (.lit (.int .i64 i23))], .bor [.str, .str, .str, .int .i64, .int .i64, .int .i64, .int .i64, .str] r24, .f (.lit (.int .i64 i25)), .f (.lit (.int .i64 i26)), .undef, .undef, .f (.lst [.str, .int .i64, .int .i64, .int .i64, .int .i64] r27), .f (.lit (.int .i64 i28)), .f (.lit (.int .i64 i29)), .undef, .undef, .undef, .undef] => Lp30_17_step m (fun r32 i33 => k (Ex.exit (2 : Nat)) (W109 r0 r1 r2 r3 i4 r5 r32 r7 r8 s9 s10 s11 i12 i13 i14 i15 s16 s17 s18 s19 i20 i21 i22 i23 r24 i25 i26 r27 i28 i33)) r0 r1 r2 r3 i4 r5 r6 r7 r8 s9 s10 s11 i12 i13 i14 i15 s16 s17 s18 s19 i20 i21 i22 i23 r24 i25 i26 r27 i28 (fun i29 => ELp30_17 m R n (W109 r0 r1 r2 r3 i4 r5 r6 r7 r8 s9 s10 s11 i12 i13 i14 i15 s16 s17 s18 s19 i20 i21 i22 i23 r24 i25 i26 r27 i28 i29) k) i29
  | _ => none
noncomputable def brLp30_17 (m : Nat) (L : LTbl) (R : Type) (vs : List V) (k : Ex → List V → Option R) : Option R := match vs with
 | [.bor [.str, .lst [.str]] r0, .f (.lst [.str, .int .i64, .int .i64, .int .i64, .int .i64] r1), .bor [.str, .str, .str, .int .i64, .int .i64, .int .i64, .int .i64, .str] r2, .obj [.f (.lst [.str, .str, .int .i64, .int .i64, .int .i64, .int .i64] r3), .f (.lit (.int .i64 i4)), .f (.lst [.str] r5)], .own [.str, .int .i64, .int .i64, .int .i64] r6, .own [.int .i64] r7, .own [.int .i64] r8, .obj [.f (.lit (.string s9)), .f (.lit (.string s10)), .f (.lit (.string s11)), .f (.lit (.int .i64 i12)), .f (.lit (.int .i64 i13)), .f (.lit (.int .i64 i14)), .f (.lit (.int .i64 i15)), .f (.lit (.string s16))], .f (.lit (.string s17)), .obj [.f (.lit (.string s18)), .f (.lit (.string s19)), .f (.lit (.int .i64 i20)), .f (.lit (.int .i64 i21)), .f (.lit (.int .i64 i22)), .f (.lit (.int .i64 i23))], .bor [.str, .str, .str, .int .i64, .int .i64, .int .i64, .int .i64, .str] r24, .f (.lit (.int .i64 i25)), .f (.lit (.int .i64 i26)), .undef, .undef, .f (.lst [.str, .int .i64, .int .i64, .int .i64, .int .i64] r27), .f (.lit (.int .i64 i28)), .f (.lit (.int .i64 i29)), .undef, .undef, .undef, .undef] => Lp30_17 m (fun r32 i33 => k (Ex.exit (2 : Nat)) (W109 r0 r1 r2 r3 i4 r5 r32 r7 r8 s9 s10 s11 i12 i13 i14 i15 s16 s17 s18 s19 i20 i21 i22 i23 r24 i25 i26 r27 i28 i33)) r0 r1 r2 r3 i4 r5 r6 r7 r8 s9 s10 s11 i12 i13 i14 i15 s16 s17 s18 s19 i20 i21 i22 i23 r24 i25 i26 r27 i28 m i29
 | _ => L R 30 17 vs k

theorem stLp30_17 (m n : Nat) (R : Type) (r0 r1 r2 r3 : Abs.Rows) (i4 : Int) (r5 r6 r7 r8 : Abs.Rows) (s9 s10 s11 : ByteArray) (i12 i13 i14 i15 : Int) (s16 s17 s18 s19 : ByteArray) (i20 i21 i22 i23 : Int) (r24 : Abs.Rows) (i25 i26 : Int) (r27 : Abs.Rows) (i28 i29 : Int) (k : Ex → List V → Option R) : codeK Tryz.prog H (T78 m) 30 (L65 m) 18 (loopBody Tryz.prog 30 17) (mkEnv [1, 2, 3, 4, 10, 11, 12, 14, 15, 16, 30, 31, 32, 63, 69, 70, 71, 72, 169, 170, 171, 172] (W109 r0 r1 r2 r3 i4 r5 r6 r7 r8 s9 s10 s11 i12 i13 i14 i15 s16 s17 s18 s19 i20 i21 i22 i23 r24 i25 i26 r27 i28 i29) 0 (H.len 30)) (fun e env' => match e with | .normal => ELp30_17 m R n (vals [1, 2, 3, 4, 10, 11, 12, 14, 15, 16, 30, 31, 32, 63, 69, 70, 71, 72, 169, 170, 171, 172] env') k | e => k e (vals [1, 2, 3, 4, 10, 11, 12, 14, 15, 16, 30, 31, 32, 63, 69, 70, 71, 72, 169, 170, 171, 172] env')) = Lp30_17_step m (fun r32 i33 => k (Ex.exit (2 : Nat)) (W109 r0 r1 r2 r3 i4 r5 r32 r7 r8 s9 s10 s11 i12 i13 i14 i15 s16 s17 s18 s19 i20 i21 i22 i23 r24 i25 i26 r27 i28 i33)) r0 r1 r2 r3 i4 r5 r6 r7 r8 s9 s10 s11 i12 i13 i14 i15 s16 s17 s18 s19 i20 i21 i22 i23 r24 i25 i26 r27 i28 (fun i29 => ELp30_17 m R n (W109 r0 r1 r2 r3 i4 r5 r6 r7 r8 s9 s10 s11 i12 i13 i14 i15 s16 s17 s18 s19 i20 i21 i22 i23 r24 i25 i26 r27 i28 i29) k) i29 := by kernel_rfl
theorem eqLp30_17 (m : Nat) (R : Type) (r0 r1 r2 r3 : Abs.Rows) (i4 : Int) (r5 r6 r7 r8 : Abs.Rows) (s9 s10 s11 : ByteArray) (i12 i13 i14 i15 : Int) (s16 s17 s18 s19 : ByteArray) (i20 i21 i22 i23 : Int) (r24 : Abs.Rows) (i25 i26 : Int) (r27 : Abs.Rows) (i28 : Int) (k : Ex → List V → Option R) : ∀ (n : Nat) (i29 : Int), ELp30_17 m R n (W109 r0 r1 r2 r3 i4 r5 r6 r7 r8 s9 s10 s11 i12 i13 i14 i15 s16 s17 s18 s19 i20 i21 i22 i23 r24 i25 i26 r27 i28 i29) k = Lp30_17 m (fun r32 i33 => k (Ex.exit (2 : Nat)) (W109 r0 r1 r2 r3 i4 r5 r32 r7 r8 s9 s10 s11 i12 i13 i14 i15 s16 s17 s18 s19 i20 i21 i22 i23 r24 i25 i26 r27 i28 i33)) r0 r1 r2 r3 i4 r5 r6 r7 r8 s9 s10 s11 i12 i13 i14 i15 s16 s17 s18 s19 i20 i21 i22 i23 r24 i25 i26 r27 i28 n i29
 | 0, _ => rfl
 | n + 1, i29 => by
  simp only [ELp30_17, Lp30_17, W109]
  congr 1
  funext i29
  exact eqLp30_17 m R r0 r1 r2 r3 i4 r5 r6 r7 r8 s9 s10 s11 i12 i13 i14 i15 s16 s17 s18 s19 i20 i21 i22 i23 r24 i25 i26 r27 i28 k n i29
noncomputable def L66 (m : Nat) : LTbl := addB 30 17 (brLp30_17 m (L65 m)) (L65 m)
theorem okL66 (m : Nat) : LTOk Tryz.prog H (L66 m) := addB_ok (okT78 m) hM (okL65 m) (l := [1, 2, 3, 4, 10, 11, 12, 14, 15, 16, 30, 31, 32, 63, 69, 70, 71, 72, 169, 170, 171, 172]) (by kernel_rfl) (by kernel_rfl) m (fun R n vs k => ELp30_17 m R n vs k) (fun R vs k => rfl) (fun R n vs k x h => by
   simp only [ELp30_17] at h
   split at h
   ·exact (stLp30_17 m n R _ _ _ _ _ _ _ _ _ _ _ _ _ _ _ _ _ _ _ _ _ _ _ _ _ _ _ _ _ _ k).trans h
   ·cases h) fun R vs k x h => by
  unfold brLp30_17 at h
  split at h
  ·exact .inl ((eqLp30_17 m R _ _ _ _ _ _ _ _ _ _ _ _ _ _ _ _ _ _ _ _ _ _ _ _ _ _ _ _ _ k m _).trans h)
  ·exact .inr h

abbrev W110 (a0 a1 a2 a3 : Abs.Rows) (a4 : Int) (a5 a6 a7 a8 : Abs.Rows) (a9 : Int) (a10 a11 a12 : ByteArray) (a13 a14 a15 a16 : Int) (a17 a18 a19 a20 : ByteArray) (a21 a22 a23 a24 : Int) (a25 : Bool) (a26 : Abs.Rows) (a27 a28 : Int) : List V := [.bor J7 a0, .f (.lst J5 a1), .bor J2 a2, .obj [.f (.lst J4 a3), .f (.lit (.int .i64 a4)), .f (.lst J3 a5)], .own J6 a6, .own J1 a7, .own J1 a8, .f (.lit (.int .i64 a9)), .obj [.f (.lit (.string a10)), .f (.lit (.string a11)), .f (.lit (.string a12)), .f (.lit (.int .i64 a13)), .f (.lit (.int .i64 a14)), .f (.lit (.int .i64 a15)), .f (.lit (.int .i64 a16)), .f (.lit (.string a17))], .f (.lit (.string a18)), .obj [.f (.lit (.string a19)), .f (.lit (.string a20)), .f (.lit (.int .i64 a21)), .f (.lit (.int .i64 a22)), .f (.lit (.int .i64 a23)), .f (.lit (.int .i64 a24))], .f (.lit (.bool a25)), .bor J2 a26, .f (.lit (.int .i64 a27)), .f (.lit (.int .i64 a28)), .undef, .undef, .undef, .undef, .undef, .undef, .undef]
abbrev W111 (a0 a1 a2 a3 : Abs.Rows) (a4 : Int) (a5 a6 a7 a8 : Abs.Rows) (a9 a10 a11 : ByteArray) (a12 a13 a14 a15 : Int) (a16 a17 a18 a19 : ByteArray) (a20 a21 a22 a23 : Int) (a24 : Abs.Rows) (a25 a26 : Int) : List V := [.bor J7 a0, .f (.lst J5 a1), .bor J2 a2, .obj [.f (.lst J4 a3), .f (.lit (.int .i64 a4)), .f (.lst J3 a5)], .own J6 a6, .own J1 a7, .own J1 a8, .undef, .obj [.f (.lit (.string a9)), .f (.lit (.string a10)), .f (.lit (.string a11)), .f (.lit (.int .i64 a12)), .f (.lit (.int .i64 a13)), .f (.lit (.int .i64 a14)), .f (.lit (.int .i64 a15)), .f (.lit (.string a16))], .f (.lit (.string a17)), .obj [.f (.lit (.string a18)), .f (.lit (.string a19)), .f (.lit (.int .i64 a20)), .f (.lit (.int .i64 a21)), .f (.lit (.int .i64 a22)), .f (.lit (.int .i64 a23))], .undef, .bor J2 a24, .f (.lit (.int .i64 a25)), .f (.lit (.int .i64 a26)), .undef, .undef, .undef, .undef, .undef, .undef, .undef]
/-- - -/
noncomputable def Jn30_12 {R : Type} (m : Nat) (kx0 : Option R) (kx1 : Abs.Rows → Abs.Rows → Option R) (r0 r1 r2 r3 : Abs.Rows) (i4 : Int) (r5 r6 r7 r8 : Abs.Rows) (i9 : Int) (s10 s11 s12 : ByteArray) (i13 i14 i15 i16 : Int) (s17 s18 s19 s20 : ByteArray) (i21 i22 i23 i24 : Int) (b25 : Bool) (r26 : Abs.Rows) (i27 i28 : Int) : Option R :=
 bif !b25 then (kx0 ) else
 (bif decide (List.length r8 + List.length [[F.lit (Value.int IntKind.i64 i9)]] ≤ rowMax) then (letV (r8 ++ [[F.lit (Value.int IntKind.i64 i9)]]) (fun r29 => Lp30_17 m (fun r30 i31 => kx1 r30 r29) r0 r1 r2 r3 i4 r5 r6 r7 r29 s10 s11 s12 i13 i14 i15 i16 s17 s18 s19 s20 i21 i22 i23 i24 r26 i27 i28 r1 ((↑(List.length r1) : Int)) m ((0 : Int)))) else
 (none))
noncomputable def brJn30_12 (m : Nat) (L : LTbl) (R : Type) (vs : List V) (k : Ex → List V → Option R) : Option R := match vs with
 | [.bor [.str, .lst [.str]] r0, .f (.lst [.str, .int .i64, .int .i64, .int .i64, .int .i64] r1), .bor [.str, .str, .str, .int .i64, .int .i64, .int .i64, .int .i64, .str] r2, .obj [.f (.lst [.str, .str, .int .i64, .int .i64, .int .i64, .int .i64] r3), .f (.lit (.int .i64 i4)), .f (.lst [.str] r5)], .own [.str, .int .i64, .int .i64, .int .i64] r6, .own [.int .i64] r7, .own [.int .i64] r8, .f (.lit (.int .i64 i9)), .obj [.f (.lit (.string s10)), .f (.lit (.string s11)), .f (.lit (.string s12)), .f (.lit (.int .i64 i13)), .f (.lit (.int .i64 i14)), .f (.lit (.int .i64 i15)), .f (.lit (.int .i64 i16)), .f (.lit (.string s17))], .f (.lit (.string s18)), .obj [.f (.lit (.string s19)), .f (.lit (.string s20)), .f (.lit (.int .i64 i21)), .f (.lit (.int .i64 i22)), .f (.lit (.int .i64 i23)), .f (.lit (.int .i64 i24))], .f (.lit (.bool b25)), .bor [.str, .str, .str, .int .i64, .int .i64, .int .i64, .int .i64, .str] r26, .f (.lit (.int .i64 i27)), .f (.lit (.int .i64 i28)), .undef, .undef, .undef, .undef, .undef, .undef, .undef] => Jn30_12 m (k (Ex.exit (1 : Nat)) (W110 r0 r1 r2 r3 i4 r5 r6 r7 r8 i9 s10 s11 s12 i13 i14 i15 i16 s17 s18 s19 s20 i21 i22 i23 i24 b25 r26 i27 i28)) (fun r32 r33 => k Ex.normal (W111 r0 r1 r2 r3 i4 r5 r32 r7 r33 s10 s11 s12 i13 i14 i15 i16 s17 s18 s19 s20 i21 i22 i23 i24 r26 i27 i28)) r0 r1 r2 r3 i4 r5 r6 r7 r8 i9 s10 s11 s12 i13 i14 i15 i16 s17 s18 s19 s20 i21 i22 i23 i24 b25 r26 i27 i28
 | _ => L R 30 12 vs k

theorem evJn30_12 (m : Nat) (R : Type) (r0 r1 r2 r3 : Abs.Rows) (i4 : Int) (r5 r6 r7 r8 : Abs.Rows) (i9 : Int) (s10 s11 s12 : ByteArray) (i13 i14 i15 i16 : Int) (s17 s18 s19 s20 : ByteArray) (i21 i22 i23 i24 : Int) (b25 : Bool) (r26 : Abs.Rows) (i27 i28 : Int) (k : Ex → List V → Option R) : codeK Tryz.prog H (T78 m) 30 (L66 m) 13 (loopBody Tryz.prog 30 12) (mkEnv [1, 2, 3, 4, 10, 11, 12, 13, 14, 15, 16, 17, 30, 31, 32, 63, 69, 164, 169, 170, 171, 172] (W110 r0 r1 r2 r3 i4 r5 r6 r7 r8 i9 s10 s11 s12 i13 i14 i15 i16 s17 s18 s19 s20 i21 i22 i23 i24 b25 r26 i27 i28) 0 (H.len 30)) (fun e env' => k e (vals [1, 2, 3, 4, 10, 11, 12, 13, 14, 15, 16, 17, 30, 31, 32, 63, 69, 164, 169, 170, 171, 172] env')) = Jn30_12 m (k (Ex.exit (1 : Nat)) (W110 r0 r1 r2 r3 i4 r5 r6 r7 r8 i9 s10 s11 s12 i13 i14 i15 i16 s17 s18 s19 s20 i21 i22 i23 i24 b25 r26 i27 i28)) (fun r32 r33 => k Ex.normal (W111 r0 r1 r2 r3 i4 r5 r32 r7 r33 s10 s11 s12 i13 i14 i15 i16 s17 s18 s19 s20 i21 i22 i23 i24 r26 i27 i28)) r0 r1 r2 r3 i4 r5 r6 r7 r8 i9 s10 s11 s12 i13 i14 i15 i16 s17 s18 s19 s20 i21 i22 i23 i24 b25 r26 i27 i28 := by kernel_rfl
noncomputable def L67 (m : Nat) : LTbl := addJ 30 12 (brJn30_12 m (L66 m)) (L66 m)
theorem okL67 (m : Nat) : LTOk Tryz.prog H (L67 m) := addJ_ok (okT78 m) hM (okL66 m) (l := [1, 2, 3, 4, 10, 11, 12, 13, 14, 15, 16, 17, 30, 31, 32, 63, 69, 164, 169, 170, 171, 172]) (by kernel_rfl) (by kernel_rfl) fun R vs k x h => by
  unfold brJn30_12 at h
  split at h
  ·exact .inl ((evJn30_12 m R _ _ _ _ _ _ _ _ _ _ _ _ _ _ _ _ _ _ _ _ _ _ _ _ _ _ _ _ _ k).trans h)
  ·exact .inr h

abbrev W112 (a0 a1 a2 a3 : Abs.Rows) (a4 : Int) (a5 a6 a7 a8 a9 : Abs.Rows) (a10 a11 : Int) : List V := [.bor J7 a0, .f (.lst J5 a1), .bor J2 a2, .obj [.f (.lst J4 a3), .f (.lit (.int .i64 a4)), .f (.lst J3 a5)], .own J6 a6, .own J1 a7, .own J1 a8, .bor J2 a9, .f (.lit (.int .i64 a10)), .f (.lit (.int .i64 a11)), .undef, .undef, .undef, .undef]
/-- - -/
noncomputable def Lp30_4_step {R : Type} (m : Nat) (kx0 : Abs.Rows → Abs.Rows → Abs.Rows → Int → Option R) (r0 r1 r2 r3 : Abs.Rows) (i4 : Int) (r5 r6 : Abs.Rows) (i7 : Int) (REC : Abs.Rows → Abs.Rows → Abs.Rows → Int → Option R) (r8 r9 r10 : Abs.Rows) (i11 : Int) : Option R :=
 bif decide (i11 < i7) then (bif decide ((0 : Int) ≤ i11 ∧ i11 < (↑(List.length r6) : Int)) then (Fn58 m r3 i4 r5 r0 (fS r6 (Int.toNat i11) (0 : Nat)) (fS r6 (Int.toNat i11) (1 : Nat)) (fS r6 (Int.toNat i11) (2 : Nat)) (fI r6 (Int.toNat i11) (3 : Nat)) (fI r6 (Int.toNat i11) (4 : Nat)) (fI r6 (Int.toNat i11) (5 : Nat)) (fI r6 (Int.toNat i11) (6 : Nat)) (fS r6 (Int.toNat i11) (7 : Nat)) (fun s12 s13 s14 i15 i16 i17 i18 b19 => Fn76 m r0 (fS r6 (Int.toNat i11) (1 : Nat)) (fun s20 b21 => bif b21 then (Fn36 m r8 s20 (fI r6 (Int.toNat i11) (3 : Nat)) (fun b22 => bif b22 then (bif decide (List.length r9 + List.length [[F.lit (Value.int IntKind.i64 i11)]] ≤ rowMax) then (letV (r9 ++ [[F.lit (Value.int IntKind.i64 i11)]]) (fun r23 => REC r8 r23 r10 (IntKind.wrap IntKind.i64 (i11 + (1 : Int))))) else
 (none)) else
 (Jn30_12 m (REC r8 r9 r10 (IntKind.wrap IntKind.i64 (i11 + (1 : Int)))) (fun r24 r25 => REC r24 r9 r25 (IntKind.wrap IntKind.i64 (i11 + (1 : Int)))) r0 r1 r2 r3 i4 r5 r8 r9 r10 i11 (fS r6 (Int.toNat i11) (0 : Nat)) (fS r6 (Int.toNat i11) (1 : Nat)) (fS r6 (Int.toNat i11) (2 : Nat)) (fI r6 (Int.toNat i11) (3 : Nat)) (fI r6 (Int.toNat i11) (4 : Nat)) (fI r6 (Int.toNat i11) (5 : Nat)) (fI r6 (Int.toNat i11) (6 : Nat)) (fS r6 (Int.toNat i11) (7 : Nat)) s12 s13 s14 i15 i16 i17 i18 b19 r6 i7 i11))) else
 (Jn30_12 m (REC r8 r9 r10 (IntKind.wrap IntKind.i64 (i11 + (1 : Int)))) (fun r26 r27 => REC r26 r9 r27 (IntKind.wrap IntKind.i64 (i11 + (1 : Int)))) r0 r1 r2 r3 i4 r5 r8 r9 r10 i11 (fS r6 (Int.toNat i11) (0 : Nat)) (fS r6 (Int.toNat i11) (1 : Nat)) (fS r6 (Int.toNat i11) (2 : Nat)) (fI r6 (Int.toNat i11) (3 : Nat)) (fI r6 (Int.toNat i11) (4 : Nat)) (fI r6 (Int.toNat i11) (5 : Nat)) (fI r6 (Int.toNat i11) (6 : Nat)) (fS r6 (Int.toNat i11) (7 : Nat)) s12 s13 s14 i15 i16 i17 i18 b19 r6 i7 i11)))) else
 (none)) else
 (kx0 r8 r9 r10 i11)
noncomputable def Lp30_4 {R : Type} (m : Nat) (kx0 : Abs.Rows → Abs.Rows → Abs.Rows → Int → Option R) (r0 r1 r2 r3 : Abs.Rows) (i4 : Int) (r5 r6 : Abs.Rows) (i7 : Int) : Nat → Abs.Rows → Abs.Rows → Abs.Rows → Int → Option R
 | 0, _, _, _, _ => none
 | n + 1, r8, r9, r10, i11 => Lp30_4_step m kx0 r0 r1 r2 r3 i4 r5 r6 i7 (Lp30_4 m kx0 r0 r1 r2 r3 i4 r5 r6 i7 n) r8 r9 r10 i11
noncomputable def ELp30_4 (m : Nat) (R : Type) : Nat → List V → (Ex → List V → Option R) → Option R
 | 0, _, _ => none
 | n + 1, vs, k => match vs with
  | [.bor [.str, .lst [.str]] r0, .f (.lst [.str, .int .i64, .int .i64, .int .i64, .int .i64] r1), .bor [.str, .str, .str, .int .i64, .int .i64, .int .i64, .int .i64, .str] r2, .obj [.f (.lst [.str, .str, .int .i64, .int .i64, .int .i64, .int .i64] r3), .f (.lit (.int .i64 i4)), .f (.lst [.str] r5)], .own [.str, .int .i64, .int .i64, .int .i64] r8, .own [.int .i64] r9, .own [.int .i64] r10, .bor [.str, .str, .str, .int .i64, .int .i64, .int .i64, .int .i64, .str] r6, .f (.lit (.int .i64 i7)), .f (.lit (.int .i64 i11)), .undef, .undef, .undef, .undef] => Lp30_4_step m (fun r28 r29 r30 i31 => k (Ex.exit (0 : Nat)) (W112 r0 r1 r2 r3 i4 r5 r28 r29 r30 r6 i7 i31)) r0 r1 r2 r3 i4 r5 r6 i7 (fun r8 r9 r10 i11 => ELp30_4 m R n (W112 r0 r1 r2 r3 i4 r5 r8 r9 r10 r6 i7 i11) k) r8 r9 r10 i11
  | _ => none
noncomputable def brLp30_4 (m : Nat) (L : LTbl) (R : Type) (vs : List V) (k : Ex → List V → Option R) : Option R := match vs with
 | [.bor [.str, .lst [.str]] r0, .f (.lst [.str, .int .i64, .int .i64, .int .i64, .int .i64] r1), .bor [.str, .str, .str, .int .i64, .int .i64, .int .i64, .int .i64, .str] r2, .obj [.f (.lst [.str, .str, .int .i64, .int .i64, .int .i64, .int .i64] r3), .f (.lit (.int .i64 i4)), .f (.lst [.str] r5)], .own [.str, .int .i64, .int .i64, .int .i64] r8, .own [.int .i64] r9, .own [.int .i64] r10, .bor [.str, .str, .str, .int .i64, .int .i64, .int .i64, .int .i64, .str] r6, .f (.lit (.int .i64 i7)), .f (.lit (.int .i64 i11)), .undef, .undef, .undef, .undef] => Lp30_4 m (fun r28 r29 r30 i31 => k (Ex.exit (0 : Nat)) (W112 r0 r1 r2 r3 i4 r5 r28 r29 r30 r6 i7 i31)) r0 r1 r2 r3 i4 r5 r6 i7 m r8 r9 r10 i11
 | _ => L R 30 4 vs k

theorem stLp30_4 (m n : Nat) (R : Type) (r0 r1 r2 r3 : Abs.Rows) (i4 : Int) (r5 r8 r9 r10 r6 : Abs.Rows) (i7 i11 : Int) (k : Ex → List V → Option R) : codeK Tryz.prog H (T78 m) 30 (L67 m) 5 (loopBody Tryz.prog 30 4) (mkEnv [1, 2, 3, 4, 10, 11, 12, 30, 31, 32, 169, 170, 171, 172] (W112 r0 r1 r2 r3 i4 r5 r8 r9 r10 r6 i7 i11) 0 (H.len 30)) (fun e env' => match e with | .normal => ELp30_4 m R n (vals [1, 2, 3, 4, 10, 11, 12, 30, 31, 32, 169, 170, 171, 172] env') k | e => k e (vals [1, 2, 3, 4, 10, 11, 12, 30, 31, 32, 169, 170, 171, 172] env')) = Lp30_4_step m (fun r28 r29 r30 i31 => k (Ex.exit (0 : Nat)) (W112 r0 r1 r2 r3 i4 r5 r28 r29 r30 r6 i7 i31)) r0 r1 r2 r3 i4 r5 r6 i7 (fun r8 r9 r10 i11 => ELp30_4 m R n (W112 r0 r1 r2 r3 i4 r5 r8 r9 r10 r6 i7 i11) k) r8 r9 r10 i11 := by kernel_rfl
theorem eqLp30_4 (m : Nat) (R : Type) (r0 r1 r2 r3 : Abs.Rows) (i4 : Int) (r5 r6 : Abs.Rows) (i7 : Int) (k : Ex → List V → Option R) : ∀ (n : Nat) (r8 r9 r10 : Abs.Rows) (i11 : Int), ELp30_4 m R n (W112 r0 r1 r2 r3 i4 r5 r8 r9 r10 r6 i7 i11) k = Lp30_4 m (fun r28 r29 r30 i31 => k (Ex.exit (0 : Nat)) (W112 r0 r1 r2 r3 i4 r5 r28 r29 r30 r6 i7 i31)) r0 r1 r2 r3 i4 r5 r6 i7 n r8 r9 r10 i11
 | 0, _, _, _, _ => rfl
 | n + 1, r8, r9, r10, i11 => by
  simp only [ELp30_4, Lp30_4, W112]
  congr 1
  funext r8 r9 r10 i11
  exact eqLp30_4 m R r0 r1 r2 r3 i4 r5 r6 i7 k n r8 r9 r10 i11
noncomputable def L68 (m : Nat) : LTbl := addB 30 4 (brLp30_4 m (L67 m)) (L67 m)
theorem okL68 (m : Nat) : LTOk Tryz.prog H (L68 m) := addB_ok (okT78 m) hM (okL67 m) (l := [1, 2, 3, 4, 10, 11, 12, 30, 31, 32, 169, 170, 171, 172]) (by kernel_rfl) (by kernel_rfl) m (fun R n vs k => ELp30_4 m R n vs k) (fun R vs k => rfl) (fun R n vs k x h => by
   simp only [ELp30_4] at h
   split at h
   ·exact (stLp30_4 m n R _ _ _ _ _ _ _ _ _ _ _ _ k).trans h
   ·cases h) fun R vs k x h => by
  unfold brLp30_4 at h
  split at h
  ·exact .inl ((eqLp30_4 m R _ _ _ _ _ _ _ _ k m _ _ _ _).trans h)
  ·exact .inr h

/-- - -/
noncomputable def Fn30 {R : Type} (m : Nat) : Abs.Rows → Int → Abs.Rows → Abs.Rows → Abs.Rows → Abs.Rows → (Abs.Rows → Abs.Rows → Option R) → Option R := match m with
 | 0 => fun _ _ _ _ _ _ _ => none
 | m + 1 => fun r0 i1 r2 r3 r4 r5 k =>
 Lp30_4 m (fun r6 r7 r8 i9 => k r6 r7) r3 r4 r5 r0 i1 r2 r5 ((↑(List.length r5) : Int)) m rows0 rows0 rows0 ((0 : Int))
noncomputable def brFn30 (m : Nat) (T : Tbl) (R : Type) (vs : List V) (k : V → List V → Option R) : Option R := match vs with
 | [.agg [.f (.lst [.str, .str, .int .i64, .int .i64, .int .i64, .int .i64] r0), .f (.lit (.int .i64 i1)), .f (.lst [.str] r2)], .bor [.str, .lst [.str]] r3, .f (.lst [.str, .int .i64, .int .i64, .int .i64, .int .i64] r4), .bor [.str, .str, .str, .int .i64, .int .i64, .int .i64, .int .i64, .str] r5] => Fn30 m r0 i1 r2 r3 r4 r5 (fun r10 r11 => k (V.tup (W92 r10 r11)) W68)
 | _ => T R 30 vs k

theorem evFn30 (m : Nat) (R : Type) (r0 : Abs.Rows) (i1 : Int) (r2 r3 r4 r5 : Abs.Rows) (k : V → List V → Option R) : runK Tryz.prog H (T78 m) (L68 m) 30 (W69 r0 i1 r2 r3 r4 r5) k = Fn30 (m + 1) r0 i1 r2 r3 r4 r5 (fun r10 r11 => k (V.tup (W92 r10 r11)) W68) := by kernel_rfl
noncomputable def T79 (m : Nat) : Tbl := addT 30 (brFn30 m (T78 m)) (T78 m)
theorem okT79 (m : Nat) : TblOk Tryz.prog (T79 m) := addT_ok (okT78 m) fun R vs k x h => by
 unfold brFn30 at h
 split at h
 ·cases m with
  | zero => cases h
  | succ m => exact runK_some (okT78 m) hM (okL68 m) ((evFn30 m R _ _ _ _ _ _ k).trans h)
 ·exact okT78 m R 30 _ k x h

abbrev W113 (a0 a1 : Abs.Rows) (a2 : Bool) (a3 a4 : Int) : List V := [.bor J6 a0, .bor J6 a1, .f (.lit (.bool a2)), .f (.lit (.int .i64 a3)), .f (.lit (.int .i64 a4)), .undef, .undef]
/-- - -/
noncomputable def Lp31_5_step {R : Type} (m : Nat) (kx0 : Bool → Int → Option R) (kx1 : Int → Option R) (r0 r1 : Abs.Rows) (b2 : Bool) (i3 : Int) (REC : Int → Option R) (i4 : Int) : Option R :=
 bif decide (i4 < i3) then (bif decide ((0 : Int) ≤ i4 ∧ i4 < (↑(List.length r0) : Int)) then (bif decide ((0 : Int) ≤ i4 ∧ i4 < (↑(List.length r1) : Int)) then (bif !(fS r0 (Int.toNat i4) (0 : Nat) == fS r1 (Int.toNat i4) (0 : Nat) && (fI r0 (Int.toNat i4) (1 : Nat) == fI r1 (Int.toNat i4) (1 : Nat) && (fI r0 (Int.toNat i4) (2 : Nat) == fI r1 (Int.toNat i4) (2 : Nat) && (fI r0 (Int.toNat i4) (3 : Nat) == fI r1 (Int.toNat i4) (3 : Nat) && true)))) then (kx0 false i4) else
 (REC (IntKind.wrap IntKind.i64 (i4 + (1 : Int))))) else
 (none)) else
 (none)) else
 (kx1 i4)
noncomputable def Lp31_5 {R : Type} (m : Nat) (kx0 : Bool → Int → Option R) (kx1 : Int → Option R) (r0 r1 : Abs.Rows) (b2 : Bool) (i3 : Int) : Nat → Int → Option R
 | 0, _ => none
 | n + 1, i4 => Lp31_5_step m kx0 kx1 r0 r1 b2 i3 (Lp31_5 m kx0 kx1 r0 r1 b2 i3 n) i4
noncomputable def ELp31_5 (m : Nat) (R : Type) : Nat → List V → (Ex → List V → Option R) → Option R
 | 0, _, _ => none
 | n + 1, vs, k => match vs with
  | [.bor [.str, .int .i64, .int .i64, .int .i64] r0, .bor [.str, .int .i64, .int .i64, .int .i64] r1, .f (.lit (.bool b2)), .f (.lit (.int .i64 i3)), .f (.lit (.int .i64 i4)), .undef, .undef] => Lp31_5_step m (fun b5 i6 => k Ex.ret (W113 r0 r1 b5 i3 i6)) (fun i7 => k (Ex.exit (0 : Nat)) (W113 r0 r1 b2 i3 i7)) r0 r1 b2 i3 (fun i4 => ELp31_5 m R n (W113 r0 r1 b2 i3 i4) k) i4
  | _ => none
noncomputable def brLp31_5 (m : Nat) (L : LTbl) (R : Type) (vs : List V) (k : Ex → List V → Option R) : Option R := match vs with
 | [.bor [.str, .int .i64, .int .i64, .int .i64] r0, .bor [.str, .int .i64, .int .i64, .int .i64] r1, .f (.lit (.bool b2)), .f (.lit (.int .i64 i3)), .f (.lit (.int .i64 i4)), .undef, .undef] => Lp31_5 m (fun b5 i6 => k Ex.ret (W113 r0 r1 b5 i3 i6)) (fun i7 => k (Ex.exit (0 : Nat)) (W113 r0 r1 b2 i3 i7)) r0 r1 b2 i3 m i4
 | _ => L R 31 5 vs k

theorem stLp31_5 (m n : Nat) (R : Type) (r0 r1 : Abs.Rows) (b2 : Bool) (i3 i4 : Int) (k : Ex → List V → Option R) : codeK Tryz.prog H (T79 m) 31 (L68 m) 6 (loopBody Tryz.prog 31 5) (mkEnv [0, 1, 4, 12, 13, 26, 27] (W113 r0 r1 b2 i3 i4) 0 (H.len 31)) (fun e env' => match e with | .normal => ELp31_5 m R n (vals [0, 1, 4, 12, 13, 26, 27] env') k | e => k e (vals [0, 1, 4, 12, 13, 26, 27] env')) = Lp31_5_step m (fun b5 i6 => k Ex.ret (W113 r0 r1 b5 i3 i6)) (fun i7 => k (Ex.exit (0 : Nat)) (W113 r0 r1 b2 i3 i7)) r0 r1 b2 i3 (fun i4 => ELp31_5 m R n (W113 r0 r1 b2 i3 i4) k) i4 := by kernel_rfl
theorem eqLp31_5 (m : Nat) (R : Type) (r0 r1 : Abs.Rows) (b2 : Bool) (i3 : Int) (k : Ex → List V → Option R) : ∀ (n : Nat) (i4 : Int), ELp31_5 m R n (W113 r0 r1 b2 i3 i4) k = Lp31_5 m (fun b5 i6 => k Ex.ret (W113 r0 r1 b5 i3 i6)) (fun i7 => k (Ex.exit (0 : Nat)) (W113 r0 r1 b2 i3 i7)) r0 r1 b2 i3 n i4
 | 0, _ => rfl
 | n + 1, i4 => by
  simp only [ELp31_5, Lp31_5, W113]
  congr 1
  funext i4
  exact eqLp31_5 m R r0 r1 b2 i3 k n i4
noncomputable def L69 (m : Nat) : LTbl := addB 31 5 (brLp31_5 m (L68 m)) (L68 m)
theorem okL69 (m : Nat) : LTOk Tryz.prog H (L69 m) := addB_ok (okT79 m) hM (okL68 m) (l := [0, 1, 4, 12, 13, 26, 27]) (by kernel_rfl) (by kernel_rfl) m (fun R n vs k => ELp31_5 m R n vs k) (fun R vs k => rfl) (fun R n vs k x h => by
   simp only [ELp31_5] at h
   split at h
   ·exact (stLp31_5 m n R _ _ _ _ _ k).trans h
   ·cases h) fun R vs k x h => by
  unfold brLp31_5 at h
  split at h
  ·exact .inl ((eqLp31_5 m R _ _ _ _ k m _).trans h)
  ·exact .inr h

abbrev W114 (a0 a1 : Abs.Rows) : List V := [.bor J6 a0, .bor J6 a1]
/-- - -/
noncomputable def Fn31 {R : Type} (m : Nat) : Abs.Rows → Abs.Rows → (Bool → Option R) → Option R := match m with
 | 0 => fun _ _ _ => none
 | m + 1 => fun r0 r1 k =>
 bif (↑(List.length r0) : Int) != (↑(List.length r1) : Int) then (k false) else
 (Lp31_5 m (fun b2 i3 => k b2) (fun i4 => k true) r0 r1 false ((↑(List.length r0) : Int)) m ((0 : Int)))
noncomputable def brFn31 (m : Nat) (T : Tbl) (R : Type) (vs : List V) (k : V → List V → Option R) : Option R := match vs with
 | [.bor [.str, .int .i64, .int .i64, .int .i64] r0, .bor [.str, .int .i64, .int .i64, .int .i64] r1] => Fn31 m r0 r1 (fun b5 => k (V.f (F.lit (Value.bool b5))) W1)
 | _ => T R 31 vs k

theorem evFn31 (m : Nat) (R : Type) (r0 r1 : Abs.Rows) (k : V → List V → Option R) : runK Tryz.prog H (T79 m) (L69 m) 31 (W114 r0 r1) k = Fn31 (m + 1) r0 r1 (fun b5 => k (V.f (F.lit (Value.bool b5))) W1) := by kernel_rfl
noncomputable def T80 (m : Nat) : Tbl := addT 31 (brFn31 m (T79 m)) (T79 m)
theorem okT80 (m : Nat) : TblOk Tryz.prog (T80 m) := addT_ok (okT79 m) fun R vs k x h => by
 unfold brFn31 at h
 split at h
 ·cases m with
  | zero => cases h
  | succ m => exact runK_some (okT79 m) hM (okL69 m) ((evFn31 m R _ _ k).trans h)
 ·exact okT79 m R 31 _ k x h

abbrev W115 (a0 a1 : Abs.Rows) (a2 : Bool) (a3 a4 : Int) : List V := [.bor J1 a0, .bor J1 a1, .f (.lit (.bool a2)), .f (.lit (.int .i64 a3)), .f (.lit (.int .i64 a4)), .undef, .undef]
/-- - -/
noncomputable def Lp20_5_step {R : Type} (m : Nat) (kx0 : Bool → Int → Option R) (kx1 : Int → Option R) (r0 r1 : Abs.Rows) (b2 : Bool) (i3 : Int) (REC : Int → Option R) (i4 : Int) : Option R :=
 bif decide (i4 < i3) then (bif decide ((0 : Int) ≤ i4 ∧ i4 < (↑(List.length r0) : Int)) then (bif decide ((0 : Int) ≤ i4 ∧ i4 < (↑(List.length r1) : Int)) then (bif fI r0 (Int.toNat i4) (0 : Nat) != fI r1 (Int.toNat i4) (0 : Nat) then (kx0 false i4) else
 (REC (IntKind.wrap IntKind.i64 (i4 + (1 : Int))))) else
 (none)) else
 (none)) else
 (kx1 i4)
noncomputable def Lp20_5 {R : Type} (m : Nat) (kx0 : Bool → Int → Option R) (kx1 : Int → Option R) (r0 r1 : Abs.Rows) (b2 : Bool) (i3 : Int) : Nat → Int → Option R
 | 0, _ => none
 | n + 1, i4 => Lp20_5_step m kx0 kx1 r0 r1 b2 i3 (Lp20_5 m kx0 kx1 r0 r1 b2 i3 n) i4
noncomputable def ELp20_5 (m : Nat) (R : Type) : Nat → List V → (Ex → List V → Option R) → Option R
 | 0, _, _ => none
 | n + 1, vs, k => match vs with
  | [.bor [.int .i64] r0, .bor [.int .i64] r1, .f (.lit (.bool b2)), .f (.lit (.int .i64 i3)), .f (.lit (.int .i64 i4)), .undef, .undef] => Lp20_5_step m (fun b5 i6 => k Ex.ret (W115 r0 r1 b5 i3 i6)) (fun i7 => k (Ex.exit (0 : Nat)) (W115 r0 r1 b2 i3 i7)) r0 r1 b2 i3 (fun i4 => ELp20_5 m R n (W115 r0 r1 b2 i3 i4) k) i4
  | _ => none
noncomputable def brLp20_5 (m : Nat) (L : LTbl) (R : Type) (vs : List V) (k : Ex → List V → Option R) : Option R := match vs with
 | [.bor [.int .i64] r0, .bor [.int .i64] r1, .f (.lit (.bool b2)), .f (.lit (.int .i64 i3)), .f (.lit (.int .i64 i4)), .undef, .undef] => Lp20_5 m (fun b5 i6 => k Ex.ret (W115 r0 r1 b5 i3 i6)) (fun i7 => k (Ex.exit (0 : Nat)) (W115 r0 r1 b2 i3 i7)) r0 r1 b2 i3 m i4
 | _ => L R 20 5 vs k

theorem stLp20_5 (m n : Nat) (R : Type) (r0 r1 : Abs.Rows) (b2 : Bool) (i3 i4 : Int) (k : Ex → List V → Option R) : codeK Tryz.prog H (T80 m) 20 (L69 m) 6 (loopBody Tryz.prog 20 5) (mkEnv [0, 1, 4, 12, 13, 26, 27] (W115 r0 r1 b2 i3 i4) 0 (H.len 20)) (fun e env' => match e with | .normal => ELp20_5 m R n (vals [0, 1, 4, 12, 13, 26, 27] env') k | e => k e (vals [0, 1, 4, 12, 13, 26, 27] env')) = Lp20_5_step m (fun b5 i6 => k Ex.ret (W115 r0 r1 b5 i3 i6)) (fun i7 => k (Ex.exit (0 : Nat)) (W115 r0 r1 b2 i3 i7)) r0 r1 b2 i3 (fun i4 => ELp20_5 m R n (W115 r0 r1 b2 i3 i4) k) i4 := by kernel_rfl
theorem eqLp20_5 (m : Nat) (R : Type) (r0 r1 : Abs.Rows) (b2 : Bool) (i3 : Int) (k : Ex → List V → Option R) : ∀ (n : Nat) (i4 : Int), ELp20_5 m R n (W115 r0 r1 b2 i3 i4) k = Lp20_5 m (fun b5 i6 => k Ex.ret (W115 r0 r1 b5 i3 i6)) (fun i7 => k (Ex.exit (0 : Nat)) (W115 r0 r1 b2 i3 i7)) r0 r1 b2 i3 n i4
 | 0, _ => rfl
 | n + 1, i4 => by
  simp only [ELp20_5, Lp20_5, W115]
  congr 1
  funext i4
  exact eqLp20_5 m R r0 r1 b2 i3 k n i4
noncomputable def L70 (m : Nat) : LTbl := addB 20 5 (brLp20_5 m (L69 m)) (L69 m)
theorem okL70 (m : Nat) : LTOk Tryz.prog H (L70 m) := addB_ok (okT80 m) hM (okL69 m) (l := [0, 1, 4, 12, 13, 26, 27]) (by kernel_rfl) (by kernel_rfl) m (fun R n vs k => ELp20_5 m R n vs k) (fun R vs k => rfl) (fun R n vs k x h => by
   simp only [ELp20_5] at h
   split at h
   ·exact (stLp20_5 m n R _ _ _ _ _ k).trans h
   ·cases h) fun R vs k x h => by
  unfold brLp20_5 at h
  split at h
  ·exact .inl ((eqLp20_5 m R _ _ _ _ k m _).trans h)
  ·exact .inr h

abbrev W116 (a0 a1 : Abs.Rows) : List V := [.bor J1 a0, .bor J1 a1]
/-- - -/
noncomputable def Fn20 {R : Type} (m : Nat) : Abs.Rows → Abs.Rows → (Bool → Option R) → Option R := match m with
 | 0 => fun _ _ _ => none
 | m + 1 => fun r0 r1 k =>
 bif (↑(List.length r0) : Int) != (↑(List.length r1) : Int) then (k false) else
 (Lp20_5 m (fun b2 i3 => k b2) (fun i4 => k true) r0 r1 false ((↑(List.length r0) : Int)) m ((0 : Int)))
noncomputable def brFn20 (m : Nat) (T : Tbl) (R : Type) (vs : List V) (k : V → List V → Option R) : Option R := match vs with
 | [.bor [.int .i64] r0, .bor [.int .i64] r1] => Fn20 m r0 r1 (fun b5 => k (V.f (F.lit (Value.bool b5))) W1)
 | _ => T R 20 vs k

theorem evFn20 (m : Nat) (R : Type) (r0 r1 : Abs.Rows) (k : V → List V → Option R) : runK Tryz.prog H (T80 m) (L70 m) 20 (W116 r0 r1) k = Fn20 (m + 1) r0 r1 (fun b5 => k (V.f (F.lit (Value.bool b5))) W1) := by kernel_rfl
noncomputable def T81 (m : Nat) : Tbl := addT 20 (brFn20 m (T80 m)) (T80 m)
theorem okT81 (m : Nat) : TblOk Tryz.prog (T81 m) := addT_ok (okT80 m) fun R vs k x h => by
 unfold brFn20 at h
 split at h
 ·cases m with
  | zero => cases h
  | succ m => exact runK_some (okT80 m) hM (okL70 m) ((evFn20 m R _ _ k).trans h)
 ·exact okT80 m R 20 _ k x h

abbrev W117 (a0 : Bool) (a1 : Int) : List V := [.f (.lit (.bool a0)), .f (.lit (.int .i64 a1))]
/-- - -/
noncomputable def Fn33 {R : Type} (m : Nat) : Abs.Rows → ByteArray → Int → (Bool → Int → Option R) → Option R := match m with
 | 0 => fun _ _ _ _ => none
 | m + 1 => fun r0 s1 i2 k =>
 bif decide ((↑(List.length r0) : Int) > (3000 : Int)) then (k false ((2 : Int))) else
 (Fn74 m s1 (fun b3 => bif !b3 then (k false ((5 : Int))) else
 (Fn77 m i2 (fun b4 => bif !b4 then (k false ((1 : Int))) else
 (Fn78 m r0 s1 i2 (fun b5 => k b5 ((0 : Int))))))))
noncomputable def brFn33 (m : Nat) (T : Tbl) (R : Type) (vs : List V) (k : V → List V → Option R) : Option R := match vs with
 | [.bor [.str, .int .i64, .int .i64, .int .i64] r0, .f (.lit (.string s1)), .f (.lit (.int .i64 i2))] => Fn33 m r0 s1 i2 (fun b6 i7 => k (V.tup (W117 b6 i7)) W32)
 | _ => T R 33 vs k

theorem evFn33 (m : Nat) (R : Type) (r0 : Abs.Rows) (s1 : ByteArray) (i2 : Int) (k : V → List V → Option R) : runK Tryz.prog H (T81 m) (L70 m) 33 (W75 r0 s1 i2) k = Fn33 (m + 1) r0 s1 i2 (fun b6 i7 => k (V.tup (W117 b6 i7)) W32) := by kernel_rfl
noncomputable def T82 (m : Nat) : Tbl := addT 33 (brFn33 m (T81 m)) (T81 m)
theorem okT82 (m : Nat) : TblOk Tryz.prog (T82 m) := addT_ok (okT81 m) fun R vs k x h => by
 unfold brFn33 at h
 split at h
 ·cases m with
  | zero => cases h
  | succ m => exact runK_some (okT81 m) hM (okL70 m) ((evFn33 m R _ _ _ k).trans h)
 ·exact okT81 m R 33 _ k x h

/-- - -/
noncomputable def Fn14 {R : Type} (m : Nat) : Bool → Int → (Int → Option R) → Option R := match m with
 | 0 => fun _ _ _ => none
 | m + 1 => fun b0 i1 k =>
 bif b0 then (k i1) else
 (k ((0 : Int)))
noncomputable def brFn14 (m : Nat) (T : Tbl) (R : Type) (vs : List V) (k : V → List V → Option R) : Option R := match vs with
 | [.f (.lit (.bool b0)), .f (.lit (.int .i64 i1))] => Fn14 m b0 i1 (fun i2 => k (V.f (F.lit (Value.int IntKind.i64 i2))) W1)
 | _ => T R 14 vs k

theorem evFn14 (m : Nat) (R : Type) (b0 : Bool) (i1 : Int) (k : V → List V → Option R) : runK Tryz.prog H (T82 m) (L70 m) 14 (W117 b0 i1) k = Fn14 (m + 1) b0 i1 (fun i2 => k (V.f (F.lit (Value.int IntKind.i64 i2))) W1) := by kernel_rfl
noncomputable def T83 (m : Nat) : Tbl := addT 14 (brFn14 m (T82 m)) (T82 m)
theorem okT83 (m : Nat) : TblOk Tryz.prog (T83 m) := addT_ok (okT82 m) fun R vs k x h => by
 unfold brFn14 at h
 split at h
 ·cases m with
  | zero => cases h
  | succ m => exact runK_some (okT82 m) hM (okL70 m) ((evFn14 m R _ _ k).trans h)
 ·exact okT82 m R 14 _ k x h

/-- - -/
noncomputable def Fn35 {R : Type} (m : Nat) : Int → (Int → Option R) → Option R := match m with
 | 0 => fun _ _ => none
 | m + 1 => fun i0 k =>
 Fn72 m i0 (fun b1 => Fn14 m (!b1) ((1 : Int)) (fun i2 => k i2))
noncomputable def brFn35 (m : Nat) (T : Tbl) (R : Type) (vs : List V) (k : V → List V → Option R) : Option R := match vs with
 | [.f (.lit (.int .i64 i0))] => Fn35 m i0 (fun i3 => k (V.f (F.lit (Value.int IntKind.i64 i3))) W17)
 | _ => T R 35 vs k

theorem evFn35 (m : Nat) (R : Type) (i0 : Int) (k : V → List V → Option R) : runK Tryz.prog H (T83 m) (L70 m) 35 (W18 i0) k = Fn35 (m + 1) i0 (fun i3 => k (V.f (F.lit (Value.int IntKind.i64 i3))) W17) := by kernel_rfl
noncomputable def T84 (m : Nat) : Tbl := addT 35 (brFn35 m (T83 m)) (T83 m)
theorem okT84 (m : Nat) : TblOk Tryz.prog (T84 m) := addT_ok (okT83 m) fun R vs k x h => by
 unfold brFn35 at h
 split at h
 ·cases m with
  | zero => cases h
  | succ m => exact runK_some (okT83 m) hM (okL70 m) ((evFn35 m R _ k).trans h)
 ·exact okT83 m R 35 _ k x h

abbrev W118 (a0 : Abs.Rows) (a1 : Int) (a2 : Abs.Rows) (a3 a4 : Int) (a5 a6 : ByteArray) (a7 a8 a9 a10 : Int) (a11 : Abs.Rows) (a12 a13 : Int) (a14 : Bool) : List V := [.obj [.bor J4 a0, .f (.lit (.int .i64 a1)), .bor J3 a2], .f (.lit (.int .i64 a3)), .f (.lit (.int .i64 a4)), .obj [.f (.lit (.string a5)), .f (.lit (.string a6)), .f (.lit (.int .i64 a7)), .f (.lit (.int .i64 a8)), .f (.lit (.int .i64 a9)), .f (.lit (.int .i64 a10))], .ref 1 0, .bor J4 a11, .f (.lit (.int .i64 a12)), .f (.lit (.int .i64 a13)), .f (.lit (.bool a14)), .undef]
/-- - -/
noncomputable def Jn82_13v1 {R : Type} (m : Nat) (kx0 : Int → Bool → Option R) (kx1 : Bool → Option R) (r0 : Abs.Rows) (i1 : Int) (r2 : Abs.Rows) (i3 i4 : Int) (s5 s6 : ByteArray) (i7 i8 i9 i10 : Int) (r11 : Abs.Rows) (i12 i13 : Int) (b14 : Bool) : Option R :=
 bif b14 then (kx0 ((1 : Int)) true) else
 (bif decide (i4 > (0 : Int)) then (bif decide ((0 : Int) ≤ IntKind.wrap IntKind.i64 (i4 - (1 : Int)) ∧ IntKind.wrap IntKind.i64 (i4 - (1 : Int)) < (↑(List.length r0) : Int)) then (bif Op.bytesLess (ByteArray.toList s5) (ByteArray.toList (fS r0 (Int.toNat (IntKind.wrap IntKind.i64 (i4 - (1 : Int)))) (0 : Nat))) || ByteArray.toList s5 == ByteArray.toList (fS r0 (Int.toNat (IntKind.wrap IntKind.i64 (i4 - (1 : Int)))) (0 : Nat)) then (kx0 ((7 : Int)) false) else
 (kx1 false)) else
 (none)) else
 (kx1 false))
noncomputable def brJn82_13v1 (m : Nat) (L : LTbl) (R : Type) (vs : List V) (k : Ex → List V → Option R) : Option R := match vs with
 | [.obj [.bor [.str, .str, .int .i64, .int .i64, .int .i64, .int .i64] r0, .f (.lit (.int .i64 i1)), .bor [.str] r2], .f (.lit (.int .i64 i3)), .f (.lit (.int .i64 i4)), .obj [.f (.lit (.string s5)), .f (.lit (.string s6)), .f (.lit (.int .i64 i7)), .f (.lit (.int .i64 i8)), .f (.lit (.int .i64 i9)), .f (.lit (.int .i64 i10))], .ref 1 0, .bor [.str, .str, .int .i64, .int .i64, .int .i64, .int .i64] r11, .f (.lit (.int .i64 i12)), .f (.lit (.int .i64 i13)), .f (.lit (.bool b14)), .undef] => Jn82_13v1 m (fun i15 b16 => k Ex.ret (W118 r0 i1 r2 i15 i4 s5 s6 i7 i8 i9 i10 r11 i12 i13 b16)) (fun b17 => k Ex.normal (W118 r0 i1 r2 i3 i4 s5 s6 i7 i8 i9 i10 r11 i12 i13 b17)) r0 i1 r2 i3 i4 s5 s6 i7 i8 i9 i10 r11 i12 i13 b14
 | _ => L R 82 13 vs k

theorem evJn82_13v1 (m : Nat) (R : Type) (r0 : Abs.Rows) (i1 : Int) (r2 : Abs.Rows) (i3 i4 : Int) (s5 s6 : ByteArray) (i7 i8 i9 i10 : Int) (r11 : Abs.Rows) (i12 i13 : Int) (b14 : Bool) (k : Ex → List V → Option R) : codeK Tryz.prog H (T84 m) 82 (L70 m) 14 (loopBody Tryz.prog 82 13) (mkEnv [1, 2, 3, 4, 11, 12, 13, 14, 29, 100] (W118 r0 i1 r2 i3 i4 s5 s6 i7 i8 i9 i10 r11 i12 i13 b14) 0 (H.len 82)) (fun e env' => k e (vals [1, 2, 3, 4, 11, 12, 13, 14, 29, 100] env')) = Jn82_13v1 m (fun i15 b16 => k Ex.ret (W118 r0 i1 r2 i15 i4 s5 s6 i7 i8 i9 i10 r11 i12 i13 b16)) (fun b17 => k Ex.normal (W118 r0 i1 r2 i3 i4 s5 s6 i7 i8 i9 i10 r11 i12 i13 b17)) r0 i1 r2 i3 i4 s5 s6 i7 i8 i9 i10 r11 i12 i13 b14 := by kernel_rfl
noncomputable def L71 (m : Nat) : LTbl := addJ 82 13 (brJn82_13v1 m (L70 m)) (L70 m)
theorem okL71 (m : Nat) : LTOk Tryz.prog H (L71 m) := addJ_ok (okT84 m) hM (okL70 m) (l := [1, 2, 3, 4, 11, 12, 13, 14, 29, 100]) (by kernel_rfl) (by kernel_rfl) fun R vs k x h => by
  unfold brJn82_13v1 at h
  split at h
  ·exact .inl ((evJn82_13v1 m R _ _ _ _ _ _ _ _ _ _ _ _ _ _ _ k).trans h)
  ·exact .inr h

abbrev W119 (a0 : Abs.Rows) (a1 : Int) (a2 : Abs.Rows) (a3 : Int) (a4 : Abs.Rows) (a5 a6 : Int) : List V := [.obj [.bor J4 a0, .f (.lit (.int .i64 a1)), .bor J3 a2], .f (.lit (.int .i64 a3)), .ref 1 0, .bor J4 a4, .f (.lit (.int .i64 a5)), .f (.lit (.int .i64 a6)), .undef]
/-- - -/
noncomputable def Lp82_5v1_step {R : Type} (m : Nat) (kx0 : Int → Int → Option R) (kx1 : Int → Option R) (r0 : Abs.Rows) (i1 : Int) (r2 : Abs.Rows) (i3 : Int) (r4 : Abs.Rows) (i5 : Int) (REC : Int → Option R) (i6 : Int) : Option R :=
 bif decide (i6 < i5) then (bif decide ((0 : Int) ≤ i6 ∧ i6 < (↑(List.length r4) : Int)) then (Fn122 m (fS r4 (Int.toNat i6) (0 : Nat)) (fun b7 => bif !b7 then (kx0 ((3 : Int)) i6) else
 (Fn74 m (fS r4 (Int.toNat i6) (1 : Nat)) (fun b8 => bif !b8 then (kx0 ((5 : Int)) i6) else
 (Fn75 m (fI r4 (Int.toNat i6) (2 : Nat)) ((0 : Int)) ((1000000 : Int)) (fun b9 => bif !b9 then (Jn82_13v1 m (fun i10 b11 => kx0 i10 i6) (fun b12 => REC (IntKind.wrap IntKind.i64 (i6 + (1 : Int)))) r0 i1 r2 i3 i6 (fS r4 (Int.toNat i6) (0 : Nat)) (fS r4 (Int.toNat i6) (1 : Nat)) (fI r4 (Int.toNat i6) (2 : Nat)) (fI r4 (Int.toNat i6) (3 : Nat)) (fI r4 (Int.toNat i6) (4 : Nat)) (fI r4 (Int.toNat i6) (5 : Nat)) r4 i5 i6 true) else
 (Fn75 m (fI r4 (Int.toNat i6) (5 : Nat)) ((0 : Int)) ((1000000 : Int)) (fun b13 => bif !b13 then (Jn82_13v1 m (fun i14 b15 => kx0 i14 i6) (fun b16 => REC (IntKind.wrap IntKind.i64 (i6 + (1 : Int)))) r0 i1 r2 i3 i6 (fS r4 (Int.toNat i6) (0 : Nat)) (fS r4 (Int.toNat i6) (1 : Nat)) (fI r4 (Int.toNat i6) (2 : Nat)) (fI r4 (Int.toNat i6) (3 : Nat)) (fI r4 (Int.toNat i6) (4 : Nat)) (fI r4 (Int.toNat i6) (5 : Nat)) r4 i5 i6 true) else
 (Fn75 m (fI r4 (Int.toNat i6) (3 : Nat)) ((0 : Int)) ((86400000 : Int)) (fun b17 => bif !b17 then (Jn82_13v1 m (fun i18 b19 => kx0 i18 i6) (fun b20 => REC (IntKind.wrap IntKind.i64 (i6 + (1 : Int)))) r0 i1 r2 i3 i6 (fS r4 (Int.toNat i6) (0 : Nat)) (fS r4 (Int.toNat i6) (1 : Nat)) (fI r4 (Int.toNat i6) (2 : Nat)) (fI r4 (Int.toNat i6) (3 : Nat)) (fI r4 (Int.toNat i6) (4 : Nat)) (fI r4 (Int.toNat i6) (5 : Nat)) r4 i5 i6 true) else
 (Fn75 m (fI r4 (Int.toNat i6) (4 : Nat)) ((1 : Int)) ((86400000 : Int)) (fun b21 => Jn82_13v1 m (fun i22 b23 => kx0 i22 i6) (fun b24 => REC (IntKind.wrap IntKind.i64 (i6 + (1 : Int)))) r0 i1 r2 i3 i6 (fS r4 (Int.toNat i6) (0 : Nat)) (fS r4 (Int.toNat i6) (1 : Nat)) (fI r4 (Int.toNat i6) (2 : Nat)) (fI r4 (Int.toNat i6) (3 : Nat)) (fI r4 (Int.toNat i6) (4 : Nat)) (fI r4 (Int.toNat i6) (5 : Nat)) r4 i5 i6 (!b21))))))))))))) else
 (none)) else
 (kx1 i6)
noncomputable def Lp82_5v1 {R : Type} (m : Nat) (kx0 : Int → Int → Option R) (kx1 : Int → Option R) (r0 : Abs.Rows) (i1 : Int) (r2 : Abs.Rows) (i3 : Int) (r4 : Abs.Rows) (i5 : Int) : Nat → Int → Option R
 | 0, _ => none
 | n + 1, i6 => Lp82_5v1_step m kx0 kx1 r0 i1 r2 i3 r4 i5 (Lp82_5v1 m kx0 kx1 r0 i1 r2 i3 r4 i5 n) i6
noncomputable def ELp82_5v1 (m : Nat) (R : Type) : Nat → List V → (Ex → List V → Option R) → Option R
 | 0, _, _ => none
 | n + 1, vs, k => match vs with
  | [.obj [.bor [.str, .str, .int .i64, .int .i64, .int .i64, .int .i64] r0, .f (.lit (.int .i64 i1)), .bor [.str] r2], .f (.lit (.int .i64 i3)), .ref 1 0, .bor [.str, .str, .int .i64, .int .i64, .int .i64, .int .i64] r4, .f (.lit (.int .i64 i5)), .f (.lit (.int .i64 i6)), .undef] => Lp82_5v1_step m (fun i25 i26 => k Ex.ret (W119 r0 i1 r2 i25 r4 i5 i26)) (fun i27 => k (Ex.exit (0 : Nat)) (W119 r0 i1 r2 i3 r4 i5 i27)) r0 i1 r2 i3 r4 i5 (fun i6 => ELp82_5v1 m R n (W119 r0 i1 r2 i3 r4 i5 i6) k) i6
  | _ => none
noncomputable def brLp82_5v1 (m : Nat) (L : LTbl) (R : Type) (vs : List V) (k : Ex → List V → Option R) : Option R := match vs with
 | [.obj [.bor [.str, .str, .int .i64, .int .i64, .int .i64, .int .i64] r0, .f (.lit (.int .i64 i1)), .bor [.str] r2], .f (.lit (.int .i64 i3)), .ref 1 0, .bor [.str, .str, .int .i64, .int .i64, .int .i64, .int .i64] r4, .f (.lit (.int .i64 i5)), .f (.lit (.int .i64 i6)), .undef] => Lp82_5v1 m (fun i25 i26 => k Ex.ret (W119 r0 i1 r2 i25 r4 i5 i26)) (fun i27 => k (Ex.exit (0 : Nat)) (W119 r0 i1 r2 i3 r4 i5 i27)) r0 i1 r2 i3 r4 i5 m i6
 | _ => L R 82 5 vs k

theorem stLp82_5v1 (m n : Nat) (R : Type) (r0 : Abs.Rows) (i1 : Int) (r2 : Abs.Rows) (i3 : Int) (r4 : Abs.Rows) (i5 i6 : Int) (k : Ex → List V → Option R) : codeK Tryz.prog H (T84 m) 82 (L71 m) 6 (loopBody Tryz.prog 82 5) (mkEnv [1, 2, 11, 12, 13, 14, 100] (W119 r0 i1 r2 i3 r4 i5 i6) 0 (H.len 82)) (fun e env' => match e with | .normal => ELp82_5v1 m R n (vals [1, 2, 11, 12, 13, 14, 100] env') k | e => k e (vals [1, 2, 11, 12, 13, 14, 100] env')) = Lp82_5v1_step m (fun i25 i26 => k Ex.ret (W119 r0 i1 r2 i25 r4 i5 i26)) (fun i27 => k (Ex.exit (0 : Nat)) (W119 r0 i1 r2 i3 r4 i5 i27)) r0 i1 r2 i3 r4 i5 (fun i6 => ELp82_5v1 m R n (W119 r0 i1 r2 i3 r4 i5 i6) k) i6 := by kernel_rfl
theorem eqLp82_5v1 (m : Nat) (R : Type) (r0 : Abs.Rows) (i1 : Int) (r2 : Abs.Rows) (i3 : Int) (r4 : Abs.Rows) (i5 : Int) (k : Ex → List V → Option R) : ∀ (n : Nat) (i6 : Int), ELp82_5v1 m R n (W119 r0 i1 r2 i3 r4 i5 i6) k = Lp82_5v1 m (fun i25 i26 => k Ex.ret (W119 r0 i1 r2 i25 r4 i5 i26)) (fun i27 => k (Ex.exit (0 : Nat)) (W119 r0 i1 r2 i3 r4 i5 i27)) r0 i1 r2 i3 r4 i5 n i6
 | 0, _ => rfl
 | n + 1, i6 => by
  simp only [ELp82_5v1, Lp82_5v1, W119]
  congr 1
  funext i6
  exact eqLp82_5v1 m R r0 i1 r2 i3 r4 i5 k n i6
noncomputable def L72 (m : Nat) : LTbl := addB 82 5 (brLp82_5v1 m (L71 m)) (L71 m)
theorem okL72 (m : Nat) : LTOk Tryz.prog H (L72 m) := addB_ok (okT84 m) hM (okL71 m) (l := [1, 2, 11, 12, 13, 14, 100]) (by kernel_rfl) (by kernel_rfl) m (fun R n vs k => ELp82_5v1 m R n vs k) (fun R vs k => rfl) (fun R n vs k x h => by
   simp only [ELp82_5v1] at h
   split at h
   ·exact (stLp82_5v1 m n R _ _ _ _ _ _ _ k).trans h
   ·cases h) fun R vs k x h => by
  unfold brLp82_5v1 at h
  split at h
  ·exact .inl ((eqLp82_5v1 m R _ _ _ _ _ _ k m _).trans h)
  ·exact .inr h

abbrev W120 (a0 : Abs.Rows) (a1 : Int) (a2 : Abs.Rows) (a3 : Int) (a4 : Abs.Rows) (a5 a6 : Int) : List V := [.obj [.bor J4 a0, .f (.lit (.int .i64 a1)), .bor J3 a2], .f (.lit (.int .i64 a3)), .ref 1 2, .bor J3 a4, .f (.lit (.int .i64 a5)), .f (.lit (.int .i64 a6)), .undef]
/-- - -/
noncomputable def Lp82_26v1_step {R : Type} (m : Nat) (kx0 : Int → Int → Option R) (kx1 : Int → Option R) (r0 : Abs.Rows) (i1 : Int) (r2 : Abs.Rows) (i3 : Int) (r4 : Abs.Rows) (i5 : Int) (REC : Int → Option R) (i6 : Int) : Option R :=
 bif decide (i6 < i5) then (bif decide ((0 : Int) ≤ i6 ∧ i6 < (↑(List.length r4) : Int)) then (Fn74 m (fS r4 (Int.toNat i6) (0 : Nat)) (fun b7 => bif !b7 then (kx0 ((5 : Int)) i6) else
 (bif decide (i6 > (0 : Int)) then (bif decide ((0 : Int) ≤ IntKind.wrap IntKind.i64 (i6 - (1 : Int)) ∧ IntKind.wrap IntKind.i64 (i6 - (1 : Int)) < (↑(List.length r2) : Int)) then (bif Op.bytesLess (ByteArray.toList (fS r4 (Int.toNat i6) (0 : Nat))) (ByteArray.toList (fS r2 (Int.toNat (IntKind.wrap IntKind.i64 (i6 - (1 : Int)))) (0 : Nat))) || ByteArray.toList (fS r4 (Int.toNat i6) (0 : Nat)) == ByteArray.toList (fS r2 (Int.toNat (IntKind.wrap IntKind.i64 (i6 - (1 : Int)))) (0 : Nat)) then (kx0 ((7 : Int)) i6) else
 (REC (IntKind.wrap IntKind.i64 (i6 + (1 : Int))))) else
 (none)) else
 (REC (IntKind.wrap IntKind.i64 (i6 + (1 : Int))))))) else
 (none)) else
 (kx1 i6)
noncomputable def Lp82_26v1 {R : Type} (m : Nat) (kx0 : Int → Int → Option R) (kx1 : Int → Option R) (r0 : Abs.Rows) (i1 : Int) (r2 : Abs.Rows) (i3 : Int) (r4 : Abs.Rows) (i5 : Int) : Nat → Int → Option R
 | 0, _ => none
 | n + 1, i6 => Lp82_26v1_step m kx0 kx1 r0 i1 r2 i3 r4 i5 (Lp82_26v1 m kx0 kx1 r0 i1 r2 i3 r4 i5 n) i6
noncomputable def ELp82_26v1 (m : Nat) (R : Type) : Nat → List V → (Ex → List V → Option R) → Option R
 | 0, _, _ => none
 | n + 1, vs, k => match vs with
  | [.obj [.bor [.str, .str, .int .i64, .int .i64, .int .i64, .int .i64] r0, .f (.lit (.int .i64 i1)), .bor [.str] r2], .f (.lit (.int .i64 i3)), .ref 1 2, .bor [.str] r4, .f (.lit (.int .i64 i5)), .f (.lit (.int .i64 i6)), .undef] => Lp82_26v1_step m (fun i8 i9 => k Ex.ret (W120 r0 i1 r2 i8 r4 i5 i9)) (fun i10 => k (Ex.exit (3 : Nat)) (W120 r0 i1 r2 i3 r4 i5 i10)) r0 i1 r2 i3 r4 i5 (fun i6 => ELp82_26v1 m R n (W120 r0 i1 r2 i3 r4 i5 i6) k) i6
  | _ => none
noncomputable def brLp82_26v1 (m : Nat) (L : LTbl) (R : Type) (vs : List V) (k : Ex → List V → Option R) : Option R := match vs with
 | [.obj [.bor [.str, .str, .int .i64, .int .i64, .int .i64, .int .i64] r0, .f (.lit (.int .i64 i1)), .bor [.str] r2], .f (.lit (.int .i64 i3)), .ref 1 2, .bor [.str] r4, .f (.lit (.int .i64 i5)), .f (.lit (.int .i64 i6)), .undef] => Lp82_26v1 m (fun i8 i9 => k Ex.ret (W120 r0 i1 r2 i8 r4 i5 i9)) (fun i10 => k (Ex.exit (3 : Nat)) (W120 r0 i1 r2 i3 r4 i5 i10)) r0 i1 r2 i3 r4 i5 m i6
 | _ => L R 82 26 vs k

theorem stLp82_26v1 (m n : Nat) (R : Type) (r0 : Abs.Rows) (i1 : Int) (r2 : Abs.Rows) (i3 : Int) (r4 : Abs.Rows) (i5 i6 : Int) (k : Ex → List V → Option R) : codeK Tryz.prog H (T84 m) 82 (L72 m) 27 (loopBody Tryz.prog 82 26) (mkEnv [1, 2, 76, 77, 78, 79, 100] (W120 r0 i1 r2 i3 r4 i5 i6) 0 (H.len 82)) (fun e env' => match e with | .normal => ELp82_26v1 m R n (vals [1, 2, 76, 77, 78, 79, 100] env') k | e => k e (vals [1, 2, 76, 77, 78, 79, 100] env')) = Lp82_26v1_step m (fun i8 i9 => k Ex.ret (W120 r0 i1 r2 i8 r4 i5 i9)) (fun i10 => k (Ex.exit (3 : Nat)) (W120 r0 i1 r2 i3 r4 i5 i10)) r0 i1 r2 i3 r4 i5 (fun i6 => ELp82_26v1 m R n (W120 r0 i1 r2 i3 r4 i5 i6) k) i6 := by kernel_rfl
theorem eqLp82_26v1 (m : Nat) (R : Type) (r0 : Abs.Rows) (i1 : Int) (r2 : Abs.Rows) (i3 : Int) (r4 : Abs.Rows) (i5 : Int) (k : Ex → List V → Option R) : ∀ (n : Nat) (i6 : Int), ELp82_26v1 m R n (W120 r0 i1 r2 i3 r4 i5 i6) k = Lp82_26v1 m (fun i8 i9 => k Ex.ret (W120 r0 i1 r2 i8 r4 i5 i9)) (fun i10 => k (Ex.exit (3 : Nat)) (W120 r0 i1 r2 i3 r4 i5 i10)) r0 i1 r2 i3 r4 i5 n i6
 | 0, _ => rfl
 | n + 1, i6 => by
  simp only [ELp82_26v1, Lp82_26v1, W120]
  congr 1
  funext i6
  exact eqLp82_26v1 m R r0 i1 r2 i3 r4 i5 k n i6
noncomputable def L73 (m : Nat) : LTbl := addB 82 26 (brLp82_26v1 m (L72 m)) (L72 m)
theorem okL73 (m : Nat) : LTOk Tryz.prog H (L73 m) := addB_ok (okT84 m) hM (okL72 m) (l := [1, 2, 76, 77, 78, 79, 100]) (by kernel_rfl) (by kernel_rfl) m (fun R n vs k => ELp82_26v1 m R n vs k) (fun R vs k => rfl) (fun R n vs k x h => by
   simp only [ELp82_26v1] at h
   split at h
   ·exact (stLp82_26v1 m n R _ _ _ _ _ _ _ k).trans h
   ·cases h) fun R vs k x h => by
  unfold brLp82_26v1 at h
  split at h
  ·exact .inl ((eqLp82_26v1 m R _ _ _ _ _ _ k m _).trans h)
  ·exact .inr h

abbrev W121 (a0 : Abs.Rows) (a1 : Int) (a2 : Abs.Rows) : List V := [.agg [.bor J4 a0, .f (.lit (.int .i64 a1)), .bor J3 a2]]
/-- - -/
noncomputable def Fn82v1 {R : Type} (m : Nat) : Abs.Rows → Int → Abs.Rows → (Int → Option R) → Option R := match m with
 | 0 => fun _ _ _ _ => none
 | m + 1 => fun r0 i1 r2 k =>
 bif decide ((↑(List.length r0) : Int) > (200 : Int)) then (k ((2 : Int))) else
 (Lp82_5v1 m (fun i3 i4 => k i3) (fun i5 => Fn75 m i1 ((0 : Int)) ((2592000000 : Int)) (fun b6 => bif !b6 then (k ((1 : Int))) else
 (bif decide ((↑(List.length r2) : Int) > (200 : Int)) then (k ((2 : Int))) else
 (Lp82_26v1 m (fun i7 i8 => k i7) (fun i9 => k ((0 : Int))) r0 i1 r2 ((0 : Int)) r2 ((↑(List.length r2) : Int)) m ((0 : Int)))))) r0 i1 r2 ((0 : Int)) r0 ((↑(List.length r0) : Int)) m ((0 : Int)))
noncomputable def brFn82v1 (m : Nat) (T : Tbl) (R : Type) (vs : List V) (k : V → List V → Option R) : Option R := match vs with
 | [.agg [.bor [.str, .str, .int .i64, .int .i64, .int .i64, .int .i64] r0, .f (.lit (.int .i64 i1)), .bor [.str] r2]] => Fn82v1 m r0 i1 r2 (fun i10 => k (V.f (F.lit (Value.int IntKind.i64 i10))) W17)
 | _ => T R 82 vs k

theorem evFn82v1 (m : Nat) (R : Type) (r0 : Abs.Rows) (i1 : Int) (r2 : Abs.Rows) (k : V → List V → Option R) : runK Tryz.prog H (T84 m) (L73 m) 82 (W121 r0 i1 r2) k = Fn82v1 (m + 1) r0 i1 r2 (fun i10 => k (V.f (F.lit (Value.int IntKind.i64 i10))) W17) := by kernel_rfl
noncomputable def T85 (m : Nat) : Tbl := addT 82 (brFn82v1 m (T84 m)) (T84 m)
theorem okT85 (m : Nat) : TblOk Tryz.prog (T85 m) := addT_ok (okT84 m) fun R vs k x h => by
 unfold brFn82v1 at h
 split at h
 ·cases m with
  | zero => cases h
  | succ m => exact runK_some (okT84 m) hM (okL73 m) ((evFn82v1 m R _ _ _ k).trans h)
 ·exact okT84 m R 82 _ k x h

abbrev W122 (a0 : Abs.Rows) (a1 : ByteArray) (a2 a3 a4 : Int) : List V := [.bor J4 a0, .f (.lit (.string a1)), .clos 113 [], .f (.lit (.int .i64 a2)), .f (.lit (.int .i64 a3)), .f (.lit (.int .i64 a4)), .undef, .undef, .undef]
/-- - -/
noncomputable def Lp112_3v1_step {R : Type} (m : Nat) (kx0 : Int → Int → Option R) (r0 : Abs.Rows) (s1 : ByteArray) (i2 : Int) (REC : Int → Int → Option R) (i3 i4 : Int) : Option R :=
 bif decide (i3 < i4) then (bif decide ((0 : Int) ≤ IntKind.wrap IntKind.i64 (Int.fdiv (IntKind.wrap IntKind.u64 (IntKind.wrap IntKind.i64 (i3 + i4))) ((2 : Int) ^ min (Int.toNat (1 : Int)) (64 : Nat))) ∧ IntKind.wrap IntKind.i64 (Int.fdiv (IntKind.wrap IntKind.u64 (IntKind.wrap IntKind.i64 (i3 + i4))) ((2 : Int) ^ min (Int.toNat (1 : Int)) (64 : Nat))) < (↑(List.length r0) : Int)) then (Fn113 m (fS r0 (Int.toNat (IntKind.wrap IntKind.i64 (Int.fdiv (IntKind.wrap IntKind.u64 (IntKind.wrap IntKind.i64 (i3 + i4))) ((2 : Int) ^ min (Int.toNat (1 : Int)) (64 : Nat))))) (0 : Nat)) (fS r0 (Int.toNat (IntKind.wrap IntKind.i64 (Int.fdiv (IntKind.wrap IntKind.u64 (IntKind.wrap IntKind.i64 (i3 + i4))) ((2 : Int) ^ min (Int.toNat (1 : Int)) (64 : Nat))))) (1 : Nat)) (fI r0 (Int.toNat (IntKind.wrap IntKind.i64 (Int.fdiv (IntKind.wrap IntKind.u64 (IntKind.wrap IntKind.i64 (i3 + i4))) ((2 : Int) ^ min (Int.toNat (1 : Int)) (64 : Nat))))) (2 : Nat)) (fI r0 (Int.toNat (IntKind.wrap IntKind.i64 (Int.fdiv (IntKind.wrap IntKind.u64 (IntKind.wrap IntKind.i64 (i3 + i4))) ((2 : Int) ^ min (Int.toNat (1 : Int)) (64 : Nat))))) (3 : Nat)) (fI r0 (Int.toNat (IntKind.wrap IntKind.i64 (Int.fdiv (IntKind.wrap IntKind.u64 (IntKind.wrap IntKind.i64 (i3 + i4))) ((2 : Int) ^ min (Int.toNat (1 : Int)) (64 : Nat))))) (4 : Nat)) (fI r0 (Int.toNat (IntKind.wrap IntKind.i64 (Int.fdiv (IntKind.wrap IntKind.u64 (IntKind.wrap IntKind.i64 (i3 + i4))) ((2 : Int) ^ min (Int.toNat (1 : Int)) (64 : Nat))))) (5 : Nat)) s1 (fun i5 => bif decide (i5 < (0 : Int)) then (REC (IntKind.wrap IntKind.i64 (IntKind.wrap IntKind.i64 (Int.fdiv (IntKind.wrap IntKind.u64 (IntKind.wrap IntKind.i64 (i3 + i4))) ((2 : Int) ^ min (Int.toNat (1 : Int)) (64 : Nat))) + (1 : Int))) i4) else
 (REC i3 (IntKind.wrap IntKind.i64 (Int.fdiv (IntKind.wrap IntKind.u64 (IntKind.wrap IntKind.i64 (i3 + i4))) ((2 : Int) ^ min (Int.toNat (1 : Int)) (64 : Nat))))))) else
 (none)) else
 (kx0 i3 i4)
noncomputable def Lp112_3v1 {R : Type} (m : Nat) (kx0 : Int → Int → Option R) (r0 : Abs.Rows) (s1 : ByteArray) (i2 : Int) : Nat → Int → Int → Option R
 | 0, _, _ => none
 | n + 1, i3, i4 => Lp112_3v1_step m kx0 r0 s1 i2 (Lp112_3v1 m kx0 r0 s1 i2 n) i3 i4
noncomputable def ELp112_3v1 (m : Nat) (R : Type) : Nat → List V → (Ex → List V → Option R) → Option R
 | 0, _, _ => none
 | n + 1, vs, k => match vs with
  | [.bor [.str, .str, .int .i64, .int .i64, .int .i64, .int .i64] r0, .f (.lit (.string s1)), .clos 113 [], .f (.lit (.int .i64 i2)), .f (.lit (.int .i64 i3)), .f (.lit (.int .i64 i4)), .undef, .undef, .undef] => Lp112_3v1_step m (fun i6 i7 => k (Ex.exit (0 : Nat)) (W122 r0 s1 i2 i6 i7)) r0 s1 i2 (fun i3 i4 => ELp112_3v1 m R n (W122 r0 s1 i2 i3 i4) k) i3 i4
  | _ => none
noncomputable def brLp112_3v1 (m : Nat) (L : LTbl) (R : Type) (vs : List V) (k : Ex → List V → Option R) : Option R := match vs with
 | [.bor [.str, .str, .int .i64, .int .i64, .int .i64, .int .i64] r0, .f (.lit (.string s1)), .clos 113 [], .f (.lit (.int .i64 i2)), .f (.lit (.int .i64 i3)), .f (.lit (.int .i64 i4)), .undef, .undef, .undef] => Lp112_3v1 m (fun i6 i7 => k (Ex.exit (0 : Nat)) (W122 r0 s1 i2 i6 i7)) r0 s1 i2 m i3 i4
 | _ => L R 112 3 vs k

theorem stLp112_3v1 (m n : Nat) (R : Type) (r0 : Abs.Rows) (s1 : ByteArray) (i2 i3 i4 : Int) (k : Ex → List V → Option R) : codeK Tryz.prog H (T85 m) 112 (L73 m) 4 (loopBody Tryz.prog 112 3) (mkEnv [0, 1, 2, 8, 9, 10, 49, 50, 51] (W122 r0 s1 i2 i3 i4) 0 (H.len 112)) (fun e env' => match e with | .normal => ELp112_3v1 m R n (vals [0, 1, 2, 8, 9, 10, 49, 50, 51] env') k | e => k e (vals [0, 1, 2, 8, 9, 10, 49, 50, 51] env')) = Lp112_3v1_step m (fun i6 i7 => k (Ex.exit (0 : Nat)) (W122 r0 s1 i2 i6 i7)) r0 s1 i2 (fun i3 i4 => ELp112_3v1 m R n (W122 r0 s1 i2 i3 i4) k) i3 i4 := by kernel_rfl
theorem eqLp112_3v1 (m : Nat) (R : Type) (r0 : Abs.Rows) (s1 : ByteArray) (i2 : Int) (k : Ex → List V → Option R) : ∀ (n : Nat) (i3 i4 : Int), ELp112_3v1 m R n (W122 r0 s1 i2 i3 i4) k = Lp112_3v1 m (fun i6 i7 => k (Ex.exit (0 : Nat)) (W122 r0 s1 i2 i6 i7)) r0 s1 i2 n i3 i4
 | 0, _, _ => rfl
 | n + 1, i3, i4 => by
  simp only [ELp112_3v1, Lp112_3v1, W122]
  congr 1
  funext i3 i4
  exact eqLp112_3v1 m R r0 s1 i2 k n i3 i4
noncomputable def L74 (m : Nat) : LTbl := addB 112 3 (brLp112_3v1 m (L73 m)) (L73 m)
theorem okL74 (m : Nat) : LTOk Tryz.prog H (L74 m) := addB_ok (okT85 m) hM (okL73 m) (l := [0, 1, 2, 8, 9, 10, 49, 50, 51]) (by kernel_rfl) (by kernel_rfl) m (fun R n vs k => ELp112_3v1 m R n vs k) (fun R vs k => rfl) (fun R n vs k x h => by
   simp only [ELp112_3v1] at h
   split at h
   ·exact (stLp112_3v1 m n R _ _ _ _ _ k).trans h
   ·cases h) fun R vs k x h => by
  unfold brLp112_3v1 at h
  split at h
  ·exact .inl ((eqLp112_3v1 m R _ _ _ k m _ _).trans h)
  ·exact .inr h

abbrev W123 (a0 : Abs.Rows) (a1 : ByteArray) : List V := [.bor J4 a0, .f (.lit (.string a1)), .clos 113 []]
/-- - -/
noncomputable def Fn112v1 {R : Type} (m : Nat) : Abs.Rows → ByteArray → (Int → Bool → Option R) → Option R := match m with
 | 0 => fun _ _ _ => none
 | m + 1 => fun r0 s1 k =>
 Lp112_3v1 m (fun i2 i3 => bif decide (i2 < (↑(List.length r0) : Int)) then (bif decide ((0 : Int) ≤ i2 ∧ i2 < (↑(List.length r0) : Int)) then (Fn113 m (fS r0 (Int.toNat i2) (0 : Nat)) (fS r0 (Int.toNat i2) (1 : Nat)) (fI r0 (Int.toNat i2) (2 : Nat)) (fI r0 (Int.toNat i2) (3 : Nat)) (fI r0 (Int.toNat i2) (4 : Nat)) (fI r0 (Int.toNat i2) (5 : Nat)) s1 (fun i4 => k i2 (i4 == (0 : Int)))) else
 (none)) else
 (k i2 false)) r0 s1 ((↑(List.length r0) : Int)) m ((0 : Int)) ((↑(List.length r0) : Int))
noncomputable def brFn112v1 (m : Nat) (T : Tbl) (R : Type) (vs : List V) (k : V → List V → Option R) : Option R := match vs with
 | [.bor [.str, .str, .int .i64, .int .i64, .int .i64, .int .i64] r0, .f (.lit (.string s1)), .clos 113 []] => Fn112v1 m r0 s1 (fun i5 b6 => k (V.tup (W78 i5 b6)) W32)
 | _ => T R 112 vs k

theorem evFn112v1 (m : Nat) (R : Type) (r0 : Abs.Rows) (s1 : ByteArray) (k : V → List V → Option R) : runK Tryz.prog H (T85 m) (L74 m) 112 (W123 r0 s1) k = Fn112v1 (m + 1) r0 s1 (fun i5 b6 => k (V.tup (W78 i5 b6)) W32) := by kernel_rfl
noncomputable def T86 (m : Nat) : Tbl := addT 112 (brFn112v1 m (T85 m)) (T85 m)
theorem okT86 (m : Nat) : TblOk Tryz.prog (T86 m) := addT_ok (okT85 m) fun R vs k x h => by
 unfold brFn112v1 at h
 split at h
 ·cases m with
  | zero => cases h
  | succ m => exact runK_some (okT85 m) hM (okL74 m) ((evFn112v1 m R _ _ k).trans h)
 ·exact okT85 m R 112 _ k x h

abbrev W124 (a0 : ByteArray) (a1 : Abs.Rows) (a2 : Int) (a3 : Abs.Rows) (a4 a5 : ByteArray) (a6 a7 a8 a9 : Int) (a10 : Bool) (a11 : Int) : List V := [.f (.lit (.string a0)), .obj [.bor J4 a1, .f (.lit (.int .i64 a2)), .bor J3 a3], .obj [.f (.lit (.string a4)), .f (.lit (.string a5)), .f (.lit (.int .i64 a6)), .f (.lit (.int .i64 a7)), .f (.lit (.int .i64 a8)), .f (.lit (.int .i64 a9))], .f (.lit (.bool a10)), .f (.lit (.int .i64 a11)), .undef, .undef]
abbrev K1Lp57_2v1 {R : Type} (k : Ex → List V → Option R) (s0 : ByteArray) (r1 : Abs.Rows) (i2 : Int) (r3 : Abs.Rows) : ByteArray → ByteArray → Int → Int → Int → Int → Bool → Int → Option R := fun s4 s5 i6 i7 i8 i9 b10 i11 => k Ex.ret (W124 s0 r1 i2 r3 s4 s5 i6 i7 i8 i9 b10 i11)
/-- - -/
noncomputable def Lp57_2v1_step {R : Type} (m : Nat) (kx0 : ByteArray → ByteArray → Int → Int → Int → Int → Bool → Int → Option R) (kx1 : Int → Option R) (s0 : ByteArray) (r1 : Abs.Rows) (i2 : Int) (r3 : Abs.Rows) (s12 s13 : ByteArray) (i14 i15 i16 i17 : Int) (b18 : Bool) (REC : Int → Option R) (i19 : Int) : Option R :=
 bif decide (i19 ≥ (0 : Int)) then (bif decide ((0 : Int) ≤ i19 ∧ i19 ≤ (↑(ByteArray.size s0) : Int)) then (Fn112v1 m r1 (ByteArray.extract s0 (0 : Nat) (Int.toNat i19)) (fun i20 b21 => bif b21 then (bif decide ((0 : Int) ≤ i20 ∧ i20 < (↑(List.length r1) : Int)) then (kx0 (fS r1 (Int.toNat i20) (0 : Nat)) (fS r1 (Int.toNat i20) (1 : Nat)) (fI r1 (Int.toNat i20) (2 : Nat)) (fI r1 (Int.toNat i20) (3 : Nat)) (fI r1 (Int.toNat i20) (4 : Nat)) (fI r1 (Int.toNat i20) (5 : Nat)) true i19) else
 (none)) else
 (REC (IntKind.wrap IntKind.i64 (i19 - (1 : Int)))))) else
 (none)) else
 (kx1 i19)
noncomputable def Lp57_2v1 {R : Type} (m : Nat) (kx0 : ByteArray → ByteArray → Int → Int → Int → Int → Bool → Int → Option R) (kx1 : Int → Option R) (s0 : ByteArray) (r1 : Abs.Rows) (i2 : Int) (r3 : Abs.Rows) (s12 s13 : ByteArray) (i14 i15 i16 i17 : Int) (b18 : Bool) : Nat → Int → Option R
 | 0, _ => none
 | n + 1, i19 => Lp57_2v1_step m kx0 kx1 s0 r1 i2 r3 s12 s13 i14 i15 i16 i17 b18 (Lp57_2v1 m kx0 kx1 s0 r1 i2 r3 s12 s13 i14 i15 i16 i17 b18 n) i19
noncomputable def ELp57_2v1 (m : Nat) (R : Type) : Nat → List V → (Ex → List V → Option R) → Option R
 | 0, _, _ => none
 | n + 1, vs, k => match vs with
  | [.f (.lit (.string s0)), .obj [.bor [.str, .str, .int .i64, .int .i64, .int .i64, .int .i64] r1, .f (.lit (.int .i64 i2)), .bor [.str] r3], .obj [.f (.lit (.string s12)), .f (.lit (.string s13)), .f (.lit (.int .i64 i14)), .f (.lit (.int .i64 i15)), .f (.lit (.int .i64 i16)), .f (.lit (.int .i64 i17))], .f (.lit (.bool b18)), .f (.lit (.int .i64 i19)), .undef, .undef] => Lp57_2v1_step m (K1Lp57_2v1 k s0 r1 i2 r3) (fun i22 => k (Ex.exit (0 : Nat)) (W124 s0 r1 i2 r3 s12 s13 i14 i15 i16 i17 b18 i22)) s0 r1 i2 r3 s12 s13 i14 i15 i16 i17 b18 (fun i19 => ELp57_2v1 m R n (W124 s0 r1 i2 r3 s12 s13 i14 i15 i16 i17 b18 i19) k) i19
  | _ => none
noncomputable def brLp57_2v1 (m : Nat) (L : LTbl) (R : Type) (vs : List V) (k : Ex → List V → Option R) : Option R := match vs with
 | [.f (.lit (.string s0)), .obj [.bor [.str, .str, .int .i64, .int .i64, .int .i64, .int .i64] r1, .f (.lit (.int .i64 i2)), .bor [.str] r3], .obj [.f (.lit (.string s12)), .f (.lit (.string s13)), .f (.lit (.int .i64 i14)), .f (.lit (.int .i64 i15)), .f (.lit (.int .i64 i16)), .f (.lit (.int .i64 i17))], .f (.lit (.bool b18)), .f (.lit (.int .i64 i19)), .undef, .undef] => Lp57_2v1 m (K1Lp57_2v1 k s0 r1 i2 r3) (fun i22 => k (Ex.exit (0 : Nat)) (W124 s0 r1 i2 r3 s12 s13 i14 i15 i16 i17 b18 i22)) s0 r1 i2 r3 s12 s13 i14 i15 i16 i17 b18 m i19
 | _ => L R 57 2 vs k

theorem stLp57_2v1 (m n : Nat) (R : Type) (s0 : ByteArray) (r1 : Abs.Rows) (i2 : Int) (r3 : Abs.Rows) (s12 s13 : ByteArray) (i14 i15 i16 i17 : Int) (b18 : Bool) (i19 : Int) (k : Ex → List V → Option R) : codeK Tryz.prog H (T86 m) 57 (L74 m) 3 (loopBody Tryz.prog 57 2) (mkEnv [1, 2, 4, 5, 6, 31, 32] (W124 s0 r1 i2 r3 s12 s13 i14 i15 i16 i17 b18 i19) 0 (H.len 57)) (fun e env' => match e with | .normal => ELp57_2v1 m R n (vals [1, 2, 4, 5, 6, 31, 32] env') k | e => k e (vals [1, 2, 4, 5, 6, 31, 32] env')) = Lp57_2v1_step m (K1Lp57_2v1 k s0 r1 i2 r3) (fun i22 => k (Ex.exit (0 : Nat)) (W124 s0 r1 i2 r3 s12 s13 i14 i15 i16 i17 b18 i22)) s0 r1 i2 r3 s12 s13 i14 i15 i16 i17 b18 (fun i19 => ELp57_2v1 m R n (W124 s0 r1 i2 r3 s12 s13 i14 i15 i16 i17 b18 i19) k) i19 := by kernel_rfl
theorem eqLp57_2v1 (m : Nat) (R : Type) (s0 : ByteArray) (r1 : Abs.Rows) (i2 : Int) (r3 : Abs.Rows) (s12 s13 : ByteArray) (i14 i15 i16 i17 : Int) (b18 : Bool) (k : Ex → List V → Option R) : ∀ (n : Nat) (i19 : Int), ELp57_2v1 m R n (W124 s0 r1 i2 r3 s12 s13 i14 i15 i16 i17 b18 i19) k = Lp57_2v1 m (K1Lp57_2v1 k s0 r1 i2 r3) (fun i22 => k (Ex.exit (0 : Nat)) (W124 s0 r1 i2 r3 s12 s13 i14 i15 i16 i17 b18 i22)) s0 r1 i2 r3 s12 s13 i14 i15 i16 i17 b18 n i19
 | 0, _ => rfl
 | n + 1, i19 => by
  simp only [ELp57_2v1, Lp57_2v1, W124]
  congr 1
  funext i19
  exact eqLp57_2v1 m R s0 r1 i2 r3 s12 s13 i14 i15 i16 i17 b18 k n i19
noncomputable def L75 (m : Nat) : LTbl := addB 57 2 (brLp57_2v1 m (L74 m)) (L74 m)
theorem okL75 (m : Nat) : LTOk Tryz.prog H (L75 m) := addB_ok (okT86 m) hM (okL74 m) (l := [1, 2, 4, 5, 6, 31, 32]) (by kernel_rfl) (by kernel_rfl) m (fun R n vs k => ELp57_2v1 m R n vs k) (fun R vs k => rfl) (fun R n vs k x h => by
   simp only [ELp57_2v1] at h
   split at h
   ·exact (stLp57_2v1 m n R _ _ _ _ _ _ _ _ _ _ _ _ k).trans h
   ·cases h) fun R vs k x h => by
  unfold brLp57_2v1 at h
  split at h
  ·exact .inl ((eqLp57_2v1 m R _ _ _ _ _ _ _ _ _ _ _ k m _).trans h)
  ·exact .inr h

abbrev W125 (a0 : Abs.Rows) (a1 : Int) (a2 : Abs.Rows) (a3 : ByteArray) : List V := [.agg [.bor J4 a0, .f (.lit (.int .i64 a1)), .bor J3 a2], .f (.lit (.string a3))]
/-- - -/
noncomputable def Fn57v1 {R : Type} (m : Nat) : Abs.Rows → Int → Abs.Rows → ByteArray → (ByteArray → ByteArray → Int → Int → Int → Int → Bool → Option R) → Option R := match m with
 | 0 => fun _ _ _ _ _ => none
 | m + 1 => fun r0 i1 r2 s3 k =>
 Lp57_2v1 m (fun s4 s5 i6 i7 i8 i9 b10 i11 => k s4 s5 i6 i7 i8 i9 b10) (fun i12 => k ({ data := #[] }) ({ data := #[] }) ((0 : Int)) ((0 : Int)) ((0 : Int)) ((0 : Int)) false) s3 r0 i1 r2 ({ data := #[] }) ({ data := #[] }) ((0 : Int)) ((0 : Int)) ((0 : Int)) ((0 : Int)) false m ((↑(ByteArray.size s3) : Int))
noncomputable def brFn57v1 (m : Nat) (T : Tbl) (R : Type) (vs : List V) (k : V → List V → Option R) : Option R := match vs with
 | [.agg [.bor [.str, .str, .int .i64, .int .i64, .int .i64, .int .i64] r0, .f (.lit (.int .i64 i1)), .bor [.str] r2], .f (.lit (.string s3))] => Fn57v1 m r0 i1 r2 s3 (fun s13 s14 i15 i16 i17 i18 b19 => k (V.tup (W81 s13 s14 i15 i16 i17 i18 b19)) W1)
 | _ => T R 57 vs k

theorem evFn57v1 (m : Nat) (R : Type) (r0 : Abs.Rows) (i1 : Int) (r2 : Abs.Rows) (s3 : ByteArray) (k : V → List V → Option R) : runK Tryz.prog H (T86 m) (L75 m) 57 (W125 r0 i1 r2 s3) k = Fn57v1 (m + 1) r0 i1 r2 s3 (fun s13 s14 i15 i16 i17 i18 b19 => k (V.tup (W81 s13 s14 i15 i16 i17 i18 b19)) W1) := by kernel_rfl
noncomputable def T87 (m : Nat) : Tbl := addT 57 (brFn57v1 m (T86 m)) (T86 m)
theorem okT87 (m : Nat) : TblOk Tryz.prog (T87 m) := addT_ok (okT86 m) fun R vs k x h => by
 unfold brFn57v1 at h
 split at h
 ·cases m with
  | zero => cases h
  | succ m => exact runK_some (okT86 m) hM (okL75 m) ((evFn57v1 m R _ _ _ _ k).trans h)
 ·exact okT86 m R 57 _ k x h

abbrev W126 (a0 : Abs.Rows) (a1 : Int) (a2 : Abs.Rows) (a3 : ByteArray) (a4 : Int) : List V := [.agg [.bor J4 a0, .f (.lit (.int .i64 a1)), .bor J3 a2], .f (.lit (.string a3)), .f (.lit (.int .i64 a4))]
/-- - -/
noncomputable def Fn63 {R : Type} (m : Nat) : Abs.Rows → Int → Abs.Rows → ByteArray → Int → (Int → Int → Option R) → Option R := match m with
 | 0 => fun _ _ _ _ _ _ => none
 | m + 1 => fun r0 i1 r2 s3 i4 k =>
 Fn82v1 m r0 i1 r2 (fun i5 => bif i5 != (0 : Int) then (k ((0 : Int)) i5) else
 (Fn104 m s3 (fun b6 => bif !b6 then (k ((0 : Int)) ((3 : Int))) else
 (Fn75 m i4 ((0 : Int)) ((86400000 : Int)) (fun b7 => bif !b7 then (k ((0 : Int)) ((1 : Int))) else
 (Fn57v1 m r0 i1 r2 s3 (fun s8 s9 i10 i11 i12 i13 b14 => bif !b14 then (k ((0 : Int)) ((8 : Int))) else
 (Fn110 m s8 s9 i10 i11 i12 i13 i4 (fun i15 => k i15 ((0 : Int)))))))))))
noncomputable def brFn63 (m : Nat) (T : Tbl) (R : Type) (vs : List V) (k : V → List V → Option R) : Option R := match vs with
 | [.agg [.bor [.str, .str, .int .i64, .int .i64, .int .i64, .int .i64] r0, .f (.lit (.int .i64 i1)), .bor [.str] r2], .f (.lit (.string s3)), .f (.lit (.int .i64 i4))] => Fn63 m r0 i1 r2 s3 i4 (fun i16 i17 => k (V.tup (W2 i16 i17)) W32)
 | _ => T R 63 vs k

theorem evFn63 (m : Nat) (R : Type) (r0 : Abs.Rows) (i1 : Int) (r2 : Abs.Rows) (s3 : ByteArray) (i4 : Int) (k : V → List V → Option R) : runK Tryz.prog H (T87 m) (L75 m) 63 (W126 r0 i1 r2 s3 i4) k = Fn63 (m + 1) r0 i1 r2 s3 i4 (fun i16 i17 => k (V.tup (W2 i16 i17)) W32) := by kernel_rfl
noncomputable def T88 (m : Nat) : Tbl := addT 63 (brFn63 m (T87 m)) (T87 m)
theorem okT88 (m : Nat) : TblOk Tryz.prog (T88 m) := addT_ok (okT87 m) fun R vs k x h => by
 unfold brFn63 at h
 split at h
 ·cases m with
  | zero => cases h
  | succ m => exact runK_some (okT87 m) hM (okL75 m) ((evFn63 m R _ _ _ _ _ k).trans h)
 ·exact okT87 m R 63 _ k x h

/-- - -/
noncomputable def Fn21 {R : Type} (m : Nat) : (Bool → Option R) → Option R := match m with
 | 0 => fun _ => none
 | m + 1 => fun  k =>
 Fn63 m ([[F.lit (Value.string { data := #[(43 : UInt8), (49 : UInt8)] }), F.lit (Value.string { data := #[(97 : UInt8)] }), F.lit (Value.int IntKind.i64 (0 : Int)), F.lit (Value.int IntKind.i64 (0 : Int)), F.lit (Value.int IntKind.i64 (1000 : Int)), F.lit (Value.int IntKind.i64 (7 : Int))]]) ((0 : Int)) rows0 ({ data := #[(43 : UInt8), (49 : UInt8), (50 : UInt8), (48 : UInt8), (48 : UInt8)] }) ((1500 : Int)) (fun i0 i1 => bif i1 == (0 : Int) then (k (i0 == (14 : Int))) else
 (k false))
noncomputable def brFn21 (m : Nat) (T : Tbl) (R : Type) (vs : List V) (k : V → List V → Option R) : Option R := match vs with
 | [] => Fn21 m  (fun b2 => k (V.f (F.lit (Value.bool b2))) [])
 | _ => T R 21 vs k

theorem evFn21 (m : Nat) (R : Type)  (k : V → List V → Option R) : runK Tryz.prog H (T88 m) (L75 m) 21 [] k = Fn21 (m + 1)  (fun b2 => k (V.f (F.lit (Value.bool b2))) []) := by kernel_rfl
noncomputable def T89 (m : Nat) : Tbl := addT 21 (brFn21 m (T88 m)) (T88 m)
theorem okT89 (m : Nat) : TblOk Tryz.prog (T89 m) := addT_ok (okT88 m) fun R vs k x h => by
 unfold brFn21 at h
 split at h
 ·cases m with
  | zero => cases h
  | succ m => exact runK_some (okT88 m) hM (okL75 m) ((evFn21 m R k).trans h)
 ·exact okT88 m R 21 _ k x h

abbrev W127 (a0 : Bool) (a1 : Abs.Rows) (a2 : Int) (a3 : Abs.Rows) (a4 : Int) : List V := [.f (.lit (.bool a0)), .obj [.f (.lst J1 a1), .f (.lit (.int .i64 a2))], .own J6 a3, .undef, .tup [.undef, .f (.lit (.int .i64 a4))], .undef, .undef, .undef]

end Go.Proofs.YtcoplddcbedeoaaGreatDoor.Med
end
