/- A part of the proofs of the seat YtcoplddcbedeoaaGreatDoor: no statement of the seat stands here. -/
import Derived.Test.YtcoplddcbedeoaaGreatDoorMedTyped1
section
set_option linter.unusedVariables false
set_option linter.unusedSimpArgs false
set_option linter.unusedSectionVars false
namespace Go.Proofs.YtcoplddcbedeoaaGreatDoor.Med
open Go Go.Abs Go.Proofs
set_option linter.unusedVariables false
set_option maxHeartbeats 8000000
set_option maxRecDepth 100000
/-- - -/
noncomputable def Jn4_16 {R : Type} (m : Nat) (kx0 : Bool → Int → Option R) (b0 : Bool) (r1 : Abs.Rows) (i2 : Int) (r3 : Abs.Rows) (i4 : Int) : Option R :=
 Fn32 m r1 i2 ([[F.lit (Value.string { data := #[(97 : UInt8), (110 : UInt8), (110 : UInt8)] })], [F.lit (Value.string { data := #[(98 : UInt8), (111 : UInt8), (98 : UInt8)] })], [F.lit (Value.string { data := #[] })]]) (fun s5 i6 => Fn9 m r1 i6 ([[F.lit (Value.int IntKind.i64 (0 : Int))], [F.lit (Value.int IntKind.i64 (101 : Int))], [F.lit (Value.int IntKind.i64 (200 : Int))], [F.lit (Value.int IntKind.i64 (1001 : Int))], [F.lit (Value.int IntKind.i64 (61001 : Int))], [F.lit (Value.int IntKind.i64 (-1 : Int))]]) (fun i7 i8 => Fn33 m r3 s5 i7 (fun b9 i10 => Fn34 m s5 (fun b11 => Fn14 m (!b11) ((5 : Int)) (fun i12 => Fn35 m i7 (fun i13 => Fn13 m ([[F.lit (Value.int IntKind.i64 i12)], [F.lit (Value.int IntKind.i64 i13)]]) (fun i14 => bif i10 == i14 then (bif i14 == (0 : Int) then (Fn36 m r3 s5 i7 (fun b15 => bif b9 == b15 then (Fn21 m  (fun b16 => kx0 b16 i8)) else
 (kx0 false i8))) else
 (bif b9 == false then (Fn21 m  (fun b17 => kx0 b17 i8)) else
 (kx0 false i8))) else
 (kx0 false i8))))))))
noncomputable def brJn4_16 (m : Nat) (L : LTbl) (R : Type) (vs : List V) (k : Ex → List V → Option R) : Option R := match vs with
 | [.f (.lit (.bool b0)), .obj [.f (.lst [.int .i64] r1), .f (.lit (.int .i64 i2))], .own [.str, .int .i64, .int .i64, .int .i64] r3, .undef, .tup [.undef, .f (.lit (.int .i64 i4))], .undef, .undef, .undef] => Jn4_16 m (fun b18 i19 => k Ex.ret (W127 b18 r1 i19 r3 i4)) b0 r1 i2 r3 i4
 | _ => L R 4 16 vs k

theorem evJn4_16 (m : Nat) (R : Type) (b0 : Bool) (r1 : Abs.Rows) (i2 : Int) (r3 : Abs.Rows) (i4 : Int) (k : Ex → List V → Option R) : codeK Tryz.prog H (T89 m) 4 (L75 m) 17 (loopBody Tryz.prog 4 16) (mkEnv [2, 3, 9, 23, 35, 40, 41, 135] (W127 b0 r1 i2 r3 i4) 0 (H.len 4)) (fun e env' => k e (vals [2, 3, 9, 23, 35, 40, 41, 135] env')) = Jn4_16 m (fun b18 i19 => k Ex.ret (W127 b18 r1 i19 r3 i4)) b0 r1 i2 r3 i4 := by kernel_rfl
noncomputable def L76 (m : Nat) : LTbl := addJ 4 16 (brJn4_16 m (L75 m)) (L75 m)
theorem okL76 (m : Nat) : LTOk Tryz.prog H (L76 m) := addJ_ok (okT89 m) hM (okL75 m) (l := [2, 3, 9, 23, 35, 40, 41, 135]) (by kernel_rfl) (by kernel_rfl) fun R vs k x h => by
  unfold brJn4_16 at h
  split at h
  ·exact .inl ((evJn4_16 m R _ _ _ _ _ k).trans h)
  ·exact .inr h

abbrev W128 (a0 : Bool) (a1 : Abs.Rows) (a2 : Int) (a3 : Abs.Rows) (a4 : Int) (a5 : Abs.Rows) (a6 a7 : Int) (a8 a9 : Abs.Rows) (a10 a11 : Int) : List V := [.f (.lit (.bool a0)), .obj [.f (.lst J1 a1), .f (.lit (.int .i64 a2))], .own J6 a3, .f (.lit (.int .i64 a4)), .own J1 a5, .f (.lit (.int .i64 a6)), .f (.lit (.int .i64 a7)), .own J6 a8, .own J1 a9, .undef, .tup [.undef, .f (.lit (.int .i64 a10))], .undef, .undef, .tup [.undef, .f (.lit (.int .i64 a11))], .undef, .undef, .tup [.undef, .undef], .undef, .undef, .undef, .undef]
abbrev W129 (a0 : Bool) (a1 : Abs.Rows) (a2 : Int) (a3 : Abs.Rows) (a4 : Int) : List V := [.f (.lit (.bool a0)), .obj [.f (.lst J1 a1), .f (.lit (.int .i64 a2))], .own J6 a3, .undef, .undef, .undef, .undef, .undef, .undef, .undef, .tup [.undef, .f (.lit (.int .i64 a4))], .undef, .undef, .undef, .undef, .undef, .undef, .undef, .undef, .undef, .undef]
/-- - -/
noncomputable def Jn4_13 {R : Type} (m : Nat) (kx0 : Bool → Option R) (kx1 : Bool → Int → Option R) (b0 : Bool) (r1 : Abs.Rows) (i2 : Int) (r3 : Abs.Rows) (i4 : Int) (r5 : Abs.Rows) (i6 i7 : Int) (r8 r9 : Abs.Rows) (i10 i11 : Int) : Option R :=
 bif i4 != i7 then (kx0 false) else
 (Fn31 m r3 r8 (fun b12 => bif !b12 then (kx0 false) else
 (bif i6 != i7 then (kx0 false) else
 (Fn20 m r5 r9 (fun b13 => bif !b13 then (kx0 false) else
 (Jn4_16 m (fun b14 i15 => kx1 b14 i15) b0 r1 i2 r3 i10))))))
noncomputable def brJn4_13 (m : Nat) (L : LTbl) (R : Type) (vs : List V) (k : Ex → List V → Option R) : Option R := match vs with
 | [.f (.lit (.bool b0)), .obj [.f (.lst [.int .i64] r1), .f (.lit (.int .i64 i2))], .own [.str, .int .i64, .int .i64, .int .i64] r3, .f (.lit (.int .i64 i4)), .own [.int .i64] r5, .f (.lit (.int .i64 i6)), .f (.lit (.int .i64 i7)), .own [.str, .int .i64, .int .i64, .int .i64] r8, .own [.int .i64] r9, .undef, .tup [.undef, .f (.lit (.int .i64 i10))], .undef, .undef, .tup [.undef, .f (.lit (.int .i64 i11))], .undef, .undef, .tup [.undef, .undef], .undef, .undef, .undef, .undef] => Jn4_13 m (fun b16 => k Ex.ret (W128 b16 r1 i2 r3 i4 r5 i6 i7 r8 r9 i10 i11)) (fun b17 i18 => k Ex.ret (W129 b17 r1 i18 r3 i10)) b0 r1 i2 r3 i4 r5 i6 i7 r8 r9 i10 i11
 | _ => L R 4 13 vs k

theorem evJn4_13 (m : Nat) (R : Type) (b0 : Bool) (r1 : Abs.Rows) (i2 : Int) (r3 : Abs.Rows) (i4 : Int) (r5 : Abs.Rows) (i6 i7 : Int) (r8 r9 : Abs.Rows) (i10 i11 : Int) (k : Ex → List V → Option R) : codeK Tryz.prog H (T89 m) 4 (L76 m) 14 (loopBody Tryz.prog 4 13) (mkEnv [2, 3, 9, 10, 11, 12, 13, 14, 15, 23, 35, 40, 41, 43, 48, 49, 68, 73, 74, 75, 135] (W128 b0 r1 i2 r3 i4 r5 i6 i7 r8 r9 i10 i11) 0 (H.len 4)) (fun e env' => k e (vals [2, 3, 9, 10, 11, 12, 13, 14, 15, 23, 35, 40, 41, 43, 48, 49, 68, 73, 74, 75, 135] env')) = Jn4_13 m (fun b16 => k Ex.ret (W128 b16 r1 i2 r3 i4 r5 i6 i7 r8 r9 i10 i11)) (fun b17 i18 => k Ex.ret (W129 b17 r1 i18 r3 i10)) b0 r1 i2 r3 i4 r5 i6 i7 r8 r9 i10 i11 := by kernel_rfl
noncomputable def L77 (m : Nat) : LTbl := addJ 4 13 (brJn4_13 m (L76 m)) (L76 m)
theorem okL77 (m : Nat) : LTOk Tryz.prog H (L77 m) := addJ_ok (okT89 m) hM (okL76 m) (l := [2, 3, 9, 10, 11, 12, 13, 14, 15, 23, 35, 40, 41, 43, 48, 49, 68, 73, 74, 75, 135]) (by kernel_rfl) (by kernel_rfl) fun R vs k x h => by
  unfold brJn4_13 at h
  split at h
  ·exact .inl ((evJn4_13 m R _ _ _ _ _ _ _ _ _ _ _ _ k).trans h)
  ·exact .inr h

abbrev W130 (a0 : Bool) (a1 : Abs.Rows) (a2 : Int) (a3 : Abs.Rows) (a4 : Int) (a5 : Abs.Rows) (a6 a7 : Int) (a8 a9 : Abs.Rows) (a10 a11 : Int) : List V := [.f (.lit (.bool a0)), .obj [.f (.lst J1 a1), .f (.lit (.int .i64 a2))], .own J6 a3, .f (.lit (.int .i64 a4)), .own J1 a5, .f (.lit (.int .i64 a6)), .f (.lit (.int .i64 a7)), .own J6 a8, .own J1 a9, .undef, .tup [.undef, .f (.lit (.int .i64 a10))], .undef, .undef, .tup [.undef, .f (.lit (.int .i64 a11))], .undef, .undef, .undef, .undef, .undef, .undef, .undef]
/-- - -/
noncomputable def Jn4_13v1 {R : Type} (m : Nat) (kx0 : Bool → Option R) (kx1 : Bool → Int → Option R) (b0 : Bool) (r1 : Abs.Rows) (i2 : Int) (r3 : Abs.Rows) (i4 : Int) (r5 : Abs.Rows) (i6 i7 : Int) (r8 r9 : Abs.Rows) (i10 i11 : Int) : Option R :=
 bif i4 != i7 then (kx0 false) else
 (Fn31 m r3 r8 (fun b12 => bif !b12 then (kx0 false) else
 (bif i6 != i7 then (kx0 false) else
 (Fn20 m r5 r9 (fun b13 => bif !b13 then (kx0 false) else
 (Jn4_16 m (fun b14 i15 => kx1 b14 i15) b0 r1 i2 r3 i10))))))
noncomputable def brJn4_13v1 (m : Nat) (L : LTbl) (R : Type) (vs : List V) (k : Ex → List V → Option R) : Option R := match vs with
 | [.f (.lit (.bool b0)), .obj [.f (.lst [.int .i64] r1), .f (.lit (.int .i64 i2))], .own [.str, .int .i64, .int .i64, .int .i64] r3, .f (.lit (.int .i64 i4)), .own [.int .i64] r5, .f (.lit (.int .i64 i6)), .f (.lit (.int .i64 i7)), .own [.str, .int .i64, .int .i64, .int .i64] r8, .own [.int .i64] r9, .undef, .tup [.undef, .f (.lit (.int .i64 i10))], .undef, .undef, .tup [.undef, .f (.lit (.int .i64 i11))], .undef, .undef, .undef, .undef, .undef, .undef, .undef] => Jn4_13v1 m (fun b16 => k Ex.ret (W130 b16 r1 i2 r3 i4 r5 i6 i7 r8 r9 i10 i11)) (fun b17 i18 => k Ex.ret (W129 b17 r1 i18 r3 i10)) b0 r1 i2 r3 i4 r5 i6 i7 r8 r9 i10 i11
 | _ => L R 4 13 vs k

theorem evJn4_13v1 (m : Nat) (R : Type) (b0 : Bool) (r1 : Abs.Rows) (i2 : Int) (r3 : Abs.Rows) (i4 : Int) (r5 : Abs.Rows) (i6 i7 : Int) (r8 r9 : Abs.Rows) (i10 i11 : Int) (k : Ex → List V → Option R) : codeK Tryz.prog H (T89 m) 4 (L77 m) 14 (loopBody Tryz.prog 4 13) (mkEnv [2, 3, 9, 10, 11, 12, 13, 14, 15, 23, 35, 40, 41, 43, 48, 49, 68, 73, 74, 75, 135] (W130 b0 r1 i2 r3 i4 r5 i6 i7 r8 r9 i10 i11) 0 (H.len 4)) (fun e env' => k e (vals [2, 3, 9, 10, 11, 12, 13, 14, 15, 23, 35, 40, 41, 43, 48, 49, 68, 73, 74, 75, 135] env')) = Jn4_13v1 m (fun b16 => k Ex.ret (W130 b16 r1 i2 r3 i4 r5 i6 i7 r8 r9 i10 i11)) (fun b17 i18 => k Ex.ret (W129 b17 r1 i18 r3 i10)) b0 r1 i2 r3 i4 r5 i6 i7 r8 r9 i10 i11 := by kernel_rfl
noncomputable def L78 (m : Nat) : LTbl := addJ 4 13 (brJn4_13v1 m (L77 m)) (L77 m)
theorem okL78 (m : Nat) : LTOk Tryz.prog H (L78 m) := addJ_ok (okT89 m) hM (okL77 m) (l := [2, 3, 9, 10, 11, 12, 13, 14, 15, 23, 35, 40, 41, 43, 48, 49, 68, 73, 74, 75, 135]) (by kernel_rfl) (by kernel_rfl) fun R vs k x h => by
  unfold brJn4_13v1 at h
  split at h
  ·exact .inl ((evJn4_13v1 m R _ _ _ _ _ _ _ _ _ _ _ _ k).trans h)
  ·exact .inr h

abbrev W131 (a0 : Abs.Rows) : List V := [.f (.lst J1 a0)]
/-- - -/
noncomputable def Fn4 {R : Type} (m : Nat) : Abs.Rows → (Bool → Option R) → Option R := match m with
 | 0 => fun _ _ => none
 | m + 1 => fun r1 k =>
 Fn8 m r1 ((0 : Int)) ((0 : Int)) ((14 : Int)) (fun i0 i1 => Fn7 m r1 i1 i0 (fun r2 i3 r4 r5 r6 i7 i8 => Fn22 m r1 i8 (fun r9 i10 => Fn23 m r2 i3 r4 r5 r9 r6 (fun r11 i12 => Fn24 m r2 i3 r4 r5 r9 r6 (fun r13 i14 => Fn25 m r2 i3 r4 (fun i15 => Fn26 m r5 (fun i16 => Fn27 m r9 (fun i17 => Fn28 m r6 (fun i18 => Fn13 m ([[F.lit (Value.int IntKind.i64 i15)], [F.lit (Value.int IntKind.i64 i16)], [F.lit (Value.int IntKind.i64 i17)], [F.lit (Value.int IntKind.i64 i18)]]) (fun i19 => Fn29 m r9 (fun i20 => Fn27 m r9 (fun i21 => bif i20 != i21 then (k false) else
 (bif i19 == (0 : Int) then (Fn30 m r2 i3 r4 r5 r9 r6 (fun r22 r23 => Jn4_13 m (fun b24 => k b24) (fun b25 i26 => k b25) false r1 i10 r11 i12 r13 i14 i19 r22 r23 i12 i14)) else
 (Jn4_13v1 m (fun b27 => k b27) (fun b28 i29 => k b28) false r1 i10 r11 i12 r13 i14 i19 rows0 rows0 i12 i14))))))))))))))
noncomputable def brFn4 (m : Nat) (T : Tbl) (R : Type) (vs : List V) (k : V → List V → Option R) : Option R := match vs with
 | [.f (.lst [.int .i64] r1)] => Fn4 m r1 (fun b30 => k (V.f (F.lit (Value.bool b30))) W17)
 | _ => T R 4 vs k

theorem evFn4 (m : Nat) (R : Type) (r1 : Abs.Rows) (k : V → List V → Option R) : runK Tryz.prog H (T89 m) (L78 m) 4 (W131 r1) k = Fn4 (m + 1) r1 (fun b30 => k (V.f (F.lit (Value.bool b30))) W17) := by kernel_rfl
noncomputable def T90 (m : Nat) : Tbl := addT 4 (brFn4 m (T89 m)) (T89 m)
theorem okT90 (m : Nat) : TblOk Tryz.prog (T90 m) := addT_ok (okT89 m) fun R vs k x h => by
 unfold brFn4 at h
 split at h
 ·cases m with
  | zero => cases h
  | succ m => exact runK_some (okT89 m) hM (okL78 m) ((evFn4 m R _ k).trans h)
 ·exact okT89 m R 4 _ k x h


end Go.Proofs.YtcoplddcbedeoaaGreatDoor.Med
end
