/- A part of the proofs of the seat YtcoplddcbedeoaaDoor: no statement of the seat stands here. -/
import Derived.Test.YtcoplddcbedeoaaDoorProg
import Derived.KernelRfl
import Derived.Test.YtcoplddcbedeoaaDoorAbsC
import Derived.Test.YtcoplddcbedeoaaDoorMedPre
section
set_option linter.unusedVariables false
set_option linter.unusedSimpArgs false
set_option linter.unusedSectionVars false
namespace Go.Proofs.YtcoplddcbedeoaaDoor.Med
open Go Go.Abs Go.Proofs
set_option linter.unusedVariables false
set_option maxHeartbeats 8000000
theorem hM : Tryd.prog.follows .mixedOrders = true := by kernel_rfl
theorem idx62 (s : ByteArray) (c : Int) : FnOk Tryd.prog 62 [.f (.lit (.string s)), .f (.lit (.int .u8 c))] (vInt .i64 (idxByte s c)) [.undef, .undef] :=
  idx_ok (fn := Tryd.f62) Tryd.func62 (by kernel_rfl) (by kernel_rfl) (by kernel_rfl) (by kernel_rfl) s c
noncomputable def TC0 : Tbl := addT 62 (brIdx 62 noT) noT
theorem okTC0 : TblOk Tryd.prog TC0 := brIdx_ok noT_ok idx62
noncomputable def TC1 : Tbl := addT 48 (brTrim 48 TC0) TC0
theorem okTC1 : TblOk Tryd.prog TC1 := brTrim_ok okTC0 trim48
noncomputable def TC2 : Tbl := addT 45 (brCmp 45 TC1) TC1
theorem okTC2 : TblOk Tryd.prog TC2 := brCmp_ok okTC1 cmp45
noncomputable def T0 (_ : Nat) : Tbl := TC2
noncomputable def L0 (_ : Nat) : LTbl := noL
theorem okT0 (m : Nat) : TblOk Tryd.prog (T0 m) := okTC2
theorem okL0 (m : Nat) : LTOk Tryd.prog H (L0 m) := noL_ok
/-- hookflash/flashmake.Below -/
noncomputable def Fn40 {R : Type} (m : Nat) : Int → Int → (Int → Option R) → Option R := match m with
  | 0 => fun _ _ _ => none
  | m + 1 => fun i12 i13 k =>
  bif decide (i13 < (1 : Int)) then (k ((0 : Int))) else
  (bif decide (i13 ≠ (0 : Int)) then (bif decide (Int.tmod i12 i13 < (0 : Int)) then (k (IntKind.wrap IntKind.i64 (Int.tmod i12 i13 + i13))) else
  (k (Int.tmod i12 i13))) else
  (none))
noncomputable def brFn40 (m : Nat) (T : Tbl) (R : Type) (vs : List V) (k : V → List V → Option R) : Option R := match vs with
  | [V.f (F.lit (Value.int IntKind.i64 i12)), V.f (F.lit (Value.int IntKind.i64 i13))] => Fn40 m i12 i13 (fun i14 => k (V.f (F.lit (Value.int IntKind.i64 i14))) [V.undef, V.undef])
  | _ => T R 40 vs k
set_option maxRecDepth 100000 in
theorem evFn40 (m : Nat) (R : Type) (i12 : Int) (i13 : Int) (k : V → List V → Option R) : runK Tryd.prog H (T0 m) (L0 m) 40 [V.f (F.lit (Value.int IntKind.i64 i12)), V.f (F.lit (Value.int IntKind.i64 i13))] k = Fn40 (m + 1) i12 i13 (fun i14 => k (V.f (F.lit (Value.int IntKind.i64 i14))) [V.undef, V.undef]) := by kernel_rfl
noncomputable def T1 (m : Nat) : Tbl := addT 40 (brFn40 m (T0 m)) (T0 m)
theorem okT1 (m : Nat) : TblOk Tryd.prog (T1 m) := addT_ok (okT0 m) fun R vs k x h => by
  unfold brFn40 at h
  split at h
  · cases m with
    | zero => cases h
    | succ m => exact runK_some (okT0 m) hM (okL0 m) ((evFn40 m R _ _ k).trans h)
  · exact okT0 m R 40 _ k x h

/-- (*hookflash/flashmake.Stream).Next -/
noncomputable def Fn24 {R : Type} (m : Nat) : Abs.Rows → Int → Int → (Int → Int → Option R) → Option R := match m with
  | 0 => fun _ _ _ _ => none
  | m + 1 => fun r9 i10 i11 k =>
  bif (↑(List.length r9) : Int) == (0 : Int) then (Fn40 m (IntKind.wrap IntKind.i64 (IntKind.wrap IntKind.i64 (i10 + (1 : Int)) * (7919 : Int))) i11 (fun i15 => k i15 (IntKind.wrap IntKind.i64 (i10 + (1 : Int))))) else
  (bif decide ((↑(List.length r9) : Int) ≠ (0 : Int)) then (bif decide ((↑(List.length r9) : Int) ≠ (0 : Int)) then (bif decide ((0 : Int) ≤ Int.tmod (IntKind.wrap IntKind.i64 (IntKind.wrap IntKind.i64 (i10 + (1 : Int)) - (1 : Int))) (↑(List.length r9) : Int) ∧ Int.tmod (IntKind.wrap IntKind.i64 (IntKind.wrap IntKind.i64 (i10 + (1 : Int)) - (1 : Int))) (↑(List.length r9) : Int) < (↑(List.length r9) : Int)) then (Fn40 m (fI r9 (Int.toNat (Int.tmod (IntKind.wrap IntKind.i64 (IntKind.wrap IntKind.i64 (i10 + (1 : Int)) - (1 : Int))) (↑(List.length r9) : Int))) (0 : Nat)) ((1073741824 : Int)) (fun i16 => Fn40 m (IntKind.wrap IntKind.i64 (i16 + IntKind.wrap IntKind.i64 (IntKind.wrap IntKind.i64 (Int.tdiv (IntKind.wrap IntKind.i64 (IntKind.wrap IntKind.i64 (i10 + (1 : Int)) - (1 : Int))) (↑(List.length r9) : Int)) * IntKind.wrap IntKind.i64 ((7919 : Int) + Int.tmod (IntKind.wrap IntKind.i64 (IntKind.wrap IntKind.i64 (i10 + (1 : Int)) - (1 : Int))) (↑(List.length r9) : Int))))) i11 (fun i17 => letV (IntKind.wrap IntKind.i64 (i16 + IntKind.wrap IntKind.i64 (IntKind.wrap IntKind.i64 (Int.tdiv (IntKind.wrap IntKind.i64 (IntKind.wrap IntKind.i64 (i10 + (1 : Int)) - (1 : Int))) (↑(List.length r9) : Int)) * IntKind.wrap IntKind.i64 ((7919 : Int) + Int.tmod (IntKind.wrap IntKind.i64 (IntKind.wrap IntKind.i64 (i10 + (1 : Int)) - (1 : Int))) (↑(List.length r9) : Int))))) (fun i18 => letV (IntKind.wrap IntKind.i64 (IntKind.wrap IntKind.i64 (Int.tdiv (IntKind.wrap IntKind.i64 (IntKind.wrap IntKind.i64 (i10 + (1 : Int)) - (1 : Int))) (↑(List.length r9) : Int)) * IntKind.wrap IntKind.i64 ((7919 : Int) + Int.tmod (IntKind.wrap IntKind.i64 (IntKind.wrap IntKind.i64 (i10 + (1 : Int)) - (1 : Int))) (↑(List.length r9) : Int)))) (fun i19 => k i17 (IntKind.wrap IntKind.i64 (i10 + (1 : Int)))))))) else
  (none)) else
  (none)) else
  (none))
noncomputable def brFn24 (m : Nat) (T : Tbl) (R : Type) (vs : List V) (k : V → List V → Option R) : Option R := match vs with
  | [V.obj [V.f (F.lst [LT.int IntKind.i64] r9), V.f (F.lit (Value.int IntKind.i64 i10))], V.f (F.lit (Value.int IntKind.i64 i11))] => Fn24 m r9 i10 i11 (fun i20 i21 => k (V.f (F.lit (Value.int IntKind.i64 i20))) [V.obj [V.f (F.lst [LT.int IntKind.i64] r9), V.f (F.lit (Value.int IntKind.i64 i21))], V.undef])
  | _ => T R 24 vs k
set_option maxRecDepth 100000 in
theorem evFn24 (m : Nat) (R : Type) (r9 : Abs.Rows) (i10 : Int) (i11 : Int) (k : V → List V → Option R) : runK Tryd.prog H (T1 m) (L0 m) 24 [V.obj [V.f (F.lst [LT.int IntKind.i64] r9), V.f (F.lit (Value.int IntKind.i64 i10))], V.f (F.lit (Value.int IntKind.i64 i11))] k = Fn24 (m + 1) r9 i10 i11 (fun i20 i21 => k (V.f (F.lit (Value.int IntKind.i64 i20))) [V.obj [V.f (F.lst [LT.int IntKind.i64] r9), V.f (F.lit (Value.int IntKind.i64 i21))], V.undef]) := by kernel_rfl
noncomputable def T2 (m : Nat) : Tbl := addT 24 (brFn24 m (T1 m)) (T1 m)
theorem okT2 (m : Nat) : TblOk Tryd.prog (T2 m) := addT_ok (okT1 m) fun R vs k x h => by
  unfold brFn24 at h
  split at h
  · cases m with
    | zero => cases h
    | succ m => exact runK_some (okT1 m) hM (okL0 m) ((evFn24 m R _ _ _ k).trans h)
  · exact okT1 m R 24 _ k x h

/-- (*hookflash/flashmake.Stream).Pick -/
noncomputable def Fn7 {R : Type} (m : Nat) : Abs.Rows → Int → Abs.Rows → (Int → Int → Option R) → Option R := match m with
  | 0 => fun _ _ _ _ => none
  | m + 1 => fun r6 i7 r8 k =>
  Fn24 m r6 i7 ((↑(List.length r8) : Int)) (fun i22 i23 => bif decide ((0 : Int) ≤ i22 ∧ i22 < (↑(List.length r8) : Int)) then (k (fI r8 (Int.toNat i22) (0 : Nat)) i23) else
  (none))
noncomputable def brFn7 (m : Nat) (T : Tbl) (R : Type) (vs : List V) (k : V → List V → Option R) : Option R := match vs with
  | [V.obj [V.f (F.lst [LT.int IntKind.i64] r6), V.f (F.lit (Value.int IntKind.i64 i7))], V.bor [LT.int IntKind.i64] r8] => Fn7 m r6 i7 r8 (fun i24 i25 => k (V.f (F.lit (Value.int IntKind.i64 i24))) [V.obj [V.f (F.lst [LT.int IntKind.i64] r6), V.f (F.lit (Value.int IntKind.i64 i25))], V.undef])
  | _ => T R 7 vs k
set_option maxRecDepth 100000 in
theorem evFn7 (m : Nat) (R : Type) (r6 : Abs.Rows) (i7 : Int) (r8 : Abs.Rows) (k : V → List V → Option R) : runK Tryd.prog H (T2 m) (L0 m) 7 [V.obj [V.f (F.lst [LT.int IntKind.i64] r6), V.f (F.lit (Value.int IntKind.i64 i7))], V.bor [LT.int IntKind.i64] r8] k = Fn7 (m + 1) r6 i7 r8 (fun i24 i25 => k (V.f (F.lit (Value.int IntKind.i64 i24))) [V.obj [V.f (F.lst [LT.int IntKind.i64] r6), V.f (F.lit (Value.int IntKind.i64 i25))], V.undef]) := by kernel_rfl
noncomputable def T3 (m : Nat) : Tbl := addT 7 (brFn7 m (T2 m)) (T2 m)
theorem okT3 (m : Nat) : TblOk Tryd.prog (T3 m) := addT_ok (okT2 m) fun R vs k x h => by
  unfold brFn7 at h
  split at h
  · cases m with
    | zero => cases h
    | succ m => exact runK_some (okT2 m) hM (okL0 m) ((evFn7 m R _ _ _ k).trans h)
  · exact okT2 m R 7 _ k x h

/-- (*hookflash/flashmake.Stream).Flip -/
noncomputable def Fn23 {R : Type} (m : Nat) : Abs.Rows → Int → Int → (Bool → Int → Option R) → Option R := match m with
  | 0 => fun _ _ _ _ => none
  | m + 1 => fun r41 i42 i43 k =>
  Fn24 m r41 i42 i43 (fun i44 i45 => k (i44 == (0 : Int)) i45)
noncomputable def brFn23 (m : Nat) (T : Tbl) (R : Type) (vs : List V) (k : V → List V → Option R) : Option R := match vs with
  | [V.obj [V.f (F.lst [LT.int IntKind.i64] r41), V.f (F.lit (Value.int IntKind.i64 i42))], V.f (F.lit (Value.int IntKind.i64 i43))] => Fn23 m r41 i42 i43 (fun b46 i47 => k (V.f (F.lit (Value.bool b46))) [V.obj [V.f (F.lst [LT.int IntKind.i64] r41), V.f (F.lit (Value.int IntKind.i64 i47))], V.undef])
  | _ => T R 23 vs k
set_option maxRecDepth 100000 in
theorem evFn23 (m : Nat) (R : Type) (r41 : Abs.Rows) (i42 : Int) (i43 : Int) (k : V → List V → Option R) : runK Tryd.prog H (T3 m) (L0 m) 23 [V.obj [V.f (F.lst [LT.int IntKind.i64] r41), V.f (F.lit (Value.int IntKind.i64 i42))], V.f (F.lit (Value.int IntKind.i64 i43))] k = Fn23 (m + 1) r41 i42 i43 (fun b46 i47 => k (V.f (F.lit (Value.bool b46))) [V.obj [V.f (F.lst [LT.int IntKind.i64] r41), V.f (F.lit (Value.int IntKind.i64 i47))], V.undef]) := by kernel_rfl
noncomputable def T4 (m : Nat) : Tbl := addT 23 (brFn23 m (T3 m)) (T3 m)
theorem okT4 (m : Nat) : TblOk Tryd.prog (T4 m) := addT_ok (okT3 m) fun R vs k x h => by
  unfold brFn23 at h
  split at h
  · cases m with
    | zero => cases h
    | succ m => exact runK_some (okT3 m) hM (okL0 m) ((evFn23 m R _ _ _ k).trans h)
  · exact okT3 m R 23 _ k x h

/-- (*hookflash/flashmake.Stream).Some -/
noncomputable def Fn26 {R : Type} (m : Nat) : Abs.Rows → Int → Abs.Rows → (ByteArray → Int → Option R) → Option R := match m with
  | 0 => fun _ _ _ _ => none
  | m + 1 => fun r50 i51 r52 k =>
  Fn24 m r50 i51 ((↑(List.length r52) : Int)) (fun i53 i54 => bif decide ((0 : Int) ≤ i53 ∧ i53 < (↑(List.length r52) : Int)) then (k (fS r52 (Int.toNat i53) (0 : Nat)) i54) else
  (none))
noncomputable def brFn26 (m : Nat) (T : Tbl) (R : Type) (vs : List V) (k : V → List V → Option R) : Option R := match vs with
  | [V.obj [V.f (F.lst [LT.int IntKind.i64] r50), V.f (F.lit (Value.int IntKind.i64 i51))], V.bor [LT.str] r52] => Fn26 m r50 i51 r52 (fun s55 i56 => k (V.f (F.lit (Value.string s55))) [V.obj [V.f (F.lst [LT.int IntKind.i64] r50), V.f (F.lit (Value.int IntKind.i64 i56))], V.undef])
  | _ => T R 26 vs k
set_option maxRecDepth 100000 in
theorem evFn26 (m : Nat) (R : Type) (r50 : Abs.Rows) (i51 : Int) (r52 : Abs.Rows) (k : V → List V → Option R) : runK Tryd.prog H (T4 m) (L0 m) 26 [V.obj [V.f (F.lst [LT.int IntKind.i64] r50), V.f (F.lit (Value.int IntKind.i64 i51))], V.bor [LT.str] r52] k = Fn26 (m + 1) r50 i51 r52 (fun s55 i56 => k (V.f (F.lit (Value.string s55))) [V.obj [V.f (F.lst [LT.int IntKind.i64] r50), V.f (F.lit (Value.int IntKind.i64 i56))], V.undef]) := by kernel_rfl
noncomputable def T5 (m : Nat) : Tbl := addT 26 (brFn26 m (T4 m)) (T4 m)
theorem okT5 (m : Nat) : TblOk Tryd.prog (T5 m) := addT_ok (okT4 m) fun R vs k x h => by
  unfold brFn26 at h
  split at h
  · cases m with
    | zero => cases h
    | succ m => exact runK_some (okT4 m) hM (okL0 m) ((evFn26 m R _ _ _ k).trans h)
  · exact okT4 m R 26 _ k x h

/-- a round of a loop of (*hookflash/flashmake.Stream).RightTariff -/
noncomputable def Lp22_3_step {R : Type} (m : Nat) (kx0 : Abs.Rows → Int → Int → Option R) (r30 : Abs.Rows) (i31 : Int) (r32 : Abs.Rows) (i34 : Int) (r35 : Abs.Rows) (r36 : Abs.Rows) (i37 : Int) (r39 : Abs.Rows) (REC : Abs.Rows → Int → Int → Option R) (r33 : Abs.Rows) (i38 : Int) (i40 : Int) : Option R :=
  bif decide (i38 < i37) then (bif decide ((0 : Int) ≤ i38 ∧ i38 < (↑(List.length r36) : Int)) then (Fn23 m r39 i40 ((3 : Int)) (fun b48 i49 => bif b48 then (REC r33 (IntKind.wrap IntKind.i64 (i38 + (1 : Int))) i49) else
  (Fn26 m r39 i49 ([[F.lit (Value.string { data := #[(104 : UInt8), (111 : UInt8), (109 : UInt8), (101 : UInt8)] })], [F.lit (Value.string { data := #[(110 : UInt8), (101 : UInt8), (97 : UInt8), (114 : UInt8)] })], [F.lit (Value.string { data := #[(102 : UInt8), (97 : UInt8), (114 : UInt8)] })]]) (fun s57 i58 => Fn7 m r39 i58 ([[F.lit (Value.int IntKind.i64 (0 : Int))], [F.lit (Value.int IntKind.i64 (0 : Int))], [F.lit (Value.int IntKind.i64 (1000 : Int))], [F.lit (Value.int IntKind.i64 (999 : Int))]]) (fun i59 i60 => Fn7 m r39 i60 ([[F.lit (Value.int IntKind.i64 (0 : Int))], [F.lit (Value.int IntKind.i64 (0 : Int))], [F.lit (Value.int IntKind.i64 (60000 : Int))]]) (fun i61 i62 => Fn7 m r39 i62 ([[F.lit (Value.int IntKind.i64 (1 : Int))], [F.lit (Value.int IntKind.i64 (1000 : Int))], [F.lit (Value.int IntKind.i64 (60000 : Int))]]) (fun i63 i64 => Fn7 m r39 i64 ([[F.lit (Value.int IntKind.i64 (0 : Int))], [F.lit (Value.int IntKind.i64 (1 : Int))], [F.lit (Value.int IntKind.i64 (10 : Int))], [F.lit (Value.int IntKind.i64 (500 : Int))]]) (fun i65 i66 => bif decide (List.length r33 + List.length [[F.lit (Value.string (fS r36 (Int.toNat i38) (0 : Nat))), F.lit (Value.string s57), F.lit (Value.int IntKind.i64 i59), F.lit (Value.int IntKind.i64 i61), F.lit (Value.int IntKind.i64 i63), F.lit (Value.int IntKind.i64 i65)]] ≤ rowMax) then (letV (r33 ++ [[F.lit (Value.string (fS r36 (Int.toNat i38) (0 : Nat))), F.lit (Value.string s57), F.lit (Value.int IntKind.i64 i59), F.lit (Value.int IntKind.i64 i61), F.lit (Value.int IntKind.i64 i63), F.lit (Value.int IntKind.i64 i65)]]) (fun r67 => REC r67 (IntKind.wrap IntKind.i64 (i38 + (1 : Int))) i66)) else
  (none))))))))) else
  (none)) else
  (kx0 r33 i38 i40)
noncomputable def Lp22_3 {R : Type} (m : Nat) (kx0 : Abs.Rows → Int → Int → Option R) (r30 : Abs.Rows) (i31 : Int) (r32 : Abs.Rows) (i34 : Int) (r35 : Abs.Rows) (r36 : Abs.Rows) (i37 : Int) (r39 : Abs.Rows) : Nat → Abs.Rows → Int → Int → Option R
  | 0, _, _, _ => none
  | n + 1, r33, i38, i40 => Lp22_3_step m kx0 r30 i31 r32 i34 r35 r36 i37 r39 (Lp22_3 m kx0 r30 i31 r32 i34 r35 r36 i37 r39 n) r33 i38 i40
noncomputable def ELp22_3 (m : Nat) (R : Type) : Nat → List V → (Ex → List V → Option R) → Option R
  | 0, _, _ => none
  | n + 1, vs, k => match vs with
    | [V.ref (49 : Nat) (0 : Nat), V.obj [V.own [LT.str, LT.str, LT.int IntKind.i64, LT.int IntKind.i64, LT.int IntKind.i64, LT.int IntKind.i64] r30, V.f (F.lit (Value.int IntKind.i64 i31)), V.own [LT.str] r32], V.obj [V.own [LT.str, LT.str, LT.int IntKind.i64, LT.int IntKind.i64, LT.int IntKind.i64, LT.int IntKind.i64] r33, V.f (F.lit (Value.int IntKind.i64 i34)), V.f (F.lst [LT.str] r35)], V.own [LT.str] r36, V.f (F.lit (Value.int IntKind.i64 i37)), V.f (F.lit (Value.int IntKind.i64 i38)), V.obj [V.f (F.lst [LT.int IntKind.i64] r39), V.f (F.lit (Value.int IntKind.i64 i40))]] => Lp22_3_step m (fun r68 i69 i70 => k (Ex.exit (0 : Nat)) [V.ref (49 : Nat) (0 : Nat), V.obj [V.own [LT.str, LT.str, LT.int IntKind.i64, LT.int IntKind.i64, LT.int IntKind.i64, LT.int IntKind.i64] r30, V.f (F.lit (Value.int IntKind.i64 i31)), V.own [LT.str] r32], V.obj [V.own [LT.str, LT.str, LT.int IntKind.i64, LT.int IntKind.i64, LT.int IntKind.i64, LT.int IntKind.i64] r68, V.f (F.lit (Value.int IntKind.i64 i34)), V.f (F.lst [LT.str] r35)], V.own [LT.str] r36, V.f (F.lit (Value.int IntKind.i64 i37)), V.f (F.lit (Value.int IntKind.i64 i69)), V.obj [V.f (F.lst [LT.int IntKind.i64] r39), V.f (F.lit (Value.int IntKind.i64 i70))]]) r30 i31 r32 i34 r35 r36 i37 r39 (fun r33 i38 i40 => ELp22_3 m R n [V.ref (49 : Nat) (0 : Nat), V.obj [V.own [LT.str, LT.str, LT.int IntKind.i64, LT.int IntKind.i64, LT.int IntKind.i64, LT.int IntKind.i64] r30, V.f (F.lit (Value.int IntKind.i64 i31)), V.own [LT.str] r32], V.obj [V.own [LT.str, LT.str, LT.int IntKind.i64, LT.int IntKind.i64, LT.int IntKind.i64, LT.int IntKind.i64] r33, V.f (F.lit (Value.int IntKind.i64 i34)), V.f (F.lst [LT.str] r35)], V.own [LT.str] r36, V.f (F.lit (Value.int IntKind.i64 i37)), V.f (F.lit (Value.int IntKind.i64 i38)), V.obj [V.f (F.lst [LT.int IntKind.i64] r39), V.f (F.lit (Value.int IntKind.i64 i40))]] k) r33 i38 i40
    | _ => none
noncomputable def brLp22_3 (m : Nat) (L : LTbl) (R : Type) (vs : List V) (k : Ex → List V → Option R) : Option R := match vs with
  | [V.ref (49 : Nat) (0 : Nat), V.obj [V.own [LT.str, LT.str, LT.int IntKind.i64, LT.int IntKind.i64, LT.int IntKind.i64, LT.int IntKind.i64] r30, V.f (F.lit (Value.int IntKind.i64 i31)), V.own [LT.str] r32], V.obj [V.own [LT.str, LT.str, LT.int IntKind.i64, LT.int IntKind.i64, LT.int IntKind.i64, LT.int IntKind.i64] r33, V.f (F.lit (Value.int IntKind.i64 i34)), V.f (F.lst [LT.str] r35)], V.own [LT.str] r36, V.f (F.lit (Value.int IntKind.i64 i37)), V.f (F.lit (Value.int IntKind.i64 i38)), V.obj [V.f (F.lst [LT.int IntKind.i64] r39), V.f (F.lit (Value.int IntKind.i64 i40))]] => Lp22_3 m (fun r68 i69 i70 => k (Ex.exit (0 : Nat)) [V.ref (49 : Nat) (0 : Nat), V.obj [V.own [LT.str, LT.str, LT.int IntKind.i64, LT.int IntKind.i64, LT.int IntKind.i64, LT.int IntKind.i64] r30, V.f (F.lit (Value.int IntKind.i64 i31)), V.own [LT.str] r32], V.obj [V.own [LT.str, LT.str, LT.int IntKind.i64, LT.int IntKind.i64, LT.int IntKind.i64, LT.int IntKind.i64] r68, V.f (F.lit (Value.int IntKind.i64 i34)), V.f (F.lst [LT.str] r35)], V.own [LT.str] r36, V.f (F.lit (Value.int IntKind.i64 i37)), V.f (F.lit (Value.int IntKind.i64 i69)), V.obj [V.f (F.lst [LT.int IntKind.i64] r39), V.f (F.lit (Value.int IntKind.i64 i70))]]) r30 i31 r32 i34 r35 r36 i37 r39 m r33 i38 i40
  | _ => L R 22 3 vs k
set_option maxRecDepth 100000 in
theorem stLp22_3 (m n : Nat) (R : Type) (r30 : Abs.Rows) (i31 : Int) (r32 : Abs.Rows) (r33 : Abs.Rows) (i34 : Int) (r35 : Abs.Rows) (r36 : Abs.Rows) (i37 : Int) (i38 : Int) (r39 : Abs.Rows) (i40 : Int) (k : Ex → List V → Option R) : codeK Tryd.prog H (T5 m) 22 (L0 m) 4 (loopBody Tryd.prog 22 3) (mkEnv [0, 2, 3, 17, 18, 19, 49] [V.ref (49 : Nat) (0 : Nat), V.obj [V.own [LT.str, LT.str, LT.int IntKind.i64, LT.int IntKind.i64, LT.int IntKind.i64, LT.int IntKind.i64] r30, V.f (F.lit (Value.int IntKind.i64 i31)), V.own [LT.str] r32], V.obj [V.own [LT.str, LT.str, LT.int IntKind.i64, LT.int IntKind.i64, LT.int IntKind.i64, LT.int IntKind.i64] r33, V.f (F.lit (Value.int IntKind.i64 i34)), V.f (F.lst [LT.str] r35)], V.own [LT.str] r36, V.f (F.lit (Value.int IntKind.i64 i37)), V.f (F.lit (Value.int IntKind.i64 i38)), V.obj [V.f (F.lst [LT.int IntKind.i64] r39), V.f (F.lit (Value.int IntKind.i64 i40))]] 0 (H.len 22)) (fun e env' => match e with | .normal => ELp22_3 m R n (vals [0, 2, 3, 17, 18, 19, 49] env') k | e => k e (vals [0, 2, 3, 17, 18, 19, 49] env')) = Lp22_3_step m (fun r68 i69 i70 => k (Ex.exit (0 : Nat)) [V.ref (49 : Nat) (0 : Nat), V.obj [V.own [LT.str, LT.str, LT.int IntKind.i64, LT.int IntKind.i64, LT.int IntKind.i64, LT.int IntKind.i64] r30, V.f (F.lit (Value.int IntKind.i64 i31)), V.own [LT.str] r32], V.obj [V.own [LT.str, LT.str, LT.int IntKind.i64, LT.int IntKind.i64, LT.int IntKind.i64, LT.int IntKind.i64] r68, V.f (F.lit (Value.int IntKind.i64 i34)), V.f (F.lst [LT.str] r35)], V.own [LT.str] r36, V.f (F.lit (Value.int IntKind.i64 i37)), V.f (F.lit (Value.int IntKind.i64 i69)), V.obj [V.f (F.lst [LT.int IntKind.i64] r39), V.f (F.lit (Value.int IntKind.i64 i70))]]) r30 i31 r32 i34 r35 r36 i37 r39 (fun r33 i38 i40 => ELp22_3 m R n [V.ref (49 : Nat) (0 : Nat), V.obj [V.own [LT.str, LT.str, LT.int IntKind.i64, LT.int IntKind.i64, LT.int IntKind.i64, LT.int IntKind.i64] r30, V.f (F.lit (Value.int IntKind.i64 i31)), V.own [LT.str] r32], V.obj [V.own [LT.str, LT.str, LT.int IntKind.i64, LT.int IntKind.i64, LT.int IntKind.i64, LT.int IntKind.i64] r33, V.f (F.lit (Value.int IntKind.i64 i34)), V.f (F.lst [LT.str] r35)], V.own [LT.str] r36, V.f (F.lit (Value.int IntKind.i64 i37)), V.f (F.lit (Value.int IntKind.i64 i38)), V.obj [V.f (F.lst [LT.int IntKind.i64] r39), V.f (F.lit (Value.int IntKind.i64 i40))]] k) r33 i38 i40 := by kernel_rfl
theorem eqLp22_3 (m : Nat) (R : Type) (r30 : Abs.Rows) (i31 : Int) (r32 : Abs.Rows) (i34 : Int) (r35 : Abs.Rows) (r36 : Abs.Rows) (i37 : Int) (r39 : Abs.Rows) (k : Ex → List V → Option R) : ∀ (n : Nat) (r33 : Abs.Rows) (i38 : Int) (i40 : Int), ELp22_3 m R n [V.ref (49 : Nat) (0 : Nat), V.obj [V.own [LT.str, LT.str, LT.int IntKind.i64, LT.int IntKind.i64, LT.int IntKind.i64, LT.int IntKind.i64] r30, V.f (F.lit (Value.int IntKind.i64 i31)), V.own [LT.str] r32], V.obj [V.own [LT.str, LT.str, LT.int IntKind.i64, LT.int IntKind.i64, LT.int IntKind.i64, LT.int IntKind.i64] r33, V.f (F.lit (Value.int IntKind.i64 i34)), V.f (F.lst [LT.str] r35)], V.own [LT.str] r36, V.f (F.lit (Value.int IntKind.i64 i37)), V.f (F.lit (Value.int IntKind.i64 i38)), V.obj [V.f (F.lst [LT.int IntKind.i64] r39), V.f (F.lit (Value.int IntKind.i64 i40))]] k = Lp22_3 m (fun r68 i69 i70 => k (Ex.exit (0 : Nat)) [V.ref (49 : Nat) (0 : Nat), V.obj [V.own [LT.str, LT.str, LT.int IntKind.i64, LT.int IntKind.i64, LT.int IntKind.i64, LT.int IntKind.i64] r30, V.f (F.lit (Value.int IntKind.i64 i31)), V.own [LT.str] r32], V.obj [V.own [LT.str, LT.str, LT.int IntKind.i64, LT.int IntKind.i64, LT.int IntKind.i64, LT.int IntKind.i64] r68, V.f (F.lit (Value.int IntKind.i64 i34)), V.f (F.lst [LT.str] r35)], V.own [LT.str] r36, V.f (F.lit (Value.int IntKind.i64 i37)), V.f (F.lit (Value.int IntKind.i64 i69)), V.obj [V.f (F.lst [LT.int IntKind.i64] r39), V.f (F.lit (Value.int IntKind.i64 i70))]]) r30 i31 r32 i34 r35 r36 i37 r39 n r33 i38 i40
  | 0, _, _, _ => rfl
  | n + 1, r33, i38, i40 => by
    simp only [ELp22_3, Lp22_3]
    congr 1
    funext r33 i38 i40
    exact eqLp22_3 m R r30 i31 r32 i34 r35 r36 i37 r39 k n r33 i38 i40
noncomputable def L1 (m : Nat) : LTbl := addB 22 3 (brLp22_3 m (L0 m)) (L0 m)
theorem okL1 (m : Nat) : LTOk Tryd.prog H (L1 m) := addB_ok (okT5 m) hM (okL0 m) (l := [0, 2, 3, 17, 18, 19, 49]) (by kernel_rfl) (by kernel_rfl) m (fun R n vs k => ELp22_3 m R n vs k) (fun R vs k => rfl) (fun R n vs k x h => by
      simp only [ELp22_3] at h
      split at h
      · exact (stLp22_3 m n R _ _ _ _ _ _ _ _ _ _ _ k).trans h
      · cases h) fun R vs k x h => by
    unfold brLp22_3 at h
    split at h
    · exact .inl ((eqLp22_3 m R _ _ _ _ _ _ _ _ k m _ _ _).trans h)
    · exact .inr h

/-- (*hookflash/flashmake.Stream).RightTariff -/
noncomputable def Fn22 {R : Type} (m : Nat) : Abs.Rows → Int → (Abs.Rows → Int → Abs.Rows → Int → Option R) → Option R := match m with
  | 0 => fun _ _ _ => none
  | m + 1 => fun r4 i5 k =>
  Fn7 m r4 i5 ([[F.lit (Value.int IntKind.i64 (0 : Int))], [F.lit (Value.int IntKind.i64 (0 : Int))], [F.lit (Value.int IntKind.i64 (60000 : Int))], [F.lit (Value.int IntKind.i64 (90000 : Int))]]) (fun i26 i27 => Fn24 m r4 i27 ((3 : Int)) (fun i28 i29 => bif decide ((0 : Int) ≤ i28 ∧ i28 < (↑(List.length [[F.lst [LT.str] rows0], [F.lst [LT.str] [[F.lit (Value.string { data := #[(104 : UInt8), (111 : UInt8), (109 : UInt8), (101 : UInt8)] })]]], [F.lst [LT.str] [[F.lit (Value.string { data := #[(104 : UInt8), (111 : UInt8), (109 : UInt8), (101 : UInt8)] })], [F.lit (Value.string { data := #[(110 : UInt8), (101 : UInt8), (97 : UInt8), (114 : UInt8)] })]]]]) : Int)) then (Lp22_3 m (fun r71 i72 i73 => k r71 i26 (fR [[F.lst [LT.str] rows0], [F.lst [LT.str] [[F.lit (Value.string { data := #[(104 : UInt8), (111 : UInt8), (109 : UInt8), (101 : UInt8)] })]]], [F.lst [LT.str] [[F.lit (Value.string { data := #[(104 : UInt8), (111 : UInt8), (109 : UInt8), (101 : UInt8)] })], [F.lit (Value.string { data := #[(110 : UInt8), (101 : UInt8), (97 : UInt8), (114 : UInt8)] })]]]] (Int.toNat i28) (0 : Nat)) i73) rows0 ((0 : Int)) rows0 i26 (fR [[F.lst [LT.str] rows0], [F.lst [LT.str] [[F.lit (Value.string { data := #[(104 : UInt8), (111 : UInt8), (109 : UInt8), (101 : UInt8)] })]]], [F.lst [LT.str] [[F.lit (Value.string { data := #[(104 : UInt8), (111 : UInt8), (109 : UInt8), (101 : UInt8)] })], [F.lit (Value.string { data := #[(110 : UInt8), (101 : UInt8), (97 : UInt8), (114 : UInt8)] })]]]] (Int.toNat i28) (0 : Nat)) ([[F.lit (Value.string { data := #[] })], [F.lit (Value.string { data := #[(43 : UInt8), (52 : UInt8)] })], [F.lit (Value.string { data := #[(43 : UInt8), (52 : UInt8), (57 : UInt8)] })], [F.lit (Value.string { data := #[(43 : UInt8), (52 : UInt8), (57 : UInt8), (51 : UInt8), (48 : UInt8)] })], [F.lit (Value.string { data := #[(43 : UInt8), (53 : UInt8)] })]]) ((↑(List.length [[F.lit (Value.string { data := #[] })], [F.lit (Value.string { data := #[(43 : UInt8), (52 : UInt8)] })], [F.lit (Value.string { data := #[(43 : UInt8), (52 : UInt8), (57 : UInt8)] })], [F.lit (Value.string { data := #[(43 : UInt8), (52 : UInt8), (57 : UInt8), (51 : UInt8), (48 : UInt8)] })], [F.lit (Value.string { data := #[(43 : UInt8), (53 : UInt8)] })]]) : Int)) r4 m rows0 ((0 : Int)) i29) else
  (none)))
noncomputable def brFn22 (m : Nat) (T : Tbl) (R : Type) (vs : List V) (k : V → List V → Option R) : Option R := match vs with
  | [V.obj [V.f (F.lst [LT.int IntKind.i64] r4), V.f (F.lit (Value.int IntKind.i64 i5))]] => Fn22 m r4 i5 (fun r74 i75 r76 i77 => k (V.agg [V.own [LT.str, LT.str, LT.int IntKind.i64, LT.int IntKind.i64, LT.int IntKind.i64, LT.int IntKind.i64] r74, V.f (F.lit (Value.int IntKind.i64 i75)), V.f (F.lst [LT.str] r76)]) [V.obj [V.f (F.lst [LT.int IntKind.i64] r4), V.f (F.lit (Value.int IntKind.i64 i77))]])
  | _ => T R 22 vs k
set_option maxRecDepth 100000 in
theorem evFn22 (m : Nat) (R : Type) (r4 : Abs.Rows) (i5 : Int) (k : V → List V → Option R) : runK Tryd.prog H (T5 m) (L1 m) 22 [V.obj [V.f (F.lst [LT.int IntKind.i64] r4), V.f (F.lit (Value.int IntKind.i64 i5))]] k = Fn22 (m + 1) r4 i5 (fun r74 i75 r76 i77 => k (V.agg [V.own [LT.str, LT.str, LT.int IntKind.i64, LT.int IntKind.i64, LT.int IntKind.i64, LT.int IntKind.i64] r74, V.f (F.lit (Value.int IntKind.i64 i75)), V.f (F.lst [LT.str] r76)]) [V.obj [V.f (F.lst [LT.int IntKind.i64] r4), V.f (F.lit (Value.int IntKind.i64 i77))]]) := by kernel_rfl
noncomputable def T6 (m : Nat) : Tbl := addT 22 (brFn22 m (T5 m)) (T5 m)
theorem okT6 (m : Nat) : TblOk Tryd.prog (T6 m) := addT_ok (okT5 m) fun R vs k x h => by
  unfold brFn22 at h
  split at h
  · cases m with
    | zero => cases h
    | succ m => exact runK_some (okT5 m) hM (okL1 m) ((evFn22 m R _ _ k).trans h)
  · exact okT5 m R 22 _ k x h

/-- (*hookflash/flashmake.Stream).Range -/
noncomputable def Fn41 {R : Type} (m : Nat) : Abs.Rows → Int → Int → Int → (Int → Int → Option R) → Option R := match m with
  | 0 => fun _ _ _ _ _ => none
  | m + 1 => fun r94 i95 i96 i97 k =>
  bif decide (i97 < i96) then (k i96 i95) else
  (Fn24 m r94 i95 (IntKind.wrap IntKind.i64 (IntKind.wrap IntKind.i64 (i97 - i96) + (1 : Int))) (fun i98 i99 => k (IntKind.wrap IntKind.i64 (i96 + i98)) i99))
noncomputable def brFn41 (m : Nat) (T : Tbl) (R : Type) (vs : List V) (k : V → List V → Option R) : Option R := match vs with
  | [V.obj [V.f (F.lst [LT.int IntKind.i64] r94), V.f (F.lit (Value.int IntKind.i64 i95))], V.f (F.lit (Value.int IntKind.i64 i96)), V.f (F.lit (Value.int IntKind.i64 i97))] => Fn41 m r94 i95 i96 i97 (fun i100 i101 => k (V.f (F.lit (Value.int IntKind.i64 i100))) [V.obj [V.f (F.lst [LT.int IntKind.i64] r94), V.f (F.lit (Value.int IntKind.i64 i101))], V.undef, V.undef])
  | _ => T R 41 vs k
set_option maxRecDepth 100000 in
theorem evFn41 (m : Nat) (R : Type) (r94 : Abs.Rows) (i95 : Int) (i96 : Int) (i97 : Int) (k : V → List V → Option R) : runK Tryd.prog H (T6 m) (L1 m) 41 [V.obj [V.f (F.lst [LT.int IntKind.i64] r94), V.f (F.lit (Value.int IntKind.i64 i95))], V.f (F.lit (Value.int IntKind.i64 i96)), V.f (F.lit (Value.int IntKind.i64 i97))] k = Fn41 (m + 1) r94 i95 i96 i97 (fun i100 i101 => k (V.f (F.lit (Value.int IntKind.i64 i100))) [V.obj [V.f (F.lst [LT.int IntKind.i64] r94), V.f (F.lit (Value.int IntKind.i64 i101))], V.undef, V.undef]) := by kernel_rfl
noncomputable def T7 (m : Nat) : Tbl := addT 41 (brFn41 m (T6 m)) (T6 m)
theorem okT7 (m : Nat) : TblOk Tryd.prog (T7 m) := addT_ok (okT6 m) fun R vs k x h => by
  unfold brFn41 at h
  split at h
  · cases m with
    | zero => cases h
    | succ m => exact runK_some (okT6 m) hM (okL1 m) ((evFn41 m R _ _ _ _ k).trans h)
  · exact okT6 m R 41 _ k x h

/-- (*hookflash/flashmake.Stream).Odd -/
noncomputable def Fn25 {R : Type} (m : Nat) : Abs.Rows → Int → Int → Int → (Int → Int → Option R) → Option R := match m with
  | 0 => fun _ _ _ _ _ => none
  | m + 1 => fun r86 i87 i88 i89 k =>
  Fn23 m r86 i87 ((12 : Int)) (fun b90 i91 => bif b90 then (Fn7 m r86 i91 ([[F.lit (Value.int IntKind.i64 (IntKind.wrap IntKind.i64 (i88 - (1 : Int))))], [F.lit (Value.int IntKind.i64 (IntKind.wrap IntKind.i64 (i89 + (1 : Int))))], [F.lit (Value.int IntKind.i64 i88)], [F.lit (Value.int IntKind.i64 i89)], [F.lit (Value.int IntKind.i64 (-1099511627776 : Int))], [F.lit (Value.int IntKind.i64 (1099511627776 : Int))]]) (fun i92 i93 => k i92 i93)) else
  (Fn41 m r86 i91 i88 i89 (fun i102 i103 => k i102 i103)))
noncomputable def brFn25 (m : Nat) (T : Tbl) (R : Type) (vs : List V) (k : V → List V → Option R) : Option R := match vs with
  | [V.obj [V.f (F.lst [LT.int IntKind.i64] r86), V.f (F.lit (Value.int IntKind.i64 i87))], V.f (F.lit (Value.int IntKind.i64 i88)), V.f (F.lit (Value.int IntKind.i64 i89))] => Fn25 m r86 i87 i88 i89 (fun i104 i105 => k (V.f (F.lit (Value.int IntKind.i64 i104))) [V.obj [V.f (F.lst [LT.int IntKind.i64] r86), V.f (F.lit (Value.int IntKind.i64 i105))], V.undef, V.undef])
  | _ => T R 25 vs k
set_option maxRecDepth 100000 in
theorem evFn25 (m : Nat) (R : Type) (r86 : Abs.Rows) (i87 : Int) (i88 : Int) (i89 : Int) (k : V → List V → Option R) : runK Tryd.prog H (T7 m) (L1 m) 25 [V.obj [V.f (F.lst [LT.int IntKind.i64] r86), V.f (F.lit (Value.int IntKind.i64 i87))], V.f (F.lit (Value.int IntKind.i64 i88)), V.f (F.lit (Value.int IntKind.i64 i89))] k = Fn25 (m + 1) r86 i87 i88 i89 (fun i104 i105 => k (V.f (F.lit (Value.int IntKind.i64 i104))) [V.obj [V.f (F.lst [LT.int IntKind.i64] r86), V.f (F.lit (Value.int IntKind.i64 i105))], V.undef, V.undef]) := by kernel_rfl
noncomputable def T8 (m : Nat) : Tbl := addT 25 (brFn25 m (T7 m)) (T7 m)
theorem okT8 (m : Nat) : TblOk Tryd.prog (T8 m) := addT_ok (okT7 m) fun R vs k x h => by
  unfold brFn25 at h
  split at h
  · cases m with
    | zero => cases h
    | succ m => exact runK_some (okT7 m) hM (okL1 m) ((evFn25 m R _ _ _ _ k).trans h)
  · exact okT7 m R 25 _ k x h

/-- (*hookflash/flashmake.Stream).Tariff -/
noncomputable def Fn4 {R : Type} (m : Nat) : Abs.Rows → Int → (Abs.Rows → Int → Abs.Rows → Int → Option R) → Option R := match m with
  | 0 => fun _ _ _ => none
  | m + 1 => fun r2 i3 k =>
  Fn22 m r2 i3 (fun r78 i79 r80 i81 => Fn23 m r2 i81 ((12 : Int)) (fun b82 i83 => bif b82 then (Fn24 m r2 i83 ((3 : Int)) (fun i84 i85 => bif i84 == (0 : Int) then (Fn25 m r2 i85 ((0 : Int)) ((100 : Int)) (fun i106 i107 => k r78 i106 r80 i107)) else
  (bif i84 == (1 : Int) then (Fn24 m r2 i85 ((3 : Int)) (fun i108 i109 => bif decide ((0 : Int) ≤ i108 ∧ i108 < (↑(List.length [[F.lst [LT.str] [[F.lit (Value.string { data := #[(110 : UInt8), (101 : UInt8), (97 : UInt8), (114 : UInt8)] })], [F.lit (Value.string { data := #[(104 : UInt8), (111 : UInt8), (109 : UInt8), (101 : UInt8)] })]]], [F.lst [LT.str] [[F.lit (Value.string { data := #[] })]]], [F.lst [LT.str] [[F.lit (Value.string { data := #[(97 : UInt8)] })], [F.lit (Value.string { data := #[(97 : UInt8)] })]]]]) : Int)) then (k r78 i79 (fR [[F.lst [LT.str] [[F.lit (Value.string { data := #[(110 : UInt8), (101 : UInt8), (97 : UInt8), (114 : UInt8)] })], [F.lit (Value.string { data := #[(104 : UInt8), (111 : UInt8), (109 : UInt8), (101 : UInt8)] })]]], [F.lst [LT.str] [[F.lit (Value.string { data := #[] })]]], [F.lst [LT.str] [[F.lit (Value.string { data := #[(97 : UInt8)] })], [F.lit (Value.string { data := #[(97 : UInt8)] })]]]] (Int.toNat i108) (0 : Nat)) i109) else
  (none))) else
  (Fn26 m r2 i85 ([[F.lit (Value.string { data := #[(43 : UInt8), (57 : UInt8)] })], [F.lit (Value.string { data := #[(57 : UInt8)] })], [F.lit (Value.string { data := #[(43 : UInt8)] })], [F.lit (Value.string { data := #[(43 : UInt8), (49 : UInt8), (97 : UInt8)] })]]) (fun s110 i111 => Fn26 m r2 i111 ([[F.lit (Value.string { data := #[(102 : UInt8), (97 : UInt8), (114 : UInt8)] })], [F.lit (Value.string { data := #[] })]]) (fun s112 i113 => Fn25 m r2 i113 ((0 : Int)) ((1000 : Int)) (fun i114 i115 => Fn25 m r2 i115 ((0 : Int)) ((100 : Int)) (fun i116 i117 => Fn25 m r2 i117 ((1 : Int)) ((100 : Int)) (fun i118 i119 => Fn25 m r2 i119 ((0 : Int)) ((1000000 : Int)) (fun i120 i121 => bif decide (List.length r78 + List.length [[F.lit (Value.string s110), F.lit (Value.string s112), F.lit (Value.int IntKind.i64 i114), F.lit (Value.int IntKind.i64 i116), F.lit (Value.int IntKind.i64 i118), F.lit (Value.int IntKind.i64 i120)]] ≤ rowMax) then (letV (r78 ++ [[F.lit (Value.string s110), F.lit (Value.string s112), F.lit (Value.int IntKind.i64 i114), F.lit (Value.int IntKind.i64 i116), F.lit (Value.int IntKind.i64 i118), F.lit (Value.int IntKind.i64 i120)]]) (fun r122 => k r122 i79 r80 i121)) else
  (none))))))))))) else
  (k r78 i79 r80 i83)))
noncomputable def brFn4 (m : Nat) (T : Tbl) (R : Type) (vs : List V) (k : V → List V → Option R) : Option R := match vs with
  | [V.obj [V.f (F.lst [LT.int IntKind.i64] r2), V.f (F.lit (Value.int IntKind.i64 i3))]] => Fn4 m r2 i3 (fun r123 i124 r125 i126 => k (V.agg [V.own [LT.str, LT.str, LT.int IntKind.i64, LT.int IntKind.i64, LT.int IntKind.i64, LT.int IntKind.i64] r123, V.f (F.lit (Value.int IntKind.i64 i124)), V.f (F.lst [LT.str] r125)]) [V.obj [V.f (F.lst [LT.int IntKind.i64] r2), V.f (F.lit (Value.int IntKind.i64 i126))]])
  | _ => T R 4 vs k
set_option maxRecDepth 100000 in
theorem evFn4 (m : Nat) (R : Type) (r2 : Abs.Rows) (i3 : Int) (k : V → List V → Option R) : runK Tryd.prog H (T8 m) (L1 m) 4 [V.obj [V.f (F.lst [LT.int IntKind.i64] r2), V.f (F.lit (Value.int IntKind.i64 i3))]] k = Fn4 (m + 1) r2 i3 (fun r123 i124 r125 i126 => k (V.agg [V.own [LT.str, LT.str, LT.int IntKind.i64, LT.int IntKind.i64, LT.int IntKind.i64, LT.int IntKind.i64] r123, V.f (F.lit (Value.int IntKind.i64 i124)), V.f (F.lst [LT.str] r125)]) [V.obj [V.f (F.lst [LT.int IntKind.i64] r2), V.f (F.lit (Value.int IntKind.i64 i126))]]) := by kernel_rfl
noncomputable def T9 (m : Nat) : Tbl := addT 4 (brFn4 m (T8 m)) (T8 m)
theorem okT9 (m : Nat) : TblOk Tryd.prog (T9 m) := addT_ok (okT8 m) fun R vs k x h => by
  unfold brFn4 at h
  split at h
  · cases m with
    | zero => cases h
    | succ m => exact runK_some (okT8 m) hM (okL1 m) ((evFn4 m R _ _ k).trans h)
  · exact okT8 m R 4 _ k x h

/-- (*hookflash/flashmake.Stream).RightPayers -/
noncomputable def Fn27 {R : Type} (m : Nat) : Abs.Rows → Int → (Abs.Rows → Int → Option R) → Option R := match m with
  | 0 => fun _ _ _ => none
  | m + 1 => fun r133 i134 k =>
  Fn7 m r133 i134 ([[F.lit (Value.int IntKind.i64 (1 : Int))], [F.lit (Value.int IntKind.i64 (2 : Int))], [F.lit (Value.int IntKind.i64 (3 : Int))], [F.lit (Value.int IntKind.i64 (3 : Int))]]) (fun i135 i136 => bif decide ((0 : Int) ≤ i135 ∧ i135 ≤ (↑(List.length [[F.lit (Value.string { data := #[(97 : UInt8), (110 : UInt8), (110 : UInt8)] }), F.lst [LT.str] [[F.lit (Value.string { data := #[(43 : UInt8), (49 : UInt8), (50 : UInt8), (48 : UInt8), (48 : UInt8)] })], [F.lit (Value.string { data := #[(43 : UInt8), (49 : UInt8), (50 : UInt8), (48 : UInt8), (50 : UInt8)] })]]], [F.lit (Value.string { data := #[(98 : UInt8), (111 : UInt8), (98 : UInt8)] }), F.lst [LT.str] [[F.lit (Value.string { data := #[(43 : UInt8), (49 : UInt8), (50 : UInt8), (48 : UInt8), (49 : UInt8)] })]]], [F.lit (Value.string { data := #[(99 : UInt8), (105 : UInt8), (100 : UInt8)] }), F.lst [LT.str] rows0]]) : Int)) then (k (List.take (Int.toNat i135 - (0 : Nat)) [[F.lit (Value.string { data := #[(97 : UInt8), (110 : UInt8), (110 : UInt8)] }), F.lst [LT.str] [[F.lit (Value.string { data := #[(43 : UInt8), (49 : UInt8), (50 : UInt8), (48 : UInt8), (48 : UInt8)] })], [F.lit (Value.string { data := #[(43 : UInt8), (49 : UInt8), (50 : UInt8), (48 : UInt8), (50 : UInt8)] })]]], [F.lit (Value.string { data := #[(98 : UInt8), (111 : UInt8), (98 : UInt8)] }), F.lst [LT.str] [[F.lit (Value.string { data := #[(43 : UInt8), (49 : UInt8), (50 : UInt8), (48 : UInt8), (49 : UInt8)] })]]], [F.lit (Value.string { data := #[(99 : UInt8), (105 : UInt8), (100 : UInt8)] }), F.lst [LT.str] rows0]]) i136) else
  (none))
noncomputable def brFn27 (m : Nat) (T : Tbl) (R : Type) (vs : List V) (k : V → List V → Option R) : Option R := match vs with
  | [V.obj [V.f (F.lst [LT.int IntKind.i64] r133), V.f (F.lit (Value.int IntKind.i64 i134))]] => Fn27 m r133 i134 (fun r137 i138 => k (V.own [LT.str, LT.lst [LT.str]] r137) [V.obj [V.f (F.lst [LT.int IntKind.i64] r133), V.f (F.lit (Value.int IntKind.i64 i138))]])
  | _ => T R 27 vs k
set_option maxRecDepth 100000 in
theorem evFn27 (m : Nat) (R : Type) (r133 : Abs.Rows) (i134 : Int) (k : V → List V → Option R) : runK Tryd.prog H (T9 m) (L1 m) 27 [V.obj [V.f (F.lst [LT.int IntKind.i64] r133), V.f (F.lit (Value.int IntKind.i64 i134))]] k = Fn27 (m + 1) r133 i134 (fun r137 i138 => k (V.own [LT.str, LT.lst [LT.str]] r137) [V.obj [V.f (F.lst [LT.int IntKind.i64] r133), V.f (F.lit (Value.int IntKind.i64 i138))]]) := by kernel_rfl
noncomputable def T10 (m : Nat) : Tbl := addT 27 (brFn27 m (T9 m)) (T9 m)
theorem okT10 (m : Nat) : TblOk Tryd.prog (T10 m) := addT_ok (okT9 m) fun R vs k x h => by
  unfold brFn27 at h
  split at h
  · cases m with
    | zero => cases h
    | succ m => exact runK_some (okT9 m) hM (okL1 m) ((evFn27 m R _ _ k).trans h)
  · exact okT9 m R 27 _ k x h

/-- (*hookflash/flashmake.Stream).Payers -/
noncomputable def Fn5 {R : Type} (m : Nat) : Abs.Rows → Int → (Abs.Rows → Int → Option R) → Option R := match m with
  | 0 => fun _ _ _ => none
  | m + 1 => fun r131 i132 k =>
  Fn27 m r131 i132 (fun r139 i140 => Fn23 m r131 i140 ((12 : Int)) (fun b141 i142 => bif b141 then (Fn26 m r131 i142 ([[F.lit (Value.string { data := #[] })], [F.lit (Value.string { data := #[(97 : UInt8), (110 : UInt8), (110 : UInt8)] })], [F.lit (Value.string { data := #[(122 : UInt8), (101 : UInt8), (100 : UInt8)] })]]) (fun s143 i144 => Fn26 m r131 i144 ([[F.lit (Value.string { data := #[(43 : UInt8), (49 : UInt8), (50 : UInt8), (48 : UInt8), (48 : UInt8)] })], [F.lit (Value.string { data := #[(43 : UInt8), (49 : UInt8), (50 : UInt8), (48 : UInt8)] })], [F.lit (Value.string { data := #[(49 : UInt8), (50 : UInt8), (48 : UInt8), (49 : UInt8)] })], [F.lit (Value.string { data := #[(43 : UInt8), (48 : UInt8), (49 : UInt8), (50 : UInt8), (51 : UInt8)] })], [F.lit (Value.string { data := #[(43 : UInt8), (57 : UInt8), (57 : UInt8), (57 : UInt8), (57 : UInt8)] })]]) (fun s145 i146 => bif decide (List.length r139 + List.length [[F.lit (Value.string s143), F.lst [LT.str] [[F.lit (Value.string s145)]]]] ≤ rowMax) then (letV (r139 ++ [[F.lit (Value.string s143), F.lst [LT.str] [[F.lit (Value.string s145)]]]]) (fun r147 => k r147 i146)) else
  (none)))) else
  (k r139 i142)))
noncomputable def brFn5 (m : Nat) (T : Tbl) (R : Type) (vs : List V) (k : V → List V → Option R) : Option R := match vs with
  | [V.obj [V.f (F.lst [LT.int IntKind.i64] r131), V.f (F.lit (Value.int IntKind.i64 i132))]] => Fn5 m r131 i132 (fun r148 i149 => k (V.own [LT.str, LT.lst [LT.str]] r148) [V.obj [V.f (F.lst [LT.int IntKind.i64] r131), V.f (F.lit (Value.int IntKind.i64 i149))]])
  | _ => T R 5 vs k
set_option maxRecDepth 100000 in
theorem evFn5 (m : Nat) (R : Type) (r131 : Abs.Rows) (i132 : Int) (k : V → List V → Option R) : runK Tryd.prog H (T10 m) (L1 m) 5 [V.obj [V.f (F.lst [LT.int IntKind.i64] r131), V.f (F.lit (Value.int IntKind.i64 i132))]] k = Fn5 (m + 1) r131 i132 (fun r148 i149 => k (V.own [LT.str, LT.lst [LT.str]] r148) [V.obj [V.f (F.lst [LT.int IntKind.i64] r131), V.f (F.lit (Value.int IntKind.i64 i149))]]) := by kernel_rfl
noncomputable def T11 (m : Nat) : Tbl := addT 5 (brFn5 m (T10 m)) (T10 m)
theorem okT11 (m : Nat) : TblOk Tryd.prog (T11 m) := addT_ok (okT10 m) fun R vs k x h => by
  unfold brFn5 at h
  split at h
  · cases m with
    | zero => cases h
    | succ m => exact runK_some (okT10 m) hM (okL1 m) ((evFn5 m R _ _ k).trans h)
  · exact okT10 m R 5 _ k x h

/-- (*hookflash/flashmake.Stream).Phone -/
noncomputable def Fn6 {R : Type} (m : Nat) : Abs.Rows → Int → (ByteArray → Int → Option R) → Option R := match m with
  | 0 => fun _ _ _ => none
  | m + 1 => fun r152 i153 k =>
  Fn23 m r152 i153 ((25 : Int)) (fun b154 i155 => bif b154 then (Fn26 m r152 i155 ([[F.lit (Value.string { data := #[] })], [F.lit (Value.string { data := #[(43 : UInt8), (49 : UInt8), (50 : UInt8), (51 : UInt8)] })], [F.lit (Value.string { data := #[(43 : UInt8), (48 : UInt8), (49 : UInt8), (50 : UInt8), (51 : UInt8)] })], [F.lit (Value.string { data := #[(49 : UInt8), (50 : UInt8), (51 : UInt8), (52 : UInt8)] })], [F.lit (Value.string { data := #[(43 : UInt8), (49 : UInt8), (50 : UInt8), (51 : UInt8), (52 : UInt8), (53 : UInt8), (54 : UInt8), (55 : UInt8), (56 : UInt8), (57 : UInt8), (48 : UInt8), (49 : UInt8), (50 : UInt8), (51 : UInt8), (52 : UInt8), (53 : UInt8), (54 : UInt8)] })], [F.lit (Value.string { data := #[(43 : UInt8), (49 : UInt8), (50 : UInt8), (97 : UInt8), (52 : UInt8)] })]]) (fun s156 i157 => k s156 i157)) else
  (Fn26 m r152 i155 ([[F.lit (Value.string { data := #[(43 : UInt8), (49 : UInt8), (50 : UInt8), (48 : UInt8), (48 : UInt8)] })], [F.lit (Value.string { data := #[(43 : UInt8), (49 : UInt8), (50 : UInt8), (48 : UInt8), (48 : UInt8)] })], [F.lit (Value.string { data := #[(43 : UInt8), (49 : UInt8), (50 : UInt8), (48 : UInt8), (49 : UInt8)] })], [F.lit (Value.string { data := #[(43 : UInt8), (49 : UInt8), (50 : UInt8), (48 : UInt8), (50 : UInt8)] })], [F.lit (Value.string { data := #[(43 : UInt8), (57 : UInt8), (57 : UInt8), (57 : UInt8), (57 : UInt8)] })], [F.lit (Value.string { data := #[(43 : UInt8), (52 : UInt8), (51 : UInt8), (49 : UInt8), (50 : UInt8)] })], [F.lit (Value.string { data := #[(43 : UInt8), (52 : UInt8), (57 : UInt8), (51 : UInt8), (48 : UInt8), (49 : UInt8)] })], [F.lit (Value.string { data := #[(43 : UInt8), (52 : UInt8), (57 : UInt8), (51 : UInt8), (48 : UInt8), (50 : UInt8)] })], [F.lit (Value.string { data := #[(43 : UInt8), (53 : UInt8), (53 : UInt8), (49 : UInt8), (50 : UInt8)] })]]) (fun s158 i159 => k s158 i159)))
noncomputable def brFn6 (m : Nat) (T : Tbl) (R : Type) (vs : List V) (k : V → List V → Option R) : Option R := match vs with
  | [V.obj [V.f (F.lst [LT.int IntKind.i64] r152), V.f (F.lit (Value.int IntKind.i64 i153))]] => Fn6 m r152 i153 (fun s160 i161 => k (V.f (F.lit (Value.string s160))) [V.obj [V.f (F.lst [LT.int IntKind.i64] r152), V.f (F.lit (Value.int IntKind.i64 i161))]])
  | _ => T R 6 vs k
set_option maxRecDepth 100000 in
theorem evFn6 (m : Nat) (R : Type) (r152 : Abs.Rows) (i153 : Int) (k : V → List V → Option R) : runK Tryd.prog H (T11 m) (L1 m) 6 [V.obj [V.f (F.lst [LT.int IntKind.i64] r152), V.f (F.lit (Value.int IntKind.i64 i153))]] k = Fn6 (m + 1) r152 i153 (fun s160 i161 => k (V.f (F.lit (Value.string s160))) [V.obj [V.f (F.lst [LT.int IntKind.i64] r152), V.f (F.lit (Value.int IntKind.i64 i161))]]) := by kernel_rfl
noncomputable def T12 (m : Nat) : Tbl := addT 6 (brFn6 m (T11 m)) (T11 m)
theorem okT12 (m : Nat) : TblOk Tryd.prog (T12 m) := addT_ok (okT11 m) fun R vs k x h => by
  unfold brFn6 at h
  split at h
  · cases m with
    | zero => cases h
    | succ m => exact runK_some (okT11 m) hM (okL1 m) ((evFn6 m R _ _ k).trans h)
  · exact okT11 m R 6 _ k x h

/-- internal/stringslite.HasPrefix -/
noncomputable def Fn52 {R : Type} (m : Nat) : ByteArray → ByteArray → (Bool → Option R) → Option R := match m with
  | 0 => fun _ _ _ => none
  | m + 1 => fun s185 s186 k =>
  bif decide ((↑(ByteArray.size s185) : Int) ≥ (↑(ByteArray.size s186) : Int)) then (bif decide ((0 : Int) ≤ (↑(ByteArray.size s186) : Int) ∧ (↑(ByteArray.size s186) : Int) ≤ (↑(ByteArray.size s185) : Int)) then (k (ByteArray.toList (ByteArray.extract s185 (0 : Nat) (Int.toNat (↑(ByteArray.size s186) : Int))) == ByteArray.toList s186)) else
  (none)) else
  (k false)
noncomputable def brFn52 (m : Nat) (T : Tbl) (R : Type) (vs : List V) (k : V → List V → Option R) : Option R := match vs with
  | [V.f (F.lit (Value.string s185)), V.f (F.lit (Value.string s186))] => Fn52 m s185 s186 (fun b187 => k (V.f (F.lit (Value.bool b187))) [V.undef, V.undef])
  | _ => T R 52 vs k
set_option maxRecDepth 100000 in
theorem evFn52 (m : Nat) (R : Type) (s185 : ByteArray) (s186 : ByteArray) (k : V → List V → Option R) : runK Tryd.prog H (T12 m) (L1 m) 52 [V.f (F.lit (Value.string s185)), V.f (F.lit (Value.string s186))] k = Fn52 (m + 1) s185 s186 (fun b187 => k (V.f (F.lit (Value.bool b187))) [V.undef, V.undef]) := by kernel_rfl
noncomputable def T13 (m : Nat) : Tbl := addT 52 (brFn52 m (T12 m)) (T12 m)
theorem okT13 (m : Nat) : TblOk Tryd.prog (T13 m) := addT_ok (okT12 m) fun R vs k x h => by
  unfold brFn52 at h
  split at h
  · cases m with
    | zero => cases h
    | succ m => exact runK_some (okT12 m) hM (okL1 m) ((evFn52 m R _ _ k).trans h)
  · exact okT12 m R 52 _ k x h

/-- internal/stringslite.CutPrefix -/
noncomputable def Fn46 {R : Type} (m : Nat) : ByteArray → ByteArray → (ByteArray → Bool → Option R) → Option R := match m with
  | 0 => fun _ _ _ => none
  | m + 1 => fun s183 s184 k =>
  Fn52 m s183 s184 (fun b188 => bif !b188 then (k s183 false) else
  (bif decide ((0 : Int) ≤ (↑(ByteArray.size s184) : Int) ∧ (↑(ByteArray.size s184) : Int) ≤ (↑(ByteArray.size s183) : Int)) then (k (ByteArray.extract s183 (Int.toNat (↑(ByteArray.size s184) : Int)) (ByteArray.size s183)) true) else
  (none)))
noncomputable def brFn46 (m : Nat) (T : Tbl) (R : Type) (vs : List V) (k : V → List V → Option R) : Option R := match vs with
  | [V.f (F.lit (Value.string s183)), V.f (F.lit (Value.string s184))] => Fn46 m s183 s184 (fun s189 b190 => k (V.tup [V.f (F.lit (Value.string s189)), V.f (F.lit (Value.bool b190))]) [V.undef, V.undef])
  | _ => T R 46 vs k
set_option maxRecDepth 100000 in
theorem evFn46 (m : Nat) (R : Type) (s183 : ByteArray) (s184 : ByteArray) (k : V → List V → Option R) : runK Tryd.prog H (T13 m) (L1 m) 46 [V.f (F.lit (Value.string s183)), V.f (F.lit (Value.string s184))] k = Fn46 (m + 1) s183 s184 (fun s189 b190 => k (V.tup [V.f (F.lit (Value.string s189)), V.f (F.lit (Value.bool b190))]) [V.undef, V.undef]) := by kernel_rfl
noncomputable def T14 (m : Nat) : Tbl := addT 46 (brFn46 m (T13 m)) (T13 m)
theorem okT14 (m : Nat) : TblOk Tryd.prog (T14 m) := addT_ok (okT13 m) fun R vs k x h => by
  unfold brFn46 at h
  split at h
  · cases m with
    | zero => cases h
    | succ m => exact runK_some (okT13 m) hM (okL1 m) ((evFn46 m R _ _ k).trans h)
  · exact okT13 m R 46 _ k x h

/-- strings.CutPrefix -/
noncomputable def Fn33 {R : Type} (m : Nat) : ByteArray → ByteArray → (ByteArray → Bool → Option R) → Option R := match m with
  | 0 => fun _ _ _ => none
  | m + 1 => fun s181 s182 k =>
  Fn46 m s181 s182 (fun s191 b192 => k s191 b192)
noncomputable def brFn33 (m : Nat) (T : Tbl) (R : Type) (vs : List V) (k : V → List V → Option R) : Option R := match vs with
  | [V.f (F.lit (Value.string s181)), V.f (F.lit (Value.string s182))] => Fn33 m s181 s182 (fun s193 b194 => k (V.tup [V.f (F.lit (Value.string s193)), V.f (F.lit (Value.bool b194))]) [V.undef, V.undef])
  | _ => T R 33 vs k
set_option maxRecDepth 100000 in
theorem evFn33 (m : Nat) (R : Type) (s181 : ByteArray) (s182 : ByteArray) (k : V → List V → Option R) : runK Tryd.prog H (T14 m) (L1 m) 33 [V.f (F.lit (Value.string s181)), V.f (F.lit (Value.string s182))] k = Fn33 (m + 1) s181 s182 (fun s193 b194 => k (V.tup [V.f (F.lit (Value.string s193)), V.f (F.lit (Value.bool b194))]) [V.undef, V.undef]) := by kernel_rfl
noncomputable def T15 (m : Nat) : Tbl := addT 33 (brFn33 m (T14 m)) (T14 m)
theorem okT15 (m : Nat) : TblOk Tryd.prog (T15 m) := addT_ok (okT14 m) fun R vs k x h => by
  unfold brFn33 at h
  split at h
  · cases m with
    | zero => cases h
    | succ m => exact runK_some (okT14 m) hM (okL1 m) ((evFn33 m R _ _ k).trans h)
  · exact okT14 m R 33 _ k x h

/-- hookflash/account.isPrefix -/
noncomputable def Fn37 {R : Type} (m : Nat) : ByteArray → (Bool → Option R) → Option R := match m with
  | 0 => fun _ _ => none
  | m + 1 => fun s180 k =>
  Fn33 m s180 ({ data := #[(43 : UInt8)] }) (fun s195 b196 => bif ByteArray.toList s180 == ByteArray.toList { data := #[] } then (k true) else
  (bif b196 then (bif decide ((↑(ByteArray.size s195) : Int) ≤ (15 : Int)) then (bif trimOk s195 { data := #[(48 : UInt8), (49 : UInt8), (50 : UInt8), (51 : UInt8), (52 : UInt8), (53 : UInt8), (54 : UInt8), (55 : UInt8), (56 : UInt8), (57 : UInt8)] } then (k (ByteArray.toList (trimB s195 { data := #[(48 : UInt8), (49 : UInt8), (50 : UInt8), (51 : UInt8), (52 : UInt8), (53 : UInt8), (54 : UInt8), (55 : UInt8), (56 : UInt8), (57 : UInt8)] }) == ByteArray.toList { data := #[] })) else
  (none)) else
  (k false)) else
  (k false)))
noncomputable def brFn37 (m : Nat) (T : Tbl) (R : Type) (vs : List V) (k : V → List V → Option R) : Option R := match vs with
  | [V.f (F.lit (Value.string s180))] => Fn37 m s180 (fun b197 => k (V.f (F.lit (Value.bool b197))) [V.undef])
  | _ => T R 37 vs k
set_option maxRecDepth 100000 in
theorem evFn37 (m : Nat) (R : Type) (s180 : ByteArray) (k : V → List V → Option R) : runK Tryd.prog H (T15 m) (L1 m) 37 [V.f (F.lit (Value.string s180))] k = Fn37 (m + 1) s180 (fun b197 => k (V.f (F.lit (Value.bool b197))) [V.undef]) := by kernel_rfl
noncomputable def T16 (m : Nat) : Tbl := addT 37 (brFn37 m (T15 m)) (T15 m)
theorem okT16 (m : Nat) : TblOk Tryd.prog (T16 m) := addT_ok (okT15 m) fun R vs k x h => by
  unfold brFn37 at h
  split at h
  · cases m with
    | zero => cases h
    | succ m => exact runK_some (okT15 m) hM (okL1 m) ((evFn37 m R _ k).trans h)
  · exact okT15 m R 37 _ k x h

/-- hookflash/number.IsKey -/
noncomputable def Fn38 {R : Type} (m : Nat) : ByteArray → (Bool → Option R) → Option R := match m with
  | 0 => fun _ _ => none
  | m + 1 => fun s199 k =>
  bif decide ((↑(ByteArray.size s199) : Int) ≥ (1 : Int)) then (bif decide ((↑(ByteArray.size s199) : Int) ≤ (40 : Int)) then (bif decide ((0 : Int) ≤ (0 : Int) ∧ (0 : Int) < (↑(ByteArray.size s199) : Int)) then (bif decide ((↑(UInt8.toNat (Array.getD (ByteArray.data s199) (Int.toNat (0 : Int)) (0 : UInt8))) : Int) ≥ (97 : Int)) then (bif decide ((0 : Int) ≤ (0 : Int) ∧ (0 : Int) < (↑(ByteArray.size s199) : Int)) then (bif decide ((↑(UInt8.toNat (Array.getD (ByteArray.data s199) (Int.toNat (0 : Int)) (0 : UInt8))) : Int) ≤ (122 : Int)) then (bif trimOk s199 { data := #[(97 : UInt8), (98 : UInt8), (99 : UInt8), (100 : UInt8), (101 : UInt8), (102 : UInt8), (103 : UInt8), (104 : UInt8), (105 : UInt8), (106 : UInt8), (107 : UInt8), (108 : UInt8), (109 : UInt8), (110 : UInt8), (111 : UInt8), (112 : UInt8), (113 : UInt8), (114 : UInt8), (115 : UInt8), (116 : UInt8), (117 : UInt8), (118 : UInt8), (119 : UInt8), (120 : UInt8), (121 : UInt8), (122 : UInt8), (48 : UInt8), (49 : UInt8), (50 : UInt8), (51 : UInt8), (52 : UInt8), (53 : UInt8), (54 : UInt8), (55 : UInt8), (56 : UInt8), (57 : UInt8), (45 : UInt8), (95 : UInt8)] } then (k (ByteArray.toList (trimB s199 { data := #[(97 : UInt8), (98 : UInt8), (99 : UInt8), (100 : UInt8), (101 : UInt8), (102 : UInt8), (103 : UInt8), (104 : UInt8), (105 : UInt8), (106 : UInt8), (107 : UInt8), (108 : UInt8), (109 : UInt8), (110 : UInt8), (111 : UInt8), (112 : UInt8), (113 : UInt8), (114 : UInt8), (115 : UInt8), (116 : UInt8), (117 : UInt8), (118 : UInt8), (119 : UInt8), (120 : UInt8), (121 : UInt8), (122 : UInt8), (48 : UInt8), (49 : UInt8), (50 : UInt8), (51 : UInt8), (52 : UInt8), (53 : UInt8), (54 : UInt8), (55 : UInt8), (56 : UInt8), (57 : UInt8), (45 : UInt8), (95 : UInt8)] }) == ByteArray.toList { data := #[] })) else
  (none)) else
  (k false)) else
  (none)) else
  (k false)) else
  (none)) else
  (k false)) else
  (k false)
noncomputable def brFn38 (m : Nat) (T : Tbl) (R : Type) (vs : List V) (k : V → List V → Option R) : Option R := match vs with
  | [V.f (F.lit (Value.string s199))] => Fn38 m s199 (fun b200 => k (V.f (F.lit (Value.bool b200))) [V.undef])
  | _ => T R 38 vs k
set_option maxRecDepth 100000 in
theorem evFn38 (m : Nat) (R : Type) (s199 : ByteArray) (k : V → List V → Option R) : runK Tryd.prog H (T16 m) (L1 m) 38 [V.f (F.lit (Value.string s199))] k = Fn38 (m + 1) s199 (fun b200 => k (V.f (F.lit (Value.bool b200))) [V.undef]) := by kernel_rfl
noncomputable def T17 (m : Nat) : Tbl := addT 38 (brFn38 m (T16 m)) (T16 m)
theorem okT17 (m : Nat) : TblOk Tryd.prog (T17 m) := addT_ok (okT16 m) fun R vs k x h => by
  unfold brFn38 at h
  split at h
  · cases m with
    | zero => cases h
    | succ m => exact runK_some (okT16 m) hM (okL1 m) ((evFn38 m R _ k).trans h)
  · exact okT16 m R 38 _ k x h

/-- hookflash/account.within -/
noncomputable def Fn30 {R : Type} (m : Nat) : Int → Int → Int → (Bool → Option R) → Option R := match m with
  | 0 => fun _ _ _ _ => none
  | m + 1 => fun i202 i203 i204 k =>
  bif decide (i202 ≥ i203) then (k (decide (i202 ≤ i204))) else
  (k false)
noncomputable def brFn30 (m : Nat) (T : Tbl) (R : Type) (vs : List V) (k : V → List V → Option R) : Option R := match vs with
  | [V.f (F.lit (Value.int IntKind.i64 i202)), V.f (F.lit (Value.int IntKind.i64 i203)), V.f (F.lit (Value.int IntKind.i64 i204))] => Fn30 m i202 i203 i204 (fun b205 => k (V.f (F.lit (Value.bool b205))) [V.undef, V.undef, V.undef])
  | _ => T R 30 vs k
set_option maxRecDepth 100000 in
theorem evFn30 (m : Nat) (R : Type) (i202 : Int) (i203 : Int) (i204 : Int) (k : V → List V → Option R) : runK Tryd.prog H (T17 m) (L1 m) 30 [V.f (F.lit (Value.int IntKind.i64 i202)), V.f (F.lit (Value.int IntKind.i64 i203)), V.f (F.lit (Value.int IntKind.i64 i204))] k = Fn30 (m + 1) i202 i203 i204 (fun b205 => k (V.f (F.lit (Value.bool b205))) [V.undef, V.undef, V.undef]) := by kernel_rfl
noncomputable def T18 (m : Nat) : Tbl := addT 30 (brFn30 m (T17 m)) (T17 m)
theorem okT18 (m : Nat) : TblOk Tryd.prog (T18 m) := addT_ok (okT17 m) fun R vs k x h => by
  unfold brFn30 at h
  split at h
  · cases m with
    | zero => cases h
    | succ m => exact runK_some (okT17 m) hM (okL1 m) ((evFn30 m R _ _ _ k).trans h)
  · exact okT17 m R 30 _ k x h

/-- a rest of hookflash/account.CheckTariff -/
noncomputable def Jn16_13 {R : Type} (m : Nat) (kx0 : Int → Bool → Option R) (kx1 : Bool → Option R) (r207 : Abs.Rows) (i208 : Int) (r209 : Abs.Rows) (i210 : Int) (i211 : Int) (s212 : ByteArray) (s213 : ByteArray) (i214 : Int) (i215 : Int) (i216 : Int) (i217 : Int) (r218 : Abs.Rows) (i219 : Int) (i220 : Int) (b221 : Bool) : Option R :=
  bif b221 then (kx0 ((1 : Int)) true) else
  (bif decide (i211 > (0 : Int)) then (bif decide ((0 : Int) ≤ IntKind.wrap IntKind.i64 (i211 - (1 : Int)) ∧ IntKind.wrap IntKind.i64 (i211 - (1 : Int)) < (↑(List.length r207) : Int)) then (bif Op.bytesLess (ByteArray.toList s212) (ByteArray.toList (fS r207 (Int.toNat (IntKind.wrap IntKind.i64 (i211 - (1 : Int)))) (0 : Nat))) || ByteArray.toList s212 == ByteArray.toList (fS r207 (Int.toNat (IntKind.wrap IntKind.i64 (i211 - (1 : Int)))) (0 : Nat)) then (kx0 ((7 : Int)) false) else
  (kx1 false)) else
  (none)) else
  (kx1 false))
noncomputable def brJn16_13 (m : Nat) (L : LTbl) (R : Type) (vs : List V) (k : Ex → List V → Option R) : Option R := match vs with
  | [V.obj [V.bor [LT.str, LT.str, LT.int IntKind.i64, LT.int IntKind.i64, LT.int IntKind.i64, LT.int IntKind.i64] r207, V.f (F.lit (Value.int IntKind.i64 i208)), V.f (F.lst [LT.str] r209)], V.f (F.lit (Value.int IntKind.i64 i210)), V.f (F.lit (Value.int IntKind.i64 i211)), V.obj [V.f (F.lit (Value.string s212)), V.f (F.lit (Value.string s213)), V.f (F.lit (Value.int IntKind.i64 i214)), V.f (F.lit (Value.int IntKind.i64 i215)), V.f (F.lit (Value.int IntKind.i64 i216)), V.f (F.lit (Value.int IntKind.i64 i217))], V.ref (1 : Nat) (0 : Nat), V.bor [LT.str, LT.str, LT.int IntKind.i64, LT.int IntKind.i64, LT.int IntKind.i64, LT.int IntKind.i64] r218, V.f (F.lit (Value.int IntKind.i64 i219)), V.f (F.lit (Value.int IntKind.i64 i220)), V.f (F.lit (Value.bool b221)), V.undef] => Jn16_13 m (fun i222 b223 => k Ex.ret [V.obj [V.bor [LT.str, LT.str, LT.int IntKind.i64, LT.int IntKind.i64, LT.int IntKind.i64, LT.int IntKind.i64] r207, V.f (F.lit (Value.int IntKind.i64 i208)), V.f (F.lst [LT.str] r209)], V.f (F.lit (Value.int IntKind.i64 i222)), V.f (F.lit (Value.int IntKind.i64 i211)), V.obj [V.f (F.lit (Value.string s212)), V.f (F.lit (Value.string s213)), V.f (F.lit (Value.int IntKind.i64 i214)), V.f (F.lit (Value.int IntKind.i64 i215)), V.f (F.lit (Value.int IntKind.i64 i216)), V.f (F.lit (Value.int IntKind.i64 i217))], V.ref (1 : Nat) (0 : Nat), V.bor [LT.str, LT.str, LT.int IntKind.i64, LT.int IntKind.i64, LT.int IntKind.i64, LT.int IntKind.i64] r218, V.f (F.lit (Value.int IntKind.i64 i219)), V.f (F.lit (Value.int IntKind.i64 i220)), V.f (F.lit (Value.bool b223)), V.undef]) (fun b224 => k Ex.normal [V.obj [V.bor [LT.str, LT.str, LT.int IntKind.i64, LT.int IntKind.i64, LT.int IntKind.i64, LT.int IntKind.i64] r207, V.f (F.lit (Value.int IntKind.i64 i208)), V.f (F.lst [LT.str] r209)], V.f (F.lit (Value.int IntKind.i64 i210)), V.f (F.lit (Value.int IntKind.i64 i211)), V.obj [V.f (F.lit (Value.string s212)), V.f (F.lit (Value.string s213)), V.f (F.lit (Value.int IntKind.i64 i214)), V.f (F.lit (Value.int IntKind.i64 i215)), V.f (F.lit (Value.int IntKind.i64 i216)), V.f (F.lit (Value.int IntKind.i64 i217))], V.ref (1 : Nat) (0 : Nat), V.bor [LT.str, LT.str, LT.int IntKind.i64, LT.int IntKind.i64, LT.int IntKind.i64, LT.int IntKind.i64] r218, V.f (F.lit (Value.int IntKind.i64 i219)), V.f (F.lit (Value.int IntKind.i64 i220)), V.f (F.lit (Value.bool b224)), V.undef]) r207 i208 r209 i210 i211 s212 s213 i214 i215 i216 i217 r218 i219 i220 b221
  | _ => L R 16 13 vs k
set_option maxRecDepth 100000 in
theorem evJn16_13 (m : Nat) (R : Type) (r207 : Abs.Rows) (i208 : Int) (r209 : Abs.Rows) (i210 : Int) (i211 : Int) (s212 : ByteArray) (s213 : ByteArray) (i214 : Int) (i215 : Int) (i216 : Int) (i217 : Int) (r218 : Abs.Rows) (i219 : Int) (i220 : Int) (b221 : Bool) (k : Ex → List V → Option R) : codeK Tryd.prog H (T18 m) 16 (L1 m) 14 (loopBody Tryd.prog 16 13) (mkEnv [1, 2, 3, 4, 11, 12, 13, 14, 29, 100] [V.obj [V.bor [LT.str, LT.str, LT.int IntKind.i64, LT.int IntKind.i64, LT.int IntKind.i64, LT.int IntKind.i64] r207, V.f (F.lit (Value.int IntKind.i64 i208)), V.f (F.lst [LT.str] r209)], V.f (F.lit (Value.int IntKind.i64 i210)), V.f (F.lit (Value.int IntKind.i64 i211)), V.obj [V.f (F.lit (Value.string s212)), V.f (F.lit (Value.string s213)), V.f (F.lit (Value.int IntKind.i64 i214)), V.f (F.lit (Value.int IntKind.i64 i215)), V.f (F.lit (Value.int IntKind.i64 i216)), V.f (F.lit (Value.int IntKind.i64 i217))], V.ref (1 : Nat) (0 : Nat), V.bor [LT.str, LT.str, LT.int IntKind.i64, LT.int IntKind.i64, LT.int IntKind.i64, LT.int IntKind.i64] r218, V.f (F.lit (Value.int IntKind.i64 i219)), V.f (F.lit (Value.int IntKind.i64 i220)), V.f (F.lit (Value.bool b221)), V.undef] 0 (H.len 16)) (fun e env' => k e (vals [1, 2, 3, 4, 11, 12, 13, 14, 29, 100] env')) = Jn16_13 m (fun i222 b223 => k Ex.ret [V.obj [V.bor [LT.str, LT.str, LT.int IntKind.i64, LT.int IntKind.i64, LT.int IntKind.i64, LT.int IntKind.i64] r207, V.f (F.lit (Value.int IntKind.i64 i208)), V.f (F.lst [LT.str] r209)], V.f (F.lit (Value.int IntKind.i64 i222)), V.f (F.lit (Value.int IntKind.i64 i211)), V.obj [V.f (F.lit (Value.string s212)), V.f (F.lit (Value.string s213)), V.f (F.lit (Value.int IntKind.i64 i214)), V.f (F.lit (Value.int IntKind.i64 i215)), V.f (F.lit (Value.int IntKind.i64 i216)), V.f (F.lit (Value.int IntKind.i64 i217))], V.ref (1 : Nat) (0 : Nat), V.bor [LT.str, LT.str, LT.int IntKind.i64, LT.int IntKind.i64, LT.int IntKind.i64, LT.int IntKind.i64] r218, V.f (F.lit (Value.int IntKind.i64 i219)), V.f (F.lit (Value.int IntKind.i64 i220)), V.f (F.lit (Value.bool b223)), V.undef]) (fun b224 => k Ex.normal [V.obj [V.bor [LT.str, LT.str, LT.int IntKind.i64, LT.int IntKind.i64, LT.int IntKind.i64, LT.int IntKind.i64] r207, V.f (F.lit (Value.int IntKind.i64 i208)), V.f (F.lst [LT.str] r209)], V.f (F.lit (Value.int IntKind.i64 i210)), V.f (F.lit (Value.int IntKind.i64 i211)), V.obj [V.f (F.lit (Value.string s212)), V.f (F.lit (Value.string s213)), V.f (F.lit (Value.int IntKind.i64 i214)), V.f (F.lit (Value.int IntKind.i64 i215)), V.f (F.lit (Value.int IntKind.i64 i216)), V.f (F.lit (Value.int IntKind.i64 i217))], V.ref (1 : Nat) (0 : Nat), V.bor [LT.str, LT.str, LT.int IntKind.i64, LT.int IntKind.i64, LT.int IntKind.i64, LT.int IntKind.i64] r218, V.f (F.lit (Value.int IntKind.i64 i219)), V.f (F.lit (Value.int IntKind.i64 i220)), V.f (F.lit (Value.bool b224)), V.undef]) r207 i208 r209 i210 i211 s212 s213 i214 i215 i216 i217 r218 i219 i220 b221 := by kernel_rfl
noncomputable def L2 (m : Nat) : LTbl := addJ 16 13 (brJn16_13 m (L1 m)) (L1 m)
theorem okL2 (m : Nat) : LTOk Tryd.prog H (L2 m) := addJ_ok (okT18 m) hM (okL1 m) (l := [1, 2, 3, 4, 11, 12, 13, 14, 29, 100]) (by kernel_rfl) (by kernel_rfl) fun R vs k x h => by
    unfold brJn16_13 at h
    split at h
    · exact .inl ((evJn16_13 m R _ _ _ _ _ _ _ _ _ _ _ _ _ _ _ k).trans h)
    · exact .inr h

/-- a round of a loop of hookflash/account.CheckTariff -/
noncomputable def Lp16_5_step {R : Type} (m : Nat) (kx0 : Int → Int → Option R) (kx1 : Int → Option R) (r173 : Abs.Rows) (i174 : Int) (r175 : Abs.Rows) (i176 : Int) (r177 : Abs.Rows) (i178 : Int) (REC : Int → Option R) (i179 : Int) : Option R :=
  bif decide (i179 < i178) then (bif decide ((0 : Int) ≤ i179 ∧ i179 < (↑(List.length r177) : Int)) then (Fn37 m (fS r177 (Int.toNat i179) (0 : Nat)) (fun b198 => bif !b198 then (kx0 ((3 : Int)) i179) else
  (Fn38 m (fS r177 (Int.toNat i179) (1 : Nat)) (fun b201 => bif !b201 then (kx0 ((5 : Int)) i179) else
  (Fn30 m (fI r177 (Int.toNat i179) (2 : Nat)) ((0 : Int)) ((1000000 : Int)) (fun b206 => bif !b206 then (Jn16_13 m (fun i225 b226 => kx0 i225 i179) (fun b227 => REC (IntKind.wrap IntKind.i64 (i179 + (1 : Int)))) r173 i174 r175 i176 i179 (fS r177 (Int.toNat i179) (0 : Nat)) (fS r177 (Int.toNat i179) (1 : Nat)) (fI r177 (Int.toNat i179) (2 : Nat)) (fI r177 (Int.toNat i179) (3 : Nat)) (fI r177 (Int.toNat i179) (4 : Nat)) (fI r177 (Int.toNat i179) (5 : Nat)) r177 i178 i179 true) else
  (Fn30 m (fI r177 (Int.toNat i179) (5 : Nat)) ((0 : Int)) ((1000000 : Int)) (fun b228 => bif !b228 then (Jn16_13 m (fun i229 b230 => kx0 i229 i179) (fun b231 => REC (IntKind.wrap IntKind.i64 (i179 + (1 : Int)))) r173 i174 r175 i176 i179 (fS r177 (Int.toNat i179) (0 : Nat)) (fS r177 (Int.toNat i179) (1 : Nat)) (fI r177 (Int.toNat i179) (2 : Nat)) (fI r177 (Int.toNat i179) (3 : Nat)) (fI r177 (Int.toNat i179) (4 : Nat)) (fI r177 (Int.toNat i179) (5 : Nat)) r177 i178 i179 true) else
  (Fn30 m (fI r177 (Int.toNat i179) (3 : Nat)) ((0 : Int)) ((86400000 : Int)) (fun b232 => bif !b232 then (Jn16_13 m (fun i233 b234 => kx0 i233 i179) (fun b235 => REC (IntKind.wrap IntKind.i64 (i179 + (1 : Int)))) r173 i174 r175 i176 i179 (fS r177 (Int.toNat i179) (0 : Nat)) (fS r177 (Int.toNat i179) (1 : Nat)) (fI r177 (Int.toNat i179) (2 : Nat)) (fI r177 (Int.toNat i179) (3 : Nat)) (fI r177 (Int.toNat i179) (4 : Nat)) (fI r177 (Int.toNat i179) (5 : Nat)) r177 i178 i179 true) else
  (Fn30 m (fI r177 (Int.toNat i179) (4 : Nat)) ((1 : Int)) ((86400000 : Int)) (fun b236 => Jn16_13 m (fun i237 b238 => kx0 i237 i179) (fun b239 => REC (IntKind.wrap IntKind.i64 (i179 + (1 : Int)))) r173 i174 r175 i176 i179 (fS r177 (Int.toNat i179) (0 : Nat)) (fS r177 (Int.toNat i179) (1 : Nat)) (fI r177 (Int.toNat i179) (2 : Nat)) (fI r177 (Int.toNat i179) (3 : Nat)) (fI r177 (Int.toNat i179) (4 : Nat)) (fI r177 (Int.toNat i179) (5 : Nat)) r177 i178 i179 (!b236))))))))))))) else
  (none)) else
  (kx1 i179)
noncomputable def Lp16_5 {R : Type} (m : Nat) (kx0 : Int → Int → Option R) (kx1 : Int → Option R) (r173 : Abs.Rows) (i174 : Int) (r175 : Abs.Rows) (i176 : Int) (r177 : Abs.Rows) (i178 : Int) : Nat → Int → Option R
  | 0, _ => none
  | n + 1, i179 => Lp16_5_step m kx0 kx1 r173 i174 r175 i176 r177 i178 (Lp16_5 m kx0 kx1 r173 i174 r175 i176 r177 i178 n) i179
noncomputable def ELp16_5 (m : Nat) (R : Type) : Nat → List V → (Ex → List V → Option R) → Option R
  | 0, _, _ => none
  | n + 1, vs, k => match vs with
    | [V.obj [V.bor [LT.str, LT.str, LT.int IntKind.i64, LT.int IntKind.i64, LT.int IntKind.i64, LT.int IntKind.i64] r173, V.f (F.lit (Value.int IntKind.i64 i174)), V.f (F.lst [LT.str] r175)], V.f (F.lit (Value.int IntKind.i64 i176)), V.ref (1 : Nat) (0 : Nat), V.bor [LT.str, LT.str, LT.int IntKind.i64, LT.int IntKind.i64, LT.int IntKind.i64, LT.int IntKind.i64] r177, V.f (F.lit (Value.int IntKind.i64 i178)), V.f (F.lit (Value.int IntKind.i64 i179)), V.undef] => Lp16_5_step m (fun i240 i241 => k Ex.ret [V.obj [V.bor [LT.str, LT.str, LT.int IntKind.i64, LT.int IntKind.i64, LT.int IntKind.i64, LT.int IntKind.i64] r173, V.f (F.lit (Value.int IntKind.i64 i174)), V.f (F.lst [LT.str] r175)], V.f (F.lit (Value.int IntKind.i64 i240)), V.ref (1 : Nat) (0 : Nat), V.bor [LT.str, LT.str, LT.int IntKind.i64, LT.int IntKind.i64, LT.int IntKind.i64, LT.int IntKind.i64] r177, V.f (F.lit (Value.int IntKind.i64 i178)), V.f (F.lit (Value.int IntKind.i64 i241)), V.undef]) (fun i242 => k (Ex.exit (0 : Nat)) [V.obj [V.bor [LT.str, LT.str, LT.int IntKind.i64, LT.int IntKind.i64, LT.int IntKind.i64, LT.int IntKind.i64] r173, V.f (F.lit (Value.int IntKind.i64 i174)), V.f (F.lst [LT.str] r175)], V.f (F.lit (Value.int IntKind.i64 i176)), V.ref (1 : Nat) (0 : Nat), V.bor [LT.str, LT.str, LT.int IntKind.i64, LT.int IntKind.i64, LT.int IntKind.i64, LT.int IntKind.i64] r177, V.f (F.lit (Value.int IntKind.i64 i178)), V.f (F.lit (Value.int IntKind.i64 i242)), V.undef]) r173 i174 r175 i176 r177 i178 (fun i179 => ELp16_5 m R n [V.obj [V.bor [LT.str, LT.str, LT.int IntKind.i64, LT.int IntKind.i64, LT.int IntKind.i64, LT.int IntKind.i64] r173, V.f (F.lit (Value.int IntKind.i64 i174)), V.f (F.lst [LT.str] r175)], V.f (F.lit (Value.int IntKind.i64 i176)), V.ref (1 : Nat) (0 : Nat), V.bor [LT.str, LT.str, LT.int IntKind.i64, LT.int IntKind.i64, LT.int IntKind.i64, LT.int IntKind.i64] r177, V.f (F.lit (Value.int IntKind.i64 i178)), V.f (F.lit (Value.int IntKind.i64 i179)), V.undef] k) i179
    | _ => none
noncomputable def brLp16_5 (m : Nat) (L : LTbl) (R : Type) (vs : List V) (k : Ex → List V → Option R) : Option R := match vs with
  | [V.obj [V.bor [LT.str, LT.str, LT.int IntKind.i64, LT.int IntKind.i64, LT.int IntKind.i64, LT.int IntKind.i64] r173, V.f (F.lit (Value.int IntKind.i64 i174)), V.f (F.lst [LT.str] r175)], V.f (F.lit (Value.int IntKind.i64 i176)), V.ref (1 : Nat) (0 : Nat), V.bor [LT.str, LT.str, LT.int IntKind.i64, LT.int IntKind.i64, LT.int IntKind.i64, LT.int IntKind.i64] r177, V.f (F.lit (Value.int IntKind.i64 i178)), V.f (F.lit (Value.int IntKind.i64 i179)), V.undef] => Lp16_5 m (fun i240 i241 => k Ex.ret [V.obj [V.bor [LT.str, LT.str, LT.int IntKind.i64, LT.int IntKind.i64, LT.int IntKind.i64, LT.int IntKind.i64] r173, V.f (F.lit (Value.int IntKind.i64 i174)), V.f (F.lst [LT.str] r175)], V.f (F.lit (Value.int IntKind.i64 i240)), V.ref (1 : Nat) (0 : Nat), V.bor [LT.str, LT.str, LT.int IntKind.i64, LT.int IntKind.i64, LT.int IntKind.i64, LT.int IntKind.i64] r177, V.f (F.lit (Value.int IntKind.i64 i178)), V.f (F.lit (Value.int IntKind.i64 i241)), V.undef]) (fun i242 => k (Ex.exit (0 : Nat)) [V.obj [V.bor [LT.str, LT.str, LT.int IntKind.i64, LT.int IntKind.i64, LT.int IntKind.i64, LT.int IntKind.i64] r173, V.f (F.lit (Value.int IntKind.i64 i174)), V.f (F.lst [LT.str] r175)], V.f (F.lit (Value.int IntKind.i64 i176)), V.ref (1 : Nat) (0 : Nat), V.bor [LT.str, LT.str, LT.int IntKind.i64, LT.int IntKind.i64, LT.int IntKind.i64, LT.int IntKind.i64] r177, V.f (F.lit (Value.int IntKind.i64 i178)), V.f (F.lit (Value.int IntKind.i64 i242)), V.undef]) r173 i174 r175 i176 r177 i178 m i179
  | _ => L R 16 5 vs k
set_option maxRecDepth 100000 in
theorem stLp16_5 (m n : Nat) (R : Type) (r173 : Abs.Rows) (i174 : Int) (r175 : Abs.Rows) (i176 : Int) (r177 : Abs.Rows) (i178 : Int) (i179 : Int) (k : Ex → List V → Option R) : codeK Tryd.prog H (T18 m) 16 (L2 m) 6 (loopBody Tryd.prog 16 5) (mkEnv [1, 2, 11, 12, 13, 14, 100] [V.obj [V.bor [LT.str, LT.str, LT.int IntKind.i64, LT.int IntKind.i64, LT.int IntKind.i64, LT.int IntKind.i64] r173, V.f (F.lit (Value.int IntKind.i64 i174)), V.f (F.lst [LT.str] r175)], V.f (F.lit (Value.int IntKind.i64 i176)), V.ref (1 : Nat) (0 : Nat), V.bor [LT.str, LT.str, LT.int IntKind.i64, LT.int IntKind.i64, LT.int IntKind.i64, LT.int IntKind.i64] r177, V.f (F.lit (Value.int IntKind.i64 i178)), V.f (F.lit (Value.int IntKind.i64 i179)), V.undef] 0 (H.len 16)) (fun e env' => match e with | .normal => ELp16_5 m R n (vals [1, 2, 11, 12, 13, 14, 100] env') k | e => k e (vals [1, 2, 11, 12, 13, 14, 100] env')) = Lp16_5_step m (fun i240 i241 => k Ex.ret [V.obj [V.bor [LT.str, LT.str, LT.int IntKind.i64, LT.int IntKind.i64, LT.int IntKind.i64, LT.int IntKind.i64] r173, V.f (F.lit (Value.int IntKind.i64 i174)), V.f (F.lst [LT.str] r175)], V.f (F.lit (Value.int IntKind.i64 i240)), V.ref (1 : Nat) (0 : Nat), V.bor [LT.str, LT.str, LT.int IntKind.i64, LT.int IntKind.i64, LT.int IntKind.i64, LT.int IntKind.i64] r177, V.f (F.lit (Value.int IntKind.i64 i178)), V.f (F.lit (Value.int IntKind.i64 i241)), V.undef]) (fun i242 => k (Ex.exit (0 : Nat)) [V.obj [V.bor [LT.str, LT.str, LT.int IntKind.i64, LT.int IntKind.i64, LT.int IntKind.i64, LT.int IntKind.i64] r173, V.f (F.lit (Value.int IntKind.i64 i174)), V.f (F.lst [LT.str] r175)], V.f (F.lit (Value.int IntKind.i64 i176)), V.ref (1 : Nat) (0 : Nat), V.bor [LT.str, LT.str, LT.int IntKind.i64, LT.int IntKind.i64, LT.int IntKind.i64, LT.int IntKind.i64] r177, V.f (F.lit (Value.int IntKind.i64 i178)), V.f (F.lit (Value.int IntKind.i64 i242)), V.undef]) r173 i174 r175 i176 r177 i178 (fun i179 => ELp16_5 m R n [V.obj [V.bor [LT.str, LT.str, LT.int IntKind.i64, LT.int IntKind.i64, LT.int IntKind.i64, LT.int IntKind.i64] r173, V.f (F.lit (Value.int IntKind.i64 i174)), V.f (F.lst [LT.str] r175)], V.f (F.lit (Value.int IntKind.i64 i176)), V.ref (1 : Nat) (0 : Nat), V.bor [LT.str, LT.str, LT.int IntKind.i64, LT.int IntKind.i64, LT.int IntKind.i64, LT.int IntKind.i64] r177, V.f (F.lit (Value.int IntKind.i64 i178)), V.f (F.lit (Value.int IntKind.i64 i179)), V.undef] k) i179 := by kernel_rfl
theorem eqLp16_5 (m : Nat) (R : Type) (r173 : Abs.Rows) (i174 : Int) (r175 : Abs.Rows) (i176 : Int) (r177 : Abs.Rows) (i178 : Int) (k : Ex → List V → Option R) : ∀ (n : Nat) (i179 : Int), ELp16_5 m R n [V.obj [V.bor [LT.str, LT.str, LT.int IntKind.i64, LT.int IntKind.i64, LT.int IntKind.i64, LT.int IntKind.i64] r173, V.f (F.lit (Value.int IntKind.i64 i174)), V.f (F.lst [LT.str] r175)], V.f (F.lit (Value.int IntKind.i64 i176)), V.ref (1 : Nat) (0 : Nat), V.bor [LT.str, LT.str, LT.int IntKind.i64, LT.int IntKind.i64, LT.int IntKind.i64, LT.int IntKind.i64] r177, V.f (F.lit (Value.int IntKind.i64 i178)), V.f (F.lit (Value.int IntKind.i64 i179)), V.undef] k = Lp16_5 m (fun i240 i241 => k Ex.ret [V.obj [V.bor [LT.str, LT.str, LT.int IntKind.i64, LT.int IntKind.i64, LT.int IntKind.i64, LT.int IntKind.i64] r173, V.f (F.lit (Value.int IntKind.i64 i174)), V.f (F.lst [LT.str] r175)], V.f (F.lit (Value.int IntKind.i64 i240)), V.ref (1 : Nat) (0 : Nat), V.bor [LT.str, LT.str, LT.int IntKind.i64, LT.int IntKind.i64, LT.int IntKind.i64, LT.int IntKind.i64] r177, V.f (F.lit (Value.int IntKind.i64 i178)), V.f (F.lit (Value.int IntKind.i64 i241)), V.undef]) (fun i242 => k (Ex.exit (0 : Nat)) [V.obj [V.bor [LT.str, LT.str, LT.int IntKind.i64, LT.int IntKind.i64, LT.int IntKind.i64, LT.int IntKind.i64] r173, V.f (F.lit (Value.int IntKind.i64 i174)), V.f (F.lst [LT.str] r175)], V.f (F.lit (Value.int IntKind.i64 i176)), V.ref (1 : Nat) (0 : Nat), V.bor [LT.str, LT.str, LT.int IntKind.i64, LT.int IntKind.i64, LT.int IntKind.i64, LT.int IntKind.i64] r177, V.f (F.lit (Value.int IntKind.i64 i178)), V.f (F.lit (Value.int IntKind.i64 i242)), V.undef]) r173 i174 r175 i176 r177 i178 n i179
  | 0, _ => rfl
  | n + 1, i179 => by
    simp only [ELp16_5, Lp16_5]
    congr 1
    funext i179
    exact eqLp16_5 m R r173 i174 r175 i176 r177 i178 k n i179
noncomputable def L3 (m : Nat) : LTbl := addB 16 5 (brLp16_5 m (L2 m)) (L2 m)
theorem okL3 (m : Nat) : LTOk Tryd.prog H (L3 m) := addB_ok (okT18 m) hM (okL2 m) (l := [1, 2, 11, 12, 13, 14, 100]) (by kernel_rfl) (by kernel_rfl) m (fun R n vs k => ELp16_5 m R n vs k) (fun R vs k => rfl) (fun R n vs k x h => by
      simp only [ELp16_5] at h
      split at h
      · exact (stLp16_5 m n R _ _ _ _ _ _ _ k).trans h
      · cases h) fun R vs k x h => by
    unfold brLp16_5 at h
    split at h
    · exact .inl ((eqLp16_5 m R _ _ _ _ _ _ k m _).trans h)
    · exact .inr h

/-- a round of a loop of hookflash/account.CheckTariff -/
noncomputable def Lp16_26_step {R : Type} (m : Nat) (kx0 : Int → Int → Option R) (kx1 : Int → Option R) (r247 : Abs.Rows) (i248 : Int) (r249 : Abs.Rows) (i250 : Int) (r251 : Abs.Rows) (i252 : Int) (REC : Int → Option R) (i253 : Int) : Option R :=
  bif decide (i253 < i252) then (bif decide ((0 : Int) ≤ i253 ∧ i253 < (↑(List.length r251) : Int)) then (Fn38 m (fS r251 (Int.toNat i253) (0 : Nat)) (fun b254 => bif !b254 then (kx0 ((5 : Int)) i253) else
  (bif decide (i253 > (0 : Int)) then (bif decide ((0 : Int) ≤ IntKind.wrap IntKind.i64 (i253 - (1 : Int)) ∧ IntKind.wrap IntKind.i64 (i253 - (1 : Int)) < (↑(List.length r249) : Int)) then (bif Op.bytesLess (ByteArray.toList (fS r251 (Int.toNat i253) (0 : Nat))) (ByteArray.toList (fS r249 (Int.toNat (IntKind.wrap IntKind.i64 (i253 - (1 : Int)))) (0 : Nat))) || ByteArray.toList (fS r251 (Int.toNat i253) (0 : Nat)) == ByteArray.toList (fS r249 (Int.toNat (IntKind.wrap IntKind.i64 (i253 - (1 : Int)))) (0 : Nat)) then (kx0 ((7 : Int)) i253) else
  (REC (IntKind.wrap IntKind.i64 (i253 + (1 : Int))))) else
  (none)) else
  (REC (IntKind.wrap IntKind.i64 (i253 + (1 : Int))))))) else
  (none)) else
  (kx1 i253)
noncomputable def Lp16_26 {R : Type} (m : Nat) (kx0 : Int → Int → Option R) (kx1 : Int → Option R) (r247 : Abs.Rows) (i248 : Int) (r249 : Abs.Rows) (i250 : Int) (r251 : Abs.Rows) (i252 : Int) : Nat → Int → Option R
  | 0, _ => none
  | n + 1, i253 => Lp16_26_step m kx0 kx1 r247 i248 r249 i250 r251 i252 (Lp16_26 m kx0 kx1 r247 i248 r249 i250 r251 i252 n) i253
noncomputable def ELp16_26 (m : Nat) (R : Type) : Nat → List V → (Ex → List V → Option R) → Option R
  | 0, _, _ => none
  | n + 1, vs, k => match vs with
    | [V.obj [V.bor [LT.str, LT.str, LT.int IntKind.i64, LT.int IntKind.i64, LT.int IntKind.i64, LT.int IntKind.i64] r247, V.f (F.lit (Value.int IntKind.i64 i248)), V.f (F.lst [LT.str] r249)], V.f (F.lit (Value.int IntKind.i64 i250)), V.ref (1 : Nat) (2 : Nat), V.f (F.lst [LT.str] r251), V.f (F.lit (Value.int IntKind.i64 i252)), V.f (F.lit (Value.int IntKind.i64 i253)), V.undef] => Lp16_26_step m (fun i255 i256 => k Ex.ret [V.obj [V.bor [LT.str, LT.str, LT.int IntKind.i64, LT.int IntKind.i64, LT.int IntKind.i64, LT.int IntKind.i64] r247, V.f (F.lit (Value.int IntKind.i64 i248)), V.f (F.lst [LT.str] r249)], V.f (F.lit (Value.int IntKind.i64 i255)), V.ref (1 : Nat) (2 : Nat), V.f (F.lst [LT.str] r251), V.f (F.lit (Value.int IntKind.i64 i252)), V.f (F.lit (Value.int IntKind.i64 i256)), V.undef]) (fun i257 => k (Ex.exit (3 : Nat)) [V.obj [V.bor [LT.str, LT.str, LT.int IntKind.i64, LT.int IntKind.i64, LT.int IntKind.i64, LT.int IntKind.i64] r247, V.f (F.lit (Value.int IntKind.i64 i248)), V.f (F.lst [LT.str] r249)], V.f (F.lit (Value.int IntKind.i64 i250)), V.ref (1 : Nat) (2 : Nat), V.f (F.lst [LT.str] r251), V.f (F.lit (Value.int IntKind.i64 i252)), V.f (F.lit (Value.int IntKind.i64 i257)), V.undef]) r247 i248 r249 i250 r251 i252 (fun i253 => ELp16_26 m R n [V.obj [V.bor [LT.str, LT.str, LT.int IntKind.i64, LT.int IntKind.i64, LT.int IntKind.i64, LT.int IntKind.i64] r247, V.f (F.lit (Value.int IntKind.i64 i248)), V.f (F.lst [LT.str] r249)], V.f (F.lit (Value.int IntKind.i64 i250)), V.ref (1 : Nat) (2 : Nat), V.f (F.lst [LT.str] r251), V.f (F.lit (Value.int IntKind.i64 i252)), V.f (F.lit (Value.int IntKind.i64 i253)), V.undef] k) i253
    | _ => none
noncomputable def brLp16_26 (m : Nat) (L : LTbl) (R : Type) (vs : List V) (k : Ex → List V → Option R) : Option R := match vs with
  | [V.obj [V.bor [LT.str, LT.str, LT.int IntKind.i64, LT.int IntKind.i64, LT.int IntKind.i64, LT.int IntKind.i64] r247, V.f (F.lit (Value.int IntKind.i64 i248)), V.f (F.lst [LT.str] r249)], V.f (F.lit (Value.int IntKind.i64 i250)), V.ref (1 : Nat) (2 : Nat), V.f (F.lst [LT.str] r251), V.f (F.lit (Value.int IntKind.i64 i252)), V.f (F.lit (Value.int IntKind.i64 i253)), V.undef] => Lp16_26 m (fun i255 i256 => k Ex.ret [V.obj [V.bor [LT.str, LT.str, LT.int IntKind.i64, LT.int IntKind.i64, LT.int IntKind.i64, LT.int IntKind.i64] r247, V.f (F.lit (Value.int IntKind.i64 i248)), V.f (F.lst [LT.str] r249)], V.f (F.lit (Value.int IntKind.i64 i255)), V.ref (1 : Nat) (2 : Nat), V.f (F.lst [LT.str] r251), V.f (F.lit (Value.int IntKind.i64 i252)), V.f (F.lit (Value.int IntKind.i64 i256)), V.undef]) (fun i257 => k (Ex.exit (3 : Nat)) [V.obj [V.bor [LT.str, LT.str, LT.int IntKind.i64, LT.int IntKind.i64, LT.int IntKind.i64, LT.int IntKind.i64] r247, V.f (F.lit (Value.int IntKind.i64 i248)), V.f (F.lst [LT.str] r249)], V.f (F.lit (Value.int IntKind.i64 i250)), V.ref (1 : Nat) (2 : Nat), V.f (F.lst [LT.str] r251), V.f (F.lit (Value.int IntKind.i64 i252)), V.f (F.lit (Value.int IntKind.i64 i257)), V.undef]) r247 i248 r249 i250 r251 i252 m i253
  | _ => L R 16 26 vs k
set_option maxRecDepth 100000 in
theorem stLp16_26 (m n : Nat) (R : Type) (r247 : Abs.Rows) (i248 : Int) (r249 : Abs.Rows) (i250 : Int) (r251 : Abs.Rows) (i252 : Int) (i253 : Int) (k : Ex → List V → Option R) : codeK Tryd.prog H (T18 m) 16 (L3 m) 27 (loopBody Tryd.prog 16 26) (mkEnv [1, 2, 76, 77, 78, 79, 100] [V.obj [V.bor [LT.str, LT.str, LT.int IntKind.i64, LT.int IntKind.i64, LT.int IntKind.i64, LT.int IntKind.i64] r247, V.f (F.lit (Value.int IntKind.i64 i248)), V.f (F.lst [LT.str] r249)], V.f (F.lit (Value.int IntKind.i64 i250)), V.ref (1 : Nat) (2 : Nat), V.f (F.lst [LT.str] r251), V.f (F.lit (Value.int IntKind.i64 i252)), V.f (F.lit (Value.int IntKind.i64 i253)), V.undef] 0 (H.len 16)) (fun e env' => match e with | .normal => ELp16_26 m R n (vals [1, 2, 76, 77, 78, 79, 100] env') k | e => k e (vals [1, 2, 76, 77, 78, 79, 100] env')) = Lp16_26_step m (fun i255 i256 => k Ex.ret [V.obj [V.bor [LT.str, LT.str, LT.int IntKind.i64, LT.int IntKind.i64, LT.int IntKind.i64, LT.int IntKind.i64] r247, V.f (F.lit (Value.int IntKind.i64 i248)), V.f (F.lst [LT.str] r249)], V.f (F.lit (Value.int IntKind.i64 i255)), V.ref (1 : Nat) (2 : Nat), V.f (F.lst [LT.str] r251), V.f (F.lit (Value.int IntKind.i64 i252)), V.f (F.lit (Value.int IntKind.i64 i256)), V.undef]) (fun i257 => k (Ex.exit (3 : Nat)) [V.obj [V.bor [LT.str, LT.str, LT.int IntKind.i64, LT.int IntKind.i64, LT.int IntKind.i64, LT.int IntKind.i64] r247, V.f (F.lit (Value.int IntKind.i64 i248)), V.f (F.lst [LT.str] r249)], V.f (F.lit (Value.int IntKind.i64 i250)), V.ref (1 : Nat) (2 : Nat), V.f (F.lst [LT.str] r251), V.f (F.lit (Value.int IntKind.i64 i252)), V.f (F.lit (Value.int IntKind.i64 i257)), V.undef]) r247 i248 r249 i250 r251 i252 (fun i253 => ELp16_26 m R n [V.obj [V.bor [LT.str, LT.str, LT.int IntKind.i64, LT.int IntKind.i64, LT.int IntKind.i64, LT.int IntKind.i64] r247, V.f (F.lit (Value.int IntKind.i64 i248)), V.f (F.lst [LT.str] r249)], V.f (F.lit (Value.int IntKind.i64 i250)), V.ref (1 : Nat) (2 : Nat), V.f (F.lst [LT.str] r251), V.f (F.lit (Value.int IntKind.i64 i252)), V.f (F.lit (Value.int IntKind.i64 i253)), V.undef] k) i253 := by kernel_rfl
theorem eqLp16_26 (m : Nat) (R : Type) (r247 : Abs.Rows) (i248 : Int) (r249 : Abs.Rows) (i250 : Int) (r251 : Abs.Rows) (i252 : Int) (k : Ex → List V → Option R) : ∀ (n : Nat) (i253 : Int), ELp16_26 m R n [V.obj [V.bor [LT.str, LT.str, LT.int IntKind.i64, LT.int IntKind.i64, LT.int IntKind.i64, LT.int IntKind.i64] r247, V.f (F.lit (Value.int IntKind.i64 i248)), V.f (F.lst [LT.str] r249)], V.f (F.lit (Value.int IntKind.i64 i250)), V.ref (1 : Nat) (2 : Nat), V.f (F.lst [LT.str] r251), V.f (F.lit (Value.int IntKind.i64 i252)), V.f (F.lit (Value.int IntKind.i64 i253)), V.undef] k = Lp16_26 m (fun i255 i256 => k Ex.ret [V.obj [V.bor [LT.str, LT.str, LT.int IntKind.i64, LT.int IntKind.i64, LT.int IntKind.i64, LT.int IntKind.i64] r247, V.f (F.lit (Value.int IntKind.i64 i248)), V.f (F.lst [LT.str] r249)], V.f (F.lit (Value.int IntKind.i64 i255)), V.ref (1 : Nat) (2 : Nat), V.f (F.lst [LT.str] r251), V.f (F.lit (Value.int IntKind.i64 i252)), V.f (F.lit (Value.int IntKind.i64 i256)), V.undef]) (fun i257 => k (Ex.exit (3 : Nat)) [V.obj [V.bor [LT.str, LT.str, LT.int IntKind.i64, LT.int IntKind.i64, LT.int IntKind.i64, LT.int IntKind.i64] r247, V.f (F.lit (Value.int IntKind.i64 i248)), V.f (F.lst [LT.str] r249)], V.f (F.lit (Value.int IntKind.i64 i250)), V.ref (1 : Nat) (2 : Nat), V.f (F.lst [LT.str] r251), V.f (F.lit (Value.int IntKind.i64 i252)), V.f (F.lit (Value.int IntKind.i64 i257)), V.undef]) r247 i248 r249 i250 r251 i252 n i253
  | 0, _ => rfl
  | n + 1, i253 => by
    simp only [ELp16_26, Lp16_26]
    congr 1
    funext i253
    exact eqLp16_26 m R r247 i248 r249 i250 r251 i252 k n i253
noncomputable def L4 (m : Nat) : LTbl := addB 16 26 (brLp16_26 m (L3 m)) (L3 m)
theorem okL4 (m : Nat) : LTOk Tryd.prog H (L4 m) := addB_ok (okT18 m) hM (okL3 m) (l := [1, 2, 76, 77, 78, 79, 100]) (by kernel_rfl) (by kernel_rfl) m (fun R n vs k => ELp16_26 m R n vs k) (fun R vs k => rfl) (fun R n vs k x h => by
      simp only [ELp16_26] at h
      split at h
      · exact (stLp16_26 m n R _ _ _ _ _ _ _ k).trans h
      · cases h) fun R vs k x h => by
    unfold brLp16_26 at h
    split at h
    · exact .inl ((eqLp16_26 m R _ _ _ _ _ _ k m _).trans h)
    · exact .inr h

/-- hookflash/account.CheckTariff -/
noncomputable def Fn16 {R : Type} (m : Nat) : Abs.Rows → Int → Abs.Rows → (Int → Option R) → Option R := match m with
  | 0 => fun _ _ _ _ => none
  | m + 1 => fun r170 i171 r172 k =>
  bif decide ((↑(List.length r170) : Int) > (200 : Int)) then (k ((2 : Int))) else
  (Lp16_5 m (fun i243 i244 => k i243) (fun i245 => Fn30 m i171 ((0 : Int)) ((2592000000 : Int)) (fun b246 => bif !b246 then (k ((1 : Int))) else
  (bif decide ((↑(List.length r172) : Int) > (200 : Int)) then (k ((2 : Int))) else
  (Lp16_26 m (fun i258 i259 => k i258) (fun i260 => k ((0 : Int))) r170 i171 r172 ((0 : Int)) r172 ((↑(List.length r172) : Int)) m ((0 : Int)))))) r170 i171 r172 ((0 : Int)) r170 ((↑(List.length r170) : Int)) m ((0 : Int)))
noncomputable def brFn16 (m : Nat) (T : Tbl) (R : Type) (vs : List V) (k : V → List V → Option R) : Option R := match vs with
  | [V.agg [V.bor [LT.str, LT.str, LT.int IntKind.i64, LT.int IntKind.i64, LT.int IntKind.i64, LT.int IntKind.i64] r170, V.f (F.lit (Value.int IntKind.i64 i171)), V.f (F.lst [LT.str] r172)]] => Fn16 m r170 i171 r172 (fun i261 => k (V.f (F.lit (Value.int IntKind.i64 i261))) [V.undef])
  | _ => T R 16 vs k
set_option maxRecDepth 100000 in
theorem evFn16 (m : Nat) (R : Type) (r170 : Abs.Rows) (i171 : Int) (r172 : Abs.Rows) (k : V → List V → Option R) : runK Tryd.prog H (T18 m) (L4 m) 16 [V.agg [V.bor [LT.str, LT.str, LT.int IntKind.i64, LT.int IntKind.i64, LT.int IntKind.i64, LT.int IntKind.i64] r170, V.f (F.lit (Value.int IntKind.i64 i171)), V.f (F.lst [LT.str] r172)]] k = Fn16 (m + 1) r170 i171 r172 (fun i261 => k (V.f (F.lit (Value.int IntKind.i64 i261))) [V.undef]) := by kernel_rfl
noncomputable def T19 (m : Nat) : Tbl := addT 16 (brFn16 m (T18 m)) (T18 m)
theorem okT19 (m : Nat) : TblOk Tryd.prog (T19 m) := addT_ok (okT18 m) fun R vs k x h => by
  unfold brFn16 at h
  split at h
  · cases m with
    | zero => cases h
    | succ m => exact runK_some (okT18 m) hM (okL4 m) ((evFn16 m R _ _ _ k).trans h)
  · exact okT18 m R 16 _ k x h

/-- hookflash/number.isDigits -/
noncomputable def Fn50 {R : Type} (m : Nat) : ByteArray → (Bool → Option R) → Option R := match m with
  | 0 => fun _ _ => none
  | m + 1 => fun s269 k =>
  bif trimOk s269 { data := #[(48 : UInt8), (49 : UInt8), (50 : UInt8), (51 : UInt8), (52 : UInt8), (53 : UInt8), (54 : UInt8), (55 : UInt8), (56 : UInt8), (57 : UInt8)] } then (k (ByteArray.toList (trimB s269 { data := #[(48 : UInt8), (49 : UInt8), (50 : UInt8), (51 : UInt8), (52 : UInt8), (53 : UInt8), (54 : UInt8), (55 : UInt8), (56 : UInt8), (57 : UInt8)] }) == ByteArray.toList { data := #[] })) else
  (none)
noncomputable def brFn50 (m : Nat) (T : Tbl) (R : Type) (vs : List V) (k : V → List V → Option R) : Option R := match vs with
  | [V.f (F.lit (Value.string s269))] => Fn50 m s269 (fun b270 => k (V.f (F.lit (Value.bool b270))) [V.undef])
  | _ => T R 50 vs k
set_option maxRecDepth 100000 in
theorem evFn50 (m : Nat) (R : Type) (s269 : ByteArray) (k : V → List V → Option R) : runK Tryd.prog H (T19 m) (L4 m) 50 [V.f (F.lit (Value.string s269))] k = Fn50 (m + 1) s269 (fun b270 => k (V.f (F.lit (Value.bool b270))) [V.undef]) := by kernel_rfl
noncomputable def T20 (m : Nat) : Tbl := addT 50 (brFn50 m (T19 m)) (T19 m)
theorem okT20 (m : Nat) : TblOk Tryd.prog (T20 m) := addT_ok (okT19 m) fun R vs k x h => by
  unfold brFn50 at h
  split at h
  · cases m with
    | zero => cases h
    | succ m => exact runK_some (okT19 m) hM (okL4 m) ((evFn50 m R _ k).trans h)
  · exact okT19 m R 50 _ k x h

/-- hookflash/number.digitsOf -/
noncomputable def Fn42 {R : Type} (m : Nat) : ByteArray → Int → Int → (Bool → Option R) → Option R := match m with
  | 0 => fun _ _ _ _ => none
  | m + 1 => fun s266 i267 i268 k =>
  bif decide ((↑(ByteArray.size s266) : Int) ≥ i267) then (bif decide ((↑(ByteArray.size s266) : Int) ≤ i268) then (Fn50 m s266 (fun b271 => k b271)) else
  (k false)) else
  (k false)
noncomputable def brFn42 (m : Nat) (T : Tbl) (R : Type) (vs : List V) (k : V → List V → Option R) : Option R := match vs with
  | [V.f (F.lit (Value.string s266)), V.f (F.lit (Value.int IntKind.i64 i267)), V.f (F.lit (Value.int IntKind.i64 i268))] => Fn42 m s266 i267 i268 (fun b272 => k (V.f (F.lit (Value.bool b272))) [V.undef, V.undef, V.undef])
  | _ => T R 42 vs k
set_option maxRecDepth 100000 in
theorem evFn42 (m : Nat) (R : Type) (s266 : ByteArray) (i267 : Int) (i268 : Int) (k : V → List V → Option R) : runK Tryd.prog H (T20 m) (L4 m) 42 [V.f (F.lit (Value.string s266)), V.f (F.lit (Value.int IntKind.i64 i267)), V.f (F.lit (Value.int IntKind.i64 i268))] k = Fn42 (m + 1) s266 i267 i268 (fun b272 => k (V.f (F.lit (Value.bool b272))) [V.undef, V.undef, V.undef]) := by kernel_rfl
noncomputable def T21 (m : Nat) : Tbl := addT 42 (brFn42 m (T20 m)) (T20 m)
theorem okT21 (m : Nat) : TblOk Tryd.prog (T21 m) := addT_ok (okT20 m) fun R vs k x h => by
  unfold brFn42 at h
  split at h
  · cases m with
    | zero => cases h
    | succ m => exact runK_some (okT20 m) hM (okL4 m) ((evFn42 m R _ _ _ k).trans h)
  · exact okT20 m R 42 _ k x h

/-- hookflash/number.IsNumber -/
noncomputable def Fn28 {R : Type} (m : Nat) : ByteArray → (Bool → Option R) → Option R := match m with
  | 0 => fun _ _ => none
  | m + 1 => fun s263 k =>
  Fn33 m s263 ({ data := #[(43 : UInt8)] }) (fun s264 b265 => bif b265 then (Fn42 m s264 ((4 : Int)) ((15 : Int)) (fun b273 => bif b273 then (bif decide ((0 : Int) ≤ (0 : Int) ∧ (0 : Int) < (↑(ByteArray.size s264) : Int)) then (k ((↑(UInt8.toNat (Array.getD (ByteArray.data s264) (Int.toNat (0 : Int)) (0 : UInt8))) : Int) != (48 : Int))) else
  (none)) else
  (k false))) else
  (k false))
noncomputable def brFn28 (m : Nat) (T : Tbl) (R : Type) (vs : List V) (k : V → List V → Option R) : Option R := match vs with
  | [V.f (F.lit (Value.string s263))] => Fn28 m s263 (fun b274 => k (V.f (F.lit (Value.bool b274))) [V.undef])
  | _ => T R 28 vs k
set_option maxRecDepth 100000 in
theorem evFn28 (m : Nat) (R : Type) (s263 : ByteArray) (k : V → List V → Option R) : runK Tryd.prog H (T21 m) (L4 m) 28 [V.f (F.lit (Value.string s263))] k = Fn28 (m + 1) s263 (fun b274 => k (V.f (F.lit (Value.bool b274))) [V.undef]) := by kernel_rfl
noncomputable def T22 (m : Nat) : Tbl := addT 28 (brFn28 m (T21 m)) (T21 m)
theorem okT22 (m : Nat) : TblOk Tryd.prog (T22 m) := addT_ok (okT21 m) fun R vs k x h => by
  unfold brFn28 at h
  split at h
  · cases m with
    | zero => cases h
    | succ m => exact runK_some (okT21 m) hM (okL4 m) ((evFn28 m R _ k).trans h)
  · exact okT21 m R 28 _ k x h

/-- hookflash/account.classOf$1 -/
noncomputable def Fn44 {R : Type} (m : Nat) : ByteArray → ByteArray → Int → Int → Int → Int → ByteArray → (Int → Option R) → Option R := match m with
  | 0 => fun _ _ _ _ _ _ _ _ => none
  | m + 1 => fun s299 s300 i301 i302 i303 i304 s305 k =>
  k (cmpB s299 s305)
noncomputable def brFn44 (m : Nat) (T : Tbl) (R : Type) (vs : List V) (k : V → List V → Option R) : Option R := match vs with
  | [V.agg [V.f (F.lit (Value.string s299)), V.f (F.lit (Value.string s300)), V.f (F.lit (Value.int IntKind.i64 i301)), V.f (F.lit (Value.int IntKind.i64 i302)), V.f (F.lit (Value.int IntKind.i64 i303)), V.f (F.lit (Value.int IntKind.i64 i304))], V.f (F.lit (Value.string s305))] => Fn44 m s299 s300 i301 i302 i303 i304 s305 (fun i306 => k (V.f (F.lit (Value.int IntKind.i64 i306))) [V.undef, V.undef])
  | _ => T R 44 vs k
set_option maxRecDepth 100000 in
theorem evFn44 (m : Nat) (R : Type) (s299 : ByteArray) (s300 : ByteArray) (i301 : Int) (i302 : Int) (i303 : Int) (i304 : Int) (s305 : ByteArray) (k : V → List V → Option R) : runK Tryd.prog H (T22 m) (L4 m) 44 [V.agg [V.f (F.lit (Value.string s299)), V.f (F.lit (Value.string s300)), V.f (F.lit (Value.int IntKind.i64 i301)), V.f (F.lit (Value.int IntKind.i64 i302)), V.f (F.lit (Value.int IntKind.i64 i303)), V.f (F.lit (Value.int IntKind.i64 i304))], V.f (F.lit (Value.string s305))] k = Fn44 (m + 1) s299 s300 i301 i302 i303 i304 s305 (fun i306 => k (V.f (F.lit (Value.int IntKind.i64 i306))) [V.undef, V.undef]) := by kernel_rfl
noncomputable def T23 (m : Nat) : Tbl := addT 44 (brFn44 m (T22 m)) (T22 m)
theorem okT23 (m : Nat) : TblOk Tryd.prog (T23 m) := addT_ok (okT22 m) fun R vs k x h => by
  unfold brFn44 at h
  split at h
  · cases m with
    | zero => cases h
    | succ m => exact runK_some (okT22 m) hM (okL4 m) ((evFn44 m R _ _ _ _ _ _ _ k).trans h)
  · exact okT22 m R 44 _ k x h

/-- a round of a loop of slices.BinarySearchFunc[[]hookflash/api.Class,hookflash/api.Class,string] -/
noncomputable def Lp43_3_step {R : Type} (m : Nat) (kx0 : Int → Int → Option R) (r294 : Abs.Rows) (s295 : ByteArray) (i296 : Int) (REC : Int → Int → Option R) (i297 : Int) (i298 : Int) : Option R :=
  bif decide (i297 < i298) then (bif decide ((0 : Int) ≤ IntKind.wrap IntKind.i64 (Int.fdiv (IntKind.wrap IntKind.u64 (IntKind.wrap IntKind.i64 (i297 + i298))) ((2 : Int) ^ min (Int.toNat (1 : Int)) (64 : Nat))) ∧ IntKind.wrap IntKind.i64 (Int.fdiv (IntKind.wrap IntKind.u64 (IntKind.wrap IntKind.i64 (i297 + i298))) ((2 : Int) ^ min (Int.toNat (1 : Int)) (64 : Nat))) < (↑(List.length r294) : Int)) then (Fn44 m (fS r294 (Int.toNat (IntKind.wrap IntKind.i64 (Int.fdiv (IntKind.wrap IntKind.u64 (IntKind.wrap IntKind.i64 (i297 + i298))) ((2 : Int) ^ min (Int.toNat (1 : Int)) (64 : Nat))))) (0 : Nat)) (fS r294 (Int.toNat (IntKind.wrap IntKind.i64 (Int.fdiv (IntKind.wrap IntKind.u64 (IntKind.wrap IntKind.i64 (i297 + i298))) ((2 : Int) ^ min (Int.toNat (1 : Int)) (64 : Nat))))) (1 : Nat)) (fI r294 (Int.toNat (IntKind.wrap IntKind.i64 (Int.fdiv (IntKind.wrap IntKind.u64 (IntKind.wrap IntKind.i64 (i297 + i298))) ((2 : Int) ^ min (Int.toNat (1 : Int)) (64 : Nat))))) (2 : Nat)) (fI r294 (Int.toNat (IntKind.wrap IntKind.i64 (Int.fdiv (IntKind.wrap IntKind.u64 (IntKind.wrap IntKind.i64 (i297 + i298))) ((2 : Int) ^ min (Int.toNat (1 : Int)) (64 : Nat))))) (3 : Nat)) (fI r294 (Int.toNat (IntKind.wrap IntKind.i64 (Int.fdiv (IntKind.wrap IntKind.u64 (IntKind.wrap IntKind.i64 (i297 + i298))) ((2 : Int) ^ min (Int.toNat (1 : Int)) (64 : Nat))))) (4 : Nat)) (fI r294 (Int.toNat (IntKind.wrap IntKind.i64 (Int.fdiv (IntKind.wrap IntKind.u64 (IntKind.wrap IntKind.i64 (i297 + i298))) ((2 : Int) ^ min (Int.toNat (1 : Int)) (64 : Nat))))) (5 : Nat)) s295 (fun i307 => bif decide (i307 < (0 : Int)) then (REC (IntKind.wrap IntKind.i64 (IntKind.wrap IntKind.i64 (Int.fdiv (IntKind.wrap IntKind.u64 (IntKind.wrap IntKind.i64 (i297 + i298))) ((2 : Int) ^ min (Int.toNat (1 : Int)) (64 : Nat))) + (1 : Int))) i298) else
  (REC i297 (IntKind.wrap IntKind.i64 (Int.fdiv (IntKind.wrap IntKind.u64 (IntKind.wrap IntKind.i64 (i297 + i298))) ((2 : Int) ^ min (Int.toNat (1 : Int)) (64 : Nat))))))) else
  (none)) else
  (kx0 i297 i298)
noncomputable def Lp43_3 {R : Type} (m : Nat) (kx0 : Int → Int → Option R) (r294 : Abs.Rows) (s295 : ByteArray) (i296 : Int) : Nat → Int → Int → Option R
  | 0, _, _ => none
  | n + 1, i297, i298 => Lp43_3_step m kx0 r294 s295 i296 (Lp43_3 m kx0 r294 s295 i296 n) i297 i298
noncomputable def ELp43_3 (m : Nat) (R : Type) : Nat → List V → (Ex → List V → Option R) → Option R
  | 0, _, _ => none
  | n + 1, vs, k => match vs with
    | [V.bor [LT.str, LT.str, LT.int IntKind.i64, LT.int IntKind.i64, LT.int IntKind.i64, LT.int IntKind.i64] r294, V.f (F.lit (Value.string s295)), V.clos (44 : Nat) [], V.f (F.lit (Value.int IntKind.i64 i296)), V.f (F.lit (Value.int IntKind.i64 i297)), V.f (F.lit (Value.int IntKind.i64 i298)), V.undef, V.undef, V.undef] => Lp43_3_step m (fun i308 i309 => k (Ex.exit (0 : Nat)) [V.bor [LT.str, LT.str, LT.int IntKind.i64, LT.int IntKind.i64, LT.int IntKind.i64, LT.int IntKind.i64] r294, V.f (F.lit (Value.string s295)), V.clos (44 : Nat) [], V.f (F.lit (Value.int IntKind.i64 i296)), V.f (F.lit (Value.int IntKind.i64 i308)), V.f (F.lit (Value.int IntKind.i64 i309)), V.undef, V.undef, V.undef]) r294 s295 i296 (fun i297 i298 => ELp43_3 m R n [V.bor [LT.str, LT.str, LT.int IntKind.i64, LT.int IntKind.i64, LT.int IntKind.i64, LT.int IntKind.i64] r294, V.f (F.lit (Value.string s295)), V.clos (44 : Nat) [], V.f (F.lit (Value.int IntKind.i64 i296)), V.f (F.lit (Value.int IntKind.i64 i297)), V.f (F.lit (Value.int IntKind.i64 i298)), V.undef, V.undef, V.undef] k) i297 i298
    | _ => none
noncomputable def brLp43_3 (m : Nat) (L : LTbl) (R : Type) (vs : List V) (k : Ex → List V → Option R) : Option R := match vs with
  | [V.bor [LT.str, LT.str, LT.int IntKind.i64, LT.int IntKind.i64, LT.int IntKind.i64, LT.int IntKind.i64] r294, V.f (F.lit (Value.string s295)), V.clos (44 : Nat) [], V.f (F.lit (Value.int IntKind.i64 i296)), V.f (F.lit (Value.int IntKind.i64 i297)), V.f (F.lit (Value.int IntKind.i64 i298)), V.undef, V.undef, V.undef] => Lp43_3 m (fun i308 i309 => k (Ex.exit (0 : Nat)) [V.bor [LT.str, LT.str, LT.int IntKind.i64, LT.int IntKind.i64, LT.int IntKind.i64, LT.int IntKind.i64] r294, V.f (F.lit (Value.string s295)), V.clos (44 : Nat) [], V.f (F.lit (Value.int IntKind.i64 i296)), V.f (F.lit (Value.int IntKind.i64 i308)), V.f (F.lit (Value.int IntKind.i64 i309)), V.undef, V.undef, V.undef]) r294 s295 i296 m i297 i298
  | _ => L R 43 3 vs k
set_option maxRecDepth 100000 in
theorem stLp43_3 (m n : Nat) (R : Type) (r294 : Abs.Rows) (s295 : ByteArray) (i296 : Int) (i297 : Int) (i298 : Int) (k : Ex → List V → Option R) : codeK Tryd.prog H (T23 m) 43 (L4 m) 4 (loopBody Tryd.prog 43 3) (mkEnv [0, 1, 2, 8, 9, 10, 49, 50, 51] [V.bor [LT.str, LT.str, LT.int IntKind.i64, LT.int IntKind.i64, LT.int IntKind.i64, LT.int IntKind.i64] r294, V.f (F.lit (Value.string s295)), V.clos (44 : Nat) [], V.f (F.lit (Value.int IntKind.i64 i296)), V.f (F.lit (Value.int IntKind.i64 i297)), V.f (F.lit (Value.int IntKind.i64 i298)), V.undef, V.undef, V.undef] 0 (H.len 43)) (fun e env' => match e with | .normal => ELp43_3 m R n (vals [0, 1, 2, 8, 9, 10, 49, 50, 51] env') k | e => k e (vals [0, 1, 2, 8, 9, 10, 49, 50, 51] env')) = Lp43_3_step m (fun i308 i309 => k (Ex.exit (0 : Nat)) [V.bor [LT.str, LT.str, LT.int IntKind.i64, LT.int IntKind.i64, LT.int IntKind.i64, LT.int IntKind.i64] r294, V.f (F.lit (Value.string s295)), V.clos (44 : Nat) [], V.f (F.lit (Value.int IntKind.i64 i296)), V.f (F.lit (Value.int IntKind.i64 i308)), V.f (F.lit (Value.int IntKind.i64 i309)), V.undef, V.undef, V.undef]) r294 s295 i296 (fun i297 i298 => ELp43_3 m R n [V.bor [LT.str, LT.str, LT.int IntKind.i64, LT.int IntKind.i64, LT.int IntKind.i64, LT.int IntKind.i64] r294, V.f (F.lit (Value.string s295)), V.clos (44 : Nat) [], V.f (F.lit (Value.int IntKind.i64 i296)), V.f (F.lit (Value.int IntKind.i64 i297)), V.f (F.lit (Value.int IntKind.i64 i298)), V.undef, V.undef, V.undef] k) i297 i298 := by kernel_rfl
theorem eqLp43_3 (m : Nat) (R : Type) (r294 : Abs.Rows) (s295 : ByteArray) (i296 : Int) (k : Ex → List V → Option R) : ∀ (n : Nat) (i297 : Int) (i298 : Int), ELp43_3 m R n [V.bor [LT.str, LT.str, LT.int IntKind.i64, LT.int IntKind.i64, LT.int IntKind.i64, LT.int IntKind.i64] r294, V.f (F.lit (Value.string s295)), V.clos (44 : Nat) [], V.f (F.lit (Value.int IntKind.i64 i296)), V.f (F.lit (Value.int IntKind.i64 i297)), V.f (F.lit (Value.int IntKind.i64 i298)), V.undef, V.undef, V.undef] k = Lp43_3 m (fun i308 i309 => k (Ex.exit (0 : Nat)) [V.bor [LT.str, LT.str, LT.int IntKind.i64, LT.int IntKind.i64, LT.int IntKind.i64, LT.int IntKind.i64] r294, V.f (F.lit (Value.string s295)), V.clos (44 : Nat) [], V.f (F.lit (Value.int IntKind.i64 i296)), V.f (F.lit (Value.int IntKind.i64 i308)), V.f (F.lit (Value.int IntKind.i64 i309)), V.undef, V.undef, V.undef]) r294 s295 i296 n i297 i298
  | 0, _, _ => rfl
  | n + 1, i297, i298 => by
    simp only [ELp43_3, Lp43_3]
    congr 1
    funext i297 i298
    exact eqLp43_3 m R r294 s295 i296 k n i297 i298
noncomputable def L5 (m : Nat) : LTbl := addB 43 3 (brLp43_3 m (L4 m)) (L4 m)
theorem okL5 (m : Nat) : LTOk Tryd.prog H (L5 m) := addB_ok (okT23 m) hM (okL4 m) (l := [0, 1, 2, 8, 9, 10, 49, 50, 51]) (by kernel_rfl) (by kernel_rfl) m (fun R n vs k => ELp43_3 m R n vs k) (fun R vs k => rfl) (fun R n vs k x h => by
      simp only [ELp43_3] at h
      split at h
      · exact (stLp43_3 m n R _ _ _ _ _ k).trans h
      · cases h) fun R vs k x h => by
    unfold brLp43_3 at h
    split at h
    · exact .inl ((eqLp43_3 m R _ _ _ k m _ _).trans h)
    · exact .inr h

/-- slices.BinarySearchFunc[[]hookflash/api.Class,hookflash/api.Class,string] -/
noncomputable def Fn43 {R : Type} (m : Nat) : Abs.Rows → ByteArray → (Int → Bool → Option R) → Option R := match m with
  | 0 => fun _ _ _ => none
  | m + 1 => fun r292 s293 k =>
  Lp43_3 m (fun i310 i311 => bif decide (i310 < (↑(List.length r292) : Int)) then (bif decide ((0 : Int) ≤ i310 ∧ i310 < (↑(List.length r292) : Int)) then (Fn44 m (fS r292 (Int.toNat i310) (0 : Nat)) (fS r292 (Int.toNat i310) (1 : Nat)) (fI r292 (Int.toNat i310) (2 : Nat)) (fI r292 (Int.toNat i310) (3 : Nat)) (fI r292 (Int.toNat i310) (4 : Nat)) (fI r292 (Int.toNat i310) (5 : Nat)) s293 (fun i312 => k i310 (i312 == (0 : Int)))) else
  (none)) else
  (k i310 false)) r292 s293 ((↑(List.length r292) : Int)) m ((0 : Int)) ((↑(List.length r292) : Int))
noncomputable def brFn43 (m : Nat) (T : Tbl) (R : Type) (vs : List V) (k : V → List V → Option R) : Option R := match vs with
  | [V.bor [LT.str, LT.str, LT.int IntKind.i64, LT.int IntKind.i64, LT.int IntKind.i64, LT.int IntKind.i64] r292, V.f (F.lit (Value.string s293)), V.clos (44 : Nat) []] => Fn43 m r292 s293 (fun i313 b314 => k (V.tup [V.f (F.lit (Value.int IntKind.i64 i313)), V.f (F.lit (Value.bool b314))]) [V.undef, V.undef, V.undef])
  | _ => T R 43 vs k
set_option maxRecDepth 100000 in
theorem evFn43 (m : Nat) (R : Type) (r292 : Abs.Rows) (s293 : ByteArray) (k : V → List V → Option R) : runK Tryd.prog H (T23 m) (L5 m) 43 [V.bor [LT.str, LT.str, LT.int IntKind.i64, LT.int IntKind.i64, LT.int IntKind.i64, LT.int IntKind.i64] r292, V.f (F.lit (Value.string s293)), V.clos (44 : Nat) []] k = Fn43 (m + 1) r292 s293 (fun i313 b314 => k (V.tup [V.f (F.lit (Value.int IntKind.i64 i313)), V.f (F.lit (Value.bool b314))]) [V.undef, V.undef, V.undef]) := by kernel_rfl
noncomputable def T24 (m : Nat) : Tbl := addT 43 (brFn43 m (T23 m)) (T23 m)
theorem okT24 (m : Nat) : TblOk Tryd.prog (T24 m) := addT_ok (okT23 m) fun R vs k x h => by
  unfold brFn43 at h
  split at h
  · cases m with
    | zero => cases h
    | succ m => exact runK_some (okT23 m) hM (okL5 m) ((evFn43 m R _ _ k).trans h)
  · exact okT23 m R 43 _ k x h

/-- a round of a loop of hookflash/account.classOf -/
noncomputable def Lp29_2_step {R : Type} (m : Nat) (kx0 : ByteArray → ByteArray → Int → Int → Int → Int → Bool → Int → Option R) (kx1 : Int → Option R) (s280 : ByteArray) (r281 : Abs.Rows) (i282 : Int) (r283 : Abs.Rows) (s284 : ByteArray) (s285 : ByteArray) (i286 : Int) (i287 : Int) (i288 : Int) (i289 : Int) (b290 : Bool) (REC : Int → Option R) (i291 : Int) : Option R :=
  bif decide (i291 ≥ (0 : Int)) then (bif decide ((0 : Int) ≤ i291 ∧ i291 ≤ (↑(ByteArray.size s280) : Int)) then (Fn43 m r281 (ByteArray.extract s280 (0 : Nat) (Int.toNat i291)) (fun i315 b316 => bif b316 then (bif decide ((0 : Int) ≤ i315 ∧ i315 < (↑(List.length r281) : Int)) then (kx0 (fS r281 (Int.toNat i315) (0 : Nat)) (fS r281 (Int.toNat i315) (1 : Nat)) (fI r281 (Int.toNat i315) (2 : Nat)) (fI r281 (Int.toNat i315) (3 : Nat)) (fI r281 (Int.toNat i315) (4 : Nat)) (fI r281 (Int.toNat i315) (5 : Nat)) true i291) else
  (none)) else
  (REC (IntKind.wrap IntKind.i64 (i291 - (1 : Int)))))) else
  (none)) else
  (kx1 i291)
noncomputable def Lp29_2 {R : Type} (m : Nat) (kx0 : ByteArray → ByteArray → Int → Int → Int → Int → Bool → Int → Option R) (kx1 : Int → Option R) (s280 : ByteArray) (r281 : Abs.Rows) (i282 : Int) (r283 : Abs.Rows) (s284 : ByteArray) (s285 : ByteArray) (i286 : Int) (i287 : Int) (i288 : Int) (i289 : Int) (b290 : Bool) : Nat → Int → Option R
  | 0, _ => none
  | n + 1, i291 => Lp29_2_step m kx0 kx1 s280 r281 i282 r283 s284 s285 i286 i287 i288 i289 b290 (Lp29_2 m kx0 kx1 s280 r281 i282 r283 s284 s285 i286 i287 i288 i289 b290 n) i291
noncomputable def ELp29_2 (m : Nat) (R : Type) : Nat → List V → (Ex → List V → Option R) → Option R
  | 0, _, _ => none
  | n + 1, vs, k => match vs with
    | [V.f (F.lit (Value.string s280)), V.obj [V.bor [LT.str, LT.str, LT.int IntKind.i64, LT.int IntKind.i64, LT.int IntKind.i64, LT.int IntKind.i64] r281, V.f (F.lit (Value.int IntKind.i64 i282)), V.f (F.lst [LT.str] r283)], V.obj [V.f (F.lit (Value.string s284)), V.f (F.lit (Value.string s285)), V.f (F.lit (Value.int IntKind.i64 i286)), V.f (F.lit (Value.int IntKind.i64 i287)), V.f (F.lit (Value.int IntKind.i64 i288)), V.f (F.lit (Value.int IntKind.i64 i289))], V.f (F.lit (Value.bool b290)), V.f (F.lit (Value.int IntKind.i64 i291)), V.undef, V.undef] => Lp29_2_step m (fun s317 s318 i319 i320 i321 i322 b323 i324 => k Ex.ret [V.f (F.lit (Value.string s280)), V.obj [V.bor [LT.str, LT.str, LT.int IntKind.i64, LT.int IntKind.i64, LT.int IntKind.i64, LT.int IntKind.i64] r281, V.f (F.lit (Value.int IntKind.i64 i282)), V.f (F.lst [LT.str] r283)], V.obj [V.f (F.lit (Value.string s317)), V.f (F.lit (Value.string s318)), V.f (F.lit (Value.int IntKind.i64 i319)), V.f (F.lit (Value.int IntKind.i64 i320)), V.f (F.lit (Value.int IntKind.i64 i321)), V.f (F.lit (Value.int IntKind.i64 i322))], V.f (F.lit (Value.bool b323)), V.f (F.lit (Value.int IntKind.i64 i324)), V.undef, V.undef]) (fun i325 => k (Ex.exit (0 : Nat)) [V.f (F.lit (Value.string s280)), V.obj [V.bor [LT.str, LT.str, LT.int IntKind.i64, LT.int IntKind.i64, LT.int IntKind.i64, LT.int IntKind.i64] r281, V.f (F.lit (Value.int IntKind.i64 i282)), V.f (F.lst [LT.str] r283)], V.obj [V.f (F.lit (Value.string s284)), V.f (F.lit (Value.string s285)), V.f (F.lit (Value.int IntKind.i64 i286)), V.f (F.lit (Value.int IntKind.i64 i287)), V.f (F.lit (Value.int IntKind.i64 i288)), V.f (F.lit (Value.int IntKind.i64 i289))], V.f (F.lit (Value.bool b290)), V.f (F.lit (Value.int IntKind.i64 i325)), V.undef, V.undef]) s280 r281 i282 r283 s284 s285 i286 i287 i288 i289 b290 (fun i291 => ELp29_2 m R n [V.f (F.lit (Value.string s280)), V.obj [V.bor [LT.str, LT.str, LT.int IntKind.i64, LT.int IntKind.i64, LT.int IntKind.i64, LT.int IntKind.i64] r281, V.f (F.lit (Value.int IntKind.i64 i282)), V.f (F.lst [LT.str] r283)], V.obj [V.f (F.lit (Value.string s284)), V.f (F.lit (Value.string s285)), V.f (F.lit (Value.int IntKind.i64 i286)), V.f (F.lit (Value.int IntKind.i64 i287)), V.f (F.lit (Value.int IntKind.i64 i288)), V.f (F.lit (Value.int IntKind.i64 i289))], V.f (F.lit (Value.bool b290)), V.f (F.lit (Value.int IntKind.i64 i291)), V.undef, V.undef] k) i291
    | _ => none
noncomputable def brLp29_2 (m : Nat) (L : LTbl) (R : Type) (vs : List V) (k : Ex → List V → Option R) : Option R := match vs with
  | [V.f (F.lit (Value.string s280)), V.obj [V.bor [LT.str, LT.str, LT.int IntKind.i64, LT.int IntKind.i64, LT.int IntKind.i64, LT.int IntKind.i64] r281, V.f (F.lit (Value.int IntKind.i64 i282)), V.f (F.lst [LT.str] r283)], V.obj [V.f (F.lit (Value.string s284)), V.f (F.lit (Value.string s285)), V.f (F.lit (Value.int IntKind.i64 i286)), V.f (F.lit (Value.int IntKind.i64 i287)), V.f (F.lit (Value.int IntKind.i64 i288)), V.f (F.lit (Value.int IntKind.i64 i289))], V.f (F.lit (Value.bool b290)), V.f (F.lit (Value.int IntKind.i64 i291)), V.undef, V.undef] => Lp29_2 m (fun s317 s318 i319 i320 i321 i322 b323 i324 => k Ex.ret [V.f (F.lit (Value.string s280)), V.obj [V.bor [LT.str, LT.str, LT.int IntKind.i64, LT.int IntKind.i64, LT.int IntKind.i64, LT.int IntKind.i64] r281, V.f (F.lit (Value.int IntKind.i64 i282)), V.f (F.lst [LT.str] r283)], V.obj [V.f (F.lit (Value.string s317)), V.f (F.lit (Value.string s318)), V.f (F.lit (Value.int IntKind.i64 i319)), V.f (F.lit (Value.int IntKind.i64 i320)), V.f (F.lit (Value.int IntKind.i64 i321)), V.f (F.lit (Value.int IntKind.i64 i322))], V.f (F.lit (Value.bool b323)), V.f (F.lit (Value.int IntKind.i64 i324)), V.undef, V.undef]) (fun i325 => k (Ex.exit (0 : Nat)) [V.f (F.lit (Value.string s280)), V.obj [V.bor [LT.str, LT.str, LT.int IntKind.i64, LT.int IntKind.i64, LT.int IntKind.i64, LT.int IntKind.i64] r281, V.f (F.lit (Value.int IntKind.i64 i282)), V.f (F.lst [LT.str] r283)], V.obj [V.f (F.lit (Value.string s284)), V.f (F.lit (Value.string s285)), V.f (F.lit (Value.int IntKind.i64 i286)), V.f (F.lit (Value.int IntKind.i64 i287)), V.f (F.lit (Value.int IntKind.i64 i288)), V.f (F.lit (Value.int IntKind.i64 i289))], V.f (F.lit (Value.bool b290)), V.f (F.lit (Value.int IntKind.i64 i325)), V.undef, V.undef]) s280 r281 i282 r283 s284 s285 i286 i287 i288 i289 b290 m i291
  | _ => L R 29 2 vs k
set_option maxRecDepth 100000 in
theorem stLp29_2 (m n : Nat) (R : Type) (s280 : ByteArray) (r281 : Abs.Rows) (i282 : Int) (r283 : Abs.Rows) (s284 : ByteArray) (s285 : ByteArray) (i286 : Int) (i287 : Int) (i288 : Int) (i289 : Int) (b290 : Bool) (i291 : Int) (k : Ex → List V → Option R) : codeK Tryd.prog H (T24 m) 29 (L5 m) 3 (loopBody Tryd.prog 29 2) (mkEnv [1, 2, 4, 5, 6, 31, 32] [V.f (F.lit (Value.string s280)), V.obj [V.bor [LT.str, LT.str, LT.int IntKind.i64, LT.int IntKind.i64, LT.int IntKind.i64, LT.int IntKind.i64] r281, V.f (F.lit (Value.int IntKind.i64 i282)), V.f (F.lst [LT.str] r283)], V.obj [V.f (F.lit (Value.string s284)), V.f (F.lit (Value.string s285)), V.f (F.lit (Value.int IntKind.i64 i286)), V.f (F.lit (Value.int IntKind.i64 i287)), V.f (F.lit (Value.int IntKind.i64 i288)), V.f (F.lit (Value.int IntKind.i64 i289))], V.f (F.lit (Value.bool b290)), V.f (F.lit (Value.int IntKind.i64 i291)), V.undef, V.undef] 0 (H.len 29)) (fun e env' => match e with | .normal => ELp29_2 m R n (vals [1, 2, 4, 5, 6, 31, 32] env') k | e => k e (vals [1, 2, 4, 5, 6, 31, 32] env')) = Lp29_2_step m (fun s317 s318 i319 i320 i321 i322 b323 i324 => k Ex.ret [V.f (F.lit (Value.string s280)), V.obj [V.bor [LT.str, LT.str, LT.int IntKind.i64, LT.int IntKind.i64, LT.int IntKind.i64, LT.int IntKind.i64] r281, V.f (F.lit (Value.int IntKind.i64 i282)), V.f (F.lst [LT.str] r283)], V.obj [V.f (F.lit (Value.string s317)), V.f (F.lit (Value.string s318)), V.f (F.lit (Value.int IntKind.i64 i319)), V.f (F.lit (Value.int IntKind.i64 i320)), V.f (F.lit (Value.int IntKind.i64 i321)), V.f (F.lit (Value.int IntKind.i64 i322))], V.f (F.lit (Value.bool b323)), V.f (F.lit (Value.int IntKind.i64 i324)), V.undef, V.undef]) (fun i325 => k (Ex.exit (0 : Nat)) [V.f (F.lit (Value.string s280)), V.obj [V.bor [LT.str, LT.str, LT.int IntKind.i64, LT.int IntKind.i64, LT.int IntKind.i64, LT.int IntKind.i64] r281, V.f (F.lit (Value.int IntKind.i64 i282)), V.f (F.lst [LT.str] r283)], V.obj [V.f (F.lit (Value.string s284)), V.f (F.lit (Value.string s285)), V.f (F.lit (Value.int IntKind.i64 i286)), V.f (F.lit (Value.int IntKind.i64 i287)), V.f (F.lit (Value.int IntKind.i64 i288)), V.f (F.lit (Value.int IntKind.i64 i289))], V.f (F.lit (Value.bool b290)), V.f (F.lit (Value.int IntKind.i64 i325)), V.undef, V.undef]) s280 r281 i282 r283 s284 s285 i286 i287 i288 i289 b290 (fun i291 => ELp29_2 m R n [V.f (F.lit (Value.string s280)), V.obj [V.bor [LT.str, LT.str, LT.int IntKind.i64, LT.int IntKind.i64, LT.int IntKind.i64, LT.int IntKind.i64] r281, V.f (F.lit (Value.int IntKind.i64 i282)), V.f (F.lst [LT.str] r283)], V.obj [V.f (F.lit (Value.string s284)), V.f (F.lit (Value.string s285)), V.f (F.lit (Value.int IntKind.i64 i286)), V.f (F.lit (Value.int IntKind.i64 i287)), V.f (F.lit (Value.int IntKind.i64 i288)), V.f (F.lit (Value.int IntKind.i64 i289))], V.f (F.lit (Value.bool b290)), V.f (F.lit (Value.int IntKind.i64 i291)), V.undef, V.undef] k) i291 := by kernel_rfl
theorem eqLp29_2 (m : Nat) (R : Type) (s280 : ByteArray) (r281 : Abs.Rows) (i282 : Int) (r283 : Abs.Rows) (s284 : ByteArray) (s285 : ByteArray) (i286 : Int) (i287 : Int) (i288 : Int) (i289 : Int) (b290 : Bool) (k : Ex → List V → Option R) : ∀ (n : Nat) (i291 : Int), ELp29_2 m R n [V.f (F.lit (Value.string s280)), V.obj [V.bor [LT.str, LT.str, LT.int IntKind.i64, LT.int IntKind.i64, LT.int IntKind.i64, LT.int IntKind.i64] r281, V.f (F.lit (Value.int IntKind.i64 i282)), V.f (F.lst [LT.str] r283)], V.obj [V.f (F.lit (Value.string s284)), V.f (F.lit (Value.string s285)), V.f (F.lit (Value.int IntKind.i64 i286)), V.f (F.lit (Value.int IntKind.i64 i287)), V.f (F.lit (Value.int IntKind.i64 i288)), V.f (F.lit (Value.int IntKind.i64 i289))], V.f (F.lit (Value.bool b290)), V.f (F.lit (Value.int IntKind.i64 i291)), V.undef, V.undef] k = Lp29_2 m (fun s317 s318 i319 i320 i321 i322 b323 i324 => k Ex.ret [V.f (F.lit (Value.string s280)), V.obj [V.bor [LT.str, LT.str, LT.int IntKind.i64, LT.int IntKind.i64, LT.int IntKind.i64, LT.int IntKind.i64] r281, V.f (F.lit (Value.int IntKind.i64 i282)), V.f (F.lst [LT.str] r283)], V.obj [V.f (F.lit (Value.string s317)), V.f (F.lit (Value.string s318)), V.f (F.lit (Value.int IntKind.i64 i319)), V.f (F.lit (Value.int IntKind.i64 i320)), V.f (F.lit (Value.int IntKind.i64 i321)), V.f (F.lit (Value.int IntKind.i64 i322))], V.f (F.lit (Value.bool b323)), V.f (F.lit (Value.int IntKind.i64 i324)), V.undef, V.undef]) (fun i325 => k (Ex.exit (0 : Nat)) [V.f (F.lit (Value.string s280)), V.obj [V.bor [LT.str, LT.str, LT.int IntKind.i64, LT.int IntKind.i64, LT.int IntKind.i64, LT.int IntKind.i64] r281, V.f (F.lit (Value.int IntKind.i64 i282)), V.f (F.lst [LT.str] r283)], V.obj [V.f (F.lit (Value.string s284)), V.f (F.lit (Value.string s285)), V.f (F.lit (Value.int IntKind.i64 i286)), V.f (F.lit (Value.int IntKind.i64 i287)), V.f (F.lit (Value.int IntKind.i64 i288)), V.f (F.lit (Value.int IntKind.i64 i289))], V.f (F.lit (Value.bool b290)), V.f (F.lit (Value.int IntKind.i64 i325)), V.undef, V.undef]) s280 r281 i282 r283 s284 s285 i286 i287 i288 i289 b290 n i291
  | 0, _ => rfl
  | n + 1, i291 => by
    simp only [ELp29_2, Lp29_2]
    congr 1
    funext i291
    exact eqLp29_2 m R s280 r281 i282 r283 s284 s285 i286 i287 i288 i289 b290 k n i291
noncomputable def L6 (m : Nat) : LTbl := addB 29 2 (brLp29_2 m (L5 m)) (L5 m)
theorem okL6 (m : Nat) : LTOk Tryd.prog H (L6 m) := addB_ok (okT24 m) hM (okL5 m) (l := [1, 2, 4, 5, 6, 31, 32]) (by kernel_rfl) (by kernel_rfl) m (fun R n vs k => ELp29_2 m R n vs k) (fun R vs k => rfl) (fun R n vs k x h => by
      simp only [ELp29_2] at h
      split at h
      · exact (stLp29_2 m n R _ _ _ _ _ _ _ _ _ _ _ _ k).trans h
      · cases h) fun R vs k x h => by
    unfold brLp29_2 at h
    split at h
    · exact .inl ((eqLp29_2 m R _ _ _ _ _ _ _ _ _ _ _ k m _).trans h)
    · exact .inr h

/-- hookflash/account.classOf -/
noncomputable def Fn29 {R : Type} (m : Nat) : Abs.Rows → Int → Abs.Rows → ByteArray → (ByteArray → ByteArray → Int → Int → Int → Int → Bool → Option R) → Option R := match m with
  | 0 => fun _ _ _ _ _ => none
  | m + 1 => fun r276 i277 r278 s279 k =>
  Lp29_2 m (fun s326 s327 i328 i329 i330 i331 b332 i333 => k s326 s327 i328 i329 i330 i331 b332) (fun i334 => k ({ data := #[] }) ({ data := #[] }) ((0 : Int)) ((0 : Int)) ((0 : Int)) ((0 : Int)) false) s279 r276 i277 r278 ({ data := #[] }) ({ data := #[] }) ((0 : Int)) ((0 : Int)) ((0 : Int)) ((0 : Int)) false m ((↑(ByteArray.size s279) : Int))
noncomputable def brFn29 (m : Nat) (T : Tbl) (R : Type) (vs : List V) (k : V → List V → Option R) : Option R := match vs with
  | [V.agg [V.bor [LT.str, LT.str, LT.int IntKind.i64, LT.int IntKind.i64, LT.int IntKind.i64, LT.int IntKind.i64] r276, V.f (F.lit (Value.int IntKind.i64 i277)), V.f (F.lst [LT.str] r278)], V.f (F.lit (Value.string s279))] => Fn29 m r276 i277 r278 s279 (fun s335 s336 i337 i338 i339 i340 b341 => k (V.tup [V.agg [V.f (F.lit (Value.string s335)), V.f (F.lit (Value.string s336)), V.f (F.lit (Value.int IntKind.i64 i337)), V.f (F.lit (Value.int IntKind.i64 i338)), V.f (F.lit (Value.int IntKind.i64 i339)), V.f (F.lit (Value.int IntKind.i64 i340))], V.f (F.lit (Value.bool b341))]) [V.undef, V.undef])
  | _ => T R 29 vs k
set_option maxRecDepth 100000 in
theorem evFn29 (m : Nat) (R : Type) (r276 : Abs.Rows) (i277 : Int) (r278 : Abs.Rows) (s279 : ByteArray) (k : V → List V → Option R) : runK Tryd.prog H (T24 m) (L6 m) 29 [V.agg [V.bor [LT.str, LT.str, LT.int IntKind.i64, LT.int IntKind.i64, LT.int IntKind.i64, LT.int IntKind.i64] r276, V.f (F.lit (Value.int IntKind.i64 i277)), V.f (F.lst [LT.str] r278)], V.f (F.lit (Value.string s279))] k = Fn29 (m + 1) r276 i277 r278 s279 (fun s335 s336 i337 i338 i339 i340 b341 => k (V.tup [V.agg [V.f (F.lit (Value.string s335)), V.f (F.lit (Value.string s336)), V.f (F.lit (Value.int IntKind.i64 i337)), V.f (F.lit (Value.int IntKind.i64 i338)), V.f (F.lit (Value.int IntKind.i64 i339)), V.f (F.lit (Value.int IntKind.i64 i340))], V.f (F.lit (Value.bool b341))]) [V.undef, V.undef]) := by kernel_rfl
noncomputable def T25 (m : Nat) : Tbl := addT 29 (brFn29 m (T24 m)) (T24 m)
theorem okT25 (m : Nat) : TblOk Tryd.prog (T25 m) := addT_ok (okT24 m) fun R vs k x h => by
  unfold brFn29 at h
  split at h
  · cases m with
    | zero => cases h
    | succ m => exact runK_some (okT24 m) hM (okL6 m) ((evFn29 m R _ _ _ _ k).trans h)
  · exact okT24 m R 29 _ k x h

/-- hookflash/account.ClassOf -/
noncomputable def Fn8 {R : Type} (m : Nat) : Abs.Rows → Int → Abs.Rows → ByteArray → (ByteArray → ByteArray → Int → Int → Int → Int → Int → Option R) → Option R := match m with
  | 0 => fun _ _ _ _ _ => none
  | m + 1 => fun r166 i167 r168 s169 k =>
  Fn16 m r166 i167 r168 (fun i262 => bif i262 != (0 : Int) then (k ({ data := #[] }) ({ data := #[] }) ((0 : Int)) ((0 : Int)) ((0 : Int)) ((0 : Int)) i262) else
  (Fn28 m s169 (fun b275 => bif !b275 then (k ({ data := #[] }) ({ data := #[] }) ((0 : Int)) ((0 : Int)) ((0 : Int)) ((0 : Int)) ((3 : Int))) else
  (Fn29 m r166 i167 r168 s169 (fun s342 s343 i344 i345 i346 i347 b348 => bif !b348 then (k ({ data := #[] }) ({ data := #[] }) ((0 : Int)) ((0 : Int)) ((0 : Int)) ((0 : Int)) ((8 : Int))) else
  (k s342 s343 i344 i345 i346 i347 ((0 : Int))))))))
noncomputable def brFn8 (m : Nat) (T : Tbl) (R : Type) (vs : List V) (k : V → List V → Option R) : Option R := match vs with
  | [V.agg [V.bor [LT.str, LT.str, LT.int IntKind.i64, LT.int IntKind.i64, LT.int IntKind.i64, LT.int IntKind.i64] r166, V.f (F.lit (Value.int IntKind.i64 i167)), V.f (F.lst [LT.str] r168)], V.f (F.lit (Value.string s169))] => Fn8 m r166 i167 r168 s169 (fun s349 s350 i351 i352 i353 i354 i355 => k (V.tup [V.agg [V.f (F.lit (Value.string s349)), V.f (F.lit (Value.string s350)), V.f (F.lit (Value.int IntKind.i64 i351)), V.f (F.lit (Value.int IntKind.i64 i352)), V.f (F.lit (Value.int IntKind.i64 i353)), V.f (F.lit (Value.int IntKind.i64 i354))], V.f (F.lit (Value.int IntKind.i64 i355))]) [V.undef, V.undef])
  | _ => T R 8 vs k
set_option maxRecDepth 100000 in
theorem evFn8 (m : Nat) (R : Type) (r166 : Abs.Rows) (i167 : Int) (r168 : Abs.Rows) (s169 : ByteArray) (k : V → List V → Option R) : runK Tryd.prog H (T25 m) (L6 m) 8 [V.agg [V.bor [LT.str, LT.str, LT.int IntKind.i64, LT.int IntKind.i64, LT.int IntKind.i64, LT.int IntKind.i64] r166, V.f (F.lit (Value.int IntKind.i64 i167)), V.f (F.lst [LT.str] r168)], V.f (F.lit (Value.string s169))] k = Fn8 (m + 1) r166 i167 r168 s169 (fun s349 s350 i351 i352 i353 i354 i355 => k (V.tup [V.agg [V.f (F.lit (Value.string s349)), V.f (F.lit (Value.string s350)), V.f (F.lit (Value.int IntKind.i64 i351)), V.f (F.lit (Value.int IntKind.i64 i352)), V.f (F.lit (Value.int IntKind.i64 i353)), V.f (F.lit (Value.int IntKind.i64 i354))], V.f (F.lit (Value.int IntKind.i64 i355))]) [V.undef, V.undef]) := by kernel_rfl
noncomputable def T26 (m : Nat) : Tbl := addT 8 (brFn8 m (T25 m)) (T25 m)
theorem okT26 (m : Nat) : TblOk Tryd.prog (T26 m) := addT_ok (okT25 m) fun R vs k x h => by
  unfold brFn8 at h
  split at h
  · cases m with
    | zero => cases h
    | succ m => exact runK_some (okT25 m) hM (okL6 m) ((evFn8 m R _ _ _ _ k).trans h)
  · exact okT25 m R 8 _ k x h

/-- hookflash/account.price -/
noncomputable def Fn31 {R : Type} (m : Nat) : ByteArray → ByteArray → Int → Int → Int → Int → Int → (Int → Option R) → Option R := match m with
  | 0 => fun _ _ _ _ _ _ _ _ => none
  | m + 1 => fun s378 s379 i380 i381 i382 i383 i384 k =>
  bif i384 == (0 : Int) then (k ((0 : Int))) else
  (bif decide (i382 ≠ (0 : Int)) then (letV (IntKind.wrap IntKind.i64 (IntKind.wrap IntKind.i64 ((if IntKind.wrap IntKind.i64 (i384 - i381) > (0 : Int) then IntKind.wrap IntKind.i64 (i384 - i381) else (0 : Int)) + i382) - (1 : Int))) (fun i385 => k (IntKind.wrap IntKind.i64 (i380 + IntKind.wrap IntKind.i64 (i383 * IntKind.wrap IntKind.i64 (Int.tdiv i385 i382)))))) else
  (none))
noncomputable def brFn31 (m : Nat) (T : Tbl) (R : Type) (vs : List V) (k : V → List V → Option R) : Option R := match vs with
  | [V.agg [V.f (F.lit (Value.string s378)), V.f (F.lit (Value.string s379)), V.f (F.lit (Value.int IntKind.i64 i380)), V.f (F.lit (Value.int IntKind.i64 i381)), V.f (F.lit (Value.int IntKind.i64 i382)), V.f (F.lit (Value.int IntKind.i64 i383))], V.f (F.lit (Value.int IntKind.i64 i384))] => Fn31 m s378 s379 i380 i381 i382 i383 i384 (fun i386 => k (V.f (F.lit (Value.int IntKind.i64 i386))) [V.undef, V.undef])
  | _ => T R 31 vs k
set_option maxRecDepth 100000 in
theorem evFn31 (m : Nat) (R : Type) (s378 : ByteArray) (s379 : ByteArray) (i380 : Int) (i381 : Int) (i382 : Int) (i383 : Int) (i384 : Int) (k : V → List V → Option R) : runK Tryd.prog H (T26 m) (L6 m) 31 [V.agg [V.f (F.lit (Value.string s378)), V.f (F.lit (Value.string s379)), V.f (F.lit (Value.int IntKind.i64 i380)), V.f (F.lit (Value.int IntKind.i64 i381)), V.f (F.lit (Value.int IntKind.i64 i382)), V.f (F.lit (Value.int IntKind.i64 i383))], V.f (F.lit (Value.int IntKind.i64 i384))] k = Fn31 (m + 1) s378 s379 i380 i381 i382 i383 i384 (fun i386 => k (V.f (F.lit (Value.int IntKind.i64 i386))) [V.undef, V.undef]) := by kernel_rfl
noncomputable def T27 (m : Nat) : Tbl := addT 31 (brFn31 m (T26 m)) (T26 m)
theorem okT27 (m : Nat) : TblOk Tryd.prog (T27 m) := addT_ok (okT26 m) fun R vs k x h => by
  unfold brFn31 at h
  split at h
  · cases m with
    | zero => cases h
    | succ m => exact runK_some (okT26 m) hM (okL6 m) ((evFn31 m R _ _ _ _ _ _ _ k).trans h)
  · exact okT26 m R 31 _ k x h

/-- hookflash/account.Price -/
noncomputable def Fn9 {R : Type} (m : Nat) : Abs.Rows → Int → Abs.Rows → ByteArray → Int → (Int → Int → Option R) → Option R := match m with
  | 0 => fun _ _ _ _ _ _ => none
  | m + 1 => fun r363 i364 r365 s366 i367 k =>
  Fn16 m r363 i364 r365 (fun i368 => bif i368 != (0 : Int) then (k ((0 : Int)) i368) else
  (Fn28 m s366 (fun b369 => bif !b369 then (k ((0 : Int)) ((3 : Int))) else
  (Fn30 m i367 ((0 : Int)) ((86400000 : Int)) (fun b370 => bif !b370 then (k ((0 : Int)) ((1 : Int))) else
  (Fn29 m r363 i364 r365 s366 (fun s371 s372 i373 i374 i375 i376 b377 => bif !b377 then (k ((0 : Int)) ((8 : Int))) else
  (Fn31 m s371 s372 i373 i374 i375 i376 i367 (fun i387 => k i387 ((0 : Int)))))))))))
noncomputable def brFn9 (m : Nat) (T : Tbl) (R : Type) (vs : List V) (k : V → List V → Option R) : Option R := match vs with
  | [V.agg [V.bor [LT.str, LT.str, LT.int IntKind.i64, LT.int IntKind.i64, LT.int IntKind.i64, LT.int IntKind.i64] r363, V.f (F.lit (Value.int IntKind.i64 i364)), V.f (F.lst [LT.str] r365)], V.f (F.lit (Value.string s366)), V.f (F.lit (Value.int IntKind.i64 i367))] => Fn9 m r363 i364 r365 s366 i367 (fun i388 i389 => k (V.tup [V.f (F.lit (Value.int IntKind.i64 i388)), V.f (F.lit (Value.int IntKind.i64 i389))]) [V.undef, V.undef, V.undef])
  | _ => T R 9 vs k
set_option maxRecDepth 100000 in
theorem evFn9 (m : Nat) (R : Type) (r363 : Abs.Rows) (i364 : Int) (r365 : Abs.Rows) (s366 : ByteArray) (i367 : Int) (k : V → List V → Option R) : runK Tryd.prog H (T27 m) (L6 m) 9 [V.agg [V.bor [LT.str, LT.str, LT.int IntKind.i64, LT.int IntKind.i64, LT.int IntKind.i64, LT.int IntKind.i64] r363, V.f (F.lit (Value.int IntKind.i64 i364)), V.f (F.lst [LT.str] r365)], V.f (F.lit (Value.string s366)), V.f (F.lit (Value.int IntKind.i64 i367))] k = Fn9 (m + 1) r363 i364 r365 s366 i367 (fun i388 i389 => k (V.tup [V.f (F.lit (Value.int IntKind.i64 i388)), V.f (F.lit (Value.int IntKind.i64 i389))]) [V.undef, V.undef, V.undef]) := by kernel_rfl
noncomputable def T28 (m : Nat) : Tbl := addT 9 (brFn9 m (T27 m)) (T27 m)
theorem okT28 (m : Nat) : TblOk Tryd.prog (T28 m) := addT_ok (okT27 m) fun R vs k x h => by
  unfold brFn9 at h
  split at h
  · cases m with
    | zero => cases h
    | succ m => exact runK_some (okT27 m) hM (okL6 m) ((evFn9 m R _ _ _ _ _ k).trans h)
  · exact okT27 m R 9 _ k x h

/-- a rest of hookflash/account.CheckPayers -/
noncomputable def Jn17_12 {R : Type} (m : Nat) (kx0 : Int → Bool → Option R) (kx1 : Bool → Option R) (r402 : Abs.Rows) (i403 : Int) (r404 : Abs.Rows) (s405 : ByteArray) (r406 : Abs.Rows) (r407 : Abs.Rows) (i408 : Int) (i409 : Int) (b410 : Bool) : Option R :=
  bif b410 then (kx0 ((7 : Int)) true) else
  (bif decide ((↑(List.length r406) : Int) > (500 : Int)) then (kx0 ((2 : Int)) false) else
  (kx1 false))
noncomputable def brJn17_12 (m : Nat) (L : LTbl) (R : Type) (vs : List V) (k : Ex → List V → Option R) : Option R := match vs with
  | [V.bor [LT.str, LT.lst [LT.str]] r402, V.f (F.lit (Value.int IntKind.i64 i403)), V.own [LT.mp false, LT.str, LT.bool] r404, V.obj [V.f (F.lit (Value.string s405)), V.f (F.lst [LT.str] r406)], V.undef, V.bor [LT.str, LT.lst [LT.str]] r407, V.f (F.lit (Value.int IntKind.i64 i408)), V.f (F.lit (Value.int IntKind.i64 i409)), V.f (F.lit (Value.bool b410)), V.undef] => Jn17_12 m (fun i411 b412 => k Ex.ret [V.bor [LT.str, LT.lst [LT.str]] r402, V.f (F.lit (Value.int IntKind.i64 i411)), V.own [LT.mp false, LT.str, LT.bool] r404, V.obj [V.f (F.lit (Value.string s405)), V.f (F.lst [LT.str] r406)], V.undef, V.bor [LT.str, LT.lst [LT.str]] r407, V.f (F.lit (Value.int IntKind.i64 i408)), V.f (F.lit (Value.int IntKind.i64 i409)), V.f (F.lit (Value.bool b412)), V.undef]) (fun b413 => k Ex.normal [V.bor [LT.str, LT.lst [LT.str]] r402, V.f (F.lit (Value.int IntKind.i64 i403)), V.own [LT.mp false, LT.str, LT.bool] r404, V.obj [V.f (F.lit (Value.string s405)), V.f (F.lst [LT.str] r406)], V.undef, V.bor [LT.str, LT.lst [LT.str]] r407, V.f (F.lit (Value.int IntKind.i64 i408)), V.f (F.lit (Value.int IntKind.i64 i409)), V.f (F.lit (Value.bool b413)), V.undef]) r402 i403 r404 s405 r406 r407 i408 i409 b410
  | _ => L R 17 12 vs k
set_option maxRecDepth 100000 in
theorem evJn17_12 (m : Nat) (R : Type) (r402 : Abs.Rows) (i403 : Int) (r404 : Abs.Rows) (s405 : ByteArray) (r406 : Abs.Rows) (r407 : Abs.Rows) (i408 : Int) (i409 : Int) (b410 : Bool) (k : Ex → List V → Option R) : codeK Tryd.prog H (T28 m) 17 (L6 m) 13 (loopBody Tryd.prog 17 12) (mkEnv [0, 2, 3, 5, 11, 12, 13, 14, 24, 60] [V.bor [LT.str, LT.lst [LT.str]] r402, V.f (F.lit (Value.int IntKind.i64 i403)), V.own [LT.mp false, LT.str, LT.bool] r404, V.obj [V.f (F.lit (Value.string s405)), V.f (F.lst [LT.str] r406)], V.undef, V.bor [LT.str, LT.lst [LT.str]] r407, V.f (F.lit (Value.int IntKind.i64 i408)), V.f (F.lit (Value.int IntKind.i64 i409)), V.f (F.lit (Value.bool b410)), V.undef] 0 (H.len 17)) (fun e env' => k e (vals [0, 2, 3, 5, 11, 12, 13, 14, 24, 60] env')) = Jn17_12 m (fun i411 b412 => k Ex.ret [V.bor [LT.str, LT.lst [LT.str]] r402, V.f (F.lit (Value.int IntKind.i64 i411)), V.own [LT.mp false, LT.str, LT.bool] r404, V.obj [V.f (F.lit (Value.string s405)), V.f (F.lst [LT.str] r406)], V.undef, V.bor [LT.str, LT.lst [LT.str]] r407, V.f (F.lit (Value.int IntKind.i64 i408)), V.f (F.lit (Value.int IntKind.i64 i409)), V.f (F.lit (Value.bool b412)), V.undef]) (fun b413 => k Ex.normal [V.bor [LT.str, LT.lst [LT.str]] r402, V.f (F.lit (Value.int IntKind.i64 i403)), V.own [LT.mp false, LT.str, LT.bool] r404, V.obj [V.f (F.lit (Value.string s405)), V.f (F.lst [LT.str] r406)], V.undef, V.bor [LT.str, LT.lst [LT.str]] r407, V.f (F.lit (Value.int IntKind.i64 i408)), V.f (F.lit (Value.int IntKind.i64 i409)), V.f (F.lit (Value.bool b413)), V.undef]) r402 i403 r404 s405 r406 r407 i408 i409 b410 := by kernel_rfl
noncomputable def L7 (m : Nat) : LTbl := addJ 17 12 (brJn17_12 m (L6 m)) (L6 m)
theorem okL7 (m : Nat) : LTOk Tryd.prog H (L7 m) := addJ_ok (okT28 m) hM (okL6 m) (l := [0, 2, 3, 5, 11, 12, 13, 14, 24, 60]) (by kernel_rfl) (by kernel_rfl) fun R vs k x h => by
    unfold brJn17_12 at h
    split at h
    · exact .inl ((evJn17_12 m R _ _ _ _ _ _ _ _ _ k).trans h)
    · exact .inr h

/-- a round of a loop of hookflash/account.CheckPayers -/
noncomputable def Lp17_18_step {R : Type} (m : Nat) (kx0 : Int → Abs.Rows → Int → Option R) (kx1 : Abs.Rows → Int → Option R) (r425 : Abs.Rows) (i426 : Int) (s428 : ByteArray) (r429 : Abs.Rows) (r430 : Abs.Rows) (i431 : Int) (i432 : Int) (r433 : Abs.Rows) (i434 : Int) (REC : Abs.Rows → Int → Option R) (r427 : Abs.Rows) (i435 : Int) : Option R :=
  bif decide (i435 < i434) then (bif decide ((0 : Int) ≤ i435 ∧ i435 < (↑(List.length r433) : Int)) then (Fn28 m (fS r433 (Int.toNat i435) (0 : Nat)) (fun b436 => bif !b436 then (kx0 ((3 : Int)) r427 i435) else
  (bif F.toBool (List.headD (mRow (F.lit (Value.string (fS r433 (Int.toNat i435) (0 : Nat)))) [F.lit (Value.bool false)] r427) default) then (kx0 ((6 : Int)) r427 i435) else
  (bif decide (List.length r427 < rowMax) then (REC (mPut (F.lit (Value.string (fS r433 (Int.toNat i435) (0 : Nat)))) [F.lit (Value.bool true)] r427) (IntKind.wrap IntKind.i64 (i435 + (1 : Int)))) else
  (none))))) else
  (none)) else
  (kx1 r427 i435)
noncomputable def Lp17_18 {R : Type} (m : Nat) (kx0 : Int → Abs.Rows → Int → Option R) (kx1 : Abs.Rows → Int → Option R) (r425 : Abs.Rows) (i426 : Int) (s428 : ByteArray) (r429 : Abs.Rows) (r430 : Abs.Rows) (i431 : Int) (i432 : Int) (r433 : Abs.Rows) (i434 : Int) : Nat → Abs.Rows → Int → Option R
  | 0, _, _ => none
  | n + 1, r427, i435 => Lp17_18_step m kx0 kx1 r425 i426 s428 r429 r430 i431 i432 r433 i434 (Lp17_18 m kx0 kx1 r425 i426 s428 r429 r430 i431 i432 r433 i434 n) r427 i435
noncomputable def ELp17_18 (m : Nat) (R : Type) : Nat → List V → (Ex → List V → Option R) → Option R
  | 0, _, _ => none
  | n + 1, vs, k => match vs with
    | [V.bor [LT.str, LT.lst [LT.str]] r425, V.f (F.lit (Value.int IntKind.i64 i426)), V.own [LT.mp false, LT.str, LT.bool] r427, V.obj [V.f (F.lit (Value.string s428)), V.f (F.lst [LT.str] r429)], V.undef, V.bor [LT.str, LT.lst [LT.str]] r430, V.f (F.lit (Value.int IntKind.i64 i431)), V.f (F.lit (Value.int IntKind.i64 i432)), V.ref (5 : Nat) (1 : Nat), V.f (F.lst [LT.str] r433), V.f (F.lit (Value.int IntKind.i64 i434)), V.f (F.lit (Value.int IntKind.i64 i435)), V.undef] => Lp17_18_step m (fun i437 r438 i439 => k Ex.ret [V.bor [LT.str, LT.lst [LT.str]] r425, V.f (F.lit (Value.int IntKind.i64 i437)), V.own [LT.mp false, LT.str, LT.bool] r438, V.obj [V.f (F.lit (Value.string s428)), V.f (F.lst [LT.str] r429)], V.undef, V.bor [LT.str, LT.lst [LT.str]] r430, V.f (F.lit (Value.int IntKind.i64 i431)), V.f (F.lit (Value.int IntKind.i64 i432)), V.ref (5 : Nat) (1 : Nat), V.f (F.lst [LT.str] r433), V.f (F.lit (Value.int IntKind.i64 i434)), V.f (F.lit (Value.int IntKind.i64 i439)), V.undef]) (fun r440 i441 => k (Ex.exit (3 : Nat)) [V.bor [LT.str, LT.lst [LT.str]] r425, V.f (F.lit (Value.int IntKind.i64 i426)), V.own [LT.mp false, LT.str, LT.bool] r440, V.obj [V.f (F.lit (Value.string s428)), V.f (F.lst [LT.str] r429)], V.undef, V.bor [LT.str, LT.lst [LT.str]] r430, V.f (F.lit (Value.int IntKind.i64 i431)), V.f (F.lit (Value.int IntKind.i64 i432)), V.ref (5 : Nat) (1 : Nat), V.f (F.lst [LT.str] r433), V.f (F.lit (Value.int IntKind.i64 i434)), V.f (F.lit (Value.int IntKind.i64 i441)), V.undef]) r425 i426 s428 r429 r430 i431 i432 r433 i434 (fun r427 i435 => ELp17_18 m R n [V.bor [LT.str, LT.lst [LT.str]] r425, V.f (F.lit (Value.int IntKind.i64 i426)), V.own [LT.mp false, LT.str, LT.bool] r427, V.obj [V.f (F.lit (Value.string s428)), V.f (F.lst [LT.str] r429)], V.undef, V.bor [LT.str, LT.lst [LT.str]] r430, V.f (F.lit (Value.int IntKind.i64 i431)), V.f (F.lit (Value.int IntKind.i64 i432)), V.ref (5 : Nat) (1 : Nat), V.f (F.lst [LT.str] r433), V.f (F.lit (Value.int IntKind.i64 i434)), V.f (F.lit (Value.int IntKind.i64 i435)), V.undef] k) r427 i435
    | _ => none
noncomputable def brLp17_18 (m : Nat) (L : LTbl) (R : Type) (vs : List V) (k : Ex → List V → Option R) : Option R := match vs with
  | [V.bor [LT.str, LT.lst [LT.str]] r425, V.f (F.lit (Value.int IntKind.i64 i426)), V.own [LT.mp false, LT.str, LT.bool] r427, V.obj [V.f (F.lit (Value.string s428)), V.f (F.lst [LT.str] r429)], V.undef, V.bor [LT.str, LT.lst [LT.str]] r430, V.f (F.lit (Value.int IntKind.i64 i431)), V.f (F.lit (Value.int IntKind.i64 i432)), V.ref (5 : Nat) (1 : Nat), V.f (F.lst [LT.str] r433), V.f (F.lit (Value.int IntKind.i64 i434)), V.f (F.lit (Value.int IntKind.i64 i435)), V.undef] => Lp17_18 m (fun i437 r438 i439 => k Ex.ret [V.bor [LT.str, LT.lst [LT.str]] r425, V.f (F.lit (Value.int IntKind.i64 i437)), V.own [LT.mp false, LT.str, LT.bool] r438, V.obj [V.f (F.lit (Value.string s428)), V.f (F.lst [LT.str] r429)], V.undef, V.bor [LT.str, LT.lst [LT.str]] r430, V.f (F.lit (Value.int IntKind.i64 i431)), V.f (F.lit (Value.int IntKind.i64 i432)), V.ref (5 : Nat) (1 : Nat), V.f (F.lst [LT.str] r433), V.f (F.lit (Value.int IntKind.i64 i434)), V.f (F.lit (Value.int IntKind.i64 i439)), V.undef]) (fun r440 i441 => k (Ex.exit (3 : Nat)) [V.bor [LT.str, LT.lst [LT.str]] r425, V.f (F.lit (Value.int IntKind.i64 i426)), V.own [LT.mp false, LT.str, LT.bool] r440, V.obj [V.f (F.lit (Value.string s428)), V.f (F.lst [LT.str] r429)], V.undef, V.bor [LT.str, LT.lst [LT.str]] r430, V.f (F.lit (Value.int IntKind.i64 i431)), V.f (F.lit (Value.int IntKind.i64 i432)), V.ref (5 : Nat) (1 : Nat), V.f (F.lst [LT.str] r433), V.f (F.lit (Value.int IntKind.i64 i434)), V.f (F.lit (Value.int IntKind.i64 i441)), V.undef]) r425 i426 s428 r429 r430 i431 i432 r433 i434 m r427 i435
  | _ => L R 17 18 vs k
set_option maxRecDepth 100000 in
theorem stLp17_18 (m n : Nat) (R : Type) (r425 : Abs.Rows) (i426 : Int) (r427 : Abs.Rows) (s428 : ByteArray) (r429 : Abs.Rows) (r430 : Abs.Rows) (i431 : Int) (i432 : Int) (r433 : Abs.Rows) (i434 : Int) (i435 : Int) (k : Ex → List V → Option R) : codeK Tryd.prog H (T28 m) 17 (L7 m) 19 (loopBody Tryd.prog 17 18) (mkEnv [0, 2, 3, 5, 11, 12, 13, 14, 43, 44, 45, 46, 60] [V.bor [LT.str, LT.lst [LT.str]] r425, V.f (F.lit (Value.int IntKind.i64 i426)), V.own [LT.mp false, LT.str, LT.bool] r427, V.obj [V.f (F.lit (Value.string s428)), V.f (F.lst [LT.str] r429)], V.undef, V.bor [LT.str, LT.lst [LT.str]] r430, V.f (F.lit (Value.int IntKind.i64 i431)), V.f (F.lit (Value.int IntKind.i64 i432)), V.ref (5 : Nat) (1 : Nat), V.f (F.lst [LT.str] r433), V.f (F.lit (Value.int IntKind.i64 i434)), V.f (F.lit (Value.int IntKind.i64 i435)), V.undef] 0 (H.len 17)) (fun e env' => match e with | .normal => ELp17_18 m R n (vals [0, 2, 3, 5, 11, 12, 13, 14, 43, 44, 45, 46, 60] env') k | e => k e (vals [0, 2, 3, 5, 11, 12, 13, 14, 43, 44, 45, 46, 60] env')) = Lp17_18_step m (fun i437 r438 i439 => k Ex.ret [V.bor [LT.str, LT.lst [LT.str]] r425, V.f (F.lit (Value.int IntKind.i64 i437)), V.own [LT.mp false, LT.str, LT.bool] r438, V.obj [V.f (F.lit (Value.string s428)), V.f (F.lst [LT.str] r429)], V.undef, V.bor [LT.str, LT.lst [LT.str]] r430, V.f (F.lit (Value.int IntKind.i64 i431)), V.f (F.lit (Value.int IntKind.i64 i432)), V.ref (5 : Nat) (1 : Nat), V.f (F.lst [LT.str] r433), V.f (F.lit (Value.int IntKind.i64 i434)), V.f (F.lit (Value.int IntKind.i64 i439)), V.undef]) (fun r440 i441 => k (Ex.exit (3 : Nat)) [V.bor [LT.str, LT.lst [LT.str]] r425, V.f (F.lit (Value.int IntKind.i64 i426)), V.own [LT.mp false, LT.str, LT.bool] r440, V.obj [V.f (F.lit (Value.string s428)), V.f (F.lst [LT.str] r429)], V.undef, V.bor [LT.str, LT.lst [LT.str]] r430, V.f (F.lit (Value.int IntKind.i64 i431)), V.f (F.lit (Value.int IntKind.i64 i432)), V.ref (5 : Nat) (1 : Nat), V.f (F.lst [LT.str] r433), V.f (F.lit (Value.int IntKind.i64 i434)), V.f (F.lit (Value.int IntKind.i64 i441)), V.undef]) r425 i426 s428 r429 r430 i431 i432 r433 i434 (fun r427 i435 => ELp17_18 m R n [V.bor [LT.str, LT.lst [LT.str]] r425, V.f (F.lit (Value.int IntKind.i64 i426)), V.own [LT.mp false, LT.str, LT.bool] r427, V.obj [V.f (F.lit (Value.string s428)), V.f (F.lst [LT.str] r429)], V.undef, V.bor [LT.str, LT.lst [LT.str]] r430, V.f (F.lit (Value.int IntKind.i64 i431)), V.f (F.lit (Value.int IntKind.i64 i432)), V.ref (5 : Nat) (1 : Nat), V.f (F.lst [LT.str] r433), V.f (F.lit (Value.int IntKind.i64 i434)), V.f (F.lit (Value.int IntKind.i64 i435)), V.undef] k) r427 i435 := by kernel_rfl
theorem eqLp17_18 (m : Nat) (R : Type) (r425 : Abs.Rows) (i426 : Int) (s428 : ByteArray) (r429 : Abs.Rows) (r430 : Abs.Rows) (i431 : Int) (i432 : Int) (r433 : Abs.Rows) (i434 : Int) (k : Ex → List V → Option R) : ∀ (n : Nat) (r427 : Abs.Rows) (i435 : Int), ELp17_18 m R n [V.bor [LT.str, LT.lst [LT.str]] r425, V.f (F.lit (Value.int IntKind.i64 i426)), V.own [LT.mp false, LT.str, LT.bool] r427, V.obj [V.f (F.lit (Value.string s428)), V.f (F.lst [LT.str] r429)], V.undef, V.bor [LT.str, LT.lst [LT.str]] r430, V.f (F.lit (Value.int IntKind.i64 i431)), V.f (F.lit (Value.int IntKind.i64 i432)), V.ref (5 : Nat) (1 : Nat), V.f (F.lst [LT.str] r433), V.f (F.lit (Value.int IntKind.i64 i434)), V.f (F.lit (Value.int IntKind.i64 i435)), V.undef] k = Lp17_18 m (fun i437 r438 i439 => k Ex.ret [V.bor [LT.str, LT.lst [LT.str]] r425, V.f (F.lit (Value.int IntKind.i64 i437)), V.own [LT.mp false, LT.str, LT.bool] r438, V.obj [V.f (F.lit (Value.string s428)), V.f (F.lst [LT.str] r429)], V.undef, V.bor [LT.str, LT.lst [LT.str]] r430, V.f (F.lit (Value.int IntKind.i64 i431)), V.f (F.lit (Value.int IntKind.i64 i432)), V.ref (5 : Nat) (1 : Nat), V.f (F.lst [LT.str] r433), V.f (F.lit (Value.int IntKind.i64 i434)), V.f (F.lit (Value.int IntKind.i64 i439)), V.undef]) (fun r440 i441 => k (Ex.exit (3 : Nat)) [V.bor [LT.str, LT.lst [LT.str]] r425, V.f (F.lit (Value.int IntKind.i64 i426)), V.own [LT.mp false, LT.str, LT.bool] r440, V.obj [V.f (F.lit (Value.string s428)), V.f (F.lst [LT.str] r429)], V.undef, V.bor [LT.str, LT.lst [LT.str]] r430, V.f (F.lit (Value.int IntKind.i64 i431)), V.f (F.lit (Value.int IntKind.i64 i432)), V.ref (5 : Nat) (1 : Nat), V.f (F.lst [LT.str] r433), V.f (F.lit (Value.int IntKind.i64 i434)), V.f (F.lit (Value.int IntKind.i64 i441)), V.undef]) r425 i426 s428 r429 r430 i431 i432 r433 i434 n r427 i435
  | 0, _, _ => rfl
  | n + 1, r427, i435 => by
    simp only [ELp17_18, Lp17_18]
    congr 1
    funext r427 i435
    exact eqLp17_18 m R r425 i426 s428 r429 r430 i431 i432 r433 i434 k n r427 i435
noncomputable def L8 (m : Nat) : LTbl := addB 17 18 (brLp17_18 m (L7 m)) (L7 m)
theorem okL8 (m : Nat) : LTOk Tryd.prog H (L8 m) := addB_ok (okT28 m) hM (okL7 m) (l := [0, 2, 3, 5, 11, 12, 13, 14, 43, 44, 45, 46, 60]) (by kernel_rfl) (by kernel_rfl) m (fun R n vs k => ELp17_18 m R n vs k) (fun R vs k => rfl) (fun R n vs k x h => by
      simp only [ELp17_18] at h
      split at h
      · exact (stLp17_18 m n R _ _ _ _ _ _ _ _ _ _ _ k).trans h
      · cases h) fun R vs k x h => by
    unfold brLp17_18 at h
    split at h
    · exact .inl ((eqLp17_18 m R _ _ _ _ _ _ _ _ _ k m _ _).trans h)
    · exact .inr h

/-- a rest of hookflash/account.CheckPayers -/
noncomputable def Jn17_16 {R : Type} (m : Nat) (kx0 : Int → Abs.Rows → Option R) (kx1 : Abs.Rows → Option R) (r417 : Abs.Rows) (i418 : Int) (r419 : Abs.Rows) (s420 : ByteArray) (r421 : Abs.Rows) (r422 : Abs.Rows) (i423 : Int) (i424 : Int) : Option R :=
  Lp17_18 m (fun i442 r443 i444 => kx0 i442 r443) (fun r445 i446 => kx1 r445) r417 i418 s420 r421 r422 i423 i424 r421 ((↑(List.length r421) : Int)) m r419 ((0 : Int))
noncomputable def brJn17_16 (m : Nat) (L : LTbl) (R : Type) (vs : List V) (k : Ex → List V → Option R) : Option R := match vs with
  | [V.bor [LT.str, LT.lst [LT.str]] r417, V.f (F.lit (Value.int IntKind.i64 i418)), V.own [LT.mp false, LT.str, LT.bool] r419, V.obj [V.f (F.lit (Value.string s420)), V.f (F.lst [LT.str] r421)], V.undef, V.bor [LT.str, LT.lst [LT.str]] r422, V.f (F.lit (Value.int IntKind.i64 i423)), V.f (F.lit (Value.int IntKind.i64 i424)), V.undef] => Jn17_16 m (fun i447 r448 => k Ex.ret [V.bor [LT.str, LT.lst [LT.str]] r417, V.f (F.lit (Value.int IntKind.i64 i447)), V.own [LT.mp false, LT.str, LT.bool] r448, V.obj [V.f (F.lit (Value.string s420)), V.f (F.lst [LT.str] r421)], V.undef, V.bor [LT.str, LT.lst [LT.str]] r422, V.f (F.lit (Value.int IntKind.i64 i423)), V.f (F.lit (Value.int IntKind.i64 i424)), V.undef]) (fun r449 => k Ex.normal [V.bor [LT.str, LT.lst [LT.str]] r417, V.f (F.lit (Value.int IntKind.i64 i418)), V.own [LT.mp false, LT.str, LT.bool] r449, V.obj [V.f (F.lit (Value.string s420)), V.f (F.lst [LT.str] r421)], V.undef, V.bor [LT.str, LT.lst [LT.str]] r422, V.f (F.lit (Value.int IntKind.i64 i423)), V.f (F.lit (Value.int IntKind.i64 i424)), V.undef]) r417 i418 r419 s420 r421 r422 i423 i424
  | _ => L R 17 16 vs k
set_option maxRecDepth 100000 in
theorem evJn17_16 (m : Nat) (R : Type) (r417 : Abs.Rows) (i418 : Int) (r419 : Abs.Rows) (s420 : ByteArray) (r421 : Abs.Rows) (r422 : Abs.Rows) (i423 : Int) (i424 : Int) (k : Ex → List V → Option R) : codeK Tryd.prog H (T28 m) 17 (L8 m) 17 (loopBody Tryd.prog 17 16) (mkEnv [0, 2, 3, 5, 11, 12, 13, 14, 60] [V.bor [LT.str, LT.lst [LT.str]] r417, V.f (F.lit (Value.int IntKind.i64 i418)), V.own [LT.mp false, LT.str, LT.bool] r419, V.obj [V.f (F.lit (Value.string s420)), V.f (F.lst [LT.str] r421)], V.undef, V.bor [LT.str, LT.lst [LT.str]] r422, V.f (F.lit (Value.int IntKind.i64 i423)), V.f (F.lit (Value.int IntKind.i64 i424)), V.undef] 0 (H.len 17)) (fun e env' => k e (vals [0, 2, 3, 5, 11, 12, 13, 14, 60] env')) = Jn17_16 m (fun i447 r448 => k Ex.ret [V.bor [LT.str, LT.lst [LT.str]] r417, V.f (F.lit (Value.int IntKind.i64 i447)), V.own [LT.mp false, LT.str, LT.bool] r448, V.obj [V.f (F.lit (Value.string s420)), V.f (F.lst [LT.str] r421)], V.undef, V.bor [LT.str, LT.lst [LT.str]] r422, V.f (F.lit (Value.int IntKind.i64 i423)), V.f (F.lit (Value.int IntKind.i64 i424)), V.undef]) (fun r449 => k Ex.normal [V.bor [LT.str, LT.lst [LT.str]] r417, V.f (F.lit (Value.int IntKind.i64 i418)), V.own [LT.mp false, LT.str, LT.bool] r449, V.obj [V.f (F.lit (Value.string s420)), V.f (F.lst [LT.str] r421)], V.undef, V.bor [LT.str, LT.lst [LT.str]] r422, V.f (F.lit (Value.int IntKind.i64 i423)), V.f (F.lit (Value.int IntKind.i64 i424)), V.undef]) r417 i418 r419 s420 r421 r422 i423 i424 := by kernel_rfl
noncomputable def L9 (m : Nat) : LTbl := addJ 17 16 (brJn17_16 m (L8 m)) (L8 m)
theorem okL9 (m : Nat) : LTOk Tryd.prog H (L9 m) := addJ_ok (okT28 m) hM (okL8 m) (l := [0, 2, 3, 5, 11, 12, 13, 14, 60]) (by kernel_rfl) (by kernel_rfl) fun R vs k x h => by
    unfold brJn17_16 at h
    split at h
    · exact .inl ((evJn17_16 m R _ _ _ _ _ _ _ _ k).trans h)
    · exact .inr h

/-- a round of a loop of hookflash/account.CheckPayers -/
noncomputable def Lp17_6_step {R : Type} (m : Nat) (kx0 : Int → Abs.Rows → Int → Option R) (kx1 : Abs.Rows → Int → Option R) (r395 : Abs.Rows) (i396 : Int) (r398 : Abs.Rows) (i399 : Int) (REC : Abs.Rows → Int → Option R) (r397 : Abs.Rows) (i400 : Int) : Option R :=
  bif decide (i400 < i399) then (bif decide ((0 : Int) ≤ i400 ∧ i400 < (↑(List.length r398) : Int)) then (Fn38 m (fS r398 (Int.toNat i400) (0 : Nat)) (fun b401 => bif !b401 then (kx0 ((5 : Int)) r397 i400) else
  (bif decide (i400 > (0 : Int)) then (bif decide ((0 : Int) ≤ IntKind.wrap IntKind.i64 (i400 - (1 : Int)) ∧ IntKind.wrap IntKind.i64 (i400 - (1 : Int)) < (↑(List.length r395) : Int)) then (Jn17_12 m (fun i414 b415 => kx0 i414 r397 i400) (fun b416 => Jn17_16 m (fun i450 r451 => kx0 i450 r451 i400) (fun r452 => REC r452 (IntKind.wrap IntKind.i64 (i400 + (1 : Int)))) r395 i396 r397 (fS r398 (Int.toNat i400) (0 : Nat)) (fR r398 (Int.toNat i400) (1 : Nat)) r398 i399 i400) r395 i396 r397 (fS r398 (Int.toNat i400) (0 : Nat)) (fR r398 (Int.toNat i400) (1 : Nat)) r398 i399 i400 (Op.bytesLess (ByteArray.toList (fS r398 (Int.toNat i400) (0 : Nat))) (ByteArray.toList (fS r395 (Int.toNat (IntKind.wrap IntKind.i64 (i400 - (1 : Int)))) (0 : Nat))) || ByteArray.toList (fS r398 (Int.toNat i400) (0 : Nat)) == ByteArray.toList (fS r395 (Int.toNat (IntKind.wrap IntKind.i64 (i400 - (1 : Int)))) (0 : Nat)))) else
  (none)) else
  (Jn17_12 m (fun i453 b454 => kx0 i453 r397 i400) (fun b455 => Jn17_16 m (fun i456 r457 => kx0 i456 r457 i400) (fun r458 => REC r458 (IntKind.wrap IntKind.i64 (i400 + (1 : Int)))) r395 i396 r397 (fS r398 (Int.toNat i400) (0 : Nat)) (fR r398 (Int.toNat i400) (1 : Nat)) r398 i399 i400) r395 i396 r397 (fS r398 (Int.toNat i400) (0 : Nat)) (fR r398 (Int.toNat i400) (1 : Nat)) r398 i399 i400 false)))) else
  (none)) else
  (kx1 r397 i400)
noncomputable def Lp17_6 {R : Type} (m : Nat) (kx0 : Int → Abs.Rows → Int → Option R) (kx1 : Abs.Rows → Int → Option R) (r395 : Abs.Rows) (i396 : Int) (r398 : Abs.Rows) (i399 : Int) : Nat → Abs.Rows → Int → Option R
  | 0, _, _ => none
  | n + 1, r397, i400 => Lp17_6_step m kx0 kx1 r395 i396 r398 i399 (Lp17_6 m kx0 kx1 r395 i396 r398 i399 n) r397 i400
noncomputable def ELp17_6 (m : Nat) (R : Type) : Nat → List V → (Ex → List V → Option R) → Option R
  | 0, _, _ => none
  | n + 1, vs, k => match vs with
    | [V.bor [LT.str, LT.lst [LT.str]] r395, V.f (F.lit (Value.int IntKind.i64 i396)), V.own [LT.mp false, LT.str, LT.bool] r397, V.undef, V.bor [LT.str, LT.lst [LT.str]] r398, V.f (F.lit (Value.int IntKind.i64 i399)), V.f (F.lit (Value.int IntKind.i64 i400)), V.undef] => Lp17_6_step m (fun i459 r460 i461 => k Ex.ret [V.bor [LT.str, LT.lst [LT.str]] r395, V.f (F.lit (Value.int IntKind.i64 i459)), V.own [LT.mp false, LT.str, LT.bool] r460, V.undef, V.bor [LT.str, LT.lst [LT.str]] r398, V.f (F.lit (Value.int IntKind.i64 i399)), V.f (F.lit (Value.int IntKind.i64 i461)), V.undef]) (fun r462 i463 => k (Ex.exit (0 : Nat)) [V.bor [LT.str, LT.lst [LT.str]] r395, V.f (F.lit (Value.int IntKind.i64 i396)), V.own [LT.mp false, LT.str, LT.bool] r462, V.undef, V.bor [LT.str, LT.lst [LT.str]] r398, V.f (F.lit (Value.int IntKind.i64 i399)), V.f (F.lit (Value.int IntKind.i64 i463)), V.undef]) r395 i396 r398 i399 (fun r397 i400 => ELp17_6 m R n [V.bor [LT.str, LT.lst [LT.str]] r395, V.f (F.lit (Value.int IntKind.i64 i396)), V.own [LT.mp false, LT.str, LT.bool] r397, V.undef, V.bor [LT.str, LT.lst [LT.str]] r398, V.f (F.lit (Value.int IntKind.i64 i399)), V.f (F.lit (Value.int IntKind.i64 i400)), V.undef] k) r397 i400
    | _ => none
noncomputable def brLp17_6 (m : Nat) (L : LTbl) (R : Type) (vs : List V) (k : Ex → List V → Option R) : Option R := match vs with
  | [V.bor [LT.str, LT.lst [LT.str]] r395, V.f (F.lit (Value.int IntKind.i64 i396)), V.own [LT.mp false, LT.str, LT.bool] r397, V.undef, V.bor [LT.str, LT.lst [LT.str]] r398, V.f (F.lit (Value.int IntKind.i64 i399)), V.f (F.lit (Value.int IntKind.i64 i400)), V.undef] => Lp17_6 m (fun i459 r460 i461 => k Ex.ret [V.bor [LT.str, LT.lst [LT.str]] r395, V.f (F.lit (Value.int IntKind.i64 i459)), V.own [LT.mp false, LT.str, LT.bool] r460, V.undef, V.bor [LT.str, LT.lst [LT.str]] r398, V.f (F.lit (Value.int IntKind.i64 i399)), V.f (F.lit (Value.int IntKind.i64 i461)), V.undef]) (fun r462 i463 => k (Ex.exit (0 : Nat)) [V.bor [LT.str, LT.lst [LT.str]] r395, V.f (F.lit (Value.int IntKind.i64 i396)), V.own [LT.mp false, LT.str, LT.bool] r462, V.undef, V.bor [LT.str, LT.lst [LT.str]] r398, V.f (F.lit (Value.int IntKind.i64 i399)), V.f (F.lit (Value.int IntKind.i64 i463)), V.undef]) r395 i396 r398 i399 m r397 i400
  | _ => L R 17 6 vs k
set_option maxRecDepth 100000 in
theorem stLp17_6 (m n : Nat) (R : Type) (r395 : Abs.Rows) (i396 : Int) (r397 : Abs.Rows) (r398 : Abs.Rows) (i399 : Int) (i400 : Int) (k : Ex → List V → Option R) : codeK Tryd.prog H (T28 m) 17 (L9 m) 7 (loopBody Tryd.prog 17 6) (mkEnv [0, 2, 3, 11, 12, 13, 14, 60] [V.bor [LT.str, LT.lst [LT.str]] r395, V.f (F.lit (Value.int IntKind.i64 i396)), V.own [LT.mp false, LT.str, LT.bool] r397, V.undef, V.bor [LT.str, LT.lst [LT.str]] r398, V.f (F.lit (Value.int IntKind.i64 i399)), V.f (F.lit (Value.int IntKind.i64 i400)), V.undef] 0 (H.len 17)) (fun e env' => match e with | .normal => ELp17_6 m R n (vals [0, 2, 3, 11, 12, 13, 14, 60] env') k | e => k e (vals [0, 2, 3, 11, 12, 13, 14, 60] env')) = Lp17_6_step m (fun i459 r460 i461 => k Ex.ret [V.bor [LT.str, LT.lst [LT.str]] r395, V.f (F.lit (Value.int IntKind.i64 i459)), V.own [LT.mp false, LT.str, LT.bool] r460, V.undef, V.bor [LT.str, LT.lst [LT.str]] r398, V.f (F.lit (Value.int IntKind.i64 i399)), V.f (F.lit (Value.int IntKind.i64 i461)), V.undef]) (fun r462 i463 => k (Ex.exit (0 : Nat)) [V.bor [LT.str, LT.lst [LT.str]] r395, V.f (F.lit (Value.int IntKind.i64 i396)), V.own [LT.mp false, LT.str, LT.bool] r462, V.undef, V.bor [LT.str, LT.lst [LT.str]] r398, V.f (F.lit (Value.int IntKind.i64 i399)), V.f (F.lit (Value.int IntKind.i64 i463)), V.undef]) r395 i396 r398 i399 (fun r397 i400 => ELp17_6 m R n [V.bor [LT.str, LT.lst [LT.str]] r395, V.f (F.lit (Value.int IntKind.i64 i396)), V.own [LT.mp false, LT.str, LT.bool] r397, V.undef, V.bor [LT.str, LT.lst [LT.str]] r398, V.f (F.lit (Value.int IntKind.i64 i399)), V.f (F.lit (Value.int IntKind.i64 i400)), V.undef] k) r397 i400 := by kernel_rfl
theorem eqLp17_6 (m : Nat) (R : Type) (r395 : Abs.Rows) (i396 : Int) (r398 : Abs.Rows) (i399 : Int) (k : Ex → List V → Option R) : ∀ (n : Nat) (r397 : Abs.Rows) (i400 : Int), ELp17_6 m R n [V.bor [LT.str, LT.lst [LT.str]] r395, V.f (F.lit (Value.int IntKind.i64 i396)), V.own [LT.mp false, LT.str, LT.bool] r397, V.undef, V.bor [LT.str, LT.lst [LT.str]] r398, V.f (F.lit (Value.int IntKind.i64 i399)), V.f (F.lit (Value.int IntKind.i64 i400)), V.undef] k = Lp17_6 m (fun i459 r460 i461 => k Ex.ret [V.bor [LT.str, LT.lst [LT.str]] r395, V.f (F.lit (Value.int IntKind.i64 i459)), V.own [LT.mp false, LT.str, LT.bool] r460, V.undef, V.bor [LT.str, LT.lst [LT.str]] r398, V.f (F.lit (Value.int IntKind.i64 i399)), V.f (F.lit (Value.int IntKind.i64 i461)), V.undef]) (fun r462 i463 => k (Ex.exit (0 : Nat)) [V.bor [LT.str, LT.lst [LT.str]] r395, V.f (F.lit (Value.int IntKind.i64 i396)), V.own [LT.mp false, LT.str, LT.bool] r462, V.undef, V.bor [LT.str, LT.lst [LT.str]] r398, V.f (F.lit (Value.int IntKind.i64 i399)), V.f (F.lit (Value.int IntKind.i64 i463)), V.undef]) r395 i396 r398 i399 n r397 i400
  | 0, _, _ => rfl
  | n + 1, r397, i400 => by
    simp only [ELp17_6, Lp17_6]
    congr 1
    funext r397 i400
    exact eqLp17_6 m R r395 i396 r398 i399 k n r397 i400
noncomputable def L10 (m : Nat) : LTbl := addB 17 6 (brLp17_6 m (L9 m)) (L9 m)
theorem okL10 (m : Nat) : LTOk Tryd.prog H (L10 m) := addB_ok (okT28 m) hM (okL9 m) (l := [0, 2, 3, 11, 12, 13, 14, 60]) (by kernel_rfl) (by kernel_rfl) m (fun R n vs k => ELp17_6 m R n vs k) (fun R vs k => rfl) (fun R n vs k x h => by
      simp only [ELp17_6] at h
      split at h
      · exact (stLp17_6 m n R _ _ _ _ _ _ k).trans h
      · cases h) fun R vs k x h => by
    unfold brLp17_6 at h
    split at h
    · exact .inl ((eqLp17_6 m R _ _ _ _ k m _ _).trans h)
    · exact .inr h

/-- hookflash/account.CheckPayers -/
noncomputable def Fn17 {R : Type} (m : Nat) : Abs.Rows → (Int → Option R) → Option R := match m with
  | 0 => fun _ _ => none
  | m + 1 => fun r394 k =>
  bif decide ((↑(List.length r394) : Int) > (500 : Int)) then (k ((2 : Int))) else
  (Lp17_6 m (fun i464 r465 i466 => k i464) (fun r467 i468 => k ((0 : Int))) r394 ((0 : Int)) r394 ((↑(List.length r394) : Int)) m rows0 ((0 : Int)))
noncomputable def brFn17 (m : Nat) (T : Tbl) (R : Type) (vs : List V) (k : V → List V → Option R) : Option R := match vs with
  | [V.bor [LT.str, LT.lst [LT.str]] r394] => Fn17 m r394 (fun i469 => k (V.f (F.lit (Value.int IntKind.i64 i469))) [V.undef])
  | _ => T R 17 vs k
set_option maxRecDepth 100000 in
theorem evFn17 (m : Nat) (R : Type) (r394 : Abs.Rows) (k : V → List V → Option R) : runK Tryd.prog H (T28 m) (L10 m) 17 [V.bor [LT.str, LT.lst [LT.str]] r394] k = Fn17 (m + 1) r394 (fun i469 => k (V.f (F.lit (Value.int IntKind.i64 i469))) [V.undef]) := by kernel_rfl
noncomputable def T29 (m : Nat) : Tbl := addT 17 (brFn17 m (T28 m)) (T28 m)
theorem okT29 (m : Nat) : TblOk Tryd.prog (T29 m) := addT_ok (okT28 m) fun R vs k x h => by
  unfold brFn17 at h
  split at h
  · cases m with
    | zero => cases h
    | succ m => exact runK_some (okT28 m) hM (okL10 m) ((evFn17 m R _ k).trans h)
  · exact okT28 m R 17 _ k x h

/-- a round of a loop of hookflash/account.owners -/
noncomputable def Lp32_8_step {R : Type} (m : Nat) (kx0 : Abs.Rows → Int → Option R) (r478 : Abs.Rows) (s480 : ByteArray) (r481 : Abs.Rows) (r482 : Abs.Rows) (i483 : Int) (i484 : Int) (r485 : Abs.Rows) (i486 : Int) (REC : Abs.Rows → Int → Option R) (r479 : Abs.Rows) (i487 : Int) : Option R :=
  bif decide (i487 < i486) then (bif decide ((0 : Int) ≤ i487 ∧ i487 < (↑(List.length r485) : Int)) then (bif decide (List.length r479 < rowMax) then (REC (mPut (F.lit (Value.string (fS r485 (Int.toNat i487) (0 : Nat)))) [F.lit (Value.string s480)] r479) (IntKind.wrap IntKind.i64 (i487 + (1 : Int)))) else
  (none)) else
  (none)) else
  (kx0 r479 i487)
noncomputable def Lp32_8 {R : Type} (m : Nat) (kx0 : Abs.Rows → Int → Option R) (r478 : Abs.Rows) (s480 : ByteArray) (r481 : Abs.Rows) (r482 : Abs.Rows) (i483 : Int) (i484 : Int) (r485 : Abs.Rows) (i486 : Int) : Nat → Abs.Rows → Int → Option R
  | 0, _, _ => none
  | n + 1, r479, i487 => Lp32_8_step m kx0 r478 s480 r481 r482 i483 i484 r485 i486 (Lp32_8 m kx0 r478 s480 r481 r482 i483 i484 r485 i486 n) r479 i487
noncomputable def ELp32_8 (m : Nat) (R : Type) : Nat → List V → (Ex → List V → Option R) → Option R
  | 0, _, _ => none
  | n + 1, vs, k => match vs with
    | [V.bor [LT.str, LT.lst [LT.str]] r478, V.own [LT.mp false, LT.str, LT.str] r479, V.obj [V.f (F.lit (Value.string s480)), V.f (F.lst [LT.str] r481)], V.undef, V.bor [LT.str, LT.lst [LT.str]] r482, V.f (F.lit (Value.int IntKind.i64 i483)), V.f (F.lit (Value.int IntKind.i64 i484)), V.ref (5 : Nat) (1 : Nat), V.f (F.lst [LT.str] r485), V.f (F.lit (Value.int IntKind.i64 i486)), V.f (F.lit (Value.int IntKind.i64 i487)), V.undef] => Lp32_8_step m (fun r488 i489 => k (Ex.exit (2 : Nat)) [V.bor [LT.str, LT.lst [LT.str]] r478, V.own [LT.mp false, LT.str, LT.str] r488, V.obj [V.f (F.lit (Value.string s480)), V.f (F.lst [LT.str] r481)], V.undef, V.bor [LT.str, LT.lst [LT.str]] r482, V.f (F.lit (Value.int IntKind.i64 i483)), V.f (F.lit (Value.int IntKind.i64 i484)), V.ref (5 : Nat) (1 : Nat), V.f (F.lst [LT.str] r485), V.f (F.lit (Value.int IntKind.i64 i486)), V.f (F.lit (Value.int IntKind.i64 i489)), V.undef]) r478 s480 r481 r482 i483 i484 r485 i486 (fun r479 i487 => ELp32_8 m R n [V.bor [LT.str, LT.lst [LT.str]] r478, V.own [LT.mp false, LT.str, LT.str] r479, V.obj [V.f (F.lit (Value.string s480)), V.f (F.lst [LT.str] r481)], V.undef, V.bor [LT.str, LT.lst [LT.str]] r482, V.f (F.lit (Value.int IntKind.i64 i483)), V.f (F.lit (Value.int IntKind.i64 i484)), V.ref (5 : Nat) (1 : Nat), V.f (F.lst [LT.str] r485), V.f (F.lit (Value.int IntKind.i64 i486)), V.f (F.lit (Value.int IntKind.i64 i487)), V.undef] k) r479 i487
    | _ => none
noncomputable def brLp32_8 (m : Nat) (L : LTbl) (R : Type) (vs : List V) (k : Ex → List V → Option R) : Option R := match vs with
  | [V.bor [LT.str, LT.lst [LT.str]] r478, V.own [LT.mp false, LT.str, LT.str] r479, V.obj [V.f (F.lit (Value.string s480)), V.f (F.lst [LT.str] r481)], V.undef, V.bor [LT.str, LT.lst [LT.str]] r482, V.f (F.lit (Value.int IntKind.i64 i483)), V.f (F.lit (Value.int IntKind.i64 i484)), V.ref (5 : Nat) (1 : Nat), V.f (F.lst [LT.str] r485), V.f (F.lit (Value.int IntKind.i64 i486)), V.f (F.lit (Value.int IntKind.i64 i487)), V.undef] => Lp32_8 m (fun r488 i489 => k (Ex.exit (2 : Nat)) [V.bor [LT.str, LT.lst [LT.str]] r478, V.own [LT.mp false, LT.str, LT.str] r488, V.obj [V.f (F.lit (Value.string s480)), V.f (F.lst [LT.str] r481)], V.undef, V.bor [LT.str, LT.lst [LT.str]] r482, V.f (F.lit (Value.int IntKind.i64 i483)), V.f (F.lit (Value.int IntKind.i64 i484)), V.ref (5 : Nat) (1 : Nat), V.f (F.lst [LT.str] r485), V.f (F.lit (Value.int IntKind.i64 i486)), V.f (F.lit (Value.int IntKind.i64 i489)), V.undef]) r478 s480 r481 r482 i483 i484 r485 i486 m r479 i487
  | _ => L R 32 8 vs k
set_option maxRecDepth 100000 in
theorem stLp32_8 (m n : Nat) (R : Type) (r478 : Abs.Rows) (r479 : Abs.Rows) (s480 : ByteArray) (r481 : Abs.Rows) (r482 : Abs.Rows) (i483 : Int) (i484 : Int) (r485 : Abs.Rows) (i486 : Int) (i487 : Int) (k : Ex → List V → Option R) : codeK Tryd.prog H (T29 m) 32 (L10 m) 9 (loopBody Tryd.prog 32 8) (mkEnv [0, 3, 5, 8, 9, 10, 11, 15, 16, 17, 18, 29] [V.bor [LT.str, LT.lst [LT.str]] r478, V.own [LT.mp false, LT.str, LT.str] r479, V.obj [V.f (F.lit (Value.string s480)), V.f (F.lst [LT.str] r481)], V.undef, V.bor [LT.str, LT.lst [LT.str]] r482, V.f (F.lit (Value.int IntKind.i64 i483)), V.f (F.lit (Value.int IntKind.i64 i484)), V.ref (5 : Nat) (1 : Nat), V.f (F.lst [LT.str] r485), V.f (F.lit (Value.int IntKind.i64 i486)), V.f (F.lit (Value.int IntKind.i64 i487)), V.undef] 0 (H.len 32)) (fun e env' => match e with | .normal => ELp32_8 m R n (vals [0, 3, 5, 8, 9, 10, 11, 15, 16, 17, 18, 29] env') k | e => k e (vals [0, 3, 5, 8, 9, 10, 11, 15, 16, 17, 18, 29] env')) = Lp32_8_step m (fun r488 i489 => k (Ex.exit (2 : Nat)) [V.bor [LT.str, LT.lst [LT.str]] r478, V.own [LT.mp false, LT.str, LT.str] r488, V.obj [V.f (F.lit (Value.string s480)), V.f (F.lst [LT.str] r481)], V.undef, V.bor [LT.str, LT.lst [LT.str]] r482, V.f (F.lit (Value.int IntKind.i64 i483)), V.f (F.lit (Value.int IntKind.i64 i484)), V.ref (5 : Nat) (1 : Nat), V.f (F.lst [LT.str] r485), V.f (F.lit (Value.int IntKind.i64 i486)), V.f (F.lit (Value.int IntKind.i64 i489)), V.undef]) r478 s480 r481 r482 i483 i484 r485 i486 (fun r479 i487 => ELp32_8 m R n [V.bor [LT.str, LT.lst [LT.str]] r478, V.own [LT.mp false, LT.str, LT.str] r479, V.obj [V.f (F.lit (Value.string s480)), V.f (F.lst [LT.str] r481)], V.undef, V.bor [LT.str, LT.lst [LT.str]] r482, V.f (F.lit (Value.int IntKind.i64 i483)), V.f (F.lit (Value.int IntKind.i64 i484)), V.ref (5 : Nat) (1 : Nat), V.f (F.lst [LT.str] r485), V.f (F.lit (Value.int IntKind.i64 i486)), V.f (F.lit (Value.int IntKind.i64 i487)), V.undef] k) r479 i487 := by kernel_rfl
theorem eqLp32_8 (m : Nat) (R : Type) (r478 : Abs.Rows) (s480 : ByteArray) (r481 : Abs.Rows) (r482 : Abs.Rows) (i483 : Int) (i484 : Int) (r485 : Abs.Rows) (i486 : Int) (k : Ex → List V → Option R) : ∀ (n : Nat) (r479 : Abs.Rows) (i487 : Int), ELp32_8 m R n [V.bor [LT.str, LT.lst [LT.str]] r478, V.own [LT.mp false, LT.str, LT.str] r479, V.obj [V.f (F.lit (Value.string s480)), V.f (F.lst [LT.str] r481)], V.undef, V.bor [LT.str, LT.lst [LT.str]] r482, V.f (F.lit (Value.int IntKind.i64 i483)), V.f (F.lit (Value.int IntKind.i64 i484)), V.ref (5 : Nat) (1 : Nat), V.f (F.lst [LT.str] r485), V.f (F.lit (Value.int IntKind.i64 i486)), V.f (F.lit (Value.int IntKind.i64 i487)), V.undef] k = Lp32_8 m (fun r488 i489 => k (Ex.exit (2 : Nat)) [V.bor [LT.str, LT.lst [LT.str]] r478, V.own [LT.mp false, LT.str, LT.str] r488, V.obj [V.f (F.lit (Value.string s480)), V.f (F.lst [LT.str] r481)], V.undef, V.bor [LT.str, LT.lst [LT.str]] r482, V.f (F.lit (Value.int IntKind.i64 i483)), V.f (F.lit (Value.int IntKind.i64 i484)), V.ref (5 : Nat) (1 : Nat), V.f (F.lst [LT.str] r485), V.f (F.lit (Value.int IntKind.i64 i486)), V.f (F.lit (Value.int IntKind.i64 i489)), V.undef]) r478 s480 r481 r482 i483 i484 r485 i486 n r479 i487
  | 0, _, _ => rfl
  | n + 1, r479, i487 => by
    simp only [ELp32_8, Lp32_8]
    congr 1
    funext r479 i487
    exact eqLp32_8 m R r478 s480 r481 r482 i483 i484 r485 i486 k n r479 i487
noncomputable def L11 (m : Nat) : LTbl := addB 32 8 (brLp32_8 m (L10 m)) (L10 m)
theorem okL11 (m : Nat) : LTOk Tryd.prog H (L11 m) := addB_ok (okT29 m) hM (okL10 m) (l := [0, 3, 5, 8, 9, 10, 11, 15, 16, 17, 18, 29]) (by kernel_rfl) (by kernel_rfl) m (fun R n vs k => ELp32_8 m R n vs k) (fun R vs k => rfl) (fun R n vs k x h => by
      simp only [ELp32_8] at h
      split at h
      · exact (stLp32_8 m n R _ _ _ _ _ _ _ _ _ _ k).trans h
      · cases h) fun R vs k x h => by
    unfold brLp32_8 at h
    split at h
    · exact .inl ((eqLp32_8 m R _ _ _ _ _ _ _ _ k m _ _).trans h)
    · exact .inr h

/-- a round of a loop of hookflash/account.owners -/
noncomputable def Lp32_3_step {R : Type} (m : Nat) (kx0 : Abs.Rows → Int → Option R) (r473 : Abs.Rows) (r475 : Abs.Rows) (i476 : Int) (REC : Abs.Rows → Int → Option R) (r474 : Abs.Rows) (i477 : Int) : Option R :=
  bif decide (i477 < i476) then (bif decide ((0 : Int) ≤ i477 ∧ i477 < (↑(List.length r475) : Int)) then (Lp32_8 m (fun r490 i491 => REC r490 (IntKind.wrap IntKind.i64 (i477 + (1 : Int)))) r473 (fS r475 (Int.toNat i477) (0 : Nat)) (fR r475 (Int.toNat i477) (1 : Nat)) r475 i476 i477 (fR r475 (Int.toNat i477) (1 : Nat)) ((↑(List.length (fR r475 (Int.toNat i477) (1 : Nat))) : Int)) m r474 ((0 : Int))) else
  (none)) else
  (kx0 r474 i477)
noncomputable def Lp32_3 {R : Type} (m : Nat) (kx0 : Abs.Rows → Int → Option R) (r473 : Abs.Rows) (r475 : Abs.Rows) (i476 : Int) : Nat → Abs.Rows → Int → Option R
  | 0, _, _ => none
  | n + 1, r474, i477 => Lp32_3_step m kx0 r473 r475 i476 (Lp32_3 m kx0 r473 r475 i476 n) r474 i477
noncomputable def ELp32_3 (m : Nat) (R : Type) : Nat → List V → (Ex → List V → Option R) → Option R
  | 0, _, _ => none
  | n + 1, vs, k => match vs with
    | [V.bor [LT.str, LT.lst [LT.str]] r473, V.own [LT.mp false, LT.str, LT.str] r474, V.undef, V.bor [LT.str, LT.lst [LT.str]] r475, V.f (F.lit (Value.int IntKind.i64 i476)), V.f (F.lit (Value.int IntKind.i64 i477)), V.undef] => Lp32_3_step m (fun r492 i493 => k (Ex.exit (0 : Nat)) [V.bor [LT.str, LT.lst [LT.str]] r473, V.own [LT.mp false, LT.str, LT.str] r492, V.undef, V.bor [LT.str, LT.lst [LT.str]] r475, V.f (F.lit (Value.int IntKind.i64 i476)), V.f (F.lit (Value.int IntKind.i64 i493)), V.undef]) r473 r475 i476 (fun r474 i477 => ELp32_3 m R n [V.bor [LT.str, LT.lst [LT.str]] r473, V.own [LT.mp false, LT.str, LT.str] r474, V.undef, V.bor [LT.str, LT.lst [LT.str]] r475, V.f (F.lit (Value.int IntKind.i64 i476)), V.f (F.lit (Value.int IntKind.i64 i477)), V.undef] k) r474 i477
    | _ => none
noncomputable def brLp32_3 (m : Nat) (L : LTbl) (R : Type) (vs : List V) (k : Ex → List V → Option R) : Option R := match vs with
  | [V.bor [LT.str, LT.lst [LT.str]] r473, V.own [LT.mp false, LT.str, LT.str] r474, V.undef, V.bor [LT.str, LT.lst [LT.str]] r475, V.f (F.lit (Value.int IntKind.i64 i476)), V.f (F.lit (Value.int IntKind.i64 i477)), V.undef] => Lp32_3 m (fun r492 i493 => k (Ex.exit (0 : Nat)) [V.bor [LT.str, LT.lst [LT.str]] r473, V.own [LT.mp false, LT.str, LT.str] r492, V.undef, V.bor [LT.str, LT.lst [LT.str]] r475, V.f (F.lit (Value.int IntKind.i64 i476)), V.f (F.lit (Value.int IntKind.i64 i493)), V.undef]) r473 r475 i476 m r474 i477
  | _ => L R 32 3 vs k
set_option maxRecDepth 100000 in
theorem stLp32_3 (m n : Nat) (R : Type) (r473 : Abs.Rows) (r474 : Abs.Rows) (r475 : Abs.Rows) (i476 : Int) (i477 : Int) (k : Ex → List V → Option R) : codeK Tryd.prog H (T29 m) 32 (L11 m) 4 (loopBody Tryd.prog 32 3) (mkEnv [0, 3, 8, 9, 10, 11, 29] [V.bor [LT.str, LT.lst [LT.str]] r473, V.own [LT.mp false, LT.str, LT.str] r474, V.undef, V.bor [LT.str, LT.lst [LT.str]] r475, V.f (F.lit (Value.int IntKind.i64 i476)), V.f (F.lit (Value.int IntKind.i64 i477)), V.undef] 0 (H.len 32)) (fun e env' => match e with | .normal => ELp32_3 m R n (vals [0, 3, 8, 9, 10, 11, 29] env') k | e => k e (vals [0, 3, 8, 9, 10, 11, 29] env')) = Lp32_3_step m (fun r492 i493 => k (Ex.exit (0 : Nat)) [V.bor [LT.str, LT.lst [LT.str]] r473, V.own [LT.mp false, LT.str, LT.str] r492, V.undef, V.bor [LT.str, LT.lst [LT.str]] r475, V.f (F.lit (Value.int IntKind.i64 i476)), V.f (F.lit (Value.int IntKind.i64 i493)), V.undef]) r473 r475 i476 (fun r474 i477 => ELp32_3 m R n [V.bor [LT.str, LT.lst [LT.str]] r473, V.own [LT.mp false, LT.str, LT.str] r474, V.undef, V.bor [LT.str, LT.lst [LT.str]] r475, V.f (F.lit (Value.int IntKind.i64 i476)), V.f (F.lit (Value.int IntKind.i64 i477)), V.undef] k) r474 i477 := by kernel_rfl
theorem eqLp32_3 (m : Nat) (R : Type) (r473 : Abs.Rows) (r475 : Abs.Rows) (i476 : Int) (k : Ex → List V → Option R) : ∀ (n : Nat) (r474 : Abs.Rows) (i477 : Int), ELp32_3 m R n [V.bor [LT.str, LT.lst [LT.str]] r473, V.own [LT.mp false, LT.str, LT.str] r474, V.undef, V.bor [LT.str, LT.lst [LT.str]] r475, V.f (F.lit (Value.int IntKind.i64 i476)), V.f (F.lit (Value.int IntKind.i64 i477)), V.undef] k = Lp32_3 m (fun r492 i493 => k (Ex.exit (0 : Nat)) [V.bor [LT.str, LT.lst [LT.str]] r473, V.own [LT.mp false, LT.str, LT.str] r492, V.undef, V.bor [LT.str, LT.lst [LT.str]] r475, V.f (F.lit (Value.int IntKind.i64 i476)), V.f (F.lit (Value.int IntKind.i64 i493)), V.undef]) r473 r475 i476 n r474 i477
  | 0, _, _ => rfl
  | n + 1, r474, i477 => by
    simp only [ELp32_3, Lp32_3]
    congr 1
    funext r474 i477
    exact eqLp32_3 m R r473 r475 i476 k n r474 i477
noncomputable def L12 (m : Nat) : LTbl := addB 32 3 (brLp32_3 m (L11 m)) (L11 m)
theorem okL12 (m : Nat) : LTOk Tryd.prog H (L12 m) := addB_ok (okT29 m) hM (okL11 m) (l := [0, 3, 8, 9, 10, 11, 29]) (by kernel_rfl) (by kernel_rfl) m (fun R n vs k => ELp32_3 m R n vs k) (fun R vs k => rfl) (fun R n vs k x h => by
      simp only [ELp32_3] at h
      split at h
      · exact (stLp32_3 m n R _ _ _ _ _ k).trans h
      · cases h) fun R vs k x h => by
    unfold brLp32_3 at h
    split at h
    · exact .inl ((eqLp32_3 m R _ _ _ k m _ _).trans h)
    · exact .inr h

/-- hookflash/account.owners -/
noncomputable def Fn32 {R : Type} (m : Nat) : Abs.Rows → (Abs.Rows → Option R) → Option R := match m with
  | 0 => fun _ _ => none
  | m + 1 => fun r472 k =>
  Lp32_3 m (fun r494 i495 => k r494) r472 r472 ((↑(List.length r472) : Int)) m rows0 ((0 : Int))
noncomputable def brFn32 (m : Nat) (T : Tbl) (R : Type) (vs : List V) (k : V → List V → Option R) : Option R := match vs with
  | [V.bor [LT.str, LT.lst [LT.str]] r472] => Fn32 m r472 (fun r496 => k (V.own [LT.mp false, LT.str, LT.str] r496) [V.undef])
  | _ => T R 32 vs k
set_option maxRecDepth 100000 in
theorem evFn32 (m : Nat) (R : Type) (r472 : Abs.Rows) (k : V → List V → Option R) : runK Tryd.prog H (T29 m) (L12 m) 32 [V.bor [LT.str, LT.lst [LT.str]] r472] k = Fn32 (m + 1) r472 (fun r496 => k (V.own [LT.mp false, LT.str, LT.str] r496) [V.undef]) := by kernel_rfl
noncomputable def T30 (m : Nat) : Tbl := addT 32 (brFn32 m (T29 m)) (T29 m)
theorem okT30 (m : Nat) : TblOk Tryd.prog (T30 m) := addT_ok (okT29 m) fun R vs k x h => by
  unfold brFn32 at h
  split at h
  · cases m with
    | zero => cases h
    | succ m => exact runK_some (okT29 m) hM (okL12 m) ((evFn32 m R _ k).trans h)
  · exact okT29 m R 32 _ k x h

/-- hookflash/account.PayerOf -/
noncomputable def Fn10 {R : Type} (m : Nat) : Abs.Rows → ByteArray → (ByteArray → Bool → Int → Option R) → Option R := match m with
  | 0 => fun _ _ _ => none
  | m + 1 => fun r392 s393 k =>
  Fn17 m r392 (fun i470 => bif i470 != (0 : Int) then (k ({ data := #[] }) false i470) else
  (Fn28 m s393 (fun b471 => bif !b471 then (k ({ data := #[] }) false ((3 : Int))) else
  (Fn32 m r392 (fun r497 => k (F.toStr (List.headD (mRow (F.lit (Value.string s393)) [F.lit (Value.string { data := #[] })] r497) default)) (mHas (F.lit (Value.string s393)) r497) ((0 : Int)))))))
noncomputable def brFn10 (m : Nat) (T : Tbl) (R : Type) (vs : List V) (k : V → List V → Option R) : Option R := match vs with
  | [V.bor [LT.str, LT.lst [LT.str]] r392, V.f (F.lit (Value.string s393))] => Fn10 m r392 s393 (fun s498 b499 i500 => k (V.tup [V.f (F.lit (Value.string s498)), V.f (F.lit (Value.bool b499)), V.f (F.lit (Value.int IntKind.i64 i500))]) [V.undef, V.undef])
  | _ => T R 10 vs k
set_option maxRecDepth 100000 in
theorem evFn10 (m : Nat) (R : Type) (r392 : Abs.Rows) (s393 : ByteArray) (k : V → List V → Option R) : runK Tryd.prog H (T30 m) (L12 m) 10 [V.bor [LT.str, LT.lst [LT.str]] r392, V.f (F.lit (Value.string s393))] k = Fn10 (m + 1) r392 s393 (fun s498 b499 i500 => k (V.tup [V.f (F.lit (Value.string s498)), V.f (F.lit (Value.bool b499)), V.f (F.lit (Value.int IntKind.i64 i500))]) [V.undef, V.undef]) := by kernel_rfl
noncomputable def T31 (m : Nat) : Tbl := addT 10 (brFn10 m (T30 m)) (T30 m)
theorem okT31 (m : Nat) : TblOk Tryd.prog (T31 m) := addT_ok (okT30 m) fun R vs k x h => by
  unfold brFn10 at h
  split at h
  · cases m with
    | zero => cases h
    | succ m => exact runK_some (okT30 m) hM (okL12 m) ((evFn10 m R _ _ k).trans h)
  · exact okT30 m R 10 _ k x h

/-- hookflash/flashref2.in -/
noncomputable def Fn34 {R : Type} (m : Nat) : Int → Int → Int → (Bool → Option R) → Option R := match m with
  | 0 => fun _ _ _ _ => none
  | m + 1 => fun i507 i508 i509 k =>
  bif decide (i508 ≤ i507) then (k (decide (i507 ≤ i509))) else
  (k false)
noncomputable def brFn34 (m : Nat) (T : Tbl) (R : Type) (vs : List V) (k : V → List V → Option R) : Option R := match vs with
  | [V.f (F.lit (Value.int IntKind.i64 i507)), V.f (F.lit (Value.int IntKind.i64 i508)), V.f (F.lit (Value.int IntKind.i64 i509))] => Fn34 m i507 i508 i509 (fun b510 => k (V.f (F.lit (Value.bool b510))) [V.undef, V.undef, V.undef])
  | _ => T R 34 vs k
set_option maxRecDepth 100000 in
theorem evFn34 (m : Nat) (R : Type) (i507 : Int) (i508 : Int) (i509 : Int) (k : V → List V → Option R) : runK Tryd.prog H (T31 m) (L12 m) 34 [V.f (F.lit (Value.int IntKind.i64 i507)), V.f (F.lit (Value.int IntKind.i64 i508)), V.f (F.lit (Value.int IntKind.i64 i509))] k = Fn34 (m + 1) i507 i508 i509 (fun b510 => k (V.f (F.lit (Value.bool b510))) [V.undef, V.undef, V.undef]) := by kernel_rfl
noncomputable def T32 (m : Nat) : Tbl := addT 34 (brFn34 m (T31 m)) (T31 m)
theorem okT32 (m : Nat) : TblOk Tryd.prog (T32 m) := addT_ok (okT31 m) fun R vs k x h => by
  unfold brFn34 at h
  split at h
  · cases m with
    | zero => cases h
    | succ m => exact runK_some (okT31 m) hM (okL12 m) ((evFn34 m R _ _ _ k).trans h)
  · exact okT31 m R 34 _ k x h

/-- internal/stringslite.IndexByte -/
noncomputable def Fn53 {R : Type} (m : Nat) : ByteArray → Int → (Int → Option R) → Option R := match m with
  | 0 => fun _ _ _ => none
  | m + 1 => fun s521 i522 k =>
  k (idxByte s521 i522)
noncomputable def brFn53 (m : Nat) (T : Tbl) (R : Type) (vs : List V) (k : V → List V → Option R) : Option R := match vs with
  | [V.f (F.lit (Value.string s521)), V.f (F.lit (Value.int IntKind.u8 i522))] => Fn53 m s521 i522 (fun i523 => k (V.f (F.lit (Value.int IntKind.i64 i523))) [V.undef, V.undef])
  | _ => T R 53 vs k
set_option maxRecDepth 100000 in
theorem evFn53 (m : Nat) (R : Type) (s521 : ByteArray) (i522 : Int) (k : V → List V → Option R) : runK Tryd.prog H (T32 m) (L12 m) 53 [V.f (F.lit (Value.string s521)), V.f (F.lit (Value.int IntKind.u8 i522))] k = Fn53 (m + 1) s521 i522 (fun i523 => k (V.f (F.lit (Value.int IntKind.i64 i523))) [V.undef, V.undef]) := by kernel_rfl
noncomputable def T33 (m : Nat) : Tbl := addT 53 (brFn53 m (T32 m)) (T32 m)
theorem okT33 (m : Nat) : TblOk Tryd.prog (T33 m) := addT_ok (okT32 m) fun R vs k x h => by
  unfold brFn53 at h
  split at h
  · cases m with
    | zero => cases h
    | succ m => exact runK_some (okT32 m) hM (okL12 m) ((evFn53 m R _ _ k).trans h)
  · exact okT32 m R 53 _ k x h

/-- strings.IndexByte -/
noncomputable def Fn47 {R : Type} (m : Nat) : ByteArray → Int → (Int → Option R) → Option R := match m with
  | 0 => fun _ _ _ => none
  | m + 1 => fun s519 i520 k =>
  Fn53 m s519 i520 (fun i524 => k i524)
noncomputable def brFn47 (m : Nat) (T : Tbl) (R : Type) (vs : List V) (k : V → List V → Option R) : Option R := match vs with
  | [V.f (F.lit (Value.string s519)), V.f (F.lit (Value.int IntKind.u8 i520))] => Fn47 m s519 i520 (fun i525 => k (V.f (F.lit (Value.int IntKind.i64 i525))) [V.undef, V.undef])
  | _ => T R 47 vs k
set_option maxRecDepth 100000 in
theorem evFn47 (m : Nat) (R : Type) (s519 : ByteArray) (i520 : Int) (k : V → List V → Option R) : runK Tryd.prog H (T33 m) (L12 m) 47 [V.f (F.lit (Value.string s519)), V.f (F.lit (Value.int IntKind.u8 i520))] k = Fn47 (m + 1) s519 i520 (fun i525 => k (V.f (F.lit (Value.int IntKind.i64 i525))) [V.undef, V.undef]) := by kernel_rfl
noncomputable def T34 (m : Nat) : Tbl := addT 47 (brFn47 m (T33 m)) (T33 m)
theorem okT34 (m : Nat) : TblOk Tryd.prog (T34 m) := addT_ok (okT33 m) fun R vs k x h => by
  unfold brFn47 at h
  split at h
  · cases m with
    | zero => cases h
    | succ m => exact runK_some (okT33 m) hM (okL12 m) ((evFn47 m R _ _ k).trans h)
  · exact okT33 m R 47 _ k x h

/-- a round of a loop of hookflash/flashref2.only -/
noncomputable def Lp35_2_step {R : Type} (m : Nat) (kx0 : Bool → Int → Option R) (kx1 : Int → Option R) (s514 : ByteArray) (s515 : ByteArray) (b516 : Bool) (i517 : Int) (REC : Int → Option R) (i518 : Int) : Option R :=
  bif decide (i518 < i517) then (bif decide ((0 : Int) ≤ i518 ∧ i518 < (↑(ByteArray.size s514) : Int)) then (Fn47 m s515 ((↑(UInt8.toNat (Array.getD (ByteArray.data s514) (Int.toNat i518) (0 : UInt8))) : Int)) (fun i526 => bif decide (i526 < (0 : Int)) then (kx0 false i518) else
  (REC (IntKind.wrap IntKind.i64 (i518 + (1 : Int)))))) else
  (none)) else
  (kx1 i518)
noncomputable def Lp35_2 {R : Type} (m : Nat) (kx0 : Bool → Int → Option R) (kx1 : Int → Option R) (s514 : ByteArray) (s515 : ByteArray) (b516 : Bool) (i517 : Int) : Nat → Int → Option R
  | 0, _ => none
  | n + 1, i518 => Lp35_2_step m kx0 kx1 s514 s515 b516 i517 (Lp35_2 m kx0 kx1 s514 s515 b516 i517 n) i518
noncomputable def ELp35_2 (m : Nat) (R : Type) : Nat → List V → (Ex → List V → Option R) → Option R
  | 0, _, _ => none
  | n + 1, vs, k => match vs with
    | [V.f (F.lit (Value.string s514)), V.f (F.lit (Value.string s515)), V.f (F.lit (Value.bool b516)), V.f (F.lit (Value.int IntKind.i64 i517)), V.f (F.lit (Value.int IntKind.i64 i518)), V.undef, V.undef] => Lp35_2_step m (fun b527 i528 => k Ex.ret [V.f (F.lit (Value.string s514)), V.f (F.lit (Value.string s515)), V.f (F.lit (Value.bool b527)), V.f (F.lit (Value.int IntKind.i64 i517)), V.f (F.lit (Value.int IntKind.i64 i528)), V.undef, V.undef]) (fun i529 => k (Ex.exit (0 : Nat)) [V.f (F.lit (Value.string s514)), V.f (F.lit (Value.string s515)), V.f (F.lit (Value.bool b516)), V.f (F.lit (Value.int IntKind.i64 i517)), V.f (F.lit (Value.int IntKind.i64 i529)), V.undef, V.undef]) s514 s515 b516 i517 (fun i518 => ELp35_2 m R n [V.f (F.lit (Value.string s514)), V.f (F.lit (Value.string s515)), V.f (F.lit (Value.bool b516)), V.f (F.lit (Value.int IntKind.i64 i517)), V.f (F.lit (Value.int IntKind.i64 i518)), V.undef, V.undef] k) i518
    | _ => none
noncomputable def brLp35_2 (m : Nat) (L : LTbl) (R : Type) (vs : List V) (k : Ex → List V → Option R) : Option R := match vs with
  | [V.f (F.lit (Value.string s514)), V.f (F.lit (Value.string s515)), V.f (F.lit (Value.bool b516)), V.f (F.lit (Value.int IntKind.i64 i517)), V.f (F.lit (Value.int IntKind.i64 i518)), V.undef, V.undef] => Lp35_2 m (fun b527 i528 => k Ex.ret [V.f (F.lit (Value.string s514)), V.f (F.lit (Value.string s515)), V.f (F.lit (Value.bool b527)), V.f (F.lit (Value.int IntKind.i64 i517)), V.f (F.lit (Value.int IntKind.i64 i528)), V.undef, V.undef]) (fun i529 => k (Ex.exit (0 : Nat)) [V.f (F.lit (Value.string s514)), V.f (F.lit (Value.string s515)), V.f (F.lit (Value.bool b516)), V.f (F.lit (Value.int IntKind.i64 i517)), V.f (F.lit (Value.int IntKind.i64 i529)), V.undef, V.undef]) s514 s515 b516 i517 m i518
  | _ => L R 35 2 vs k
set_option maxRecDepth 100000 in
theorem stLp35_2 (m n : Nat) (R : Type) (s514 : ByteArray) (s515 : ByteArray) (b516 : Bool) (i517 : Int) (i518 : Int) (k : Ex → List V → Option R) : codeK Tryd.prog H (T34 m) 35 (L12 m) 3 (loopBody Tryd.prog 35 2) (mkEnv [0, 1, 4, 7, 8, 18, 19] [V.f (F.lit (Value.string s514)), V.f (F.lit (Value.string s515)), V.f (F.lit (Value.bool b516)), V.f (F.lit (Value.int IntKind.i64 i517)), V.f (F.lit (Value.int IntKind.i64 i518)), V.undef, V.undef] 0 (H.len 35)) (fun e env' => match e with | .normal => ELp35_2 m R n (vals [0, 1, 4, 7, 8, 18, 19] env') k | e => k e (vals [0, 1, 4, 7, 8, 18, 19] env')) = Lp35_2_step m (fun b527 i528 => k Ex.ret [V.f (F.lit (Value.string s514)), V.f (F.lit (Value.string s515)), V.f (F.lit (Value.bool b527)), V.f (F.lit (Value.int IntKind.i64 i517)), V.f (F.lit (Value.int IntKind.i64 i528)), V.undef, V.undef]) (fun i529 => k (Ex.exit (0 : Nat)) [V.f (F.lit (Value.string s514)), V.f (F.lit (Value.string s515)), V.f (F.lit (Value.bool b516)), V.f (F.lit (Value.int IntKind.i64 i517)), V.f (F.lit (Value.int IntKind.i64 i529)), V.undef, V.undef]) s514 s515 b516 i517 (fun i518 => ELp35_2 m R n [V.f (F.lit (Value.string s514)), V.f (F.lit (Value.string s515)), V.f (F.lit (Value.bool b516)), V.f (F.lit (Value.int IntKind.i64 i517)), V.f (F.lit (Value.int IntKind.i64 i518)), V.undef, V.undef] k) i518 := by kernel_rfl
theorem eqLp35_2 (m : Nat) (R : Type) (s514 : ByteArray) (s515 : ByteArray) (b516 : Bool) (i517 : Int) (k : Ex → List V → Option R) : ∀ (n : Nat) (i518 : Int), ELp35_2 m R n [V.f (F.lit (Value.string s514)), V.f (F.lit (Value.string s515)), V.f (F.lit (Value.bool b516)), V.f (F.lit (Value.int IntKind.i64 i517)), V.f (F.lit (Value.int IntKind.i64 i518)), V.undef, V.undef] k = Lp35_2 m (fun b527 i528 => k Ex.ret [V.f (F.lit (Value.string s514)), V.f (F.lit (Value.string s515)), V.f (F.lit (Value.bool b527)), V.f (F.lit (Value.int IntKind.i64 i517)), V.f (F.lit (Value.int IntKind.i64 i528)), V.undef, V.undef]) (fun i529 => k (Ex.exit (0 : Nat)) [V.f (F.lit (Value.string s514)), V.f (F.lit (Value.string s515)), V.f (F.lit (Value.bool b516)), V.f (F.lit (Value.int IntKind.i64 i517)), V.f (F.lit (Value.int IntKind.i64 i529)), V.undef, V.undef]) s514 s515 b516 i517 n i518
  | 0, _ => rfl
  | n + 1, i518 => by
    simp only [ELp35_2, Lp35_2]
    congr 1
    funext i518
    exact eqLp35_2 m R s514 s515 b516 i517 k n i518
noncomputable def L13 (m : Nat) : LTbl := addB 35 2 (brLp35_2 m (L12 m)) (L12 m)
theorem okL13 (m : Nat) : LTOk Tryd.prog H (L13 m) := addB_ok (okT34 m) hM (okL12 m) (l := [0, 1, 4, 7, 8, 18, 19]) (by kernel_rfl) (by kernel_rfl) m (fun R n vs k => ELp35_2 m R n vs k) (fun R vs k => rfl) (fun R n vs k x h => by
      simp only [ELp35_2] at h
      split at h
      · exact (stLp35_2 m n R _ _ _ _ _ k).trans h
      · cases h) fun R vs k x h => by
    unfold brLp35_2 at h
    split at h
    · exact .inl ((eqLp35_2 m R _ _ _ _ k m _).trans h)
    · exact .inr h

/-- hookflash/flashref2.only -/
noncomputable def Fn35 {R : Type} (m : Nat) : ByteArray → ByteArray → (Bool → Option R) → Option R := match m with
  | 0 => fun _ _ _ => none
  | m + 1 => fun s512 s513 k =>
  Lp35_2 m (fun b530 i531 => k b530) (fun i532 => k true) s512 s513 false ((↑(ByteArray.size s512) : Int)) m ((0 : Int))
noncomputable def brFn35 (m : Nat) (T : Tbl) (R : Type) (vs : List V) (k : V → List V → Option R) : Option R := match vs with
  | [V.f (F.lit (Value.string s512)), V.f (F.lit (Value.string s513))] => Fn35 m s512 s513 (fun b533 => k (V.f (F.lit (Value.bool b533))) [V.undef, V.undef])
  | _ => T R 35 vs k
set_option maxRecDepth 100000 in
theorem evFn35 (m : Nat) (R : Type) (s512 : ByteArray) (s513 : ByteArray) (k : V → List V → Option R) : runK Tryd.prog H (T34 m) (L13 m) 35 [V.f (F.lit (Value.string s512)), V.f (F.lit (Value.string s513))] k = Fn35 (m + 1) s512 s513 (fun b533 => k (V.f (F.lit (Value.bool b533))) [V.undef, V.undef]) := by kernel_rfl
noncomputable def T35 (m : Nat) : Tbl := addT 35 (brFn35 m (T34 m)) (T34 m)
theorem okT35 (m : Nat) : TblOk Tryd.prog (T35 m) := addT_ok (okT34 m) fun R vs k x h => by
  unfold brFn35 at h
  split at h
  · cases m with
    | zero => cases h
    | succ m => exact runK_some (okT34 m) hM (okL13 m) ((evFn35 m R _ _ k).trans h)
  · exact okT34 m R 35 _ k x h

/-- hookflash/flashref2.PhoneNumber -/
noncomputable def Fn12 {R : Type} (m : Nat) : ByteArray → (Bool → Option R) → Option R := match m with
  | 0 => fun _ _ => none
  | m + 1 => fun s504 k =>
  Fn33 m s504 ({ data := #[(43 : UInt8)] }) (fun s505 b506 => bif b506 then (Fn34 m ((↑(ByteArray.size s505) : Int)) ((4 : Int)) ((15 : Int)) (fun b511 => bif b511 then (Fn35 m s505 ({ data := #[(48 : UInt8), (49 : UInt8), (50 : UInt8), (51 : UInt8), (52 : UInt8), (53 : UInt8), (54 : UInt8), (55 : UInt8), (56 : UInt8), (57 : UInt8)] }) (fun b534 => bif b534 then (bif decide ((0 : Int) ≤ (0 : Int) ∧ (0 : Int) < (↑(ByteArray.size s505) : Int)) then (k ((↑(UInt8.toNat (Array.getD (ByteArray.data s505) (Int.toNat (0 : Int)) (0 : UInt8))) : Int) != (48 : Int))) else
  (none)) else
  (k false))) else
  (k false))) else
  (k false))
noncomputable def brFn12 (m : Nat) (T : Tbl) (R : Type) (vs : List V) (k : V → List V → Option R) : Option R := match vs with
  | [V.f (F.lit (Value.string s504))] => Fn12 m s504 (fun b535 => k (V.f (F.lit (Value.bool b535))) [V.undef])
  | _ => T R 12 vs k
set_option maxRecDepth 100000 in
theorem evFn12 (m : Nat) (R : Type) (s504 : ByteArray) (k : V → List V → Option R) : runK Tryd.prog H (T35 m) (L13 m) 12 [V.f (F.lit (Value.string s504))] k = Fn12 (m + 1) s504 (fun b535 => k (V.f (F.lit (Value.bool b535))) [V.undef]) := by kernel_rfl
noncomputable def T36 (m : Nat) : Tbl := addT 12 (brFn12 m (T35 m)) (T35 m)
theorem okT36 (m : Nat) : TblOk Tryd.prog (T36 m) := addT_ok (okT35 m) fun R vs k x h => by
  unfold brFn12 at h
  split at h
  · cases m with
    | zero => cases h
    | succ m => exact runK_some (okT35 m) hM (okL13 m) ((evFn12 m R _ k).trans h)
  · exact okT35 m R 12 _ k x h

/-- hookflash/flashlaw2.when -/
noncomputable def Fn11 {R : Type} (m : Nat) : Bool → Int → (Int → Option R) → Option R := match m with
  | 0 => fun _ _ _ => none
  | m + 1 => fun b537 i538 k =>
  bif b537 then (k i538) else
  (k ((0 : Int)))
noncomputable def brFn11 (m : Nat) (T : Tbl) (R : Type) (vs : List V) (k : V → List V → Option R) : Option R := match vs with
  | [V.f (F.lit (Value.bool b537)), V.f (F.lit (Value.int IntKind.i64 i538))] => Fn11 m b537 i538 (fun i539 => k (V.f (F.lit (Value.int IntKind.i64 i539))) [V.undef, V.undef])
  | _ => T R 11 vs k
set_option maxRecDepth 100000 in
theorem evFn11 (m : Nat) (R : Type) (b537 : Bool) (i538 : Int) (k : V → List V → Option R) : runK Tryd.prog H (T36 m) (L13 m) 11 [V.f (F.lit (Value.bool b537)), V.f (F.lit (Value.int IntKind.i64 i538))] k = Fn11 (m + 1) b537 i538 (fun i539 => k (V.f (F.lit (Value.int IntKind.i64 i539))) [V.undef, V.undef]) := by kernel_rfl
noncomputable def T37 (m : Nat) : Tbl := addT 11 (brFn11 m (T36 m)) (T36 m)
theorem okT37 (m : Nat) : TblOk Tryd.prog (T37 m) := addT_ok (okT36 m) fun R vs k x h => by
  unfold brFn11 at h
  split at h
  · cases m with
    | zero => cases h
    | succ m => exact runK_some (okT36 m) hM (okL13 m) ((evFn11 m R _ _ k).trans h)
  · exact okT36 m R 11 _ k x h

/-- hookflash/flashref2.Key -/
noncomputable def Fn36 {R : Type} (m : Nat) : ByteArray → (Bool → Option R) → Option R := match m with
  | 0 => fun _ _ => none
  | m + 1 => fun s568 k =>
  Fn34 m ((↑(ByteArray.size s568) : Int)) ((1 : Int)) ((40 : Int)) (fun b569 => bif b569 then (bif decide ((0 : Int) ≤ (1 : Int) ∧ (1 : Int) ≤ (↑(ByteArray.size s568) : Int)) then (Fn35 m (ByteArray.extract s568 (0 : Nat) (Int.toNat (1 : Int))) ({ data := #[(97 : UInt8), (98 : UInt8), (99 : UInt8), (100 : UInt8), (101 : UInt8), (102 : UInt8), (103 : UInt8), (104 : UInt8), (105 : UInt8), (106 : UInt8), (107 : UInt8), (108 : UInt8), (109 : UInt8), (110 : UInt8), (111 : UInt8), (112 : UInt8), (113 : UInt8), (114 : UInt8), (115 : UInt8), (116 : UInt8), (117 : UInt8), (118 : UInt8), (119 : UInt8), (120 : UInt8), (121 : UInt8), (122 : UInt8)] }) (fun b570 => bif b570 then (Fn35 m s568 ({ data := #[(97 : UInt8), (98 : UInt8), (99 : UInt8), (100 : UInt8), (101 : UInt8), (102 : UInt8), (103 : UInt8), (104 : UInt8), (105 : UInt8), (106 : UInt8), (107 : UInt8), (108 : UInt8), (109 : UInt8), (110 : UInt8), (111 : UInt8), (112 : UInt8), (113 : UInt8), (114 : UInt8), (115 : UInt8), (116 : UInt8), (117 : UInt8), (118 : UInt8), (119 : UInt8), (120 : UInt8), (121 : UInt8), (122 : UInt8), (48 : UInt8), (49 : UInt8), (50 : UInt8), (51 : UInt8), (52 : UInt8), (53 : UInt8), (54 : UInt8), (55 : UInt8), (56 : UInt8), (57 : UInt8), (45 : UInt8), (95 : UInt8)] }) (fun b571 => k b571)) else
  (k false))) else
  (none)) else
  (k false))
noncomputable def brFn36 (m : Nat) (T : Tbl) (R : Type) (vs : List V) (k : V → List V → Option R) : Option R := match vs with
  | [V.f (F.lit (Value.string s568))] => Fn36 m s568 (fun b572 => k (V.f (F.lit (Value.bool b572))) [V.undef])
  | _ => T R 36 vs k
set_option maxRecDepth 100000 in
theorem evFn36 (m : Nat) (R : Type) (s568 : ByteArray) (k : V → List V → Option R) : runK Tryd.prog H (T37 m) (L13 m) 36 [V.f (F.lit (Value.string s568))] k = Fn36 (m + 1) s568 (fun b572 => k (V.f (F.lit (Value.bool b572))) [V.undef]) := by kernel_rfl
noncomputable def T38 (m : Nat) : Tbl := addT 36 (brFn36 m (T37 m)) (T37 m)
theorem okT38 (m : Nat) : TblOk Tryd.prog (T38 m) := addT_ok (okT37 m) fun R vs k x h => by
  unfold brFn36 at h
  split at h
  · cases m with
    | zero => cases h
    | succ m => exact runK_some (okT37 m) hM (okL13 m) ((evFn36 m R _ k).trans h)
  · exact okT37 m R 36 _ k x h

/-- a rest of hookflash/flashref2.TariffFault -/
noncomputable def Jn14_14 {R : Type} (m : Nat) (kx0 : Int → Bool → Option R) (kx1 : Bool → Option R) (r575 : Abs.Rows) (i576 : Int) (r577 : Abs.Rows) (i578 : Int) (i579 : Int) (s580 : ByteArray) (s581 : ByteArray) (i582 : Int) (i583 : Int) (i584 : Int) (i585 : Int) (r586 : Abs.Rows) (i587 : Int) (i588 : Int) (b589 : Bool) : Option R :=
  bif b589 then (kx0 ((1 : Int)) true) else
  (bif decide (i579 > (0 : Int)) then (bif decide ((0 : Int) ≤ IntKind.wrap IntKind.i64 (i579 - (1 : Int)) ∧ IntKind.wrap IntKind.i64 (i579 - (1 : Int)) < (↑(List.length r575) : Int)) then (bif Op.bytesLess (ByteArray.toList s580) (ByteArray.toList (fS r575 (Int.toNat (IntKind.wrap IntKind.i64 (i579 - (1 : Int)))) (0 : Nat))) || ByteArray.toList s580 == ByteArray.toList (fS r575 (Int.toNat (IntKind.wrap IntKind.i64 (i579 - (1 : Int)))) (0 : Nat)) then (kx0 ((7 : Int)) false) else
  (kx1 false)) else
  (none)) else
  (kx1 false))
noncomputable def brJn14_14 (m : Nat) (L : LTbl) (R : Type) (vs : List V) (k : Ex → List V → Option R) : Option R := match vs with
  | [V.obj [V.bor [LT.str, LT.str, LT.int IntKind.i64, LT.int IntKind.i64, LT.int IntKind.i64, LT.int IntKind.i64] r575, V.f (F.lit (Value.int IntKind.i64 i576)), V.f (F.lst [LT.str] r577)], V.f (F.lit (Value.int IntKind.i64 i578)), V.f (F.lit (Value.int IntKind.i64 i579)), V.obj [V.f (F.lit (Value.string s580)), V.f (F.lit (Value.string s581)), V.f (F.lit (Value.int IntKind.i64 i582)), V.f (F.lit (Value.int IntKind.i64 i583)), V.f (F.lit (Value.int IntKind.i64 i584)), V.f (F.lit (Value.int IntKind.i64 i585))], V.ref (1 : Nat) (0 : Nat), V.bor [LT.str, LT.str, LT.int IntKind.i64, LT.int IntKind.i64, LT.int IntKind.i64, LT.int IntKind.i64] r586, V.f (F.lit (Value.int IntKind.i64 i587)), V.f (F.lit (Value.int IntKind.i64 i588)), V.f (F.lit (Value.bool b589)), V.undef] => Jn14_14 m (fun i590 b591 => k Ex.ret [V.obj [V.bor [LT.str, LT.str, LT.int IntKind.i64, LT.int IntKind.i64, LT.int IntKind.i64, LT.int IntKind.i64] r575, V.f (F.lit (Value.int IntKind.i64 i576)), V.f (F.lst [LT.str] r577)], V.f (F.lit (Value.int IntKind.i64 i590)), V.f (F.lit (Value.int IntKind.i64 i579)), V.obj [V.f (F.lit (Value.string s580)), V.f (F.lit (Value.string s581)), V.f (F.lit (Value.int IntKind.i64 i582)), V.f (F.lit (Value.int IntKind.i64 i583)), V.f (F.lit (Value.int IntKind.i64 i584)), V.f (F.lit (Value.int IntKind.i64 i585))], V.ref (1 : Nat) (0 : Nat), V.bor [LT.str, LT.str, LT.int IntKind.i64, LT.int IntKind.i64, LT.int IntKind.i64, LT.int IntKind.i64] r586, V.f (F.lit (Value.int IntKind.i64 i587)), V.f (F.lit (Value.int IntKind.i64 i588)), V.f (F.lit (Value.bool b591)), V.undef]) (fun b592 => k Ex.normal [V.obj [V.bor [LT.str, LT.str, LT.int IntKind.i64, LT.int IntKind.i64, LT.int IntKind.i64, LT.int IntKind.i64] r575, V.f (F.lit (Value.int IntKind.i64 i576)), V.f (F.lst [LT.str] r577)], V.f (F.lit (Value.int IntKind.i64 i578)), V.f (F.lit (Value.int IntKind.i64 i579)), V.obj [V.f (F.lit (Value.string s580)), V.f (F.lit (Value.string s581)), V.f (F.lit (Value.int IntKind.i64 i582)), V.f (F.lit (Value.int IntKind.i64 i583)), V.f (F.lit (Value.int IntKind.i64 i584)), V.f (F.lit (Value.int IntKind.i64 i585))], V.ref (1 : Nat) (0 : Nat), V.bor [LT.str, LT.str, LT.int IntKind.i64, LT.int IntKind.i64, LT.int IntKind.i64, LT.int IntKind.i64] r586, V.f (F.lit (Value.int IntKind.i64 i587)), V.f (F.lit (Value.int IntKind.i64 i588)), V.f (F.lit (Value.bool b592)), V.undef]) r575 i576 r577 i578 i579 s580 s581 i582 i583 i584 i585 r586 i587 i588 b589
  | _ => L R 14 14 vs k
set_option maxRecDepth 100000 in
theorem evJn14_14 (m : Nat) (R : Type) (r575 : Abs.Rows) (i576 : Int) (r577 : Abs.Rows) (i578 : Int) (i579 : Int) (s580 : ByteArray) (s581 : ByteArray) (i582 : Int) (i583 : Int) (i584 : Int) (i585 : Int) (r586 : Abs.Rows) (i587 : Int) (i588 : Int) (b589 : Bool) (k : Ex → List V → Option R) : codeK Tryd.prog H (T38 m) 14 (L13 m) 15 (loopBody Tryd.prog 14 14) (mkEnv [1, 2, 3, 4, 13, 14, 15, 16, 50, 123] [V.obj [V.bor [LT.str, LT.str, LT.int IntKind.i64, LT.int IntKind.i64, LT.int IntKind.i64, LT.int IntKind.i64] r575, V.f (F.lit (Value.int IntKind.i64 i576)), V.f (F.lst [LT.str] r577)], V.f (F.lit (Value.int IntKind.i64 i578)), V.f (F.lit (Value.int IntKind.i64 i579)), V.obj [V.f (F.lit (Value.string s580)), V.f (F.lit (Value.string s581)), V.f (F.lit (Value.int IntKind.i64 i582)), V.f (F.lit (Value.int IntKind.i64 i583)), V.f (F.lit (Value.int IntKind.i64 i584)), V.f (F.lit (Value.int IntKind.i64 i585))], V.ref (1 : Nat) (0 : Nat), V.bor [LT.str, LT.str, LT.int IntKind.i64, LT.int IntKind.i64, LT.int IntKind.i64, LT.int IntKind.i64] r586, V.f (F.lit (Value.int IntKind.i64 i587)), V.f (F.lit (Value.int IntKind.i64 i588)), V.f (F.lit (Value.bool b589)), V.undef] 0 (H.len 14)) (fun e env' => k e (vals [1, 2, 3, 4, 13, 14, 15, 16, 50, 123] env')) = Jn14_14 m (fun i590 b591 => k Ex.ret [V.obj [V.bor [LT.str, LT.str, LT.int IntKind.i64, LT.int IntKind.i64, LT.int IntKind.i64, LT.int IntKind.i64] r575, V.f (F.lit (Value.int IntKind.i64 i576)), V.f (F.lst [LT.str] r577)], V.f (F.lit (Value.int IntKind.i64 i590)), V.f (F.lit (Value.int IntKind.i64 i579)), V.obj [V.f (F.lit (Value.string s580)), V.f (F.lit (Value.string s581)), V.f (F.lit (Value.int IntKind.i64 i582)), V.f (F.lit (Value.int IntKind.i64 i583)), V.f (F.lit (Value.int IntKind.i64 i584)), V.f (F.lit (Value.int IntKind.i64 i585))], V.ref (1 : Nat) (0 : Nat), V.bor [LT.str, LT.str, LT.int IntKind.i64, LT.int IntKind.i64, LT.int IntKind.i64, LT.int IntKind.i64] r586, V.f (F.lit (Value.int IntKind.i64 i587)), V.f (F.lit (Value.int IntKind.i64 i588)), V.f (F.lit (Value.bool b591)), V.undef]) (fun b592 => k Ex.normal [V.obj [V.bor [LT.str, LT.str, LT.int IntKind.i64, LT.int IntKind.i64, LT.int IntKind.i64, LT.int IntKind.i64] r575, V.f (F.lit (Value.int IntKind.i64 i576)), V.f (F.lst [LT.str] r577)], V.f (F.lit (Value.int IntKind.i64 i578)), V.f (F.lit (Value.int IntKind.i64 i579)), V.obj [V.f (F.lit (Value.string s580)), V.f (F.lit (Value.string s581)), V.f (F.lit (Value.int IntKind.i64 i582)), V.f (F.lit (Value.int IntKind.i64 i583)), V.f (F.lit (Value.int IntKind.i64 i584)), V.f (F.lit (Value.int IntKind.i64 i585))], V.ref (1 : Nat) (0 : Nat), V.bor [LT.str, LT.str, LT.int IntKind.i64, LT.int IntKind.i64, LT.int IntKind.i64, LT.int IntKind.i64] r586, V.f (F.lit (Value.int IntKind.i64 i587)), V.f (F.lit (Value.int IntKind.i64 i588)), V.f (F.lit (Value.bool b592)), V.undef]) r575 i576 r577 i578 i579 s580 s581 i582 i583 i584 i585 r586 i587 i588 b589 := by kernel_rfl
noncomputable def L14 (m : Nat) : LTbl := addJ 14 14 (brJn14_14 m (L13 m)) (L13 m)
theorem okL14 (m : Nat) : LTOk Tryd.prog H (L14 m) := addJ_ok (okT38 m) hM (okL13 m) (l := [1, 2, 3, 4, 13, 14, 15, 16, 50, 123]) (by kernel_rfl) (by kernel_rfl) fun R vs k x h => by
    unfold brJn14_14 at h
    split at h
    · exact .inl ((evJn14_14 m R _ _ _ _ _ _ _ _ _ _ _ _ _ _ _ k).trans h)
    · exact .inr h

/-- a rest of hookflash/flashref2.TariffFault -/
noncomputable def Jn14_10 {R : Type} (m : Nat) (kx0 : Int → Bool → Option R) (kx1 : Int → Option R) (kx2 : Option R) (r553 : Abs.Rows) (i554 : Int) (r555 : Abs.Rows) (i556 : Int) (i557 : Int) (s558 : ByteArray) (s559 : ByteArray) (i560 : Int) (i561 : Int) (i562 : Int) (i563 : Int) (r564 : Abs.Rows) (i565 : Int) (i566 : Int) (b567 : Bool) : Option R :=
  bif b567 then (kx0 ((3 : Int)) true) else
  (Fn36 m s559 (fun b573 => bif !b573 then (kx0 ((5 : Int)) false) else
  (Fn34 m i560 ((0 : Int)) ((1000000 : Int)) (fun b574 => bif !b574 then (Jn14_14 m (fun i593 b594 => kx1 i593) (fun b595 => kx2 ) r553 i554 r555 i556 i557 s558 s559 i560 i561 i562 i563 r564 i565 i566 true) else
  (Fn34 m i563 ((0 : Int)) ((1000000 : Int)) (fun b596 => bif !b596 then (Jn14_14 m (fun i597 b598 => kx1 i597) (fun b599 => kx2 ) r553 i554 r555 i556 i557 s558 s559 i560 i561 i562 i563 r564 i565 i566 true) else
  (Fn34 m i561 ((0 : Int)) ((86400000 : Int)) (fun b600 => bif !b600 then (Jn14_14 m (fun i601 b602 => kx1 i601) (fun b603 => kx2 ) r553 i554 r555 i556 i557 s558 s559 i560 i561 i562 i563 r564 i565 i566 true) else
  (Fn34 m i562 ((1 : Int)) ((86400000 : Int)) (fun b604 => Jn14_14 m (fun i605 b606 => kx1 i605) (fun b607 => kx2 ) r553 i554 r555 i556 i557 s558 s559 i560 i561 i562 i563 r564 i565 i566 (!b604)))))))))))
noncomputable def brJn14_10 (m : Nat) (L : LTbl) (R : Type) (vs : List V) (k : Ex → List V → Option R) : Option R := match vs with
  | [V.obj [V.bor [LT.str, LT.str, LT.int IntKind.i64, LT.int IntKind.i64, LT.int IntKind.i64, LT.int IntKind.i64] r553, V.f (F.lit (Value.int IntKind.i64 i554)), V.f (F.lst [LT.str] r555)], V.f (F.lit (Value.int IntKind.i64 i556)), V.f (F.lit (Value.int IntKind.i64 i557)), V.obj [V.f (F.lit (Value.string s558)), V.f (F.lit (Value.string s559)), V.f (F.lit (Value.int IntKind.i64 i560)), V.f (F.lit (Value.int IntKind.i64 i561)), V.f (F.lit (Value.int IntKind.i64 i562)), V.f (F.lit (Value.int IntKind.i64 i563))], V.ref (1 : Nat) (0 : Nat), V.bor [LT.str, LT.str, LT.int IntKind.i64, LT.int IntKind.i64, LT.int IntKind.i64, LT.int IntKind.i64] r564, V.f (F.lit (Value.int IntKind.i64 i565)), V.f (F.lit (Value.int IntKind.i64 i566)), V.f (F.lit (Value.bool b567)), V.undef] => Jn14_10 m (fun i608 b609 => k Ex.ret [V.obj [V.bor [LT.str, LT.str, LT.int IntKind.i64, LT.int IntKind.i64, LT.int IntKind.i64, LT.int IntKind.i64] r553, V.f (F.lit (Value.int IntKind.i64 i554)), V.f (F.lst [LT.str] r555)], V.f (F.lit (Value.int IntKind.i64 i608)), V.f (F.lit (Value.int IntKind.i64 i557)), V.obj [V.f (F.lit (Value.string s558)), V.f (F.lit (Value.string s559)), V.f (F.lit (Value.int IntKind.i64 i560)), V.f (F.lit (Value.int IntKind.i64 i561)), V.f (F.lit (Value.int IntKind.i64 i562)), V.f (F.lit (Value.int IntKind.i64 i563))], V.ref (1 : Nat) (0 : Nat), V.bor [LT.str, LT.str, LT.int IntKind.i64, LT.int IntKind.i64, LT.int IntKind.i64, LT.int IntKind.i64] r564, V.f (F.lit (Value.int IntKind.i64 i565)), V.f (F.lit (Value.int IntKind.i64 i566)), V.f (F.lit (Value.bool b609)), V.undef]) (fun i610 => k Ex.ret [V.obj [V.bor [LT.str, LT.str, LT.int IntKind.i64, LT.int IntKind.i64, LT.int IntKind.i64, LT.int IntKind.i64] r553, V.f (F.lit (Value.int IntKind.i64 i554)), V.f (F.lst [LT.str] r555)], V.f (F.lit (Value.int IntKind.i64 i610)), V.f (F.lit (Value.int IntKind.i64 i557)), V.obj [V.f (F.lit (Value.string s558)), V.f (F.lit (Value.string s559)), V.f (F.lit (Value.int IntKind.i64 i560)), V.f (F.lit (Value.int IntKind.i64 i561)), V.f (F.lit (Value.int IntKind.i64 i562)), V.f (F.lit (Value.int IntKind.i64 i563))], V.ref (1 : Nat) (0 : Nat), V.bor [LT.str, LT.str, LT.int IntKind.i64, LT.int IntKind.i64, LT.int IntKind.i64, LT.int IntKind.i64] r564, V.f (F.lit (Value.int IntKind.i64 i565)), V.f (F.lit (Value.int IntKind.i64 i566)), V.undef, V.undef]) (k Ex.normal [V.obj [V.bor [LT.str, LT.str, LT.int IntKind.i64, LT.int IntKind.i64, LT.int IntKind.i64, LT.int IntKind.i64] r553, V.f (F.lit (Value.int IntKind.i64 i554)), V.f (F.lst [LT.str] r555)], V.f (F.lit (Value.int IntKind.i64 i556)), V.f (F.lit (Value.int IntKind.i64 i557)), V.obj [V.f (F.lit (Value.string s558)), V.f (F.lit (Value.string s559)), V.f (F.lit (Value.int IntKind.i64 i560)), V.f (F.lit (Value.int IntKind.i64 i561)), V.f (F.lit (Value.int IntKind.i64 i562)), V.f (F.lit (Value.int IntKind.i64 i563))], V.ref (1 : Nat) (0 : Nat), V.bor [LT.str, LT.str, LT.int IntKind.i64, LT.int IntKind.i64, LT.int IntKind.i64, LT.int IntKind.i64] r564, V.f (F.lit (Value.int IntKind.i64 i565)), V.f (F.lit (Value.int IntKind.i64 i566)), V.undef, V.undef]) r553 i554 r555 i556 i557 s558 s559 i560 i561 i562 i563 r564 i565 i566 b567
  | _ => L R 14 10 vs k
set_option maxRecDepth 100000 in
theorem evJn14_10 (m : Nat) (R : Type) (r553 : Abs.Rows) (i554 : Int) (r555 : Abs.Rows) (i556 : Int) (i557 : Int) (s558 : ByteArray) (s559 : ByteArray) (i560 : Int) (i561 : Int) (i562 : Int) (i563 : Int) (r564 : Abs.Rows) (i565 : Int) (i566 : Int) (b567 : Bool) (k : Ex → List V → Option R) : codeK Tryd.prog H (T38 m) 14 (L14 m) 11 (loopBody Tryd.prog 14 10) (mkEnv [1, 2, 3, 4, 13, 14, 15, 16, 27, 123] [V.obj [V.bor [LT.str, LT.str, LT.int IntKind.i64, LT.int IntKind.i64, LT.int IntKind.i64, LT.int IntKind.i64] r553, V.f (F.lit (Value.int IntKind.i64 i554)), V.f (F.lst [LT.str] r555)], V.f (F.lit (Value.int IntKind.i64 i556)), V.f (F.lit (Value.int IntKind.i64 i557)), V.obj [V.f (F.lit (Value.string s558)), V.f (F.lit (Value.string s559)), V.f (F.lit (Value.int IntKind.i64 i560)), V.f (F.lit (Value.int IntKind.i64 i561)), V.f (F.lit (Value.int IntKind.i64 i562)), V.f (F.lit (Value.int IntKind.i64 i563))], V.ref (1 : Nat) (0 : Nat), V.bor [LT.str, LT.str, LT.int IntKind.i64, LT.int IntKind.i64, LT.int IntKind.i64, LT.int IntKind.i64] r564, V.f (F.lit (Value.int IntKind.i64 i565)), V.f (F.lit (Value.int IntKind.i64 i566)), V.f (F.lit (Value.bool b567)), V.undef] 0 (H.len 14)) (fun e env' => k e (vals [1, 2, 3, 4, 13, 14, 15, 16, 27, 123] env')) = Jn14_10 m (fun i608 b609 => k Ex.ret [V.obj [V.bor [LT.str, LT.str, LT.int IntKind.i64, LT.int IntKind.i64, LT.int IntKind.i64, LT.int IntKind.i64] r553, V.f (F.lit (Value.int IntKind.i64 i554)), V.f (F.lst [LT.str] r555)], V.f (F.lit (Value.int IntKind.i64 i608)), V.f (F.lit (Value.int IntKind.i64 i557)), V.obj [V.f (F.lit (Value.string s558)), V.f (F.lit (Value.string s559)), V.f (F.lit (Value.int IntKind.i64 i560)), V.f (F.lit (Value.int IntKind.i64 i561)), V.f (F.lit (Value.int IntKind.i64 i562)), V.f (F.lit (Value.int IntKind.i64 i563))], V.ref (1 : Nat) (0 : Nat), V.bor [LT.str, LT.str, LT.int IntKind.i64, LT.int IntKind.i64, LT.int IntKind.i64, LT.int IntKind.i64] r564, V.f (F.lit (Value.int IntKind.i64 i565)), V.f (F.lit (Value.int IntKind.i64 i566)), V.f (F.lit (Value.bool b609)), V.undef]) (fun i610 => k Ex.ret [V.obj [V.bor [LT.str, LT.str, LT.int IntKind.i64, LT.int IntKind.i64, LT.int IntKind.i64, LT.int IntKind.i64] r553, V.f (F.lit (Value.int IntKind.i64 i554)), V.f (F.lst [LT.str] r555)], V.f (F.lit (Value.int IntKind.i64 i610)), V.f (F.lit (Value.int IntKind.i64 i557)), V.obj [V.f (F.lit (Value.string s558)), V.f (F.lit (Value.string s559)), V.f (F.lit (Value.int IntKind.i64 i560)), V.f (F.lit (Value.int IntKind.i64 i561)), V.f (F.lit (Value.int IntKind.i64 i562)), V.f (F.lit (Value.int IntKind.i64 i563))], V.ref (1 : Nat) (0 : Nat), V.bor [LT.str, LT.str, LT.int IntKind.i64, LT.int IntKind.i64, LT.int IntKind.i64, LT.int IntKind.i64] r564, V.f (F.lit (Value.int IntKind.i64 i565)), V.f (F.lit (Value.int IntKind.i64 i566)), V.undef, V.undef]) (k Ex.normal [V.obj [V.bor [LT.str, LT.str, LT.int IntKind.i64, LT.int IntKind.i64, LT.int IntKind.i64, LT.int IntKind.i64] r553, V.f (F.lit (Value.int IntKind.i64 i554)), V.f (F.lst [LT.str] r555)], V.f (F.lit (Value.int IntKind.i64 i556)), V.f (F.lit (Value.int IntKind.i64 i557)), V.obj [V.f (F.lit (Value.string s558)), V.f (F.lit (Value.string s559)), V.f (F.lit (Value.int IntKind.i64 i560)), V.f (F.lit (Value.int IntKind.i64 i561)), V.f (F.lit (Value.int IntKind.i64 i562)), V.f (F.lit (Value.int IntKind.i64 i563))], V.ref (1 : Nat) (0 : Nat), V.bor [LT.str, LT.str, LT.int IntKind.i64, LT.int IntKind.i64, LT.int IntKind.i64, LT.int IntKind.i64] r564, V.f (F.lit (Value.int IntKind.i64 i565)), V.f (F.lit (Value.int IntKind.i64 i566)), V.undef, V.undef]) r553 i554 r555 i556 i557 s558 s559 i560 i561 i562 i563 r564 i565 i566 b567 := by kernel_rfl
noncomputable def L15 (m : Nat) : LTbl := addJ 14 10 (brJn14_10 m (L14 m)) (L14 m)
theorem okL15 (m : Nat) : LTOk Tryd.prog H (L15 m) := addJ_ok (okT38 m) hM (okL14 m) (l := [1, 2, 3, 4, 13, 14, 15, 16, 27, 123]) (by kernel_rfl) (by kernel_rfl) fun R vs k x h => by
    unfold brJn14_10 at h
    split at h
    · exact .inl ((evJn14_10 m R _ _ _ _ _ _ _ _ _ _ _ _ _ _ _ k).trans h)
    · exact .inr h

/-- a round of a loop of hookflash/flashref2.TariffFault -/
noncomputable def Lp14_5_step {R : Type} (m : Nat) (kx0 : Int → Int → Option R) (kx1 : Int → Option R) (r544 : Abs.Rows) (i545 : Int) (r546 : Abs.Rows) (i547 : Int) (r548 : Abs.Rows) (i549 : Int) (REC : Int → Option R) (i550 : Int) : Option R :=
  bif decide (i550 < i549) then (bif decide ((0 : Int) ≤ i550 ∧ i550 < (↑(List.length r548) : Int)) then (Fn33 m (fS r548 (Int.toNat i550) (0 : Nat)) ({ data := #[(43 : UInt8)] }) (fun s551 b552 => bif !ByteArray.toList (fS r548 (Int.toNat i550) (0 : Nat)) == ByteArray.toList { data := #[] } then (bif !b552 then (Jn14_10 m (fun i611 b612 => kx0 i611 i550) (fun i613 => kx0 i613 i550) (REC (IntKind.wrap IntKind.i64 (i550 + (1 : Int)))) r544 i545 r546 i547 i550 (fS r548 (Int.toNat i550) (0 : Nat)) (fS r548 (Int.toNat i550) (1 : Nat)) (fI r548 (Int.toNat i550) (2 : Nat)) (fI r548 (Int.toNat i550) (3 : Nat)) (fI r548 (Int.toNat i550) (4 : Nat)) (fI r548 (Int.toNat i550) (5 : Nat)) r548 i549 i550 true) else
  (bif decide ((↑(ByteArray.size s551) : Int) > (15 : Int)) then (Jn14_10 m (fun i614 b615 => kx0 i614 i550) (fun i616 => kx0 i616 i550) (REC (IntKind.wrap IntKind.i64 (i550 + (1 : Int)))) r544 i545 r546 i547 i550 (fS r548 (Int.toNat i550) (0 : Nat)) (fS r548 (Int.toNat i550) (1 : Nat)) (fI r548 (Int.toNat i550) (2 : Nat)) (fI r548 (Int.toNat i550) (3 : Nat)) (fI r548 (Int.toNat i550) (4 : Nat)) (fI r548 (Int.toNat i550) (5 : Nat)) r548 i549 i550 true) else
  (Fn35 m s551 ({ data := #[(48 : UInt8), (49 : UInt8), (50 : UInt8), (51 : UInt8), (52 : UInt8), (53 : UInt8), (54 : UInt8), (55 : UInt8), (56 : UInt8), (57 : UInt8)] }) (fun b617 => Jn14_10 m (fun i618 b619 => kx0 i618 i550) (fun i620 => kx0 i620 i550) (REC (IntKind.wrap IntKind.i64 (i550 + (1 : Int)))) r544 i545 r546 i547 i550 (fS r548 (Int.toNat i550) (0 : Nat)) (fS r548 (Int.toNat i550) (1 : Nat)) (fI r548 (Int.toNat i550) (2 : Nat)) (fI r548 (Int.toNat i550) (3 : Nat)) (fI r548 (Int.toNat i550) (4 : Nat)) (fI r548 (Int.toNat i550) (5 : Nat)) r548 i549 i550 (!b617))))) else
  (Jn14_10 m (fun i621 b622 => kx0 i621 i550) (fun i623 => kx0 i623 i550) (REC (IntKind.wrap IntKind.i64 (i550 + (1 : Int)))) r544 i545 r546 i547 i550 (fS r548 (Int.toNat i550) (0 : Nat)) (fS r548 (Int.toNat i550) (1 : Nat)) (fI r548 (Int.toNat i550) (2 : Nat)) (fI r548 (Int.toNat i550) (3 : Nat)) (fI r548 (Int.toNat i550) (4 : Nat)) (fI r548 (Int.toNat i550) (5 : Nat)) r548 i549 i550 false))) else
  (none)) else
  (kx1 i550)
noncomputable def Lp14_5 {R : Type} (m : Nat) (kx0 : Int → Int → Option R) (kx1 : Int → Option R) (r544 : Abs.Rows) (i545 : Int) (r546 : Abs.Rows) (i547 : Int) (r548 : Abs.Rows) (i549 : Int) : Nat → Int → Option R
  | 0, _ => none
  | n + 1, i550 => Lp14_5_step m kx0 kx1 r544 i545 r546 i547 r548 i549 (Lp14_5 m kx0 kx1 r544 i545 r546 i547 r548 i549 n) i550
noncomputable def ELp14_5 (m : Nat) (R : Type) : Nat → List V → (Ex → List V → Option R) → Option R
  | 0, _, _ => none
  | n + 1, vs, k => match vs with
    | [V.obj [V.bor [LT.str, LT.str, LT.int IntKind.i64, LT.int IntKind.i64, LT.int IntKind.i64, LT.int IntKind.i64] r544, V.f (F.lit (Value.int IntKind.i64 i545)), V.f (F.lst [LT.str] r546)], V.f (F.lit (Value.int IntKind.i64 i547)), V.ref (1 : Nat) (0 : Nat), V.bor [LT.str, LT.str, LT.int IntKind.i64, LT.int IntKind.i64, LT.int IntKind.i64, LT.int IntKind.i64] r548, V.f (F.lit (Value.int IntKind.i64 i549)), V.f (F.lit (Value.int IntKind.i64 i550)), V.undef] => Lp14_5_step m (fun i624 i625 => k Ex.ret [V.obj [V.bor [LT.str, LT.str, LT.int IntKind.i64, LT.int IntKind.i64, LT.int IntKind.i64, LT.int IntKind.i64] r544, V.f (F.lit (Value.int IntKind.i64 i545)), V.f (F.lst [LT.str] r546)], V.f (F.lit (Value.int IntKind.i64 i624)), V.ref (1 : Nat) (0 : Nat), V.bor [LT.str, LT.str, LT.int IntKind.i64, LT.int IntKind.i64, LT.int IntKind.i64, LT.int IntKind.i64] r548, V.f (F.lit (Value.int IntKind.i64 i549)), V.f (F.lit (Value.int IntKind.i64 i625)), V.undef]) (fun i626 => k (Ex.exit (0 : Nat)) [V.obj [V.bor [LT.str, LT.str, LT.int IntKind.i64, LT.int IntKind.i64, LT.int IntKind.i64, LT.int IntKind.i64] r544, V.f (F.lit (Value.int IntKind.i64 i545)), V.f (F.lst [LT.str] r546)], V.f (F.lit (Value.int IntKind.i64 i547)), V.ref (1 : Nat) (0 : Nat), V.bor [LT.str, LT.str, LT.int IntKind.i64, LT.int IntKind.i64, LT.int IntKind.i64, LT.int IntKind.i64] r548, V.f (F.lit (Value.int IntKind.i64 i549)), V.f (F.lit (Value.int IntKind.i64 i626)), V.undef]) r544 i545 r546 i547 r548 i549 (fun i550 => ELp14_5 m R n [V.obj [V.bor [LT.str, LT.str, LT.int IntKind.i64, LT.int IntKind.i64, LT.int IntKind.i64, LT.int IntKind.i64] r544, V.f (F.lit (Value.int IntKind.i64 i545)), V.f (F.lst [LT.str] r546)], V.f (F.lit (Value.int IntKind.i64 i547)), V.ref (1 : Nat) (0 : Nat), V.bor [LT.str, LT.str, LT.int IntKind.i64, LT.int IntKind.i64, LT.int IntKind.i64, LT.int IntKind.i64] r548, V.f (F.lit (Value.int IntKind.i64 i549)), V.f (F.lit (Value.int IntKind.i64 i550)), V.undef] k) i550
    | _ => none
noncomputable def brLp14_5 (m : Nat) (L : LTbl) (R : Type) (vs : List V) (k : Ex → List V → Option R) : Option R := match vs with
  | [V.obj [V.bor [LT.str, LT.str, LT.int IntKind.i64, LT.int IntKind.i64, LT.int IntKind.i64, LT.int IntKind.i64] r544, V.f (F.lit (Value.int IntKind.i64 i545)), V.f (F.lst [LT.str] r546)], V.f (F.lit (Value.int IntKind.i64 i547)), V.ref (1 : Nat) (0 : Nat), V.bor [LT.str, LT.str, LT.int IntKind.i64, LT.int IntKind.i64, LT.int IntKind.i64, LT.int IntKind.i64] r548, V.f (F.lit (Value.int IntKind.i64 i549)), V.f (F.lit (Value.int IntKind.i64 i550)), V.undef] => Lp14_5 m (fun i624 i625 => k Ex.ret [V.obj [V.bor [LT.str, LT.str, LT.int IntKind.i64, LT.int IntKind.i64, LT.int IntKind.i64, LT.int IntKind.i64] r544, V.f (F.lit (Value.int IntKind.i64 i545)), V.f (F.lst [LT.str] r546)], V.f (F.lit (Value.int IntKind.i64 i624)), V.ref (1 : Nat) (0 : Nat), V.bor [LT.str, LT.str, LT.int IntKind.i64, LT.int IntKind.i64, LT.int IntKind.i64, LT.int IntKind.i64] r548, V.f (F.lit (Value.int IntKind.i64 i549)), V.f (F.lit (Value.int IntKind.i64 i625)), V.undef]) (fun i626 => k (Ex.exit (0 : Nat)) [V.obj [V.bor [LT.str, LT.str, LT.int IntKind.i64, LT.int IntKind.i64, LT.int IntKind.i64, LT.int IntKind.i64] r544, V.f (F.lit (Value.int IntKind.i64 i545)), V.f (F.lst [LT.str] r546)], V.f (F.lit (Value.int IntKind.i64 i547)), V.ref (1 : Nat) (0 : Nat), V.bor [LT.str, LT.str, LT.int IntKind.i64, LT.int IntKind.i64, LT.int IntKind.i64, LT.int IntKind.i64] r548, V.f (F.lit (Value.int IntKind.i64 i549)), V.f (F.lit (Value.int IntKind.i64 i626)), V.undef]) r544 i545 r546 i547 r548 i549 m i550
  | _ => L R 14 5 vs k
set_option maxRecDepth 100000 in
theorem stLp14_5 (m n : Nat) (R : Type) (r544 : Abs.Rows) (i545 : Int) (r546 : Abs.Rows) (i547 : Int) (r548 : Abs.Rows) (i549 : Int) (i550 : Int) (k : Ex → List V → Option R) : codeK Tryd.prog H (T38 m) 14 (L15 m) 6 (loopBody Tryd.prog 14 5) (mkEnv [1, 2, 13, 14, 15, 16, 123] [V.obj [V.bor [LT.str, LT.str, LT.int IntKind.i64, LT.int IntKind.i64, LT.int IntKind.i64, LT.int IntKind.i64] r544, V.f (F.lit (Value.int IntKind.i64 i545)), V.f (F.lst [LT.str] r546)], V.f (F.lit (Value.int IntKind.i64 i547)), V.ref (1 : Nat) (0 : Nat), V.bor [LT.str, LT.str, LT.int IntKind.i64, LT.int IntKind.i64, LT.int IntKind.i64, LT.int IntKind.i64] r548, V.f (F.lit (Value.int IntKind.i64 i549)), V.f (F.lit (Value.int IntKind.i64 i550)), V.undef] 0 (H.len 14)) (fun e env' => match e with | .normal => ELp14_5 m R n (vals [1, 2, 13, 14, 15, 16, 123] env') k | e => k e (vals [1, 2, 13, 14, 15, 16, 123] env')) = Lp14_5_step m (fun i624 i625 => k Ex.ret [V.obj [V.bor [LT.str, LT.str, LT.int IntKind.i64, LT.int IntKind.i64, LT.int IntKind.i64, LT.int IntKind.i64] r544, V.f (F.lit (Value.int IntKind.i64 i545)), V.f (F.lst [LT.str] r546)], V.f (F.lit (Value.int IntKind.i64 i624)), V.ref (1 : Nat) (0 : Nat), V.bor [LT.str, LT.str, LT.int IntKind.i64, LT.int IntKind.i64, LT.int IntKind.i64, LT.int IntKind.i64] r548, V.f (F.lit (Value.int IntKind.i64 i549)), V.f (F.lit (Value.int IntKind.i64 i625)), V.undef]) (fun i626 => k (Ex.exit (0 : Nat)) [V.obj [V.bor [LT.str, LT.str, LT.int IntKind.i64, LT.int IntKind.i64, LT.int IntKind.i64, LT.int IntKind.i64] r544, V.f (F.lit (Value.int IntKind.i64 i545)), V.f (F.lst [LT.str] r546)], V.f (F.lit (Value.int IntKind.i64 i547)), V.ref (1 : Nat) (0 : Nat), V.bor [LT.str, LT.str, LT.int IntKind.i64, LT.int IntKind.i64, LT.int IntKind.i64, LT.int IntKind.i64] r548, V.f (F.lit (Value.int IntKind.i64 i549)), V.f (F.lit (Value.int IntKind.i64 i626)), V.undef]) r544 i545 r546 i547 r548 i549 (fun i550 => ELp14_5 m R n [V.obj [V.bor [LT.str, LT.str, LT.int IntKind.i64, LT.int IntKind.i64, LT.int IntKind.i64, LT.int IntKind.i64] r544, V.f (F.lit (Value.int IntKind.i64 i545)), V.f (F.lst [LT.str] r546)], V.f (F.lit (Value.int IntKind.i64 i547)), V.ref (1 : Nat) (0 : Nat), V.bor [LT.str, LT.str, LT.int IntKind.i64, LT.int IntKind.i64, LT.int IntKind.i64, LT.int IntKind.i64] r548, V.f (F.lit (Value.int IntKind.i64 i549)), V.f (F.lit (Value.int IntKind.i64 i550)), V.undef] k) i550 := by kernel_rfl
theorem eqLp14_5 (m : Nat) (R : Type) (r544 : Abs.Rows) (i545 : Int) (r546 : Abs.Rows) (i547 : Int) (r548 : Abs.Rows) (i549 : Int) (k : Ex → List V → Option R) : ∀ (n : Nat) (i550 : Int), ELp14_5 m R n [V.obj [V.bor [LT.str, LT.str, LT.int IntKind.i64, LT.int IntKind.i64, LT.int IntKind.i64, LT.int IntKind.i64] r544, V.f (F.lit (Value.int IntKind.i64 i545)), V.f (F.lst [LT.str] r546)], V.f (F.lit (Value.int IntKind.i64 i547)), V.ref (1 : Nat) (0 : Nat), V.bor [LT.str, LT.str, LT.int IntKind.i64, LT.int IntKind.i64, LT.int IntKind.i64, LT.int IntKind.i64] r548, V.f (F.lit (Value.int IntKind.i64 i549)), V.f (F.lit (Value.int IntKind.i64 i550)), V.undef] k = Lp14_5 m (fun i624 i625 => k Ex.ret [V.obj [V.bor [LT.str, LT.str, LT.int IntKind.i64, LT.int IntKind.i64, LT.int IntKind.i64, LT.int IntKind.i64] r544, V.f (F.lit (Value.int IntKind.i64 i545)), V.f (F.lst [LT.str] r546)], V.f (F.lit (Value.int IntKind.i64 i624)), V.ref (1 : Nat) (0 : Nat), V.bor [LT.str, LT.str, LT.int IntKind.i64, LT.int IntKind.i64, LT.int IntKind.i64, LT.int IntKind.i64] r548, V.f (F.lit (Value.int IntKind.i64 i549)), V.f (F.lit (Value.int IntKind.i64 i625)), V.undef]) (fun i626 => k (Ex.exit (0 : Nat)) [V.obj [V.bor [LT.str, LT.str, LT.int IntKind.i64, LT.int IntKind.i64, LT.int IntKind.i64, LT.int IntKind.i64] r544, V.f (F.lit (Value.int IntKind.i64 i545)), V.f (F.lst [LT.str] r546)], V.f (F.lit (Value.int IntKind.i64 i547)), V.ref (1 : Nat) (0 : Nat), V.bor [LT.str, LT.str, LT.int IntKind.i64, LT.int IntKind.i64, LT.int IntKind.i64, LT.int IntKind.i64] r548, V.f (F.lit (Value.int IntKind.i64 i549)), V.f (F.lit (Value.int IntKind.i64 i626)), V.undef]) r544 i545 r546 i547 r548 i549 n i550
  | 0, _ => rfl
  | n + 1, i550 => by
    simp only [ELp14_5, Lp14_5]
    congr 1
    funext i550
    exact eqLp14_5 m R r544 i545 r546 i547 r548 i549 k n i550
noncomputable def L16 (m : Nat) : LTbl := addB 14 5 (brLp14_5 m (L15 m)) (L15 m)
theorem okL16 (m : Nat) : LTOk Tryd.prog H (L16 m) := addB_ok (okT38 m) hM (okL15 m) (l := [1, 2, 13, 14, 15, 16, 123]) (by kernel_rfl) (by kernel_rfl) m (fun R n vs k => ELp14_5 m R n vs k) (fun R vs k => rfl) (fun R n vs k x h => by
      simp only [ELp14_5] at h
      split at h
      · exact (stLp14_5 m n R _ _ _ _ _ _ _ k).trans h
      · cases h) fun R vs k x h => by
    unfold brLp14_5 at h
    split at h
    · exact .inl ((eqLp14_5 m R _ _ _ _ _ _ k m _).trans h)
    · exact .inr h

/-- a round of a loop of hookflash/flashref2.TariffFault -/
noncomputable def Lp14_26_step {R : Type} (m : Nat) (kx0 : Int → Int → Option R) (kx1 : Int → Option R) (r631 : Abs.Rows) (i632 : Int) (r633 : Abs.Rows) (i634 : Int) (r635 : Abs.Rows) (i636 : Int) (REC : Int → Option R) (i637 : Int) : Option R :=
  bif decide (i637 < i636) then (bif decide ((0 : Int) ≤ i637 ∧ i637 < (↑(List.length r635) : Int)) then (Fn36 m (fS r635 (Int.toNat i637) (0 : Nat)) (fun b638 => bif !b638 then (kx0 ((5 : Int)) i637) else
  (bif decide (i637 > (0 : Int)) then (bif decide ((0 : Int) ≤ IntKind.wrap IntKind.i64 (i637 - (1 : Int)) ∧ IntKind.wrap IntKind.i64 (i637 - (1 : Int)) < (↑(List.length r633) : Int)) then (bif Op.bytesLess (ByteArray.toList (fS r635 (Int.toNat i637) (0 : Nat))) (ByteArray.toList (fS r633 (Int.toNat (IntKind.wrap IntKind.i64 (i637 - (1 : Int)))) (0 : Nat))) || ByteArray.toList (fS r635 (Int.toNat i637) (0 : Nat)) == ByteArray.toList (fS r633 (Int.toNat (IntKind.wrap IntKind.i64 (i637 - (1 : Int)))) (0 : Nat)) then (kx0 ((7 : Int)) i637) else
  (REC (IntKind.wrap IntKind.i64 (i637 + (1 : Int))))) else
  (none)) else
  (REC (IntKind.wrap IntKind.i64 (i637 + (1 : Int))))))) else
  (none)) else
  (kx1 i637)
noncomputable def Lp14_26 {R : Type} (m : Nat) (kx0 : Int → Int → Option R) (kx1 : Int → Option R) (r631 : Abs.Rows) (i632 : Int) (r633 : Abs.Rows) (i634 : Int) (r635 : Abs.Rows) (i636 : Int) : Nat → Int → Option R
  | 0, _ => none
  | n + 1, i637 => Lp14_26_step m kx0 kx1 r631 i632 r633 i634 r635 i636 (Lp14_26 m kx0 kx1 r631 i632 r633 i634 r635 i636 n) i637
noncomputable def ELp14_26 (m : Nat) (R : Type) : Nat → List V → (Ex → List V → Option R) → Option R
  | 0, _, _ => none
  | n + 1, vs, k => match vs with
    | [V.obj [V.bor [LT.str, LT.str, LT.int IntKind.i64, LT.int IntKind.i64, LT.int IntKind.i64, LT.int IntKind.i64] r631, V.f (F.lit (Value.int IntKind.i64 i632)), V.f (F.lst [LT.str] r633)], V.f (F.lit (Value.int IntKind.i64 i634)), V.ref (1 : Nat) (2 : Nat), V.f (F.lst [LT.str] r635), V.f (F.lit (Value.int IntKind.i64 i636)), V.f (F.lit (Value.int IntKind.i64 i637)), V.undef] => Lp14_26_step m (fun i639 i640 => k Ex.ret [V.obj [V.bor [LT.str, LT.str, LT.int IntKind.i64, LT.int IntKind.i64, LT.int IntKind.i64, LT.int IntKind.i64] r631, V.f (F.lit (Value.int IntKind.i64 i632)), V.f (F.lst [LT.str] r633)], V.f (F.lit (Value.int IntKind.i64 i639)), V.ref (1 : Nat) (2 : Nat), V.f (F.lst [LT.str] r635), V.f (F.lit (Value.int IntKind.i64 i636)), V.f (F.lit (Value.int IntKind.i64 i640)), V.undef]) (fun i641 => k (Ex.exit (4 : Nat)) [V.obj [V.bor [LT.str, LT.str, LT.int IntKind.i64, LT.int IntKind.i64, LT.int IntKind.i64, LT.int IntKind.i64] r631, V.f (F.lit (Value.int IntKind.i64 i632)), V.f (F.lst [LT.str] r633)], V.f (F.lit (Value.int IntKind.i64 i634)), V.ref (1 : Nat) (2 : Nat), V.f (F.lst [LT.str] r635), V.f (F.lit (Value.int IntKind.i64 i636)), V.f (F.lit (Value.int IntKind.i64 i641)), V.undef]) r631 i632 r633 i634 r635 i636 (fun i637 => ELp14_26 m R n [V.obj [V.bor [LT.str, LT.str, LT.int IntKind.i64, LT.int IntKind.i64, LT.int IntKind.i64, LT.int IntKind.i64] r631, V.f (F.lit (Value.int IntKind.i64 i632)), V.f (F.lst [LT.str] r633)], V.f (F.lit (Value.int IntKind.i64 i634)), V.ref (1 : Nat) (2 : Nat), V.f (F.lst [LT.str] r635), V.f (F.lit (Value.int IntKind.i64 i636)), V.f (F.lit (Value.int IntKind.i64 i637)), V.undef] k) i637
    | _ => none
noncomputable def brLp14_26 (m : Nat) (L : LTbl) (R : Type) (vs : List V) (k : Ex → List V → Option R) : Option R := match vs with
  | [V.obj [V.bor [LT.str, LT.str, LT.int IntKind.i64, LT.int IntKind.i64, LT.int IntKind.i64, LT.int IntKind.i64] r631, V.f (F.lit (Value.int IntKind.i64 i632)), V.f (F.lst [LT.str] r633)], V.f (F.lit (Value.int IntKind.i64 i634)), V.ref (1 : Nat) (2 : Nat), V.f (F.lst [LT.str] r635), V.f (F.lit (Value.int IntKind.i64 i636)), V.f (F.lit (Value.int IntKind.i64 i637)), V.undef] => Lp14_26 m (fun i639 i640 => k Ex.ret [V.obj [V.bor [LT.str, LT.str, LT.int IntKind.i64, LT.int IntKind.i64, LT.int IntKind.i64, LT.int IntKind.i64] r631, V.f (F.lit (Value.int IntKind.i64 i632)), V.f (F.lst [LT.str] r633)], V.f (F.lit (Value.int IntKind.i64 i639)), V.ref (1 : Nat) (2 : Nat), V.f (F.lst [LT.str] r635), V.f (F.lit (Value.int IntKind.i64 i636)), V.f (F.lit (Value.int IntKind.i64 i640)), V.undef]) (fun i641 => k (Ex.exit (4 : Nat)) [V.obj [V.bor [LT.str, LT.str, LT.int IntKind.i64, LT.int IntKind.i64, LT.int IntKind.i64, LT.int IntKind.i64] r631, V.f (F.lit (Value.int IntKind.i64 i632)), V.f (F.lst [LT.str] r633)], V.f (F.lit (Value.int IntKind.i64 i634)), V.ref (1 : Nat) (2 : Nat), V.f (F.lst [LT.str] r635), V.f (F.lit (Value.int IntKind.i64 i636)), V.f (F.lit (Value.int IntKind.i64 i641)), V.undef]) r631 i632 r633 i634 r635 i636 m i637
  | _ => L R 14 26 vs k
set_option maxRecDepth 100000 in
theorem stLp14_26 (m n : Nat) (R : Type) (r631 : Abs.Rows) (i632 : Int) (r633 : Abs.Rows) (i634 : Int) (r635 : Abs.Rows) (i636 : Int) (i637 : Int) (k : Ex → List V → Option R) : codeK Tryd.prog H (T38 m) 14 (L16 m) 27 (loopBody Tryd.prog 14 26) (mkEnv [1, 2, 99, 100, 101, 102, 123] [V.obj [V.bor [LT.str, LT.str, LT.int IntKind.i64, LT.int IntKind.i64, LT.int IntKind.i64, LT.int IntKind.i64] r631, V.f (F.lit (Value.int IntKind.i64 i632)), V.f (F.lst [LT.str] r633)], V.f (F.lit (Value.int IntKind.i64 i634)), V.ref (1 : Nat) (2 : Nat), V.f (F.lst [LT.str] r635), V.f (F.lit (Value.int IntKind.i64 i636)), V.f (F.lit (Value.int IntKind.i64 i637)), V.undef] 0 (H.len 14)) (fun e env' => match e with | .normal => ELp14_26 m R n (vals [1, 2, 99, 100, 101, 102, 123] env') k | e => k e (vals [1, 2, 99, 100, 101, 102, 123] env')) = Lp14_26_step m (fun i639 i640 => k Ex.ret [V.obj [V.bor [LT.str, LT.str, LT.int IntKind.i64, LT.int IntKind.i64, LT.int IntKind.i64, LT.int IntKind.i64] r631, V.f (F.lit (Value.int IntKind.i64 i632)), V.f (F.lst [LT.str] r633)], V.f (F.lit (Value.int IntKind.i64 i639)), V.ref (1 : Nat) (2 : Nat), V.f (F.lst [LT.str] r635), V.f (F.lit (Value.int IntKind.i64 i636)), V.f (F.lit (Value.int IntKind.i64 i640)), V.undef]) (fun i641 => k (Ex.exit (4 : Nat)) [V.obj [V.bor [LT.str, LT.str, LT.int IntKind.i64, LT.int IntKind.i64, LT.int IntKind.i64, LT.int IntKind.i64] r631, V.f (F.lit (Value.int IntKind.i64 i632)), V.f (F.lst [LT.str] r633)], V.f (F.lit (Value.int IntKind.i64 i634)), V.ref (1 : Nat) (2 : Nat), V.f (F.lst [LT.str] r635), V.f (F.lit (Value.int IntKind.i64 i636)), V.f (F.lit (Value.int IntKind.i64 i641)), V.undef]) r631 i632 r633 i634 r635 i636 (fun i637 => ELp14_26 m R n [V.obj [V.bor [LT.str, LT.str, LT.int IntKind.i64, LT.int IntKind.i64, LT.int IntKind.i64, LT.int IntKind.i64] r631, V.f (F.lit (Value.int IntKind.i64 i632)), V.f (F.lst [LT.str] r633)], V.f (F.lit (Value.int IntKind.i64 i634)), V.ref (1 : Nat) (2 : Nat), V.f (F.lst [LT.str] r635), V.f (F.lit (Value.int IntKind.i64 i636)), V.f (F.lit (Value.int IntKind.i64 i637)), V.undef] k) i637 := by kernel_rfl
theorem eqLp14_26 (m : Nat) (R : Type) (r631 : Abs.Rows) (i632 : Int) (r633 : Abs.Rows) (i634 : Int) (r635 : Abs.Rows) (i636 : Int) (k : Ex → List V → Option R) : ∀ (n : Nat) (i637 : Int), ELp14_26 m R n [V.obj [V.bor [LT.str, LT.str, LT.int IntKind.i64, LT.int IntKind.i64, LT.int IntKind.i64, LT.int IntKind.i64] r631, V.f (F.lit (Value.int IntKind.i64 i632)), V.f (F.lst [LT.str] r633)], V.f (F.lit (Value.int IntKind.i64 i634)), V.ref (1 : Nat) (2 : Nat), V.f (F.lst [LT.str] r635), V.f (F.lit (Value.int IntKind.i64 i636)), V.f (F.lit (Value.int IntKind.i64 i637)), V.undef] k = Lp14_26 m (fun i639 i640 => k Ex.ret [V.obj [V.bor [LT.str, LT.str, LT.int IntKind.i64, LT.int IntKind.i64, LT.int IntKind.i64, LT.int IntKind.i64] r631, V.f (F.lit (Value.int IntKind.i64 i632)), V.f (F.lst [LT.str] r633)], V.f (F.lit (Value.int IntKind.i64 i639)), V.ref (1 : Nat) (2 : Nat), V.f (F.lst [LT.str] r635), V.f (F.lit (Value.int IntKind.i64 i636)), V.f (F.lit (Value.int IntKind.i64 i640)), V.undef]) (fun i641 => k (Ex.exit (4 : Nat)) [V.obj [V.bor [LT.str, LT.str, LT.int IntKind.i64, LT.int IntKind.i64, LT.int IntKind.i64, LT.int IntKind.i64] r631, V.f (F.lit (Value.int IntKind.i64 i632)), V.f (F.lst [LT.str] r633)], V.f (F.lit (Value.int IntKind.i64 i634)), V.ref (1 : Nat) (2 : Nat), V.f (F.lst [LT.str] r635), V.f (F.lit (Value.int IntKind.i64 i636)), V.f (F.lit (Value.int IntKind.i64 i641)), V.undef]) r631 i632 r633 i634 r635 i636 n i637
  | 0, _ => rfl
  | n + 1, i637 => by
    simp only [ELp14_26, Lp14_26]
    congr 1
    funext i637
    exact eqLp14_26 m R r631 i632 r633 i634 r635 i636 k n i637
noncomputable def L17 (m : Nat) : LTbl := addB 14 26 (brLp14_26 m (L16 m)) (L16 m)
theorem okL17 (m : Nat) : LTOk Tryd.prog H (L17 m) := addB_ok (okT38 m) hM (okL16 m) (l := [1, 2, 99, 100, 101, 102, 123]) (by kernel_rfl) (by kernel_rfl) m (fun R n vs k => ELp14_26 m R n vs k) (fun R vs k => rfl) (fun R n vs k x h => by
      simp only [ELp14_26] at h
      split at h
      · exact (stLp14_26 m n R _ _ _ _ _ _ _ k).trans h
      · cases h) fun R vs k x h => by
    unfold brLp14_26 at h
    split at h
    · exact .inl ((eqLp14_26 m R _ _ _ _ _ _ k m _).trans h)
    · exact .inr h

/-- hookflash/flashref2.TariffFault -/
noncomputable def Fn14 {R : Type} (m : Nat) : Abs.Rows → Int → Abs.Rows → (Int → Option R) → Option R := match m with
  | 0 => fun _ _ _ _ => none
  | m + 1 => fun r541 i542 r543 k =>
  bif decide ((↑(List.length r541) : Int) > (200 : Int)) then (k ((2 : Int))) else
  (Lp14_5 m (fun i627 i628 => k i627) (fun i629 => Fn34 m i542 ((0 : Int)) ((2592000000 : Int)) (fun b630 => bif !b630 then (k ((1 : Int))) else
  (bif decide ((↑(List.length r543) : Int) > (200 : Int)) then (k ((2 : Int))) else
  (Lp14_26 m (fun i642 i643 => k i642) (fun i644 => k ((0 : Int))) r541 i542 r543 ((0 : Int)) r543 ((↑(List.length r543) : Int)) m ((0 : Int)))))) r541 i542 r543 ((0 : Int)) r541 ((↑(List.length r541) : Int)) m ((0 : Int)))
noncomputable def brFn14 (m : Nat) (T : Tbl) (R : Type) (vs : List V) (k : V → List V → Option R) : Option R := match vs with
  | [V.agg [V.bor [LT.str, LT.str, LT.int IntKind.i64, LT.int IntKind.i64, LT.int IntKind.i64, LT.int IntKind.i64] r541, V.f (F.lit (Value.int IntKind.i64 i542)), V.f (F.lst [LT.str] r543)]] => Fn14 m r541 i542 r543 (fun i645 => k (V.f (F.lit (Value.int IntKind.i64 i645))) [V.undef])
  | _ => T R 14 vs k
set_option maxRecDepth 100000 in
theorem evFn14 (m : Nat) (R : Type) (r541 : Abs.Rows) (i542 : Int) (r543 : Abs.Rows) (k : V → List V → Option R) : runK Tryd.prog H (T38 m) (L17 m) 14 [V.agg [V.bor [LT.str, LT.str, LT.int IntKind.i64, LT.int IntKind.i64, LT.int IntKind.i64, LT.int IntKind.i64] r541, V.f (F.lit (Value.int IntKind.i64 i542)), V.f (F.lst [LT.str] r543)]] k = Fn14 (m + 1) r541 i542 r543 (fun i645 => k (V.f (F.lit (Value.int IntKind.i64 i645))) [V.undef]) := by kernel_rfl
noncomputable def T39 (m : Nat) : Tbl := addT 14 (brFn14 m (T38 m)) (T38 m)
theorem okT39 (m : Nat) : TblOk Tryd.prog (T39 m) := addT_ok (okT38 m) fun R vs k x h => by
  unfold brFn14 at h
  split at h
  · cases m with
    | zero => cases h
    | succ m => exact runK_some (okT38 m) hM (okL17 m) ((evFn14 m R _ _ _ k).trans h)
  · exact okT38 m R 14 _ k x h

/-- a round of a loop of hookflash/flashlaw2.errs -/
noncomputable def Lp13_2_step {R : Type} (m : Nat) (kx0 : Int → Int → Option R) (kx1 : Int → Option R) (r648 : Abs.Rows) (i649 : Int) (r650 : Abs.Rows) (i651 : Int) (REC : Int → Option R) (i652 : Int) : Option R :=
  bif decide (i652 < i651) then (bif decide ((0 : Int) ≤ i652 ∧ i652 < (↑(List.length r650) : Int)) then (bif fI r650 (Int.toNat i652) (0 : Nat) != (0 : Int) then (kx0 (fI r650 (Int.toNat i652) (0 : Nat)) i652) else
  (REC (IntKind.wrap IntKind.i64 (i652 + (1 : Int))))) else
  (none)) else
  (kx1 i652)
noncomputable def Lp13_2 {R : Type} (m : Nat) (kx0 : Int → Int → Option R) (kx1 : Int → Option R) (r648 : Abs.Rows) (i649 : Int) (r650 : Abs.Rows) (i651 : Int) : Nat → Int → Option R
  | 0, _ => none
  | n + 1, i652 => Lp13_2_step m kx0 kx1 r648 i649 r650 i651 (Lp13_2 m kx0 kx1 r648 i649 r650 i651 n) i652
noncomputable def ELp13_2 (m : Nat) (R : Type) : Nat → List V → (Ex → List V → Option R) → Option R
  | 0, _, _ => none
  | n + 1, vs, k => match vs with
    | [V.bor [LT.int IntKind.i64] r648, V.f (F.lit (Value.int IntKind.i64 i649)), V.bor [LT.int IntKind.i64] r650, V.f (F.lit (Value.int IntKind.i64 i651)), V.f (F.lit (Value.int IntKind.i64 i652)), V.undef] => Lp13_2_step m (fun i653 i654 => k Ex.ret [V.bor [LT.int IntKind.i64] r648, V.f (F.lit (Value.int IntKind.i64 i653)), V.bor [LT.int IntKind.i64] r650, V.f (F.lit (Value.int IntKind.i64 i651)), V.f (F.lit (Value.int IntKind.i64 i654)), V.undef]) (fun i655 => k (Ex.exit (0 : Nat)) [V.bor [LT.int IntKind.i64] r648, V.f (F.lit (Value.int IntKind.i64 i649)), V.bor [LT.int IntKind.i64] r650, V.f (F.lit (Value.int IntKind.i64 i651)), V.f (F.lit (Value.int IntKind.i64 i655)), V.undef]) r648 i649 r650 i651 (fun i652 => ELp13_2 m R n [V.bor [LT.int IntKind.i64] r648, V.f (F.lit (Value.int IntKind.i64 i649)), V.bor [LT.int IntKind.i64] r650, V.f (F.lit (Value.int IntKind.i64 i651)), V.f (F.lit (Value.int IntKind.i64 i652)), V.undef] k) i652
    | _ => none
noncomputable def brLp13_2 (m : Nat) (L : LTbl) (R : Type) (vs : List V) (k : Ex → List V → Option R) : Option R := match vs with
  | [V.bor [LT.int IntKind.i64] r648, V.f (F.lit (Value.int IntKind.i64 i649)), V.bor [LT.int IntKind.i64] r650, V.f (F.lit (Value.int IntKind.i64 i651)), V.f (F.lit (Value.int IntKind.i64 i652)), V.undef] => Lp13_2 m (fun i653 i654 => k Ex.ret [V.bor [LT.int IntKind.i64] r648, V.f (F.lit (Value.int IntKind.i64 i653)), V.bor [LT.int IntKind.i64] r650, V.f (F.lit (Value.int IntKind.i64 i651)), V.f (F.lit (Value.int IntKind.i64 i654)), V.undef]) (fun i655 => k (Ex.exit (0 : Nat)) [V.bor [LT.int IntKind.i64] r648, V.f (F.lit (Value.int IntKind.i64 i649)), V.bor [LT.int IntKind.i64] r650, V.f (F.lit (Value.int IntKind.i64 i651)), V.f (F.lit (Value.int IntKind.i64 i655)), V.undef]) r648 i649 r650 i651 m i652
  | _ => L R 13 2 vs k
set_option maxRecDepth 100000 in
theorem stLp13_2 (m n : Nat) (R : Type) (r648 : Abs.Rows) (i649 : Int) (r650 : Abs.Rows) (i651 : Int) (i652 : Int) (k : Ex → List V → Option R) : codeK Tryd.prog H (T39 m) 13 (L17 m) 3 (loopBody Tryd.prog 13 2) (mkEnv [0, 2, 5, 6, 7, 15] [V.bor [LT.int IntKind.i64] r648, V.f (F.lit (Value.int IntKind.i64 i649)), V.bor [LT.int IntKind.i64] r650, V.f (F.lit (Value.int IntKind.i64 i651)), V.f (F.lit (Value.int IntKind.i64 i652)), V.undef] 0 (H.len 13)) (fun e env' => match e with | .normal => ELp13_2 m R n (vals [0, 2, 5, 6, 7, 15] env') k | e => k e (vals [0, 2, 5, 6, 7, 15] env')) = Lp13_2_step m (fun i653 i654 => k Ex.ret [V.bor [LT.int IntKind.i64] r648, V.f (F.lit (Value.int IntKind.i64 i653)), V.bor [LT.int IntKind.i64] r650, V.f (F.lit (Value.int IntKind.i64 i651)), V.f (F.lit (Value.int IntKind.i64 i654)), V.undef]) (fun i655 => k (Ex.exit (0 : Nat)) [V.bor [LT.int IntKind.i64] r648, V.f (F.lit (Value.int IntKind.i64 i649)), V.bor [LT.int IntKind.i64] r650, V.f (F.lit (Value.int IntKind.i64 i651)), V.f (F.lit (Value.int IntKind.i64 i655)), V.undef]) r648 i649 r650 i651 (fun i652 => ELp13_2 m R n [V.bor [LT.int IntKind.i64] r648, V.f (F.lit (Value.int IntKind.i64 i649)), V.bor [LT.int IntKind.i64] r650, V.f (F.lit (Value.int IntKind.i64 i651)), V.f (F.lit (Value.int IntKind.i64 i652)), V.undef] k) i652 := by kernel_rfl
theorem eqLp13_2 (m : Nat) (R : Type) (r648 : Abs.Rows) (i649 : Int) (r650 : Abs.Rows) (i651 : Int) (k : Ex → List V → Option R) : ∀ (n : Nat) (i652 : Int), ELp13_2 m R n [V.bor [LT.int IntKind.i64] r648, V.f (F.lit (Value.int IntKind.i64 i649)), V.bor [LT.int IntKind.i64] r650, V.f (F.lit (Value.int IntKind.i64 i651)), V.f (F.lit (Value.int IntKind.i64 i652)), V.undef] k = Lp13_2 m (fun i653 i654 => k Ex.ret [V.bor [LT.int IntKind.i64] r648, V.f (F.lit (Value.int IntKind.i64 i653)), V.bor [LT.int IntKind.i64] r650, V.f (F.lit (Value.int IntKind.i64 i651)), V.f (F.lit (Value.int IntKind.i64 i654)), V.undef]) (fun i655 => k (Ex.exit (0 : Nat)) [V.bor [LT.int IntKind.i64] r648, V.f (F.lit (Value.int IntKind.i64 i649)), V.bor [LT.int IntKind.i64] r650, V.f (F.lit (Value.int IntKind.i64 i651)), V.f (F.lit (Value.int IntKind.i64 i655)), V.undef]) r648 i649 r650 i651 n i652
  | 0, _ => rfl
  | n + 1, i652 => by
    simp only [ELp13_2, Lp13_2]
    congr 1
    funext i652
    exact eqLp13_2 m R r648 i649 r650 i651 k n i652
noncomputable def L18 (m : Nat) : LTbl := addB 13 2 (brLp13_2 m (L17 m)) (L17 m)
theorem okL18 (m : Nat) : LTOk Tryd.prog H (L18 m) := addB_ok (okT39 m) hM (okL17 m) (l := [0, 2, 5, 6, 7, 15]) (by kernel_rfl) (by kernel_rfl) m (fun R n vs k => ELp13_2 m R n vs k) (fun R vs k => rfl) (fun R n vs k x h => by
      simp only [ELp13_2] at h
      split at h
      · exact (stLp13_2 m n R _ _ _ _ _ k).trans h
      · cases h) fun R vs k x h => by
    unfold brLp13_2 at h
    split at h
    · exact .inl ((eqLp13_2 m R _ _ _ _ k m _).trans h)
    · exact .inr h

/-- hookflash/flashlaw2.errs -/
noncomputable def Fn13 {R : Type} (m : Nat) : Abs.Rows → (Int → Option R) → Option R := match m with
  | 0 => fun _ _ => none
  | m + 1 => fun r647 k =>
  Lp13_2 m (fun i656 i657 => k i656) (fun i658 => k ((0 : Int))) r647 ((0 : Int)) r647 ((↑(List.length r647) : Int)) m ((0 : Int))
noncomputable def brFn13 (m : Nat) (T : Tbl) (R : Type) (vs : List V) (k : V → List V → Option R) : Option R := match vs with
  | [V.bor [LT.int IntKind.i64] r647] => Fn13 m r647 (fun i659 => k (V.f (F.lit (Value.int IntKind.i64 i659))) [V.undef])
  | _ => T R 13 vs k
set_option maxRecDepth 100000 in
theorem evFn13 (m : Nat) (R : Type) (r647 : Abs.Rows) (k : V → List V → Option R) : runK Tryd.prog H (T39 m) (L18 m) 13 [V.bor [LT.int IntKind.i64] r647] k = Fn13 (m + 1) r647 (fun i659 => k (V.f (F.lit (Value.int IntKind.i64 i659))) [V.undef]) := by kernel_rfl
noncomputable def T40 (m : Nat) : Tbl := addT 13 (brFn13 m (T39 m)) (T39 m)
theorem okT40 (m : Nat) : TblOk Tryd.prog (T40 m) := addT_ok (okT39 m) fun R vs k x h => by
  unfold brFn13 at h
  split at h
  · cases m with
    | zero => cases h
    | succ m => exact runK_some (okT39 m) hM (okL18 m) ((evFn13 m R _ k).trans h)
  · exact okT39 m R 13 _ k x h

/-- a round of a loop of hookflash/flashref2.PayersFault -/
noncomputable def Lp15_20_step {R : Type} (m : Nat) (kx0 : Int → Abs.Rows → Int → Option R) (kx1 : Abs.Rows → Int → Option R) (r673 : Abs.Rows) (i674 : Int) (s676 : ByteArray) (s677 : ByteArray) (r678 : Abs.Rows) (r679 : Abs.Rows) (i680 : Int) (i681 : Int) (r682 : Abs.Rows) (i683 : Int) (REC : Abs.Rows → Int → Option R) (r675 : Abs.Rows) (i684 : Int) : Option R :=
  bif decide (i684 < i683) then (bif decide ((0 : Int) ≤ i684 ∧ i684 < (↑(List.length r682) : Int)) then (Fn12 m (fS r682 (Int.toNat i684) (0 : Nat)) (fun b685 => bif !b685 then (kx0 ((3 : Int)) r675 i684) else
  (bif F.toBool (List.headD (mRow (F.lit (Value.string (fS r682 (Int.toNat i684) (0 : Nat)))) [F.lit (Value.bool false)] r675) default) then (kx0 ((6 : Int)) r675 i684) else
  (bif decide (List.length r675 < rowMax) then (REC (mPut (F.lit (Value.string (fS r682 (Int.toNat i684) (0 : Nat)))) [F.lit (Value.bool true)] r675) (IntKind.wrap IntKind.i64 (i684 + (1 : Int)))) else
  (none))))) else
  (none)) else
  (kx1 r675 i684)
noncomputable def Lp15_20 {R : Type} (m : Nat) (kx0 : Int → Abs.Rows → Int → Option R) (kx1 : Abs.Rows → Int → Option R) (r673 : Abs.Rows) (i674 : Int) (s676 : ByteArray) (s677 : ByteArray) (r678 : Abs.Rows) (r679 : Abs.Rows) (i680 : Int) (i681 : Int) (r682 : Abs.Rows) (i683 : Int) : Nat → Abs.Rows → Int → Option R
  | 0, _, _ => none
  | n + 1, r675, i684 => Lp15_20_step m kx0 kx1 r673 i674 s676 s677 r678 r679 i680 i681 r682 i683 (Lp15_20 m kx0 kx1 r673 i674 s676 s677 r678 r679 i680 i681 r682 i683 n) r675 i684
noncomputable def ELp15_20 (m : Nat) (R : Type) : Nat → List V → (Ex → List V → Option R) → Option R
  | 0, _, _ => none
  | n + 1, vs, k => match vs with
    | [V.bor [LT.str, LT.lst [LT.str]] r673, V.f (F.lit (Value.int IntKind.i64 i674)), V.own [LT.mp false, LT.str, LT.bool] r675, V.f (F.lit (Value.string s676)), V.obj [V.f (F.lit (Value.string s677)), V.f (F.lst [LT.str] r678)], V.undef, V.bor [LT.str, LT.lst [LT.str]] r679, V.f (F.lit (Value.int IntKind.i64 i680)), V.f (F.lit (Value.int IntKind.i64 i681)), V.ref (6 : Nat) (1 : Nat), V.f (F.lst [LT.str] r682), V.f (F.lit (Value.int IntKind.i64 i683)), V.f (F.lit (Value.int IntKind.i64 i684)), V.undef] => Lp15_20_step m (fun i686 r687 i688 => k Ex.ret [V.bor [LT.str, LT.lst [LT.str]] r673, V.f (F.lit (Value.int IntKind.i64 i686)), V.own [LT.mp false, LT.str, LT.bool] r687, V.f (F.lit (Value.string s676)), V.obj [V.f (F.lit (Value.string s677)), V.f (F.lst [LT.str] r678)], V.undef, V.bor [LT.str, LT.lst [LT.str]] r679, V.f (F.lit (Value.int IntKind.i64 i680)), V.f (F.lit (Value.int IntKind.i64 i681)), V.ref (6 : Nat) (1 : Nat), V.f (F.lst [LT.str] r682), V.f (F.lit (Value.int IntKind.i64 i683)), V.f (F.lit (Value.int IntKind.i64 i688)), V.undef]) (fun r689 i690 => k (Ex.exit (3 : Nat)) [V.bor [LT.str, LT.lst [LT.str]] r673, V.f (F.lit (Value.int IntKind.i64 i674)), V.own [LT.mp false, LT.str, LT.bool] r689, V.f (F.lit (Value.string s676)), V.obj [V.f (F.lit (Value.string s677)), V.f (F.lst [LT.str] r678)], V.undef, V.bor [LT.str, LT.lst [LT.str]] r679, V.f (F.lit (Value.int IntKind.i64 i680)), V.f (F.lit (Value.int IntKind.i64 i681)), V.ref (6 : Nat) (1 : Nat), V.f (F.lst [LT.str] r682), V.f (F.lit (Value.int IntKind.i64 i683)), V.f (F.lit (Value.int IntKind.i64 i690)), V.undef]) r673 i674 s676 s677 r678 r679 i680 i681 r682 i683 (fun r675 i684 => ELp15_20 m R n [V.bor [LT.str, LT.lst [LT.str]] r673, V.f (F.lit (Value.int IntKind.i64 i674)), V.own [LT.mp false, LT.str, LT.bool] r675, V.f (F.lit (Value.string s676)), V.obj [V.f (F.lit (Value.string s677)), V.f (F.lst [LT.str] r678)], V.undef, V.bor [LT.str, LT.lst [LT.str]] r679, V.f (F.lit (Value.int IntKind.i64 i680)), V.f (F.lit (Value.int IntKind.i64 i681)), V.ref (6 : Nat) (1 : Nat), V.f (F.lst [LT.str] r682), V.f (F.lit (Value.int IntKind.i64 i683)), V.f (F.lit (Value.int IntKind.i64 i684)), V.undef] k) r675 i684
    | _ => none
noncomputable def brLp15_20 (m : Nat) (L : LTbl) (R : Type) (vs : List V) (k : Ex → List V → Option R) : Option R := match vs with
  | [V.bor [LT.str, LT.lst [LT.str]] r673, V.f (F.lit (Value.int IntKind.i64 i674)), V.own [LT.mp false, LT.str, LT.bool] r675, V.f (F.lit (Value.string s676)), V.obj [V.f (F.lit (Value.string s677)), V.f (F.lst [LT.str] r678)], V.undef, V.bor [LT.str, LT.lst [LT.str]] r679, V.f (F.lit (Value.int IntKind.i64 i680)), V.f (F.lit (Value.int IntKind.i64 i681)), V.ref (6 : Nat) (1 : Nat), V.f (F.lst [LT.str] r682), V.f (F.lit (Value.int IntKind.i64 i683)), V.f (F.lit (Value.int IntKind.i64 i684)), V.undef] => Lp15_20 m (fun i686 r687 i688 => k Ex.ret [V.bor [LT.str, LT.lst [LT.str]] r673, V.f (F.lit (Value.int IntKind.i64 i686)), V.own [LT.mp false, LT.str, LT.bool] r687, V.f (F.lit (Value.string s676)), V.obj [V.f (F.lit (Value.string s677)), V.f (F.lst [LT.str] r678)], V.undef, V.bor [LT.str, LT.lst [LT.str]] r679, V.f (F.lit (Value.int IntKind.i64 i680)), V.f (F.lit (Value.int IntKind.i64 i681)), V.ref (6 : Nat) (1 : Nat), V.f (F.lst [LT.str] r682), V.f (F.lit (Value.int IntKind.i64 i683)), V.f (F.lit (Value.int IntKind.i64 i688)), V.undef]) (fun r689 i690 => k (Ex.exit (3 : Nat)) [V.bor [LT.str, LT.lst [LT.str]] r673, V.f (F.lit (Value.int IntKind.i64 i674)), V.own [LT.mp false, LT.str, LT.bool] r689, V.f (F.lit (Value.string s676)), V.obj [V.f (F.lit (Value.string s677)), V.f (F.lst [LT.str] r678)], V.undef, V.bor [LT.str, LT.lst [LT.str]] r679, V.f (F.lit (Value.int IntKind.i64 i680)), V.f (F.lit (Value.int IntKind.i64 i681)), V.ref (6 : Nat) (1 : Nat), V.f (F.lst [LT.str] r682), V.f (F.lit (Value.int IntKind.i64 i683)), V.f (F.lit (Value.int IntKind.i64 i690)), V.undef]) r673 i674 s676 s677 r678 r679 i680 i681 r682 i683 m r675 i684
  | _ => L R 15 20 vs k
set_option maxRecDepth 100000 in
theorem stLp15_20 (m n : Nat) (R : Type) (r673 : Abs.Rows) (i674 : Int) (r675 : Abs.Rows) (s676 : ByteArray) (s677 : ByteArray) (r678 : Abs.Rows) (r679 : Abs.Rows) (i680 : Int) (i681 : Int) (r682 : Abs.Rows) (i683 : Int) (i684 : Int) (k : Ex → List V → Option R) : codeK Tryd.prog H (T40 m) 15 (L18 m) 21 (loopBody Tryd.prog 15 20) (mkEnv [0, 2, 3, 4, 6, 12, 13, 14, 15, 36, 37, 38, 39, 53] [V.bor [LT.str, LT.lst [LT.str]] r673, V.f (F.lit (Value.int IntKind.i64 i674)), V.own [LT.mp false, LT.str, LT.bool] r675, V.f (F.lit (Value.string s676)), V.obj [V.f (F.lit (Value.string s677)), V.f (F.lst [LT.str] r678)], V.undef, V.bor [LT.str, LT.lst [LT.str]] r679, V.f (F.lit (Value.int IntKind.i64 i680)), V.f (F.lit (Value.int IntKind.i64 i681)), V.ref (6 : Nat) (1 : Nat), V.f (F.lst [LT.str] r682), V.f (F.lit (Value.int IntKind.i64 i683)), V.f (F.lit (Value.int IntKind.i64 i684)), V.undef] 0 (H.len 15)) (fun e env' => match e with | .normal => ELp15_20 m R n (vals [0, 2, 3, 4, 6, 12, 13, 14, 15, 36, 37, 38, 39, 53] env') k | e => k e (vals [0, 2, 3, 4, 6, 12, 13, 14, 15, 36, 37, 38, 39, 53] env')) = Lp15_20_step m (fun i686 r687 i688 => k Ex.ret [V.bor [LT.str, LT.lst [LT.str]] r673, V.f (F.lit (Value.int IntKind.i64 i686)), V.own [LT.mp false, LT.str, LT.bool] r687, V.f (F.lit (Value.string s676)), V.obj [V.f (F.lit (Value.string s677)), V.f (F.lst [LT.str] r678)], V.undef, V.bor [LT.str, LT.lst [LT.str]] r679, V.f (F.lit (Value.int IntKind.i64 i680)), V.f (F.lit (Value.int IntKind.i64 i681)), V.ref (6 : Nat) (1 : Nat), V.f (F.lst [LT.str] r682), V.f (F.lit (Value.int IntKind.i64 i683)), V.f (F.lit (Value.int IntKind.i64 i688)), V.undef]) (fun r689 i690 => k (Ex.exit (3 : Nat)) [V.bor [LT.str, LT.lst [LT.str]] r673, V.f (F.lit (Value.int IntKind.i64 i674)), V.own [LT.mp false, LT.str, LT.bool] r689, V.f (F.lit (Value.string s676)), V.obj [V.f (F.lit (Value.string s677)), V.f (F.lst [LT.str] r678)], V.undef, V.bor [LT.str, LT.lst [LT.str]] r679, V.f (F.lit (Value.int IntKind.i64 i680)), V.f (F.lit (Value.int IntKind.i64 i681)), V.ref (6 : Nat) (1 : Nat), V.f (F.lst [LT.str] r682), V.f (F.lit (Value.int IntKind.i64 i683)), V.f (F.lit (Value.int IntKind.i64 i690)), V.undef]) r673 i674 s676 s677 r678 r679 i680 i681 r682 i683 (fun r675 i684 => ELp15_20 m R n [V.bor [LT.str, LT.lst [LT.str]] r673, V.f (F.lit (Value.int IntKind.i64 i674)), V.own [LT.mp false, LT.str, LT.bool] r675, V.f (F.lit (Value.string s676)), V.obj [V.f (F.lit (Value.string s677)), V.f (F.lst [LT.str] r678)], V.undef, V.bor [LT.str, LT.lst [LT.str]] r679, V.f (F.lit (Value.int IntKind.i64 i680)), V.f (F.lit (Value.int IntKind.i64 i681)), V.ref (6 : Nat) (1 : Nat), V.f (F.lst [LT.str] r682), V.f (F.lit (Value.int IntKind.i64 i683)), V.f (F.lit (Value.int IntKind.i64 i684)), V.undef] k) r675 i684 := by kernel_rfl
theorem eqLp15_20 (m : Nat) (R : Type) (r673 : Abs.Rows) (i674 : Int) (s676 : ByteArray) (s677 : ByteArray) (r678 : Abs.Rows) (r679 : Abs.Rows) (i680 : Int) (i681 : Int) (r682 : Abs.Rows) (i683 : Int) (k : Ex → List V → Option R) : ∀ (n : Nat) (r675 : Abs.Rows) (i684 : Int), ELp15_20 m R n [V.bor [LT.str, LT.lst [LT.str]] r673, V.f (F.lit (Value.int IntKind.i64 i674)), V.own [LT.mp false, LT.str, LT.bool] r675, V.f (F.lit (Value.string s676)), V.obj [V.f (F.lit (Value.string s677)), V.f (F.lst [LT.str] r678)], V.undef, V.bor [LT.str, LT.lst [LT.str]] r679, V.f (F.lit (Value.int IntKind.i64 i680)), V.f (F.lit (Value.int IntKind.i64 i681)), V.ref (6 : Nat) (1 : Nat), V.f (F.lst [LT.str] r682), V.f (F.lit (Value.int IntKind.i64 i683)), V.f (F.lit (Value.int IntKind.i64 i684)), V.undef] k = Lp15_20 m (fun i686 r687 i688 => k Ex.ret [V.bor [LT.str, LT.lst [LT.str]] r673, V.f (F.lit (Value.int IntKind.i64 i686)), V.own [LT.mp false, LT.str, LT.bool] r687, V.f (F.lit (Value.string s676)), V.obj [V.f (F.lit (Value.string s677)), V.f (F.lst [LT.str] r678)], V.undef, V.bor [LT.str, LT.lst [LT.str]] r679, V.f (F.lit (Value.int IntKind.i64 i680)), V.f (F.lit (Value.int IntKind.i64 i681)), V.ref (6 : Nat) (1 : Nat), V.f (F.lst [LT.str] r682), V.f (F.lit (Value.int IntKind.i64 i683)), V.f (F.lit (Value.int IntKind.i64 i688)), V.undef]) (fun r689 i690 => k (Ex.exit (3 : Nat)) [V.bor [LT.str, LT.lst [LT.str]] r673, V.f (F.lit (Value.int IntKind.i64 i674)), V.own [LT.mp false, LT.str, LT.bool] r689, V.f (F.lit (Value.string s676)), V.obj [V.f (F.lit (Value.string s677)), V.f (F.lst [LT.str] r678)], V.undef, V.bor [LT.str, LT.lst [LT.str]] r679, V.f (F.lit (Value.int IntKind.i64 i680)), V.f (F.lit (Value.int IntKind.i64 i681)), V.ref (6 : Nat) (1 : Nat), V.f (F.lst [LT.str] r682), V.f (F.lit (Value.int IntKind.i64 i683)), V.f (F.lit (Value.int IntKind.i64 i690)), V.undef]) r673 i674 s676 s677 r678 r679 i680 i681 r682 i683 n r675 i684
  | 0, _, _ => rfl
  | n + 1, r675, i684 => by
    simp only [ELp15_20, Lp15_20]
    congr 1
    funext r675 i684
    exact eqLp15_20 m R r673 i674 s676 s677 r678 r679 i680 i681 r682 i683 k n r675 i684
noncomputable def L19 (m : Nat) : LTbl := addB 15 20 (brLp15_20 m (L18 m)) (L18 m)
theorem okL19 (m : Nat) : LTOk Tryd.prog H (L19 m) := addB_ok (okT40 m) hM (okL18 m) (l := [0, 2, 3, 4, 6, 12, 13, 14, 15, 36, 37, 38, 39, 53]) (by kernel_rfl) (by kernel_rfl) m (fun R n vs k => ELp15_20 m R n vs k) (fun R vs k => rfl) (fun R n vs k x h => by
      simp only [ELp15_20] at h
      split at h
      · exact (stLp15_20 m n R _ _ _ _ _ _ _ _ _ _ _ _ k).trans h
      · cases h) fun R vs k x h => by
    unfold brLp15_20 at h
    split at h
    · exact .inl ((eqLp15_20 m R _ _ _ _ _ _ _ _ _ _ k m _ _).trans h)
    · exact .inr h


end Go.Proofs.YtcoplddcbedeoaaDoor.Med
end
