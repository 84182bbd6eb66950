/- A part of the proofs of the seat YtngjadgglbkjlaaDoor: no statement of the seat stands here. -/
import Derived.Test.YtngjadgglbkjlaaDoorProg
import Derived.KernelRfl
import Derived.Test.YtngjadgglbkjlaaDoorAbsC
import Derived.Test.YtngjadgglbkjlaaDoorMedPre
section
set_option linter.unusedVariables false
set_option linter.unusedSimpArgs false
set_option linter.unusedSectionVars false
namespace Go.Proofs.YtngjadgglbkjlaaDoor.Med
open Go Go.Abs Go.Proofs
set_option linter.unusedVariables false
theorem hM : Tryd.prog.follows .mixedOrders = true := by kernel_rfl
theorem idx103 (s : ByteArray) (c : Int) : FnOk Tryd.prog 103 [.f (.lit (.string s)), .f (.lit (.int .u8 c))] (vInt .i64 (idxByte s c)) [.undef, .undef] :=
  idx_ok (fn := Tryd.f103) Tryd.func103 (by kernel_rfl) (by kernel_rfl) (by kernel_rfl) (by kernel_rfl) s c
def TC0 : Tbl := addT 103 (brIdx 103 noT) noT
theorem okTC0 : TblOk Tryd.prog TC0 := brIdx_ok noT_ok idx103
def TC1 : Tbl := addT 36 (brRep 36 TC0) TC0
theorem okTC1 : TblOk Tryd.prog TC1 := brRep_ok okTC0 rep36
def TC2 : Tbl := addT 84 (brTrim 84 TC1) TC1
theorem okTC2 : TblOk Tryd.prog TC2 := brTrim_ok okTC1 trim84
def TC3 : Tbl := addT 89 (brCmp 89 TC2) TC2
theorem okTC3 : TblOk Tryd.prog TC3 := brCmp_ok okTC2 cmp89
def T0 (_ : Nat) : Tbl := TC3
def L0 (_ : Nat) : LTbl := noL
theorem okT0 (m : Nat) : TblOk Tryd.prog (T0 m) := okTC3
theorem okL0 (m : Nat) : LTOk Tryd.prog H (L0 m) := noL_ok
/-- hookflash/flashmake.Below -/
def Fn60 {R : Type} (m : Nat) : Int → Int → (Int → Option R) → Option R := match m with
  | 0 => fun _ _ _ => none
  | m + 1 => fun i13 i14 k =>
  bif decide (i14 < (1 : Int)) then (k ((0 : Int))) else
  (bif decide (i14 ≠ (0 : Int)) then (bif decide (Int.tmod i13 i14 < (0 : Int)) then (k (IntKind.wrap IntKind.i64 (Int.tmod i13 i14 + i14))) else
  (k (Int.tmod i13 i14))) else
  (none))
def brFn60 (m : Nat) (T : Tbl) (R : Type) (vs : List V) (k : V → List V → Option R) : Option R := match vs with
  | [V.f (F.lit (Value.int IntKind.i64 i13)), V.f (F.lit (Value.int IntKind.i64 i14))] => Fn60 m i13 i14 (fun i15 => k (V.f (F.lit (Value.int IntKind.i64 i15))) [V.undef, V.undef])
  | _ => T R 60 vs k
set_option maxRecDepth 100000 in
theorem evFn60 (m : Nat) (R : Type) (i13 : Int) (i14 : Int) (k : V → List V → Option R) : runK Tryd.prog H (T0 m) (L0 m) 60 [V.f (F.lit (Value.int IntKind.i64 i13)), V.f (F.lit (Value.int IntKind.i64 i14))] k = Fn60 (m + 1) i13 i14 (fun i15 => k (V.f (F.lit (Value.int IntKind.i64 i15))) [V.undef, V.undef]) := by kernel_rfl
def T1 (m : Nat) : Tbl := addT 60 (brFn60 m (T0 m)) (T0 m)
theorem okT1 (m : Nat) : TblOk Tryd.prog (T1 m) := addT_ok (okT0 m) fun R vs k x h => by
  unfold brFn60 at h
  split at h
  · cases m with
    | zero => cases h
    | succ m => exact runK_some (okT0 m) hM (okL0 m) ((evFn60 m R _ _ k).trans h)
  · exact okT0 m R 60 _ k x h

/-- (*hookflash/flashmake.Stream).Next -/
def Fn25 {R : Type} (m : Nat) : Abs.Rows → Int → Int → (Int → Int → Option R) → Option R := match m with
  | 0 => fun _ _ _ _ => none
  | m + 1 => fun r10 i11 i12 k =>
  bif (↑(List.length r10) : Int) == (0 : Int) then (Fn60 m (IntKind.wrap IntKind.i64 (IntKind.wrap IntKind.i64 (i11 + (1 : Int)) * (7919 : Int))) i12 (fun i16 => k i16 (IntKind.wrap IntKind.i64 (i11 + (1 : Int))))) else
  (bif decide ((↑(List.length r10) : Int) ≠ (0 : Int)) then (bif decide ((↑(List.length r10) : Int) ≠ (0 : Int)) then (bif decide ((0 : Int) ≤ Int.tmod (IntKind.wrap IntKind.i64 (IntKind.wrap IntKind.i64 (i11 + (1 : Int)) - (1 : Int))) (↑(List.length r10) : Int) ∧ Int.tmod (IntKind.wrap IntKind.i64 (IntKind.wrap IntKind.i64 (i11 + (1 : Int)) - (1 : Int))) (↑(List.length r10) : Int) < (↑(List.length r10) : Int)) then (Fn60 m (fI r10 (Int.toNat (Int.tmod (IntKind.wrap IntKind.i64 (IntKind.wrap IntKind.i64 (i11 + (1 : Int)) - (1 : Int))) (↑(List.length r10) : Int))) (0 : Nat)) ((1073741824 : Int)) (fun i17 => Fn60 m (IntKind.wrap IntKind.i64 (i17 + IntKind.wrap IntKind.i64 (IntKind.wrap IntKind.i64 (Int.tdiv (IntKind.wrap IntKind.i64 (IntKind.wrap IntKind.i64 (i11 + (1 : Int)) - (1 : Int))) (↑(List.length r10) : Int)) * IntKind.wrap IntKind.i64 ((7919 : Int) + Int.tmod (IntKind.wrap IntKind.i64 (IntKind.wrap IntKind.i64 (i11 + (1 : Int)) - (1 : Int))) (↑(List.length r10) : Int))))) i12 (fun i18 => letV (IntKind.wrap IntKind.i64 (i17 + IntKind.wrap IntKind.i64 (IntKind.wrap IntKind.i64 (Int.tdiv (IntKind.wrap IntKind.i64 (IntKind.wrap IntKind.i64 (i11 + (1 : Int)) - (1 : Int))) (↑(List.length r10) : Int)) * IntKind.wrap IntKind.i64 ((7919 : Int) + Int.tmod (IntKind.wrap IntKind.i64 (IntKind.wrap IntKind.i64 (i11 + (1 : Int)) - (1 : Int))) (↑(List.length r10) : Int))))) (fun i19 => letV (IntKind.wrap IntKind.i64 (IntKind.wrap IntKind.i64 (Int.tdiv (IntKind.wrap IntKind.i64 (IntKind.wrap IntKind.i64 (i11 + (1 : Int)) - (1 : Int))) (↑(List.length r10) : Int)) * IntKind.wrap IntKind.i64 ((7919 : Int) + Int.tmod (IntKind.wrap IntKind.i64 (IntKind.wrap IntKind.i64 (i11 + (1 : Int)) - (1 : Int))) (↑(List.length r10) : Int)))) (fun i20 => k i18 (IntKind.wrap IntKind.i64 (i11 + (1 : Int)))))))) else
  (none)) else
  (none)) else
  (none))
def brFn25 (m : Nat) (T : Tbl) (R : Type) (vs : List V) (k : V → List V → Option R) : Option R := match vs with
  | [V.obj [V.f (F.lst [LT.int IntKind.i64] r10), V.f (F.lit (Value.int IntKind.i64 i11))], V.f (F.lit (Value.int IntKind.i64 i12))] => Fn25 m r10 i11 i12 (fun i21 i22 => k (V.f (F.lit (Value.int IntKind.i64 i21))) [V.obj [V.f (F.lst [LT.int IntKind.i64] r10), V.f (F.lit (Value.int IntKind.i64 i22))], V.undef])
  | _ => T R 25 vs k
set_option maxRecDepth 100000 in
theorem evFn25 (m : Nat) (R : Type) (r10 : Abs.Rows) (i11 : Int) (i12 : Int) (k : V → List V → Option R) : runK Tryd.prog H (T1 m) (L0 m) 25 [V.obj [V.f (F.lst [LT.int IntKind.i64] r10), V.f (F.lit (Value.int IntKind.i64 i11))], V.f (F.lit (Value.int IntKind.i64 i12))] k = Fn25 (m + 1) r10 i11 i12 (fun i21 i22 => k (V.f (F.lit (Value.int IntKind.i64 i21))) [V.obj [V.f (F.lst [LT.int IntKind.i64] r10), V.f (F.lit (Value.int IntKind.i64 i22))], V.undef]) := by kernel_rfl
def T2 (m : Nat) : Tbl := addT 25 (brFn25 m (T1 m)) (T1 m)
theorem okT2 (m : Nat) : TblOk Tryd.prog (T2 m) := addT_ok (okT1 m) fun R vs k x h => by
  unfold brFn25 at h
  split at h
  · cases m with
    | zero => cases h
    | succ m => exact runK_some (okT1 m) hM (okL0 m) ((evFn25 m R _ _ _ k).trans h)
  · exact okT1 m R 25 _ k x h

/-- (*hookflash/flashmake.Stream).Range -/
def Fn72 {R : Type} (m : Nat) : Abs.Rows → Int → Int → Int → (Int → Int → Option R) → Option R := match m with
  | 0 => fun _ _ _ _ _ => none
  | m + 1 => fun r6 i7 i8 i9 k =>
  bif decide (i9 < i8) then (k i8 i7) else
  (Fn25 m r6 i7 (IntKind.wrap IntKind.i64 (IntKind.wrap IntKind.i64 (i9 - i8) + (1 : Int))) (fun i23 i24 => k (IntKind.wrap IntKind.i64 (i8 + i23)) i24))
def brFn72 (m : Nat) (T : Tbl) (R : Type) (vs : List V) (k : V → List V → Option R) : Option R := match vs with
  | [V.obj [V.f (F.lst [LT.int IntKind.i64] r6), V.f (F.lit (Value.int IntKind.i64 i7))], V.f (F.lit (Value.int IntKind.i64 i8)), V.f (F.lit (Value.int IntKind.i64 i9))] => Fn72 m r6 i7 i8 i9 (fun i25 i26 => k (V.f (F.lit (Value.int IntKind.i64 i25))) [V.obj [V.f (F.lst [LT.int IntKind.i64] r6), V.f (F.lit (Value.int IntKind.i64 i26))], V.undef, V.undef])
  | _ => T R 72 vs k
set_option maxRecDepth 100000 in
theorem evFn72 (m : Nat) (R : Type) (r6 : Abs.Rows) (i7 : Int) (i8 : Int) (i9 : Int) (k : V → List V → Option R) : runK Tryd.prog H (T2 m) (L0 m) 72 [V.obj [V.f (F.lst [LT.int IntKind.i64] r6), V.f (F.lit (Value.int IntKind.i64 i7))], V.f (F.lit (Value.int IntKind.i64 i8)), V.f (F.lit (Value.int IntKind.i64 i9))] k = Fn72 (m + 1) r6 i7 i8 i9 (fun i25 i26 => k (V.f (F.lit (Value.int IntKind.i64 i25))) [V.obj [V.f (F.lst [LT.int IntKind.i64] r6), V.f (F.lit (Value.int IntKind.i64 i26))], V.undef, V.undef]) := by kernel_rfl
def T3 (m : Nat) : Tbl := addT 72 (brFn72 m (T2 m)) (T2 m)
theorem okT3 (m : Nat) : TblOk Tryd.prog (T3 m) := addT_ok (okT2 m) fun R vs k x h => by
  unfold brFn72 at h
  split at h
  · cases m with
    | zero => cases h
    | succ m => exact runK_some (okT2 m) hM (okL0 m) ((evFn72 m R _ _ _ _ k).trans h)
  · exact okT2 m R 72 _ k x h

/-- (*hookflash/flashmake.Stream).Some -/
def Fn35 {R : Type} (m : Nat) : Abs.Rows → Int → Abs.Rows → (ByteArray → Int → Option R) → Option R := match m with
  | 0 => fun _ _ _ _ => none
  | m + 1 => fun r34 i35 r36 k =>
  Fn25 m r34 i35 ((↑(List.length r36) : Int)) (fun i37 i38 => bif decide ((0 : Int) ≤ i37 ∧ i37 < (↑(List.length r36) : Int)) then (k (fS r36 (Int.toNat i37) (0 : Nat)) i38) else
  (none))
def brFn35 (m : Nat) (T : Tbl) (R : Type) (vs : List V) (k : V → List V → Option R) : Option R := match vs with
  | [V.obj [V.f (F.lst [LT.int IntKind.i64] r34), V.f (F.lit (Value.int IntKind.i64 i35))], V.bor [LT.str] r36] => Fn35 m r34 i35 r36 (fun s39 i40 => k (V.f (F.lit (Value.string s39))) [V.obj [V.f (F.lst [LT.int IntKind.i64] r34), V.f (F.lit (Value.int IntKind.i64 i40))], V.undef])
  | _ => T R 35 vs k
set_option maxRecDepth 100000 in
theorem evFn35 (m : Nat) (R : Type) (r34 : Abs.Rows) (i35 : Int) (r36 : Abs.Rows) (k : V → List V → Option R) : runK Tryd.prog H (T3 m) (L0 m) 35 [V.obj [V.f (F.lst [LT.int IntKind.i64] r34), V.f (F.lit (Value.int IntKind.i64 i35))], V.bor [LT.str] r36] k = Fn35 (m + 1) r34 i35 r36 (fun s39 i40 => k (V.f (F.lit (Value.string s39))) [V.obj [V.f (F.lst [LT.int IntKind.i64] r34), V.f (F.lit (Value.int IntKind.i64 i40))], V.undef]) := by kernel_rfl
def T4 (m : Nat) : Tbl := addT 35 (brFn35 m (T3 m)) (T3 m)
theorem okT4 (m : Nat) : TblOk Tryd.prog (T4 m) := addT_ok (okT3 m) fun R vs k x h => by
  unfold brFn35 at h
  split at h
  · cases m with
    | zero => cases h
    | succ m => exact runK_some (okT3 m) hM (okL0 m) ((evFn35 m R _ _ _ k).trans h)
  · exact okT3 m R 35 _ k x h

/-- a round of a loop of (*hookflash/flashmake.Stream).RightPattern -/
def Lp33_3_step {R : Type} (m : Nat) (kx0 : ByteArray → Int → Int → Option R) (i30 : Int) (r32 : Abs.Rows) (REC : ByteArray → Int → Int → Option R) (s29 : ByteArray) (i31 : Int) (i33 : Int) : Option R :=
  bif decide (i31 < i30) then (Fn35 m r32 i33 ([[F.lit (Value.string { data := #[(49 : UInt8)] })], [F.lit (Value.string { data := #[(50 : UInt8)] })], [F.lit (Value.string { data := #[(50 : UInt8)] })], [F.lit (Value.string { data := #[(57 : UInt8)] })], [F.lit (Value.string { data := #[(48 : UInt8)] })], [F.lit (Value.string { data := #[(42 : UInt8)] })], [F.lit (Value.string { data := #[(88 : UInt8)] })], [F.lit (Value.string { data := #[(88 : UInt8)] })], [F.lit (Value.string { data := #[(78 : UInt8)] })], [F.lit (Value.string { data := #[(90 : UInt8)] })], [F.lit (Value.string { data := #[(91 : UInt8), (49 : UInt8), (50 : UInt8), (93 : UInt8)] })], [F.lit (Value.string { data := #[(91 : UInt8), (50 : UInt8), (45 : UInt8), (52 : UInt8), (93 : UInt8)] })], [F.lit (Value.string { data := #[(91 : UInt8), (49 : UInt8), (45 : UInt8), (51 : UInt8), (53 : UInt8), (93 : UInt8)] })], [F.lit (Value.string { data := #[(91 : UInt8), (50 : UInt8), (57 : UInt8), (93 : UInt8)] })]]) (fun s41 i42 => bif decide (ByteArray.size s29 + ByteArray.size s41 ≤ strMax) then (REC (s29 ++ s41) (IntKind.wrap IntKind.i64 (i31 + (1 : Int))) i42) else
  (none))) else
  (kx0 s29 i31 i33)
def Lp33_3 {R : Type} (m : Nat) (kx0 : ByteArray → Int → Int → Option R) (i30 : Int) (r32 : Abs.Rows) : Nat → ByteArray → Int → Int → Option R
  | 0, _, _, _ => none
  | n + 1, s29, i31, i33 => Lp33_3_step m kx0 i30 r32 (Lp33_3 m kx0 i30 r32 n) s29 i31 i33
def ELp33_3 (m : Nat) (R : Type) : Nat → List V → (Ex → List V → Option R) → Option R
  | 0, _, _ => none
  | n + 1, vs, k => match vs with
    | [V.ref (19 : Nat) (0 : Nat), V.f (F.lit (Value.string s29)), V.f (F.lit (Value.int IntKind.i64 i30)), V.f (F.lit (Value.int IntKind.i64 i31)), V.obj [V.f (F.lst [LT.int IntKind.i64] r32), V.f (F.lit (Value.int IntKind.i64 i33))]] => Lp33_3_step m (fun s43 i44 i45 => k (Ex.exit (0 : Nat)) [V.ref (19 : Nat) (0 : Nat), V.f (F.lit (Value.string s43)), V.f (F.lit (Value.int IntKind.i64 i30)), V.f (F.lit (Value.int IntKind.i64 i44)), V.obj [V.f (F.lst [LT.int IntKind.i64] r32), V.f (F.lit (Value.int IntKind.i64 i45))]]) i30 r32 (fun s29 i31 i33 => ELp33_3 m R n [V.ref (19 : Nat) (0 : Nat), V.f (F.lit (Value.string s29)), V.f (F.lit (Value.int IntKind.i64 i30)), V.f (F.lit (Value.int IntKind.i64 i31)), V.obj [V.f (F.lst [LT.int IntKind.i64] r32), V.f (F.lit (Value.int IntKind.i64 i33))]] k) s29 i31 i33
    | _ => none
def brLp33_3 (m : Nat) (L : LTbl) (R : Type) (vs : List V) (k : Ex → List V → Option R) : Option R := match vs with
  | [V.ref (19 : Nat) (0 : Nat), V.f (F.lit (Value.string s29)), V.f (F.lit (Value.int IntKind.i64 i30)), V.f (F.lit (Value.int IntKind.i64 i31)), V.obj [V.f (F.lst [LT.int IntKind.i64] r32), V.f (F.lit (Value.int IntKind.i64 i33))]] => Lp33_3 m (fun s43 i44 i45 => k (Ex.exit (0 : Nat)) [V.ref (19 : Nat) (0 : Nat), V.f (F.lit (Value.string s43)), V.f (F.lit (Value.int IntKind.i64 i30)), V.f (F.lit (Value.int IntKind.i64 i44)), V.obj [V.f (F.lst [LT.int IntKind.i64] r32), V.f (F.lit (Value.int IntKind.i64 i45))]]) i30 r32 m s29 i31 i33
  | _ => L R 33 3 vs k
set_option maxRecDepth 100000 in
theorem stLp33_3 (m n : Nat) (R : Type) (s29 : ByteArray) (i30 : Int) (i31 : Int) (r32 : Abs.Rows) (i33 : Int) (k : Ex → List V → Option R) : codeK Tryd.prog H (T4 m) 33 (L0 m) 4 (loopBody Tryd.prog 33 3) (mkEnv [0, 3, 5, 6, 19] [V.ref (19 : Nat) (0 : Nat), V.f (F.lit (Value.string s29)), V.f (F.lit (Value.int IntKind.i64 i30)), V.f (F.lit (Value.int IntKind.i64 i31)), V.obj [V.f (F.lst [LT.int IntKind.i64] r32), V.f (F.lit (Value.int IntKind.i64 i33))]] 0 (H.len 33)) (fun e env' => match e with | .normal => ELp33_3 m R n (vals [0, 3, 5, 6, 19] env') k | e => k e (vals [0, 3, 5, 6, 19] env')) = Lp33_3_step m (fun s43 i44 i45 => k (Ex.exit (0 : Nat)) [V.ref (19 : Nat) (0 : Nat), V.f (F.lit (Value.string s43)), V.f (F.lit (Value.int IntKind.i64 i30)), V.f (F.lit (Value.int IntKind.i64 i44)), V.obj [V.f (F.lst [LT.int IntKind.i64] r32), V.f (F.lit (Value.int IntKind.i64 i45))]]) i30 r32 (fun s29 i31 i33 => ELp33_3 m R n [V.ref (19 : Nat) (0 : Nat), V.f (F.lit (Value.string s29)), V.f (F.lit (Value.int IntKind.i64 i30)), V.f (F.lit (Value.int IntKind.i64 i31)), V.obj [V.f (F.lst [LT.int IntKind.i64] r32), V.f (F.lit (Value.int IntKind.i64 i33))]] k) s29 i31 i33 := by kernel_rfl
theorem eqLp33_3 (m : Nat) (R : Type) (i30 : Int) (r32 : Abs.Rows) (k : Ex → List V → Option R) : ∀ (n : Nat) (s29 : ByteArray) (i31 : Int) (i33 : Int), ELp33_3 m R n [V.ref (19 : Nat) (0 : Nat), V.f (F.lit (Value.string s29)), V.f (F.lit (Value.int IntKind.i64 i30)), V.f (F.lit (Value.int IntKind.i64 i31)), V.obj [V.f (F.lst [LT.int IntKind.i64] r32), V.f (F.lit (Value.int IntKind.i64 i33))]] k = Lp33_3 m (fun s43 i44 i45 => k (Ex.exit (0 : Nat)) [V.ref (19 : Nat) (0 : Nat), V.f (F.lit (Value.string s43)), V.f (F.lit (Value.int IntKind.i64 i30)), V.f (F.lit (Value.int IntKind.i64 i44)), V.obj [V.f (F.lst [LT.int IntKind.i64] r32), V.f (F.lit (Value.int IntKind.i64 i45))]]) i30 r32 n s29 i31 i33
  | 0, _, _, _ => rfl
  | n + 1, s29, i31, i33 => by
    simp only [ELp33_3, Lp33_3]
    congr 1
    funext s29 i31 i33
    exact eqLp33_3 m R i30 r32 k n s29 i31 i33
def L1 (m : Nat) : LTbl := addB 33 3 (brLp33_3 m (L0 m)) (L0 m)
theorem okL1 (m : Nat) : LTOk Tryd.prog H (L1 m) := addB_ok (okT4 m) hM (okL0 m) (l := [0, 3, 5, 6, 19]) (by kernel_rfl) (by kernel_rfl) m (fun R n vs k => ELp33_3 m R n vs k) (fun R vs k => rfl) (fun R n vs k x h => by
      simp only [ELp33_3] at h
      split at h
      · exact (stLp33_3 m n R _ _ _ _ _ k).trans h
      · cases h) fun R vs k x h => by
    unfold brLp33_3 at h
    split at h
    · exact .inl ((eqLp33_3 m R _ _ k m _ _ _).trans h)
    · exact .inr h

/-- (*hookflash/flashmake.Stream).RightPattern -/
def Fn33 {R : Type} (m : Nat) : Abs.Rows → Int → (ByteArray → Int → Option R) → Option R := match m with
  | 0 => fun _ _ _ => none
  | m + 1 => fun r4 i5 k =>
  Fn72 m r4 i5 ((1 : Int)) ((4 : Int)) (fun i27 i28 => Lp33_3 m (fun s46 i47 i48 => Fn35 m r4 i48 ([[F.lit (Value.string { data := #[] })], [F.lit (Value.string { data := #[] })], [F.lit (Value.string { data := #[] })], [F.lit (Value.string { data := #[(46 : UInt8)] })], [F.lit (Value.string { data := #[(33 : UInt8)] })]]) (fun s49 i50 => bif decide (ByteArray.size s46 + ByteArray.size s49 ≤ strMax) then (k (s46 ++ s49) i50) else
  (none))) i27 r4 m ({ data := #[] }) ((0 : Int)) i28)
def brFn33 (m : Nat) (T : Tbl) (R : Type) (vs : List V) (k : V → List V → Option R) : Option R := match vs with
  | [V.obj [V.f (F.lst [LT.int IntKind.i64] r4), V.f (F.lit (Value.int IntKind.i64 i5))]] => Fn33 m r4 i5 (fun s51 i52 => k (V.f (F.lit (Value.string s51))) [V.obj [V.f (F.lst [LT.int IntKind.i64] r4), V.f (F.lit (Value.int IntKind.i64 i52))]])
  | _ => T R 33 vs k
set_option maxRecDepth 100000 in
theorem evFn33 (m : Nat) (R : Type) (r4 : Abs.Rows) (i5 : Int) (k : V → List V → Option R) : runK Tryd.prog H (T4 m) (L1 m) 33 [V.obj [V.f (F.lst [LT.int IntKind.i64] r4), V.f (F.lit (Value.int IntKind.i64 i5))]] k = Fn33 (m + 1) r4 i5 (fun s51 i52 => k (V.f (F.lit (Value.string s51))) [V.obj [V.f (F.lst [LT.int IntKind.i64] r4), V.f (F.lit (Value.int IntKind.i64 i52))]]) := by kernel_rfl
def T5 (m : Nat) : Tbl := addT 33 (brFn33 m (T4 m)) (T4 m)
theorem okT5 (m : Nat) : TblOk Tryd.prog (T5 m) := addT_ok (okT4 m) fun R vs k x h => by
  unfold brFn33 at h
  split at h
  · cases m with
    | zero => cases h
    | succ m => exact runK_some (okT4 m) hM (okL1 m) ((evFn33 m R _ _ k).trans h)
  · exact okT4 m R 33 _ k x h

/-- (*hookflash/flashmake.Stream).Flip -/
def Fn34 {R : Type} (m : Nat) : Abs.Rows → Int → Int → (Bool → Int → Option R) → Option R := match m with
  | 0 => fun _ _ _ _ => none
  | m + 1 => fun r55 i56 i57 k =>
  Fn25 m r55 i56 i57 (fun i58 i59 => k (i58 == (0 : Int)) i59)
def brFn34 (m : Nat) (T : Tbl) (R : Type) (vs : List V) (k : V → List V → Option R) : Option R := match vs with
  | [V.obj [V.f (F.lst [LT.int IntKind.i64] r55), V.f (F.lit (Value.int IntKind.i64 i56))], V.f (F.lit (Value.int IntKind.i64 i57))] => Fn34 m r55 i56 i57 (fun b60 i61 => k (V.f (F.lit (Value.bool b60))) [V.obj [V.f (F.lst [LT.int IntKind.i64] r55), V.f (F.lit (Value.int IntKind.i64 i61))], V.undef])
  | _ => T R 34 vs k
set_option maxRecDepth 100000 in
theorem evFn34 (m : Nat) (R : Type) (r55 : Abs.Rows) (i56 : Int) (i57 : Int) (k : V → List V → Option R) : runK Tryd.prog H (T5 m) (L1 m) 34 [V.obj [V.f (F.lst [LT.int IntKind.i64] r55), V.f (F.lit (Value.int IntKind.i64 i56))], V.f (F.lit (Value.int IntKind.i64 i57))] k = Fn34 (m + 1) r55 i56 i57 (fun b60 i61 => k (V.f (F.lit (Value.bool b60))) [V.obj [V.f (F.lst [LT.int IntKind.i64] r55), V.f (F.lit (Value.int IntKind.i64 i61))], V.undef]) := by kernel_rfl
def T6 (m : Nat) : Tbl := addT 34 (brFn34 m (T5 m)) (T5 m)
theorem okT6 (m : Nat) : TblOk Tryd.prog (T6 m) := addT_ok (okT5 m) fun R vs k x h => by
  unfold brFn34 at h
  split at h
  · cases m with
    | zero => cases h
    | succ m => exact runK_some (okT5 m) hM (okL1 m) ((evFn34 m R _ _ _ k).trans h)
  · exact okT5 m R 34 _ k x h

/-- (*hookflash/flashmake.Stream).Pick -/
def Fn37 {R : Type} (m : Nat) : Abs.Rows → Int → Abs.Rows → (Int → Int → Option R) → Option R := match m with
  | 0 => fun _ _ _ _ => none
  | m + 1 => fun r70 i71 r72 k =>
  Fn25 m r70 i71 ((↑(List.length r72) : Int)) (fun i73 i74 => bif decide ((0 : Int) ≤ i73 ∧ i73 < (↑(List.length r72) : Int)) then (k (fI r72 (Int.toNat i73) (0 : Nat)) i74) else
  (none))
def brFn37 (m : Nat) (T : Tbl) (R : Type) (vs : List V) (k : V → List V → Option R) : Option R := match vs with
  | [V.obj [V.f (F.lst [LT.int IntKind.i64] r70), V.f (F.lit (Value.int IntKind.i64 i71))], V.bor [LT.int IntKind.i64] r72] => Fn37 m r70 i71 r72 (fun i75 i76 => k (V.f (F.lit (Value.int IntKind.i64 i75))) [V.obj [V.f (F.lst [LT.int IntKind.i64] r70), V.f (F.lit (Value.int IntKind.i64 i76))], V.undef])
  | _ => T R 37 vs k
set_option maxRecDepth 100000 in
theorem evFn37 (m : Nat) (R : Type) (r70 : Abs.Rows) (i71 : Int) (r72 : Abs.Rows) (k : V → List V → Option R) : runK Tryd.prog H (T6 m) (L1 m) 37 [V.obj [V.f (F.lst [LT.int IntKind.i64] r70), V.f (F.lit (Value.int IntKind.i64 i71))], V.bor [LT.int IntKind.i64] r72] k = Fn37 (m + 1) r70 i71 r72 (fun i75 i76 => k (V.f (F.lit (Value.int IntKind.i64 i75))) [V.obj [V.f (F.lst [LT.int IntKind.i64] r70), V.f (F.lit (Value.int IntKind.i64 i76))], V.undef]) := by kernel_rfl
def T7 (m : Nat) : Tbl := addT 37 (brFn37 m (T6 m)) (T6 m)
theorem okT7 (m : Nat) : TblOk Tryd.prog (T7 m) := addT_ok (okT6 m) fun R vs k x h => by
  unfold brFn37 at h
  split at h
  · cases m with
    | zero => cases h
    | succ m => exact runK_some (okT6 m) hM (okL1 m) ((evFn37 m R _ _ _ k).trans h)
  · exact okT6 m R 37 _ k x h

/-- a rest of (*hookflash/flashmake.Stream).Changed -/
def Jn38_3 {R : Type} (m : Nat) (kx0 : ByteArray → Int → Option R) (s88 : ByteArray) (s89 : ByteArray) (s90 : ByteArray) (r91 : Abs.Rows) (i92 : Int) : Option R :=
  Fn25 m r91 i92 ((↑(ByteArray.size s88) : Int)) (fun i93 i94 => Fn25 m r91 i94 ((↑(ByteArray.size s89) : Int)) (fun i95 i96 => bif decide ((0 : Int) ≤ i95 ∧ i95 < (↑(ByteArray.size s89) : Int)) then (Fn25 m r91 i96 ((3 : Int)) (fun i97 i98 => bif i97 == (0 : Int) then (bif decide ((0 : Int) ≤ i93 ∧ i93 ≤ (↑(ByteArray.size s88) : Int)) then (bif decide (ByteArray.size (ByteArray.extract s88 (0 : Nat) (Int.toNat i93)) + ByteArray.size (Utf8.encode (IntKind.wrap IntKind.i32 (↑(UInt8.toNat (Array.getD (ByteArray.data s89) (Int.toNat i95) (0 : UInt8))) : Int))) ≤ strMax) then (bif decide ((0 : Int) ≤ IntKind.wrap IntKind.i64 (i93 + (1 : Int)) ∧ IntKind.wrap IntKind.i64 (i93 + (1 : Int)) ≤ (↑(ByteArray.size s88) : Int)) then (bif decide (ByteArray.size (ByteArray.extract s88 (0 : Nat) (Int.toNat i93) ++ Utf8.encode (IntKind.wrap IntKind.i32 (↑(UInt8.toNat (Array.getD (ByteArray.data s89) (Int.toNat i95) (0 : UInt8))) : Int))) + ByteArray.size (ByteArray.extract s88 (Int.toNat (IntKind.wrap IntKind.i64 (i93 + (1 : Int)))) (ByteArray.size s88)) ≤ strMax) then (letV (ByteArray.extract s88 (0 : Nat) (Int.toNat i93) ++ Utf8.encode (IntKind.wrap IntKind.i32 (↑(UInt8.toNat (Array.getD (ByteArray.data s89) (Int.toNat i95) (0 : UInt8))) : Int)) ++ ByteArray.extract s88 (Int.toNat (IntKind.wrap IntKind.i64 (i93 + (1 : Int)))) (ByteArray.size s88)) (fun s99 => kx0 s99 i98)) else
  (none)) else
  (none)) else
  (none)) else
  (none)) else
  (bif i97 == (1 : Int) then (bif decide ((0 : Int) ≤ i93 ∧ i93 ≤ (↑(ByteArray.size s88) : Int)) then (bif decide (ByteArray.size (ByteArray.extract s88 (0 : Nat) (Int.toNat i93)) + ByteArray.size (Utf8.encode (IntKind.wrap IntKind.i32 (↑(UInt8.toNat (Array.getD (ByteArray.data s89) (Int.toNat i95) (0 : UInt8))) : Int))) ≤ strMax) then (bif decide ((0 : Int) ≤ i93 ∧ i93 ≤ (↑(ByteArray.size s88) : Int)) then (bif decide (ByteArray.size (ByteArray.extract s88 (0 : Nat) (Int.toNat i93) ++ Utf8.encode (IntKind.wrap IntKind.i32 (↑(UInt8.toNat (Array.getD (ByteArray.data s89) (Int.toNat i95) (0 : UInt8))) : Int))) + ByteArray.size (ByteArray.extract s88 (Int.toNat i93) (ByteArray.size s88)) ≤ strMax) then (letV (ByteArray.extract s88 (0 : Nat) (Int.toNat i93) ++ Utf8.encode (IntKind.wrap IntKind.i32 (↑(UInt8.toNat (Array.getD (ByteArray.data s89) (Int.toNat i95) (0 : UInt8))) : Int)) ++ ByteArray.extract s88 (Int.toNat i93) (ByteArray.size s88)) (fun s100 => kx0 s100 i98)) else
  (none)) else
  (none)) else
  (none)) else
  (none)) else
  (bif decide ((0 : Int) ≤ i93 ∧ i93 ≤ (↑(ByteArray.size s88) : Int)) then (bif decide ((0 : Int) ≤ IntKind.wrap IntKind.i64 (i93 + (1 : Int)) ∧ IntKind.wrap IntKind.i64 (i93 + (1 : Int)) ≤ (↑(ByteArray.size s88) : Int)) then (bif decide (ByteArray.size (ByteArray.extract s88 (0 : Nat) (Int.toNat i93)) + ByteArray.size (ByteArray.extract s88 (Int.toNat (IntKind.wrap IntKind.i64 (i93 + (1 : Int)))) (ByteArray.size s88)) ≤ strMax) then (kx0 (ByteArray.extract s88 (0 : Nat) (Int.toNat i93) ++ ByteArray.extract s88 (Int.toNat (IntKind.wrap IntKind.i64 (i93 + (1 : Int)))) (ByteArray.size s88)) i98) else
  (none)) else
  (none)) else
  (none))))) else
  (none)))
def brJn38_3 (m : Nat) (L : LTbl) (R : Type) (vs : List V) (k : Ex → List V → Option R) : Option R := match vs with
  | [V.ref (63 : Nat) (0 : Nat), V.f (F.lit (Value.string s88)), V.f (F.lit (Value.string s89)), V.f (F.lit (Value.string s90)), V.obj [V.f (F.lst [LT.int IntKind.i64] r91), V.f (F.lit (Value.int IntKind.i64 i92))], V.undef, V.undef] => Jn38_3 m (fun s101 i102 => k Ex.ret [V.ref (63 : Nat) (0 : Nat), V.f (F.lit (Value.string s88)), V.f (F.lit (Value.string s89)), V.f (F.lit (Value.string s101)), V.obj [V.f (F.lst [LT.int IntKind.i64] r91), V.f (F.lit (Value.int IntKind.i64 i102))], V.undef, V.undef]) s88 s89 s90 r91 i92
  | _ => L R 38 3 vs k
set_option maxRecDepth 100000 in
theorem evJn38_3 (m : Nat) (R : Type) (s88 : ByteArray) (s89 : ByteArray) (s90 : ByteArray) (r91 : Abs.Rows) (i92 : Int) (k : Ex → List V → Option R) : codeK Tryd.prog H (T7 m) 38 (L1 m) 4 (loopBody Tryd.prog 38 3) (mkEnv [0, 1, 2, 6, 63, 64, 65] [V.ref (63 : Nat) (0 : Nat), V.f (F.lit (Value.string s88)), V.f (F.lit (Value.string s89)), V.f (F.lit (Value.string s90)), V.obj [V.f (F.lst [LT.int IntKind.i64] r91), V.f (F.lit (Value.int IntKind.i64 i92))], V.undef, V.undef] 0 (H.len 38)) (fun e env' => k e (vals [0, 1, 2, 6, 63, 64, 65] env')) = Jn38_3 m (fun s101 i102 => k Ex.ret [V.ref (63 : Nat) (0 : Nat), V.f (F.lit (Value.string s88)), V.f (F.lit (Value.string s89)), V.f (F.lit (Value.string s101)), V.obj [V.f (F.lst [LT.int IntKind.i64] r91), V.f (F.lit (Value.int IntKind.i64 i102))], V.undef, V.undef]) s88 s89 s90 r91 i92 := by kernel_rfl
def L2 (m : Nat) : LTbl := addJ 38 3 (brJn38_3 m (L1 m)) (L1 m)
theorem okL2 (m : Nat) : LTOk Tryd.prog H (L2 m) := addJ_ok (okT7 m) hM (okL1 m) (l := [0, 1, 2, 6, 63, 64, 65]) (by kernel_rfl) (by kernel_rfl) fun R vs k x h => by
    unfold brJn38_3 at h
    split at h
    · exact .inl ((evJn38_3 m R _ _ _ _ _ k).trans h)
    · exact .inr h

/-- (*hookflash/flashmake.Stream).Changed -/
def Fn38 {R : Type} (m : Nat) : Abs.Rows → Int → ByteArray → ByteArray → (ByteArray → Int → Option R) → Option R := match m with
  | 0 => fun _ _ _ _ _ => none
  | m + 1 => fun r84 i85 s86 s87 k =>
  bif ByteArray.toList s86 == ByteArray.toList { data := #[] } then (k s87 i85) else
  (bif ByteArray.toList s87 == ByteArray.toList { data := #[] } then (k s87 i85) else
  (Jn38_3 m (fun s103 i104 => k s103 i104) s86 s87 ({ data := #[] }) r84 i85))
def brFn38 (m : Nat) (T : Tbl) (R : Type) (vs : List V) (k : V → List V → Option R) : Option R := match vs with
  | [V.obj [V.f (F.lst [LT.int IntKind.i64] r84), V.f (F.lit (Value.int IntKind.i64 i85))], V.f (F.lit (Value.string s86)), V.f (F.lit (Value.string s87))] => Fn38 m r84 i85 s86 s87 (fun s105 i106 => k (V.f (F.lit (Value.string s105))) [V.obj [V.f (F.lst [LT.int IntKind.i64] r84), V.f (F.lit (Value.int IntKind.i64 i106))], V.undef, V.undef])
  | _ => T R 38 vs k
set_option maxRecDepth 100000 in
theorem evFn38 (m : Nat) (R : Type) (r84 : Abs.Rows) (i85 : Int) (s86 : ByteArray) (s87 : ByteArray) (k : V → List V → Option R) : runK Tryd.prog H (T7 m) (L2 m) 38 [V.obj [V.f (F.lst [LT.int IntKind.i64] r84), V.f (F.lit (Value.int IntKind.i64 i85))], V.f (F.lit (Value.string s86)), V.f (F.lit (Value.string s87))] k = Fn38 (m + 1) r84 i85 s86 s87 (fun s105 i106 => k (V.f (F.lit (Value.string s105))) [V.obj [V.f (F.lst [LT.int IntKind.i64] r84), V.f (F.lit (Value.int IntKind.i64 i106))], V.undef, V.undef]) := by kernel_rfl
def T8 (m : Nat) : Tbl := addT 38 (brFn38 m (T7 m)) (T7 m)
theorem okT8 (m : Nat) : TblOk Tryd.prog (T8 m) := addT_ok (okT7 m) fun R vs k x h => by
  unfold brFn38 at h
  split at h
  · cases m with
    | zero => cases h
    | succ m => exact runK_some (okT7 m) hM (okL2 m) ((evFn38 m R _ _ _ _ k).trans h)
  · exact okT7 m R 38 _ k x h

/-- a round of a loop of (*hookflash/flashmake.Stream).Pattern -/
def Lp6_5_step {R : Type} (m : Nat) (kx0 : ByteArray → Int → Int → Option R) (i80 : Int) (r82 : Abs.Rows) (REC : ByteArray → Int → Int → Option R) (s79 : ByteArray) (i81 : Int) (i83 : Int) : Option R :=
  bif decide (i81 < i80) then (Fn38 m r82 i83 s79 ({ data := #[(49 : UInt8), (50 : UInt8), (88 : UInt8), (46 : UInt8), (33 : UInt8), (91 : UInt8), (93 : UInt8), (45 : UInt8), (78 : UInt8)] }) (fun s107 i108 => REC s107 (IntKind.wrap IntKind.i64 (i81 + (1 : Int))) i108)) else
  (kx0 s79 i81 i83)
def Lp6_5 {R : Type} (m : Nat) (kx0 : ByteArray → Int → Int → Option R) (i80 : Int) (r82 : Abs.Rows) : Nat → ByteArray → Int → Int → Option R
  | 0, _, _, _ => none
  | n + 1, s79, i81, i83 => Lp6_5_step m kx0 i80 r82 (Lp6_5 m kx0 i80 r82 n) s79 i81 i83
def ELp6_5 (m : Nat) (R : Type) : Nat → List V → (Ex → List V → Option R) → Option R
  | 0, _, _ => none
  | n + 1, vs, k => match vs with
    | [V.ref (25 : Nat) (0 : Nat), V.f (F.lit (Value.string s79)), V.f (F.lit (Value.int IntKind.i64 i80)), V.f (F.lit (Value.int IntKind.i64 i81)), V.obj [V.f (F.lst [LT.int IntKind.i64] r82), V.f (F.lit (Value.int IntKind.i64 i83))]] => Lp6_5_step m (fun s109 i110 i111 => k (Ex.exit (0 : Nat)) [V.ref (25 : Nat) (0 : Nat), V.f (F.lit (Value.string s109)), V.f (F.lit (Value.int IntKind.i64 i80)), V.f (F.lit (Value.int IntKind.i64 i110)), V.obj [V.f (F.lst [LT.int IntKind.i64] r82), V.f (F.lit (Value.int IntKind.i64 i111))]]) i80 r82 (fun s79 i81 i83 => ELp6_5 m R n [V.ref (25 : Nat) (0 : Nat), V.f (F.lit (Value.string s79)), V.f (F.lit (Value.int IntKind.i64 i80)), V.f (F.lit (Value.int IntKind.i64 i81)), V.obj [V.f (F.lst [LT.int IntKind.i64] r82), V.f (F.lit (Value.int IntKind.i64 i83))]] k) s79 i81 i83
    | _ => none
def brLp6_5 (m : Nat) (L : LTbl) (R : Type) (vs : List V) (k : Ex → List V → Option R) : Option R := match vs with
  | [V.ref (25 : Nat) (0 : Nat), V.f (F.lit (Value.string s79)), V.f (F.lit (Value.int IntKind.i64 i80)), V.f (F.lit (Value.int IntKind.i64 i81)), V.obj [V.f (F.lst [LT.int IntKind.i64] r82), V.f (F.lit (Value.int IntKind.i64 i83))]] => Lp6_5 m (fun s109 i110 i111 => k (Ex.exit (0 : Nat)) [V.ref (25 : Nat) (0 : Nat), V.f (F.lit (Value.string s109)), V.f (F.lit (Value.int IntKind.i64 i80)), V.f (F.lit (Value.int IntKind.i64 i110)), V.obj [V.f (F.lst [LT.int IntKind.i64] r82), V.f (F.lit (Value.int IntKind.i64 i111))]]) i80 r82 m s79 i81 i83
  | _ => L R 6 5 vs k
set_option maxRecDepth 100000 in
theorem stLp6_5 (m n : Nat) (R : Type) (s79 : ByteArray) (i80 : Int) (i81 : Int) (r82 : Abs.Rows) (i83 : Int) (k : Ex → List V → Option R) : codeK Tryd.prog H (T8 m) 6 (L2 m) 6 (loopBody Tryd.prog 6 5) (mkEnv [0, 3, 17, 18, 25] [V.ref (25 : Nat) (0 : Nat), V.f (F.lit (Value.string s79)), V.f (F.lit (Value.int IntKind.i64 i80)), V.f (F.lit (Value.int IntKind.i64 i81)), V.obj [V.f (F.lst [LT.int IntKind.i64] r82), V.f (F.lit (Value.int IntKind.i64 i83))]] 0 (H.len 6)) (fun e env' => match e with | .normal => ELp6_5 m R n (vals [0, 3, 17, 18, 25] env') k | e => k e (vals [0, 3, 17, 18, 25] env')) = Lp6_5_step m (fun s109 i110 i111 => k (Ex.exit (0 : Nat)) [V.ref (25 : Nat) (0 : Nat), V.f (F.lit (Value.string s109)), V.f (F.lit (Value.int IntKind.i64 i80)), V.f (F.lit (Value.int IntKind.i64 i110)), V.obj [V.f (F.lst [LT.int IntKind.i64] r82), V.f (F.lit (Value.int IntKind.i64 i111))]]) i80 r82 (fun s79 i81 i83 => ELp6_5 m R n [V.ref (25 : Nat) (0 : Nat), V.f (F.lit (Value.string s79)), V.f (F.lit (Value.int IntKind.i64 i80)), V.f (F.lit (Value.int IntKind.i64 i81)), V.obj [V.f (F.lst [LT.int IntKind.i64] r82), V.f (F.lit (Value.int IntKind.i64 i83))]] k) s79 i81 i83 := by kernel_rfl
theorem eqLp6_5 (m : Nat) (R : Type) (i80 : Int) (r82 : Abs.Rows) (k : Ex → List V → Option R) : ∀ (n : Nat) (s79 : ByteArray) (i81 : Int) (i83 : Int), ELp6_5 m R n [V.ref (25 : Nat) (0 : Nat), V.f (F.lit (Value.string s79)), V.f (F.lit (Value.int IntKind.i64 i80)), V.f (F.lit (Value.int IntKind.i64 i81)), V.obj [V.f (F.lst [LT.int IntKind.i64] r82), V.f (F.lit (Value.int IntKind.i64 i83))]] k = Lp6_5 m (fun s109 i110 i111 => k (Ex.exit (0 : Nat)) [V.ref (25 : Nat) (0 : Nat), V.f (F.lit (Value.string s109)), V.f (F.lit (Value.int IntKind.i64 i80)), V.f (F.lit (Value.int IntKind.i64 i110)), V.obj [V.f (F.lst [LT.int IntKind.i64] r82), V.f (F.lit (Value.int IntKind.i64 i111))]]) i80 r82 n s79 i81 i83
  | 0, _, _, _ => rfl
  | n + 1, s79, i81, i83 => by
    simp only [ELp6_5, Lp6_5]
    congr 1
    funext s79 i81 i83
    exact eqLp6_5 m R i80 r82 k n s79 i81 i83
def L3 (m : Nat) : LTbl := addB 6 5 (brLp6_5 m (L2 m)) (L2 m)
theorem okL3 (m : Nat) : LTOk Tryd.prog H (L3 m) := addB_ok (okT8 m) hM (okL2 m) (l := [0, 3, 17, 18, 25]) (by kernel_rfl) (by kernel_rfl) m (fun R n vs k => ELp6_5 m R n vs k) (fun R vs k => rfl) (fun R n vs k x h => by
      simp only [ELp6_5] at h
      split at h
      · exact (stLp6_5 m n R _ _ _ _ _ k).trans h
      · cases h) fun R vs k x h => by
    unfold brLp6_5 at h
    split at h
    · exact .inl ((eqLp6_5 m R _ _ k m _ _ _).trans h)
    · exact .inr h

/-- a rest of (*hookflash/flashmake.Stream).Pattern -/
def Jn6_3 {R : Type} (m : Nat) (kx0 : ByteArray → ByteArray → Int → Option R) (s66 : ByteArray) (s67 : ByteArray) (r68 : Abs.Rows) (i69 : Int) : Option R :=
  Fn37 m r68 i69 ([[F.lit (Value.int IntKind.i64 (0 : Int))], [F.lit (Value.int IntKind.i64 (0 : Int))], [F.lit (Value.int IntKind.i64 (0 : Int))], [F.lit (Value.int IntKind.i64 (0 : Int))], [F.lit (Value.int IntKind.i64 (1 : Int))]]) (fun i77 i78 => Lp6_5 m (fun s112 i113 i114 => kx0 s112 s112 i114) i77 r68 m s67 ((0 : Int)) i78)
def brJn6_3 (m : Nat) (L : LTbl) (R : Type) (vs : List V) (k : Ex → List V → Option R) : Option R := match vs with
  | [V.ref (25 : Nat) (0 : Nat), V.f (F.lit (Value.string s66)), V.f (F.lit (Value.string s67)), V.obj [V.f (F.lst [LT.int IntKind.i64] r68), V.f (F.lit (Value.int IntKind.i64 i69))]] => Jn6_3 m (fun s115 s116 i117 => k Ex.ret [V.ref (25 : Nat) (0 : Nat), V.f (F.lit (Value.string s115)), V.f (F.lit (Value.string s116)), V.obj [V.f (F.lst [LT.int IntKind.i64] r68), V.f (F.lit (Value.int IntKind.i64 i117))]]) s66 s67 r68 i69
  | _ => L R 6 3 vs k
set_option maxRecDepth 100000 in
theorem evJn6_3 (m : Nat) (R : Type) (s66 : ByteArray) (s67 : ByteArray) (r68 : Abs.Rows) (i69 : Int) (k : Ex → List V → Option R) : codeK Tryd.prog H (T8 m) 6 (L3 m) 4 (loopBody Tryd.prog 6 3) (mkEnv [0, 2, 3, 25] [V.ref (25 : Nat) (0 : Nat), V.f (F.lit (Value.string s66)), V.f (F.lit (Value.string s67)), V.obj [V.f (F.lst [LT.int IntKind.i64] r68), V.f (F.lit (Value.int IntKind.i64 i69))]] 0 (H.len 6)) (fun e env' => k e (vals [0, 2, 3, 25] env')) = Jn6_3 m (fun s115 s116 i117 => k Ex.ret [V.ref (25 : Nat) (0 : Nat), V.f (F.lit (Value.string s115)), V.f (F.lit (Value.string s116)), V.obj [V.f (F.lst [LT.int IntKind.i64] r68), V.f (F.lit (Value.int IntKind.i64 i117))]]) s66 s67 r68 i69 := by kernel_rfl
def L4 (m : Nat) : LTbl := addJ 6 3 (brJn6_3 m (L3 m)) (L3 m)
theorem okL4 (m : Nat) : LTOk Tryd.prog H (L4 m) := addJ_ok (okT8 m) hM (okL3 m) (l := [0, 2, 3, 25]) (by kernel_rfl) (by kernel_rfl) fun R vs k x h => by
    unfold brJn6_3 at h
    split at h
    · exact .inl ((evJn6_3 m R _ _ _ _ k).trans h)
    · exact .inr h

/-- (*hookflash/flashmake.Stream).Pattern -/
def Fn6 {R : Type} (m : Nat) : Abs.Rows → Int → (ByteArray → Int → Option R) → Option R := match m with
  | 0 => fun _ _ _ => none
  | m + 1 => fun r2 i3 k =>
  Fn33 m r2 i3 (fun s53 i54 => Fn34 m r2 i54 ((8 : Int)) (fun b62 i63 => bif b62 then (bif repOk { data := #[(49 : UInt8)] } (31 : Int) then (bif repOk { data := #[(88 : UInt8)] } (29 : Int) then (bif repOk { data := #[(91 : UInt8), (49 : UInt8), (50 : UInt8), (93 : UInt8)] } (16 : Int) then (Fn35 m r2 i63 ([[F.lit (Value.string { data := #[] })], [F.lit (Value.string { data := #[(46 : UInt8)] })], [F.lit (Value.string { data := #[(33 : UInt8)] })], [F.lit (Value.string { data := #[(91 : UInt8), (49 : UInt8), (50 : UInt8), (51 : UInt8), (93 : UInt8)] })], [F.lit (Value.string { data := #[(91 : UInt8), (50 : UInt8), (45 : UInt8), (57 : UInt8), (93 : UInt8)] })], [F.lit (Value.string { data := #[(91 : UInt8), (49 : UInt8), (93 : UInt8)] })], [F.lit (Value.string { data := #[(91 : UInt8), (93 : UInt8)] })], [F.lit (Value.string { data := #[(91 : UInt8), (50 : UInt8), (49 : UInt8), (93 : UInt8)] })], [F.lit (Value.string { data := #[(49 : UInt8), (46 : UInt8), (50 : UInt8)] })], [F.lit (Value.string { data := #[(91 : UInt8), (49 : UInt8), (45 : UInt8), (50 : UInt8), (93 : UInt8)] })], [F.lit (Value.string { data := #[(88 : UInt8), (33 : UInt8), (33 : UInt8)] })], [F.lit (Value.string { data := #[(65 : UInt8)] })], [F.lit (Value.string { data := #[(91 : UInt8), (48 : UInt8), (45 : UInt8), (57 : UInt8), (93 : UInt8)] })], [F.lit (Value.string { data := #[(91 : UInt8), (49 : UInt8), (51 : UInt8)] })], [F.lit (Value.string { data := #[(93 : UInt8)] })], [F.lit (Value.string (repB { data := #[(49 : UInt8)] } (31 : Int)))], [F.lit (Value.string (repB { data := #[(88 : UInt8)] } (29 : Int) ++ { data := #[(33 : UInt8)] }))], [F.lit (Value.string (repB { data := #[(91 : UInt8), (49 : UInt8), (50 : UInt8), (93 : UInt8)] } (16 : Int)))]]) (fun s64 i65 => Jn6_3 m (fun s118 s119 i120 => k s118 i120) ({ data := #[] }) s64 r2 i65)) else
  (none)) else
  (none)) else
  (none)) else
  (Jn6_3 m (fun s121 s122 i123 => k s121 i123) ({ data := #[] }) s53 r2 i63)))
def brFn6 (m : Nat) (T : Tbl) (R : Type) (vs : List V) (k : V → List V → Option R) : Option R := match vs with
  | [V.obj [V.f (F.lst [LT.int IntKind.i64] r2), V.f (F.lit (Value.int IntKind.i64 i3))]] => Fn6 m r2 i3 (fun s124 i125 => k (V.f (F.lit (Value.string s124))) [V.obj [V.f (F.lst [LT.int IntKind.i64] r2), V.f (F.lit (Value.int IntKind.i64 i125))]])
  | _ => T R 6 vs k
set_option maxRecDepth 100000 in
theorem evFn6 (m : Nat) (R : Type) (r2 : Abs.Rows) (i3 : Int) (k : V → List V → Option R) : runK Tryd.prog H (T8 m) (L4 m) 6 [V.obj [V.f (F.lst [LT.int IntKind.i64] r2), V.f (F.lit (Value.int IntKind.i64 i3))]] k = Fn6 (m + 1) r2 i3 (fun s124 i125 => k (V.f (F.lit (Value.string s124))) [V.obj [V.f (F.lst [LT.int IntKind.i64] r2), V.f (F.lit (Value.int IntKind.i64 i125))]]) := by kernel_rfl
def T9 (m : Nat) : Tbl := addT 6 (brFn6 m (T8 m)) (T8 m)
theorem okT9 (m : Nat) : TblOk Tryd.prog (T9 m) := addT_ok (okT8 m) fun R vs k x h => by
  unfold brFn6 at h
  split at h
  · cases m with
    | zero => cases h
    | succ m => exact runK_some (okT8 m) hM (okL4 m) ((evFn6 m R _ _ k).trans h)
  · exact okT8 m R 6 _ k x h

/-- a round of a loop of (*hookflash/flashmake.Stream).RightDialled -/
def Lp44_3_step {R : Type} (m : Nat) (kx0 : ByteArray → Int → Int → Option R) (i141 : Int) (r143 : Abs.Rows) (REC : ByteArray → Int → Int → Option R) (s140 : ByteArray) (i142 : Int) (i144 : Int) : Option R :=
  bif decide (i142 < i141) then (Fn35 m r143 i144 ([[F.lit (Value.string { data := #[(49 : UInt8)] })], [F.lit (Value.string { data := #[(50 : UInt8)] })], [F.lit (Value.string { data := #[(50 : UInt8)] })], [F.lit (Value.string { data := #[(51 : UInt8)] })], [F.lit (Value.string { data := #[(57 : UInt8)] })], [F.lit (Value.string { data := #[(48 : UInt8)] })], [F.lit (Value.string { data := #[(42 : UInt8)] })], [F.lit (Value.string { data := #[(35 : UInt8)] })]]) (fun s145 i146 => bif decide (ByteArray.size s140 + ByteArray.size s145 ≤ strMax) then (REC (s140 ++ s145) (IntKind.wrap IntKind.i64 (i142 + (1 : Int))) i146) else
  (none))) else
  (kx0 s140 i142 i144)
def Lp44_3 {R : Type} (m : Nat) (kx0 : ByteArray → Int → Int → Option R) (i141 : Int) (r143 : Abs.Rows) : Nat → ByteArray → Int → Int → Option R
  | 0, _, _, _ => none
  | n + 1, s140, i142, i144 => Lp44_3_step m kx0 i141 r143 (Lp44_3 m kx0 i141 r143 n) s140 i142 i144
def ELp44_3 (m : Nat) (R : Type) : Nat → List V → (Ex → List V → Option R) → Option R
  | 0, _, _ => none
  | n + 1, vs, k => match vs with
    | [V.ref (15 : Nat) (0 : Nat), V.f (F.lit (Value.string s140)), V.f (F.lit (Value.int IntKind.i64 i141)), V.f (F.lit (Value.int IntKind.i64 i142)), V.obj [V.f (F.lst [LT.int IntKind.i64] r143), V.f (F.lit (Value.int IntKind.i64 i144))]] => Lp44_3_step m (fun s147 i148 i149 => k (Ex.exit (0 : Nat)) [V.ref (15 : Nat) (0 : Nat), V.f (F.lit (Value.string s147)), V.f (F.lit (Value.int IntKind.i64 i141)), V.f (F.lit (Value.int IntKind.i64 i148)), V.obj [V.f (F.lst [LT.int IntKind.i64] r143), V.f (F.lit (Value.int IntKind.i64 i149))]]) i141 r143 (fun s140 i142 i144 => ELp44_3 m R n [V.ref (15 : Nat) (0 : Nat), V.f (F.lit (Value.string s140)), V.f (F.lit (Value.int IntKind.i64 i141)), V.f (F.lit (Value.int IntKind.i64 i142)), V.obj [V.f (F.lst [LT.int IntKind.i64] r143), V.f (F.lit (Value.int IntKind.i64 i144))]] k) s140 i142 i144
    | _ => none
def brLp44_3 (m : Nat) (L : LTbl) (R : Type) (vs : List V) (k : Ex → List V → Option R) : Option R := match vs with
  | [V.ref (15 : Nat) (0 : Nat), V.f (F.lit (Value.string s140)), V.f (F.lit (Value.int IntKind.i64 i141)), V.f (F.lit (Value.int IntKind.i64 i142)), V.obj [V.f (F.lst [LT.int IntKind.i64] r143), V.f (F.lit (Value.int IntKind.i64 i144))]] => Lp44_3 m (fun s147 i148 i149 => k (Ex.exit (0 : Nat)) [V.ref (15 : Nat) (0 : Nat), V.f (F.lit (Value.string s147)), V.f (F.lit (Value.int IntKind.i64 i141)), V.f (F.lit (Value.int IntKind.i64 i148)), V.obj [V.f (F.lst [LT.int IntKind.i64] r143), V.f (F.lit (Value.int IntKind.i64 i149))]]) i141 r143 m s140 i142 i144
  | _ => L R 44 3 vs k
set_option maxRecDepth 100000 in
theorem stLp44_3 (m n : Nat) (R : Type) (s140 : ByteArray) (i141 : Int) (i142 : Int) (r143 : Abs.Rows) (i144 : Int) (k : Ex → List V → Option R) : codeK Tryd.prog H (T9 m) 44 (L4 m) 4 (loopBody Tryd.prog 44 3) (mkEnv [0, 3, 5, 6, 15] [V.ref (15 : Nat) (0 : Nat), V.f (F.lit (Value.string s140)), V.f (F.lit (Value.int IntKind.i64 i141)), V.f (F.lit (Value.int IntKind.i64 i142)), V.obj [V.f (F.lst [LT.int IntKind.i64] r143), V.f (F.lit (Value.int IntKind.i64 i144))]] 0 (H.len 44)) (fun e env' => match e with | .normal => ELp44_3 m R n (vals [0, 3, 5, 6, 15] env') k | e => k e (vals [0, 3, 5, 6, 15] env')) = Lp44_3_step m (fun s147 i148 i149 => k (Ex.exit (0 : Nat)) [V.ref (15 : Nat) (0 : Nat), V.f (F.lit (Value.string s147)), V.f (F.lit (Value.int IntKind.i64 i141)), V.f (F.lit (Value.int IntKind.i64 i148)), V.obj [V.f (F.lst [LT.int IntKind.i64] r143), V.f (F.lit (Value.int IntKind.i64 i149))]]) i141 r143 (fun s140 i142 i144 => ELp44_3 m R n [V.ref (15 : Nat) (0 : Nat), V.f (F.lit (Value.string s140)), V.f (F.lit (Value.int IntKind.i64 i141)), V.f (F.lit (Value.int IntKind.i64 i142)), V.obj [V.f (F.lst [LT.int IntKind.i64] r143), V.f (F.lit (Value.int IntKind.i64 i144))]] k) s140 i142 i144 := by kernel_rfl
theorem eqLp44_3 (m : Nat) (R : Type) (i141 : Int) (r143 : Abs.Rows) (k : Ex → List V → Option R) : ∀ (n : Nat) (s140 : ByteArray) (i142 : Int) (i144 : Int), ELp44_3 m R n [V.ref (15 : Nat) (0 : Nat), V.f (F.lit (Value.string s140)), V.f (F.lit (Value.int IntKind.i64 i141)), V.f (F.lit (Value.int IntKind.i64 i142)), V.obj [V.f (F.lst [LT.int IntKind.i64] r143), V.f (F.lit (Value.int IntKind.i64 i144))]] k = Lp44_3 m (fun s147 i148 i149 => k (Ex.exit (0 : Nat)) [V.ref (15 : Nat) (0 : Nat), V.f (F.lit (Value.string s147)), V.f (F.lit (Value.int IntKind.i64 i141)), V.f (F.lit (Value.int IntKind.i64 i148)), V.obj [V.f (F.lst [LT.int IntKind.i64] r143), V.f (F.lit (Value.int IntKind.i64 i149))]]) i141 r143 n s140 i142 i144
  | 0, _, _, _ => rfl
  | n + 1, s140, i142, i144 => by
    simp only [ELp44_3, Lp44_3]
    congr 1
    funext s140 i142 i144
    exact eqLp44_3 m R i141 r143 k n s140 i142 i144
def L5 (m : Nat) : LTbl := addB 44 3 (brLp44_3 m (L4 m)) (L4 m)
theorem okL5 (m : Nat) : LTOk Tryd.prog H (L5 m) := addB_ok (okT9 m) hM (okL4 m) (l := [0, 3, 5, 6, 15]) (by kernel_rfl) (by kernel_rfl) m (fun R n vs k => ELp44_3 m R n vs k) (fun R vs k => rfl) (fun R n vs k x h => by
      simp only [ELp44_3] at h
      split at h
      · exact (stLp44_3 m n R _ _ _ _ _ k).trans h
      · cases h) fun R vs k x h => by
    unfold brLp44_3 at h
    split at h
    · exact .inl ((eqLp44_3 m R _ _ k m _ _ _).trans h)
    · exact .inr h

/-- (*hookflash/flashmake.Stream).RightDialled -/
def Fn44 {R : Type} (m : Nat) : Abs.Rows → Int → (ByteArray → Int → Option R) → Option R := match m with
  | 0 => fun _ _ _ => none
  | m + 1 => fun r136 i137 k =>
  Fn72 m r136 i137 ((1 : Int)) ((6 : Int)) (fun i138 i139 => Lp44_3 m (fun s150 i151 i152 => k s150 i152) i138 r136 m ({ data := #[] }) ((0 : Int)) i139)
def brFn44 (m : Nat) (T : Tbl) (R : Type) (vs : List V) (k : V → List V → Option R) : Option R := match vs with
  | [V.obj [V.f (F.lst [LT.int IntKind.i64] r136), V.f (F.lit (Value.int IntKind.i64 i137))]] => Fn44 m r136 i137 (fun s153 i154 => k (V.f (F.lit (Value.string s153))) [V.obj [V.f (F.lst [LT.int IntKind.i64] r136), V.f (F.lit (Value.int IntKind.i64 i154))]])
  | _ => T R 44 vs k
set_option maxRecDepth 100000 in
theorem evFn44 (m : Nat) (R : Type) (r136 : Abs.Rows) (i137 : Int) (k : V → List V → Option R) : runK Tryd.prog H (T9 m) (L5 m) 44 [V.obj [V.f (F.lst [LT.int IntKind.i64] r136), V.f (F.lit (Value.int IntKind.i64 i137))]] k = Fn44 (m + 1) r136 i137 (fun s153 i154 => k (V.f (F.lit (Value.string s153))) [V.obj [V.f (F.lst [LT.int IntKind.i64] r136), V.f (F.lit (Value.int IntKind.i64 i154))]]) := by kernel_rfl
def T10 (m : Nat) : Tbl := addT 44 (brFn44 m (T9 m)) (T9 m)
theorem okT10 (m : Nat) : TblOk Tryd.prog (T10 m) := addT_ok (okT9 m) fun R vs k x h => by
  unfold brFn44 at h
  split at h
  · cases m with
    | zero => cases h
    | succ m => exact runK_some (okT9 m) hM (okL5 m) ((evFn44 m R _ _ k).trans h)
  · exact okT9 m R 44 _ k x h

/-- (*hookflash/flashmake.Stream).Dialled -/
def Fn13 {R : Type} (m : Nat) : Abs.Rows → Int → (ByteArray → Int → Option R) → Option R := match m with
  | 0 => fun _ _ _ => none
  | m + 1 => fun r130 i131 k =>
  Fn34 m r130 i131 ((25 : Int)) (fun b132 i133 => bif b132 then (bif repOk { data := #[(49 : UInt8)] } (30 : Int) then (bif repOk { data := #[(49 : UInt8)] } (31 : Int) then (Fn35 m r130 i133 ([[F.lit (Value.string { data := #[] })], [F.lit (Value.string { data := #[(49 : UInt8), (50 : UInt8), (97 : UInt8)] })], [F.lit (Value.string { data := #[(49 : UInt8), (32 : UInt8), (50 : UInt8)] })], [F.lit (Value.string (repB { data := #[(49 : UInt8)] } (30 : Int)))], [F.lit (Value.string (repB { data := #[(49 : UInt8)] } (31 : Int)))], [F.lit (Value.string { data := #[(43 : UInt8), (49 : UInt8)] })]]) (fun s134 i135 => k s134 i135)) else
  (none)) else
  (none)) else
  (Fn44 m r130 i133 (fun s155 i156 => k s155 i156)))
def brFn13 (m : Nat) (T : Tbl) (R : Type) (vs : List V) (k : V → List V → Option R) : Option R := match vs with
  | [V.obj [V.f (F.lst [LT.int IntKind.i64] r130), V.f (F.lit (Value.int IntKind.i64 i131))]] => Fn13 m r130 i131 (fun s157 i158 => k (V.f (F.lit (Value.string s157))) [V.obj [V.f (F.lst [LT.int IntKind.i64] r130), V.f (F.lit (Value.int IntKind.i64 i158))]])
  | _ => T R 13 vs k
set_option maxRecDepth 100000 in
theorem evFn13 (m : Nat) (R : Type) (r130 : Abs.Rows) (i131 : Int) (k : V → List V → Option R) : runK Tryd.prog H (T10 m) (L5 m) 13 [V.obj [V.f (F.lst [LT.int IntKind.i64] r130), V.f (F.lit (Value.int IntKind.i64 i131))]] k = Fn13 (m + 1) r130 i131 (fun s157 i158 => k (V.f (F.lit (Value.string s157))) [V.obj [V.f (F.lst [LT.int IntKind.i64] r130), V.f (F.lit (Value.int IntKind.i64 i158))]]) := by kernel_rfl
def T11 (m : Nat) : Tbl := addT 13 (brFn13 m (T10 m)) (T10 m)
theorem okT11 (m : Nat) : TblOk Tryd.prog (T11 m) := addT_ok (okT10 m) fun R vs k x h => by
  unfold brFn13 at h
  split at h
  · cases m with
    | zero => cases h
    | succ m => exact runK_some (okT10 m) hM (okL5 m) ((evFn13 m R _ _ k).trans h)
  · exact okT10 m R 13 _ k x h

/-- internal/stringslite.IndexByte -/
def Fn83 {R : Type} (m : Nat) : ByteArray → Int → (Int → Option R) → Option R := match m with
  | 0 => fun _ _ _ => none
  | m + 1 => fun s185 i186 k =>
  k (idxByte s185 i186)
def brFn83 (m : Nat) (T : Tbl) (R : Type) (vs : List V) (k : V → List V → Option R) : Option R := match vs with
  | [V.f (F.lit (Value.string s185)), V.f (F.lit (Value.int IntKind.u8 i186))] => Fn83 m s185 i186 (fun i187 => k (V.f (F.lit (Value.int IntKind.i64 i187))) [V.undef, V.undef])
  | _ => T R 83 vs k
set_option maxRecDepth 100000 in
theorem evFn83 (m : Nat) (R : Type) (s185 : ByteArray) (i186 : Int) (k : V → List V → Option R) : runK Tryd.prog H (T11 m) (L5 m) 83 [V.f (F.lit (Value.string s185)), V.f (F.lit (Value.int IntKind.u8 i186))] k = Fn83 (m + 1) s185 i186 (fun i187 => k (V.f (F.lit (Value.int IntKind.i64 i187))) [V.undef, V.undef]) := by kernel_rfl
def T12 (m : Nat) : Tbl := addT 83 (brFn83 m (T11 m)) (T11 m)
theorem okT12 (m : Nat) : TblOk Tryd.prog (T12 m) := addT_ok (okT11 m) fun R vs k x h => by
  unfold brFn83 at h
  split at h
  · cases m with
    | zero => cases h
    | succ m => exact runK_some (okT11 m) hM (okL5 m) ((evFn83 m R _ _ k).trans h)
  · exact okT11 m R 83 _ k x h

/-- strings.IndexByte -/
def Fn42 {R : Type} (m : Nat) : ByteArray → Int → (Int → Option R) → Option R := match m with
  | 0 => fun _ _ _ => none
  | m + 1 => fun s183 i184 k =>
  Fn83 m s183 i184 (fun i188 => k i188)
def brFn42 (m : Nat) (T : Tbl) (R : Type) (vs : List V) (k : V → List V → Option R) : Option R := match vs with
  | [V.f (F.lit (Value.string s183)), V.f (F.lit (Value.int IntKind.u8 i184))] => Fn42 m s183 i184 (fun i189 => k (V.f (F.lit (Value.int IntKind.i64 i189))) [V.undef, V.undef])
  | _ => T R 42 vs k
set_option maxRecDepth 100000 in
theorem evFn42 (m : Nat) (R : Type) (s183 : ByteArray) (i184 : Int) (k : V → List V → Option R) : runK Tryd.prog H (T12 m) (L5 m) 42 [V.f (F.lit (Value.string s183)), V.f (F.lit (Value.int IntKind.u8 i184))] k = Fn42 (m + 1) s183 i184 (fun i189 => k (V.f (F.lit (Value.int IntKind.i64 i189))) [V.undef, V.undef]) := by kernel_rfl
def T13 (m : Nat) : Tbl := addT 42 (brFn42 m (T12 m)) (T12 m)
theorem okT13 (m : Nat) : TblOk Tryd.prog (T13 m) := addT_ok (okT12 m) fun R vs k x h => by
  unfold brFn42 at h
  split at h
  · cases m with
    | zero => cases h
    | succ m => exact runK_some (okT12 m) hM (okL5 m) ((evFn42 m R _ _ k).trans h)
  · exact okT12 m R 42 _ k x h

/-- hookflash/dialplan.only -/
def Fn85 {R : Type} (m : Nat) : Int → (Int → Option R) → Option R := match m with
  | 0 => fun _ _ => none
  | m + 1 => fun i182 k =>
  Fn42 m ({ data := #[(35 : UInt8), (42 : UInt8), (48 : UInt8), (49 : UInt8), (50 : UInt8), (51 : UInt8), (52 : UInt8), (53 : UInt8), (54 : UInt8), (55 : UInt8), (56 : UInt8), (57 : UInt8)] }) i182 (fun i190 => bif decide ((0 : Int) ≤ i190) then (k (IntKind.wrap IntKind.u16 ((1 : Int) * (2 : Int) ^ min (Int.toNat i190) (16 : Nat)))) else
  (none))
def brFn85 (m : Nat) (T : Tbl) (R : Type) (vs : List V) (k : V → List V → Option R) : Option R := match vs with
  | [V.f (F.lit (Value.int IntKind.u8 i182))] => Fn85 m i182 (fun i191 => k (V.f (F.lit (Value.int IntKind.u16 i191))) [V.undef])
  | _ => T R 85 vs k
set_option maxRecDepth 100000 in
theorem evFn85 (m : Nat) (R : Type) (i182 : Int) (k : V → List V → Option R) : runK Tryd.prog H (T13 m) (L5 m) 85 [V.f (F.lit (Value.int IntKind.u8 i182))] k = Fn85 (m + 1) i182 (fun i191 => k (V.f (F.lit (Value.int IntKind.u16 i191))) [V.undef]) := by kernel_rfl
def T14 (m : Nat) : Tbl := addT 85 (brFn85 m (T13 m)) (T13 m)
theorem okT14 (m : Nat) : TblOk Tryd.prog (T14 m) := addT_ok (okT13 m) fun R vs k x h => by
  unfold brFn85 at h
  split at h
  · cases m with
    | zero => cases h
    | succ m => exact runK_some (okT13 m) hM (okL5 m) ((evFn85 m R _ k).trans h)
  · exact okT13 m R 85 _ k x h

/-- a round of a loop of hookflash/dialplan.from -/
def Lp100_3_step {R : Type} (m : Nat) (kx0 : Int → Int → Option R) (i179 : Int) (REC : Int → Int → Option R) (i180 : Int) (i181 : Int) : Option R :=
  bif decide (i181 ≤ i179) then (Fn85 m i181 (fun i192 => REC (bitsOp IntKind.u16 (BitVec.ofInt (16 : Nat) i180 ||| BitVec.ofInt (16 : Nat) i192)) (IntKind.wrap IntKind.u8 (i181 + (1 : Int))))) else
  (kx0 i180 i181)
def Lp100_3 {R : Type} (m : Nat) (kx0 : Int → Int → Option R) (i179 : Int) : Nat → Int → Int → Option R
  | 0, _, _ => none
  | n + 1, i180, i181 => Lp100_3_step m kx0 i179 (Lp100_3 m kx0 i179 n) i180 i181
def ELp100_3 (m : Nat) (R : Type) : Nat → List V → (Ex → List V → Option R) → Option R
  | 0, _, _ => none
  | n + 1, vs, k => match vs with
    | [V.f (F.lit (Value.int IntKind.u8 i179)), V.f (F.lit (Value.int IntKind.u16 i180)), V.f (F.lit (Value.int IntKind.u8 i181)), V.undef, V.undef] => Lp100_3_step m (fun i193 i194 => k (Ex.exit (0 : Nat)) [V.f (F.lit (Value.int IntKind.u8 i179)), V.f (F.lit (Value.int IntKind.u16 i193)), V.f (F.lit (Value.int IntKind.u8 i194)), V.undef, V.undef]) i179 (fun i180 i181 => ELp100_3 m R n [V.f (F.lit (Value.int IntKind.u8 i179)), V.f (F.lit (Value.int IntKind.u16 i180)), V.f (F.lit (Value.int IntKind.u8 i181)), V.undef, V.undef] k) i180 i181
    | _ => none
def brLp100_3 (m : Nat) (L : LTbl) (R : Type) (vs : List V) (k : Ex → List V → Option R) : Option R := match vs with
  | [V.f (F.lit (Value.int IntKind.u8 i179)), V.f (F.lit (Value.int IntKind.u16 i180)), V.f (F.lit (Value.int IntKind.u8 i181)), V.undef, V.undef] => Lp100_3 m (fun i193 i194 => k (Ex.exit (0 : Nat)) [V.f (F.lit (Value.int IntKind.u8 i179)), V.f (F.lit (Value.int IntKind.u16 i193)), V.f (F.lit (Value.int IntKind.u8 i194)), V.undef, V.undef]) i179 m i180 i181
  | _ => L R 100 3 vs k
set_option maxRecDepth 100000 in
theorem stLp100_3 (m n : Nat) (R : Type) (i179 : Int) (i180 : Int) (i181 : Int) (k : Ex → List V → Option R) : codeK Tryd.prog H (T14 m) 100 (L5 m) 4 (loopBody Tryd.prog 100 3) (mkEnv [1, 5, 6, 18, 19] [V.f (F.lit (Value.int IntKind.u8 i179)), V.f (F.lit (Value.int IntKind.u16 i180)), V.f (F.lit (Value.int IntKind.u8 i181)), V.undef, V.undef] 0 (H.len 100)) (fun e env' => match e with | .normal => ELp100_3 m R n (vals [1, 5, 6, 18, 19] env') k | e => k e (vals [1, 5, 6, 18, 19] env')) = Lp100_3_step m (fun i193 i194 => k (Ex.exit (0 : Nat)) [V.f (F.lit (Value.int IntKind.u8 i179)), V.f (F.lit (Value.int IntKind.u16 i193)), V.f (F.lit (Value.int IntKind.u8 i194)), V.undef, V.undef]) i179 (fun i180 i181 => ELp100_3 m R n [V.f (F.lit (Value.int IntKind.u8 i179)), V.f (F.lit (Value.int IntKind.u16 i180)), V.f (F.lit (Value.int IntKind.u8 i181)), V.undef, V.undef] k) i180 i181 := by kernel_rfl
theorem eqLp100_3 (m : Nat) (R : Type) (i179 : Int) (k : Ex → List V → Option R) : ∀ (n : Nat) (i180 : Int) (i181 : Int), ELp100_3 m R n [V.f (F.lit (Value.int IntKind.u8 i179)), V.f (F.lit (Value.int IntKind.u16 i180)), V.f (F.lit (Value.int IntKind.u8 i181)), V.undef, V.undef] k = Lp100_3 m (fun i193 i194 => k (Ex.exit (0 : Nat)) [V.f (F.lit (Value.int IntKind.u8 i179)), V.f (F.lit (Value.int IntKind.u16 i193)), V.f (F.lit (Value.int IntKind.u8 i194)), V.undef, V.undef]) i179 n i180 i181
  | 0, _, _ => rfl
  | n + 1, i180, i181 => by
    simp only [ELp100_3, Lp100_3]
    congr 1
    funext i180 i181
    exact eqLp100_3 m R i179 k n i180 i181
def L6 (m : Nat) : LTbl := addB 100 3 (brLp100_3 m (L5 m)) (L5 m)
theorem okL6 (m : Nat) : LTOk Tryd.prog H (L6 m) := addB_ok (okT14 m) hM (okL5 m) (l := [1, 5, 6, 18, 19]) (by kernel_rfl) (by kernel_rfl) m (fun R n vs k => ELp100_3 m R n vs k) (fun R vs k => rfl) (fun R n vs k x h => by
      simp only [ELp100_3] at h
      split at h
      · exact (stLp100_3 m n R _ _ _ k).trans h
      · cases h) fun R vs k x h => by
    unfold brLp100_3 at h
    split at h
    · exact .inl ((eqLp100_3 m R _ k m _ _).trans h)
    · exact .inr h

/-- hookflash/dialplan.from -/
def Fn100 {R : Type} (m : Nat) : Int → Int → (Int → Option R) → Option R := match m with
  | 0 => fun _ _ _ => none
  | m + 1 => fun i177 i178 k =>
  Lp100_3 m (fun i195 i196 => k i195) i178 m ((0 : Int)) i177
def brFn100 (m : Nat) (T : Tbl) (R : Type) (vs : List V) (k : V → List V → Option R) : Option R := match vs with
  | [V.f (F.lit (Value.int IntKind.u8 i177)), V.f (F.lit (Value.int IntKind.u8 i178))] => Fn100 m i177 i178 (fun i197 => k (V.f (F.lit (Value.int IntKind.u16 i197))) [V.undef, V.undef])
  | _ => T R 100 vs k
set_option maxRecDepth 100000 in
theorem evFn100 (m : Nat) (R : Type) (i177 : Int) (i178 : Int) (k : V → List V → Option R) : runK Tryd.prog H (T14 m) (L6 m) 100 [V.f (F.lit (Value.int IntKind.u8 i177)), V.f (F.lit (Value.int IntKind.u8 i178))] k = Fn100 (m + 1) i177 i178 (fun i197 => k (V.f (F.lit (Value.int IntKind.u16 i197))) [V.undef, V.undef]) := by kernel_rfl
def T15 (m : Nat) : Tbl := addT 100 (brFn100 m (T14 m)) (T14 m)
theorem okT15 (m : Nat) : TblOk Tryd.prog (T15 m) := addT_ok (okT14 m) fun R vs k x h => by
  unfold brFn100 at h
  split at h
  · cases m with
    | zero => cases h
    | succ m => exact runK_some (okT14 m) hM (okL6 m) ((evFn100 m R _ _ k).trans h)
  · exact okT14 m R 100 _ k x h

/-- a rest of hookflash/dialplan.readSet -/
def Jn101_15 {R : Type} (m : Nat) (kx0 : Int → Int → Bool → Option R) (s216 : ByteArray) (i217 : Int) (i218 : Int) (i219 : Int) (i220 : Int) (i221 : Int) (i222 : Int) (i223 : Int) (b224 : Bool) : Option R :=
  bif b224 then (bif decide ((0 : Int) ≤ IntKind.wrap IntKind.i64 (i221 + (2 : Int)) ∧ IntKind.wrap IntKind.i64 (i221 + (2 : Int)) < (↑(ByteArray.size s216) : Int)) then (kx0 (IntKind.wrap IntKind.i64 (i221 + (2 : Int))) ((↑(UInt8.toNat (Array.getD (ByteArray.data s216) (Int.toNat (IntKind.wrap IntKind.i64 (i221 + (2 : Int)))) (0 : UInt8))) : Int)) true) else
  (none)) else
  (kx0 i221 i223 false)
def brJn101_15 (m : Nat) (L : LTbl) (R : Type) (vs : List V) (k : Ex → List V → Option R) : Option R := match vs with
  | [V.f (F.lit (Value.string s216)), V.f (F.lit (Value.int IntKind.u16 i217)), V.f (F.lit (Value.int IntKind.i64 i218)), V.f (F.lit (Value.int IntKind.i64 i219)), V.f (F.lit (Value.int IntKind.u16 i220)), V.f (F.lit (Value.int IntKind.i64 i221)), V.f (F.lit (Value.int IntKind.u8 i222)), V.f (F.lit (Value.int IntKind.u8 i223)), V.f (F.lit (Value.bool b224)), V.undef] => Jn101_15 m (fun i225 i226 b227 => k Ex.normal [V.f (F.lit (Value.string s216)), V.f (F.lit (Value.int IntKind.u16 i217)), V.f (F.lit (Value.int IntKind.i64 i218)), V.f (F.lit (Value.int IntKind.i64 i219)), V.f (F.lit (Value.int IntKind.u16 i220)), V.f (F.lit (Value.int IntKind.i64 i225)), V.f (F.lit (Value.int IntKind.u8 i222)), V.f (F.lit (Value.int IntKind.u8 i226)), V.f (F.lit (Value.bool b227)), V.undef]) s216 i217 i218 i219 i220 i221 i222 i223 b224
  | _ => L R 101 15 vs k
set_option maxRecDepth 100000 in
theorem evJn101_15 (m : Nat) (R : Type) (s216 : ByteArray) (i217 : Int) (i218 : Int) (i219 : Int) (i220 : Int) (i221 : Int) (i222 : Int) (i223 : Int) (b224 : Bool) (k : Ex → List V → Option R) : codeK Tryd.prog H (T15 m) 101 (L6 m) 16 (loopBody Tryd.prog 101 15) (mkEnv [0, 2, 3, 4, 5, 6, 7, 8, 53, 94] [V.f (F.lit (Value.string s216)), V.f (F.lit (Value.int IntKind.u16 i217)), V.f (F.lit (Value.int IntKind.i64 i218)), V.f (F.lit (Value.int IntKind.i64 i219)), V.f (F.lit (Value.int IntKind.u16 i220)), V.f (F.lit (Value.int IntKind.i64 i221)), V.f (F.lit (Value.int IntKind.u8 i222)), V.f (F.lit (Value.int IntKind.u8 i223)), V.f (F.lit (Value.bool b224)), V.undef] 0 (H.len 101)) (fun e env' => k e (vals [0, 2, 3, 4, 5, 6, 7, 8, 53, 94] env')) = Jn101_15 m (fun i225 i226 b227 => k Ex.normal [V.f (F.lit (Value.string s216)), V.f (F.lit (Value.int IntKind.u16 i217)), V.f (F.lit (Value.int IntKind.i64 i218)), V.f (F.lit (Value.int IntKind.i64 i219)), V.f (F.lit (Value.int IntKind.u16 i220)), V.f (F.lit (Value.int IntKind.i64 i225)), V.f (F.lit (Value.int IntKind.u8 i222)), V.f (F.lit (Value.int IntKind.u8 i226)), V.f (F.lit (Value.bool b227)), V.undef]) s216 i217 i218 i219 i220 i221 i222 i223 b224 := by kernel_rfl
def L7 (m : Nat) : LTbl := addJ 101 15 (brJn101_15 m (L6 m)) (L6 m)
theorem okL7 (m : Nat) : LTOk Tryd.prog H (L7 m) := addJ_ok (okT15 m) hM (okL6 m) (l := [0, 2, 3, 4, 5, 6, 7, 8, 53, 94]) (by kernel_rfl) (by kernel_rfl) fun R vs k x h => by
    unfold brJn101_15 at h
    split at h
    · exact .inl ((evJn101_15 m R _ _ _ _ _ _ _ _ _ k).trans h)
    · exact .inr h

/-- a rest of hookflash/dialplan.readSet -/
def Jn101_13 {R : Type} (m : Nat) (kx0 : Int → Int → Option R) (s209 : ByteArray) (i210 : Int) (i211 : Int) (i212 : Int) (i213 : Int) (i214 : Int) (i215 : Int) : Option R :=
  bif decide (IntKind.wrap IntKind.i64 (i214 + (2 : Int)) < i212) then (bif decide ((0 : Int) ≤ IntKind.wrap IntKind.i64 (i214 + (1 : Int)) ∧ IntKind.wrap IntKind.i64 (i214 + (1 : Int)) < (↑(ByteArray.size s209) : Int)) then (bif (↑(UInt8.toNat (Array.getD (ByteArray.data s209) (Int.toNat (IntKind.wrap IntKind.i64 (i214 + (1 : Int)))) (0 : UInt8))) : Int) == (45 : Int) then (bif decide ((0 : Int) ≤ IntKind.wrap IntKind.i64 (i214 + (2 : Int)) ∧ IntKind.wrap IntKind.i64 (i214 + (2 : Int)) < (↑(ByteArray.size s209) : Int)) then (bif decide ((↑(UInt8.toNat (Array.getD (ByteArray.data s209) (Int.toNat (IntKind.wrap IntKind.i64 (i214 + (2 : Int)))) (0 : UInt8))) : Int) > i215) then (bif decide ((0 : Int) ≤ IntKind.wrap IntKind.i64 (i214 + (2 : Int)) ∧ IntKind.wrap IntKind.i64 (i214 + (2 : Int)) < (↑(ByteArray.size s209) : Int)) then (Jn101_15 m (fun i228 i229 b230 => Fn100 m i215 i229 (fun i231 => kx0 (bitsOp IntKind.u16 (BitVec.ofInt (16 : Nat) i213 ||| BitVec.ofInt (16 : Nat) i231)) i228)) s209 i210 i211 i212 i213 i214 i215 i215 (decide ((↑(UInt8.toNat (Array.getD (ByteArray.data s209) (Int.toNat (IntKind.wrap IntKind.i64 (i214 + (2 : Int)))) (0 : UInt8))) : Int) ≤ (57 : Int)))) else
  (none)) else
  (Jn101_15 m (fun i232 i233 b234 => Fn100 m i215 i233 (fun i235 => kx0 (bitsOp IntKind.u16 (BitVec.ofInt (16 : Nat) i213 ||| BitVec.ofInt (16 : Nat) i235)) i232)) s209 i210 i211 i212 i213 i214 i215 i215 false)) else
  (none)) else
  (Jn101_15 m (fun i236 i237 b238 => Fn100 m i215 i237 (fun i239 => kx0 (bitsOp IntKind.u16 (BitVec.ofInt (16 : Nat) i213 ||| BitVec.ofInt (16 : Nat) i239)) i236)) s209 i210 i211 i212 i213 i214 i215 i215 false)) else
  (none)) else
  (Jn101_15 m (fun i240 i241 b242 => Fn100 m i215 i241 (fun i243 => kx0 (bitsOp IntKind.u16 (BitVec.ofInt (16 : Nat) i213 ||| BitVec.ofInt (16 : Nat) i243)) i240)) s209 i210 i211 i212 i213 i214 i215 i215 false)
def brJn101_13 (m : Nat) (L : LTbl) (R : Type) (vs : List V) (k : Ex → List V → Option R) : Option R := match vs with
  | [V.f (F.lit (Value.string s209)), V.f (F.lit (Value.int IntKind.u16 i210)), V.f (F.lit (Value.int IntKind.i64 i211)), V.f (F.lit (Value.int IntKind.i64 i212)), V.f (F.lit (Value.int IntKind.u16 i213)), V.f (F.lit (Value.int IntKind.i64 i214)), V.f (F.lit (Value.int IntKind.u8 i215)), V.undef] => Jn101_13 m (fun i244 i245 => k Ex.normal [V.f (F.lit (Value.string s209)), V.f (F.lit (Value.int IntKind.u16 i210)), V.f (F.lit (Value.int IntKind.i64 i211)), V.f (F.lit (Value.int IntKind.i64 i212)), V.f (F.lit (Value.int IntKind.u16 i244)), V.f (F.lit (Value.int IntKind.i64 i245)), V.f (F.lit (Value.int IntKind.u8 i215)), V.undef]) s209 i210 i211 i212 i213 i214 i215
  | _ => L R 101 13 vs k
set_option maxRecDepth 100000 in
theorem evJn101_13 (m : Nat) (R : Type) (s209 : ByteArray) (i210 : Int) (i211 : Int) (i212 : Int) (i213 : Int) (i214 : Int) (i215 : Int) (k : Ex → List V → Option R) : codeK Tryd.prog H (T15 m) 101 (L7 m) 14 (loopBody Tryd.prog 101 13) (mkEnv [0, 2, 3, 4, 5, 6, 7, 94] [V.f (F.lit (Value.string s209)), V.f (F.lit (Value.int IntKind.u16 i210)), V.f (F.lit (Value.int IntKind.i64 i211)), V.f (F.lit (Value.int IntKind.i64 i212)), V.f (F.lit (Value.int IntKind.u16 i213)), V.f (F.lit (Value.int IntKind.i64 i214)), V.f (F.lit (Value.int IntKind.u8 i215)), V.undef] 0 (H.len 101)) (fun e env' => k e (vals [0, 2, 3, 4, 5, 6, 7, 94] env')) = Jn101_13 m (fun i244 i245 => k Ex.normal [V.f (F.lit (Value.string s209)), V.f (F.lit (Value.int IntKind.u16 i210)), V.f (F.lit (Value.int IntKind.i64 i211)), V.f (F.lit (Value.int IntKind.i64 i212)), V.f (F.lit (Value.int IntKind.u16 i244)), V.f (F.lit (Value.int IntKind.i64 i245)), V.f (F.lit (Value.int IntKind.u8 i215)), V.undef]) s209 i210 i211 i212 i213 i214 i215 := by kernel_rfl
def L8 (m : Nat) : LTbl := addJ 101 13 (brJn101_13 m (L7 m)) (L7 m)
theorem okL8 (m : Nat) : LTOk Tryd.prog H (L8 m) := addJ_ok (okT15 m) hM (okL7 m) (l := [0, 2, 3, 4, 5, 6, 7, 94]) (by kernel_rfl) (by kernel_rfl) fun R vs k x h => by
    unfold brJn101_13 at h
    split at h
    · exact .inl ((evJn101_13 m R _ _ _ _ _ _ _ k).trans h)
    · exact .inr h

/-- a round of a loop of hookflash/dialplan.readSet -/
def Lp101_7_step {R : Type} (m : Nat) (kx0 : Int → Int → Int → Int → Option R) (kx1 : Int → Int → Option R) (s203 : ByteArray) (i204 : Int) (i205 : Int) (i206 : Int) (REC : Int → Int → Option R) (i207 : Int) (i208 : Int) : Option R :=
  bif decide (i208 < i206) then (bif decide ((0 : Int) ≤ i208 ∧ i208 < (↑(ByteArray.size s203) : Int)) then (bif decide ((↑(UInt8.toNat (Array.getD (ByteArray.data s203) (Int.toNat i208) (0 : UInt8))) : Int) < (48 : Int)) then (kx0 ((0 : Int)) ((0 : Int)) i207 i208) else
  (bif decide ((↑(UInt8.toNat (Array.getD (ByteArray.data s203) (Int.toNat i208) (0 : UInt8))) : Int) > (57 : Int)) then (kx0 ((0 : Int)) ((0 : Int)) i207 i208) else
  (Jn101_13 m (fun i246 i247 => REC i246 (IntKind.wrap IntKind.i64 (i247 + (1 : Int)))) s203 i204 i205 i206 i207 i208 ((↑(UInt8.toNat (Array.getD (ByteArray.data s203) (Int.toNat i208) (0 : UInt8))) : Int))))) else
  (none)) else
  (kx1 i207 i208)
def Lp101_7 {R : Type} (m : Nat) (kx0 : Int → Int → Int → Int → Option R) (kx1 : Int → Int → Option R) (s203 : ByteArray) (i204 : Int) (i205 : Int) (i206 : Int) : Nat → Int → Int → Option R
  | 0, _, _ => none
  | n + 1, i207, i208 => Lp101_7_step m kx0 kx1 s203 i204 i205 i206 (Lp101_7 m kx0 kx1 s203 i204 i205 i206 n) i207 i208
def ELp101_7 (m : Nat) (R : Type) : Nat → List V → (Ex → List V → Option R) → Option R
  | 0, _, _ => none
  | n + 1, vs, k => match vs with
    | [V.f (F.lit (Value.string s203)), V.f (F.lit (Value.int IntKind.u16 i204)), V.f (F.lit (Value.int IntKind.i64 i205)), V.f (F.lit (Value.int IntKind.i64 i206)), V.f (F.lit (Value.int IntKind.u16 i207)), V.f (F.lit (Value.int IntKind.i64 i208)), V.undef] => Lp101_7_step m (fun i248 i249 i250 i251 => k Ex.ret [V.f (F.lit (Value.string s203)), V.f (F.lit (Value.int IntKind.u16 i248)), V.f (F.lit (Value.int IntKind.i64 i249)), V.f (F.lit (Value.int IntKind.i64 i206)), V.f (F.lit (Value.int IntKind.u16 i250)), V.f (F.lit (Value.int IntKind.i64 i251)), V.undef]) (fun i252 i253 => k (Ex.exit (0 : Nat)) [V.f (F.lit (Value.string s203)), V.f (F.lit (Value.int IntKind.u16 i204)), V.f (F.lit (Value.int IntKind.i64 i205)), V.f (F.lit (Value.int IntKind.i64 i206)), V.f (F.lit (Value.int IntKind.u16 i252)), V.f (F.lit (Value.int IntKind.i64 i253)), V.undef]) s203 i204 i205 i206 (fun i207 i208 => ELp101_7 m R n [V.f (F.lit (Value.string s203)), V.f (F.lit (Value.int IntKind.u16 i204)), V.f (F.lit (Value.int IntKind.i64 i205)), V.f (F.lit (Value.int IntKind.i64 i206)), V.f (F.lit (Value.int IntKind.u16 i207)), V.f (F.lit (Value.int IntKind.i64 i208)), V.undef] k) i207 i208
    | _ => none
def brLp101_7 (m : Nat) (L : LTbl) (R : Type) (vs : List V) (k : Ex → List V → Option R) : Option R := match vs with
  | [V.f (F.lit (Value.string s203)), V.f (F.lit (Value.int IntKind.u16 i204)), V.f (F.lit (Value.int IntKind.i64 i205)), V.f (F.lit (Value.int IntKind.i64 i206)), V.f (F.lit (Value.int IntKind.u16 i207)), V.f (F.lit (Value.int IntKind.i64 i208)), V.undef] => Lp101_7 m (fun i248 i249 i250 i251 => k Ex.ret [V.f (F.lit (Value.string s203)), V.f (F.lit (Value.int IntKind.u16 i248)), V.f (F.lit (Value.int IntKind.i64 i249)), V.f (F.lit (Value.int IntKind.i64 i206)), V.f (F.lit (Value.int IntKind.u16 i250)), V.f (F.lit (Value.int IntKind.i64 i251)), V.undef]) (fun i252 i253 => k (Ex.exit (0 : Nat)) [V.f (F.lit (Value.string s203)), V.f (F.lit (Value.int IntKind.u16 i204)), V.f (F.lit (Value.int IntKind.i64 i205)), V.f (F.lit (Value.int IntKind.i64 i206)), V.f (F.lit (Value.int IntKind.u16 i252)), V.f (F.lit (Value.int IntKind.i64 i253)), V.undef]) s203 i204 i205 i206 m i207 i208
  | _ => L R 101 7 vs k
set_option maxRecDepth 100000 in
theorem stLp101_7 (m n : Nat) (R : Type) (s203 : ByteArray) (i204 : Int) (i205 : Int) (i206 : Int) (i207 : Int) (i208 : Int) (k : Ex → List V → Option R) : codeK Tryd.prog H (T15 m) 101 (L8 m) 8 (loopBody Tryd.prog 101 7) (mkEnv [0, 2, 3, 4, 5, 6, 94] [V.f (F.lit (Value.string s203)), V.f (F.lit (Value.int IntKind.u16 i204)), V.f (F.lit (Value.int IntKind.i64 i205)), V.f (F.lit (Value.int IntKind.i64 i206)), V.f (F.lit (Value.int IntKind.u16 i207)), V.f (F.lit (Value.int IntKind.i64 i208)), V.undef] 0 (H.len 101)) (fun e env' => match e with | .normal => ELp101_7 m R n (vals [0, 2, 3, 4, 5, 6, 94] env') k | e => k e (vals [0, 2, 3, 4, 5, 6, 94] env')) = Lp101_7_step m (fun i248 i249 i250 i251 => k Ex.ret [V.f (F.lit (Value.string s203)), V.f (F.lit (Value.int IntKind.u16 i248)), V.f (F.lit (Value.int IntKind.i64 i249)), V.f (F.lit (Value.int IntKind.i64 i206)), V.f (F.lit (Value.int IntKind.u16 i250)), V.f (F.lit (Value.int IntKind.i64 i251)), V.undef]) (fun i252 i253 => k (Ex.exit (0 : Nat)) [V.f (F.lit (Value.string s203)), V.f (F.lit (Value.int IntKind.u16 i204)), V.f (F.lit (Value.int IntKind.i64 i205)), V.f (F.lit (Value.int IntKind.i64 i206)), V.f (F.lit (Value.int IntKind.u16 i252)), V.f (F.lit (Value.int IntKind.i64 i253)), V.undef]) s203 i204 i205 i206 (fun i207 i208 => ELp101_7 m R n [V.f (F.lit (Value.string s203)), V.f (F.lit (Value.int IntKind.u16 i204)), V.f (F.lit (Value.int IntKind.i64 i205)), V.f (F.lit (Value.int IntKind.i64 i206)), V.f (F.lit (Value.int IntKind.u16 i207)), V.f (F.lit (Value.int IntKind.i64 i208)), V.undef] k) i207 i208 := by kernel_rfl
theorem eqLp101_7 (m : Nat) (R : Type) (s203 : ByteArray) (i204 : Int) (i205 : Int) (i206 : Int) (k : Ex → List V → Option R) : ∀ (n : Nat) (i207 : Int) (i208 : Int), ELp101_7 m R n [V.f (F.lit (Value.string s203)), V.f (F.lit (Value.int IntKind.u16 i204)), V.f (F.lit (Value.int IntKind.i64 i205)), V.f (F.lit (Value.int IntKind.i64 i206)), V.f (F.lit (Value.int IntKind.u16 i207)), V.f (F.lit (Value.int IntKind.i64 i208)), V.undef] k = Lp101_7 m (fun i248 i249 i250 i251 => k Ex.ret [V.f (F.lit (Value.string s203)), V.f (F.lit (Value.int IntKind.u16 i248)), V.f (F.lit (Value.int IntKind.i64 i249)), V.f (F.lit (Value.int IntKind.i64 i206)), V.f (F.lit (Value.int IntKind.u16 i250)), V.f (F.lit (Value.int IntKind.i64 i251)), V.undef]) (fun i252 i253 => k (Ex.exit (0 : Nat)) [V.f (F.lit (Value.string s203)), V.f (F.lit (Value.int IntKind.u16 i204)), V.f (F.lit (Value.int IntKind.i64 i205)), V.f (F.lit (Value.int IntKind.i64 i206)), V.f (F.lit (Value.int IntKind.u16 i252)), V.f (F.lit (Value.int IntKind.i64 i253)), V.undef]) s203 i204 i205 i206 n i207 i208
  | 0, _, _ => rfl
  | n + 1, i207, i208 => by
    simp only [ELp101_7, Lp101_7]
    congr 1
    funext i207 i208
    exact eqLp101_7 m R s203 i204 i205 i206 k n i207 i208
def L9 (m : Nat) : LTbl := addB 101 7 (brLp101_7 m (L8 m)) (L8 m)
theorem okL9 (m : Nat) : LTOk Tryd.prog H (L9 m) := addB_ok (okT15 m) hM (okL8 m) (l := [0, 2, 3, 4, 5, 6, 94]) (by kernel_rfl) (by kernel_rfl) m (fun R n vs k => ELp101_7 m R n vs k) (fun R vs k => rfl) (fun R n vs k x h => by
      simp only [ELp101_7] at h
      split at h
      · exact (stLp101_7 m n R _ _ _ _ _ _ k).trans h
      · cases h) fun R vs k x h => by
    unfold brLp101_7 at h
    split at h
    · exact .inl ((eqLp101_7 m R _ _ _ _ k m _ _).trans h)
    · exact .inr h

/-- math/bits.OnesCount16 -/
def Fn126 {R : Type} (m : Nat) : Int → (Int → Option R) → Option R := match m with
  | 0 => fun _ _ => none
  | m + 1 => fun i260 k =>
  bif decide ((0 : Int) ≤ Int.fdiv i260 ((2 : Int) ^ min (Int.toNat (8 : Int)) (16 : Nat)) ∧ Int.fdiv i260 ((2 : Int) ^ min (Int.toNat (8 : Int)) (16 : Nat)) < (↑(ByteArray.size { data := #[(0 : UInt8), (1 : UInt8), (1 : UInt8), (2 : UInt8), (1 : UInt8), (2 : UInt8), (2 : UInt8), (3 : UInt8), (1 : UInt8), (2 : UInt8), (2 : UInt8), (3 : UInt8), (2 : UInt8), (3 : UInt8), (3 : UInt8), (4 : UInt8), (1 : UInt8), (2 : UInt8), (2 : UInt8), (3 : UInt8), (2 : UInt8), (3 : UInt8), (3 : UInt8), (4 : UInt8), (2 : UInt8), (3 : UInt8), (3 : UInt8), (4 : UInt8), (3 : UInt8), (4 : UInt8), (4 : UInt8), (5 : UInt8), (1 : UInt8), (2 : UInt8), (2 : UInt8), (3 : UInt8), (2 : UInt8), (3 : UInt8), (3 : UInt8), (4 : UInt8), (2 : UInt8), (3 : UInt8), (3 : UInt8), (4 : UInt8), (3 : UInt8), (4 : UInt8), (4 : UInt8), (5 : UInt8), (2 : UInt8), (3 : UInt8), (3 : UInt8), (4 : UInt8), (3 : UInt8), (4 : UInt8), (4 : UInt8), (5 : UInt8), (3 : UInt8), (4 : UInt8), (4 : UInt8), (5 : UInt8), (4 : UInt8), (5 : UInt8), (5 : UInt8), (6 : UInt8), (1 : UInt8), (2 : UInt8), (2 : UInt8), (3 : UInt8), (2 : UInt8), (3 : UInt8), (3 : UInt8), (4 : UInt8), (2 : UInt8), (3 : UInt8), (3 : UInt8), (4 : UInt8), (3 : UInt8), (4 : UInt8), (4 : UInt8), (5 : UInt8), (2 : UInt8), (3 : UInt8), (3 : UInt8), (4 : UInt8), (3 : UInt8), (4 : UInt8), (4 : UInt8), (5 : UInt8), (3 : UInt8), (4 : UInt8), (4 : UInt8), (5 : UInt8), (4 : UInt8), (5 : UInt8), (5 : UInt8), (6 : UInt8), (2 : UInt8), (3 : UInt8), (3 : UInt8), (4 : UInt8), (3 : UInt8), (4 : UInt8), (4 : UInt8), (5 : UInt8), (3 : UInt8), (4 : UInt8), (4 : UInt8), (5 : UInt8), (4 : UInt8), (5 : UInt8), (5 : UInt8), (6 : UInt8), (3 : UInt8), (4 : UInt8), (4 : UInt8), (5 : UInt8), (4 : UInt8), (5 : UInt8), (5 : UInt8), (6 : UInt8), (4 : UInt8), (5 : UInt8), (5 : UInt8), (6 : UInt8), (5 : UInt8), (6 : UInt8), (6 : UInt8), (7 : UInt8), (1 : UInt8), (2 : UInt8), (2 : UInt8), (3 : UInt8), (2 : UInt8), (3 : UInt8), (3 : UInt8), (4 : UInt8), (2 : UInt8), (3 : UInt8), (3 : UInt8), (4 : UInt8), (3 : UInt8), (4 : UInt8), (4 : UInt8), (5 : UInt8), (2 : UInt8), (3 : UInt8), (3 : UInt8), (4 : UInt8), (3 : UInt8), (4 : UInt8), (4 : UInt8), (5 : UInt8), (3 : UInt8), (4 : UInt8), (4 : UInt8), (5 : UInt8), (4 : UInt8), (5 : UInt8), (5 : UInt8), (6 : UInt8), (2 : UInt8), (3 : UInt8), (3 : UInt8), (4 : UInt8), (3 : UInt8), (4 : UInt8), (4 : UInt8), (5 : UInt8), (3 : UInt8), (4 : UInt8), (4 : UInt8), (5 : UInt8), (4 : UInt8), (5 : UInt8), (5 : UInt8), (6 : UInt8), (3 : UInt8), (4 : UInt8), (4 : UInt8), (5 : UInt8), (4 : UInt8), (5 : UInt8), (5 : UInt8), (6 : UInt8), (4 : UInt8), (5 : UInt8), (5 : UInt8), (6 : UInt8), (5 : UInt8), (6 : UInt8), (6 : UInt8), (7 : UInt8), (2 : UInt8), (3 : UInt8), (3 : UInt8), (4 : UInt8), (3 : UInt8), (4 : UInt8), (4 : UInt8), (5 : UInt8), (3 : UInt8), (4 : UInt8), (4 : UInt8), (5 : UInt8), (4 : UInt8), (5 : UInt8), (5 : UInt8), (6 : UInt8), (3 : UInt8), (4 : UInt8), (4 : UInt8), (5 : UInt8), (4 : UInt8), (5 : UInt8), (5 : UInt8), (6 : UInt8), (4 : UInt8), (5 : UInt8), (5 : UInt8), (6 : UInt8), (5 : UInt8), (6 : UInt8), (6 : UInt8), (7 : UInt8), (3 : UInt8), (4 : UInt8), (4 : UInt8), (5 : UInt8), (4 : UInt8), (5 : UInt8), (5 : UInt8), (6 : UInt8), (4 : UInt8), (5 : UInt8), (5 : UInt8), (6 : UInt8), (5 : UInt8), (6 : UInt8), (6 : UInt8), (7 : UInt8), (4 : UInt8), (5 : UInt8), (5 : UInt8), (6 : UInt8), (5 : UInt8), (6 : UInt8), (6 : UInt8), (7 : UInt8), (5 : UInt8), (6 : UInt8), (6 : UInt8), (7 : UInt8), (6 : UInt8), (7 : UInt8), (7 : UInt8), (8 : UInt8)] }) : Int)) then (bif decide ((0 : Int) ≤ bitsOp IntKind.u16 (BitVec.ofInt (16 : Nat) i260 &&& BitVec.ofInt (16 : Nat) (255 : Int)) ∧ bitsOp IntKind.u16 (BitVec.ofInt (16 : Nat) i260 &&& BitVec.ofInt (16 : Nat) (255 : Int)) < (↑(ByteArray.size { data := #[(0 : UInt8), (1 : UInt8), (1 : UInt8), (2 : UInt8), (1 : UInt8), (2 : UInt8), (2 : UInt8), (3 : UInt8), (1 : UInt8), (2 : UInt8), (2 : UInt8), (3 : UInt8), (2 : UInt8), (3 : UInt8), (3 : UInt8), (4 : UInt8), (1 : UInt8), (2 : UInt8), (2 : UInt8), (3 : UInt8), (2 : UInt8), (3 : UInt8), (3 : UInt8), (4 : UInt8), (2 : UInt8), (3 : UInt8), (3 : UInt8), (4 : UInt8), (3 : UInt8), (4 : UInt8), (4 : UInt8), (5 : UInt8), (1 : UInt8), (2 : UInt8), (2 : UInt8), (3 : UInt8), (2 : UInt8), (3 : UInt8), (3 : UInt8), (4 : UInt8), (2 : UInt8), (3 : UInt8), (3 : UInt8), (4 : UInt8), (3 : UInt8), (4 : UInt8), (4 : UInt8), (5 : UInt8), (2 : UInt8), (3 : UInt8), (3 : UInt8), (4 : UInt8), (3 : UInt8), (4 : UInt8), (4 : UInt8), (5 : UInt8), (3 : UInt8), (4 : UInt8), (4 : UInt8), (5 : UInt8), (4 : UInt8), (5 : UInt8), (5 : UInt8), (6 : UInt8), (1 : UInt8), (2 : UInt8), (2 : UInt8), (3 : UInt8), (2 : UInt8), (3 : UInt8), (3 : UInt8), (4 : UInt8), (2 : UInt8), (3 : UInt8), (3 : UInt8), (4 : UInt8), (3 : UInt8), (4 : UInt8), (4 : UInt8), (5 : UInt8), (2 : UInt8), (3 : UInt8), (3 : UInt8), (4 : UInt8), (3 : UInt8), (4 : UInt8), (4 : UInt8), (5 : UInt8), (3 : UInt8), (4 : UInt8), (4 : UInt8), (5 : UInt8), (4 : UInt8), (5 : UInt8), (5 : UInt8), (6 : UInt8), (2 : UInt8), (3 : UInt8), (3 : UInt8), (4 : UInt8), (3 : UInt8), (4 : UInt8), (4 : UInt8), (5 : UInt8), (3 : UInt8), (4 : UInt8), (4 : UInt8), (5 : UInt8), (4 : UInt8), (5 : UInt8), (5 : UInt8), (6 : UInt8), (3 : UInt8), (4 : UInt8), (4 : UInt8), (5 : UInt8), (4 : UInt8), (5 : UInt8), (5 : UInt8), (6 : UInt8), (4 : UInt8), (5 : UInt8), (5 : UInt8), (6 : UInt8), (5 : UInt8), (6 : UInt8), (6 : UInt8), (7 : UInt8), (1 : UInt8), (2 : UInt8), (2 : UInt8), (3 : UInt8), (2 : UInt8), (3 : UInt8), (3 : UInt8), (4 : UInt8), (2 : UInt8), (3 : UInt8), (3 : UInt8), (4 : UInt8), (3 : UInt8), (4 : UInt8), (4 : UInt8), (5 : UInt8), (2 : UInt8), (3 : UInt8), (3 : UInt8), (4 : UInt8), (3 : UInt8), (4 : UInt8), (4 : UInt8), (5 : UInt8), (3 : UInt8), (4 : UInt8), (4 : UInt8), (5 : UInt8), (4 : UInt8), (5 : UInt8), (5 : UInt8), (6 : UInt8), (2 : UInt8), (3 : UInt8), (3 : UInt8), (4 : UInt8), (3 : UInt8), (4 : UInt8), (4 : UInt8), (5 : UInt8), (3 : UInt8), (4 : UInt8), (4 : UInt8), (5 : UInt8), (4 : UInt8), (5 : UInt8), (5 : UInt8), (6 : UInt8), (3 : UInt8), (4 : UInt8), (4 : UInt8), (5 : UInt8), (4 : UInt8), (5 : UInt8), (5 : UInt8), (6 : UInt8), (4 : UInt8), (5 : UInt8), (5 : UInt8), (6 : UInt8), (5 : UInt8), (6 : UInt8), (6 : UInt8), (7 : UInt8), (2 : UInt8), (3 : UInt8), (3 : UInt8), (4 : UInt8), (3 : UInt8), (4 : UInt8), (4 : UInt8), (5 : UInt8), (3 : UInt8), (4 : UInt8), (4 : UInt8), (5 : UInt8), (4 : UInt8), (5 : UInt8), (5 : UInt8), (6 : UInt8), (3 : UInt8), (4 : UInt8), (4 : UInt8), (5 : UInt8), (4 : UInt8), (5 : UInt8), (5 : UInt8), (6 : UInt8), (4 : UInt8), (5 : UInt8), (5 : UInt8), (6 : UInt8), (5 : UInt8), (6 : UInt8), (6 : UInt8), (7 : UInt8), (3 : UInt8), (4 : UInt8), (4 : UInt8), (5 : UInt8), (4 : UInt8), (5 : UInt8), (5 : UInt8), (6 : UInt8), (4 : UInt8), (5 : UInt8), (5 : UInt8), (6 : UInt8), (5 : UInt8), (6 : UInt8), (6 : UInt8), (7 : UInt8), (4 : UInt8), (5 : UInt8), (5 : UInt8), (6 : UInt8), (5 : UInt8), (6 : UInt8), (6 : UInt8), (7 : UInt8), (5 : UInt8), (6 : UInt8), (6 : UInt8), (7 : UInt8), (6 : UInt8), (7 : UInt8), (7 : UInt8), (8 : UInt8)] }) : Int)) then (k (IntKind.wrap IntKind.i64 (IntKind.wrap IntKind.u8 ((↑(UInt8.toNat (Array.getD (ByteArray.data { data := #[(0 : UInt8), (1 : UInt8), (1 : UInt8), (2 : UInt8), (1 : UInt8), (2 : UInt8), (2 : UInt8), (3 : UInt8), (1 : UInt8), (2 : UInt8), (2 : UInt8), (3 : UInt8), (2 : UInt8), (3 : UInt8), (3 : UInt8), (4 : UInt8), (1 : UInt8), (2 : UInt8), (2 : UInt8), (3 : UInt8), (2 : UInt8), (3 : UInt8), (3 : UInt8), (4 : UInt8), (2 : UInt8), (3 : UInt8), (3 : UInt8), (4 : UInt8), (3 : UInt8), (4 : UInt8), (4 : UInt8), (5 : UInt8), (1 : UInt8), (2 : UInt8), (2 : UInt8), (3 : UInt8), (2 : UInt8), (3 : UInt8), (3 : UInt8), (4 : UInt8), (2 : UInt8), (3 : UInt8), (3 : UInt8), (4 : UInt8), (3 : UInt8), (4 : UInt8), (4 : UInt8), (5 : UInt8), (2 : UInt8), (3 : UInt8), (3 : UInt8), (4 : UInt8), (3 : UInt8), (4 : UInt8), (4 : UInt8), (5 : UInt8), (3 : UInt8), (4 : UInt8), (4 : UInt8), (5 : UInt8), (4 : UInt8), (5 : UInt8), (5 : UInt8), (6 : UInt8), (1 : UInt8), (2 : UInt8), (2 : UInt8), (3 : UInt8), (2 : UInt8), (3 : UInt8), (3 : UInt8), (4 : UInt8), (2 : UInt8), (3 : UInt8), (3 : UInt8), (4 : UInt8), (3 : UInt8), (4 : UInt8), (4 : UInt8), (5 : UInt8), (2 : UInt8), (3 : UInt8), (3 : UInt8), (4 : UInt8), (3 : UInt8), (4 : UInt8), (4 : UInt8), (5 : UInt8), (3 : UInt8), (4 : UInt8), (4 : UInt8), (5 : UInt8), (4 : UInt8), (5 : UInt8), (5 : UInt8), (6 : UInt8), (2 : UInt8), (3 : UInt8), (3 : UInt8), (4 : UInt8), (3 : UInt8), (4 : UInt8), (4 : UInt8), (5 : UInt8), (3 : UInt8), (4 : UInt8), (4 : UInt8), (5 : UInt8), (4 : UInt8), (5 : UInt8), (5 : UInt8), (6 : UInt8), (3 : UInt8), (4 : UInt8), (4 : UInt8), (5 : UInt8), (4 : UInt8), (5 : UInt8), (5 : UInt8), (6 : UInt8), (4 : UInt8), (5 : UInt8), (5 : UInt8), (6 : UInt8), (5 : UInt8), (6 : UInt8), (6 : UInt8), (7 : UInt8), (1 : UInt8), (2 : UInt8), (2 : UInt8), (3 : UInt8), (2 : UInt8), (3 : UInt8), (3 : UInt8), (4 : UInt8), (2 : UInt8), (3 : UInt8), (3 : UInt8), (4 : UInt8), (3 : UInt8), (4 : UInt8), (4 : UInt8), (5 : UInt8), (2 : UInt8), (3 : UInt8), (3 : UInt8), (4 : UInt8), (3 : UInt8), (4 : UInt8), (4 : UInt8), (5 : UInt8), (3 : UInt8), (4 : UInt8), (4 : UInt8), (5 : UInt8), (4 : UInt8), (5 : UInt8), (5 : UInt8), (6 : UInt8), (2 : UInt8), (3 : UInt8), (3 : UInt8), (4 : UInt8), (3 : UInt8), (4 : UInt8), (4 : UInt8), (5 : UInt8), (3 : UInt8), (4 : UInt8), (4 : UInt8), (5 : UInt8), (4 : UInt8), (5 : UInt8), (5 : UInt8), (6 : UInt8), (3 : UInt8), (4 : UInt8), (4 : UInt8), (5 : UInt8), (4 : UInt8), (5 : UInt8), (5 : UInt8), (6 : UInt8), (4 : UInt8), (5 : UInt8), (5 : UInt8), (6 : UInt8), (5 : UInt8), (6 : UInt8), (6 : UInt8), (7 : UInt8), (2 : UInt8), (3 : UInt8), (3 : UInt8), (4 : UInt8), (3 : UInt8), (4 : UInt8), (4 : UInt8), (5 : UInt8), (3 : UInt8), (4 : UInt8), (4 : UInt8), (5 : UInt8), (4 : UInt8), (5 : UInt8), (5 : UInt8), (6 : UInt8), (3 : UInt8), (4 : UInt8), (4 : UInt8), (5 : UInt8), (4 : UInt8), (5 : UInt8), (5 : UInt8), (6 : UInt8), (4 : UInt8), (5 : UInt8), (5 : UInt8), (6 : UInt8), (5 : UInt8), (6 : UInt8), (6 : UInt8), (7 : UInt8), (3 : UInt8), (4 : UInt8), (4 : UInt8), (5 : UInt8), (4 : UInt8), (5 : UInt8), (5 : UInt8), (6 : UInt8), (4 : UInt8), (5 : UInt8), (5 : UInt8), (6 : UInt8), (5 : UInt8), (6 : UInt8), (6 : UInt8), (7 : UInt8), (4 : UInt8), (5 : UInt8), (5 : UInt8), (6 : UInt8), (5 : UInt8), (6 : UInt8), (6 : UInt8), (7 : UInt8), (5 : UInt8), (6 : UInt8), (6 : UInt8), (7 : UInt8), (6 : UInt8), (7 : UInt8), (7 : UInt8), (8 : UInt8)] }) (Int.toNat (Int.fdiv i260 ((2 : Int) ^ min (Int.toNat (8 : Int)) (16 : Nat)))) (0 : UInt8))) : Int) + (↑(UInt8.toNat (Array.getD (ByteArray.data { data := #[(0 : UInt8), (1 : UInt8), (1 : UInt8), (2 : UInt8), (1 : UInt8), (2 : UInt8), (2 : UInt8), (3 : UInt8), (1 : UInt8), (2 : UInt8), (2 : UInt8), (3 : UInt8), (2 : UInt8), (3 : UInt8), (3 : UInt8), (4 : UInt8), (1 : UInt8), (2 : UInt8), (2 : UInt8), (3 : UInt8), (2 : UInt8), (3 : UInt8), (3 : UInt8), (4 : UInt8), (2 : UInt8), (3 : UInt8), (3 : UInt8), (4 : UInt8), (3 : UInt8), (4 : UInt8), (4 : UInt8), (5 : UInt8), (1 : UInt8), (2 : UInt8), (2 : UInt8), (3 : UInt8), (2 : UInt8), (3 : UInt8), (3 : UInt8), (4 : UInt8), (2 : UInt8), (3 : UInt8), (3 : UInt8), (4 : UInt8), (3 : UInt8), (4 : UInt8), (4 : UInt8), (5 : UInt8), (2 : UInt8), (3 : UInt8), (3 : UInt8), (4 : UInt8), (3 : UInt8), (4 : UInt8), (4 : UInt8), (5 : UInt8), (3 : UInt8), (4 : UInt8), (4 : UInt8), (5 : UInt8), (4 : UInt8), (5 : UInt8), (5 : UInt8), (6 : UInt8), (1 : UInt8), (2 : UInt8), (2 : UInt8), (3 : UInt8), (2 : UInt8), (3 : UInt8), (3 : UInt8), (4 : UInt8), (2 : UInt8), (3 : UInt8), (3 : UInt8), (4 : UInt8), (3 : UInt8), (4 : UInt8), (4 : UInt8), (5 : UInt8), (2 : UInt8), (3 : UInt8), (3 : UInt8), (4 : UInt8), (3 : UInt8), (4 : UInt8), (4 : UInt8), (5 : UInt8), (3 : UInt8), (4 : UInt8), (4 : UInt8), (5 : UInt8), (4 : UInt8), (5 : UInt8), (5 : UInt8), (6 : UInt8), (2 : UInt8), (3 : UInt8), (3 : UInt8), (4 : UInt8), (3 : UInt8), (4 : UInt8), (4 : UInt8), (5 : UInt8), (3 : UInt8), (4 : UInt8), (4 : UInt8), (5 : UInt8), (4 : UInt8), (5 : UInt8), (5 : UInt8), (6 : UInt8), (3 : UInt8), (4 : UInt8), (4 : UInt8), (5 : UInt8), (4 : UInt8), (5 : UInt8), (5 : UInt8), (6 : UInt8), (4 : UInt8), (5 : UInt8), (5 : UInt8), (6 : UInt8), (5 : UInt8), (6 : UInt8), (6 : UInt8), (7 : UInt8), (1 : UInt8), (2 : UInt8), (2 : UInt8), (3 : UInt8), (2 : UInt8), (3 : UInt8), (3 : UInt8), (4 : UInt8), (2 : UInt8), (3 : UInt8), (3 : UInt8), (4 : UInt8), (3 : UInt8), (4 : UInt8), (4 : UInt8), (5 : UInt8), (2 : UInt8), (3 : UInt8), (3 : UInt8), (4 : UInt8), (3 : UInt8), (4 : UInt8), (4 : UInt8), (5 : UInt8), (3 : UInt8), (4 : UInt8), (4 : UInt8), (5 : UInt8), (4 : UInt8), (5 : UInt8), (5 : UInt8), (6 : UInt8), (2 : UInt8), (3 : UInt8), (3 : UInt8), (4 : UInt8), (3 : UInt8), (4 : UInt8), (4 : UInt8), (5 : UInt8), (3 : UInt8), (4 : UInt8), (4 : UInt8), (5 : UInt8), (4 : UInt8), (5 : UInt8), (5 : UInt8), (6 : UInt8), (3 : UInt8), (4 : UInt8), (4 : UInt8), (5 : UInt8), (4 : UInt8), (5 : UInt8), (5 : UInt8), (6 : UInt8), (4 : UInt8), (5 : UInt8), (5 : UInt8), (6 : UInt8), (5 : UInt8), (6 : UInt8), (6 : UInt8), (7 : UInt8), (2 : UInt8), (3 : UInt8), (3 : UInt8), (4 : UInt8), (3 : UInt8), (4 : UInt8), (4 : UInt8), (5 : UInt8), (3 : UInt8), (4 : UInt8), (4 : UInt8), (5 : UInt8), (4 : UInt8), (5 : UInt8), (5 : UInt8), (6 : UInt8), (3 : UInt8), (4 : UInt8), (4 : UInt8), (5 : UInt8), (4 : UInt8), (5 : UInt8), (5 : UInt8), (6 : UInt8), (4 : UInt8), (5 : UInt8), (5 : UInt8), (6 : UInt8), (5 : UInt8), (6 : UInt8), (6 : UInt8), (7 : UInt8), (3 : UInt8), (4 : UInt8), (4 : UInt8), (5 : UInt8), (4 : UInt8), (5 : UInt8), (5 : UInt8), (6 : UInt8), (4 : UInt8), (5 : UInt8), (5 : UInt8), (6 : UInt8), (5 : UInt8), (6 : UInt8), (6 : UInt8), (7 : UInt8), (4 : UInt8), (5 : UInt8), (5 : UInt8), (6 : UInt8), (5 : UInt8), (6 : UInt8), (6 : UInt8), (7 : UInt8), (5 : UInt8), (6 : UInt8), (6 : UInt8), (7 : UInt8), (6 : UInt8), (7 : UInt8), (7 : UInt8), (8 : UInt8)] }) (Int.toNat (bitsOp IntKind.u16 (BitVec.ofInt (16 : Nat) i260 &&& BitVec.ofInt (16 : Nat) (255 : Int)))) (0 : UInt8))) : Int))))) else
  (none)) else
  (none)
def brFn126 (m : Nat) (T : Tbl) (R : Type) (vs : List V) (k : V → List V → Option R) : Option R := match vs with
  | [V.f (F.lit (Value.int IntKind.u16 i260))] => Fn126 m i260 (fun i261 => k (V.f (F.lit (Value.int IntKind.i64 i261))) [V.undef])
  | _ => T R 126 vs k
set_option maxRecDepth 100000 in
theorem evFn126 (m : Nat) (R : Type) (i260 : Int) (k : V → List V → Option R) : runK Tryd.prog H (T15 m) (L9 m) 126 [V.f (F.lit (Value.int IntKind.u16 i260))] k = Fn126 (m + 1) i260 (fun i261 => k (V.f (F.lit (Value.int IntKind.i64 i261))) [V.undef]) := by kernel_rfl
def T16 (m : Nat) : Tbl := addT 126 (brFn126 m (T15 m)) (T15 m)
theorem okT16 (m : Nat) : TblOk Tryd.prog (T16 m) := addT_ok (okT15 m) fun R vs k x h => by
  unfold brFn126 at h
  split at h
  · cases m with
    | zero => cases h
    | succ m => exact runK_some (okT15 m) hM (okL9 m) ((evFn126 m R _ k).trans h)
  · exact okT15 m R 126 _ k x h

/-- a round of a loop of (hookflash/dialplan.mask).digits -/
def Lp127_9_step {R : Type} (m : Nat) (kx0 : Int → Option R) (i271 : Int) (s272 : ByteArray) (i273 : Int) (REC : Int → Option R) (i274 : Int) : Option R :=
  bif decide (i274 < (57 : Int)) then (Fn85 m (IntKind.wrap IntKind.u8 (i274 + (1 : Int))) (fun i275 => bif bitsOp IntKind.u16 (BitVec.ofInt (16 : Nat) i271 &&& BitVec.ofInt (16 : Nat) i275) != (0 : Int) then (REC (IntKind.wrap IntKind.u8 (i274 + (1 : Int)))) else
  (kx0 i274))) else
  (kx0 i274)
def Lp127_9 {R : Type} (m : Nat) (kx0 : Int → Option R) (i271 : Int) (s272 : ByteArray) (i273 : Int) : Nat → Int → Option R
  | 0, _ => none
  | n + 1, i274 => Lp127_9_step m kx0 i271 s272 i273 (Lp127_9 m kx0 i271 s272 i273 n) i274
def ELp127_9 (m : Nat) (R : Type) : Nat → List V → (Ex → List V → Option R) → Option R
  | 0, _, _ => none
  | n + 1, vs, k => match vs with
    | [V.f (F.lit (Value.int IntKind.u16 i271)), V.f (F.lit (Value.string s272)), V.f (F.lit (Value.int IntKind.u8 i273)), V.f (F.lit (Value.int IntKind.u8 i274)), V.undef] => Lp127_9_step m (fun i276 => k (Ex.exit (2 : Nat)) [V.f (F.lit (Value.int IntKind.u16 i271)), V.f (F.lit (Value.string s272)), V.f (F.lit (Value.int IntKind.u8 i273)), V.f (F.lit (Value.int IntKind.u8 i276)), V.undef]) i271 s272 i273 (fun i274 => ELp127_9 m R n [V.f (F.lit (Value.int IntKind.u16 i271)), V.f (F.lit (Value.string s272)), V.f (F.lit (Value.int IntKind.u8 i273)), V.f (F.lit (Value.int IntKind.u8 i274)), V.undef] k) i274
    | _ => none
def brLp127_9 (m : Nat) (L : LTbl) (R : Type) (vs : List V) (k : Ex → List V → Option R) : Option R := match vs with
  | [V.f (F.lit (Value.int IntKind.u16 i271)), V.f (F.lit (Value.string s272)), V.f (F.lit (Value.int IntKind.u8 i273)), V.f (F.lit (Value.int IntKind.u8 i274)), V.undef] => Lp127_9 m (fun i276 => k (Ex.exit (2 : Nat)) [V.f (F.lit (Value.int IntKind.u16 i271)), V.f (F.lit (Value.string s272)), V.f (F.lit (Value.int IntKind.u8 i273)), V.f (F.lit (Value.int IntKind.u8 i276)), V.undef]) i271 s272 i273 m i274
  | _ => L R 127 9 vs k
set_option maxRecDepth 100000 in
theorem stLp127_9 (m n : Nat) (R : Type) (i271 : Int) (s272 : ByteArray) (i273 : Int) (i274 : Int) (k : Ex → List V → Option R) : codeK Tryd.prog H (T16 m) 127 (L9 m) 10 (loopBody Tryd.prog 127 9) (mkEnv [0, 3, 4, 5, 56] [V.f (F.lit (Value.int IntKind.u16 i271)), V.f (F.lit (Value.string s272)), V.f (F.lit (Value.int IntKind.u8 i273)), V.f (F.lit (Value.int IntKind.u8 i274)), V.undef] 0 (H.len 127)) (fun e env' => match e with | .normal => ELp127_9 m R n (vals [0, 3, 4, 5, 56] env') k | e => k e (vals [0, 3, 4, 5, 56] env')) = Lp127_9_step m (fun i276 => k (Ex.exit (2 : Nat)) [V.f (F.lit (Value.int IntKind.u16 i271)), V.f (F.lit (Value.string s272)), V.f (F.lit (Value.int IntKind.u8 i273)), V.f (F.lit (Value.int IntKind.u8 i276)), V.undef]) i271 s272 i273 (fun i274 => ELp127_9 m R n [V.f (F.lit (Value.int IntKind.u16 i271)), V.f (F.lit (Value.string s272)), V.f (F.lit (Value.int IntKind.u8 i273)), V.f (F.lit (Value.int IntKind.u8 i274)), V.undef] k) i274 := by kernel_rfl
theorem eqLp127_9 (m : Nat) (R : Type) (i271 : Int) (s272 : ByteArray) (i273 : Int) (k : Ex → List V → Option R) : ∀ (n : Nat) (i274 : Int), ELp127_9 m R n [V.f (F.lit (Value.int IntKind.u16 i271)), V.f (F.lit (Value.string s272)), V.f (F.lit (Value.int IntKind.u8 i273)), V.f (F.lit (Value.int IntKind.u8 i274)), V.undef] k = Lp127_9 m (fun i276 => k (Ex.exit (2 : Nat)) [V.f (F.lit (Value.int IntKind.u16 i271)), V.f (F.lit (Value.string s272)), V.f (F.lit (Value.int IntKind.u8 i273)), V.f (F.lit (Value.int IntKind.u8 i276)), V.undef]) i271 s272 i273 n i274
  | 0, _ => rfl
  | n + 1, i274 => by
    simp only [ELp127_9, Lp127_9]
    congr 1
    funext i274
    exact eqLp127_9 m R i271 s272 i273 k n i274
def L10 (m : Nat) : LTbl := addB 127 9 (brLp127_9 m (L9 m)) (L9 m)
theorem okL10 (m : Nat) : LTOk Tryd.prog H (L10 m) := addB_ok (okT16 m) hM (okL9 m) (l := [0, 3, 4, 5, 56]) (by kernel_rfl) (by kernel_rfl) m (fun R n vs k => ELp127_9 m R n vs k) (fun R vs k => rfl) (fun R n vs k x h => by
      simp only [ELp127_9] at h
      split at h
      · exact (stLp127_9 m n R _ _ _ _ k).trans h
      · cases h) fun R vs k x h => by
    unfold brLp127_9 at h
    split at h
    · exact .inl ((eqLp127_9 m R _ _ _ k m _).trans h)
    · exact .inr h

/-- a round of a loop of (hookflash/dialplan.mask).digits -/
def Lp127_3_step {R : Type} (m : Nat) (kx0 : ByteArray → Int → Option R) (i267 : Int) (REC : ByteArray → Int → Option R) (s268 : ByteArray) (i269 : Int) : Option R :=
  bif decide (i269 ≤ (57 : Int)) then (Fn85 m i269 (fun i270 => bif bitsOp IntKind.u16 (BitVec.ofInt (16 : Nat) i267 &&& BitVec.ofInt (16 : Nat) i270) == (0 : Int) then (REC s268 (IntKind.wrap IntKind.u8 (i269 + (1 : Int)))) else
  (Lp127_9 m (fun i277 => bif decide (i277 > IntKind.wrap IntKind.u8 (i269 + (1 : Int))) then (bif decide (ByteArray.size s268 + ByteArray.size (rowsBytes [[F.lit (Value.int IntKind.u8 i269)], [F.lit (Value.int IntKind.u8 (45 : Int))], [F.lit (Value.int IntKind.u8 i277)]]) ≤ strMax) then (letV (s268 ++ rowsBytes [[F.lit (Value.int IntKind.u8 i269)], [F.lit (Value.int IntKind.u8 (45 : Int))], [F.lit (Value.int IntKind.u8 i277)]]) (fun s278 => REC s278 (IntKind.wrap IntKind.u8 (i277 + (1 : Int))))) else
  (none)) else
  (bif decide (i277 > i269) then (bif decide (ByteArray.size s268 + ByteArray.size (rowsBytes [[F.lit (Value.int IntKind.u8 i269)], [F.lit (Value.int IntKind.u8 i277)]]) ≤ strMax) then (letV (s268 ++ rowsBytes [[F.lit (Value.int IntKind.u8 i269)], [F.lit (Value.int IntKind.u8 i277)]]) (fun s279 => REC s279 (IntKind.wrap IntKind.u8 (i277 + (1 : Int))))) else
  (none)) else
  (bif decide (ByteArray.size s268 + ByteArray.size (rowsBytes [[F.lit (Value.int IntKind.u8 i269)]]) ≤ strMax) then (letV (s268 ++ rowsBytes [[F.lit (Value.int IntKind.u8 i269)]]) (fun s280 => REC s280 (IntKind.wrap IntKind.u8 (i277 + (1 : Int))))) else
  (none)))) i267 s268 i269 m i269))) else
  (kx0 s268 i269)
def Lp127_3 {R : Type} (m : Nat) (kx0 : ByteArray → Int → Option R) (i267 : Int) : Nat → ByteArray → Int → Option R
  | 0, _, _ => none
  | n + 1, s268, i269 => Lp127_3_step m kx0 i267 (Lp127_3 m kx0 i267 n) s268 i269
def ELp127_3 (m : Nat) (R : Type) : Nat → List V → (Ex → List V → Option R) → Option R
  | 0, _, _ => none
  | n + 1, vs, k => match vs with
    | [V.f (F.lit (Value.int IntKind.u16 i267)), V.f (F.lit (Value.string s268)), V.f (F.lit (Value.int IntKind.u8 i269)), V.undef] => Lp127_3_step m (fun s281 i282 => k (Ex.exit (0 : Nat)) [V.f (F.lit (Value.int IntKind.u16 i267)), V.f (F.lit (Value.string s281)), V.f (F.lit (Value.int IntKind.u8 i282)), V.undef]) i267 (fun s268 i269 => ELp127_3 m R n [V.f (F.lit (Value.int IntKind.u16 i267)), V.f (F.lit (Value.string s268)), V.f (F.lit (Value.int IntKind.u8 i269)), V.undef] k) s268 i269
    | _ => none
def brLp127_3 (m : Nat) (L : LTbl) (R : Type) (vs : List V) (k : Ex → List V → Option R) : Option R := match vs with
  | [V.f (F.lit (Value.int IntKind.u16 i267)), V.f (F.lit (Value.string s268)), V.f (F.lit (Value.int IntKind.u8 i269)), V.undef] => Lp127_3 m (fun s281 i282 => k (Ex.exit (0 : Nat)) [V.f (F.lit (Value.int IntKind.u16 i267)), V.f (F.lit (Value.string s281)), V.f (F.lit (Value.int IntKind.u8 i282)), V.undef]) i267 m s268 i269
  | _ => L R 127 3 vs k
set_option maxRecDepth 100000 in
theorem stLp127_3 (m n : Nat) (R : Type) (i267 : Int) (s268 : ByteArray) (i269 : Int) (k : Ex → List V → Option R) : codeK Tryd.prog H (T16 m) 127 (L10 m) 4 (loopBody Tryd.prog 127 3) (mkEnv [0, 3, 4, 56] [V.f (F.lit (Value.int IntKind.u16 i267)), V.f (F.lit (Value.string s268)), V.f (F.lit (Value.int IntKind.u8 i269)), V.undef] 0 (H.len 127)) (fun e env' => match e with | .normal => ELp127_3 m R n (vals [0, 3, 4, 56] env') k | e => k e (vals [0, 3, 4, 56] env')) = Lp127_3_step m (fun s281 i282 => k (Ex.exit (0 : Nat)) [V.f (F.lit (Value.int IntKind.u16 i267)), V.f (F.lit (Value.string s281)), V.f (F.lit (Value.int IntKind.u8 i282)), V.undef]) i267 (fun s268 i269 => ELp127_3 m R n [V.f (F.lit (Value.int IntKind.u16 i267)), V.f (F.lit (Value.string s268)), V.f (F.lit (Value.int IntKind.u8 i269)), V.undef] k) s268 i269 := by kernel_rfl
theorem eqLp127_3 (m : Nat) (R : Type) (i267 : Int) (k : Ex → List V → Option R) : ∀ (n : Nat) (s268 : ByteArray) (i269 : Int), ELp127_3 m R n [V.f (F.lit (Value.int IntKind.u16 i267)), V.f (F.lit (Value.string s268)), V.f (F.lit (Value.int IntKind.u8 i269)), V.undef] k = Lp127_3 m (fun s281 i282 => k (Ex.exit (0 : Nat)) [V.f (F.lit (Value.int IntKind.u16 i267)), V.f (F.lit (Value.string s281)), V.f (F.lit (Value.int IntKind.u8 i282)), V.undef]) i267 n s268 i269
  | 0, _, _ => rfl
  | n + 1, s268, i269 => by
    simp only [ELp127_3, Lp127_3]
    congr 1
    funext s268 i269
    exact eqLp127_3 m R i267 k n s268 i269
def L11 (m : Nat) : LTbl := addB 127 3 (brLp127_3 m (L10 m)) (L10 m)
theorem okL11 (m : Nat) : LTOk Tryd.prog H (L11 m) := addB_ok (okT16 m) hM (okL10 m) (l := [0, 3, 4, 56]) (by kernel_rfl) (by kernel_rfl) m (fun R n vs k => ELp127_3 m R n vs k) (fun R vs k => rfl) (fun R n vs k x h => by
      simp only [ELp127_3] at h
      split at h
      · exact (stLp127_3 m n R _ _ _ k).trans h
      · cases h) fun R vs k x h => by
    unfold brLp127_3 at h
    split at h
    · exact .inl ((eqLp127_3 m R _ k m _ _).trans h)
    · exact .inr h

/-- (hookflash/dialplan.mask).digits -/
def Fn127 {R : Type} (m : Nat) : Int → (ByteArray → Option R) → Option R := match m with
  | 0 => fun _ _ => none
  | m + 1 => fun i266 k =>
  Lp127_3 m (fun s283 i284 => k s283) i266 m ({ data := #[] }) ((48 : Int))
def brFn127 (m : Nat) (T : Tbl) (R : Type) (vs : List V) (k : V → List V → Option R) : Option R := match vs with
  | [V.f (F.lit (Value.int IntKind.u16 i266))] => Fn127 m i266 (fun s285 => k (V.f (F.lit (Value.string s285))) [V.undef])
  | _ => T R 127 vs k
set_option maxRecDepth 100000 in
theorem evFn127 (m : Nat) (R : Type) (i266 : Int) (k : V → List V → Option R) : runK Tryd.prog H (T16 m) (L11 m) 127 [V.f (F.lit (Value.int IntKind.u16 i266))] k = Fn127 (m + 1) i266 (fun s285 => k (V.f (F.lit (Value.string s285))) [V.undef]) := by kernel_rfl
def T17 (m : Nat) : Tbl := addT 127 (brFn127 m (T16 m)) (T16 m)
theorem okT17 (m : Nat) : TblOk Tryd.prog (T17 m) := addT_ok (okT16 m) fun R vs k x h => by
  unfold brFn127 at h
  split at h
  · cases m with
    | zero => cases h
    | succ m => exact runK_some (okT16 m) hM (okL11 m) ((evFn127 m R _ k).trans h)
  · exact okT16 m R 127 _ k x h

/-- hookflash/dialplan.readSet -/
def Fn101 {R : Type} (m : Nat) : ByteArray → (Int → Int → Option R) → Option R := match m with
  | 0 => fun _ _ => none
  | m + 1 => fun s201 k =>
  Fn42 m s201 ((93 : Int)) (fun i202 => bif decide (i202 < (0 : Int)) then (k ((0 : Int)) ((0 : Int))) else
  (Lp101_7 m (fun i254 i255 i256 i257 => k i254 i255) (fun i258 i259 => Fn126 m i258 (fun i262 => bif decide (i262 < (2 : Int)) then (k ((0 : Int)) ((0 : Int))) else
  (Fn100 m ((48 : Int)) ((57 : Int)) (fun i263 => bif i258 == i263 then (k ((0 : Int)) ((0 : Int))) else
  (Fn100 m ((49 : Int)) ((57 : Int)) (fun i264 => bif i258 == i264 then (k ((0 : Int)) ((0 : Int))) else
  (Fn100 m ((50 : Int)) ((57 : Int)) (fun i265 => bif i258 == i265 then (k ((0 : Int)) ((0 : Int))) else
  (Fn127 m i258 (fun s286 => bif decide ((0 : Int) ≤ i202 ∧ i202 ≤ (↑(ByteArray.size s201) : Int)) then (bif !ByteArray.toList s286 == ByteArray.toList (ByteArray.extract s201 (0 : Nat) (Int.toNat i202)) then (k ((0 : Int)) ((0 : Int))) else
  (k i258 (IntKind.wrap IntKind.i64 (i202 + (1 : Int))))) else
  (none))))))))))) s201 ((0 : Int)) ((0 : Int)) i202 m ((0 : Int)) ((0 : Int))))
def brFn101 (m : Nat) (T : Tbl) (R : Type) (vs : List V) (k : V → List V → Option R) : Option R := match vs with
  | [V.f (F.lit (Value.string s201))] => Fn101 m s201 (fun i287 i288 => k (V.tup [V.f (F.lit (Value.int IntKind.u16 i287)), V.f (F.lit (Value.int IntKind.i64 i288))]) [V.undef])
  | _ => T R 101 vs k
set_option maxRecDepth 100000 in
theorem evFn101 (m : Nat) (R : Type) (s201 : ByteArray) (k : V → List V → Option R) : runK Tryd.prog H (T17 m) (L11 m) 101 [V.f (F.lit (Value.string s201))] k = Fn101 (m + 1) s201 (fun i287 i288 => k (V.tup [V.f (F.lit (Value.int IntKind.u16 i287)), V.f (F.lit (Value.int IntKind.i64 i288))]) [V.undef]) := by kernel_rfl
def T18 (m : Nat) : Tbl := addT 101 (brFn101 m (T17 m)) (T17 m)
theorem okT18 (m : Nat) : TblOk Tryd.prog (T18 m) := addT_ok (okT17 m) fun R vs k x h => by
  unfold brFn101 at h
  split at h
  · cases m with
    | zero => cases h
    | succ m => exact runK_some (okT17 m) hM (okL11 m) ((evFn101 m R _ k).trans h)
  · exact okT17 m R 101 _ k x h

/-- hookflash/dialplan.element -/
def Fn79 {R : Type} (m : Nat) : ByteArray → (Int → Int → Option R) → Option R := match m with
  | 0 => fun _ _ => none
  | m + 1 => fun s176 k =>
  bif decide ((0 : Int) ≤ (0 : Int) ∧ (0 : Int) < (↑(ByteArray.size s176) : Int)) then (bif (↑(UInt8.toNat (Array.getD (ByteArray.data s176) (Int.toNat (0 : Int)) (0 : UInt8))) : Int) == (88 : Int) then (Fn100 m ((48 : Int)) ((57 : Int)) (fun i198 => k i198 ((1 : Int)))) else
  (bif (↑(UInt8.toNat (Array.getD (ByteArray.data s176) (Int.toNat (0 : Int)) (0 : UInt8))) : Int) == (90 : Int) then (Fn100 m ((49 : Int)) ((57 : Int)) (fun i199 => k i199 ((1 : Int)))) else
  (bif (↑(UInt8.toNat (Array.getD (ByteArray.data s176) (Int.toNat (0 : Int)) (0 : UInt8))) : Int) == (78 : Int) then (Fn100 m ((50 : Int)) ((57 : Int)) (fun i200 => k i200 ((1 : Int)))) else
  (bif (↑(UInt8.toNat (Array.getD (ByteArray.data s176) (Int.toNat (0 : Int)) (0 : UInt8))) : Int) == (91 : Int) then (bif decide ((0 : Int) ≤ (1 : Int) ∧ (1 : Int) ≤ (↑(ByteArray.size s176) : Int)) then (Fn101 m (ByteArray.extract s176 (Int.toNat (1 : Int)) (ByteArray.size s176)) (fun i289 i290 => bif i290 == (0 : Int) then (k ((0 : Int)) ((0 : Int))) else
  (k i289 (IntKind.wrap IntKind.i64 (i290 + (1 : Int)))))) else
  (none)) else
  (Fn42 m ({ data := #[(35 : UInt8), (42 : UInt8), (48 : UInt8), (49 : UInt8), (50 : UInt8), (51 : UInt8), (52 : UInt8), (53 : UInt8), (54 : UInt8), (55 : UInt8), (56 : UInt8), (57 : UInt8)] }) ((↑(UInt8.toNat (Array.getD (ByteArray.data s176) (Int.toNat (0 : Int)) (0 : UInt8))) : Int)) (fun i291 => bif decide (i291 ≥ (0 : Int)) then (Fn85 m ((↑(UInt8.toNat (Array.getD (ByteArray.data s176) (Int.toNat (0 : Int)) (0 : UInt8))) : Int)) (fun i292 => k i292 ((1 : Int)))) else
  (k ((0 : Int)) ((0 : Int))))))))) else
  (none)
def brFn79 (m : Nat) (T : Tbl) (R : Type) (vs : List V) (k : V → List V → Option R) : Option R := match vs with
  | [V.f (F.lit (Value.string s176))] => Fn79 m s176 (fun i293 i294 => k (V.tup [V.f (F.lit (Value.int IntKind.u16 i293)), V.f (F.lit (Value.int IntKind.i64 i294))]) [V.undef])
  | _ => T R 79 vs k
set_option maxRecDepth 100000 in
theorem evFn79 (m : Nat) (R : Type) (s176 : ByteArray) (k : V → List V → Option R) : runK Tryd.prog H (T18 m) (L11 m) 79 [V.f (F.lit (Value.string s176))] k = Fn79 (m + 1) s176 (fun i293 i294 => k (V.tup [V.f (F.lit (Value.int IntKind.u16 i293)), V.f (F.lit (Value.int IntKind.i64 i294))]) [V.undef]) := by kernel_rfl
def T19 (m : Nat) : Tbl := addT 79 (brFn79 m (T18 m)) (T18 m)
theorem okT19 (m : Nat) : TblOk Tryd.prog (T19 m) := addT_ok (okT18 m) fun R vs k x h => by
  unfold brFn79 at h
  split at h
  · cases m with
    | zero => cases h
    | succ m => exact runK_some (okT18 m) hM (okL11 m) ((evFn79 m R _ k).trans h)
  · exact okT18 m R 79 _ k x h

/-- a rest of hookflash/dialplan.read -/
def Jn39_11 {R : Type} (m : Nat) (kx0 : Abs.Rows → Int → Int → Option R) (kx1 : Abs.Rows → ByteArray → Option R) (r170 : Abs.Rows) (i171 : Int) (i172 : Int) (r173 : Abs.Rows) (i174 : Int) (s175 : ByteArray) : Option R :=
  Fn79 m s175 (fun i295 i296 => bif i296 == (0 : Int) then (kx0 rows0 ((0 : Int)) ((9 : Int))) else
  (bif decide (List.length r173 + List.length [[F.lit (Value.int IntKind.u16 i295)]] ≤ rowMax) then (letV (r173 ++ [[F.lit (Value.int IntKind.u16 i295)]]) (fun r297 => bif decide ((0 : Int) ≤ i296 ∧ i296 ≤ (↑(ByteArray.size s175) : Int)) then (kx1 r297 (ByteArray.extract s175 (Int.toNat i296) (ByteArray.size s175))) else
  (none))) else
  (none)))
def brJn39_11 (m : Nat) (L : LTbl) (R : Type) (vs : List V) (k : Ex → List V → Option R) : Option R := match vs with
  | [V.obj [V.own [LT.int IntKind.u16] r170, V.f (F.lit (Value.int IntKind.u8 i171))], V.f (F.lit (Value.int IntKind.i64 i172)), V.obj [V.own [LT.int IntKind.u16] r173, V.f (F.lit (Value.int IntKind.u8 i174))], V.f (F.lit (Value.string s175)), V.undef] => Jn39_11 m (fun r298 i299 i300 => k Ex.ret [V.obj [V.own [LT.int IntKind.u16] r298, V.f (F.lit (Value.int IntKind.u8 i299))], V.f (F.lit (Value.int IntKind.i64 i300)), V.obj [V.own [LT.int IntKind.u16] r173, V.f (F.lit (Value.int IntKind.u8 i174))], V.f (F.lit (Value.string s175)), V.undef]) (fun r301 s302 => k Ex.normal [V.obj [V.own [LT.int IntKind.u16] r170, V.f (F.lit (Value.int IntKind.u8 i171))], V.f (F.lit (Value.int IntKind.i64 i172)), V.obj [V.own [LT.int IntKind.u16] r301, V.f (F.lit (Value.int IntKind.u8 i174))], V.f (F.lit (Value.string s302)), V.undef]) r170 i171 i172 r173 i174 s175
  | _ => L R 39 11 vs k
set_option maxRecDepth 100000 in
theorem evJn39_11 (m : Nat) (R : Type) (r170 : Abs.Rows) (i171 : Int) (i172 : Int) (r173 : Abs.Rows) (i174 : Int) (s175 : ByteArray) (k : Ex → List V → Option R) : codeK Tryd.prog H (T19 m) 39 (L11 m) 12 (loopBody Tryd.prog 39 11) (mkEnv [2, 3, 4, 5, 58] [V.obj [V.own [LT.int IntKind.u16] r170, V.f (F.lit (Value.int IntKind.u8 i171))], V.f (F.lit (Value.int IntKind.i64 i172)), V.obj [V.own [LT.int IntKind.u16] r173, V.f (F.lit (Value.int IntKind.u8 i174))], V.f (F.lit (Value.string s175)), V.undef] 0 (H.len 39)) (fun e env' => k e (vals [2, 3, 4, 5, 58] env')) = Jn39_11 m (fun r298 i299 i300 => k Ex.ret [V.obj [V.own [LT.int IntKind.u16] r298, V.f (F.lit (Value.int IntKind.u8 i299))], V.f (F.lit (Value.int IntKind.i64 i300)), V.obj [V.own [LT.int IntKind.u16] r173, V.f (F.lit (Value.int IntKind.u8 i174))], V.f (F.lit (Value.string s175)), V.undef]) (fun r301 s302 => k Ex.normal [V.obj [V.own [LT.int IntKind.u16] r170, V.f (F.lit (Value.int IntKind.u8 i171))], V.f (F.lit (Value.int IntKind.i64 i172)), V.obj [V.own [LT.int IntKind.u16] r301, V.f (F.lit (Value.int IntKind.u8 i174))], V.f (F.lit (Value.string s302)), V.undef]) r170 i171 i172 r173 i174 s175 := by kernel_rfl
def L12 (m : Nat) : LTbl := addJ 39 11 (brJn39_11 m (L11 m)) (L11 m)
theorem okL12 (m : Nat) : LTOk Tryd.prog H (L12 m) := addJ_ok (okT19 m) hM (okL11 m) (l := [2, 3, 4, 5, 58]) (by kernel_rfl) (by kernel_rfl) fun R vs k x h => by
    unfold brJn39_11 at h
    split at h
    · exact .inl ((evJn39_11 m R _ _ _ _ _ _ k).trans h)
    · exact .inr h

/-- a round of a loop of hookflash/dialplan.read -/
def Lp39_6_step {R : Type} (m : Nat) (kx0 : Abs.Rows → Int → ByteArray → Option R) (kx1 : Abs.Rows → Int → Int → Abs.Rows → ByteArray → Option R) (r164 : Abs.Rows) (i165 : Int) (i166 : Int) (i168 : Int) (REC : Abs.Rows → ByteArray → Option R) (r167 : Abs.Rows) (s169 : ByteArray) : Option R :=
  bif !ByteArray.toList s169 == ByteArray.toList { data := #[] } then (bif ByteArray.toList s169 == ByteArray.toList { data := #[(46 : UInt8)] } then (bif decide ((0 : Int) ≤ (0 : Int) ∧ (0 : Int) < (↑(ByteArray.size s169) : Int)) then (kx0 r167 ((↑(UInt8.toNat (Array.getD (ByteArray.data s169) (Int.toNat (0 : Int)) (0 : UInt8))) : Int)) s169) else
  (none)) else
  (bif ByteArray.toList s169 == ByteArray.toList { data := #[(33 : UInt8)] } then (bif decide ((0 : Int) ≤ (0 : Int) ∧ (0 : Int) < (↑(ByteArray.size s169) : Int)) then (kx0 r167 ((↑(UInt8.toNat (Array.getD (ByteArray.data s169) (Int.toNat (0 : Int)) (0 : UInt8))) : Int)) s169) else
  (none)) else
  (Jn39_11 m (fun r303 i304 i305 => kx1 r303 i304 i305 r167 s169) (fun r306 s307 => REC r306 s307) r164 i165 i166 r167 i168 s169))) else
  (kx0 r167 i168 s169)
def Lp39_6 {R : Type} (m : Nat) (kx0 : Abs.Rows → Int → ByteArray → Option R) (kx1 : Abs.Rows → Int → Int → Abs.Rows → ByteArray → Option R) (r164 : Abs.Rows) (i165 : Int) (i166 : Int) (i168 : Int) : Nat → Abs.Rows → ByteArray → Option R
  | 0, _, _ => none
  | n + 1, r167, s169 => Lp39_6_step m kx0 kx1 r164 i165 i166 i168 (Lp39_6 m kx0 kx1 r164 i165 i166 i168 n) r167 s169
def ELp39_6 (m : Nat) (R : Type) : Nat → List V → (Ex → List V → Option R) → Option R
  | 0, _, _ => none
  | n + 1, vs, k => match vs with
    | [V.obj [V.own [LT.int IntKind.u16] r164, V.f (F.lit (Value.int IntKind.u8 i165))], V.f (F.lit (Value.int IntKind.i64 i166)), V.obj [V.own [LT.int IntKind.u16] r167, V.f (F.lit (Value.int IntKind.u8 i168))], V.f (F.lit (Value.string s169)), V.undef] => Lp39_6_step m (fun r308 i309 s310 => k (Ex.exit (0 : Nat)) [V.obj [V.own [LT.int IntKind.u16] r164, V.f (F.lit (Value.int IntKind.u8 i165))], V.f (F.lit (Value.int IntKind.i64 i166)), V.obj [V.own [LT.int IntKind.u16] r308, V.f (F.lit (Value.int IntKind.u8 i309))], V.f (F.lit (Value.string s310)), V.undef]) (fun r311 i312 i313 r314 s315 => k Ex.ret [V.obj [V.own [LT.int IntKind.u16] r311, V.f (F.lit (Value.int IntKind.u8 i312))], V.f (F.lit (Value.int IntKind.i64 i313)), V.obj [V.own [LT.int IntKind.u16] r314, V.f (F.lit (Value.int IntKind.u8 i168))], V.f (F.lit (Value.string s315)), V.undef]) r164 i165 i166 i168 (fun r167 s169 => ELp39_6 m R n [V.obj [V.own [LT.int IntKind.u16] r164, V.f (F.lit (Value.int IntKind.u8 i165))], V.f (F.lit (Value.int IntKind.i64 i166)), V.obj [V.own [LT.int IntKind.u16] r167, V.f (F.lit (Value.int IntKind.u8 i168))], V.f (F.lit (Value.string s169)), V.undef] k) r167 s169
    | _ => none
def brLp39_6 (m : Nat) (L : LTbl) (R : Type) (vs : List V) (k : Ex → List V → Option R) : Option R := match vs with
  | [V.obj [V.own [LT.int IntKind.u16] r164, V.f (F.lit (Value.int IntKind.u8 i165))], V.f (F.lit (Value.int IntKind.i64 i166)), V.obj [V.own [LT.int IntKind.u16] r167, V.f (F.lit (Value.int IntKind.u8 i168))], V.f (F.lit (Value.string s169)), V.undef] => Lp39_6 m (fun r308 i309 s310 => k (Ex.exit (0 : Nat)) [V.obj [V.own [LT.int IntKind.u16] r164, V.f (F.lit (Value.int IntKind.u8 i165))], V.f (F.lit (Value.int IntKind.i64 i166)), V.obj [V.own [LT.int IntKind.u16] r308, V.f (F.lit (Value.int IntKind.u8 i309))], V.f (F.lit (Value.string s310)), V.undef]) (fun r311 i312 i313 r314 s315 => k Ex.ret [V.obj [V.own [LT.int IntKind.u16] r311, V.f (F.lit (Value.int IntKind.u8 i312))], V.f (F.lit (Value.int IntKind.i64 i313)), V.obj [V.own [LT.int IntKind.u16] r314, V.f (F.lit (Value.int IntKind.u8 i168))], V.f (F.lit (Value.string s315)), V.undef]) r164 i165 i166 i168 m r167 s169
  | _ => L R 39 6 vs k
set_option maxRecDepth 100000 in
theorem stLp39_6 (m n : Nat) (R : Type) (r164 : Abs.Rows) (i165 : Int) (i166 : Int) (r167 : Abs.Rows) (i168 : Int) (s169 : ByteArray) (k : Ex → List V → Option R) : codeK Tryd.prog H (T19 m) 39 (L12 m) 7 (loopBody Tryd.prog 39 6) (mkEnv [2, 3, 4, 5, 58] [V.obj [V.own [LT.int IntKind.u16] r164, V.f (F.lit (Value.int IntKind.u8 i165))], V.f (F.lit (Value.int IntKind.i64 i166)), V.obj [V.own [LT.int IntKind.u16] r167, V.f (F.lit (Value.int IntKind.u8 i168))], V.f (F.lit (Value.string s169)), V.undef] 0 (H.len 39)) (fun e env' => match e with | .normal => ELp39_6 m R n (vals [2, 3, 4, 5, 58] env') k | e => k e (vals [2, 3, 4, 5, 58] env')) = Lp39_6_step m (fun r308 i309 s310 => k (Ex.exit (0 : Nat)) [V.obj [V.own [LT.int IntKind.u16] r164, V.f (F.lit (Value.int IntKind.u8 i165))], V.f (F.lit (Value.int IntKind.i64 i166)), V.obj [V.own [LT.int IntKind.u16] r308, V.f (F.lit (Value.int IntKind.u8 i309))], V.f (F.lit (Value.string s310)), V.undef]) (fun r311 i312 i313 r314 s315 => k Ex.ret [V.obj [V.own [LT.int IntKind.u16] r311, V.f (F.lit (Value.int IntKind.u8 i312))], V.f (F.lit (Value.int IntKind.i64 i313)), V.obj [V.own [LT.int IntKind.u16] r314, V.f (F.lit (Value.int IntKind.u8 i168))], V.f (F.lit (Value.string s315)), V.undef]) r164 i165 i166 i168 (fun r167 s169 => ELp39_6 m R n [V.obj [V.own [LT.int IntKind.u16] r164, V.f (F.lit (Value.int IntKind.u8 i165))], V.f (F.lit (Value.int IntKind.i64 i166)), V.obj [V.own [LT.int IntKind.u16] r167, V.f (F.lit (Value.int IntKind.u8 i168))], V.f (F.lit (Value.string s169)), V.undef] k) r167 s169 := by kernel_rfl
theorem eqLp39_6 (m : Nat) (R : Type) (r164 : Abs.Rows) (i165 : Int) (i166 : Int) (i168 : Int) (k : Ex → List V → Option R) : ∀ (n : Nat) (r167 : Abs.Rows) (s169 : ByteArray), ELp39_6 m R n [V.obj [V.own [LT.int IntKind.u16] r164, V.f (F.lit (Value.int IntKind.u8 i165))], V.f (F.lit (Value.int IntKind.i64 i166)), V.obj [V.own [LT.int IntKind.u16] r167, V.f (F.lit (Value.int IntKind.u8 i168))], V.f (F.lit (Value.string s169)), V.undef] k = Lp39_6 m (fun r308 i309 s310 => k (Ex.exit (0 : Nat)) [V.obj [V.own [LT.int IntKind.u16] r164, V.f (F.lit (Value.int IntKind.u8 i165))], V.f (F.lit (Value.int IntKind.i64 i166)), V.obj [V.own [LT.int IntKind.u16] r308, V.f (F.lit (Value.int IntKind.u8 i309))], V.f (F.lit (Value.string s310)), V.undef]) (fun r311 i312 i313 r314 s315 => k Ex.ret [V.obj [V.own [LT.int IntKind.u16] r311, V.f (F.lit (Value.int IntKind.u8 i312))], V.f (F.lit (Value.int IntKind.i64 i313)), V.obj [V.own [LT.int IntKind.u16] r314, V.f (F.lit (Value.int IntKind.u8 i168))], V.f (F.lit (Value.string s315)), V.undef]) r164 i165 i166 i168 n r167 s169
  | 0, _, _ => rfl
  | n + 1, r167, s169 => by
    simp only [ELp39_6, Lp39_6]
    congr 1
    funext r167 s169
    exact eqLp39_6 m R r164 i165 i166 i168 k n r167 s169
def L13 (m : Nat) : LTbl := addB 39 6 (brLp39_6 m (L12 m)) (L12 m)
theorem okL13 (m : Nat) : LTOk Tryd.prog H (L13 m) := addB_ok (okT19 m) hM (okL12 m) (l := [2, 3, 4, 5, 58]) (by kernel_rfl) (by kernel_rfl) m (fun R n vs k => ELp39_6 m R n vs k) (fun R vs k => rfl) (fun R n vs k x h => by
      simp only [ELp39_6] at h
      split at h
      · exact (stLp39_6 m n R _ _ _ _ _ _ k).trans h
      · cases h) fun R vs k x h => by
    unfold brLp39_6 at h
    split at h
    · exact .inl ((eqLp39_6 m R _ _ _ _ k m _ _).trans h)
    · exact .inr h

/-- a rest of hookflash/dialplan.read -/
def Jn39_19 {R : Type} (m : Nat) (kx0 : Abs.Rows → Int → Int → Option R) (kx1 : Int → Option R) (r319 : Abs.Rows) (i320 : Int) (i321 : Int) (r322 : Abs.Rows) (i323 : Int) (i324 : Int) : Option R :=
  bif decide (i324 < (1 : Int)) then (kx0 rows0 ((0 : Int)) ((9 : Int))) else
  (bif decide (i324 > (30 : Int)) then (kx0 rows0 ((0 : Int)) ((9 : Int))) else
  (kx1 ((0 : Int))))
def brJn39_19 (m : Nat) (L : LTbl) (R : Type) (vs : List V) (k : Ex → List V → Option R) : Option R := match vs with
  | [V.obj [V.own [LT.int IntKind.u16] r319, V.f (F.lit (Value.int IntKind.u8 i320))], V.f (F.lit (Value.int IntKind.i64 i321)), V.obj [V.own [LT.int IntKind.u16] r322, V.f (F.lit (Value.int IntKind.u8 i323))], V.f (F.lit (Value.int IntKind.i64 i324)), V.undef] => Jn39_19 m (fun r325 i326 i327 => k Ex.ret [V.obj [V.own [LT.int IntKind.u16] r325, V.f (F.lit (Value.int IntKind.u8 i326))], V.f (F.lit (Value.int IntKind.i64 i327)), V.obj [V.own [LT.int IntKind.u16] r322, V.f (F.lit (Value.int IntKind.u8 i323))], V.f (F.lit (Value.int IntKind.i64 i324)), V.undef]) (fun i328 => k Ex.ret [V.obj [V.f (F.lst [LT.int IntKind.u16] r322), V.f (F.lit (Value.int IntKind.u8 i323))], V.f (F.lit (Value.int IntKind.i64 i328)), V.obj [V.f (F.lst [LT.int IntKind.u16] r322), V.f (F.lit (Value.int IntKind.u8 i323))], V.f (F.lit (Value.int IntKind.i64 i324)), V.undef]) r319 i320 i321 r322 i323 i324
  | _ => L R 39 19 vs k
set_option maxRecDepth 100000 in
theorem evJn39_19 (m : Nat) (R : Type) (r319 : Abs.Rows) (i320 : Int) (i321 : Int) (r322 : Abs.Rows) (i323 : Int) (i324 : Int) (k : Ex → List V → Option R) : codeK Tryd.prog H (T19 m) 39 (L13 m) 20 (loopBody Tryd.prog 39 19) (mkEnv [2, 3, 4, 8, 58] [V.obj [V.own [LT.int IntKind.u16] r319, V.f (F.lit (Value.int IntKind.u8 i320))], V.f (F.lit (Value.int IntKind.i64 i321)), V.obj [V.own [LT.int IntKind.u16] r322, V.f (F.lit (Value.int IntKind.u8 i323))], V.f (F.lit (Value.int IntKind.i64 i324)), V.undef] 0 (H.len 39)) (fun e env' => k e (vals [2, 3, 4, 8, 58] env')) = Jn39_19 m (fun r325 i326 i327 => k Ex.ret [V.obj [V.own [LT.int IntKind.u16] r325, V.f (F.lit (Value.int IntKind.u8 i326))], V.f (F.lit (Value.int IntKind.i64 i327)), V.obj [V.own [LT.int IntKind.u16] r322, V.f (F.lit (Value.int IntKind.u8 i323))], V.f (F.lit (Value.int IntKind.i64 i324)), V.undef]) (fun i328 => k Ex.ret [V.obj [V.f (F.lst [LT.int IntKind.u16] r322), V.f (F.lit (Value.int IntKind.u8 i323))], V.f (F.lit (Value.int IntKind.i64 i328)), V.obj [V.f (F.lst [LT.int IntKind.u16] r322), V.f (F.lit (Value.int IntKind.u8 i323))], V.f (F.lit (Value.int IntKind.i64 i324)), V.undef]) r319 i320 i321 r322 i323 i324 := by kernel_rfl
def L14 (m : Nat) : LTbl := addJ 39 19 (brJn39_19 m (L13 m)) (L13 m)
theorem okL14 (m : Nat) : LTOk Tryd.prog H (L14 m) := addJ_ok (okT19 m) hM (okL13 m) (l := [2, 3, 4, 8, 58]) (by kernel_rfl) (by kernel_rfl) fun R vs k x h => by
    unfold brJn39_19 at h
    split at h
    · exact .inl ((evJn39_19 m R _ _ _ _ _ _ k).trans h)
    · exact .inr h

/-- hookflash/dialplan.read -/
def Fn39 {R : Type} (m : Nat) : ByteArray → (Abs.Rows → Int → Int → Option R) → Option R := match m with
  | 0 => fun _ _ => none
  | m + 1 => fun s163 k =>
  bif decide ((↑(ByteArray.size s163) : Int) > (60 : Int)) then (k rows0 ((0 : Int)) ((2 : Int))) else
  (Lp39_6 m (fun r316 i317 s318 => bif i317 != (0 : Int) then (Jn39_19 m (fun r329 i330 i331 => k r329 i330 i331) (fun i332 => k r316 i317 i332) rows0 ((0 : Int)) ((0 : Int)) r316 i317 (IntKind.wrap IntKind.i64 ((↑(List.length r316) : Int) + (1 : Int)))) else
  (Jn39_19 m (fun r333 i334 i335 => k r333 i334 i335) (fun i336 => k r316 i317 i336) rows0 ((0 : Int)) ((0 : Int)) r316 i317 ((↑(List.length r316) : Int)))) (fun r337 i338 i339 r340 s341 => k r337 i338 i339) rows0 ((0 : Int)) ((0 : Int)) ((0 : Int)) m rows0 s163)
def brFn39 (m : Nat) (T : Tbl) (R : Type) (vs : List V) (k : V → List V → Option R) : Option R := match vs with
  | [V.f (F.lit (Value.string s163))] => Fn39 m s163 (fun r342 i343 i344 => k (V.tup [V.agg [V.f (F.lst [LT.int IntKind.u16] r342), V.f (F.lit (Value.int IntKind.u8 i343))], V.f (F.lit (Value.int IntKind.i64 i344))]) [V.undef])
  | _ => T R 39 vs k
set_option maxRecDepth 100000 in
theorem evFn39 (m : Nat) (R : Type) (s163 : ByteArray) (k : V → List V → Option R) : runK Tryd.prog H (T19 m) (L14 m) 39 [V.f (F.lit (Value.string s163))] (freezeK 1 k) = Fn39 (m + 1) s163 (fun r342 i343 i344 => k (V.tup [V.agg [V.f (F.lst [LT.int IntKind.u16] r342), V.f (F.lit (Value.int IntKind.u8 i343))], V.f (F.lit (Value.int IntKind.i64 i344))]) [V.undef]) := by kernel_rfl
def T20 (m : Nat) : Tbl := addT 39 (brFn39 m (T19 m)) (T19 m)
theorem okT20 (m : Nat) : TblOk Tryd.prog (T20 m) := addT_ok (okT19 m) fun R vs k x h => by
  unfold brFn39 at h
  split at h
  · cases m with
    | zero => cases h
    | succ m => exact runK_frz (okT19 m) hM (okL14 m) ((evFn39 m R _ k).trans h)
  · exact okT19 m R 39 _ k x h

/-- hookflash/dialplan.isDialled -/
def Fn45 {R : Type} (m : Nat) : ByteArray → Int → (Bool → Option R) → Option R := match m with
  | 0 => fun _ _ _ => none
  | m + 1 => fun s348 i349 k =>
  bif decide ((↑(ByteArray.size s348) : Int) ≥ i349) then (bif decide ((↑(ByteArray.size s348) : Int) ≤ (30 : Int)) then (bif trimOk s348 { data := #[(35 : UInt8), (42 : UInt8), (48 : UInt8), (49 : UInt8), (50 : UInt8), (51 : UInt8), (52 : UInt8), (53 : UInt8), (54 : UInt8), (55 : UInt8), (56 : UInt8), (57 : UInt8)] } then (k (ByteArray.toList (trimB s348 { data := #[(35 : UInt8), (42 : UInt8), (48 : UInt8), (49 : UInt8), (50 : UInt8), (51 : UInt8), (52 : UInt8), (53 : UInt8), (54 : UInt8), (55 : UInt8), (56 : UInt8), (57 : UInt8)] }) == ByteArray.toList { data := #[] })) else
  (none)) else
  (k false)) else
  (k false)
def brFn45 (m : Nat) (T : Tbl) (R : Type) (vs : List V) (k : V → List V → Option R) : Option R := match vs with
  | [V.f (F.lit (Value.string s348)), V.f (F.lit (Value.int IntKind.i64 i349))] => Fn45 m s348 i349 (fun b350 => k (V.f (F.lit (Value.bool b350))) [V.undef, V.undef])
  | _ => T R 45 vs k
set_option maxRecDepth 100000 in
theorem evFn45 (m : Nat) (R : Type) (s348 : ByteArray) (i349 : Int) (k : V → List V → Option R) : runK Tryd.prog H (T20 m) (L14 m) 45 [V.f (F.lit (Value.string s348)), V.f (F.lit (Value.int IntKind.i64 i349))] k = Fn45 (m + 1) s348 i349 (fun b350 => k (V.f (F.lit (Value.bool b350))) [V.undef, V.undef]) := by kernel_rfl
def T21 (m : Nat) : Tbl := addT 45 (brFn45 m (T20 m)) (T20 m)
theorem okT21 (m : Nat) : TblOk Tryd.prog (T21 m) := addT_ok (okT20 m) fun R vs k x h => by
  unfold brFn45 at h
  split at h
  · cases m with
    | zero => cases h
    | succ m => exact runK_some (okT20 m) hM (okL14 m) ((evFn45 m R _ _ k).trans h)
  · exact okT20 m R 45 _ k x h

/-- (hookflash/dialplan.pattern).takes -/
def Fn80 {R : Type} (m : Nat) : Abs.Rows → Int → Int → (Int → Bool → Option R) → Option R := match m with
  | 0 => fun _ _ _ _ => none
  | m + 1 => fun r362 i363 i364 k =>
  bif decide (i364 < (↑(List.length r362) : Int)) then (bif decide ((0 : Int) ≤ i364 ∧ i364 < (↑(List.length r362) : Int)) then (k (fI r362 (Int.toNat i364) (0 : Nat)) false) else
  (none)) else
  (bif i363 == (46 : Int) then (k ((4095 : Int)) (decide (i364 > (↑(List.length r362) : Int)))) else
  (bif i363 == (33 : Int) then (k ((4095 : Int)) true) else
  (k ((0 : Int)) (i364 == (↑(List.length r362) : Int)))))
def brFn80 (m : Nat) (T : Tbl) (R : Type) (vs : List V) (k : V → List V → Option R) : Option R := match vs with
  | [V.agg [V.f (F.lst [LT.int IntKind.u16] r362), V.f (F.lit (Value.int IntKind.u8 i363))], V.f (F.lit (Value.int IntKind.i64 i364))] => Fn80 m r362 i363 i364 (fun i365 b366 => k (V.tup [V.f (F.lit (Value.int IntKind.u16 i365)), V.f (F.lit (Value.bool b366))]) [V.undef, V.undef])
  | _ => T R 80 vs k
set_option maxRecDepth 100000 in
theorem evFn80 (m : Nat) (R : Type) (r362 : Abs.Rows) (i363 : Int) (i364 : Int) (k : V → List V → Option R) : runK Tryd.prog H (T21 m) (L14 m) 80 [V.agg [V.f (F.lst [LT.int IntKind.u16] r362), V.f (F.lit (Value.int IntKind.u8 i363))], V.f (F.lit (Value.int IntKind.i64 i364))] k = Fn80 (m + 1) r362 i363 i364 (fun i365 b366 => k (V.tup [V.f (F.lit (Value.int IntKind.u16 i365)), V.f (F.lit (Value.bool b366))]) [V.undef, V.undef]) := by kernel_rfl
def T22 (m : Nat) : Tbl := addT 80 (brFn80 m (T21 m)) (T21 m)
theorem okT22 (m : Nat) : TblOk Tryd.prog (T22 m) := addT_ok (okT21 m) fun R vs k x h => by
  unfold brFn80 at h
  split at h
  · cases m with
    | zero => cases h
    | succ m => exact runK_some (okT21 m) hM (okL14 m) ((evFn80 m R _ _ _ k).trans h)
  · exact okT21 m R 80 _ k x h

/-- a round of a loop of (hookflash/dialplan.pattern).begins -/
def Lp46_2_step {R : Type} (m : Nat) (kx0 : Bool → Bool → Int → Option R) (kx1 : Int → Option R) (s355 : ByteArray) (r356 : Abs.Rows) (i357 : Int) (b358 : Bool) (b359 : Bool) (i360 : Int) (REC : Int → Option R) (i361 : Int) : Option R :=
  bif decide (i361 < i360) then (Fn80 m r356 i357 i361 (fun i367 b368 => bif decide ((0 : Int) ≤ i361 ∧ i361 < (↑(ByteArray.size s355) : Int)) then (Fn85 m ((↑(UInt8.toNat (Array.getD (ByteArray.data s355) (Int.toNat i361) (0 : UInt8))) : Int)) (fun i369 => bif bitsOp IntKind.u16 (BitVec.ofInt (16 : Nat) i367 &&& BitVec.ofInt (16 : Nat) i369) == (0 : Int) then (kx0 false false i361) else
  (REC (IntKind.wrap IntKind.i64 (i361 + (1 : Int)))))) else
  (none))) else
  (kx1 i361)
def Lp46_2 {R : Type} (m : Nat) (kx0 : Bool → Bool → Int → Option R) (kx1 : Int → Option R) (s355 : ByteArray) (r356 : Abs.Rows) (i357 : Int) (b358 : Bool) (b359 : Bool) (i360 : Int) : Nat → Int → Option R
  | 0, _ => none
  | n + 1, i361 => Lp46_2_step m kx0 kx1 s355 r356 i357 b358 b359 i360 (Lp46_2 m kx0 kx1 s355 r356 i357 b358 b359 i360 n) i361
def ELp46_2 (m : Nat) (R : Type) : Nat → List V → (Ex → List V → Option R) → Option R
  | 0, _, _ => none
  | n + 1, vs, k => match vs with
    | [V.f (F.lit (Value.string s355)), V.obj [V.f (F.lst [LT.int IntKind.u16] r356), V.f (F.lit (Value.int IntKind.u8 i357))], V.f (F.lit (Value.bool b358)), V.f (F.lit (Value.bool b359)), V.f (F.lit (Value.int IntKind.i64 i360)), V.f (F.lit (Value.int IntKind.i64 i361)), V.undef, V.undef] => Lp46_2_step m (fun b370 b371 i372 => k Ex.ret [V.f (F.lit (Value.string s355)), V.obj [V.f (F.lst [LT.int IntKind.u16] r356), V.f (F.lit (Value.int IntKind.u8 i357))], V.f (F.lit (Value.bool b370)), V.f (F.lit (Value.bool b371)), V.f (F.lit (Value.int IntKind.i64 i360)), V.f (F.lit (Value.int IntKind.i64 i372)), V.undef, V.undef]) (fun i373 => k (Ex.exit (0 : Nat)) [V.f (F.lit (Value.string s355)), V.obj [V.f (F.lst [LT.int IntKind.u16] r356), V.f (F.lit (Value.int IntKind.u8 i357))], V.f (F.lit (Value.bool b358)), V.f (F.lit (Value.bool b359)), V.f (F.lit (Value.int IntKind.i64 i360)), V.f (F.lit (Value.int IntKind.i64 i373)), V.undef, V.undef]) s355 r356 i357 b358 b359 i360 (fun i361 => ELp46_2 m R n [V.f (F.lit (Value.string s355)), V.obj [V.f (F.lst [LT.int IntKind.u16] r356), V.f (F.lit (Value.int IntKind.u8 i357))], V.f (F.lit (Value.bool b358)), V.f (F.lit (Value.bool b359)), V.f (F.lit (Value.int IntKind.i64 i360)), V.f (F.lit (Value.int IntKind.i64 i361)), V.undef, V.undef] k) i361
    | _ => none
def brLp46_2 (m : Nat) (L : LTbl) (R : Type) (vs : List V) (k : Ex → List V → Option R) : Option R := match vs with
  | [V.f (F.lit (Value.string s355)), V.obj [V.f (F.lst [LT.int IntKind.u16] r356), V.f (F.lit (Value.int IntKind.u8 i357))], V.f (F.lit (Value.bool b358)), V.f (F.lit (Value.bool b359)), V.f (F.lit (Value.int IntKind.i64 i360)), V.f (F.lit (Value.int IntKind.i64 i361)), V.undef, V.undef] => Lp46_2 m (fun b370 b371 i372 => k Ex.ret [V.f (F.lit (Value.string s355)), V.obj [V.f (F.lst [LT.int IntKind.u16] r356), V.f (F.lit (Value.int IntKind.u8 i357))], V.f (F.lit (Value.bool b370)), V.f (F.lit (Value.bool b371)), V.f (F.lit (Value.int IntKind.i64 i360)), V.f (F.lit (Value.int IntKind.i64 i372)), V.undef, V.undef]) (fun i373 => k (Ex.exit (0 : Nat)) [V.f (F.lit (Value.string s355)), V.obj [V.f (F.lst [LT.int IntKind.u16] r356), V.f (F.lit (Value.int IntKind.u8 i357))], V.f (F.lit (Value.bool b358)), V.f (F.lit (Value.bool b359)), V.f (F.lit (Value.int IntKind.i64 i360)), V.f (F.lit (Value.int IntKind.i64 i373)), V.undef, V.undef]) s355 r356 i357 b358 b359 i360 m i361
  | _ => L R 46 2 vs k
set_option maxRecDepth 100000 in
theorem stLp46_2 (m n : Nat) (R : Type) (s355 : ByteArray) (r356 : Abs.Rows) (i357 : Int) (b358 : Bool) (b359 : Bool) (i360 : Int) (i361 : Int) (k : Ex → List V → Option R) : codeK Tryd.prog H (T22 m) 46 (L14 m) 3 (loopBody Tryd.prog 46 2) (mkEnv [1, 2, 4, 5, 11, 12, 42, 43] [V.f (F.lit (Value.string s355)), V.obj [V.f (F.lst [LT.int IntKind.u16] r356), V.f (F.lit (Value.int IntKind.u8 i357))], V.f (F.lit (Value.bool b358)), V.f (F.lit (Value.bool b359)), V.f (F.lit (Value.int IntKind.i64 i360)), V.f (F.lit (Value.int IntKind.i64 i361)), V.undef, V.undef] 0 (H.len 46)) (fun e env' => match e with | .normal => ELp46_2 m R n (vals [1, 2, 4, 5, 11, 12, 42, 43] env') k | e => k e (vals [1, 2, 4, 5, 11, 12, 42, 43] env')) = Lp46_2_step m (fun b370 b371 i372 => k Ex.ret [V.f (F.lit (Value.string s355)), V.obj [V.f (F.lst [LT.int IntKind.u16] r356), V.f (F.lit (Value.int IntKind.u8 i357))], V.f (F.lit (Value.bool b370)), V.f (F.lit (Value.bool b371)), V.f (F.lit (Value.int IntKind.i64 i360)), V.f (F.lit (Value.int IntKind.i64 i372)), V.undef, V.undef]) (fun i373 => k (Ex.exit (0 : Nat)) [V.f (F.lit (Value.string s355)), V.obj [V.f (F.lst [LT.int IntKind.u16] r356), V.f (F.lit (Value.int IntKind.u8 i357))], V.f (F.lit (Value.bool b358)), V.f (F.lit (Value.bool b359)), V.f (F.lit (Value.int IntKind.i64 i360)), V.f (F.lit (Value.int IntKind.i64 i373)), V.undef, V.undef]) s355 r356 i357 b358 b359 i360 (fun i361 => ELp46_2 m R n [V.f (F.lit (Value.string s355)), V.obj [V.f (F.lst [LT.int IntKind.u16] r356), V.f (F.lit (Value.int IntKind.u8 i357))], V.f (F.lit (Value.bool b358)), V.f (F.lit (Value.bool b359)), V.f (F.lit (Value.int IntKind.i64 i360)), V.f (F.lit (Value.int IntKind.i64 i361)), V.undef, V.undef] k) i361 := by kernel_rfl
theorem eqLp46_2 (m : Nat) (R : Type) (s355 : ByteArray) (r356 : Abs.Rows) (i357 : Int) (b358 : Bool) (b359 : Bool) (i360 : Int) (k : Ex → List V → Option R) : ∀ (n : Nat) (i361 : Int), ELp46_2 m R n [V.f (F.lit (Value.string s355)), V.obj [V.f (F.lst [LT.int IntKind.u16] r356), V.f (F.lit (Value.int IntKind.u8 i357))], V.f (F.lit (Value.bool b358)), V.f (F.lit (Value.bool b359)), V.f (F.lit (Value.int IntKind.i64 i360)), V.f (F.lit (Value.int IntKind.i64 i361)), V.undef, V.undef] k = Lp46_2 m (fun b370 b371 i372 => k Ex.ret [V.f (F.lit (Value.string s355)), V.obj [V.f (F.lst [LT.int IntKind.u16] r356), V.f (F.lit (Value.int IntKind.u8 i357))], V.f (F.lit (Value.bool b370)), V.f (F.lit (Value.bool b371)), V.f (F.lit (Value.int IntKind.i64 i360)), V.f (F.lit (Value.int IntKind.i64 i372)), V.undef, V.undef]) (fun i373 => k (Ex.exit (0 : Nat)) [V.f (F.lit (Value.string s355)), V.obj [V.f (F.lst [LT.int IntKind.u16] r356), V.f (F.lit (Value.int IntKind.u8 i357))], V.f (F.lit (Value.bool b358)), V.f (F.lit (Value.bool b359)), V.f (F.lit (Value.int IntKind.i64 i360)), V.f (F.lit (Value.int IntKind.i64 i373)), V.undef, V.undef]) s355 r356 i357 b358 b359 i360 n i361
  | 0, _ => rfl
  | n + 1, i361 => by
    simp only [ELp46_2, Lp46_2]
    congr 1
    funext i361
    exact eqLp46_2 m R s355 r356 i357 b358 b359 i360 k n i361
def L15 (m : Nat) : LTbl := addB 46 2 (brLp46_2 m (L14 m)) (L14 m)
theorem okL15 (m : Nat) : LTOk Tryd.prog H (L15 m) := addB_ok (okT22 m) hM (okL14 m) (l := [1, 2, 4, 5, 11, 12, 42, 43]) (by kernel_rfl) (by kernel_rfl) m (fun R n vs k => ELp46_2 m R n vs k) (fun R vs k => rfl) (fun R n vs k x h => by
      simp only [ELp46_2] at h
      split at h
      · exact (stLp46_2 m n R _ _ _ _ _ _ _ k).trans h
      · cases h) fun R vs k x h => by
    unfold brLp46_2 at h
    split at h
    · exact .inl ((eqLp46_2 m R _ _ _ _ _ _ k m _).trans h)
    · exact .inr h

/-- (hookflash/dialplan.pattern).begins -/
def Fn46 {R : Type} (m : Nat) : Abs.Rows → Int → ByteArray → (Bool → Bool → Option R) → Option R := match m with
  | 0 => fun _ _ _ _ => none
  | m + 1 => fun r352 i353 s354 k =>
  Lp46_2 m (fun b374 b375 i376 => k b374 b375) (fun i377 => Fn80 m r352 i353 ((↑(ByteArray.size s354) : Int)) (fun i378 b379 => bif i378 != (0 : Int) then (k true b379) else
  (k b379 b379))) s354 r352 i353 false false ((↑(ByteArray.size s354) : Int)) m ((0 : Int))
def brFn46 (m : Nat) (T : Tbl) (R : Type) (vs : List V) (k : V → List V → Option R) : Option R := match vs with
  | [V.agg [V.f (F.lst [LT.int IntKind.u16] r352), V.f (F.lit (Value.int IntKind.u8 i353))], V.f (F.lit (Value.string s354))] => Fn46 m r352 i353 s354 (fun b380 b381 => k (V.tup [V.f (F.lit (Value.bool b380)), V.f (F.lit (Value.bool b381))]) [V.undef, V.undef])
  | _ => T R 46 vs k
set_option maxRecDepth 100000 in
theorem evFn46 (m : Nat) (R : Type) (r352 : Abs.Rows) (i353 : Int) (s354 : ByteArray) (k : V → List V → Option R) : runK Tryd.prog H (T22 m) (L15 m) 46 [V.agg [V.f (F.lst [LT.int IntKind.u16] r352), V.f (F.lit (Value.int IntKind.u8 i353))], V.f (F.lit (Value.string s354))] k = Fn46 (m + 1) r352 i353 s354 (fun b380 b381 => k (V.tup [V.f (F.lit (Value.bool b380)), V.f (F.lit (Value.bool b381))]) [V.undef, V.undef]) := by kernel_rfl
def T23 (m : Nat) : Tbl := addT 46 (brFn46 m (T22 m)) (T22 m)
theorem okT23 (m : Nat) : TblOk Tryd.prog (T23 m) := addT_ok (okT22 m) fun R vs k x h => by
  unfold brFn46 at h
  split at h
  · cases m with
    | zero => cases h
    | succ m => exact runK_some (okT22 m) hM (okL15 m) ((evFn46 m R _ _ _ k).trans h)
  · exact okT22 m R 46 _ k x h

/-- hookflash/dialplan.Matches -/
def Fn14 {R : Type} (m : Nat) : ByteArray → ByteArray → (Bool → Int → Option R) → Option R := match m with
  | 0 => fun _ _ _ => none
  | m + 1 => fun s161 s162 k =>
  Fn39 m s161 (fun r345 i346 i347 => bif i347 != (0 : Int) then (k false i347) else
  (Fn45 m s162 ((1 : Int)) (fun b351 => bif !b351 then (k false ((3 : Int))) else
  (Fn46 m r345 i346 s162 (fun b382 b383 => k b383 ((0 : Int)))))))
def brFn14 (m : Nat) (T : Tbl) (R : Type) (vs : List V) (k : V → List V → Option R) : Option R := match vs with
  | [V.f (F.lit (Value.string s161)), V.f (F.lit (Value.string s162))] => Fn14 m s161 s162 (fun b384 i385 => k (V.tup [V.f (F.lit (Value.bool b384)), V.f (F.lit (Value.int IntKind.i64 i385))]) [V.undef, V.undef])
  | _ => T R 14 vs k
set_option maxRecDepth 100000 in
theorem evFn14 (m : Nat) (R : Type) (s161 : ByteArray) (s162 : ByteArray) (k : V → List V → Option R) : runK Tryd.prog H (T23 m) (L15 m) 14 [V.f (F.lit (Value.string s161)), V.f (F.lit (Value.string s162))] k = Fn14 (m + 1) s161 s162 (fun b384 i385 => k (V.tup [V.f (F.lit (Value.bool b384)), V.f (F.lit (Value.int IntKind.i64 i385))]) [V.undef, V.undef]) := by kernel_rfl
def T24 (m : Nat) : Tbl := addT 14 (brFn14 m (T23 m)) (T23 m)
theorem okT24 (m : Nat) : TblOk Tryd.prog (T24 m) := addT_ok (okT23 m) fun R vs k x h => by
  unfold brFn14 at h
  split at h
  · cases m with
    | zero => cases h
    | succ m => exact runK_some (okT23 m) hM (okL15 m) ((evFn14 m R _ _ k).trans h)
  · exact okT23 m R 14 _ k x h

/-- a round of a loop of (hookflash/dialplan.pattern).rank -/
def Lp86_5_step {R : Type} (m : Nat) (kx0 : ByteArray → Int → Option R) (i409 : Int) (REC : ByteArray → Int → Option R) (s410 : ByteArray) (i411 : Int) : Option R :=
  bif decide (i411 < (12 : Int)) then (bif decide ((0 : Int) ≤ i411) then (bif bitsOp IntKind.u16 (BitVec.ofInt (16 : Nat) (Int.fdiv i409 ((2 : Int) ^ min (Int.toNat i411) (16 : Nat))) &&& BitVec.ofInt (16 : Nat) (1 : Int)) != (0 : Int) then (bif decide ((0 : Int) ≤ IntKind.wrap IntKind.i64 (i411 + (1 : Int)) ∧ IntKind.wrap IntKind.i64 (i411 + (1 : Int)) ≤ (↑(ByteArray.size { data := #[(35 : UInt8), (42 : UInt8), (48 : UInt8), (49 : UInt8), (50 : UInt8), (51 : UInt8), (52 : UInt8), (53 : UInt8), (54 : UInt8), (55 : UInt8), (56 : UInt8), (57 : UInt8)] }) : Int)) then (bif decide ((0 : Int) ≤ i411 ∧ i411 ≤ (↑(Int.toNat (IntKind.wrap IntKind.i64 (i411 + (1 : Int)))) : Int)) then (bif decide (ByteArray.size s410 + ByteArray.size (ByteArray.extract { data := #[(35 : UInt8), (42 : UInt8), (48 : UInt8), (49 : UInt8), (50 : UInt8), (51 : UInt8), (52 : UInt8), (53 : UInt8), (54 : UInt8), (55 : UInt8), (56 : UInt8), (57 : UInt8)] } (Int.toNat i411) (Int.toNat (IntKind.wrap IntKind.i64 (i411 + (1 : Int))))) ≤ strMax) then (letV (s410 ++ ByteArray.extract { data := #[(35 : UInt8), (42 : UInt8), (48 : UInt8), (49 : UInt8), (50 : UInt8), (51 : UInt8), (52 : UInt8), (53 : UInt8), (54 : UInt8), (55 : UInt8), (56 : UInt8), (57 : UInt8)] } (Int.toNat i411) (Int.toNat (IntKind.wrap IntKind.i64 (i411 + (1 : Int))))) (fun s412 => REC s412 (IntKind.wrap IntKind.i64 (i411 + (1 : Int))))) else
  (none)) else
  (none)) else
  (none)) else
  (REC s410 (IntKind.wrap IntKind.i64 (i411 + (1 : Int))))) else
  (none)) else
  (kx0 s410 i411)
def Lp86_5 {R : Type} (m : Nat) (kx0 : ByteArray → Int → Option R) (i409 : Int) : Nat → ByteArray → Int → Option R
  | 0, _, _ => none
  | n + 1, s410, i411 => Lp86_5_step m kx0 i409 (Lp86_5 m kx0 i409 n) s410 i411
def ELp86_5 (m : Nat) (R : Type) : Nat → List V → (Ex → List V → Option R) → Option R
  | 0, _, _ => none
  | n + 1, vs, k => match vs with
    | [V.f (F.lit (Value.int IntKind.u16 i409)), V.f (F.lit (Value.string s410)), V.f (F.lit (Value.int IntKind.i64 i411)), V.undef, V.undef] => Lp86_5_step m (fun s413 i414 => k (Ex.exit (1 : Nat)) [V.f (F.lit (Value.int IntKind.u16 i409)), V.f (F.lit (Value.string s413)), V.f (F.lit (Value.int IntKind.i64 i414)), V.undef, V.undef]) i409 (fun s410 i411 => ELp86_5 m R n [V.f (F.lit (Value.int IntKind.u16 i409)), V.f (F.lit (Value.string s410)), V.f (F.lit (Value.int IntKind.i64 i411)), V.undef, V.undef] k) s410 i411
    | _ => none
def brLp86_5 (m : Nat) (L : LTbl) (R : Type) (vs : List V) (k : Ex → List V → Option R) : Option R := match vs with
  | [V.f (F.lit (Value.int IntKind.u16 i409)), V.f (F.lit (Value.string s410)), V.f (F.lit (Value.int IntKind.i64 i411)), V.undef, V.undef] => Lp86_5 m (fun s413 i414 => k (Ex.exit (1 : Nat)) [V.f (F.lit (Value.int IntKind.u16 i409)), V.f (F.lit (Value.string s413)), V.f (F.lit (Value.int IntKind.i64 i414)), V.undef, V.undef]) i409 m s410 i411
  | _ => L R 86 5 vs k
set_option maxRecDepth 100000 in
theorem stLp86_5 (m n : Nat) (R : Type) (i409 : Int) (s410 : ByteArray) (i411 : Int) (k : Ex → List V → Option R) : codeK Tryd.prog H (T24 m) 86 (L15 m) 6 (loopBody Tryd.prog 86 5) (mkEnv [6, 7, 20, 60, 61] [V.f (F.lit (Value.int IntKind.u16 i409)), V.f (F.lit (Value.string s410)), V.f (F.lit (Value.int IntKind.i64 i411)), V.undef, V.undef] 0 (H.len 86)) (fun e env' => match e with | .normal => ELp86_5 m R n (vals [6, 7, 20, 60, 61] env') k | e => k e (vals [6, 7, 20, 60, 61] env')) = Lp86_5_step m (fun s413 i414 => k (Ex.exit (1 : Nat)) [V.f (F.lit (Value.int IntKind.u16 i409)), V.f (F.lit (Value.string s413)), V.f (F.lit (Value.int IntKind.i64 i414)), V.undef, V.undef]) i409 (fun s410 i411 => ELp86_5 m R n [V.f (F.lit (Value.int IntKind.u16 i409)), V.f (F.lit (Value.string s410)), V.f (F.lit (Value.int IntKind.i64 i411)), V.undef, V.undef] k) s410 i411 := by kernel_rfl
theorem eqLp86_5 (m : Nat) (R : Type) (i409 : Int) (k : Ex → List V → Option R) : ∀ (n : Nat) (s410 : ByteArray) (i411 : Int), ELp86_5 m R n [V.f (F.lit (Value.int IntKind.u16 i409)), V.f (F.lit (Value.string s410)), V.f (F.lit (Value.int IntKind.i64 i411)), V.undef, V.undef] k = Lp86_5 m (fun s413 i414 => k (Ex.exit (1 : Nat)) [V.f (F.lit (Value.int IntKind.u16 i409)), V.f (F.lit (Value.string s413)), V.f (F.lit (Value.int IntKind.i64 i414)), V.undef, V.undef]) i409 n s410 i411
  | 0, _, _ => rfl
  | n + 1, s410, i411 => by
    simp only [ELp86_5, Lp86_5]
    congr 1
    funext s410 i411
    exact eqLp86_5 m R i409 k n s410 i411
def L16 (m : Nat) : LTbl := addB 86 5 (brLp86_5 m (L15 m)) (L15 m)
theorem okL16 (m : Nat) : LTOk Tryd.prog H (L16 m) := addB_ok (okT24 m) hM (okL15 m) (l := [6, 7, 20, 60, 61]) (by kernel_rfl) (by kernel_rfl) m (fun R n vs k => ELp86_5 m R n vs k) (fun R vs k => rfl) (fun R n vs k x h => by
      simp only [ELp86_5] at h
      split at h
      · exact (stLp86_5 m n R _ _ _ k).trans h
      · cases h) fun R vs k x h => by
    unfold brLp86_5 at h
    split at h
    · exact .inl ((eqLp86_5 m R _ k m _ _).trans h)
    · exact .inr h

/-- a rest of (hookflash/dialplan.pattern).rank -/
def Jn86_13 {R : Type} (m : Nat) (kx0 : Int → ByteArray → Bool → Option R) (kx1 : Bool → Option R) (i417 : Int) (r418 : Abs.Rows) (i419 : Int) (i420 : Int) (s421 : ByteArray) (b422 : Bool) : Option R :=
  bif b422 then (kx0 ((100 : Int)) ({ data := #[] }) true) else
  (bif i417 == (↑(List.length r418) : Int) then (bif i419 == (33 : Int) then (kx0 ((102 : Int)) ({ data := #[] }) false) else
  (kx1 false)) else
  (kx1 false))
def brJn86_13 (m : Nat) (L : LTbl) (R : Type) (vs : List V) (k : Ex → List V → Option R) : Option R := match vs with
  | [V.f (F.lit (Value.int IntKind.i64 i417)), V.obj [V.f (F.lst [LT.int IntKind.u16] r418), V.f (F.lit (Value.int IntKind.u8 i419))], V.f (F.lit (Value.int IntKind.i64 i420)), V.f (F.lit (Value.string s421)), V.f (F.lit (Value.bool b422)), V.undef, V.undef] => Jn86_13 m (fun i423 s424 b425 => k Ex.ret [V.f (F.lit (Value.int IntKind.i64 i417)), V.obj [V.f (F.lst [LT.int IntKind.u16] r418), V.f (F.lit (Value.int IntKind.u8 i419))], V.f (F.lit (Value.int IntKind.i64 i423)), V.f (F.lit (Value.string s424)), V.f (F.lit (Value.bool b425)), V.undef, V.undef]) (fun b426 => k Ex.normal [V.f (F.lit (Value.int IntKind.i64 i417)), V.obj [V.f (F.lst [LT.int IntKind.u16] r418), V.f (F.lit (Value.int IntKind.u8 i419))], V.f (F.lit (Value.int IntKind.i64 i420)), V.f (F.lit (Value.string s421)), V.f (F.lit (Value.bool b426)), V.undef, V.undef]) i417 r418 i419 i420 s421 b422
  | _ => L R 86 13 vs k
set_option maxRecDepth 100000 in
theorem evJn86_13 (m : Nat) (R : Type) (i417 : Int) (r418 : Abs.Rows) (i419 : Int) (i420 : Int) (s421 : ByteArray) (b422 : Bool) (k : Ex → List V → Option R) : codeK Tryd.prog H (T24 m) 86 (L16 m) 14 (loopBody Tryd.prog 86 13) (mkEnv [1, 2, 4, 5, 38, 60, 61] [V.f (F.lit (Value.int IntKind.i64 i417)), V.obj [V.f (F.lst [LT.int IntKind.u16] r418), V.f (F.lit (Value.int IntKind.u8 i419))], V.f (F.lit (Value.int IntKind.i64 i420)), V.f (F.lit (Value.string s421)), V.f (F.lit (Value.bool b422)), V.undef, V.undef] 0 (H.len 86)) (fun e env' => k e (vals [1, 2, 4, 5, 38, 60, 61] env')) = Jn86_13 m (fun i423 s424 b425 => k Ex.ret [V.f (F.lit (Value.int IntKind.i64 i417)), V.obj [V.f (F.lst [LT.int IntKind.u16] r418), V.f (F.lit (Value.int IntKind.u8 i419))], V.f (F.lit (Value.int IntKind.i64 i423)), V.f (F.lit (Value.string s424)), V.f (F.lit (Value.bool b425)), V.undef, V.undef]) (fun b426 => k Ex.normal [V.f (F.lit (Value.int IntKind.i64 i417)), V.obj [V.f (F.lst [LT.int IntKind.u16] r418), V.f (F.lit (Value.int IntKind.u8 i419))], V.f (F.lit (Value.int IntKind.i64 i420)), V.f (F.lit (Value.string s421)), V.f (F.lit (Value.bool b426)), V.undef, V.undef]) i417 r418 i419 i420 s421 b422 := by kernel_rfl
def L17 (m : Nat) : LTbl := addJ 86 13 (brJn86_13 m (L16 m)) (L16 m)
theorem okL17 (m : Nat) : LTOk Tryd.prog H (L17 m) := addJ_ok (okT24 m) hM (okL16 m) (l := [1, 2, 4, 5, 38, 60, 61]) (by kernel_rfl) (by kernel_rfl) fun R vs k x h => by
    unfold brJn86_13 at h
    split at h
    · exact .inl ((evJn86_13 m R _ _ _ _ _ _ k).trans h)
    · exact .inr h

/-- (hookflash/dialplan.pattern).rank -/
def Fn86 {R : Type} (m : Nat) : Abs.Rows → Int → Int → (Int → ByteArray → Option R) → Option R := match m with
  | 0 => fun _ _ _ _ => none
  | m + 1 => fun r406 i407 i408 k =>
  bif decide (i408 < (↑(List.length r406) : Int)) then (bif decide ((0 : Int) ≤ i408 ∧ i408 < (↑(List.length r406) : Int)) then (Lp86_5 m (fun s415 i416 => k ((↑(ByteArray.size s415) : Int)) s415) (fI r406 (Int.toNat i408) (0 : Nat)) m ({ data := #[] }) ((0 : Int))) else
  (none)) else
  (bif i408 == (↑(List.length r406) : Int) then (Jn86_13 m (fun i427 s428 b429 => k i427 s428) (fun b430 => k ((101 : Int)) ({ data := #[] })) i408 r406 i407 ((0 : Int)) ({ data := #[] }) (i407 == (46 : Int))) else
  (Jn86_13 m (fun i431 s432 b433 => k i431 s432) (fun b434 => k ((101 : Int)) ({ data := #[] })) i408 r406 i407 ((0 : Int)) ({ data := #[] }) false))
def brFn86 (m : Nat) (T : Tbl) (R : Type) (vs : List V) (k : V → List V → Option R) : Option R := match vs with
  | [V.agg [V.f (F.lst [LT.int IntKind.u16] r406), V.f (F.lit (Value.int IntKind.u8 i407))], V.f (F.lit (Value.int IntKind.i64 i408))] => Fn86 m r406 i407 i408 (fun i435 s436 => k (V.tup [V.f (F.lit (Value.int IntKind.i64 i435)), V.f (F.lit (Value.string s436))]) [V.undef, V.undef])
  | _ => T R 86 vs k
set_option maxRecDepth 100000 in
theorem evFn86 (m : Nat) (R : Type) (r406 : Abs.Rows) (i407 : Int) (i408 : Int) (k : V → List V → Option R) : runK Tryd.prog H (T24 m) (L17 m) 86 [V.agg [V.f (F.lst [LT.int IntKind.u16] r406), V.f (F.lit (Value.int IntKind.u8 i407))], V.f (F.lit (Value.int IntKind.i64 i408))] k = Fn86 (m + 1) r406 i407 i408 (fun i435 s436 => k (V.tup [V.f (F.lit (Value.int IntKind.i64 i435)), V.f (F.lit (Value.string s436))]) [V.undef, V.undef]) := by kernel_rfl
def T25 (m : Nat) : Tbl := addT 86 (brFn86 m (T24 m)) (T24 m)
theorem okT25 (m : Nat) : TblOk Tryd.prog (T25 m) := addT_ok (okT24 m) fun R vs k x h => by
  unfold brFn86 at h
  split at h
  · cases m with
    | zero => cases h
    | succ m => exact runK_some (okT24 m) hM (okL17 m) ((evFn86 m R _ _ _ k).trans h)
  · exact okT24 m R 86 _ k x h

/-- cmp.isNaN[int] -/
def Fn111 {R : Type} (m : Nat) : Int → (Bool → Option R) → Option R := match m with
  | 0 => fun _ _ => none
  | m + 1 => fun i443 k =>
  k (i443 != i443)
def brFn111 (m : Nat) (T : Tbl) (R : Type) (vs : List V) (k : V → List V → Option R) : Option R := match vs with
  | [V.f (F.lit (Value.int IntKind.i64 i443))] => Fn111 m i443 (fun b444 => k (V.f (F.lit (Value.bool b444))) [V.undef])
  | _ => T R 111 vs k
set_option maxRecDepth 100000 in
theorem evFn111 (m : Nat) (R : Type) (i443 : Int) (k : V → List V → Option R) : runK Tryd.prog H (T25 m) (L17 m) 111 [V.f (F.lit (Value.int IntKind.i64 i443))] k = Fn111 (m + 1) i443 (fun b444 => k (V.f (F.lit (Value.bool b444))) [V.undef]) := by kernel_rfl
def T26 (m : Nat) : Tbl := addT 111 (brFn111 m (T25 m)) (T25 m)
theorem okT26 (m : Nat) : TblOk Tryd.prog (T26 m) := addT_ok (okT25 m) fun R vs k x h => by
  unfold brFn111 at h
  split at h
  · cases m with
    | zero => cases h
    | succ m => exact runK_some (okT25 m) hM (okL17 m) ((evFn111 m R _ k).trans h)
  · exact okT25 m R 111 _ k x h

/-- cmp.Compare[int] -/
def Fn88 {R : Type} (m : Nat) : Int → Int → (Int → Option R) → Option R := match m with
  | 0 => fun _ _ _ => none
  | m + 1 => fun i441 i442 k =>
  Fn111 m i441 (fun b445 => Fn111 m i442 (fun b446 => bif b445 then (bif b446 then (k ((0 : Int))) else
  (k ((-1 : Int)))) else
  (bif b446 then (k ((1 : Int))) else
  (bif decide (i441 < i442) then (k ((-1 : Int))) else
  (bif decide (i441 > i442) then (k ((1 : Int))) else
  (k ((0 : Int))))))))
def brFn88 (m : Nat) (T : Tbl) (R : Type) (vs : List V) (k : V → List V → Option R) : Option R := match vs with
  | [V.f (F.lit (Value.int IntKind.i64 i441)), V.f (F.lit (Value.int IntKind.i64 i442))] => Fn88 m i441 i442 (fun i447 => k (V.f (F.lit (Value.int IntKind.i64 i447))) [V.undef, V.undef])
  | _ => T R 88 vs k
set_option maxRecDepth 100000 in
theorem evFn88 (m : Nat) (R : Type) (i441 : Int) (i442 : Int) (k : V → List V → Option R) : runK Tryd.prog H (T26 m) (L17 m) 88 [V.f (F.lit (Value.int IntKind.i64 i441)), V.f (F.lit (Value.int IntKind.i64 i442))] k = Fn88 (m + 1) i441 i442 (fun i447 => k (V.f (F.lit (Value.int IntKind.i64 i447))) [V.undef, V.undef]) := by kernel_rfl
def T27 (m : Nat) : Tbl := addT 88 (brFn88 m (T26 m)) (T26 m)
theorem okT27 (m : Nat) : TblOk Tryd.prog (T27 m) := addT_ok (okT26 m) fun R vs k x h => by
  unfold brFn88 at h
  split at h
  · cases m with
    | zero => cases h
    | succ m => exact runK_some (okT26 m) hM (okL17 m) ((evFn88 m R _ _ k).trans h)
  · exact okT26 m R 88 _ k x h

/-- a round of a loop of cmp.Or[int] -/
def Lp87_3_step {R : Type} (m : Nat) (kx0 : Int → Int → Option R) (kx1 : Int → Option R) (r450 : Abs.Rows) (i451 : Int) (i452 : Int) (r453 : Abs.Rows) (i454 : Int) (REC : Int → Option R) (i455 : Int) : Option R :=
  bif decide (i455 < i454) then (bif decide ((0 : Int) ≤ i455 ∧ i455 < (↑(List.length r453) : Int)) then (bif fI r453 (Int.toNat i455) (0 : Nat) != i452 then (kx0 (fI r453 (Int.toNat i455) (0 : Nat)) i455) else
  (REC (IntKind.wrap IntKind.i64 (i455 + (1 : Int))))) else
  (none)) else
  (kx1 i455)
def Lp87_3 {R : Type} (m : Nat) (kx0 : Int → Int → Option R) (kx1 : Int → Option R) (r450 : Abs.Rows) (i451 : Int) (i452 : Int) (r453 : Abs.Rows) (i454 : Int) : Nat → Int → Option R
  | 0, _ => none
  | n + 1, i455 => Lp87_3_step m kx0 kx1 r450 i451 i452 r453 i454 (Lp87_3 m kx0 kx1 r450 i451 i452 r453 i454 n) i455
def ELp87_3 (m : Nat) (R : Type) : Nat → List V → (Ex → List V → Option R) → Option R
  | 0, _, _ => none
  | n + 1, vs, k => match vs with
    | [V.bor [LT.int IntKind.i64] r450, V.f (F.lit (Value.int IntKind.i64 i451)), V.f (F.lit (Value.int IntKind.i64 i452)), V.bor [LT.int IntKind.i64] r453, V.f (F.lit (Value.int IntKind.i64 i454)), V.f (F.lit (Value.int IntKind.i64 i455)), V.undef] => Lp87_3_step m (fun i456 i457 => k Ex.ret [V.bor [LT.int IntKind.i64] r450, V.f (F.lit (Value.int IntKind.i64 i456)), V.f (F.lit (Value.int IntKind.i64 i452)), V.bor [LT.int IntKind.i64] r453, V.f (F.lit (Value.int IntKind.i64 i454)), V.f (F.lit (Value.int IntKind.i64 i457)), V.undef]) (fun i458 => k (Ex.exit (0 : Nat)) [V.bor [LT.int IntKind.i64] r450, V.f (F.lit (Value.int IntKind.i64 i451)), V.f (F.lit (Value.int IntKind.i64 i452)), V.bor [LT.int IntKind.i64] r453, V.f (F.lit (Value.int IntKind.i64 i454)), V.f (F.lit (Value.int IntKind.i64 i458)), V.undef]) r450 i451 i452 r453 i454 (fun i455 => ELp87_3 m R n [V.bor [LT.int IntKind.i64] r450, V.f (F.lit (Value.int IntKind.i64 i451)), V.f (F.lit (Value.int IntKind.i64 i452)), V.bor [LT.int IntKind.i64] r453, V.f (F.lit (Value.int IntKind.i64 i454)), V.f (F.lit (Value.int IntKind.i64 i455)), V.undef] k) i455
    | _ => none
def brLp87_3 (m : Nat) (L : LTbl) (R : Type) (vs : List V) (k : Ex → List V → Option R) : Option R := match vs with
  | [V.bor [LT.int IntKind.i64] r450, V.f (F.lit (Value.int IntKind.i64 i451)), V.f (F.lit (Value.int IntKind.i64 i452)), V.bor [LT.int IntKind.i64] r453, V.f (F.lit (Value.int IntKind.i64 i454)), V.f (F.lit (Value.int IntKind.i64 i455)), V.undef] => Lp87_3 m (fun i456 i457 => k Ex.ret [V.bor [LT.int IntKind.i64] r450, V.f (F.lit (Value.int IntKind.i64 i456)), V.f (F.lit (Value.int IntKind.i64 i452)), V.bor [LT.int IntKind.i64] r453, V.f (F.lit (Value.int IntKind.i64 i454)), V.f (F.lit (Value.int IntKind.i64 i457)), V.undef]) (fun i458 => k (Ex.exit (0 : Nat)) [V.bor [LT.int IntKind.i64] r450, V.f (F.lit (Value.int IntKind.i64 i451)), V.f (F.lit (Value.int IntKind.i64 i452)), V.bor [LT.int IntKind.i64] r453, V.f (F.lit (Value.int IntKind.i64 i454)), V.f (F.lit (Value.int IntKind.i64 i458)), V.undef]) r450 i451 i452 r453 i454 m i455
  | _ => L R 87 3 vs k
set_option maxRecDepth 100000 in
theorem stLp87_3 (m n : Nat) (R : Type) (r450 : Abs.Rows) (i451 : Int) (i452 : Int) (r453 : Abs.Rows) (i454 : Int) (i455 : Int) (k : Ex → List V → Option R) : codeK Tryd.prog H (T27 m) 87 (L17 m) 4 (loopBody Tryd.prog 87 3) (mkEnv [0, 2, 3, 6, 7, 8, 18] [V.bor [LT.int IntKind.i64] r450, V.f (F.lit (Value.int IntKind.i64 i451)), V.f (F.lit (Value.int IntKind.i64 i452)), V.bor [LT.int IntKind.i64] r453, V.f (F.lit (Value.int IntKind.i64 i454)), V.f (F.lit (Value.int IntKind.i64 i455)), V.undef] 0 (H.len 87)) (fun e env' => match e with | .normal => ELp87_3 m R n (vals [0, 2, 3, 6, 7, 8, 18] env') k | e => k e (vals [0, 2, 3, 6, 7, 8, 18] env')) = Lp87_3_step m (fun i456 i457 => k Ex.ret [V.bor [LT.int IntKind.i64] r450, V.f (F.lit (Value.int IntKind.i64 i456)), V.f (F.lit (Value.int IntKind.i64 i452)), V.bor [LT.int IntKind.i64] r453, V.f (F.lit (Value.int IntKind.i64 i454)), V.f (F.lit (Value.int IntKind.i64 i457)), V.undef]) (fun i458 => k (Ex.exit (0 : Nat)) [V.bor [LT.int IntKind.i64] r450, V.f (F.lit (Value.int IntKind.i64 i451)), V.f (F.lit (Value.int IntKind.i64 i452)), V.bor [LT.int IntKind.i64] r453, V.f (F.lit (Value.int IntKind.i64 i454)), V.f (F.lit (Value.int IntKind.i64 i458)), V.undef]) r450 i451 i452 r453 i454 (fun i455 => ELp87_3 m R n [V.bor [LT.int IntKind.i64] r450, V.f (F.lit (Value.int IntKind.i64 i451)), V.f (F.lit (Value.int IntKind.i64 i452)), V.bor [LT.int IntKind.i64] r453, V.f (F.lit (Value.int IntKind.i64 i454)), V.f (F.lit (Value.int IntKind.i64 i455)), V.undef] k) i455 := by kernel_rfl
theorem eqLp87_3 (m : Nat) (R : Type) (r450 : Abs.Rows) (i451 : Int) (i452 : Int) (r453 : Abs.Rows) (i454 : Int) (k : Ex → List V → Option R) : ∀ (n : Nat) (i455 : Int), ELp87_3 m R n [V.bor [LT.int IntKind.i64] r450, V.f (F.lit (Value.int IntKind.i64 i451)), V.f (F.lit (Value.int IntKind.i64 i452)), V.bor [LT.int IntKind.i64] r453, V.f (F.lit (Value.int IntKind.i64 i454)), V.f (F.lit (Value.int IntKind.i64 i455)), V.undef] k = Lp87_3 m (fun i456 i457 => k Ex.ret [V.bor [LT.int IntKind.i64] r450, V.f (F.lit (Value.int IntKind.i64 i456)), V.f (F.lit (Value.int IntKind.i64 i452)), V.bor [LT.int IntKind.i64] r453, V.f (F.lit (Value.int IntKind.i64 i454)), V.f (F.lit (Value.int IntKind.i64 i457)), V.undef]) (fun i458 => k (Ex.exit (0 : Nat)) [V.bor [LT.int IntKind.i64] r450, V.f (F.lit (Value.int IntKind.i64 i451)), V.f (F.lit (Value.int IntKind.i64 i452)), V.bor [LT.int IntKind.i64] r453, V.f (F.lit (Value.int IntKind.i64 i454)), V.f (F.lit (Value.int IntKind.i64 i458)), V.undef]) r450 i451 i452 r453 i454 n i455
  | 0, _ => rfl
  | n + 1, i455 => by
    simp only [ELp87_3, Lp87_3]
    congr 1
    funext i455
    exact eqLp87_3 m R r450 i451 i452 r453 i454 k n i455
def L18 (m : Nat) : LTbl := addB 87 3 (brLp87_3 m (L17 m)) (L17 m)
theorem okL18 (m : Nat) : LTOk Tryd.prog H (L18 m) := addB_ok (okT27 m) hM (okL17 m) (l := [0, 2, 3, 6, 7, 8, 18]) (by kernel_rfl) (by kernel_rfl) m (fun R n vs k => ELp87_3 m R n vs k) (fun R vs k => rfl) (fun R n vs k x h => by
      simp only [ELp87_3] at h
      split at h
      · exact (stLp87_3 m n R _ _ _ _ _ _ k).trans h
      · cases h) fun R vs k x h => by
    unfold brLp87_3 at h
    split at h
    · exact .inl ((eqLp87_3 m R _ _ _ _ _ k m _).trans h)
    · exact .inr h

/-- cmp.Or[int] -/
def Fn87 {R : Type} (m : Nat) : Abs.Rows → (Int → Option R) → Option R := match m with
  | 0 => fun _ _ => none
  | m + 1 => fun r449 k =>
  Lp87_3 m (fun i459 i460 => k i459) (fun i461 => k ((0 : Int))) r449 ((0 : Int)) ((0 : Int)) r449 ((↑(List.length r449) : Int)) m ((0 : Int))
def brFn87 (m : Nat) (T : Tbl) (R : Type) (vs : List V) (k : V → List V → Option R) : Option R := match vs with
  | [V.bor [LT.int IntKind.i64] r449] => Fn87 m r449 (fun i462 => k (V.f (F.lit (Value.int IntKind.i64 i462))) [V.undef])
  | _ => T R 87 vs k
set_option maxRecDepth 100000 in
theorem evFn87 (m : Nat) (R : Type) (r449 : Abs.Rows) (k : V → List V → Option R) : runK Tryd.prog H (T27 m) (L18 m) 87 [V.bor [LT.int IntKind.i64] r449] k = Fn87 (m + 1) r449 (fun i462 => k (V.f (F.lit (Value.int IntKind.i64 i462))) [V.undef]) := by kernel_rfl
def T28 (m : Nat) : Tbl := addT 87 (brFn87 m (T27 m)) (T27 m)
theorem okT28 (m : Nat) : TblOk Tryd.prog (T28 m) := addT_ok (okT27 m) fun R vs k x h => by
  unfold brFn87 at h
  split at h
  · cases m with
    | zero => cases h
    | succ m => exact runK_some (okT27 m) hM (okL18 m) ((evFn87 m R _ k).trans h)
  · exact okT27 m R 87 _ k x h

/-- a round of a loop of hookflash/dialplan.before -/
def Lp47_2_step {R : Type} (m : Nat) (kx0 : Int → Int → Option R) (kx1 : Int → Option R) (r400 : Abs.Rows) (i401 : Int) (r402 : Abs.Rows) (i403 : Int) (i404 : Int) (REC : Int → Option R) (i405 : Int) : Option R :=
  bif decide (i405 ≤ if (↑(List.length r402) : Int) > (↑(List.length r400) : Int) then (↑(List.length r402) : Int) else (↑(List.length r400) : Int)) then (Fn86 m r400 i401 i405 (fun i437 s438 => Fn86 m r402 i403 i405 (fun i439 s440 => Fn88 m i437 i439 (fun i448 => Fn87 m ([[F.lit (Value.int IntKind.i64 i448)], [F.lit (Value.int IntKind.i64 (cmpB s438 s440))]]) (fun i463 => bif i463 != (0 : Int) then (kx0 i463 i405) else
  (REC (IntKind.wrap IntKind.i64 (i405 + (1 : Int))))))))) else
  (kx1 i405)
def Lp47_2 {R : Type} (m : Nat) (kx0 : Int → Int → Option R) (kx1 : Int → Option R) (r400 : Abs.Rows) (i401 : Int) (r402 : Abs.Rows) (i403 : Int) (i404 : Int) : Nat → Int → Option R
  | 0, _ => none
  | n + 1, i405 => Lp47_2_step m kx0 kx1 r400 i401 r402 i403 i404 (Lp47_2 m kx0 kx1 r400 i401 r402 i403 i404 n) i405
def ELp47_2 (m : Nat) (R : Type) : Nat → List V → (Ex → List V → Option R) → Option R
  | 0, _, _ => none
  | n + 1, vs, k => match vs with
    | [V.obj [V.f (F.lst [LT.int IntKind.u16] r400), V.f (F.lit (Value.int IntKind.u8 i401))], V.obj [V.f (F.lst [LT.int IntKind.u16] r402), V.f (F.lit (Value.int IntKind.u8 i403))], V.f (F.lit (Value.int IntKind.i64 i404)), V.f (F.lit (Value.int IntKind.i64 i405)), V.undef, V.undef] => Lp47_2_step m (fun i464 i465 => k Ex.ret [V.obj [V.f (F.lst [LT.int IntKind.u16] r400), V.f (F.lit (Value.int IntKind.u8 i401))], V.obj [V.f (F.lst [LT.int IntKind.u16] r402), V.f (F.lit (Value.int IntKind.u8 i403))], V.f (F.lit (Value.int IntKind.i64 i464)), V.f (F.lit (Value.int IntKind.i64 i465)), V.undef, V.undef]) (fun i466 => k (Ex.exit (0 : Nat)) [V.obj [V.f (F.lst [LT.int IntKind.u16] r400), V.f (F.lit (Value.int IntKind.u8 i401))], V.obj [V.f (F.lst [LT.int IntKind.u16] r402), V.f (F.lit (Value.int IntKind.u8 i403))], V.f (F.lit (Value.int IntKind.i64 i404)), V.f (F.lit (Value.int IntKind.i64 i466)), V.undef, V.undef]) r400 i401 r402 i403 i404 (fun i405 => ELp47_2 m R n [V.obj [V.f (F.lst [LT.int IntKind.u16] r400), V.f (F.lit (Value.int IntKind.u8 i401))], V.obj [V.f (F.lst [LT.int IntKind.u16] r402), V.f (F.lit (Value.int IntKind.u8 i403))], V.f (F.lit (Value.int IntKind.i64 i404)), V.f (F.lit (Value.int IntKind.i64 i405)), V.undef, V.undef] k) i405
    | _ => none
def brLp47_2 (m : Nat) (L : LTbl) (R : Type) (vs : List V) (k : Ex → List V → Option R) : Option R := match vs with
  | [V.obj [V.f (F.lst [LT.int IntKind.u16] r400), V.f (F.lit (Value.int IntKind.u8 i401))], V.obj [V.f (F.lst [LT.int IntKind.u16] r402), V.f (F.lit (Value.int IntKind.u8 i403))], V.f (F.lit (Value.int IntKind.i64 i404)), V.f (F.lit (Value.int IntKind.i64 i405)), V.undef, V.undef] => Lp47_2 m (fun i464 i465 => k Ex.ret [V.obj [V.f (F.lst [LT.int IntKind.u16] r400), V.f (F.lit (Value.int IntKind.u8 i401))], V.obj [V.f (F.lst [LT.int IntKind.u16] r402), V.f (F.lit (Value.int IntKind.u8 i403))], V.f (F.lit (Value.int IntKind.i64 i464)), V.f (F.lit (Value.int IntKind.i64 i465)), V.undef, V.undef]) (fun i466 => k (Ex.exit (0 : Nat)) [V.obj [V.f (F.lst [LT.int IntKind.u16] r400), V.f (F.lit (Value.int IntKind.u8 i401))], V.obj [V.f (F.lst [LT.int IntKind.u16] r402), V.f (F.lit (Value.int IntKind.u8 i403))], V.f (F.lit (Value.int IntKind.i64 i404)), V.f (F.lit (Value.int IntKind.i64 i466)), V.undef, V.undef]) r400 i401 r402 i403 i404 m i405
  | _ => L R 47 2 vs k
set_option maxRecDepth 100000 in
theorem stLp47_2 (m n : Nat) (R : Type) (r400 : Abs.Rows) (i401 : Int) (r402 : Abs.Rows) (i403 : Int) (i404 : Int) (i405 : Int) (k : Ex → List V → Option R) : codeK Tryd.prog H (T28 m) 47 (L18 m) 3 (loopBody Tryd.prog 47 2) (mkEnv [2, 3, 4, 5, 45, 46] [V.obj [V.f (F.lst [LT.int IntKind.u16] r400), V.f (F.lit (Value.int IntKind.u8 i401))], V.obj [V.f (F.lst [LT.int IntKind.u16] r402), V.f (F.lit (Value.int IntKind.u8 i403))], V.f (F.lit (Value.int IntKind.i64 i404)), V.f (F.lit (Value.int IntKind.i64 i405)), V.undef, V.undef] 0 (H.len 47)) (fun e env' => match e with | .normal => ELp47_2 m R n (vals [2, 3, 4, 5, 45, 46] env') k | e => k e (vals [2, 3, 4, 5, 45, 46] env')) = Lp47_2_step m (fun i464 i465 => k Ex.ret [V.obj [V.f (F.lst [LT.int IntKind.u16] r400), V.f (F.lit (Value.int IntKind.u8 i401))], V.obj [V.f (F.lst [LT.int IntKind.u16] r402), V.f (F.lit (Value.int IntKind.u8 i403))], V.f (F.lit (Value.int IntKind.i64 i464)), V.f (F.lit (Value.int IntKind.i64 i465)), V.undef, V.undef]) (fun i466 => k (Ex.exit (0 : Nat)) [V.obj [V.f (F.lst [LT.int IntKind.u16] r400), V.f (F.lit (Value.int IntKind.u8 i401))], V.obj [V.f (F.lst [LT.int IntKind.u16] r402), V.f (F.lit (Value.int IntKind.u8 i403))], V.f (F.lit (Value.int IntKind.i64 i404)), V.f (F.lit (Value.int IntKind.i64 i466)), V.undef, V.undef]) r400 i401 r402 i403 i404 (fun i405 => ELp47_2 m R n [V.obj [V.f (F.lst [LT.int IntKind.u16] r400), V.f (F.lit (Value.int IntKind.u8 i401))], V.obj [V.f (F.lst [LT.int IntKind.u16] r402), V.f (F.lit (Value.int IntKind.u8 i403))], V.f (F.lit (Value.int IntKind.i64 i404)), V.f (F.lit (Value.int IntKind.i64 i405)), V.undef, V.undef] k) i405 := by kernel_rfl
theorem eqLp47_2 (m : Nat) (R : Type) (r400 : Abs.Rows) (i401 : Int) (r402 : Abs.Rows) (i403 : Int) (i404 : Int) (k : Ex → List V → Option R) : ∀ (n : Nat) (i405 : Int), ELp47_2 m R n [V.obj [V.f (F.lst [LT.int IntKind.u16] r400), V.f (F.lit (Value.int IntKind.u8 i401))], V.obj [V.f (F.lst [LT.int IntKind.u16] r402), V.f (F.lit (Value.int IntKind.u8 i403))], V.f (F.lit (Value.int IntKind.i64 i404)), V.f (F.lit (Value.int IntKind.i64 i405)), V.undef, V.undef] k = Lp47_2 m (fun i464 i465 => k Ex.ret [V.obj [V.f (F.lst [LT.int IntKind.u16] r400), V.f (F.lit (Value.int IntKind.u8 i401))], V.obj [V.f (F.lst [LT.int IntKind.u16] r402), V.f (F.lit (Value.int IntKind.u8 i403))], V.f (F.lit (Value.int IntKind.i64 i464)), V.f (F.lit (Value.int IntKind.i64 i465)), V.undef, V.undef]) (fun i466 => k (Ex.exit (0 : Nat)) [V.obj [V.f (F.lst [LT.int IntKind.u16] r400), V.f (F.lit (Value.int IntKind.u8 i401))], V.obj [V.f (F.lst [LT.int IntKind.u16] r402), V.f (F.lit (Value.int IntKind.u8 i403))], V.f (F.lit (Value.int IntKind.i64 i404)), V.f (F.lit (Value.int IntKind.i64 i466)), V.undef, V.undef]) r400 i401 r402 i403 i404 n i405
  | 0, _ => rfl
  | n + 1, i405 => by
    simp only [ELp47_2, Lp47_2]
    congr 1
    funext i405
    exact eqLp47_2 m R r400 i401 r402 i403 i404 k n i405
def L19 (m : Nat) : LTbl := addB 47 2 (brLp47_2 m (L18 m)) (L18 m)
theorem okL19 (m : Nat) : LTOk Tryd.prog H (L19 m) := addB_ok (okT28 m) hM (okL18 m) (l := [2, 3, 4, 5, 45, 46]) (by kernel_rfl) (by kernel_rfl) m (fun R n vs k => ELp47_2 m R n vs k) (fun R vs k => rfl) (fun R n vs k x h => by
      simp only [ELp47_2] at h
      split at h
      · exact (stLp47_2 m n R _ _ _ _ _ _ k).trans h
      · cases h) fun R vs k x h => by
    unfold brLp47_2 at h
    split at h
    · exact .inl ((eqLp47_2 m R _ _ _ _ _ k m _).trans h)
    · exact .inr h

/-- hookflash/dialplan.before -/
def Fn47 {R : Type} (m : Nat) : Abs.Rows → Int → Abs.Rows → Int → (Int → Option R) → Option R := match m with
  | 0 => fun _ _ _ _ _ => none
  | m + 1 => fun r396 i397 r398 i399 k =>
  Lp47_2 m (fun i467 i468 => k i467) (fun i469 => k ((0 : Int))) r396 i397 r398 i399 ((0 : Int)) m ((0 : Int))
def brFn47 (m : Nat) (T : Tbl) (R : Type) (vs : List V) (k : V → List V → Option R) : Option R := match vs with
  | [V.agg [V.f (F.lst [LT.int IntKind.u16] r396), V.f (F.lit (Value.int IntKind.u8 i397))], V.agg [V.f (F.lst [LT.int IntKind.u16] r398), V.f (F.lit (Value.int IntKind.u8 i399))]] => Fn47 m r396 i397 r398 i399 (fun i470 => k (V.f (F.lit (Value.int IntKind.i64 i470))) [V.undef, V.undef])
  | _ => T R 47 vs k
set_option maxRecDepth 100000 in
theorem evFn47 (m : Nat) (R : Type) (r396 : Abs.Rows) (i397 : Int) (r398 : Abs.Rows) (i399 : Int) (k : V → List V → Option R) : runK Tryd.prog H (T28 m) (L19 m) 47 [V.agg [V.f (F.lst [LT.int IntKind.u16] r396), V.f (F.lit (Value.int IntKind.u8 i397))], V.agg [V.f (F.lst [LT.int IntKind.u16] r398), V.f (F.lit (Value.int IntKind.u8 i399))]] k = Fn47 (m + 1) r396 i397 r398 i399 (fun i470 => k (V.f (F.lit (Value.int IntKind.i64 i470))) [V.undef, V.undef]) := by kernel_rfl
def T29 (m : Nat) : Tbl := addT 47 (brFn47 m (T28 m)) (T28 m)
theorem okT29 (m : Nat) : TblOk Tryd.prog (T29 m) := addT_ok (okT28 m) fun R vs k x h => by
  unfold brFn47 at h
  split at h
  · cases m with
    | zero => cases h
    | succ m => exact runK_some (okT28 m) hM (okL19 m) ((evFn47 m R _ _ _ _ k).trans h)
  · exact okT28 m R 47 _ k x h

/-- hookflash/dialplan.Before -/
def Fn15 {R : Type} (m : Nat) : ByteArray → ByteArray → (Int → Int → Option R) → Option R := match m with
  | 0 => fun _ _ _ => none
  | m + 1 => fun s388 s389 k =>
  Fn39 m s388 (fun r390 i391 i392 => bif i392 != (0 : Int) then (k ((0 : Int)) i392) else
  (Fn39 m s389 (fun r393 i394 i395 => bif i395 != (0 : Int) then (k ((0 : Int)) i395) else
  (Fn47 m r390 i391 r393 i394 (fun i471 => k i471 ((0 : Int)))))))
def brFn15 (m : Nat) (T : Tbl) (R : Type) (vs : List V) (k : V → List V → Option R) : Option R := match vs with
  | [V.f (F.lit (Value.string s388)), V.f (F.lit (Value.string s389))] => Fn15 m s388 s389 (fun i472 i473 => k (V.tup [V.f (F.lit (Value.int IntKind.i64 i472)), V.f (F.lit (Value.int IntKind.i64 i473))]) [V.undef, V.undef])
  | _ => T R 15 vs k
set_option maxRecDepth 100000 in
theorem evFn15 (m : Nat) (R : Type) (s388 : ByteArray) (s389 : ByteArray) (k : V → List V → Option R) : runK Tryd.prog H (T29 m) (L19 m) 15 [V.f (F.lit (Value.string s388)), V.f (F.lit (Value.string s389))] k = Fn15 (m + 1) s388 s389 (fun i472 i473 => k (V.tup [V.f (F.lit (Value.int IntKind.i64 i472)), V.f (F.lit (Value.int IntKind.i64 i473))]) [V.undef, V.undef]) := by kernel_rfl
def T30 (m : Nat) : Tbl := addT 15 (brFn15 m (T29 m)) (T29 m)
theorem okT30 (m : Nat) : TblOk Tryd.prog (T30 m) := addT_ok (okT29 m) fun R vs k x h => by
  unfold brFn15 at h
  split at h
  · cases m with
    | zero => cases h
    | succ m => exact runK_some (okT29 m) hM (okL19 m) ((evFn15 m R _ _ k).trans h)
  · exact okT29 m R 15 _ k x h

/-- a rest of hookflash/flashref2.shapeOf -/
def Jn41_18 {R : Type} (m : Nat) (kx0 : Bool → Option R) (kx1 : ByteArray → Abs.Rows → Option R) (s485 : ByteArray) (r486 : Abs.Rows) (i487 : Int) (b488 : Bool) (r489 : Abs.Rows) (i490 : Int) (s491 : ByteArray) (i492 : Int) : Option R :=
  bif ByteArray.toList s491 == ByteArray.toList { data := #[] } then (kx0 false) else
  (bif decide (List.length r489 + List.length [[F.lit (Value.string s491)]] ≤ rowMax) then (letV (r489 ++ [[F.lit (Value.string s491)]]) (fun r493 => bif decide ((0 : Int) ≤ i492 ∧ i492 ≤ (↑(ByteArray.size s485) : Int)) then (kx1 (ByteArray.extract s485 (Int.toNat i492) (ByteArray.size s485)) r493) else
  (none))) else
  (none))
def brJn41_18 (m : Nat) (L : LTbl) (R : Type) (vs : List V) (k : Ex → List V → Option R) : Option R := match vs with
  | [V.f (F.lit (Value.string s485)), V.obj [V.own [LT.str] r486, V.f (F.lit (Value.int IntKind.u8 i487))], V.f (F.lit (Value.bool b488)), V.obj [V.own [LT.str] r489, V.f (F.lit (Value.int IntKind.u8 i490))], V.f (F.lit (Value.string s491)), V.f (F.lit (Value.int IntKind.i64 i492)), V.undef] => Jn41_18 m (fun b494 => k Ex.ret [V.f (F.lit (Value.string s485)), V.obj [V.f (F.lst [LT.str] r489), V.f (F.lit (Value.int IntKind.u8 i490))], V.f (F.lit (Value.bool b494)), V.obj [V.f (F.lst [LT.str] r489), V.f (F.lit (Value.int IntKind.u8 i490))], V.f (F.lit (Value.string s491)), V.f (F.lit (Value.int IntKind.i64 i492)), V.undef]) (fun s495 r496 => k Ex.normal [V.f (F.lit (Value.string s495)), V.obj [V.own [LT.str] r486, V.f (F.lit (Value.int IntKind.u8 i487))], V.f (F.lit (Value.bool b488)), V.obj [V.own [LT.str] r496, V.f (F.lit (Value.int IntKind.u8 i490))], V.f (F.lit (Value.string s491)), V.f (F.lit (Value.int IntKind.i64 i492)), V.undef]) s485 r486 i487 b488 r489 i490 s491 i492
  | _ => L R 41 18 vs k
set_option maxRecDepth 100000 in
theorem evJn41_18 (m : Nat) (R : Type) (s485 : ByteArray) (r486 : Abs.Rows) (i487 : Int) (b488 : Bool) (r489 : Abs.Rows) (i490 : Int) (s491 : ByteArray) (i492 : Int) (k : Ex → List V → Option R) : codeK Tryd.prog H (T30 m) 41 (L19 m) 19 (loopBody Tryd.prog 41 18) (mkEnv [0, 2, 3, 4, 6, 7, 72] [V.f (F.lit (Value.string s485)), V.obj [V.own [LT.str] r486, V.f (F.lit (Value.int IntKind.u8 i487))], V.f (F.lit (Value.bool b488)), V.obj [V.own [LT.str] r489, V.f (F.lit (Value.int IntKind.u8 i490))], V.f (F.lit (Value.string s491)), V.f (F.lit (Value.int IntKind.i64 i492)), V.undef] 0 (H.len 41)) (fun e env' => k e (vals [0, 2, 3, 4, 6, 7, 72] env')) = Jn41_18 m (fun b494 => k Ex.ret [V.f (F.lit (Value.string s485)), V.obj [V.f (F.lst [LT.str] r489), V.f (F.lit (Value.int IntKind.u8 i490))], V.f (F.lit (Value.bool b494)), V.obj [V.f (F.lst [LT.str] r489), V.f (F.lit (Value.int IntKind.u8 i490))], V.f (F.lit (Value.string s491)), V.f (F.lit (Value.int IntKind.i64 i492)), V.undef]) (fun s495 r496 => k Ex.normal [V.f (F.lit (Value.string s495)), V.obj [V.own [LT.str] r486, V.f (F.lit (Value.int IntKind.u8 i487))], V.f (F.lit (Value.bool b488)), V.obj [V.own [LT.str] r496, V.f (F.lit (Value.int IntKind.u8 i490))], V.f (F.lit (Value.string s491)), V.f (F.lit (Value.int IntKind.i64 i492)), V.undef]) s485 r486 i487 b488 r489 i490 s491 i492 := by kernel_rfl
def L20 (m : Nat) : LTbl := addJ 41 18 (brJn41_18 m (L19 m)) (L19 m)
theorem okL20 (m : Nat) : LTOk Tryd.prog H (L20 m) := addJ_ok (okT30 m) hM (okL19 m) (l := [0, 2, 3, 4, 6, 7, 72]) (by kernel_rfl) (by kernel_rfl) fun R vs k x h => by
    unfold brJn41_18 at h
    split at h
    · exact .inl ((evJn41_18 m R _ _ _ _ _ _ _ _ k).trans h)
    · exact .inr h

/-- a round of a loop of hookflash/flashref2.setOf -/
def Lp82_8_step {R : Type} (m : Nat) (kx0 : ByteArray → Int → Option R) (s514 : ByteArray) (s515 : ByteArray) (i516 : Int) (i518 : Int) (REC : ByteArray → Int → Option R) (s517 : ByteArray) (i519 : Int) : Option R :=
  bif decide (i519 < (10 : Int)) then (bif decide ((0 : Int) ≤ i519) then (bif bitsOp IntKind.i64 (BitVec.ofInt (64 : Nat) (Int.fdiv i516 ((2 : Int) ^ min (Int.toNat i519) (64 : Nat))) &&& BitVec.ofInt (64 : Nat) (1 : Int)) == (1 : Int) then (bif decide ((0 : Int) ≤ IntKind.wrap IntKind.i64 (i519 + (1 : Int)) ∧ IntKind.wrap IntKind.i64 (i519 + (1 : Int)) ≤ (↑(ByteArray.size { data := #[(48 : UInt8), (49 : UInt8), (50 : UInt8), (51 : UInt8), (52 : UInt8), (53 : UInt8), (54 : UInt8), (55 : UInt8), (56 : UInt8), (57 : UInt8)] }) : Int)) then (bif decide ((0 : Int) ≤ i519 ∧ i519 ≤ (↑(Int.toNat (IntKind.wrap IntKind.i64 (i519 + (1 : Int)))) : Int)) then (bif decide (ByteArray.size s517 + ByteArray.size (ByteArray.extract { data := #[(48 : UInt8), (49 : UInt8), (50 : UInt8), (51 : UInt8), (52 : UInt8), (53 : UInt8), (54 : UInt8), (55 : UInt8), (56 : UInt8), (57 : UInt8)] } (Int.toNat i519) (Int.toNat (IntKind.wrap IntKind.i64 (i519 + (1 : Int))))) ≤ strMax) then (letV (s517 ++ ByteArray.extract { data := #[(48 : UInt8), (49 : UInt8), (50 : UInt8), (51 : UInt8), (52 : UInt8), (53 : UInt8), (54 : UInt8), (55 : UInt8), (56 : UInt8), (57 : UInt8)] } (Int.toNat i519) (Int.toNat (IntKind.wrap IntKind.i64 (i519 + (1 : Int))))) (fun s520 => REC s520 (IntKind.wrap IntKind.i64 (i519 + (1 : Int))))) else
  (none)) else
  (none)) else
  (none)) else
  (REC s517 (IntKind.wrap IntKind.i64 (i519 + (1 : Int))))) else
  (none)) else
  (kx0 s517 i519)
def Lp82_8 {R : Type} (m : Nat) (kx0 : ByteArray → Int → Option R) (s514 : ByteArray) (s515 : ByteArray) (i516 : Int) (i518 : Int) : Nat → ByteArray → Int → Option R
  | 0, _, _ => none
  | n + 1, s517, i519 => Lp82_8_step m kx0 s514 s515 i516 i518 (Lp82_8 m kx0 s514 s515 i516 i518 n) s517 i519
def ELp82_8 (m : Nat) (R : Type) : Nat → List V → (Ex → List V → Option R) → Option R
  | 0, _, _ => none
  | n + 1, vs, k => match vs with
    | [V.f (F.lit (Value.string s514)), V.f (F.lit (Value.string s515)), V.f (F.lit (Value.int IntKind.i64 i516)), V.f (F.lit (Value.string s517)), V.f (F.lit (Value.int IntKind.i64 i518)), V.f (F.lit (Value.int IntKind.i64 i519)), V.undef] => Lp82_8_step m (fun s521 i522 => k (Ex.exit (2 : Nat)) [V.f (F.lit (Value.string s514)), V.f (F.lit (Value.string s515)), V.f (F.lit (Value.int IntKind.i64 i516)), V.f (F.lit (Value.string s521)), V.f (F.lit (Value.int IntKind.i64 i518)), V.f (F.lit (Value.int IntKind.i64 i522)), V.undef]) s514 s515 i516 i518 (fun s517 i519 => ELp82_8 m R n [V.f (F.lit (Value.string s514)), V.f (F.lit (Value.string s515)), V.f (F.lit (Value.int IntKind.i64 i516)), V.f (F.lit (Value.string s517)), V.f (F.lit (Value.int IntKind.i64 i518)), V.f (F.lit (Value.int IntKind.i64 i519)), V.undef] k) s517 i519
    | _ => none
def brLp82_8 (m : Nat) (L : LTbl) (R : Type) (vs : List V) (k : Ex → List V → Option R) : Option R := match vs with
  | [V.f (F.lit (Value.string s514)), V.f (F.lit (Value.string s515)), V.f (F.lit (Value.int IntKind.i64 i516)), V.f (F.lit (Value.string s517)), V.f (F.lit (Value.int IntKind.i64 i518)), V.f (F.lit (Value.int IntKind.i64 i519)), V.undef] => Lp82_8 m (fun s521 i522 => k (Ex.exit (2 : Nat)) [V.f (F.lit (Value.string s514)), V.f (F.lit (Value.string s515)), V.f (F.lit (Value.int IntKind.i64 i516)), V.f (F.lit (Value.string s521)), V.f (F.lit (Value.int IntKind.i64 i518)), V.f (F.lit (Value.int IntKind.i64 i522)), V.undef]) s514 s515 i516 i518 m s517 i519
  | _ => L R 82 8 vs k
set_option maxRecDepth 100000 in
theorem stLp82_8 (m n : Nat) (R : Type) (s514 : ByteArray) (s515 : ByteArray) (i516 : Int) (s517 : ByteArray) (i518 : Int) (i519 : Int) (k : Ex → List V → Option R) : codeK Tryd.prog H (T30 m) 82 (L20 m) 9 (loopBody Tryd.prog 82 8) (mkEnv [0, 2, 3, 4, 6, 9, 49] [V.f (F.lit (Value.string s514)), V.f (F.lit (Value.string s515)), V.f (F.lit (Value.int IntKind.i64 i516)), V.f (F.lit (Value.string s517)), V.f (F.lit (Value.int IntKind.i64 i518)), V.f (F.lit (Value.int IntKind.i64 i519)), V.undef] 0 (H.len 82)) (fun e env' => match e with | .normal => ELp82_8 m R n (vals [0, 2, 3, 4, 6, 9, 49] env') k | e => k e (vals [0, 2, 3, 4, 6, 9, 49] env')) = Lp82_8_step m (fun s521 i522 => k (Ex.exit (2 : Nat)) [V.f (F.lit (Value.string s514)), V.f (F.lit (Value.string s515)), V.f (F.lit (Value.int IntKind.i64 i516)), V.f (F.lit (Value.string s521)), V.f (F.lit (Value.int IntKind.i64 i518)), V.f (F.lit (Value.int IntKind.i64 i522)), V.undef]) s514 s515 i516 i518 (fun s517 i519 => ELp82_8 m R n [V.f (F.lit (Value.string s514)), V.f (F.lit (Value.string s515)), V.f (F.lit (Value.int IntKind.i64 i516)), V.f (F.lit (Value.string s517)), V.f (F.lit (Value.int IntKind.i64 i518)), V.f (F.lit (Value.int IntKind.i64 i519)), V.undef] k) s517 i519 := by kernel_rfl
theorem eqLp82_8 (m : Nat) (R : Type) (s514 : ByteArray) (s515 : ByteArray) (i516 : Int) (i518 : Int) (k : Ex → List V → Option R) : ∀ (n : Nat) (s517 : ByteArray) (i519 : Int), ELp82_8 m R n [V.f (F.lit (Value.string s514)), V.f (F.lit (Value.string s515)), V.f (F.lit (Value.int IntKind.i64 i516)), V.f (F.lit (Value.string s517)), V.f (F.lit (Value.int IntKind.i64 i518)), V.f (F.lit (Value.int IntKind.i64 i519)), V.undef] k = Lp82_8 m (fun s521 i522 => k (Ex.exit (2 : Nat)) [V.f (F.lit (Value.string s514)), V.f (F.lit (Value.string s515)), V.f (F.lit (Value.int IntKind.i64 i516)), V.f (F.lit (Value.string s521)), V.f (F.lit (Value.int IntKind.i64 i518)), V.f (F.lit (Value.int IntKind.i64 i522)), V.undef]) s514 s515 i516 i518 n s517 i519
  | 0, _, _ => rfl
  | n + 1, s517, i519 => by
    simp only [ELp82_8, Lp82_8]
    congr 1
    funext s517 i519
    exact eqLp82_8 m R s514 s515 i516 i518 k n s517 i519
def L21 (m : Nat) : LTbl := addB 82 8 (brLp82_8 m (L20 m)) (L20 m)
theorem okL21 (m : Nat) : LTOk Tryd.prog H (L21 m) := addB_ok (okT30 m) hM (okL20 m) (l := [0, 2, 3, 4, 6, 9, 49]) (by kernel_rfl) (by kernel_rfl) m (fun R n vs k => ELp82_8 m R n vs k) (fun R vs k => rfl) (fun R n vs k x h => by
      simp only [ELp82_8] at h
      split at h
      · exact (stLp82_8 m n R _ _ _ _ _ _ k).trans h
      · cases h) fun R vs k x h => by
    unfold brLp82_8 at h
    split at h
    · exact .inl ((eqLp82_8 m R _ _ _ _ k m _ _).trans h)
    · exact .inr h

/-- a round of a loop of hookflash/flashref2.setText -/
def Lp102_7_step {R : Type} (m : Nat) (kx0 : Int → Option R) (s529 : ByteArray) (s530 : ByteArray) (i531 : Int) (REC : Int → Option R) (i532 : Int) : Option R :=
  bif decide (IntKind.wrap IntKind.i64 (i532 + (1 : Int)) < (↑(ByteArray.size s529) : Int)) then (bif decide ((0 : Int) ≤ IntKind.wrap IntKind.i64 (i532 + (1 : Int)) ∧ IntKind.wrap IntKind.i64 (i532 + (1 : Int)) < (↑(ByteArray.size s529) : Int)) then (bif decide ((0 : Int) ≤ i532 ∧ i532 < (↑(ByteArray.size s529) : Int)) then (bif (↑(UInt8.toNat (Array.getD (ByteArray.data s529) (Int.toNat (IntKind.wrap IntKind.i64 (i532 + (1 : Int)))) (0 : UInt8))) : Int) == IntKind.wrap IntKind.u8 ((↑(UInt8.toNat (Array.getD (ByteArray.data s529) (Int.toNat i532) (0 : UInt8))) : Int) + (1 : Int)) then (REC (IntKind.wrap IntKind.i64 (i532 + (1 : Int)))) else
  (kx0 i532)) else
  (none)) else
  (none)) else
  (kx0 i532)
def Lp102_7 {R : Type} (m : Nat) (kx0 : Int → Option R) (s529 : ByteArray) (s530 : ByteArray) (i531 : Int) : Nat → Int → Option R
  | 0, _ => none
  | n + 1, i532 => Lp102_7_step m kx0 s529 s530 i531 (Lp102_7 m kx0 s529 s530 i531 n) i532
def ELp102_7 (m : Nat) (R : Type) : Nat → List V → (Ex → List V → Option R) → Option R
  | 0, _, _ => none
  | n + 1, vs, k => match vs with
    | [V.f (F.lit (Value.string s529)), V.f (F.lit (Value.string s530)), V.f (F.lit (Value.int IntKind.i64 i531)), V.f (F.lit (Value.int IntKind.i64 i532)), V.undef] => Lp102_7_step m (fun i533 => k (Ex.exit (2 : Nat)) [V.f (F.lit (Value.string s529)), V.f (F.lit (Value.string s530)), V.f (F.lit (Value.int IntKind.i64 i531)), V.f (F.lit (Value.int IntKind.i64 i533)), V.undef]) s529 s530 i531 (fun i532 => ELp102_7 m R n [V.f (F.lit (Value.string s529)), V.f (F.lit (Value.string s530)), V.f (F.lit (Value.int IntKind.i64 i531)), V.f (F.lit (Value.int IntKind.i64 i532)), V.undef] k) i532
    | _ => none
def brLp102_7 (m : Nat) (L : LTbl) (R : Type) (vs : List V) (k : Ex → List V → Option R) : Option R := match vs with
  | [V.f (F.lit (Value.string s529)), V.f (F.lit (Value.string s530)), V.f (F.lit (Value.int IntKind.i64 i531)), V.f (F.lit (Value.int IntKind.i64 i532)), V.undef] => Lp102_7 m (fun i533 => k (Ex.exit (2 : Nat)) [V.f (F.lit (Value.string s529)), V.f (F.lit (Value.string s530)), V.f (F.lit (Value.int IntKind.i64 i531)), V.f (F.lit (Value.int IntKind.i64 i533)), V.undef]) s529 s530 i531 m i532
  | _ => L R 102 7 vs k
set_option maxRecDepth 100000 in
theorem stLp102_7 (m n : Nat) (R : Type) (s529 : ByteArray) (s530 : ByteArray) (i531 : Int) (i532 : Int) (k : Ex → List V → Option R) : codeK Tryd.prog H (T30 m) 102 (L21 m) 8 (loopBody Tryd.prog 102 7) (mkEnv [0, 3, 4, 5, 69] [V.f (F.lit (Value.string s529)), V.f (F.lit (Value.string s530)), V.f (F.lit (Value.int IntKind.i64 i531)), V.f (F.lit (Value.int IntKind.i64 i532)), V.undef] 0 (H.len 102)) (fun e env' => match e with | .normal => ELp102_7 m R n (vals [0, 3, 4, 5, 69] env') k | e => k e (vals [0, 3, 4, 5, 69] env')) = Lp102_7_step m (fun i533 => k (Ex.exit (2 : Nat)) [V.f (F.lit (Value.string s529)), V.f (F.lit (Value.string s530)), V.f (F.lit (Value.int IntKind.i64 i531)), V.f (F.lit (Value.int IntKind.i64 i533)), V.undef]) s529 s530 i531 (fun i532 => ELp102_7 m R n [V.f (F.lit (Value.string s529)), V.f (F.lit (Value.string s530)), V.f (F.lit (Value.int IntKind.i64 i531)), V.f (F.lit (Value.int IntKind.i64 i532)), V.undef] k) i532 := by kernel_rfl
theorem eqLp102_7 (m : Nat) (R : Type) (s529 : ByteArray) (s530 : ByteArray) (i531 : Int) (k : Ex → List V → Option R) : ∀ (n : Nat) (i532 : Int), ELp102_7 m R n [V.f (F.lit (Value.string s529)), V.f (F.lit (Value.string s530)), V.f (F.lit (Value.int IntKind.i64 i531)), V.f (F.lit (Value.int IntKind.i64 i532)), V.undef] k = Lp102_7 m (fun i533 => k (Ex.exit (2 : Nat)) [V.f (F.lit (Value.string s529)), V.f (F.lit (Value.string s530)), V.f (F.lit (Value.int IntKind.i64 i531)), V.f (F.lit (Value.int IntKind.i64 i533)), V.undef]) s529 s530 i531 n i532
  | 0, _ => rfl
  | n + 1, i532 => by
    simp only [ELp102_7, Lp102_7]
    congr 1
    funext i532
    exact eqLp102_7 m R s529 s530 i531 k n i532
def L22 (m : Nat) : LTbl := addB 102 7 (brLp102_7 m (L21 m)) (L21 m)
theorem okL22 (m : Nat) : LTOk Tryd.prog H (L22 m) := addB_ok (okT30 m) hM (okL21 m) (l := [0, 3, 4, 5, 69]) (by kernel_rfl) (by kernel_rfl) m (fun R n vs k => ELp102_7 m R n vs k) (fun R vs k => rfl) (fun R n vs k x h => by
      simp only [ELp102_7] at h
      split at h
      · exact (stLp102_7 m n R _ _ _ _ k).trans h
      · cases h) fun R vs k x h => by
    unfold brLp102_7 at h
    split at h
    · exact .inl ((eqLp102_7 m R _ _ _ k m _).trans h)
    · exact .inr h

/-- a round of a loop of hookflash/flashref2.setText -/
def Lp102_3_step {R : Type} (m : Nat) (kx0 : ByteArray → Int → Option R) (s526 : ByteArray) (REC : ByteArray → Int → Option R) (s527 : ByteArray) (i528 : Int) : Option R :=
  bif decide (i528 < (↑(ByteArray.size s526) : Int)) then (Lp102_7 m (fun i534 => bif IntKind.wrap IntKind.i64 (i534 - i528) == (0 : Int) then (bif decide ((0 : Int) ≤ IntKind.wrap IntKind.i64 (i528 + (1 : Int)) ∧ IntKind.wrap IntKind.i64 (i528 + (1 : Int)) ≤ (↑(ByteArray.size s526) : Int)) then (bif decide ((0 : Int) ≤ i528 ∧ i528 ≤ (↑(Int.toNat (IntKind.wrap IntKind.i64 (i528 + (1 : Int)))) : Int)) then (bif decide (ByteArray.size s527 + ByteArray.size (ByteArray.extract s526 (Int.toNat i528) (Int.toNat (IntKind.wrap IntKind.i64 (i528 + (1 : Int))))) ≤ strMax) then (REC (s527 ++ ByteArray.extract s526 (Int.toNat i528) (Int.toNat (IntKind.wrap IntKind.i64 (i528 + (1 : Int))))) (IntKind.wrap IntKind.i64 (i534 + (1 : Int)))) else
  (none)) else
  (none)) else
  (none)) else
  (bif IntKind.wrap IntKind.i64 (i534 - i528) == (1 : Int) then (bif decide ((0 : Int) ≤ IntKind.wrap IntKind.i64 (i528 + (2 : Int)) ∧ IntKind.wrap IntKind.i64 (i528 + (2 : Int)) ≤ (↑(ByteArray.size s526) : Int)) then (bif decide ((0 : Int) ≤ i528 ∧ i528 ≤ (↑(Int.toNat (IntKind.wrap IntKind.i64 (i528 + (2 : Int)))) : Int)) then (bif decide (ByteArray.size s527 + ByteArray.size (ByteArray.extract s526 (Int.toNat i528) (Int.toNat (IntKind.wrap IntKind.i64 (i528 + (2 : Int))))) ≤ strMax) then (REC (s527 ++ ByteArray.extract s526 (Int.toNat i528) (Int.toNat (IntKind.wrap IntKind.i64 (i528 + (2 : Int))))) (IntKind.wrap IntKind.i64 (i534 + (1 : Int)))) else
  (none)) else
  (none)) else
  (none)) else
  (bif decide ((0 : Int) ≤ IntKind.wrap IntKind.i64 (i528 + (1 : Int)) ∧ IntKind.wrap IntKind.i64 (i528 + (1 : Int)) ≤ (↑(ByteArray.size s526) : Int)) then (bif decide ((0 : Int) ≤ i528 ∧ i528 ≤ (↑(Int.toNat (IntKind.wrap IntKind.i64 (i528 + (1 : Int)))) : Int)) then (bif decide (ByteArray.size (ByteArray.extract s526 (Int.toNat i528) (Int.toNat (IntKind.wrap IntKind.i64 (i528 + (1 : Int))))) + ByteArray.size { data := #[(45 : UInt8)] } ≤ strMax) then (bif decide ((0 : Int) ≤ IntKind.wrap IntKind.i64 (i534 + (1 : Int)) ∧ IntKind.wrap IntKind.i64 (i534 + (1 : Int)) ≤ (↑(ByteArray.size s526) : Int)) then (bif decide ((0 : Int) ≤ i534 ∧ i534 ≤ (↑(Int.toNat (IntKind.wrap IntKind.i64 (i534 + (1 : Int)))) : Int)) then (bif decide (ByteArray.size (ByteArray.extract s526 (Int.toNat i528) (Int.toNat (IntKind.wrap IntKind.i64 (i528 + (1 : Int)))) ++ { data := #[(45 : UInt8)] }) + ByteArray.size (ByteArray.extract s526 (Int.toNat i534) (Int.toNat (IntKind.wrap IntKind.i64 (i534 + (1 : Int))))) ≤ strMax) then (letV (ByteArray.extract s526 (Int.toNat i528) (Int.toNat (IntKind.wrap IntKind.i64 (i528 + (1 : Int)))) ++ { data := #[(45 : UInt8)] } ++ ByteArray.extract s526 (Int.toNat i534) (Int.toNat (IntKind.wrap IntKind.i64 (i534 + (1 : Int))))) (fun s535 => bif decide (ByteArray.size s527 + ByteArray.size s535 ≤ strMax) then (REC (s527 ++ s535) (IntKind.wrap IntKind.i64 (i534 + (1 : Int)))) else
  (none))) else
  (none)) else
  (none)) else
  (none)) else
  (none)) else
  (none)) else
  (none)))) s526 s527 i528 m i528) else
  (kx0 s527 i528)
def Lp102_3 {R : Type} (m : Nat) (kx0 : ByteArray → Int → Option R) (s526 : ByteArray) : Nat → ByteArray → Int → Option R
  | 0, _, _ => none
  | n + 1, s527, i528 => Lp102_3_step m kx0 s526 (Lp102_3 m kx0 s526 n) s527 i528
def ELp102_3 (m : Nat) (R : Type) : Nat → List V → (Ex → List V → Option R) → Option R
  | 0, _, _ => none
  | n + 1, vs, k => match vs with
    | [V.f (F.lit (Value.string s526)), V.f (F.lit (Value.string s527)), V.f (F.lit (Value.int IntKind.i64 i528)), V.undef] => Lp102_3_step m (fun s536 i537 => k (Ex.exit (0 : Nat)) [V.f (F.lit (Value.string s526)), V.f (F.lit (Value.string s536)), V.f (F.lit (Value.int IntKind.i64 i537)), V.undef]) s526 (fun s527 i528 => ELp102_3 m R n [V.f (F.lit (Value.string s526)), V.f (F.lit (Value.string s527)), V.f (F.lit (Value.int IntKind.i64 i528)), V.undef] k) s527 i528
    | _ => none
def brLp102_3 (m : Nat) (L : LTbl) (R : Type) (vs : List V) (k : Ex → List V → Option R) : Option R := match vs with
  | [V.f (F.lit (Value.string s526)), V.f (F.lit (Value.string s527)), V.f (F.lit (Value.int IntKind.i64 i528)), V.undef] => Lp102_3 m (fun s536 i537 => k (Ex.exit (0 : Nat)) [V.f (F.lit (Value.string s526)), V.f (F.lit (Value.string s536)), V.f (F.lit (Value.int IntKind.i64 i537)), V.undef]) s526 m s527 i528
  | _ => L R 102 3 vs k
set_option maxRecDepth 100000 in
theorem stLp102_3 (m n : Nat) (R : Type) (s526 : ByteArray) (s527 : ByteArray) (i528 : Int) (k : Ex → List V → Option R) : codeK Tryd.prog H (T30 m) 102 (L22 m) 4 (loopBody Tryd.prog 102 3) (mkEnv [0, 3, 4, 69] [V.f (F.lit (Value.string s526)), V.f (F.lit (Value.string s527)), V.f (F.lit (Value.int IntKind.i64 i528)), V.undef] 0 (H.len 102)) (fun e env' => match e with | .normal => ELp102_3 m R n (vals [0, 3, 4, 69] env') k | e => k e (vals [0, 3, 4, 69] env')) = Lp102_3_step m (fun s536 i537 => k (Ex.exit (0 : Nat)) [V.f (F.lit (Value.string s526)), V.f (F.lit (Value.string s536)), V.f (F.lit (Value.int IntKind.i64 i537)), V.undef]) s526 (fun s527 i528 => ELp102_3 m R n [V.f (F.lit (Value.string s526)), V.f (F.lit (Value.string s527)), V.f (F.lit (Value.int IntKind.i64 i528)), V.undef] k) s527 i528 := by kernel_rfl
theorem eqLp102_3 (m : Nat) (R : Type) (s526 : ByteArray) (k : Ex → List V → Option R) : ∀ (n : Nat) (s527 : ByteArray) (i528 : Int), ELp102_3 m R n [V.f (F.lit (Value.string s526)), V.f (F.lit (Value.string s527)), V.f (F.lit (Value.int IntKind.i64 i528)), V.undef] k = Lp102_3 m (fun s536 i537 => k (Ex.exit (0 : Nat)) [V.f (F.lit (Value.string s526)), V.f (F.lit (Value.string s536)), V.f (F.lit (Value.int IntKind.i64 i537)), V.undef]) s526 n s527 i528
  | 0, _, _ => rfl
  | n + 1, s527, i528 => by
    simp only [ELp102_3, Lp102_3]
    congr 1
    funext s527 i528
    exact eqLp102_3 m R s526 k n s527 i528
def L23 (m : Nat) : LTbl := addB 102 3 (brLp102_3 m (L22 m)) (L22 m)
theorem okL23 (m : Nat) : LTOk Tryd.prog H (L23 m) := addB_ok (okT30 m) hM (okL22 m) (l := [0, 3, 4, 69]) (by kernel_rfl) (by kernel_rfl) m (fun R n vs k => ELp102_3 m R n vs k) (fun R vs k => rfl) (fun R n vs k x h => by
      simp only [ELp102_3] at h
      split at h
      · exact (stLp102_3 m n R _ _ _ k).trans h
      · cases h) fun R vs k x h => by
    unfold brLp102_3 at h
    split at h
    · exact .inl ((eqLp102_3 m R _ k m _ _).trans h)
    · exact .inr h

/-- hookflash/flashref2.setText -/
def Fn102 {R : Type} (m : Nat) : ByteArray → (ByteArray → Option R) → Option R := match m with
  | 0 => fun _ _ => none
  | m + 1 => fun s525 k =>
  Lp102_3 m (fun s538 i539 => bif decide (ByteArray.size { data := #[(91 : UInt8)] } + ByteArray.size s538 ≤ strMax) then (bif decide (ByteArray.size ({ data := #[(91 : UInt8)] } ++ s538) + ByteArray.size { data := #[(93 : UInt8)] } ≤ strMax) then (k ({ data := #[(91 : UInt8)] } ++ s538 ++ { data := #[(93 : UInt8)] })) else
  (none)) else
  (none)) s525 m ({ data := #[] }) ((0 : Int))
def brFn102 (m : Nat) (T : Tbl) (R : Type) (vs : List V) (k : V → List V → Option R) : Option R := match vs with
  | [V.f (F.lit (Value.string s525))] => Fn102 m s525 (fun s540 => k (V.f (F.lit (Value.string s540))) [V.undef])
  | _ => T R 102 vs k
set_option maxRecDepth 100000 in
theorem evFn102 (m : Nat) (R : Type) (s525 : ByteArray) (k : V → List V → Option R) : runK Tryd.prog H (T30 m) (L23 m) 102 [V.f (F.lit (Value.string s525))] k = Fn102 (m + 1) s525 (fun s540 => k (V.f (F.lit (Value.string s540))) [V.undef]) := by kernel_rfl
def T31 (m : Nat) : Tbl := addT 102 (brFn102 m (T30 m)) (T30 m)
theorem okT31 (m : Nat) : TblOk Tryd.prog (T31 m) := addT_ok (okT30 m) fun R vs k x h => by
  unfold brFn102 at h
  split at h
  · cases m with
    | zero => cases h
    | succ m => exact runK_some (okT30 m) hM (okL23 m) ((evFn102 m R _ k).trans h)
  · exact okT30 m R 102 _ k x h

/-- a round of a loop of hookflash/flashref2.setOf -/
def Lp82_2_step {R : Type} (m : Nat) (kx0 : ByteArray → Int → Option R) (kx1 : Int → Option R) (s511 : ByteArray) (s512 : ByteArray) (REC : Int → Option R) (i513 : Int) : Option R :=
  bif decide (i513 < (1024 : Int)) then (Lp82_8 m (fun s523 i524 => bif decide ((↑(ByteArray.size s523) : Int) > (1 : Int)) then (bif !ByteArray.toList s523 == ByteArray.toList { data := #[(48 : UInt8), (49 : UInt8), (50 : UInt8), (51 : UInt8), (52 : UInt8), (53 : UInt8), (54 : UInt8), (55 : UInt8), (56 : UInt8), (57 : UInt8)] } then (bif !ByteArray.toList s523 == ByteArray.toList (ByteArray.extract { data := #[(48 : UInt8), (49 : UInt8), (50 : UInt8), (51 : UInt8), (52 : UInt8), (53 : UInt8), (54 : UInt8), (55 : UInt8), (56 : UInt8), (57 : UInt8)] } (Int.toNat (1 : Int)) (ByteArray.size { data := #[(48 : UInt8), (49 : UInt8), (50 : UInt8), (51 : UInt8), (52 : UInt8), (53 : UInt8), (54 : UInt8), (55 : UInt8), (56 : UInt8), (57 : UInt8)] })) then (bif !ByteArray.toList s523 == ByteArray.toList (ByteArray.extract { data := #[(48 : UInt8), (49 : UInt8), (50 : UInt8), (51 : UInt8), (52 : UInt8), (53 : UInt8), (54 : UInt8), (55 : UInt8), (56 : UInt8), (57 : UInt8)] } (Int.toNat (2 : Int)) (ByteArray.size { data := #[(48 : UInt8), (49 : UInt8), (50 : UInt8), (51 : UInt8), (52 : UInt8), (53 : UInt8), (54 : UInt8), (55 : UInt8), (56 : UInt8), (57 : UInt8)] })) then (Fn102 m s523 (fun s541 => bif ByteArray.toList s541 == ByteArray.toList s511 then (kx0 s523 i513) else
  (REC (IntKind.wrap IntKind.i64 (i513 + (1 : Int)))))) else
  (REC (IntKind.wrap IntKind.i64 (i513 + (1 : Int))))) else
  (REC (IntKind.wrap IntKind.i64 (i513 + (1 : Int))))) else
  (REC (IntKind.wrap IntKind.i64 (i513 + (1 : Int))))) else
  (REC (IntKind.wrap IntKind.i64 (i513 + (1 : Int))))) s511 s512 i513 i513 m ({ data := #[] }) ((0 : Int))) else
  (kx1 i513)
def Lp82_2 {R : Type} (m : Nat) (kx0 : ByteArray → Int → Option R) (kx1 : Int → Option R) (s511 : ByteArray) (s512 : ByteArray) : Nat → Int → Option R
  | 0, _ => none
  | n + 1, i513 => Lp82_2_step m kx0 kx1 s511 s512 (Lp82_2 m kx0 kx1 s511 s512 n) i513
def ELp82_2 (m : Nat) (R : Type) : Nat → List V → (Ex → List V → Option R) → Option R
  | 0, _, _ => none
  | n + 1, vs, k => match vs with
    | [V.f (F.lit (Value.string s511)), V.f (F.lit (Value.string s512)), V.f (F.lit (Value.int IntKind.i64 i513)), V.undef] => Lp82_2_step m (fun s542 i543 => k Ex.ret [V.f (F.lit (Value.string s511)), V.f (F.lit (Value.string s542)), V.f (F.lit (Value.int IntKind.i64 i543)), V.undef]) (fun i544 => k (Ex.exit (0 : Nat)) [V.f (F.lit (Value.string s511)), V.f (F.lit (Value.string s512)), V.f (F.lit (Value.int IntKind.i64 i544)), V.undef]) s511 s512 (fun i513 => ELp82_2 m R n [V.f (F.lit (Value.string s511)), V.f (F.lit (Value.string s512)), V.f (F.lit (Value.int IntKind.i64 i513)), V.undef] k) i513
    | _ => none
def brLp82_2 (m : Nat) (L : LTbl) (R : Type) (vs : List V) (k : Ex → List V → Option R) : Option R := match vs with
  | [V.f (F.lit (Value.string s511)), V.f (F.lit (Value.string s512)), V.f (F.lit (Value.int IntKind.i64 i513)), V.undef] => Lp82_2 m (fun s542 i543 => k Ex.ret [V.f (F.lit (Value.string s511)), V.f (F.lit (Value.string s542)), V.f (F.lit (Value.int IntKind.i64 i543)), V.undef]) (fun i544 => k (Ex.exit (0 : Nat)) [V.f (F.lit (Value.string s511)), V.f (F.lit (Value.string s512)), V.f (F.lit (Value.int IntKind.i64 i544)), V.undef]) s511 s512 m i513
  | _ => L R 82 2 vs k
set_option maxRecDepth 100000 in
theorem stLp82_2 (m n : Nat) (R : Type) (s511 : ByteArray) (s512 : ByteArray) (i513 : Int) (k : Ex → List V → Option R) : codeK Tryd.prog H (T31 m) 82 (L23 m) 3 (loopBody Tryd.prog 82 2) (mkEnv [0, 2, 6, 49] [V.f (F.lit (Value.string s511)), V.f (F.lit (Value.string s512)), V.f (F.lit (Value.int IntKind.i64 i513)), V.undef] 0 (H.len 82)) (fun e env' => match e with | .normal => ELp82_2 m R n (vals [0, 2, 6, 49] env') k | e => k e (vals [0, 2, 6, 49] env')) = Lp82_2_step m (fun s542 i543 => k Ex.ret [V.f (F.lit (Value.string s511)), V.f (F.lit (Value.string s542)), V.f (F.lit (Value.int IntKind.i64 i543)), V.undef]) (fun i544 => k (Ex.exit (0 : Nat)) [V.f (F.lit (Value.string s511)), V.f (F.lit (Value.string s512)), V.f (F.lit (Value.int IntKind.i64 i544)), V.undef]) s511 s512 (fun i513 => ELp82_2 m R n [V.f (F.lit (Value.string s511)), V.f (F.lit (Value.string s512)), V.f (F.lit (Value.int IntKind.i64 i513)), V.undef] k) i513 := by kernel_rfl
theorem eqLp82_2 (m : Nat) (R : Type) (s511 : ByteArray) (s512 : ByteArray) (k : Ex → List V → Option R) : ∀ (n : Nat) (i513 : Int), ELp82_2 m R n [V.f (F.lit (Value.string s511)), V.f (F.lit (Value.string s512)), V.f (F.lit (Value.int IntKind.i64 i513)), V.undef] k = Lp82_2 m (fun s542 i543 => k Ex.ret [V.f (F.lit (Value.string s511)), V.f (F.lit (Value.string s542)), V.f (F.lit (Value.int IntKind.i64 i543)), V.undef]) (fun i544 => k (Ex.exit (0 : Nat)) [V.f (F.lit (Value.string s511)), V.f (F.lit (Value.string s512)), V.f (F.lit (Value.int IntKind.i64 i544)), V.undef]) s511 s512 n i513
  | 0, _ => rfl
  | n + 1, i513 => by
    simp only [ELp82_2, Lp82_2]
    congr 1
    funext i513
    exact eqLp82_2 m R s511 s512 k n i513
def L24 (m : Nat) : LTbl := addB 82 2 (brLp82_2 m (L23 m)) (L23 m)
theorem okL24 (m : Nat) : LTOk Tryd.prog H (L24 m) := addB_ok (okT31 m) hM (okL23 m) (l := [0, 2, 6, 49]) (by kernel_rfl) (by kernel_rfl) m (fun R n vs k => ELp82_2 m R n vs k) (fun R vs k => rfl) (fun R n vs k x h => by
      simp only [ELp82_2] at h
      split at h
      · exact (stLp82_2 m n R _ _ _ k).trans h
      · cases h) fun R vs k x h => by
    unfold brLp82_2 at h
    split at h
    · exact .inl ((eqLp82_2 m R _ _ k m _).trans h)
    · exact .inr h

/-- hookflash/flashref2.setOf -/
def Fn82 {R : Type} (m : Nat) : ByteArray → (ByteArray → Option R) → Option R := match m with
  | 0 => fun _ _ => none
  | m + 1 => fun s510 k =>
  Lp82_2 m (fun s545 i546 => k s545) (fun i547 => k ({ data := #[] })) s510 ({ data := #[] }) m ((0 : Int))
def brFn82 (m : Nat) (T : Tbl) (R : Type) (vs : List V) (k : V → List V → Option R) : Option R := match vs with
  | [V.f (F.lit (Value.string s510))] => Fn82 m s510 (fun s548 => k (V.f (F.lit (Value.string s548))) [V.undef])
  | _ => T R 82 vs k
set_option maxRecDepth 100000 in
theorem evFn82 (m : Nat) (R : Type) (s510 : ByteArray) (k : V → List V → Option R) : runK Tryd.prog H (T31 m) (L24 m) 82 [V.f (F.lit (Value.string s510))] k = Fn82 (m + 1) s510 (fun s548 => k (V.f (F.lit (Value.string s548))) [V.undef]) := by kernel_rfl
def T32 (m : Nat) : Tbl := addT 82 (brFn82 m (T31 m)) (T31 m)
theorem okT32 (m : Nat) : TblOk Tryd.prog (T32 m) := addT_ok (okT31 m) fun R vs k x h => by
  unfold brFn82 at h
  split at h
  · cases m with
    | zero => cases h
    | succ m => exact runK_some (okT31 m) hM (okL24 m) ((evFn82 m R _ k).trans h)
  · exact okT31 m R 82 _ k x h

/-- a rest of hookflash/flashref2.shapeOf -/
def Jn41_15 {R : Type} (m : Nat) (kx0 : Bool → Bool → Option R) (kx1 : Bool → Option R) (s556 : ByteArray) (r557 : Abs.Rows) (i558 : Int) (b559 : Bool) (r560 : Abs.Rows) (i561 : Int) (i562 : Int) (s563 : ByteArray) (i564 : Int) (b565 : Bool) : Option R :=
  bif b565 then (kx0 (decide ((↑(List.length r560) : Int) < (30 : Int))) true) else
  (kx1 false)
def brJn41_15 (m : Nat) (L : LTbl) (R : Type) (vs : List V) (k : Ex → List V → Option R) : Option R := match vs with
  | [V.f (F.lit (Value.string s556)), V.obj [V.own [LT.str] r557, V.f (F.lit (Value.int IntKind.u8 i558))], V.f (F.lit (Value.bool b559)), V.obj [V.own [LT.str] r560, V.f (F.lit (Value.int IntKind.u8 i561))], V.f (F.lit (Value.int IntKind.u8 i562)), V.f (F.lit (Value.string s563)), V.f (F.lit (Value.int IntKind.i64 i564)), V.f (F.lit (Value.bool b565)), V.undef] => Jn41_15 m (fun b566 b567 => k Ex.ret [V.f (F.lit (Value.string s556)), V.obj [V.f (F.lst [LT.str] r560), V.f (F.lit (Value.int IntKind.u8 i562))], V.f (F.lit (Value.bool b566)), V.obj [V.f (F.lst [LT.str] r560), V.f (F.lit (Value.int IntKind.u8 i562))], V.f (F.lit (Value.int IntKind.u8 i562)), V.f (F.lit (Value.string s563)), V.f (F.lit (Value.int IntKind.i64 i564)), V.f (F.lit (Value.bool b567)), V.undef]) (fun b568 => k Ex.normal [V.f (F.lit (Value.string s556)), V.obj [V.own [LT.str] r557, V.f (F.lit (Value.int IntKind.u8 i558))], V.f (F.lit (Value.bool b559)), V.obj [V.own [LT.str] r560, V.f (F.lit (Value.int IntKind.u8 i561))], V.f (F.lit (Value.int IntKind.u8 i562)), V.f (F.lit (Value.string s563)), V.f (F.lit (Value.int IntKind.i64 i564)), V.f (F.lit (Value.bool b568)), V.undef]) s556 r557 i558 b559 r560 i561 i562 s563 i564 b565
  | _ => L R 41 15 vs k
set_option maxRecDepth 100000 in
theorem evJn41_15 (m : Nat) (R : Type) (s556 : ByteArray) (r557 : Abs.Rows) (i558 : Int) (b559 : Bool) (r560 : Abs.Rows) (i561 : Int) (i562 : Int) (s563 : ByteArray) (i564 : Int) (b565 : Bool) (k : Ex → List V → Option R) : codeK Tryd.prog H (T32 m) 41 (L24 m) 16 (loopBody Tryd.prog 41 15) (mkEnv [0, 2, 3, 4, 5, 6, 7, 41, 72] [V.f (F.lit (Value.string s556)), V.obj [V.own [LT.str] r557, V.f (F.lit (Value.int IntKind.u8 i558))], V.f (F.lit (Value.bool b559)), V.obj [V.own [LT.str] r560, V.f (F.lit (Value.int IntKind.u8 i561))], V.f (F.lit (Value.int IntKind.u8 i562)), V.f (F.lit (Value.string s563)), V.f (F.lit (Value.int IntKind.i64 i564)), V.f (F.lit (Value.bool b565)), V.undef] 0 (H.len 41)) (fun e env' => k e (vals [0, 2, 3, 4, 5, 6, 7, 41, 72] env')) = Jn41_15 m (fun b566 b567 => k Ex.ret [V.f (F.lit (Value.string s556)), V.obj [V.f (F.lst [LT.str] r560), V.f (F.lit (Value.int IntKind.u8 i562))], V.f (F.lit (Value.bool b566)), V.obj [V.f (F.lst [LT.str] r560), V.f (F.lit (Value.int IntKind.u8 i562))], V.f (F.lit (Value.int IntKind.u8 i562)), V.f (F.lit (Value.string s563)), V.f (F.lit (Value.int IntKind.i64 i564)), V.f (F.lit (Value.bool b567)), V.undef]) (fun b568 => k Ex.normal [V.f (F.lit (Value.string s556)), V.obj [V.own [LT.str] r557, V.f (F.lit (Value.int IntKind.u8 i558))], V.f (F.lit (Value.bool b559)), V.obj [V.own [LT.str] r560, V.f (F.lit (Value.int IntKind.u8 i561))], V.f (F.lit (Value.int IntKind.u8 i562)), V.f (F.lit (Value.string s563)), V.f (F.lit (Value.int IntKind.i64 i564)), V.f (F.lit (Value.bool b568)), V.undef]) s556 r557 i558 b559 r560 i561 i562 s563 i564 b565 := by kernel_rfl
def L25 (m : Nat) : LTbl := addJ 41 15 (brJn41_15 m (L24 m)) (L24 m)
theorem okL25 (m : Nat) : LTOk Tryd.prog H (L25 m) := addJ_ok (okT32 m) hM (okL24 m) (l := [0, 2, 3, 4, 5, 6, 7, 41, 72]) (by kernel_rfl) (by kernel_rfl) fun R vs k x h => by
    unfold brJn41_15 at h
    split at h
    · exact .inl ((evJn41_15 m R _ _ _ _ _ _ _ _ _ _ k).trans h)
    · exact .inr h

/-- a round of a loop of hookflash/flashref2.shapeOf -/
def Lp41_2_step {R : Type} (m : Nat) (kx0 : ByteArray → Abs.Rows → Int → Bool → Abs.Rows → Int → Option R) (kx1 : ByteArray → Abs.Rows → Option R) (r479 : Abs.Rows) (i480 : Int) (b481 : Bool) (i483 : Int) (REC : ByteArray → Abs.Rows → Option R) (s478 : ByteArray) (r482 : Abs.Rows) : Option R :=
  bif !ByteArray.toList s478 == ByteArray.toList { data := #[] } then (bif decide ((0 : Int) ≤ (0 : Int) ∧ (0 : Int) < (↑(ByteArray.size s478) : Int)) then (Fn42 m ({ data := #[(35 : UInt8), (42 : UInt8), (48 : UInt8), (49 : UInt8), (50 : UInt8), (51 : UInt8), (52 : UInt8), (53 : UInt8), (54 : UInt8), (55 : UInt8), (56 : UInt8), (57 : UInt8)] }) ((↑(UInt8.toNat (Array.getD (ByteArray.data s478) (Int.toNat (0 : Int)) (0 : UInt8))) : Int)) (fun i484 => bif decide (i484 ≥ (0 : Int)) then (bif decide ((0 : Int) ≤ (1 : Int) ∧ (1 : Int) ≤ (↑(ByteArray.size s478) : Int)) then (Jn41_18 m (fun b497 => kx0 s478 r482 i483 b497 r482 i483) (fun s498 r499 => REC s498 r499) s478 r479 i480 b481 r482 i483 (ByteArray.extract s478 (0 : Nat) (Int.toNat (1 : Int))) ((1 : Int))) else
  (none)) else
  (bif (↑(UInt8.toNat (Array.getD (ByteArray.data s478) (Int.toNat (0 : Int)) (0 : UInt8))) : Int) == (88 : Int) then (Jn41_18 m (fun b500 => kx0 s478 r482 i483 b500 r482 i483) (fun s501 r502 => REC s501 r502) s478 r479 i480 b481 r482 i483 ({ data := #[(48 : UInt8), (49 : UInt8), (50 : UInt8), (51 : UInt8), (52 : UInt8), (53 : UInt8), (54 : UInt8), (55 : UInt8), (56 : UInt8), (57 : UInt8)] }) ((1 : Int))) else
  (bif (↑(UInt8.toNat (Array.getD (ByteArray.data s478) (Int.toNat (0 : Int)) (0 : UInt8))) : Int) == (90 : Int) then (Jn41_18 m (fun b503 => kx0 s478 r482 i483 b503 r482 i483) (fun s504 r505 => REC s504 r505) s478 r479 i480 b481 r482 i483 (ByteArray.extract { data := #[(48 : UInt8), (49 : UInt8), (50 : UInt8), (51 : UInt8), (52 : UInt8), (53 : UInt8), (54 : UInt8), (55 : UInt8), (56 : UInt8), (57 : UInt8)] } (Int.toNat (1 : Int)) (ByteArray.size { data := #[(48 : UInt8), (49 : UInt8), (50 : UInt8), (51 : UInt8), (52 : UInt8), (53 : UInt8), (54 : UInt8), (55 : UInt8), (56 : UInt8), (57 : UInt8)] })) ((1 : Int))) else
  (bif (↑(UInt8.toNat (Array.getD (ByteArray.data s478) (Int.toNat (0 : Int)) (0 : UInt8))) : Int) == (78 : Int) then (Jn41_18 m (fun b506 => kx0 s478 r482 i483 b506 r482 i483) (fun s507 r508 => REC s507 r508) s478 r479 i480 b481 r482 i483 (ByteArray.extract { data := #[(48 : UInt8), (49 : UInt8), (50 : UInt8), (51 : UInt8), (52 : UInt8), (53 : UInt8), (54 : UInt8), (55 : UInt8), (56 : UInt8), (57 : UInt8)] } (Int.toNat (2 : Int)) (ByteArray.size { data := #[(48 : UInt8), (49 : UInt8), (50 : UInt8), (51 : UInt8), (52 : UInt8), (53 : UInt8), (54 : UInt8), (55 : UInt8), (56 : UInt8), (57 : UInt8)] })) ((1 : Int))) else
  (bif (↑(UInt8.toNat (Array.getD (ByteArray.data s478) (Int.toNat (0 : Int)) (0 : UInt8))) : Int) == (91 : Int) then (Fn42 m s478 ((93 : Int)) (fun i509 => bif decide (IntKind.wrap IntKind.i64 (i509 + (1 : Int)) > (0 : Int)) then (bif decide ((0 : Int) ≤ IntKind.wrap IntKind.i64 (i509 + (1 : Int)) ∧ IntKind.wrap IntKind.i64 (i509 + (1 : Int)) ≤ (↑(ByteArray.size s478) : Int)) then (Fn82 m (ByteArray.extract s478 (0 : Nat) (Int.toNat (IntKind.wrap IntKind.i64 (i509 + (1 : Int))))) (fun s549 => Jn41_18 m (fun b550 => kx0 s478 r482 i483 b550 r482 i483) (fun s551 r552 => REC s551 r552) s478 r479 i480 b481 r482 i483 s549 (IntKind.wrap IntKind.i64 (i509 + (1 : Int))))) else
  (none)) else
  (Jn41_18 m (fun b553 => kx0 s478 r482 i483 b553 r482 i483) (fun s554 r555 => REC s554 r555) s478 r479 i480 b481 r482 i483 ({ data := #[] }) (IntKind.wrap IntKind.i64 (i509 + (1 : Int)))))) else
  (bif ByteArray.toList s478 == ByteArray.toList { data := #[(46 : UInt8)] } then (Jn41_15 m (fun b569 b570 => kx0 s478 r482 ((↑(UInt8.toNat (Array.getD (ByteArray.data s478) (Int.toNat (0 : Int)) (0 : UInt8))) : Int)) b569 r482 ((↑(UInt8.toNat (Array.getD (ByteArray.data s478) (Int.toNat (0 : Int)) (0 : UInt8))) : Int))) (fun b571 => Jn41_18 m (fun b572 => kx0 s478 r482 i483 b572 r482 i483) (fun s573 r574 => REC s573 r574) s478 r479 i480 b481 r482 i483 ({ data := #[] }) ((1 : Int))) s478 r479 i480 b481 r482 i483 ((↑(UInt8.toNat (Array.getD (ByteArray.data s478) (Int.toNat (0 : Int)) (0 : UInt8))) : Int)) ({ data := #[] }) ((1 : Int)) true) else
  (Jn41_15 m (fun b575 b576 => kx0 s478 r482 ((↑(UInt8.toNat (Array.getD (ByteArray.data s478) (Int.toNat (0 : Int)) (0 : UInt8))) : Int)) b575 r482 ((↑(UInt8.toNat (Array.getD (ByteArray.data s478) (Int.toNat (0 : Int)) (0 : UInt8))) : Int))) (fun b577 => Jn41_18 m (fun b578 => kx0 s478 r482 i483 b578 r482 i483) (fun s579 r580 => REC s579 r580) s478 r479 i480 b481 r482 i483 ({ data := #[] }) ((1 : Int))) s478 r479 i480 b481 r482 i483 ((↑(UInt8.toNat (Array.getD (ByteArray.data s478) (Int.toNat (0 : Int)) (0 : UInt8))) : Int)) ({ data := #[] }) ((1 : Int)) (ByteArray.toList s478 == ByteArray.toList { data := #[(33 : UInt8)] }))))))))) else
  (none)) else
  (kx1 s478 r482)
def Lp41_2 {R : Type} (m : Nat) (kx0 : ByteArray → Abs.Rows → Int → Bool → Abs.Rows → Int → Option R) (kx1 : ByteArray → Abs.Rows → Option R) (r479 : Abs.Rows) (i480 : Int) (b481 : Bool) (i483 : Int) : Nat → ByteArray → Abs.Rows → Option R
  | 0, _, _ => none
  | n + 1, s478, r482 => Lp41_2_step m kx0 kx1 r479 i480 b481 i483 (Lp41_2 m kx0 kx1 r479 i480 b481 i483 n) s478 r482
def ELp41_2 (m : Nat) (R : Type) : Nat → List V → (Ex → List V → Option R) → Option R
  | 0, _, _ => none
  | n + 1, vs, k => match vs with
    | [V.f (F.lit (Value.string s478)), V.obj [V.own [LT.str] r479, V.f (F.lit (Value.int IntKind.u8 i480))], V.f (F.lit (Value.bool b481)), V.obj [V.own [LT.str] r482, V.f (F.lit (Value.int IntKind.u8 i483))], V.undef] => Lp41_2_step m (fun s581 r582 i583 b584 r585 i586 => k Ex.ret [V.f (F.lit (Value.string s581)), V.obj [V.f (F.lst [LT.str] r582), V.f (F.lit (Value.int IntKind.u8 i583))], V.f (F.lit (Value.bool b584)), V.obj [V.f (F.lst [LT.str] r585), V.f (F.lit (Value.int IntKind.u8 i586))], V.undef]) (fun s587 r588 => k (Ex.exit (0 : Nat)) [V.f (F.lit (Value.string s587)), V.obj [V.own [LT.str] r479, V.f (F.lit (Value.int IntKind.u8 i480))], V.f (F.lit (Value.bool b481)), V.obj [V.own [LT.str] r588, V.f (F.lit (Value.int IntKind.u8 i483))], V.undef]) r479 i480 b481 i483 (fun s478 r482 => ELp41_2 m R n [V.f (F.lit (Value.string s478)), V.obj [V.own [LT.str] r479, V.f (F.lit (Value.int IntKind.u8 i480))], V.f (F.lit (Value.bool b481)), V.obj [V.own [LT.str] r482, V.f (F.lit (Value.int IntKind.u8 i483))], V.undef] k) s478 r482
    | _ => none
def brLp41_2 (m : Nat) (L : LTbl) (R : Type) (vs : List V) (k : Ex → List V → Option R) : Option R := match vs with
  | [V.f (F.lit (Value.string s478)), V.obj [V.own [LT.str] r479, V.f (F.lit (Value.int IntKind.u8 i480))], V.f (F.lit (Value.bool b481)), V.obj [V.own [LT.str] r482, V.f (F.lit (Value.int IntKind.u8 i483))], V.undef] => Lp41_2 m (fun s581 r582 i583 b584 r585 i586 => k Ex.ret [V.f (F.lit (Value.string s581)), V.obj [V.f (F.lst [LT.str] r582), V.f (F.lit (Value.int IntKind.u8 i583))], V.f (F.lit (Value.bool b584)), V.obj [V.f (F.lst [LT.str] r585), V.f (F.lit (Value.int IntKind.u8 i586))], V.undef]) (fun s587 r588 => k (Ex.exit (0 : Nat)) [V.f (F.lit (Value.string s587)), V.obj [V.own [LT.str] r479, V.f (F.lit (Value.int IntKind.u8 i480))], V.f (F.lit (Value.bool b481)), V.obj [V.own [LT.str] r588, V.f (F.lit (Value.int IntKind.u8 i483))], V.undef]) r479 i480 b481 i483 m s478 r482
  | _ => L R 41 2 vs k
set_option maxRecDepth 100000 in
theorem stLp41_2 (m n : Nat) (R : Type) (s478 : ByteArray) (r479 : Abs.Rows) (i480 : Int) (b481 : Bool) (r482 : Abs.Rows) (i483 : Int) (k : Ex → List V → Option R) : codeK Tryd.prog H (T32 m) 41 (L25 m) 3 (loopBody Tryd.prog 41 2) (mkEnv [0, 2, 3, 4, 72] [V.f (F.lit (Value.string s478)), V.obj [V.own [LT.str] r479, V.f (F.lit (Value.int IntKind.u8 i480))], V.f (F.lit (Value.bool b481)), V.obj [V.own [LT.str] r482, V.f (F.lit (Value.int IntKind.u8 i483))], V.undef] 0 (H.len 41)) (fun e env' => match e with | .normal => ELp41_2 m R n (vals [0, 2, 3, 4, 72] env') k | e => k e (vals [0, 2, 3, 4, 72] env')) = Lp41_2_step m (fun s581 r582 i583 b584 r585 i586 => k Ex.ret [V.f (F.lit (Value.string s581)), V.obj [V.f (F.lst [LT.str] r582), V.f (F.lit (Value.int IntKind.u8 i583))], V.f (F.lit (Value.bool b584)), V.obj [V.f (F.lst [LT.str] r585), V.f (F.lit (Value.int IntKind.u8 i586))], V.undef]) (fun s587 r588 => k (Ex.exit (0 : Nat)) [V.f (F.lit (Value.string s587)), V.obj [V.own [LT.str] r479, V.f (F.lit (Value.int IntKind.u8 i480))], V.f (F.lit (Value.bool b481)), V.obj [V.own [LT.str] r588, V.f (F.lit (Value.int IntKind.u8 i483))], V.undef]) r479 i480 b481 i483 (fun s478 r482 => ELp41_2 m R n [V.f (F.lit (Value.string s478)), V.obj [V.own [LT.str] r479, V.f (F.lit (Value.int IntKind.u8 i480))], V.f (F.lit (Value.bool b481)), V.obj [V.own [LT.str] r482, V.f (F.lit (Value.int IntKind.u8 i483))], V.undef] k) s478 r482 := by kernel_rfl
theorem eqLp41_2 (m : Nat) (R : Type) (r479 : Abs.Rows) (i480 : Int) (b481 : Bool) (i483 : Int) (k : Ex → List V → Option R) : ∀ (n : Nat) (s478 : ByteArray) (r482 : Abs.Rows), ELp41_2 m R n [V.f (F.lit (Value.string s478)), V.obj [V.own [LT.str] r479, V.f (F.lit (Value.int IntKind.u8 i480))], V.f (F.lit (Value.bool b481)), V.obj [V.own [LT.str] r482, V.f (F.lit (Value.int IntKind.u8 i483))], V.undef] k = Lp41_2 m (fun s581 r582 i583 b584 r585 i586 => k Ex.ret [V.f (F.lit (Value.string s581)), V.obj [V.f (F.lst [LT.str] r582), V.f (F.lit (Value.int IntKind.u8 i583))], V.f (F.lit (Value.bool b584)), V.obj [V.f (F.lst [LT.str] r585), V.f (F.lit (Value.int IntKind.u8 i586))], V.undef]) (fun s587 r588 => k (Ex.exit (0 : Nat)) [V.f (F.lit (Value.string s587)), V.obj [V.own [LT.str] r479, V.f (F.lit (Value.int IntKind.u8 i480))], V.f (F.lit (Value.bool b481)), V.obj [V.own [LT.str] r588, V.f (F.lit (Value.int IntKind.u8 i483))], V.undef]) r479 i480 b481 i483 n s478 r482
  | 0, _, _ => rfl
  | n + 1, s478, r482 => by
    simp only [ELp41_2, Lp41_2]
    congr 1
    funext s478 r482
    exact eqLp41_2 m R r479 i480 b481 i483 k n s478 r482
def L26 (m : Nat) : LTbl := addB 41 2 (brLp41_2 m (L25 m)) (L25 m)
theorem okL26 (m : Nat) : LTOk Tryd.prog H (L26 m) := addB_ok (okT32 m) hM (okL25 m) (l := [0, 2, 3, 4, 72]) (by kernel_rfl) (by kernel_rfl) m (fun R n vs k => ELp41_2 m R n vs k) (fun R vs k => rfl) (fun R n vs k x h => by
      simp only [ELp41_2] at h
      split at h
      · exact (stLp41_2 m n R _ _ _ _ _ _ k).trans h
      · cases h) fun R vs k x h => by
    unfold brLp41_2 at h
    split at h
    · exact .inl ((eqLp41_2 m R _ _ _ _ k m _ _).trans h)
    · exact .inr h

/-- hookflash/flashref2.in -/
def Fn48 {R : Type} (m : Nat) : Int → Int → Int → (Bool → Option R) → Option R := match m with
  | 0 => fun _ _ _ _ => none
  | m + 1 => fun i597 i598 i599 k =>
  bif decide (i598 ≤ i597) then (k (decide (i597 ≤ i599))) else
  (k false)
def brFn48 (m : Nat) (T : Tbl) (R : Type) (vs : List V) (k : V → List V → Option R) : Option R := match vs with
  | [V.f (F.lit (Value.int IntKind.i64 i597)), V.f (F.lit (Value.int IntKind.i64 i598)), V.f (F.lit (Value.int IntKind.i64 i599))] => Fn48 m i597 i598 i599 (fun b600 => k (V.f (F.lit (Value.bool b600))) [V.undef, V.undef, V.undef])
  | _ => T R 48 vs k
set_option maxRecDepth 100000 in
theorem evFn48 (m : Nat) (R : Type) (i597 : Int) (i598 : Int) (i599 : Int) (k : V → List V → Option R) : runK Tryd.prog H (T32 m) (L26 m) 48 [V.f (F.lit (Value.int IntKind.i64 i597)), V.f (F.lit (Value.int IntKind.i64 i598)), V.f (F.lit (Value.int IntKind.i64 i599))] k = Fn48 (m + 1) i597 i598 i599 (fun b600 => k (V.f (F.lit (Value.bool b600))) [V.undef, V.undef, V.undef]) := by kernel_rfl
def T33 (m : Nat) : Tbl := addT 48 (brFn48 m (T32 m)) (T32 m)
theorem okT33 (m : Nat) : TblOk Tryd.prog (T33 m) := addT_ok (okT32 m) fun R vs k x h => by
  unfold brFn48 at h
  split at h
  · cases m with
    | zero => cases h
    | succ m => exact runK_some (okT32 m) hM (okL26 m) ((evFn48 m R _ _ _ k).trans h)
  · exact okT32 m R 48 _ k x h

/-- hookflash/flashref2.shapeOf -/
def Fn41 {R : Type} (m : Nat) : ByteArray → (Abs.Rows → Int → Bool → Option R) → Option R := match m with
  | 0 => fun _ _ => none
  | m + 1 => fun s477 k =>
  Lp41_2 m (fun s589 r590 i591 b592 r593 i594 => k r590 i591 b592) (fun s595 r596 => Fn48 m ((↑(List.length r596) : Int)) ((1 : Int)) ((30 : Int)) (fun b601 => k r596 ((0 : Int)) b601)) rows0 ((0 : Int)) false ((0 : Int)) m s477 rows0
def brFn41 (m : Nat) (T : Tbl) (R : Type) (vs : List V) (k : V → List V → Option R) : Option R := match vs with
  | [V.f (F.lit (Value.string s477))] => Fn41 m s477 (fun r602 i603 b604 => k (V.tup [V.agg [V.f (F.lst [LT.str] r602), V.f (F.lit (Value.int IntKind.u8 i603))], V.f (F.lit (Value.bool b604))]) [V.undef])
  | _ => T R 41 vs k
set_option maxRecDepth 100000 in
theorem evFn41 (m : Nat) (R : Type) (s477 : ByteArray) (k : V → List V → Option R) : runK Tryd.prog H (T33 m) (L26 m) 41 [V.f (F.lit (Value.string s477))] (freezeK 1 k) = Fn41 (m + 1) s477 (fun r602 i603 b604 => k (V.tup [V.agg [V.f (F.lst [LT.str] r602), V.f (F.lit (Value.int IntKind.u8 i603))], V.f (F.lit (Value.bool b604))]) [V.undef]) := by kernel_rfl
def T34 (m : Nat) : Tbl := addT 41 (brFn41 m (T33 m)) (T33 m)
theorem okT34 (m : Nat) : TblOk Tryd.prog (T34 m) := addT_ok (okT33 m) fun R vs k x h => by
  unfold brFn41 at h
  split at h
  · cases m with
    | zero => cases h
    | succ m => exact runK_frz (okT33 m) hM (okL26 m) ((evFn41 m R _ k).trans h)
  · exact okT33 m R 41 _ k x h

/-- hookflash/flashref2.PatternFault -/
def Fn9 {R : Type} (m : Nat) : ByteArray → (Int → Option R) → Option R := match m with
  | 0 => fun _ _ => none
  | m + 1 => fun s476 k =>
  bif decide ((↑(ByteArray.size s476) : Int) > (60 : Int)) then (k ((2 : Int))) else
  (Fn41 m s476 (fun r605 i606 b607 => bif !b607 then (k ((9 : Int))) else
  (k ((0 : Int)))))
def brFn9 (m : Nat) (T : Tbl) (R : Type) (vs : List V) (k : V → List V → Option R) : Option R := match vs with
  | [V.f (F.lit (Value.string s476))] => Fn9 m s476 (fun i608 => k (V.f (F.lit (Value.int IntKind.i64 i608))) [V.undef])
  | _ => T R 9 vs k
set_option maxRecDepth 100000 in
theorem evFn9 (m : Nat) (R : Type) (s476 : ByteArray) (k : V → List V → Option R) : runK Tryd.prog H (T34 m) (L26 m) 9 [V.f (F.lit (Value.string s476))] k = Fn9 (m + 1) s476 (fun i608 => k (V.f (F.lit (Value.int IntKind.i64 i608))) [V.undef]) := by kernel_rfl
def T35 (m : Nat) : Tbl := addT 9 (brFn9 m (T34 m)) (T34 m)
theorem okT35 (m : Nat) : TblOk Tryd.prog (T35 m) := addT_ok (okT34 m) fun R vs k x h => by
  unfold brFn9 at h
  split at h
  · cases m with
    | zero => cases h
    | succ m => exact runK_some (okT34 m) hM (okL26 m) ((evFn9 m R _ k).trans h)
  · exact okT34 m R 9 _ k x h

/-- a round of a loop of hookflash/flashlaw2.errs -/
def Lp10_2_step {R : Type} (m : Nat) (kx0 : Int → Int → Option R) (kx1 : Int → Option R) (r613 : Abs.Rows) (i614 : Int) (r615 : Abs.Rows) (i616 : Int) (REC : Int → Option R) (i617 : Int) : Option R :=
  bif decide (i617 < i616) then (bif decide ((0 : Int) ≤ i617 ∧ i617 < (↑(List.length r615) : Int)) then (bif fI r615 (Int.toNat i617) (0 : Nat) != (0 : Int) then (kx0 (fI r615 (Int.toNat i617) (0 : Nat)) i617) else
  (REC (IntKind.wrap IntKind.i64 (i617 + (1 : Int))))) else
  (none)) else
  (kx1 i617)
def Lp10_2 {R : Type} (m : Nat) (kx0 : Int → Int → Option R) (kx1 : Int → Option R) (r613 : Abs.Rows) (i614 : Int) (r615 : Abs.Rows) (i616 : Int) : Nat → Int → Option R
  | 0, _ => none
  | n + 1, i617 => Lp10_2_step m kx0 kx1 r613 i614 r615 i616 (Lp10_2 m kx0 kx1 r613 i614 r615 i616 n) i617
def ELp10_2 (m : Nat) (R : Type) : Nat → List V → (Ex → List V → Option R) → Option R
  | 0, _, _ => none
  | n + 1, vs, k => match vs with
    | [V.bor [LT.int IntKind.i64] r613, V.f (F.lit (Value.int IntKind.i64 i614)), V.bor [LT.int IntKind.i64] r615, V.f (F.lit (Value.int IntKind.i64 i616)), V.f (F.lit (Value.int IntKind.i64 i617)), V.undef] => Lp10_2_step m (fun i618 i619 => k Ex.ret [V.bor [LT.int IntKind.i64] r613, V.f (F.lit (Value.int IntKind.i64 i618)), V.bor [LT.int IntKind.i64] r615, V.f (F.lit (Value.int IntKind.i64 i616)), V.f (F.lit (Value.int IntKind.i64 i619)), V.undef]) (fun i620 => k (Ex.exit (0 : Nat)) [V.bor [LT.int IntKind.i64] r613, V.f (F.lit (Value.int IntKind.i64 i614)), V.bor [LT.int IntKind.i64] r615, V.f (F.lit (Value.int IntKind.i64 i616)), V.f (F.lit (Value.int IntKind.i64 i620)), V.undef]) r613 i614 r615 i616 (fun i617 => ELp10_2 m R n [V.bor [LT.int IntKind.i64] r613, V.f (F.lit (Value.int IntKind.i64 i614)), V.bor [LT.int IntKind.i64] r615, V.f (F.lit (Value.int IntKind.i64 i616)), V.f (F.lit (Value.int IntKind.i64 i617)), V.undef] k) i617
    | _ => none
def brLp10_2 (m : Nat) (L : LTbl) (R : Type) (vs : List V) (k : Ex → List V → Option R) : Option R := match vs with
  | [V.bor [LT.int IntKind.i64] r613, V.f (F.lit (Value.int IntKind.i64 i614)), V.bor [LT.int IntKind.i64] r615, V.f (F.lit (Value.int IntKind.i64 i616)), V.f (F.lit (Value.int IntKind.i64 i617)), V.undef] => Lp10_2 m (fun i618 i619 => k Ex.ret [V.bor [LT.int IntKind.i64] r613, V.f (F.lit (Value.int IntKind.i64 i618)), V.bor [LT.int IntKind.i64] r615, V.f (F.lit (Value.int IntKind.i64 i616)), V.f (F.lit (Value.int IntKind.i64 i619)), V.undef]) (fun i620 => k (Ex.exit (0 : Nat)) [V.bor [LT.int IntKind.i64] r613, V.f (F.lit (Value.int IntKind.i64 i614)), V.bor [LT.int IntKind.i64] r615, V.f (F.lit (Value.int IntKind.i64 i616)), V.f (F.lit (Value.int IntKind.i64 i620)), V.undef]) r613 i614 r615 i616 m i617
  | _ => L R 10 2 vs k
set_option maxRecDepth 100000 in
theorem stLp10_2 (m n : Nat) (R : Type) (r613 : Abs.Rows) (i614 : Int) (r615 : Abs.Rows) (i616 : Int) (i617 : Int) (k : Ex → List V → Option R) : codeK Tryd.prog H (T35 m) 10 (L26 m) 3 (loopBody Tryd.prog 10 2) (mkEnv [0, 2, 5, 6, 7, 15] [V.bor [LT.int IntKind.i64] r613, V.f (F.lit (Value.int IntKind.i64 i614)), V.bor [LT.int IntKind.i64] r615, V.f (F.lit (Value.int IntKind.i64 i616)), V.f (F.lit (Value.int IntKind.i64 i617)), V.undef] 0 (H.len 10)) (fun e env' => match e with | .normal => ELp10_2 m R n (vals [0, 2, 5, 6, 7, 15] env') k | e => k e (vals [0, 2, 5, 6, 7, 15] env')) = Lp10_2_step m (fun i618 i619 => k Ex.ret [V.bor [LT.int IntKind.i64] r613, V.f (F.lit (Value.int IntKind.i64 i618)), V.bor [LT.int IntKind.i64] r615, V.f (F.lit (Value.int IntKind.i64 i616)), V.f (F.lit (Value.int IntKind.i64 i619)), V.undef]) (fun i620 => k (Ex.exit (0 : Nat)) [V.bor [LT.int IntKind.i64] r613, V.f (F.lit (Value.int IntKind.i64 i614)), V.bor [LT.int IntKind.i64] r615, V.f (F.lit (Value.int IntKind.i64 i616)), V.f (F.lit (Value.int IntKind.i64 i620)), V.undef]) r613 i614 r615 i616 (fun i617 => ELp10_2 m R n [V.bor [LT.int IntKind.i64] r613, V.f (F.lit (Value.int IntKind.i64 i614)), V.bor [LT.int IntKind.i64] r615, V.f (F.lit (Value.int IntKind.i64 i616)), V.f (F.lit (Value.int IntKind.i64 i617)), V.undef] k) i617 := by kernel_rfl
theorem eqLp10_2 (m : Nat) (R : Type) (r613 : Abs.Rows) (i614 : Int) (r615 : Abs.Rows) (i616 : Int) (k : Ex → List V → Option R) : ∀ (n : Nat) (i617 : Int), ELp10_2 m R n [V.bor [LT.int IntKind.i64] r613, V.f (F.lit (Value.int IntKind.i64 i614)), V.bor [LT.int IntKind.i64] r615, V.f (F.lit (Value.int IntKind.i64 i616)), V.f (F.lit (Value.int IntKind.i64 i617)), V.undef] k = Lp10_2 m (fun i618 i619 => k Ex.ret [V.bor [LT.int IntKind.i64] r613, V.f (F.lit (Value.int IntKind.i64 i618)), V.bor [LT.int IntKind.i64] r615, V.f (F.lit (Value.int IntKind.i64 i616)), V.f (F.lit (Value.int IntKind.i64 i619)), V.undef]) (fun i620 => k (Ex.exit (0 : Nat)) [V.bor [LT.int IntKind.i64] r613, V.f (F.lit (Value.int IntKind.i64 i614)), V.bor [LT.int IntKind.i64] r615, V.f (F.lit (Value.int IntKind.i64 i616)), V.f (F.lit (Value.int IntKind.i64 i620)), V.undef]) r613 i614 r615 i616 n i617
  | 0, _ => rfl
  | n + 1, i617 => by
    simp only [ELp10_2, Lp10_2]
    congr 1
    funext i617
    exact eqLp10_2 m R r613 i614 r615 i616 k n i617
def L27 (m : Nat) : LTbl := addB 10 2 (brLp10_2 m (L26 m)) (L26 m)
theorem okL27 (m : Nat) : LTOk Tryd.prog H (L27 m) := addB_ok (okT35 m) hM (okL26 m) (l := [0, 2, 5, 6, 7, 15]) (by kernel_rfl) (by kernel_rfl) m (fun R n vs k => ELp10_2 m R n vs k) (fun R vs k => rfl) (fun R n vs k x h => by
      simp only [ELp10_2] at h
      split at h
      · exact (stLp10_2 m n R _ _ _ _ _ k).trans h
      · cases h) fun R vs k x h => by
    unfold brLp10_2 at h
    split at h
    · exact .inl ((eqLp10_2 m R _ _ _ _ k m _).trans h)
    · exact .inr h

/-- hookflash/flashlaw2.errs -/
def Fn10 {R : Type} (m : Nat) : Abs.Rows → (Int → Option R) → Option R := match m with
  | 0 => fun _ _ => none
  | m + 1 => fun r612 k =>
  Lp10_2 m (fun i621 i622 => k i621) (fun i623 => k ((0 : Int))) r612 ((0 : Int)) r612 ((↑(List.length r612) : Int)) m ((0 : Int))
def brFn10 (m : Nat) (T : Tbl) (R : Type) (vs : List V) (k : V → List V → Option R) : Option R := match vs with
  | [V.bor [LT.int IntKind.i64] r612] => Fn10 m r612 (fun i624 => k (V.f (F.lit (Value.int IntKind.i64 i624))) [V.undef])
  | _ => T R 10 vs k
set_option maxRecDepth 100000 in
theorem evFn10 (m : Nat) (R : Type) (r612 : Abs.Rows) (k : V → List V → Option R) : runK Tryd.prog H (T35 m) (L27 m) 10 [V.bor [LT.int IntKind.i64] r612] k = Fn10 (m + 1) r612 (fun i624 => k (V.f (F.lit (Value.int IntKind.i64 i624))) [V.undef]) := by kernel_rfl
def T36 (m : Nat) : Tbl := addT 10 (brFn10 m (T35 m)) (T35 m)
theorem okT36 (m : Nat) : TblOk Tryd.prog (T36 m) := addT_ok (okT35 m) fun R vs k x h => by
  unfold brFn10 at h
  split at h
  · cases m with
    | zero => cases h
    | succ m => exact runK_some (okT35 m) hM (okL27 m) ((evFn10 m R _ k).trans h)
  · exact okT35 m R 10 _ k x h

/-- a round of a loop of hookflash/flashref2.only -/
def Lp49_2_step {R : Type} (m : Nat) (kx0 : Bool → Int → Option R) (kx1 : Int → Option R) (s630 : ByteArray) (s631 : ByteArray) (b632 : Bool) (i633 : Int) (REC : Int → Option R) (i634 : Int) : Option R :=
  bif decide (i634 < i633) then (bif decide ((0 : Int) ≤ i634 ∧ i634 < (↑(ByteArray.size s630) : Int)) then (Fn42 m s631 ((↑(UInt8.toNat (Array.getD (ByteArray.data s630) (Int.toNat i634) (0 : UInt8))) : Int)) (fun i635 => bif decide (i635 < (0 : Int)) then (kx0 false i634) else
  (REC (IntKind.wrap IntKind.i64 (i634 + (1 : Int)))))) else
  (none)) else
  (kx1 i634)
def Lp49_2 {R : Type} (m : Nat) (kx0 : Bool → Int → Option R) (kx1 : Int → Option R) (s630 : ByteArray) (s631 : ByteArray) (b632 : Bool) (i633 : Int) : Nat → Int → Option R
  | 0, _ => none
  | n + 1, i634 => Lp49_2_step m kx0 kx1 s630 s631 b632 i633 (Lp49_2 m kx0 kx1 s630 s631 b632 i633 n) i634
def ELp49_2 (m : Nat) (R : Type) : Nat → List V → (Ex → List V → Option R) → Option R
  | 0, _, _ => none
  | n + 1, vs, k => match vs with
    | [V.f (F.lit (Value.string s630)), V.f (F.lit (Value.string s631)), V.f (F.lit (Value.bool b632)), V.f (F.lit (Value.int IntKind.i64 i633)), V.f (F.lit (Value.int IntKind.i64 i634)), V.undef, V.undef] => Lp49_2_step m (fun b636 i637 => k Ex.ret [V.f (F.lit (Value.string s630)), V.f (F.lit (Value.string s631)), V.f (F.lit (Value.bool b636)), V.f (F.lit (Value.int IntKind.i64 i633)), V.f (F.lit (Value.int IntKind.i64 i637)), V.undef, V.undef]) (fun i638 => k (Ex.exit (0 : Nat)) [V.f (F.lit (Value.string s630)), V.f (F.lit (Value.string s631)), V.f (F.lit (Value.bool b632)), V.f (F.lit (Value.int IntKind.i64 i633)), V.f (F.lit (Value.int IntKind.i64 i638)), V.undef, V.undef]) s630 s631 b632 i633 (fun i634 => ELp49_2 m R n [V.f (F.lit (Value.string s630)), V.f (F.lit (Value.string s631)), V.f (F.lit (Value.bool b632)), V.f (F.lit (Value.int IntKind.i64 i633)), V.f (F.lit (Value.int IntKind.i64 i634)), V.undef, V.undef] k) i634
    | _ => none
def brLp49_2 (m : Nat) (L : LTbl) (R : Type) (vs : List V) (k : Ex → List V → Option R) : Option R := match vs with
  | [V.f (F.lit (Value.string s630)), V.f (F.lit (Value.string s631)), V.f (F.lit (Value.bool b632)), V.f (F.lit (Value.int IntKind.i64 i633)), V.f (F.lit (Value.int IntKind.i64 i634)), V.undef, V.undef] => Lp49_2 m (fun b636 i637 => k Ex.ret [V.f (F.lit (Value.string s630)), V.f (F.lit (Value.string s631)), V.f (F.lit (Value.bool b636)), V.f (F.lit (Value.int IntKind.i64 i633)), V.f (F.lit (Value.int IntKind.i64 i637)), V.undef, V.undef]) (fun i638 => k (Ex.exit (0 : Nat)) [V.f (F.lit (Value.string s630)), V.f (F.lit (Value.string s631)), V.f (F.lit (Value.bool b632)), V.f (F.lit (Value.int IntKind.i64 i633)), V.f (F.lit (Value.int IntKind.i64 i638)), V.undef, V.undef]) s630 s631 b632 i633 m i634
  | _ => L R 49 2 vs k
set_option maxRecDepth 100000 in
theorem stLp49_2 (m n : Nat) (R : Type) (s630 : ByteArray) (s631 : ByteArray) (b632 : Bool) (i633 : Int) (i634 : Int) (k : Ex → List V → Option R) : codeK Tryd.prog H (T36 m) 49 (L27 m) 3 (loopBody Tryd.prog 49 2) (mkEnv [0, 1, 4, 7, 8, 18, 19] [V.f (F.lit (Value.string s630)), V.f (F.lit (Value.string s631)), V.f (F.lit (Value.bool b632)), V.f (F.lit (Value.int IntKind.i64 i633)), V.f (F.lit (Value.int IntKind.i64 i634)), V.undef, V.undef] 0 (H.len 49)) (fun e env' => match e with | .normal => ELp49_2 m R n (vals [0, 1, 4, 7, 8, 18, 19] env') k | e => k e (vals [0, 1, 4, 7, 8, 18, 19] env')) = Lp49_2_step m (fun b636 i637 => k Ex.ret [V.f (F.lit (Value.string s630)), V.f (F.lit (Value.string s631)), V.f (F.lit (Value.bool b636)), V.f (F.lit (Value.int IntKind.i64 i633)), V.f (F.lit (Value.int IntKind.i64 i637)), V.undef, V.undef]) (fun i638 => k (Ex.exit (0 : Nat)) [V.f (F.lit (Value.string s630)), V.f (F.lit (Value.string s631)), V.f (F.lit (Value.bool b632)), V.f (F.lit (Value.int IntKind.i64 i633)), V.f (F.lit (Value.int IntKind.i64 i638)), V.undef, V.undef]) s630 s631 b632 i633 (fun i634 => ELp49_2 m R n [V.f (F.lit (Value.string s630)), V.f (F.lit (Value.string s631)), V.f (F.lit (Value.bool b632)), V.f (F.lit (Value.int IntKind.i64 i633)), V.f (F.lit (Value.int IntKind.i64 i634)), V.undef, V.undef] k) i634 := by kernel_rfl
theorem eqLp49_2 (m : Nat) (R : Type) (s630 : ByteArray) (s631 : ByteArray) (b632 : Bool) (i633 : Int) (k : Ex → List V → Option R) : ∀ (n : Nat) (i634 : Int), ELp49_2 m R n [V.f (F.lit (Value.string s630)), V.f (F.lit (Value.string s631)), V.f (F.lit (Value.bool b632)), V.f (F.lit (Value.int IntKind.i64 i633)), V.f (F.lit (Value.int IntKind.i64 i634)), V.undef, V.undef] k = Lp49_2 m (fun b636 i637 => k Ex.ret [V.f (F.lit (Value.string s630)), V.f (F.lit (Value.string s631)), V.f (F.lit (Value.bool b636)), V.f (F.lit (Value.int IntKind.i64 i633)), V.f (F.lit (Value.int IntKind.i64 i637)), V.undef, V.undef]) (fun i638 => k (Ex.exit (0 : Nat)) [V.f (F.lit (Value.string s630)), V.f (F.lit (Value.string s631)), V.f (F.lit (Value.bool b632)), V.f (F.lit (Value.int IntKind.i64 i633)), V.f (F.lit (Value.int IntKind.i64 i638)), V.undef, V.undef]) s630 s631 b632 i633 n i634
  | 0, _ => rfl
  | n + 1, i634 => by
    simp only [ELp49_2, Lp49_2]
    congr 1
    funext i634
    exact eqLp49_2 m R s630 s631 b632 i633 k n i634
def L28 (m : Nat) : LTbl := addB 49 2 (brLp49_2 m (L27 m)) (L27 m)
theorem okL28 (m : Nat) : LTOk Tryd.prog H (L28 m) := addB_ok (okT36 m) hM (okL27 m) (l := [0, 1, 4, 7, 8, 18, 19]) (by kernel_rfl) (by kernel_rfl) m (fun R n vs k => ELp49_2 m R n vs k) (fun R vs k => rfl) (fun R n vs k x h => by
      simp only [ELp49_2] at h
      split at h
      · exact (stLp49_2 m n R _ _ _ _ _ k).trans h
      · cases h) fun R vs k x h => by
    unfold brLp49_2 at h
    split at h
    · exact .inl ((eqLp49_2 m R _ _ _ _ k m _).trans h)
    · exact .inr h

/-- hookflash/flashref2.only -/
def Fn49 {R : Type} (m : Nat) : ByteArray → ByteArray → (Bool → Option R) → Option R := match m with
  | 0 => fun _ _ _ => none
  | m + 1 => fun s628 s629 k =>
  Lp49_2 m (fun b639 i640 => k b639) (fun i641 => k true) s628 s629 false ((↑(ByteArray.size s628) : Int)) m ((0 : Int))
def brFn49 (m : Nat) (T : Tbl) (R : Type) (vs : List V) (k : V → List V → Option R) : Option R := match vs with
  | [V.f (F.lit (Value.string s628)), V.f (F.lit (Value.string s629))] => Fn49 m s628 s629 (fun b642 => k (V.f (F.lit (Value.bool b642))) [V.undef, V.undef])
  | _ => T R 49 vs k
set_option maxRecDepth 100000 in
theorem evFn49 (m : Nat) (R : Type) (s628 : ByteArray) (s629 : ByteArray) (k : V → List V → Option R) : runK Tryd.prog H (T36 m) (L28 m) 49 [V.f (F.lit (Value.string s628)), V.f (F.lit (Value.string s629))] k = Fn49 (m + 1) s628 s629 (fun b642 => k (V.f (F.lit (Value.bool b642))) [V.undef, V.undef]) := by kernel_rfl
def T37 (m : Nat) : Tbl := addT 49 (brFn49 m (T36 m)) (T36 m)
theorem okT37 (m : Nat) : TblOk Tryd.prog (T37 m) := addT_ok (okT36 m) fun R vs k x h => by
  unfold brFn49 at h
  split at h
  · cases m with
    | zero => cases h
    | succ m => exact runK_some (okT36 m) hM (okL28 m) ((evFn49 m R _ _ k).trans h)
  · exact okT36 m R 49 _ k x h

/-- hookflash/flashref2.DialledFault -/
def Fn16 {R : Type} (m : Nat) : ByteArray → (Int → Option R) → Option R := match m with
  | 0 => fun _ _ => none
  | m + 1 => fun s626 k =>
  Fn48 m ((↑(ByteArray.size s626) : Int)) ((1 : Int)) ((30 : Int)) (fun b627 => bif !b627 then (k ((3 : Int))) else
  (Fn49 m s626 ({ data := #[(35 : UInt8), (42 : UInt8), (48 : UInt8), (49 : UInt8), (50 : UInt8), (51 : UInt8), (52 : UInt8), (53 : UInt8), (54 : UInt8), (55 : UInt8), (56 : UInt8), (57 : UInt8)] }) (fun b643 => bif !b643 then (k ((3 : Int))) else
  (k ((0 : Int))))))
def brFn16 (m : Nat) (T : Tbl) (R : Type) (vs : List V) (k : V → List V → Option R) : Option R := match vs with
  | [V.f (F.lit (Value.string s626))] => Fn16 m s626 (fun i644 => k (V.f (F.lit (Value.int IntKind.i64 i644))) [V.undef])
  | _ => T R 16 vs k
set_option maxRecDepth 100000 in
theorem evFn16 (m : Nat) (R : Type) (s626 : ByteArray) (k : V → List V → Option R) : runK Tryd.prog H (T37 m) (L28 m) 16 [V.f (F.lit (Value.string s626))] k = Fn16 (m + 1) s626 (fun i644 => k (V.f (F.lit (Value.int IntKind.i64 i644))) [V.undef]) := by kernel_rfl
def T38 (m : Nat) : Tbl := addT 16 (brFn16 m (T37 m)) (T37 m)
theorem okT38 (m : Nat) : TblOk Tryd.prog (T38 m) := addT_ok (okT37 m) fun R vs k x h => by
  unfold brFn16 at h
  split at h
  · cases m with
    | zero => cases h
    | succ m => exact runK_some (okT37 m) hM (okL28 m) ((evFn16 m R _ k).trans h)
  · exact okT37 m R 16 _ k x h

/-- a round of a loop of hookflash/flashref2.places -/
def Lp51_10_step {R : Type} (m : Nat) (kx0 : Abs.Rows → Int → Option R) (r659 : Abs.Rows) (i660 : Int) (r661 : Abs.Rows) (s662 : ByteArray) (r664 : Abs.Rows) (i665 : Int) (i666 : Int) (i667 : Int) (REC : Abs.Rows → Int → Option R) (r663 : Abs.Rows) (i668 : Int) : Option R :=
  bif decide (i668 < i667) then (bif decide ((0 : Int) ≤ i668 ∧ i668 < (↑(ByteArray.size s662) : Int)) then (bif decide (List.length r663 + List.length [[F.lit (Value.int IntKind.i64 (IntKind.wrap IntKind.i64 (↑(UInt8.toNat (Array.getD (ByteArray.data s662) (Int.toNat i668) (0 : UInt8))) : Int)))]] ≤ rowMax) then (letV (r663 ++ [[F.lit (Value.int IntKind.i64 (IntKind.wrap IntKind.i64 (↑(UInt8.toNat (Array.getD (ByteArray.data s662) (Int.toNat i668) (0 : UInt8))) : Int)))]]) (fun r669 => REC r669 (IntKind.wrap IntKind.i64 (i668 + (1 : Int))))) else
  (none)) else
  (none)) else
  (kx0 r663 i668)
def Lp51_10 {R : Type} (m : Nat) (kx0 : Abs.Rows → Int → Option R) (r659 : Abs.Rows) (i660 : Int) (r661 : Abs.Rows) (s662 : ByteArray) (r664 : Abs.Rows) (i665 : Int) (i666 : Int) (i667 : Int) : Nat → Abs.Rows → Int → Option R
  | 0, _, _ => none
  | n + 1, r663, i668 => Lp51_10_step m kx0 r659 i660 r661 s662 r664 i665 i666 i667 (Lp51_10 m kx0 r659 i660 r661 s662 r664 i665 i666 i667 n) r663 i668
def ELp51_10 (m : Nat) (R : Type) : Nat → List V → (Ex → List V → Option R) → Option R
  | 0, _, _ => none
  | n + 1, vs, k => match vs with
    | [V.obj [V.f (F.lst [LT.str] r659), V.f (F.lit (Value.int IntKind.u8 i660))], V.own [LT.lst [LT.int IntKind.i64]] r661, V.f (F.lit (Value.string s662)), V.own [LT.int IntKind.i64] r663, V.ref (3 : Nat) (0 : Nat), V.f (F.lst [LT.str] r664), V.f (F.lit (Value.int IntKind.i64 i665)), V.f (F.lit (Value.int IntKind.i64 i666)), V.undef, V.f (F.lit (Value.int IntKind.i64 i667)), V.f (F.lit (Value.int IntKind.i64 i668)), V.undef] => Lp51_10_step m (fun r670 i671 => k (Ex.exit (2 : Nat)) [V.obj [V.f (F.lst [LT.str] r659), V.f (F.lit (Value.int IntKind.u8 i660))], V.own [LT.lst [LT.int IntKind.i64]] r661, V.f (F.lit (Value.string s662)), V.own [LT.int IntKind.i64] r670, V.ref (3 : Nat) (0 : Nat), V.f (F.lst [LT.str] r664), V.f (F.lit (Value.int IntKind.i64 i665)), V.f (F.lit (Value.int IntKind.i64 i666)), V.undef, V.f (F.lit (Value.int IntKind.i64 i667)), V.f (F.lit (Value.int IntKind.i64 i671)), V.undef]) r659 i660 r661 s662 r664 i665 i666 i667 (fun r663 i668 => ELp51_10 m R n [V.obj [V.f (F.lst [LT.str] r659), V.f (F.lit (Value.int IntKind.u8 i660))], V.own [LT.lst [LT.int IntKind.i64]] r661, V.f (F.lit (Value.string s662)), V.own [LT.int IntKind.i64] r663, V.ref (3 : Nat) (0 : Nat), V.f (F.lst [LT.str] r664), V.f (F.lit (Value.int IntKind.i64 i665)), V.f (F.lit (Value.int IntKind.i64 i666)), V.undef, V.f (F.lit (Value.int IntKind.i64 i667)), V.f (F.lit (Value.int IntKind.i64 i668)), V.undef] k) r663 i668
    | _ => none
def brLp51_10 (m : Nat) (L : LTbl) (R : Type) (vs : List V) (k : Ex → List V → Option R) : Option R := match vs with
  | [V.obj [V.f (F.lst [LT.str] r659), V.f (F.lit (Value.int IntKind.u8 i660))], V.own [LT.lst [LT.int IntKind.i64]] r661, V.f (F.lit (Value.string s662)), V.own [LT.int IntKind.i64] r663, V.ref (3 : Nat) (0 : Nat), V.f (F.lst [LT.str] r664), V.f (F.lit (Value.int IntKind.i64 i665)), V.f (F.lit (Value.int IntKind.i64 i666)), V.undef, V.f (F.lit (Value.int IntKind.i64 i667)), V.f (F.lit (Value.int IntKind.i64 i668)), V.undef] => Lp51_10 m (fun r670 i671 => k (Ex.exit (2 : Nat)) [V.obj [V.f (F.lst [LT.str] r659), V.f (F.lit (Value.int IntKind.u8 i660))], V.own [LT.lst [LT.int IntKind.i64]] r661, V.f (F.lit (Value.string s662)), V.own [LT.int IntKind.i64] r670, V.ref (3 : Nat) (0 : Nat), V.f (F.lst [LT.str] r664), V.f (F.lit (Value.int IntKind.i64 i665)), V.f (F.lit (Value.int IntKind.i64 i666)), V.undef, V.f (F.lit (Value.int IntKind.i64 i667)), V.f (F.lit (Value.int IntKind.i64 i671)), V.undef]) r659 i660 r661 s662 r664 i665 i666 i667 m r663 i668
  | _ => L R 51 10 vs k
set_option maxRecDepth 100000 in
theorem stLp51_10 (m n : Nat) (R : Type) (r659 : Abs.Rows) (i660 : Int) (r661 : Abs.Rows) (s662 : ByteArray) (r663 : Abs.Rows) (r664 : Abs.Rows) (i665 : Int) (i666 : Int) (i667 : Int) (i668 : Int) (k : Ex → List V → Option R) : codeK Tryd.prog H (T38 m) 51 (L28 m) 11 (loopBody Tryd.prog 51 10) (mkEnv [3, 5, 7, 8, 15, 16, 17, 18, 24, 26, 27, 52] [V.obj [V.f (F.lst [LT.str] r659), V.f (F.lit (Value.int IntKind.u8 i660))], V.own [LT.lst [LT.int IntKind.i64]] r661, V.f (F.lit (Value.string s662)), V.own [LT.int IntKind.i64] r663, V.ref (3 : Nat) (0 : Nat), V.f (F.lst [LT.str] r664), V.f (F.lit (Value.int IntKind.i64 i665)), V.f (F.lit (Value.int IntKind.i64 i666)), V.undef, V.f (F.lit (Value.int IntKind.i64 i667)), V.f (F.lit (Value.int IntKind.i64 i668)), V.undef] 0 (H.len 51)) (fun e env' => match e with | .normal => ELp51_10 m R n (vals [3, 5, 7, 8, 15, 16, 17, 18, 24, 26, 27, 52] env') k | e => k e (vals [3, 5, 7, 8, 15, 16, 17, 18, 24, 26, 27, 52] env')) = Lp51_10_step m (fun r670 i671 => k (Ex.exit (2 : Nat)) [V.obj [V.f (F.lst [LT.str] r659), V.f (F.lit (Value.int IntKind.u8 i660))], V.own [LT.lst [LT.int IntKind.i64]] r661, V.f (F.lit (Value.string s662)), V.own [LT.int IntKind.i64] r670, V.ref (3 : Nat) (0 : Nat), V.f (F.lst [LT.str] r664), V.f (F.lit (Value.int IntKind.i64 i665)), V.f (F.lit (Value.int IntKind.i64 i666)), V.undef, V.f (F.lit (Value.int IntKind.i64 i667)), V.f (F.lit (Value.int IntKind.i64 i671)), V.undef]) r659 i660 r661 s662 r664 i665 i666 i667 (fun r663 i668 => ELp51_10 m R n [V.obj [V.f (F.lst [LT.str] r659), V.f (F.lit (Value.int IntKind.u8 i660))], V.own [LT.lst [LT.int IntKind.i64]] r661, V.f (F.lit (Value.string s662)), V.own [LT.int IntKind.i64] r663, V.ref (3 : Nat) (0 : Nat), V.f (F.lst [LT.str] r664), V.f (F.lit (Value.int IntKind.i64 i665)), V.f (F.lit (Value.int IntKind.i64 i666)), V.undef, V.f (F.lit (Value.int IntKind.i64 i667)), V.f (F.lit (Value.int IntKind.i64 i668)), V.undef] k) r663 i668 := by kernel_rfl
theorem eqLp51_10 (m : Nat) (R : Type) (r659 : Abs.Rows) (i660 : Int) (r661 : Abs.Rows) (s662 : ByteArray) (r664 : Abs.Rows) (i665 : Int) (i666 : Int) (i667 : Int) (k : Ex → List V → Option R) : ∀ (n : Nat) (r663 : Abs.Rows) (i668 : Int), ELp51_10 m R n [V.obj [V.f (F.lst [LT.str] r659), V.f (F.lit (Value.int IntKind.u8 i660))], V.own [LT.lst [LT.int IntKind.i64]] r661, V.f (F.lit (Value.string s662)), V.own [LT.int IntKind.i64] r663, V.ref (3 : Nat) (0 : Nat), V.f (F.lst [LT.str] r664), V.f (F.lit (Value.int IntKind.i64 i665)), V.f (F.lit (Value.int IntKind.i64 i666)), V.undef, V.f (F.lit (Value.int IntKind.i64 i667)), V.f (F.lit (Value.int IntKind.i64 i668)), V.undef] k = Lp51_10 m (fun r670 i671 => k (Ex.exit (2 : Nat)) [V.obj [V.f (F.lst [LT.str] r659), V.f (F.lit (Value.int IntKind.u8 i660))], V.own [LT.lst [LT.int IntKind.i64]] r661, V.f (F.lit (Value.string s662)), V.own [LT.int IntKind.i64] r670, V.ref (3 : Nat) (0 : Nat), V.f (F.lst [LT.str] r664), V.f (F.lit (Value.int IntKind.i64 i665)), V.f (F.lit (Value.int IntKind.i64 i666)), V.undef, V.f (F.lit (Value.int IntKind.i64 i667)), V.f (F.lit (Value.int IntKind.i64 i671)), V.undef]) r659 i660 r661 s662 r664 i665 i666 i667 n r663 i668
  | 0, _, _ => rfl
  | n + 1, r663, i668 => by
    simp only [ELp51_10, Lp51_10]
    congr 1
    funext r663 i668
    exact eqLp51_10 m R r659 i660 r661 s662 r664 i665 i666 i667 k n r663 i668
def L29 (m : Nat) : LTbl := addB 51 10 (brLp51_10 m (L28 m)) (L28 m)
theorem okL29 (m : Nat) : LTOk Tryd.prog H (L29 m) := addB_ok (okT38 m) hM (okL28 m) (l := [3, 5, 7, 8, 15, 16, 17, 18, 24, 26, 27, 52]) (by kernel_rfl) (by kernel_rfl) m (fun R n vs k => ELp51_10 m R n vs k) (fun R vs k => rfl) (fun R n vs k x h => by
      simp only [ELp51_10] at h
      split at h
      · exact (stLp51_10 m n R _ _ _ _ _ _ _ _ _ _ k).trans h
      · cases h) fun R vs k x h => by
    unfold brLp51_10 at h
    split at h
    · exact .inl ((eqLp51_10 m R _ _ _ _ _ _ _ _ k m _ _).trans h)
    · exact .inr h

/-- a round of a loop of hookflash/flashref2.places -/
def Lp51_4_step {R : Type} (m : Nat) (kx0 : Abs.Rows → Int → Option R) (r653 : Abs.Rows) (i654 : Int) (r656 : Abs.Rows) (i657 : Int) (REC : Abs.Rows → Int → Option R) (r655 : Abs.Rows) (i658 : Int) : Option R :=
  bif decide (i658 < i657) then (bif decide ((0 : Int) ≤ i658 ∧ i658 < (↑(List.length r656) : Int)) then (Lp51_10 m (fun r672 i673 => bif decide (List.length r655 + List.length [[F.lst [LT.int IntKind.i64] r672]] ≤ rowMax) then (letV (r655 ++ [[F.lst [LT.int IntKind.i64] r672]]) (fun r674 => REC r674 (IntKind.wrap IntKind.i64 (i658 + (1 : Int))))) else
  (none)) r653 i654 r655 (fS r656 (Int.toNat i658) (0 : Nat)) r656 i657 i658 ((↑(ByteArray.size (fS r656 (Int.toNat i658) (0 : Nat))) : Int)) m ([[F.lit (Value.int IntKind.i64 (↑(ByteArray.size (fS r656 (Int.toNat i658) (0 : Nat))) : Int))]]) ((0 : Int))) else
  (none)) else
  (kx0 r655 i658)
def Lp51_4 {R : Type} (m : Nat) (kx0 : Abs.Rows → Int → Option R) (r653 : Abs.Rows) (i654 : Int) (r656 : Abs.Rows) (i657 : Int) : Nat → Abs.Rows → Int → Option R
  | 0, _, _ => none
  | n + 1, r655, i658 => Lp51_4_step m kx0 r653 i654 r656 i657 (Lp51_4 m kx0 r653 i654 r656 i657 n) r655 i658
def ELp51_4 (m : Nat) (R : Type) : Nat → List V → (Ex → List V → Option R) → Option R
  | 0, _, _ => none
  | n + 1, vs, k => match vs with
    | [V.obj [V.f (F.lst [LT.str] r653), V.f (F.lit (Value.int IntKind.u8 i654))], V.own [LT.lst [LT.int IntKind.i64]] r655, V.ref (3 : Nat) (0 : Nat), V.f (F.lst [LT.str] r656), V.f (F.lit (Value.int IntKind.i64 i657)), V.f (F.lit (Value.int IntKind.i64 i658)), V.undef] => Lp51_4_step m (fun r675 i676 => k (Ex.exit (0 : Nat)) [V.obj [V.f (F.lst [LT.str] r653), V.f (F.lit (Value.int IntKind.u8 i654))], V.own [LT.lst [LT.int IntKind.i64]] r675, V.ref (3 : Nat) (0 : Nat), V.f (F.lst [LT.str] r656), V.f (F.lit (Value.int IntKind.i64 i657)), V.f (F.lit (Value.int IntKind.i64 i676)), V.undef]) r653 i654 r656 i657 (fun r655 i658 => ELp51_4 m R n [V.obj [V.f (F.lst [LT.str] r653), V.f (F.lit (Value.int IntKind.u8 i654))], V.own [LT.lst [LT.int IntKind.i64]] r655, V.ref (3 : Nat) (0 : Nat), V.f (F.lst [LT.str] r656), V.f (F.lit (Value.int IntKind.i64 i657)), V.f (F.lit (Value.int IntKind.i64 i658)), V.undef] k) r655 i658
    | _ => none
def brLp51_4 (m : Nat) (L : LTbl) (R : Type) (vs : List V) (k : Ex → List V → Option R) : Option R := match vs with
  | [V.obj [V.f (F.lst [LT.str] r653), V.f (F.lit (Value.int IntKind.u8 i654))], V.own [LT.lst [LT.int IntKind.i64]] r655, V.ref (3 : Nat) (0 : Nat), V.f (F.lst [LT.str] r656), V.f (F.lit (Value.int IntKind.i64 i657)), V.f (F.lit (Value.int IntKind.i64 i658)), V.undef] => Lp51_4 m (fun r675 i676 => k (Ex.exit (0 : Nat)) [V.obj [V.f (F.lst [LT.str] r653), V.f (F.lit (Value.int IntKind.u8 i654))], V.own [LT.lst [LT.int IntKind.i64]] r675, V.ref (3 : Nat) (0 : Nat), V.f (F.lst [LT.str] r656), V.f (F.lit (Value.int IntKind.i64 i657)), V.f (F.lit (Value.int IntKind.i64 i676)), V.undef]) r653 i654 r656 i657 m r655 i658
  | _ => L R 51 4 vs k
set_option maxRecDepth 100000 in
theorem stLp51_4 (m n : Nat) (R : Type) (r653 : Abs.Rows) (i654 : Int) (r655 : Abs.Rows) (r656 : Abs.Rows) (i657 : Int) (i658 : Int) (k : Ex → List V → Option R) : codeK Tryd.prog H (T38 m) 51 (L29 m) 5 (loopBody Tryd.prog 51 4) (mkEnv [3, 5, 15, 16, 17, 18, 52] [V.obj [V.f (F.lst [LT.str] r653), V.f (F.lit (Value.int IntKind.u8 i654))], V.own [LT.lst [LT.int IntKind.i64]] r655, V.ref (3 : Nat) (0 : Nat), V.f (F.lst [LT.str] r656), V.f (F.lit (Value.int IntKind.i64 i657)), V.f (F.lit (Value.int IntKind.i64 i658)), V.undef] 0 (H.len 51)) (fun e env' => match e with | .normal => ELp51_4 m R n (vals [3, 5, 15, 16, 17, 18, 52] env') k | e => k e (vals [3, 5, 15, 16, 17, 18, 52] env')) = Lp51_4_step m (fun r675 i676 => k (Ex.exit (0 : Nat)) [V.obj [V.f (F.lst [LT.str] r653), V.f (F.lit (Value.int IntKind.u8 i654))], V.own [LT.lst [LT.int IntKind.i64]] r675, V.ref (3 : Nat) (0 : Nat), V.f (F.lst [LT.str] r656), V.f (F.lit (Value.int IntKind.i64 i657)), V.f (F.lit (Value.int IntKind.i64 i676)), V.undef]) r653 i654 r656 i657 (fun r655 i658 => ELp51_4 m R n [V.obj [V.f (F.lst [LT.str] r653), V.f (F.lit (Value.int IntKind.u8 i654))], V.own [LT.lst [LT.int IntKind.i64]] r655, V.ref (3 : Nat) (0 : Nat), V.f (F.lst [LT.str] r656), V.f (F.lit (Value.int IntKind.i64 i657)), V.f (F.lit (Value.int IntKind.i64 i658)), V.undef] k) r655 i658 := by kernel_rfl
theorem eqLp51_4 (m : Nat) (R : Type) (r653 : Abs.Rows) (i654 : Int) (r656 : Abs.Rows) (i657 : Int) (k : Ex → List V → Option R) : ∀ (n : Nat) (r655 : Abs.Rows) (i658 : Int), ELp51_4 m R n [V.obj [V.f (F.lst [LT.str] r653), V.f (F.lit (Value.int IntKind.u8 i654))], V.own [LT.lst [LT.int IntKind.i64]] r655, V.ref (3 : Nat) (0 : Nat), V.f (F.lst [LT.str] r656), V.f (F.lit (Value.int IntKind.i64 i657)), V.f (F.lit (Value.int IntKind.i64 i658)), V.undef] k = Lp51_4 m (fun r675 i676 => k (Ex.exit (0 : Nat)) [V.obj [V.f (F.lst [LT.str] r653), V.f (F.lit (Value.int IntKind.u8 i654))], V.own [LT.lst [LT.int IntKind.i64]] r675, V.ref (3 : Nat) (0 : Nat), V.f (F.lst [LT.str] r656), V.f (F.lit (Value.int IntKind.i64 i657)), V.f (F.lit (Value.int IntKind.i64 i676)), V.undef]) r653 i654 r656 i657 n r655 i658
  | 0, _, _ => rfl
  | n + 1, r655, i658 => by
    simp only [ELp51_4, Lp51_4]
    congr 1
    funext r655 i658
    exact eqLp51_4 m R r653 i654 r656 i657 k n r655 i658
def L30 (m : Nat) : LTbl := addB 51 4 (brLp51_4 m (L29 m)) (L29 m)
theorem okL30 (m : Nat) : LTOk Tryd.prog H (L30 m) := addB_ok (okT38 m) hM (okL29 m) (l := [3, 5, 15, 16, 17, 18, 52]) (by kernel_rfl) (by kernel_rfl) m (fun R n vs k => ELp51_4 m R n vs k) (fun R vs k => rfl) (fun R n vs k x h => by
      simp only [ELp51_4] at h
      split at h
      · exact (stLp51_4 m n R _ _ _ _ _ _ k).trans h
      · cases h) fun R vs k x h => by
    unfold brLp51_4 at h
    split at h
    · exact .inl ((eqLp51_4 m R _ _ _ _ k m _ _).trans h)
    · exact .inr h

/-- hookflash/flashref2.places -/
def Fn51 {R : Type} (m : Nat) : ByteArray → (Abs.Rows → Option R) → Option R := match m with
  | 0 => fun _ _ => none
  | m + 1 => fun s649 k =>
  Fn41 m s649 (fun r650 i651 b652 => Lp51_4 m (fun r677 i678 => bif decide (List.length r677 + List.length [[F.lst [LT.int IntKind.i64] [[F.lit (Value.int IntKind.i64 (F.toInt (List.headD (mRow (F.lit (Value.int IntKind.u8 i651)) [F.lit (Value.int IntKind.i64 (0 : Int))] (mPut (F.lit (Value.int IntKind.u8 (33 : Int))) [F.lit (Value.int IntKind.i64 (102 : Int))] (mPut (F.lit (Value.int IntKind.u8 (0 : Int))) [F.lit (Value.int IntKind.i64 (101 : Int))] (mPut (F.lit (Value.int IntKind.u8 (46 : Int))) [F.lit (Value.int IntKind.i64 (100 : Int))] rows0)))) default)))]]]] ≤ rowMax) then (letV (r677 ++ [[F.lst [LT.int IntKind.i64] [[F.lit (Value.int IntKind.i64 (F.toInt (List.headD (mRow (F.lit (Value.int IntKind.u8 i651)) [F.lit (Value.int IntKind.i64 (0 : Int))] (mPut (F.lit (Value.int IntKind.u8 (33 : Int))) [F.lit (Value.int IntKind.i64 (102 : Int))] (mPut (F.lit (Value.int IntKind.u8 (0 : Int))) [F.lit (Value.int IntKind.i64 (101 : Int))] (mPut (F.lit (Value.int IntKind.u8 (46 : Int))) [F.lit (Value.int IntKind.i64 (100 : Int))] rows0)))) default)))]]]]) (fun r679 => k r679)) else
  (none)) r650 i651 r650 ((↑(List.length r650) : Int)) m rows0 ((0 : Int)))
def brFn51 (m : Nat) (T : Tbl) (R : Type) (vs : List V) (k : V → List V → Option R) : Option R := match vs with
  | [V.f (F.lit (Value.string s649))] => Fn51 m s649 (fun r680 => k (V.own [LT.lst [LT.int IntKind.i64]] r680) [V.undef])
  | _ => T R 51 vs k
set_option maxRecDepth 100000 in
theorem evFn51 (m : Nat) (R : Type) (s649 : ByteArray) (k : V → List V → Option R) : runK Tryd.prog H (T38 m) (L30 m) 51 [V.f (F.lit (Value.string s649))] k = Fn51 (m + 1) s649 (fun r680 => k (V.own [LT.lst [LT.int IntKind.i64]] r680) [V.undef]) := by kernel_rfl
def T39 (m : Nat) : Tbl := addT 51 (brFn51 m (T38 m)) (T38 m)
theorem okT39 (m : Nat) : TblOk Tryd.prog (T39 m) := addT_ok (okT38 m) fun R vs k x h => by
  unfold brFn51 at h
  split at h
  · cases m with
    | zero => cases h
    | succ m => exact runK_some (okT38 m) hM (okL30 m) ((evFn51 m R _ k).trans h)
  · exact okT38 m R 51 _ k x h


end Go.Proofs.YtngjadgglbkjlaaDoor.Med
end
